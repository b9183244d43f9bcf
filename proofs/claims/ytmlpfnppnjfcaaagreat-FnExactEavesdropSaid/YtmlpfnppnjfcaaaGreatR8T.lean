/-
  Facts on the types of this translation, laid by program.
-/
import Derived.Test.YtmlpfnppnjfcaaaGreatAmZc
import Derived.Test.YtmlpfnppnjfcaaaGreatAmO
import Derived.Test.YtmlpfnppnjfcaaaGreatProg
namespace Go.AM
open Go.Proofs
theorem info_n {P : Program} {t : TypeId} {n : Nat} (h : (P.info? t).map (·.size) = some n) : ∃ i, P.info? t = some i ∧ i.size = n := by
  cases hi : P.info? t with
  | none => simp [hi] at h
  | some i => simp [hi] at h; exact ⟨i, rfl, h⟩
theorem info_z {P : Program} {t : TypeId} {z : Value} (h : (P.info? t).map (·.zero) = some (some z)) : ∃ i, P.info? t = some i ∧ i.zero = some z := by
  cases hi : P.info? t with
  | none => simp [hi] at h
  | some i => simp [hi] at h; exact ⟨i, rfl, h⟩
theorem info_s {P : Program} {t : TypeId} {z : Value} {n b : Nat} (h : (P.info? t).map (fun i => (i.size, i.bytes, i.zero)) = some (n, b, some z)) (hz : z.cells.size = n) : ∃ i z, P.info? t = some i ∧ i.size = n ∧ i.bytes = b ∧ i.zero = some z ∧ z.cells.size = n := by
  cases hi : P.info? t with
  | none => simp [hi] at h
  | some i => simp [hi] at h; exact ⟨i, z, rfl, h.1, h.2.1, h.2.2, hz⟩
theorem info_f {P : Program} {t : TypeId} {n : Nat} (h : (P.info? t).map (·.size) = some n) (hn : n ≠ 0) : ∃ i, P.info? t = some i ∧ i.size ≠ 0 := by
  cases hi : P.info? t with
  | none => simp [hi] at h
  | some i => simp [hi] at h; exact ⟨i, rfl, by omega⟩
-- 3: int
instance : TyN Tryz.prog 3 1 := ⟨info_n (by kernel_rfl)⟩
instance : TySc Tryz.prog 3 := ⟨fun w => by kernel_rfl, info_n (by kernel_rfl)⟩
instance : TyU Tryz.prog 3 (.int .i64) := ⟨Tryz.underlying3⟩
theorem Tryz.z3 : (Tryz.prog.info? 3).map (·.zero) = some (some (.int .i64 0)) := by kernel_rfl
instance : TyZ Tryz.prog 3 [.d false (.i .i64 0)] := ⟨by obtain ⟨i, h1, h2⟩ := info_z Tryz.z3; exact ⟨i, _, h1, h2, rfl⟩⟩
instance : TyE Tryz.prog 3 [.i .i64 0] := ⟨by obtain ⟨i, h1, h2⟩ := info_z Tryz.z3; exact ⟨i, _, h1, h2, rfl⟩⟩
-- 4: bool
instance : TyN Tryz.prog 4 1 := ⟨info_n (by kernel_rfl)⟩
instance : TySc Tryz.prog 4 := ⟨fun w => by kernel_rfl, info_n (by kernel_rfl)⟩
instance : TyU Tryz.prog 4 (.bool) := ⟨Tryz.underlying4⟩
theorem Tryz.z4 : (Tryz.prog.info? 4).map (·.zero) = some (some (.bool false)) := by kernel_rfl
instance : TyZ Tryz.prog 4 [.d false (.b false)] := ⟨by obtain ⟨i, h1, h2⟩ := info_z Tryz.z4; exact ⟨i, _, h1, h2, rfl⟩⟩
instance : TyE Tryz.prog 4 [.b false] := ⟨by obtain ⟨i, h1, h2⟩ := info_z Tryz.z4; exact ⟨i, _, h1, h2, rfl⟩⟩
-- 5: uint8
instance : TyN Tryz.prog 5 1 := ⟨info_n (by kernel_rfl)⟩
instance : TySc Tryz.prog 5 := ⟨fun w => by kernel_rfl, info_n (by kernel_rfl)⟩
instance : TyU Tryz.prog 5 (.int .u8) := ⟨Tryz.underlying5⟩
theorem Tryz.z5 : (Tryz.prog.info? 5).map (·.zero) = some (some (.int .u8 0)) := by kernel_rfl
instance : TyZ Tryz.prog 5 [.d false (.i .u8 0)] := ⟨by obtain ⟨i, h1, h2⟩ := info_z Tryz.z5; exact ⟨i, _, h1, h2, rfl⟩⟩
instance : TyE Tryz.prog 5 [.i .u8 0] := ⟨by obtain ⟨i, h1, h2⟩ := info_z Tryz.z5; exact ⟨i, _, h1, h2, rfl⟩⟩
-- 9: string
instance : TyN Tryz.prog 9 1 := ⟨info_n (by kernel_rfl)⟩
instance : TySc Tryz.prog 9 := ⟨fun w => by kernel_rfl, info_n (by kernel_rfl)⟩
instance : TyU Tryz.prog 9 (.string) := ⟨Tryz.underlying9⟩
theorem Tryz.z9 : (Tryz.prog.info? 9).map (·.zero) = some (some (.string ⟨#[]⟩)) := by kernel_rfl
instance : TyZ Tryz.prog 9 [.d false (.str ⟨#[]⟩)] := ⟨by obtain ⟨i, h1, h2⟩ := info_z Tryz.z9; exact ⟨i, _, h1, h2, rfl⟩⟩
instance : TyE Tryz.prog 9 [.str ⟨#[]⟩] := ⟨by obtain ⟨i, h1, h2⟩ := info_z Tryz.z9; exact ⟨i, _, h1, h2, rfl⟩⟩
-- 22: []uint8
instance : TyN Tryz.prog 22 1 := ⟨info_n (by kernel_rfl)⟩
instance : TySc Tryz.prog 22 := ⟨fun w => by kernel_rfl, info_n (by kernel_rfl)⟩
theorem Tryz.z22 : (Tryz.prog.info? 22).map (·.zero) = some (some (.slice none 0 0)) := by kernel_rfl
instance : TyZ Tryz.prog 22 [.nil] := ⟨by obtain ⟨i, h1, h2⟩ := info_z Tryz.z22; exact ⟨i, _, h1, h2, rfl⟩⟩
instance : TyE Tryz.prog 22 [.l []] := ⟨by obtain ⟨i, h1, h2⟩ := info_z Tryz.z22; exact ⟨i, _, h1, h2, rfl⟩⟩
instance : TySl Tryz.prog 22 5 1 1 := ⟨Tryz.underlying22, info_s (z := .int .u8 0) (by kernel_rfl) rfl, by decide⟩
-- 24: []impl.Cell
instance : TyN Tryz.prog 24 1 := ⟨info_n (by kernel_rfl)⟩
instance : TySc Tryz.prog 24 := ⟨fun w => by kernel_rfl, info_n (by kernel_rfl)⟩
theorem Tryz.z24 : (Tryz.prog.info? 24).map (·.zero) = some (some (.slice none 0 0)) := by kernel_rfl
instance : TyZ Tryz.prog 24 [.nil] := ⟨by obtain ⟨i, h1, h2⟩ := info_z Tryz.z24; exact ⟨i, _, h1, h2, rfl⟩⟩
instance : TyE Tryz.prog 24 [.l []] := ⟨by obtain ⟨i, h1, h2⟩ := info_z Tryz.z24; exact ⟨i, _, h1, h2, rfl⟩⟩
instance : TySl Tryz.prog 24 166 2 32 := ⟨Tryz.underlying24, info_s (z := .agg #[.int .i64 0, .slice none 0 0]) (by kernel_rfl) rfl, by decide⟩
-- 26: impl.CellMap
instance : TyN Tryz.prog 26 1 := ⟨info_n (by kernel_rfl)⟩
instance : TyAg Tryz.prog 26 1 := ⟨fun w => by kernel_rfl, info_n (by kernel_rfl)⟩
theorem Tryz.z26 : (Tryz.prog.info? 26).map (·.zero) = some (some (.agg #[.slice none 0 0])) := by kernel_rfl
instance : TyZ Tryz.prog 26 [.nil] := ⟨by obtain ⟨i, h1, h2⟩ := info_z Tryz.z26; exact ⟨i, _, h1, h2, rfl⟩⟩
instance : TyE Tryz.prog 26 [.l []] := ⟨by obtain ⟨i, h1, h2⟩ := info_z Tryz.z26; exact ⟨i, _, h1, h2, rfl⟩⟩
instance : TyB Tryz.prog 26 [(0, 1)] := ⟨_, Tryz.underlying26, fun w => by kernel_rfl⟩
instance : TyF Tryz.prog 26 0 0 24 := ⟨_, _, Tryz.underlying26, rfl, rfl, rfl, info_f (n := 1) (by kernel_rfl) (by decide)⟩
-- 27: []impl.SubscriberRecord
instance : TyN Tryz.prog 27 1 := ⟨info_n (by kernel_rfl)⟩
instance : TySc Tryz.prog 27 := ⟨fun w => by kernel_rfl, info_n (by kernel_rfl)⟩
theorem Tryz.z27 : (Tryz.prog.info? 27).map (·.zero) = some (some (.slice none 0 0)) := by kernel_rfl
instance : TyZ Tryz.prog 27 [.nil] := ⟨by obtain ⟨i, h1, h2⟩ := info_z Tryz.z27; exact ⟨i, _, h1, h2, rfl⟩⟩
instance : TyE Tryz.prog 27 [.l []] := ⟨by obtain ⟨i, h1, h2⟩ := info_z Tryz.z27; exact ⟨i, _, h1, h2, rfl⟩⟩
instance : TySl Tryz.prog 27 54 4 32 := ⟨Tryz.underlying27, info_s (z := .agg #[.int .i64 0, .int .i64 0, .int .i64 0, .int .i64 0]) (by kernel_rfl) rfl, by decide⟩
-- 28: []int
instance : TyN Tryz.prog 28 1 := ⟨info_n (by kernel_rfl)⟩
instance : TySc Tryz.prog 28 := ⟨fun w => by kernel_rfl, info_n (by kernel_rfl)⟩
theorem Tryz.z28 : (Tryz.prog.info? 28).map (·.zero) = some (some (.slice none 0 0)) := by kernel_rfl
instance : TyZ Tryz.prog 28 [.nil] := ⟨by obtain ⟨i, h1, h2⟩ := info_z Tryz.z28; exact ⟨i, _, h1, h2, rfl⟩⟩
instance : TyE Tryz.prog 28 [.l []] := ⟨by obtain ⟨i, h1, h2⟩ := info_z Tryz.z28; exact ⟨i, _, h1, h2, rfl⟩⟩
instance : TySl Tryz.prog 28 3 1 8 := ⟨Tryz.underlying28, info_s (z := .int .i64 0) (by kernel_rfl) rfl, by decide⟩
-- 30: impl.Subscription
instance : TyN Tryz.prog 30 4 := ⟨info_n (by kernel_rfl)⟩
instance : TyAg Tryz.prog 30 4 := ⟨fun w => by kernel_rfl, info_n (by kernel_rfl)⟩
theorem Tryz.z30 : (Tryz.prog.info? 30).map (·.zero) = some (some (.agg #[.int .i64 0, .int .i64 0, .int .i64 0, .slice none 0 0])) := by kernel_rfl
instance : TyZ Tryz.prog 30 [.d false (.i .i64 0), .d false (.i .i64 0), .d false (.i .i64 0), .nil] := ⟨by obtain ⟨i, h1, h2⟩ := info_z Tryz.z30; exact ⟨i, _, h1, h2, rfl⟩⟩
instance : TyE Tryz.prog 30 [.i .i64 0, .i .i64 0, .i .i64 0, .l []] := ⟨by obtain ⟨i, h1, h2⟩ := info_z Tryz.z30; exact ⟨i, _, h1, h2, rfl⟩⟩
instance : TyB Tryz.prog 30 [(0, 1), (1, 1), (2, 1), (3, 1)] := ⟨_, Tryz.underlying30, fun w => by kernel_rfl⟩
instance : TyF Tryz.prog 30 0 0 3 := ⟨_, _, Tryz.underlying30, rfl, rfl, rfl, info_f (n := 1) (by kernel_rfl) (by decide)⟩
instance : TyF Tryz.prog 30 1 1 3 := ⟨_, _, Tryz.underlying30, rfl, rfl, rfl, info_f (n := 1) (by kernel_rfl) (by decide)⟩
instance : TyF Tryz.prog 30 2 2 3 := ⟨_, _, Tryz.underlying30, rfl, rfl, rfl, info_f (n := 1) (by kernel_rfl) (by decide)⟩
instance : TyF Tryz.prog 30 3 3 28 := ⟨_, _, Tryz.underlying30, rfl, rfl, rfl, info_f (n := 1) (by kernel_rfl) (by decide)⟩
-- 33: []impl.Device
instance : TyN Tryz.prog 33 1 := ⟨info_n (by kernel_rfl)⟩
instance : TySc Tryz.prog 33 := ⟨fun w => by kernel_rfl, info_n (by kernel_rfl)⟩
theorem Tryz.z33 : (Tryz.prog.info? 33).map (·.zero) = some (some (.slice none 0 0)) := by kernel_rfl
instance : TyZ Tryz.prog 33 [.nil] := ⟨by obtain ⟨i, h1, h2⟩ := info_z Tryz.z33; exact ⟨i, _, h1, h2, rfl⟩⟩
instance : TyE Tryz.prog 33 [.l []] := ⟨by obtain ⟨i, h1, h2⟩ := info_z Tryz.z33; exact ⟨i, _, h1, h2, rfl⟩⟩
instance : TySl Tryz.prog 33 52 14 144 := ⟨Tryz.underlying33, info_s (z := .agg #[.int .i64 0, .int .i64 0, .int .i64 0, .int .i64 0, .int .i64 0, .int .i64 0, .int .i64 0, .int .i64 0, .int .i64 0, .bool false, .int .i64 0, .int .i64 0, .slice none 0 0, .slice none 0 0]) (by kernel_rfl) rfl, by decide⟩
-- 34: []impl.Session
instance : TyN Tryz.prog 34 1 := ⟨info_n (by kernel_rfl)⟩
instance : TySc Tryz.prog 34 := ⟨fun w => by kernel_rfl, info_n (by kernel_rfl)⟩
theorem Tryz.z34 : (Tryz.prog.info? 34).map (·.zero) = some (some (.slice none 0 0)) := by kernel_rfl
instance : TyZ Tryz.prog 34 [.nil] := ⟨by obtain ⟨i, h1, h2⟩ := info_z Tryz.z34; exact ⟨i, _, h1, h2, rfl⟩⟩
instance : TyE Tryz.prog 34 [.l []] := ⟨by obtain ⟨i, h1, h2⟩ := info_z Tryz.z34; exact ⟨i, _, h1, h2, rfl⟩⟩
instance : TySl Tryz.prog 34 65 30 288 := ⟨Tryz.underlying34, info_s (z := .agg #[.int .i64 0, .int .i64 0, .int .i64 0, .int .i64 0, .int .i64 0, .int .i64 0, .int .i64 0, .slice none 0 0, .int .i64 0, .int .i64 0, .int .i64 0, .int .i64 0, .int .i64 0, .int .i64 0, .int .i64 0, .int .i64 0, .int .i64 0, .int .i64 0, .int .i64 0, .int .i64 0, .int .i64 0, .int .i64 0, .int .i64 0, .slice none 0 0, .int .i64 0, .slice none 0 0, .int .i64 0, .int .i64 0, .int .i64 0, .int .i64 0]) (by kernel_rfl) rfl, by decide⟩
-- 35: []impl.Account
instance : TyN Tryz.prog 35 1 := ⟨info_n (by kernel_rfl)⟩
instance : TySc Tryz.prog 35 := ⟨fun w => by kernel_rfl, info_n (by kernel_rfl)⟩
theorem Tryz.z35 : (Tryz.prog.info? 35).map (·.zero) = some (some (.slice none 0 0)) := by kernel_rfl
instance : TyZ Tryz.prog 35 [.nil] := ⟨by obtain ⟨i, h1, h2⟩ := info_z Tryz.z35; exact ⟨i, _, h1, h2, rfl⟩⟩
instance : TyE Tryz.prog 35 [.l []] := ⟨by obtain ⟨i, h1, h2⟩ := info_z Tryz.z35; exact ⟨i, _, h1, h2, rfl⟩⟩
instance : TySl Tryz.prog 35 68 4 48 := ⟨Tryz.underlying35, info_s (z := .agg #[.int .i64 0, .int .i64 0, .int .i64 0, .slice none 0 0]) (by kernel_rfl) rfl, by decide⟩
-- 36: []impl.Flight
instance : TyN Tryz.prog 36 1 := ⟨info_n (by kernel_rfl)⟩
instance : TySc Tryz.prog 36 := ⟨fun w => by kernel_rfl, info_n (by kernel_rfl)⟩
theorem Tryz.z36 : (Tryz.prog.info? 36).map (·.zero) = some (some (.slice none 0 0)) := by kernel_rfl
instance : TyZ Tryz.prog 36 [.nil] := ⟨by obtain ⟨i, h1, h2⟩ := info_z Tryz.z36; exact ⟨i, _, h1, h2, rfl⟩⟩
instance : TyE Tryz.prog 36 [.l []] := ⟨by obtain ⟨i, h1, h2⟩ := info_z Tryz.z36; exact ⟨i, _, h1, h2, rfl⟩⟩
instance : TySl Tryz.prog 36 120 21 176 := ⟨Tryz.underlying36, info_s (z := .agg #[.int .i64 0, .bool false, .bool false, .int .i64 0, .int .i64 0, .int .i64 0, .int .i64 0, .int .i64 0, .int .i64 0, .int .i64 0, .int .i64 0, .int .i64 0, .int .i64 0, .int .i64 0, .int .i64 0, .int .i64 0, .int .i64 0, .int .i64 0, .int .i64 0, .slice none 0 0, .int .i64 0]) (by kernel_rfl) rfl, by decide⟩
-- 38: impl.ServerPool
instance : TyN Tryz.prog 38 2 := ⟨info_n (by kernel_rfl)⟩
instance : TyAg Tryz.prog 38 2 := ⟨fun w => by kernel_rfl, info_n (by kernel_rfl)⟩
theorem Tryz.z38 : (Tryz.prog.info? 38).map (·.zero) = some (some (.agg #[.int .i64 0, .int .i64 0])) := by kernel_rfl
instance : TyZ Tryz.prog 38 [.d false (.i .i64 0), .d false (.i .i64 0)] := ⟨by obtain ⟨i, h1, h2⟩ := info_z Tryz.z38; exact ⟨i, _, h1, h2, rfl⟩⟩
instance : TyE Tryz.prog 38 [.i .i64 0, .i .i64 0] := ⟨by obtain ⟨i, h1, h2⟩ := info_z Tryz.z38; exact ⟨i, _, h1, h2, rfl⟩⟩
instance : TyB Tryz.prog 38 [(0, 1), (1, 1)] := ⟨_, Tryz.underlying38, fun w => by kernel_rfl⟩
instance : TyF Tryz.prog 38 0 0 3 := ⟨_, _, Tryz.underlying38, rfl, rfl, rfl, info_f (n := 1) (by kernel_rfl) (by decide)⟩
instance : TyF Tryz.prog 38 1 1 3 := ⟨_, _, Tryz.underlying38, rfl, rfl, rfl, info_f (n := 1) (by kernel_rfl) (by decide)⟩
-- 40: impl.Network
instance : TyN Tryz.prog 40 10 := ⟨info_n (by kernel_rfl)⟩
instance : TyAg Tryz.prog 40 10 := ⟨fun w => by kernel_rfl, info_n (by kernel_rfl)⟩
theorem Tryz.z40 : (Tryz.prog.info? 40).map (·.zero) = some (some (.agg #[.slice none 0 0, .slice none 0 0, .slice none 0 0, .slice none 0 0, .slice none 0 0, .int .i64 0, .int .i64 0, .int .i64 0, .int .i64 0, .int .i64 0])) := by kernel_rfl
instance : TyZ Tryz.prog 40 [.nil, .nil, .nil, .nil, .nil, .d false (.i .i64 0), .d false (.i .i64 0), .d false (.i .i64 0), .d false (.i .i64 0), .d false (.i .i64 0)] := ⟨by obtain ⟨i, h1, h2⟩ := info_z Tryz.z40; exact ⟨i, _, h1, h2, rfl⟩⟩
instance : TyE Tryz.prog 40 [.l [], .l [], .l [], .l [], .l [], .i .i64 0, .i .i64 0, .i .i64 0, .i .i64 0, .i .i64 0] := ⟨by obtain ⟨i, h1, h2⟩ := info_z Tryz.z40; exact ⟨i, _, h1, h2, rfl⟩⟩
instance : TyB Tryz.prog 40 [(0, 1), (1, 1), (2, 1), (3, 1), (4, 1), (5, 1), (6, 2), (8, 1), (9, 1)] := ⟨_, Tryz.underlying40, fun w => by kernel_rfl⟩
instance : TyF Tryz.prog 40 0 0 26 := ⟨_, _, Tryz.underlying40, rfl, rfl, rfl, info_f (n := 1) (by kernel_rfl) (by decide)⟩
instance : TyF Tryz.prog 40 1 1 33 := ⟨_, _, Tryz.underlying40, rfl, rfl, rfl, info_f (n := 1) (by kernel_rfl) (by decide)⟩
instance : TyF Tryz.prog 40 2 2 34 := ⟨_, _, Tryz.underlying40, rfl, rfl, rfl, info_f (n := 1) (by kernel_rfl) (by decide)⟩
instance : TyF Tryz.prog 40 3 3 35 := ⟨_, _, Tryz.underlying40, rfl, rfl, rfl, info_f (n := 1) (by kernel_rfl) (by decide)⟩
instance : TyF Tryz.prog 40 4 4 36 := ⟨_, _, Tryz.underlying40, rfl, rfl, rfl, info_f (n := 1) (by kernel_rfl) (by decide)⟩
instance : TyF Tryz.prog 40 5 5 3 := ⟨_, _, Tryz.underlying40, rfl, rfl, rfl, info_f (n := 1) (by kernel_rfl) (by decide)⟩
instance : TyF Tryz.prog 40 6 6 38 := ⟨_, _, Tryz.underlying40, rfl, rfl, rfl, info_f (n := 2) (by kernel_rfl) (by decide)⟩
instance : TyF Tryz.prog 40 7 8 3 := ⟨_, _, Tryz.underlying40, rfl, rfl, rfl, info_f (n := 1) (by kernel_rfl) (by decide)⟩
instance : TyF Tryz.prog 40 8 9 3 := ⟨_, _, Tryz.underlying40, rfl, rfl, rfl, info_f (n := 1) (by kernel_rfl) (by decide)⟩
-- 44: impl.SubscriberID
instance : TyN Tryz.prog 44 2 := ⟨info_n (by kernel_rfl)⟩
instance : TyAg Tryz.prog 44 2 := ⟨fun w => by kernel_rfl, info_n (by kernel_rfl)⟩
theorem Tryz.z44 : (Tryz.prog.info? 44).map (·.zero) = some (some (.agg #[.int .i64 0, .int .i64 0])) := by kernel_rfl
instance : TyZ Tryz.prog 44 [.d false (.i .i64 0), .d false (.i .i64 0)] := ⟨by obtain ⟨i, h1, h2⟩ := info_z Tryz.z44; exact ⟨i, _, h1, h2, rfl⟩⟩
instance : TyE Tryz.prog 44 [.i .i64 0, .i .i64 0] := ⟨by obtain ⟨i, h1, h2⟩ := info_z Tryz.z44; exact ⟨i, _, h1, h2, rfl⟩⟩
instance : TyB Tryz.prog 44 [(0, 1), (1, 1)] := ⟨_, Tryz.underlying44, fun w => by kernel_rfl⟩
instance : TyF Tryz.prog 44 0 0 3 := ⟨_, _, Tryz.underlying44, rfl, rfl, rfl, info_f (n := 1) (by kernel_rfl) (by decide)⟩
instance : TyF Tryz.prog 44 1 1 3 := ⟨_, _, Tryz.underlying44, rfl, rfl, rfl, info_f (n := 1) (by kernel_rfl) (by decide)⟩
-- 46: impl.USIM
instance : TyN Tryz.prog 46 4 := ⟨info_n (by kernel_rfl)⟩
instance : TyAg Tryz.prog 46 4 := ⟨fun w => by kernel_rfl, info_n (by kernel_rfl)⟩
theorem Tryz.z46 : (Tryz.prog.info? 46).map (·.zero) = some (some (.agg #[.int .i64 0, .int .i64 0, .int .i64 0, .int .i64 0])) := by kernel_rfl
instance : TyZ Tryz.prog 46 [.d false (.i .i64 0), .d false (.i .i64 0), .d false (.i .i64 0), .d false (.i .i64 0)] := ⟨by obtain ⟨i, h1, h2⟩ := info_z Tryz.z46; exact ⟨i, _, h1, h2, rfl⟩⟩
instance : TyE Tryz.prog 46 [.i .i64 0, .i .i64 0, .i .i64 0, .i .i64 0] := ⟨by obtain ⟨i, h1, h2⟩ := info_z Tryz.z46; exact ⟨i, _, h1, h2, rfl⟩⟩
instance : TyB Tryz.prog 46 [(0, 2), (2, 1), (3, 1)] := ⟨_, Tryz.underlying46, fun w => by kernel_rfl⟩
instance : TyF Tryz.prog 46 0 0 44 := ⟨_, _, Tryz.underlying46, rfl, rfl, rfl, info_f (n := 2) (by kernel_rfl) (by decide)⟩
instance : TyF Tryz.prog 46 1 2 3 := ⟨_, _, Tryz.underlying46, rfl, rfl, rfl, info_f (n := 1) (by kernel_rfl) (by decide)⟩
instance : TyF Tryz.prog 46 2 3 3 := ⟨_, _, Tryz.underlying46, rfl, rfl, rfl, info_f (n := 1) (by kernel_rfl) (by decide)⟩
-- 47: []impl.NumberedPacket
instance : TyN Tryz.prog 47 1 := ⟨info_n (by kernel_rfl)⟩
instance : TySc Tryz.prog 47 := ⟨fun w => by kernel_rfl, info_n (by kernel_rfl)⟩
theorem Tryz.z47 : (Tryz.prog.info? 47).map (·.zero) = some (some (.slice none 0 0)) := by kernel_rfl
instance : TyZ Tryz.prog 47 [.nil] := ⟨by obtain ⟨i, h1, h2⟩ := info_z Tryz.z47; exact ⟨i, _, h1, h2, rfl⟩⟩
instance : TyE Tryz.prog 47 [.l []] := ⟨by obtain ⟨i, h1, h2⟩ := info_z Tryz.z47; exact ⟨i, _, h1, h2, rfl⟩⟩
instance : TySl Tryz.prog 47 136 2 32 := ⟨Tryz.underlying47, info_s (z := .agg #[.int .i64 0, .slice none 0 0]) (by kernel_rfl) rfl, by decide⟩
-- 48: []impl.Payload
instance : TyN Tryz.prog 48 1 := ⟨info_n (by kernel_rfl)⟩
instance : TySc Tryz.prog 48 := ⟨fun w => by kernel_rfl, info_n (by kernel_rfl)⟩
theorem Tryz.z48 : (Tryz.prog.info? 48).map (·.zero) = some (some (.slice none 0 0)) := by kernel_rfl
instance : TyZ Tryz.prog 48 [.nil] := ⟨by obtain ⟨i, h1, h2⟩ := info_z Tryz.z48; exact ⟨i, _, h1, h2, rfl⟩⟩
instance : TyE Tryz.prog 48 [.l []] := ⟨by obtain ⟨i, h1, h2⟩ := info_z Tryz.z48; exact ⟨i, _, h1, h2, rfl⟩⟩
instance : TySl Tryz.prog 48 255 1 24 := ⟨Tryz.underlying48, info_s (z := .agg #[.slice none 0 0]) (by kernel_rfl) rfl, by decide⟩
-- 50: impl.ReceiveWindow
instance : TyN Tryz.prog 50 3 := ⟨info_n (by kernel_rfl)⟩
instance : TyAg Tryz.prog 50 3 := ⟨fun w => by kernel_rfl, info_n (by kernel_rfl)⟩
theorem Tryz.z50 : (Tryz.prog.info? 50).map (·.zero) = some (some (.agg #[.int .i64 0, .slice none 0 0, .slice none 0 0])) := by kernel_rfl
instance : TyZ Tryz.prog 50 [.d false (.i .i64 0), .nil, .nil] := ⟨by obtain ⟨i, h1, h2⟩ := info_z Tryz.z50; exact ⟨i, _, h1, h2, rfl⟩⟩
instance : TyE Tryz.prog 50 [.i .i64 0, .l [], .l []] := ⟨by obtain ⟨i, h1, h2⟩ := info_z Tryz.z50; exact ⟨i, _, h1, h2, rfl⟩⟩
instance : TyB Tryz.prog 50 [(0, 1), (1, 1), (2, 1)] := ⟨_, Tryz.underlying50, fun w => by kernel_rfl⟩
instance : TyF Tryz.prog 50 0 0 3 := ⟨_, _, Tryz.underlying50, rfl, rfl, rfl, info_f (n := 1) (by kernel_rfl) (by decide)⟩
instance : TyF Tryz.prog 50 1 1 47 := ⟨_, _, Tryz.underlying50, rfl, rfl, rfl, info_f (n := 1) (by kernel_rfl) (by decide)⟩
instance : TyF Tryz.prog 50 2 2 48 := ⟨_, _, Tryz.underlying50, rfl, rfl, rfl, info_f (n := 1) (by kernel_rfl) (by decide)⟩
-- 52: impl.Device
instance : TyN Tryz.prog 52 14 := ⟨info_n (by kernel_rfl)⟩
instance : TyAg Tryz.prog 52 14 := ⟨fun w => by kernel_rfl, info_n (by kernel_rfl)⟩
theorem Tryz.z52 : (Tryz.prog.info? 52).map (·.zero) = some (some (.agg #[.int .i64 0, .int .i64 0, .int .i64 0, .int .i64 0, .int .i64 0, .int .i64 0, .int .i64 0, .int .i64 0, .int .i64 0, .bool false, .int .i64 0, .int .i64 0, .slice none 0 0, .slice none 0 0])) := by kernel_rfl
instance : TyZ Tryz.prog 52 [.d false (.i .i64 0), .d false (.i .i64 0), .d false (.i .i64 0), .d false (.i .i64 0), .d false (.i .i64 0), .d false (.i .i64 0), .d false (.i .i64 0), .d false (.i .i64 0), .d false (.i .i64 0), .d false (.b false), .d false (.i .i64 0), .d false (.i .i64 0), .nil, .nil] := ⟨by obtain ⟨i, h1, h2⟩ := info_z Tryz.z52; exact ⟨i, _, h1, h2, rfl⟩⟩
instance : TyE Tryz.prog 52 [.i .i64 0, .i .i64 0, .i .i64 0, .i .i64 0, .i .i64 0, .i .i64 0, .i .i64 0, .i .i64 0, .i .i64 0, .b false, .i .i64 0, .i .i64 0, .l [], .l []] := ⟨by obtain ⟨i, h1, h2⟩ := info_z Tryz.z52; exact ⟨i, _, h1, h2, rfl⟩⟩
instance : TyB Tryz.prog 52 [(0, 4), (4, 1), (5, 1), (6, 1), (7, 1), (8, 1), (9, 1), (10, 1), (11, 3)] := ⟨_, Tryz.underlying52, fun w => by kernel_rfl⟩
instance : TyF Tryz.prog 52 0 0 46 := ⟨_, _, Tryz.underlying52, rfl, rfl, rfl, info_f (n := 4) (by kernel_rfl) (by decide)⟩
instance : TyF Tryz.prog 52 1 4 3 := ⟨_, _, Tryz.underlying52, rfl, rfl, rfl, info_f (n := 1) (by kernel_rfl) (by decide)⟩
instance : TyF Tryz.prog 52 2 5 3 := ⟨_, _, Tryz.underlying52, rfl, rfl, rfl, info_f (n := 1) (by kernel_rfl) (by decide)⟩
instance : TyF Tryz.prog 52 3 6 3 := ⟨_, _, Tryz.underlying52, rfl, rfl, rfl, info_f (n := 1) (by kernel_rfl) (by decide)⟩
instance : TyF Tryz.prog 52 4 7 3 := ⟨_, _, Tryz.underlying52, rfl, rfl, rfl, info_f (n := 1) (by kernel_rfl) (by decide)⟩
instance : TyF Tryz.prog 52 5 8 3 := ⟨_, _, Tryz.underlying52, rfl, rfl, rfl, info_f (n := 1) (by kernel_rfl) (by decide)⟩
instance : TyF Tryz.prog 52 6 9 4 := ⟨_, _, Tryz.underlying52, rfl, rfl, rfl, info_f (n := 1) (by kernel_rfl) (by decide)⟩
instance : TyF Tryz.prog 52 7 10 3 := ⟨_, _, Tryz.underlying52, rfl, rfl, rfl, info_f (n := 1) (by kernel_rfl) (by decide)⟩
instance : TyF Tryz.prog 52 8 11 50 := ⟨_, _, Tryz.underlying52, rfl, rfl, rfl, info_f (n := 3) (by kernel_rfl) (by decide)⟩
-- 54: impl.SubscriberRecord
instance : TyN Tryz.prog 54 4 := ⟨info_n (by kernel_rfl)⟩
instance : TyAg Tryz.prog 54 4 := ⟨fun w => by kernel_rfl, info_n (by kernel_rfl)⟩
theorem Tryz.z54 : (Tryz.prog.info? 54).map (·.zero) = some (some (.agg #[.int .i64 0, .int .i64 0, .int .i64 0, .int .i64 0])) := by kernel_rfl
instance : TyZ Tryz.prog 54 [.d false (.i .i64 0), .d false (.i .i64 0), .d false (.i .i64 0), .d false (.i .i64 0)] := ⟨by obtain ⟨i, h1, h2⟩ := info_z Tryz.z54; exact ⟨i, _, h1, h2, rfl⟩⟩
instance : TyE Tryz.prog 54 [.i .i64 0, .i .i64 0, .i .i64 0, .i .i64 0] := ⟨by obtain ⟨i, h1, h2⟩ := info_z Tryz.z54; exact ⟨i, _, h1, h2, rfl⟩⟩
instance : TyB Tryz.prog 54 [(0, 2), (2, 1), (3, 1)] := ⟨_, Tryz.underlying54, fun w => by kernel_rfl⟩
instance : TyF Tryz.prog 54 0 0 44 := ⟨_, _, Tryz.underlying54, rfl, rfl, rfl, info_f (n := 2) (by kernel_rfl) (by decide)⟩
instance : TyF Tryz.prog 54 1 2 3 := ⟨_, _, Tryz.underlying54, rfl, rfl, rfl, info_f (n := 1) (by kernel_rfl) (by decide)⟩
instance : TyF Tryz.prog 54 2 3 3 := ⟨_, _, Tryz.underlying54, rfl, rfl, rfl, info_f (n := 1) (by kernel_rfl) (by decide)⟩
-- 57: impl.AuthVector
instance : TyN Tryz.prog 57 5 := ⟨info_n (by kernel_rfl)⟩
instance : TyAg Tryz.prog 57 5 := ⟨fun w => by kernel_rfl, info_n (by kernel_rfl)⟩
theorem Tryz.z57 : (Tryz.prog.info? 57).map (·.zero) = some (some (.agg #[.int .i64 0, .int .i64 0, .int .i64 0, .int .i64 0, .int .i64 0])) := by kernel_rfl
instance : TyZ Tryz.prog 57 [.d false (.i .i64 0), .d false (.i .i64 0), .d false (.i .i64 0), .d false (.i .i64 0), .d false (.i .i64 0)] := ⟨by obtain ⟨i, h1, h2⟩ := info_z Tryz.z57; exact ⟨i, _, h1, h2, rfl⟩⟩
instance : TyE Tryz.prog 57 [.i .i64 0, .i .i64 0, .i .i64 0, .i .i64 0, .i .i64 0] := ⟨by obtain ⟨i, h1, h2⟩ := info_z Tryz.z57; exact ⟨i, _, h1, h2, rfl⟩⟩
instance : TyB Tryz.prog 57 [(0, 1), (1, 1), (2, 1), (3, 1), (4, 1)] := ⟨_, Tryz.underlying57, fun w => by kernel_rfl⟩
instance : TyF Tryz.prog 57 0 0 3 := ⟨_, _, Tryz.underlying57, rfl, rfl, rfl, info_f (n := 1) (by kernel_rfl) (by decide)⟩
instance : TyF Tryz.prog 57 1 1 3 := ⟨_, _, Tryz.underlying57, rfl, rfl, rfl, info_f (n := 1) (by kernel_rfl) (by decide)⟩
instance : TyF Tryz.prog 57 2 2 3 := ⟨_, _, Tryz.underlying57, rfl, rfl, rfl, info_f (n := 1) (by kernel_rfl) (by decide)⟩
instance : TyF Tryz.prog 57 3 3 3 := ⟨_, _, Tryz.underlying57, rfl, rfl, rfl, info_f (n := 1) (by kernel_rfl) (by decide)⟩
instance : TyF Tryz.prog 57 4 4 3 := ⟨_, _, Tryz.underlying57, rfl, rfl, rfl, info_f (n := 1) (by kernel_rfl) (by decide)⟩
-- 59: impl.PagingState
instance : TyN Tryz.prog 59 3 := ⟨info_n (by kernel_rfl)⟩
instance : TyAg Tryz.prog 59 3 := ⟨fun w => by kernel_rfl, info_n (by kernel_rfl)⟩
theorem Tryz.z59 : (Tryz.prog.info? 59).map (·.zero) = some (some (.agg #[.int .i64 0, .int .i64 0, .int .i64 0])) := by kernel_rfl
instance : TyZ Tryz.prog 59 [.d false (.i .i64 0), .d false (.i .i64 0), .d false (.i .i64 0)] := ⟨by obtain ⟨i, h1, h2⟩ := info_z Tryz.z59; exact ⟨i, _, h1, h2, rfl⟩⟩
instance : TyE Tryz.prog 59 [.i .i64 0, .i .i64 0, .i .i64 0] := ⟨by obtain ⟨i, h1, h2⟩ := info_z Tryz.z59; exact ⟨i, _, h1, h2, rfl⟩⟩
instance : TyB Tryz.prog 59 [(0, 1), (1, 1), (2, 1)] := ⟨_, Tryz.underlying59, fun w => by kernel_rfl⟩
instance : TyF Tryz.prog 59 0 0 3 := ⟨_, _, Tryz.underlying59, rfl, rfl, rfl, info_f (n := 1) (by kernel_rfl) (by decide)⟩
instance : TyF Tryz.prog 59 1 1 3 := ⟨_, _, Tryz.underlying59, rfl, rfl, rfl, info_f (n := 1) (by kernel_rfl) (by decide)⟩
instance : TyF Tryz.prog 59 2 2 3 := ⟨_, _, Tryz.underlying59, rfl, rfl, rfl, info_f (n := 1) (by kernel_rfl) (by decide)⟩
-- 61: impl.SendWindow
instance : TyN Tryz.prog 61 2 := ⟨info_n (by kernel_rfl)⟩
instance : TyAg Tryz.prog 61 2 := ⟨fun w => by kernel_rfl, info_n (by kernel_rfl)⟩
theorem Tryz.z61 : (Tryz.prog.info? 61).map (·.zero) = some (some (.agg #[.int .i64 0, .slice none 0 0])) := by kernel_rfl
instance : TyZ Tryz.prog 61 [.d false (.i .i64 0), .nil] := ⟨by obtain ⟨i, h1, h2⟩ := info_z Tryz.z61; exact ⟨i, _, h1, h2, rfl⟩⟩
instance : TyE Tryz.prog 61 [.i .i64 0, .l []] := ⟨by obtain ⟨i, h1, h2⟩ := info_z Tryz.z61; exact ⟨i, _, h1, h2, rfl⟩⟩
instance : TyB Tryz.prog 61 [(0, 1), (1, 1)] := ⟨_, Tryz.underlying61, fun w => by kernel_rfl⟩
instance : TyF Tryz.prog 61 0 0 3 := ⟨_, _, Tryz.underlying61, rfl, rfl, rfl, info_f (n := 1) (by kernel_rfl) (by decide)⟩
instance : TyF Tryz.prog 61 1 1 47 := ⟨_, _, Tryz.underlying61, rfl, rfl, rfl, info_f (n := 1) (by kernel_rfl) (by decide)⟩
-- 63: impl.Quota
instance : TyN Tryz.prog 63 3 := ⟨info_n (by kernel_rfl)⟩
instance : TyAg Tryz.prog 63 3 := ⟨fun w => by kernel_rfl, info_n (by kernel_rfl)⟩
theorem Tryz.z63 : (Tryz.prog.info? 63).map (·.zero) = some (some (.agg #[.int .i64 0, .int .i64 0, .int .i64 0])) := by kernel_rfl
instance : TyZ Tryz.prog 63 [.d false (.i .i64 0), .d false (.i .i64 0), .d false (.i .i64 0)] := ⟨by obtain ⟨i, h1, h2⟩ := info_z Tryz.z63; exact ⟨i, _, h1, h2, rfl⟩⟩
instance : TyE Tryz.prog 63 [.i .i64 0, .i .i64 0, .i .i64 0] := ⟨by obtain ⟨i, h1, h2⟩ := info_z Tryz.z63; exact ⟨i, _, h1, h2, rfl⟩⟩
instance : TyB Tryz.prog 63 [(0, 1), (1, 1), (2, 1)] := ⟨_, Tryz.underlying63, fun w => by kernel_rfl⟩
instance : TyF Tryz.prog 63 0 0 3 := ⟨_, _, Tryz.underlying63, rfl, rfl, rfl, info_f (n := 1) (by kernel_rfl) (by decide)⟩
instance : TyF Tryz.prog 63 1 1 3 := ⟨_, _, Tryz.underlying63, rfl, rfl, rfl, info_f (n := 1) (by kernel_rfl) (by decide)⟩
instance : TyF Tryz.prog 63 2 2 3 := ⟨_, _, Tryz.underlying63, rfl, rfl, rfl, info_f (n := 1) (by kernel_rfl) (by decide)⟩
-- 65: impl.Session
instance : TyN Tryz.prog 65 30 := ⟨info_n (by kernel_rfl)⟩
instance : TyAg Tryz.prog 65 30 := ⟨fun w => by kernel_rfl, info_n (by kernel_rfl)⟩
theorem Tryz.z65 : (Tryz.prog.info? 65).map (·.zero) = some (some (.agg #[.int .i64 0, .int .i64 0, .int .i64 0, .int .i64 0, .int .i64 0, .int .i64 0, .int .i64 0, .slice none 0 0, .int .i64 0, .int .i64 0, .int .i64 0, .int .i64 0, .int .i64 0, .int .i64 0, .int .i64 0, .int .i64 0, .int .i64 0, .int .i64 0, .int .i64 0, .int .i64 0, .int .i64 0, .int .i64 0, .int .i64 0, .slice none 0 0, .int .i64 0, .slice none 0 0, .int .i64 0, .int .i64 0, .int .i64 0, .int .i64 0])) := by kernel_rfl
instance : TyZ Tryz.prog 65 [.d false (.i .i64 0), .d false (.i .i64 0), .d false (.i .i64 0), .d false (.i .i64 0), .d false (.i .i64 0), .d false (.i .i64 0), .d false (.i .i64 0), .nil, .d false (.i .i64 0), .d false (.i .i64 0), .d false (.i .i64 0), .d false (.i .i64 0), .d false (.i .i64 0), .d false (.i .i64 0), .d false (.i .i64 0), .d false (.i .i64 0), .d false (.i .i64 0), .d false (.i .i64 0), .d false (.i .i64 0), .d false (.i .i64 0), .d false (.i .i64 0), .d false (.i .i64 0), .d false (.i .i64 0), .nil, .d false (.i .i64 0), .nil, .d false (.i .i64 0), .d false (.i .i64 0), .d false (.i .i64 0), .d false (.i .i64 0)] := ⟨by obtain ⟨i, h1, h2⟩ := info_z Tryz.z65; exact ⟨i, _, h1, h2, rfl⟩⟩
instance : TyE Tryz.prog 65 [.i .i64 0, .i .i64 0, .i .i64 0, .i .i64 0, .i .i64 0, .i .i64 0, .i .i64 0, .l [], .i .i64 0, .i .i64 0, .i .i64 0, .i .i64 0, .i .i64 0, .i .i64 0, .i .i64 0, .i .i64 0, .i .i64 0, .i .i64 0, .i .i64 0, .i .i64 0, .i .i64 0, .i .i64 0, .i .i64 0, .l [], .i .i64 0, .l [], .i .i64 0, .i .i64 0, .i .i64 0, .i .i64 0] := ⟨by obtain ⟨i, h1, h2⟩ := info_z Tryz.z65; exact ⟨i, _, h1, h2, rfl⟩⟩
instance : TyB Tryz.prog 65 [(0, 4), (4, 4), (8, 1), (9, 5), (14, 1), (15, 1), (16, 1), (17, 1), (18, 1), (19, 1), (20, 3), (23, 1), (24, 2), (26, 1), (27, 3)] := ⟨_, Tryz.underlying65, fun w => by kernel_rfl⟩
instance : TyF Tryz.prog 65 0 0 54 := ⟨_, _, Tryz.underlying65, rfl, rfl, rfl, info_f (n := 4) (by kernel_rfl) (by decide)⟩
instance : TyF Tryz.prog 65 1 4 30 := ⟨_, _, Tryz.underlying65, rfl, rfl, rfl, info_f (n := 4) (by kernel_rfl) (by decide)⟩
instance : TyF Tryz.prog 65 2 8 3 := ⟨_, _, Tryz.underlying65, rfl, rfl, rfl, info_f (n := 1) (by kernel_rfl) (by decide)⟩
instance : TyF Tryz.prog 65 3 9 57 := ⟨_, _, Tryz.underlying65, rfl, rfl, rfl, info_f (n := 5) (by kernel_rfl) (by decide)⟩
instance : TyF Tryz.prog 65 4 14 3 := ⟨_, _, Tryz.underlying65, rfl, rfl, rfl, info_f (n := 1) (by kernel_rfl) (by decide)⟩
instance : TyF Tryz.prog 65 5 15 3 := ⟨_, _, Tryz.underlying65, rfl, rfl, rfl, info_f (n := 1) (by kernel_rfl) (by decide)⟩
instance : TyF Tryz.prog 65 6 16 3 := ⟨_, _, Tryz.underlying65, rfl, rfl, rfl, info_f (n := 1) (by kernel_rfl) (by decide)⟩
instance : TyF Tryz.prog 65 7 17 3 := ⟨_, _, Tryz.underlying65, rfl, rfl, rfl, info_f (n := 1) (by kernel_rfl) (by decide)⟩
instance : TyF Tryz.prog 65 8 18 3 := ⟨_, _, Tryz.underlying65, rfl, rfl, rfl, info_f (n := 1) (by kernel_rfl) (by decide)⟩
instance : TyF Tryz.prog 65 9 19 3 := ⟨_, _, Tryz.underlying65, rfl, rfl, rfl, info_f (n := 1) (by kernel_rfl) (by decide)⟩
instance : TyF Tryz.prog 65 10 20 59 := ⟨_, _, Tryz.underlying65, rfl, rfl, rfl, info_f (n := 3) (by kernel_rfl) (by decide)⟩
instance : TyF Tryz.prog 65 11 23 48 := ⟨_, _, Tryz.underlying65, rfl, rfl, rfl, info_f (n := 1) (by kernel_rfl) (by decide)⟩
instance : TyF Tryz.prog 65 12 24 61 := ⟨_, _, Tryz.underlying65, rfl, rfl, rfl, info_f (n := 2) (by kernel_rfl) (by decide)⟩
instance : TyF Tryz.prog 65 13 26 3 := ⟨_, _, Tryz.underlying65, rfl, rfl, rfl, info_f (n := 1) (by kernel_rfl) (by decide)⟩
instance : TyF Tryz.prog 65 14 27 63 := ⟨_, _, Tryz.underlying65, rfl, rfl, rfl, info_f (n := 3) (by kernel_rfl) (by decide)⟩
-- 66: []impl.Reservation
instance : TyN Tryz.prog 66 1 := ⟨info_n (by kernel_rfl)⟩
instance : TySc Tryz.prog 66 := ⟨fun w => by kernel_rfl, info_n (by kernel_rfl)⟩
theorem Tryz.z66 : (Tryz.prog.info? 66).map (·.zero) = some (some (.slice none 0 0)) := by kernel_rfl
instance : TyZ Tryz.prog 66 [.nil] := ⟨by obtain ⟨i, h1, h2⟩ := info_z Tryz.z66; exact ⟨i, _, h1, h2, rfl⟩⟩
instance : TyE Tryz.prog 66 [.l []] := ⟨by obtain ⟨i, h1, h2⟩ := info_z Tryz.z66; exact ⟨i, _, h1, h2, rfl⟩⟩
instance : TySl Tryz.prog 66 249 2 16 := ⟨Tryz.underlying66, info_s (z := .agg #[.int .i64 0, .int .i64 0]) (by kernel_rfl) rfl, by decide⟩
-- 68: impl.Account
instance : TyN Tryz.prog 68 4 := ⟨info_n (by kernel_rfl)⟩
instance : TyAg Tryz.prog 68 4 := ⟨fun w => by kernel_rfl, info_n (by kernel_rfl)⟩
theorem Tryz.z68 : (Tryz.prog.info? 68).map (·.zero) = some (some (.agg #[.int .i64 0, .int .i64 0, .int .i64 0, .slice none 0 0])) := by kernel_rfl
instance : TyZ Tryz.prog 68 [.d false (.i .i64 0), .d false (.i .i64 0), .d false (.i .i64 0), .nil] := ⟨by obtain ⟨i, h1, h2⟩ := info_z Tryz.z68; exact ⟨i, _, h1, h2, rfl⟩⟩
instance : TyE Tryz.prog 68 [.i .i64 0, .i .i64 0, .i .i64 0, .l []] := ⟨by obtain ⟨i, h1, h2⟩ := info_z Tryz.z68; exact ⟨i, _, h1, h2, rfl⟩⟩
instance : TyB Tryz.prog 68 [(0, 1), (1, 1), (2, 1), (3, 1)] := ⟨_, Tryz.underlying68, fun w => by kernel_rfl⟩
instance : TyF Tryz.prog 68 0 0 3 := ⟨_, _, Tryz.underlying68, rfl, rfl, rfl, info_f (n := 1) (by kernel_rfl) (by decide)⟩
instance : TyF Tryz.prog 68 1 1 3 := ⟨_, _, Tryz.underlying68, rfl, rfl, rfl, info_f (n := 1) (by kernel_rfl) (by decide)⟩
instance : TyF Tryz.prog 68 2 2 3 := ⟨_, _, Tryz.underlying68, rfl, rfl, rfl, info_f (n := 1) (by kernel_rfl) (by decide)⟩
instance : TyF Tryz.prog 68 3 3 66 := ⟨_, _, Tryz.underlying68, rfl, rfl, rfl, info_f (n := 1) (by kernel_rfl) (by decide)⟩
-- 69: []laws.Cell
instance : TyN Tryz.prog 69 1 := ⟨info_n (by kernel_rfl)⟩
instance : TySc Tryz.prog 69 := ⟨fun w => by kernel_rfl, info_n (by kernel_rfl)⟩
theorem Tryz.z69 : (Tryz.prog.info? 69).map (·.zero) = some (some (.slice none 0 0)) := by kernel_rfl
instance : TyZ Tryz.prog 69 [.nil] := ⟨by obtain ⟨i, h1, h2⟩ := info_z Tryz.z69; exact ⟨i, _, h1, h2, rfl⟩⟩
instance : TyE Tryz.prog 69 [.l []] := ⟨by obtain ⟨i, h1, h2⟩ := info_z Tryz.z69; exact ⟨i, _, h1, h2, rfl⟩⟩
instance : TySl Tryz.prog 69 258 2 32 := ⟨Tryz.underlying69, info_s (z := .agg #[.int .i64 0, .slice none 0 0]) (by kernel_rfl) rfl, by decide⟩
-- 71: laws.CellMap
instance : TyN Tryz.prog 71 1 := ⟨info_n (by kernel_rfl)⟩
instance : TyAg Tryz.prog 71 1 := ⟨fun w => by kernel_rfl, info_n (by kernel_rfl)⟩
theorem Tryz.z71 : (Tryz.prog.info? 71).map (·.zero) = some (some (.agg #[.slice none 0 0])) := by kernel_rfl
instance : TyZ Tryz.prog 71 [.nil] := ⟨by obtain ⟨i, h1, h2⟩ := info_z Tryz.z71; exact ⟨i, _, h1, h2, rfl⟩⟩
instance : TyE Tryz.prog 71 [.l []] := ⟨by obtain ⟨i, h1, h2⟩ := info_z Tryz.z71; exact ⟨i, _, h1, h2, rfl⟩⟩
instance : TyB Tryz.prog 71 [(0, 1)] := ⟨_, Tryz.underlying71, fun w => by kernel_rfl⟩
instance : TyF Tryz.prog 71 0 0 69 := ⟨_, _, Tryz.underlying71, rfl, rfl, rfl, info_f (n := 1) (by kernel_rfl) (by decide)⟩
-- 72: []laws.Device
instance : TyN Tryz.prog 72 1 := ⟨info_n (by kernel_rfl)⟩
instance : TySc Tryz.prog 72 := ⟨fun w => by kernel_rfl, info_n (by kernel_rfl)⟩
theorem Tryz.z72 : (Tryz.prog.info? 72).map (·.zero) = some (some (.slice none 0 0)) := by kernel_rfl
instance : TyZ Tryz.prog 72 [.nil] := ⟨by obtain ⟨i, h1, h2⟩ := info_z Tryz.z72; exact ⟨i, _, h1, h2, rfl⟩⟩
instance : TyE Tryz.prog 72 [.l []] := ⟨by obtain ⟨i, h1, h2⟩ := info_z Tryz.z72; exact ⟨i, _, h1, h2, rfl⟩⟩
instance : TySl Tryz.prog 72 193 14 144 := ⟨Tryz.underlying72, info_s (z := .agg #[.int .i64 0, .int .i64 0, .int .i64 0, .int .i64 0, .int .i64 0, .int .i64 0, .int .i64 0, .int .i64 0, .int .i64 0, .bool false, .int .i64 0, .int .i64 0, .slice none 0 0, .slice none 0 0]) (by kernel_rfl) rfl, by decide⟩
-- 73: []laws.Session
instance : TyN Tryz.prog 73 1 := ⟨info_n (by kernel_rfl)⟩
instance : TySc Tryz.prog 73 := ⟨fun w => by kernel_rfl, info_n (by kernel_rfl)⟩
theorem Tryz.z73 : (Tryz.prog.info? 73).map (·.zero) = some (some (.slice none 0 0)) := by kernel_rfl
instance : TyZ Tryz.prog 73 [.nil] := ⟨by obtain ⟨i, h1, h2⟩ := info_z Tryz.z73; exact ⟨i, _, h1, h2, rfl⟩⟩
instance : TyE Tryz.prog 73 [.l []] := ⟨by obtain ⟨i, h1, h2⟩ := info_z Tryz.z73; exact ⟨i, _, h1, h2, rfl⟩⟩
instance : TySl Tryz.prog 73 204 30 288 := ⟨Tryz.underlying73, info_s (z := .agg #[.int .i64 0, .int .i64 0, .int .i64 0, .int .i64 0, .int .i64 0, .int .i64 0, .int .i64 0, .slice none 0 0, .int .i64 0, .int .i64 0, .int .i64 0, .int .i64 0, .int .i64 0, .int .i64 0, .int .i64 0, .int .i64 0, .int .i64 0, .int .i64 0, .int .i64 0, .int .i64 0, .int .i64 0, .int .i64 0, .int .i64 0, .slice none 0 0, .int .i64 0, .slice none 0 0, .int .i64 0, .int .i64 0, .int .i64 0, .int .i64 0]) (by kernel_rfl) rfl, by decide⟩
-- 74: []laws.Account
instance : TyN Tryz.prog 74 1 := ⟨info_n (by kernel_rfl)⟩
instance : TySc Tryz.prog 74 := ⟨fun w => by kernel_rfl, info_n (by kernel_rfl)⟩
theorem Tryz.z74 : (Tryz.prog.info? 74).map (·.zero) = some (some (.slice none 0 0)) := by kernel_rfl
instance : TyZ Tryz.prog 74 [.nil] := ⟨by obtain ⟨i, h1, h2⟩ := info_z Tryz.z74; exact ⟨i, _, h1, h2, rfl⟩⟩
instance : TyE Tryz.prog 74 [.l []] := ⟨by obtain ⟨i, h1, h2⟩ := info_z Tryz.z74; exact ⟨i, _, h1, h2, rfl⟩⟩
instance : TySl Tryz.prog 74 208 4 48 := ⟨Tryz.underlying74, info_s (z := .agg #[.int .i64 0, .int .i64 0, .int .i64 0, .slice none 0 0]) (by kernel_rfl) rfl, by decide⟩
-- 75: []laws.Flight
instance : TyN Tryz.prog 75 1 := ⟨info_n (by kernel_rfl)⟩
instance : TySc Tryz.prog 75 := ⟨fun w => by kernel_rfl, info_n (by kernel_rfl)⟩
theorem Tryz.z75 : (Tryz.prog.info? 75).map (·.zero) = some (some (.slice none 0 0)) := by kernel_rfl
instance : TyZ Tryz.prog 75 [.nil] := ⟨by obtain ⟨i, h1, h2⟩ := info_z Tryz.z75; exact ⟨i, _, h1, h2, rfl⟩⟩
instance : TyE Tryz.prog 75 [.l []] := ⟨by obtain ⟨i, h1, h2⟩ := info_z Tryz.z75; exact ⟨i, _, h1, h2, rfl⟩⟩
instance : TySl Tryz.prog 75 216 21 176 := ⟨Tryz.underlying75, info_s (z := .agg #[.int .i64 0, .bool false, .bool false, .int .i64 0, .int .i64 0, .int .i64 0, .int .i64 0, .int .i64 0, .int .i64 0, .int .i64 0, .int .i64 0, .int .i64 0, .int .i64 0, .int .i64 0, .int .i64 0, .int .i64 0, .int .i64 0, .int .i64 0, .int .i64 0, .slice none 0 0, .int .i64 0]) (by kernel_rfl) rfl, by decide⟩
-- 76: laws.ServerPool
instance : TyN Tryz.prog 76 2 := ⟨info_n (by kernel_rfl)⟩
instance : TyAg Tryz.prog 76 2 := ⟨fun w => by kernel_rfl, info_n (by kernel_rfl)⟩
theorem Tryz.z76 : (Tryz.prog.info? 76).map (·.zero) = some (some (.agg #[.int .i64 0, .int .i64 0])) := by kernel_rfl
instance : TyZ Tryz.prog 76 [.d false (.i .i64 0), .d false (.i .i64 0)] := ⟨by obtain ⟨i, h1, h2⟩ := info_z Tryz.z76; exact ⟨i, _, h1, h2, rfl⟩⟩
instance : TyE Tryz.prog 76 [.i .i64 0, .i .i64 0] := ⟨by obtain ⟨i, h1, h2⟩ := info_z Tryz.z76; exact ⟨i, _, h1, h2, rfl⟩⟩
instance : TyB Tryz.prog 76 [(0, 1), (1, 1)] := ⟨_, Tryz.underlying76, fun w => by kernel_rfl⟩
instance : TyF Tryz.prog 76 0 0 3 := ⟨_, _, Tryz.underlying76, rfl, rfl, rfl, info_f (n := 1) (by kernel_rfl) (by decide)⟩
instance : TyF Tryz.prog 76 1 1 3 := ⟨_, _, Tryz.underlying76, rfl, rfl, rfl, info_f (n := 1) (by kernel_rfl) (by decide)⟩
-- 78: laws.Network
instance : TyN Tryz.prog 78 10 := ⟨info_n (by kernel_rfl)⟩
instance : TyAg Tryz.prog 78 10 := ⟨fun w => by kernel_rfl, info_n (by kernel_rfl)⟩
theorem Tryz.z78 : (Tryz.prog.info? 78).map (·.zero) = some (some (.agg #[.slice none 0 0, .slice none 0 0, .slice none 0 0, .slice none 0 0, .slice none 0 0, .int .i64 0, .int .i64 0, .int .i64 0, .int .i64 0, .int .i64 0])) := by kernel_rfl
instance : TyZ Tryz.prog 78 [.nil, .nil, .nil, .nil, .nil, .d false (.i .i64 0), .d false (.i .i64 0), .d false (.i .i64 0), .d false (.i .i64 0), .d false (.i .i64 0)] := ⟨by obtain ⟨i, h1, h2⟩ := info_z Tryz.z78; exact ⟨i, _, h1, h2, rfl⟩⟩
instance : TyE Tryz.prog 78 [.l [], .l [], .l [], .l [], .l [], .i .i64 0, .i .i64 0, .i .i64 0, .i .i64 0, .i .i64 0] := ⟨by obtain ⟨i, h1, h2⟩ := info_z Tryz.z78; exact ⟨i, _, h1, h2, rfl⟩⟩
instance : TyB Tryz.prog 78 [(0, 1), (1, 1), (2, 1), (3, 1), (4, 1), (5, 1), (6, 2), (8, 1), (9, 1)] := ⟨_, Tryz.underlying78, fun w => by kernel_rfl⟩
instance : TyF Tryz.prog 78 0 0 71 := ⟨_, _, Tryz.underlying78, rfl, rfl, rfl, info_f (n := 1) (by kernel_rfl) (by decide)⟩
instance : TyF Tryz.prog 78 1 1 72 := ⟨_, _, Tryz.underlying78, rfl, rfl, rfl, info_f (n := 1) (by kernel_rfl) (by decide)⟩
instance : TyF Tryz.prog 78 2 2 73 := ⟨_, _, Tryz.underlying78, rfl, rfl, rfl, info_f (n := 1) (by kernel_rfl) (by decide)⟩
instance : TyF Tryz.prog 78 3 3 74 := ⟨_, _, Tryz.underlying78, rfl, rfl, rfl, info_f (n := 1) (by kernel_rfl) (by decide)⟩
instance : TyF Tryz.prog 78 4 4 75 := ⟨_, _, Tryz.underlying78, rfl, rfl, rfl, info_f (n := 1) (by kernel_rfl) (by decide)⟩
instance : TyF Tryz.prog 78 5 5 3 := ⟨_, _, Tryz.underlying78, rfl, rfl, rfl, info_f (n := 1) (by kernel_rfl) (by decide)⟩
instance : TyF Tryz.prog 78 6 6 76 := ⟨_, _, Tryz.underlying78, rfl, rfl, rfl, info_f (n := 2) (by kernel_rfl) (by decide)⟩
instance : TyF Tryz.prog 78 7 8 3 := ⟨_, _, Tryz.underlying78, rfl, rfl, rfl, info_f (n := 1) (by kernel_rfl) (by decide)⟩
instance : TyF Tryz.prog 78 8 9 3 := ⟨_, _, Tryz.underlying78, rfl, rfl, rfl, info_f (n := 1) (by kernel_rfl) (by decide)⟩
-- 79: []laws.LeakedKey
instance : TyN Tryz.prog 79 1 := ⟨info_n (by kernel_rfl)⟩
instance : TySc Tryz.prog 79 := ⟨fun w => by kernel_rfl, info_n (by kernel_rfl)⟩
theorem Tryz.z79 : (Tryz.prog.info? 79).map (·.zero) = some (some (.slice none 0 0)) := by kernel_rfl
instance : TyZ Tryz.prog 79 [.nil] := ⟨by obtain ⟨i, h1, h2⟩ := info_z Tryz.z79; exact ⟨i, _, h1, h2, rfl⟩⟩
instance : TyE Tryz.prog 79 [.l []] := ⟨by obtain ⟨i, h1, h2⟩ := info_z Tryz.z79; exact ⟨i, _, h1, h2, rfl⟩⟩
instance : TySl Tryz.prog 79 133 2 32 := ⟨Tryz.underlying79, info_s (z := .agg #[.int .i64 0, .slice none 0 0]) (by kernel_rfl) rfl, by decide⟩
-- 85: []impl.LeakedKey
instance : TyN Tryz.prog 85 1 := ⟨info_n (by kernel_rfl)⟩
instance : TySc Tryz.prog 85 := ⟨fun w => by kernel_rfl, info_n (by kernel_rfl)⟩
theorem Tryz.z85 : (Tryz.prog.info? 85).map (·.zero) = some (some (.slice none 0 0)) := by kernel_rfl
instance : TyZ Tryz.prog 85 [.nil] := ⟨by obtain ⟨i, h1, h2⟩ := info_z Tryz.z85; exact ⟨i, _, h1, h2, rfl⟩⟩
instance : TyE Tryz.prog 85 [.l []] := ⟨by obtain ⟨i, h1, h2⟩ := info_z Tryz.z85; exact ⟨i, _, h1, h2, rfl⟩⟩
instance : TySl Tryz.prog 85 147 2 32 := ⟨Tryz.underlying85, info_s (z := .agg #[.int .i64 0, .slice none 0 0]) (by kernel_rfl) rfl, by decide⟩
-- 114: impl.Signal
instance : TyN Tryz.prog 114 11 := ⟨info_n (by kernel_rfl)⟩
instance : TyAg Tryz.prog 114 11 := ⟨fun w => by kernel_rfl, info_n (by kernel_rfl)⟩
theorem Tryz.z114 : (Tryz.prog.info? 114).map (·.zero) = some (some (.agg #[.int .i64 0, .int .i64 0, .int .i64 0, .int .i64 0, .int .i64 0, .int .i64 0, .int .i64 0, .int .i64 0, .int .i64 0, .int .i64 0, .int .i64 0])) := by kernel_rfl
instance : TyZ Tryz.prog 114 [.d false (.i .i64 0), .d false (.i .i64 0), .d false (.i .i64 0), .d false (.i .i64 0), .d false (.i .i64 0), .d false (.i .i64 0), .d false (.i .i64 0), .d false (.i .i64 0), .d false (.i .i64 0), .d false (.i .i64 0), .d false (.i .i64 0)] := ⟨by obtain ⟨i, h1, h2⟩ := info_z Tryz.z114; exact ⟨i, _, h1, h2, rfl⟩⟩
instance : TyE Tryz.prog 114 [.i .i64 0, .i .i64 0, .i .i64 0, .i .i64 0, .i .i64 0, .i .i64 0, .i .i64 0, .i .i64 0, .i .i64 0, .i .i64 0, .i .i64 0] := ⟨by obtain ⟨i, h1, h2⟩ := info_z Tryz.z114; exact ⟨i, _, h1, h2, rfl⟩⟩
instance : TyB Tryz.prog 114 [(0, 1), (1, 1), (2, 1), (3, 1), (4, 1), (5, 5), (10, 1)] := ⟨_, Tryz.underlying114, fun w => by kernel_rfl⟩
instance : TyF Tryz.prog 114 0 0 3 := ⟨_, _, Tryz.underlying114, rfl, rfl, rfl, info_f (n := 1) (by kernel_rfl) (by decide)⟩
instance : TyF Tryz.prog 114 1 1 3 := ⟨_, _, Tryz.underlying114, rfl, rfl, rfl, info_f (n := 1) (by kernel_rfl) (by decide)⟩
instance : TyF Tryz.prog 114 2 2 3 := ⟨_, _, Tryz.underlying114, rfl, rfl, rfl, info_f (n := 1) (by kernel_rfl) (by decide)⟩
instance : TyF Tryz.prog 114 3 3 3 := ⟨_, _, Tryz.underlying114, rfl, rfl, rfl, info_f (n := 1) (by kernel_rfl) (by decide)⟩
instance : TyF Tryz.prog 114 4 4 3 := ⟨_, _, Tryz.underlying114, rfl, rfl, rfl, info_f (n := 1) (by kernel_rfl) (by decide)⟩
instance : TyF Tryz.prog 114 5 5 57 := ⟨_, _, Tryz.underlying114, rfl, rfl, rfl, info_f (n := 5) (by kernel_rfl) (by decide)⟩
instance : TyF Tryz.prog 114 6 10 3 := ⟨_, _, Tryz.underlying114, rfl, rfl, rfl, info_f (n := 1) (by kernel_rfl) (by decide)⟩
-- 116: impl.SecuredMessage
instance : TyN Tryz.prog 116 4 := ⟨info_n (by kernel_rfl)⟩
instance : TyAg Tryz.prog 116 4 := ⟨fun w => by kernel_rfl, info_n (by kernel_rfl)⟩
theorem Tryz.z116 : (Tryz.prog.info? 116).map (·.zero) = some (some (.agg #[.int .i64 0, .int .i64 0, .slice none 0 0, .int .i64 0])) := by kernel_rfl
instance : TyZ Tryz.prog 116 [.d false (.i .i64 0), .d false (.i .i64 0), .nil, .d false (.i .i64 0)] := ⟨by obtain ⟨i, h1, h2⟩ := info_z Tryz.z116; exact ⟨i, _, h1, h2, rfl⟩⟩
instance : TyE Tryz.prog 116 [.i .i64 0, .i .i64 0, .l [], .i .i64 0] := ⟨by obtain ⟨i, h1, h2⟩ := info_z Tryz.z116; exact ⟨i, _, h1, h2, rfl⟩⟩
instance : TyB Tryz.prog 116 [(0, 1), (1, 1), (2, 1), (3, 1)] := ⟨_, Tryz.underlying116, fun w => by kernel_rfl⟩
instance : TyF Tryz.prog 116 0 0 3 := ⟨_, _, Tryz.underlying116, rfl, rfl, rfl, info_f (n := 1) (by kernel_rfl) (by decide)⟩
instance : TyF Tryz.prog 116 1 1 3 := ⟨_, _, Tryz.underlying116, rfl, rfl, rfl, info_f (n := 1) (by kernel_rfl) (by decide)⟩
instance : TyF Tryz.prog 116 2 2 22 := ⟨_, _, Tryz.underlying116, rfl, rfl, rfl, info_f (n := 1) (by kernel_rfl) (by decide)⟩
instance : TyF Tryz.prog 116 3 3 3 := ⟨_, _, Tryz.underlying116, rfl, rfl, rfl, info_f (n := 1) (by kernel_rfl) (by decide)⟩
-- 118: impl.RadioPacket
instance : TyN Tryz.prog 118 6 := ⟨info_n (by kernel_rfl)⟩
instance : TyAg Tryz.prog 118 6 := ⟨fun w => by kernel_rfl, info_n (by kernel_rfl)⟩
theorem Tryz.z118 : (Tryz.prog.info? 118).map (·.zero) = some (some (.agg #[.int .i64 0, .int .i64 0, .int .i64 0, .int .i64 0, .slice none 0 0, .int .i64 0])) := by kernel_rfl
instance : TyZ Tryz.prog 118 [.d false (.i .i64 0), .d false (.i .i64 0), .d false (.i .i64 0), .d false (.i .i64 0), .nil, .d false (.i .i64 0)] := ⟨by obtain ⟨i, h1, h2⟩ := info_z Tryz.z118; exact ⟨i, _, h1, h2, rfl⟩⟩
instance : TyE Tryz.prog 118 [.i .i64 0, .i .i64 0, .i .i64 0, .i .i64 0, .l [], .i .i64 0] := ⟨by obtain ⟨i, h1, h2⟩ := info_z Tryz.z118; exact ⟨i, _, h1, h2, rfl⟩⟩
instance : TyB Tryz.prog 118 [(0, 1), (1, 1), (2, 4)] := ⟨_, Tryz.underlying118, fun w => by kernel_rfl⟩
instance : TyF Tryz.prog 118 0 0 3 := ⟨_, _, Tryz.underlying118, rfl, rfl, rfl, info_f (n := 1) (by kernel_rfl) (by decide)⟩
instance : TyF Tryz.prog 118 1 1 3 := ⟨_, _, Tryz.underlying118, rfl, rfl, rfl, info_f (n := 1) (by kernel_rfl) (by decide)⟩
instance : TyF Tryz.prog 118 2 2 116 := ⟨_, _, Tryz.underlying118, rfl, rfl, rfl, info_f (n := 4) (by kernel_rfl) (by decide)⟩
-- 120: impl.Flight
instance : TyN Tryz.prog 120 21 := ⟨info_n (by kernel_rfl)⟩
instance : TyAg Tryz.prog 120 21 := ⟨fun w => by kernel_rfl, info_n (by kernel_rfl)⟩
theorem Tryz.z120 : (Tryz.prog.info? 120).map (·.zero) = some (some (.agg #[.int .i64 0, .bool false, .bool false, .int .i64 0, .int .i64 0, .int .i64 0, .int .i64 0, .int .i64 0, .int .i64 0, .int .i64 0, .int .i64 0, .int .i64 0, .int .i64 0, .int .i64 0, .int .i64 0, .int .i64 0, .int .i64 0, .int .i64 0, .int .i64 0, .slice none 0 0, .int .i64 0])) := by kernel_rfl
instance : TyZ Tryz.prog 120 [.d false (.i .i64 0), .d false (.b false), .d false (.b false), .d false (.i .i64 0), .d false (.i .i64 0), .d false (.i .i64 0), .d false (.i .i64 0), .d false (.i .i64 0), .d false (.i .i64 0), .d false (.i .i64 0), .d false (.i .i64 0), .d false (.i .i64 0), .d false (.i .i64 0), .d false (.i .i64 0), .d false (.i .i64 0), .d false (.i .i64 0), .d false (.i .i64 0), .d false (.i .i64 0), .d false (.i .i64 0), .nil, .d false (.i .i64 0)] := ⟨by obtain ⟨i, h1, h2⟩ := info_z Tryz.z120; exact ⟨i, _, h1, h2, rfl⟩⟩
instance : TyE Tryz.prog 120 [.i .i64 0, .b false, .b false, .i .i64 0, .i .i64 0, .i .i64 0, .i .i64 0, .i .i64 0, .i .i64 0, .i .i64 0, .i .i64 0, .i .i64 0, .i .i64 0, .i .i64 0, .i .i64 0, .i .i64 0, .i .i64 0, .i .i64 0, .i .i64 0, .l [], .i .i64 0] := ⟨by obtain ⟨i, h1, h2⟩ := info_z Tryz.z120; exact ⟨i, _, h1, h2, rfl⟩⟩
instance : TyB Tryz.prog 120 [(0, 1), (1, 1), (2, 1), (3, 1), (4, 11), (15, 6)] := ⟨_, Tryz.underlying120, fun w => by kernel_rfl⟩
instance : TyF Tryz.prog 120 0 0 3 := ⟨_, _, Tryz.underlying120, rfl, rfl, rfl, info_f (n := 1) (by kernel_rfl) (by decide)⟩
instance : TyF Tryz.prog 120 1 1 4 := ⟨_, _, Tryz.underlying120, rfl, rfl, rfl, info_f (n := 1) (by kernel_rfl) (by decide)⟩
instance : TyF Tryz.prog 120 2 2 4 := ⟨_, _, Tryz.underlying120, rfl, rfl, rfl, info_f (n := 1) (by kernel_rfl) (by decide)⟩
instance : TyF Tryz.prog 120 3 3 3 := ⟨_, _, Tryz.underlying120, rfl, rfl, rfl, info_f (n := 1) (by kernel_rfl) (by decide)⟩
instance : TyF Tryz.prog 120 4 4 114 := ⟨_, _, Tryz.underlying120, rfl, rfl, rfl, info_f (n := 11) (by kernel_rfl) (by decide)⟩
instance : TyF Tryz.prog 120 5 15 118 := ⟨_, _, Tryz.underlying120, rfl, rfl, rfl, info_f (n := 6) (by kernel_rfl) (by decide)⟩
-- 131: laws.KeyPath
instance : TyN Tryz.prog 131 1 := ⟨info_n (by kernel_rfl)⟩
instance : TyAg Tryz.prog 131 1 := ⟨fun w => by kernel_rfl, info_n (by kernel_rfl)⟩
theorem Tryz.z131 : (Tryz.prog.info? 131).map (·.zero) = some (some (.agg #[.slice none 0 0])) := by kernel_rfl
instance : TyZ Tryz.prog 131 [.nil] := ⟨by obtain ⟨i, h1, h2⟩ := info_z Tryz.z131; exact ⟨i, _, h1, h2, rfl⟩⟩
instance : TyE Tryz.prog 131 [.l []] := ⟨by obtain ⟨i, h1, h2⟩ := info_z Tryz.z131; exact ⟨i, _, h1, h2, rfl⟩⟩
instance : TyB Tryz.prog 131 [(0, 1)] := ⟨_, Tryz.underlying131, fun w => by kernel_rfl⟩
instance : TyF Tryz.prog 131 0 0 28 := ⟨_, _, Tryz.underlying131, rfl, rfl, rfl, info_f (n := 1) (by kernel_rfl) (by decide)⟩
-- 133: laws.LeakedKey
instance : TyN Tryz.prog 133 2 := ⟨info_n (by kernel_rfl)⟩
instance : TyAg Tryz.prog 133 2 := ⟨fun w => by kernel_rfl, info_n (by kernel_rfl)⟩
theorem Tryz.z133 : (Tryz.prog.info? 133).map (·.zero) = some (some (.agg #[.int .i64 0, .slice none 0 0])) := by kernel_rfl
instance : TyZ Tryz.prog 133 [.d false (.i .i64 0), .nil] := ⟨by obtain ⟨i, h1, h2⟩ := info_z Tryz.z133; exact ⟨i, _, h1, h2, rfl⟩⟩
instance : TyE Tryz.prog 133 [.i .i64 0, .l []] := ⟨by obtain ⟨i, h1, h2⟩ := info_z Tryz.z133; exact ⟨i, _, h1, h2, rfl⟩⟩
instance : TyB Tryz.prog 133 [(0, 1), (1, 1)] := ⟨_, Tryz.underlying133, fun w => by kernel_rfl⟩
instance : TyF Tryz.prog 133 0 0 3 := ⟨_, _, Tryz.underlying133, rfl, rfl, rfl, info_f (n := 1) (by kernel_rfl) (by decide)⟩
instance : TyF Tryz.prog 133 1 1 131 := ⟨_, _, Tryz.underlying133, rfl, rfl, rfl, info_f (n := 1) (by kernel_rfl) (by decide)⟩
-- 136: impl.NumberedPacket
instance : TyN Tryz.prog 136 2 := ⟨info_n (by kernel_rfl)⟩
instance : TyAg Tryz.prog 136 2 := ⟨fun w => by kernel_rfl, info_n (by kernel_rfl)⟩
theorem Tryz.z136 : (Tryz.prog.info? 136).map (·.zero) = some (some (.agg #[.int .i64 0, .slice none 0 0])) := by kernel_rfl
instance : TyZ Tryz.prog 136 [.d false (.i .i64 0), .nil] := ⟨by obtain ⟨i, h1, h2⟩ := info_z Tryz.z136; exact ⟨i, _, h1, h2, rfl⟩⟩
instance : TyE Tryz.prog 136 [.i .i64 0, .l []] := ⟨by obtain ⟨i, h1, h2⟩ := info_z Tryz.z136; exact ⟨i, _, h1, h2, rfl⟩⟩
instance : TyB Tryz.prog 136 [(0, 1), (1, 1)] := ⟨_, Tryz.underlying136, fun w => by kernel_rfl⟩
instance : TyF Tryz.prog 136 0 0 3 := ⟨_, _, Tryz.underlying136, rfl, rfl, rfl, info_f (n := 1) (by kernel_rfl) (by decide)⟩
instance : TyF Tryz.prog 136 1 1 22 := ⟨_, _, Tryz.underlying136, rfl, rfl, rfl, info_f (n := 1) (by kernel_rfl) (by decide)⟩
-- 145: impl.KeyPath
instance : TyN Tryz.prog 145 1 := ⟨info_n (by kernel_rfl)⟩
instance : TyAg Tryz.prog 145 1 := ⟨fun w => by kernel_rfl, info_n (by kernel_rfl)⟩
theorem Tryz.z145 : (Tryz.prog.info? 145).map (·.zero) = some (some (.agg #[.slice none 0 0])) := by kernel_rfl
instance : TyZ Tryz.prog 145 [.nil] := ⟨by obtain ⟨i, h1, h2⟩ := info_z Tryz.z145; exact ⟨i, _, h1, h2, rfl⟩⟩
instance : TyE Tryz.prog 145 [.l []] := ⟨by obtain ⟨i, h1, h2⟩ := info_z Tryz.z145; exact ⟨i, _, h1, h2, rfl⟩⟩
instance : TyB Tryz.prog 145 [(0, 1)] := ⟨_, Tryz.underlying145, fun w => by kernel_rfl⟩
instance : TyF Tryz.prog 145 0 0 28 := ⟨_, _, Tryz.underlying145, rfl, rfl, rfl, info_f (n := 1) (by kernel_rfl) (by decide)⟩
-- 147: impl.LeakedKey
instance : TyN Tryz.prog 147 2 := ⟨info_n (by kernel_rfl)⟩
instance : TyAg Tryz.prog 147 2 := ⟨fun w => by kernel_rfl, info_n (by kernel_rfl)⟩
theorem Tryz.z147 : (Tryz.prog.info? 147).map (·.zero) = some (some (.agg #[.int .i64 0, .slice none 0 0])) := by kernel_rfl
instance : TyZ Tryz.prog 147 [.d false (.i .i64 0), .nil] := ⟨by obtain ⟨i, h1, h2⟩ := info_z Tryz.z147; exact ⟨i, _, h1, h2, rfl⟩⟩
instance : TyE Tryz.prog 147 [.i .i64 0, .l []] := ⟨by obtain ⟨i, h1, h2⟩ := info_z Tryz.z147; exact ⟨i, _, h1, h2, rfl⟩⟩
instance : TyB Tryz.prog 147 [(0, 1), (1, 1)] := ⟨_, Tryz.underlying147, fun w => by kernel_rfl⟩
instance : TyF Tryz.prog 147 0 0 3 := ⟨_, _, Tryz.underlying147, rfl, rfl, rfl, info_f (n := 1) (by kernel_rfl) (by decide)⟩
instance : TyF Tryz.prog 147 1 1 145 := ⟨_, _, Tryz.underlying147, rfl, rfl, rfl, info_f (n := 1) (by kernel_rfl) (by decide)⟩
-- 164: spec.l1Cur
instance : TyN Tryz.prog 164 3 := ⟨info_n (by kernel_rfl)⟩
instance : TyAg Tryz.prog 164 3 := ⟨fun w => by kernel_rfl, info_n (by kernel_rfl)⟩
theorem Tryz.z164 : (Tryz.prog.info? 164).map (·.zero) = some (some (.agg #[.slice none 0 0, .int .i64 0, .int .i64 0])) := by kernel_rfl
instance : TyZ Tryz.prog 164 [.nil, .d false (.i .i64 0), .d false (.i .i64 0)] := ⟨by obtain ⟨i, h1, h2⟩ := info_z Tryz.z164; exact ⟨i, _, h1, h2, rfl⟩⟩
instance : TyE Tryz.prog 164 [.l [], .i .i64 0, .i .i64 0] := ⟨by obtain ⟨i, h1, h2⟩ := info_z Tryz.z164; exact ⟨i, _, h1, h2, rfl⟩⟩
instance : TyB Tryz.prog 164 [(0, 1), (1, 1), (2, 1)] := ⟨_, Tryz.underlying164, fun w => by kernel_rfl⟩
instance : TyF Tryz.prog 164 0 0 22 := ⟨_, _, Tryz.underlying164, rfl, rfl, rfl, info_f (n := 1) (by kernel_rfl) (by decide)⟩
instance : TyF Tryz.prog 164 1 1 3 := ⟨_, _, Tryz.underlying164, rfl, rfl, rfl, info_f (n := 1) (by kernel_rfl) (by decide)⟩
instance : TyF Tryz.prog 164 2 2 3 := ⟨_, _, Tryz.underlying164, rfl, rfl, rfl, info_f (n := 1) (by kernel_rfl) (by decide)⟩
-- 166: impl.Cell
instance : TyN Tryz.prog 166 2 := ⟨info_n (by kernel_rfl)⟩
instance : TyAg Tryz.prog 166 2 := ⟨fun w => by kernel_rfl, info_n (by kernel_rfl)⟩
theorem Tryz.z166 : (Tryz.prog.info? 166).map (·.zero) = some (some (.agg #[.int .i64 0, .slice none 0 0])) := by kernel_rfl
instance : TyZ Tryz.prog 166 [.d false (.i .i64 0), .nil] := ⟨by obtain ⟨i, h1, h2⟩ := info_z Tryz.z166; exact ⟨i, _, h1, h2, rfl⟩⟩
instance : TyE Tryz.prog 166 [.i .i64 0, .l []] := ⟨by obtain ⟨i, h1, h2⟩ := info_z Tryz.z166; exact ⟨i, _, h1, h2, rfl⟩⟩
instance : TyB Tryz.prog 166 [(0, 1), (1, 1)] := ⟨_, Tryz.underlying166, fun w => by kernel_rfl⟩
instance : TyF Tryz.prog 166 0 0 3 := ⟨_, _, Tryz.underlying166, rfl, rfl, rfl, info_f (n := 1) (by kernel_rfl) (by decide)⟩
instance : TyF Tryz.prog 166 1 1 28 := ⟨_, _, Tryz.underlying166, rfl, rfl, rfl, info_f (n := 1) (by kernel_rfl) (by decide)⟩
-- 185: laws.SubscriberID
instance : TyN Tryz.prog 185 2 := ⟨info_n (by kernel_rfl)⟩
instance : TyAg Tryz.prog 185 2 := ⟨fun w => by kernel_rfl, info_n (by kernel_rfl)⟩
theorem Tryz.z185 : (Tryz.prog.info? 185).map (·.zero) = some (some (.agg #[.int .i64 0, .int .i64 0])) := by kernel_rfl
instance : TyZ Tryz.prog 185 [.d false (.i .i64 0), .d false (.i .i64 0)] := ⟨by obtain ⟨i, h1, h2⟩ := info_z Tryz.z185; exact ⟨i, _, h1, h2, rfl⟩⟩
instance : TyE Tryz.prog 185 [.i .i64 0, .i .i64 0] := ⟨by obtain ⟨i, h1, h2⟩ := info_z Tryz.z185; exact ⟨i, _, h1, h2, rfl⟩⟩
instance : TyB Tryz.prog 185 [(0, 1), (1, 1)] := ⟨_, Tryz.underlying185, fun w => by kernel_rfl⟩
instance : TyF Tryz.prog 185 0 0 3 := ⟨_, _, Tryz.underlying185, rfl, rfl, rfl, info_f (n := 1) (by kernel_rfl) (by decide)⟩
instance : TyF Tryz.prog 185 1 1 3 := ⟨_, _, Tryz.underlying185, rfl, rfl, rfl, info_f (n := 1) (by kernel_rfl) (by decide)⟩
-- 187: laws.USIM
instance : TyN Tryz.prog 187 4 := ⟨info_n (by kernel_rfl)⟩
instance : TyAg Tryz.prog 187 4 := ⟨fun w => by kernel_rfl, info_n (by kernel_rfl)⟩
theorem Tryz.z187 : (Tryz.prog.info? 187).map (·.zero) = some (some (.agg #[.int .i64 0, .int .i64 0, .int .i64 0, .int .i64 0])) := by kernel_rfl
instance : TyZ Tryz.prog 187 [.d false (.i .i64 0), .d false (.i .i64 0), .d false (.i .i64 0), .d false (.i .i64 0)] := ⟨by obtain ⟨i, h1, h2⟩ := info_z Tryz.z187; exact ⟨i, _, h1, h2, rfl⟩⟩
instance : TyE Tryz.prog 187 [.i .i64 0, .i .i64 0, .i .i64 0, .i .i64 0] := ⟨by obtain ⟨i, h1, h2⟩ := info_z Tryz.z187; exact ⟨i, _, h1, h2, rfl⟩⟩
instance : TyB Tryz.prog 187 [(0, 2), (2, 1), (3, 1)] := ⟨_, Tryz.underlying187, fun w => by kernel_rfl⟩
instance : TyF Tryz.prog 187 0 0 185 := ⟨_, _, Tryz.underlying187, rfl, rfl, rfl, info_f (n := 2) (by kernel_rfl) (by decide)⟩
instance : TyF Tryz.prog 187 1 2 3 := ⟨_, _, Tryz.underlying187, rfl, rfl, rfl, info_f (n := 1) (by kernel_rfl) (by decide)⟩
instance : TyF Tryz.prog 187 2 3 3 := ⟨_, _, Tryz.underlying187, rfl, rfl, rfl, info_f (n := 1) (by kernel_rfl) (by decide)⟩
-- 188: []laws.NumberedPacket
instance : TyN Tryz.prog 188 1 := ⟨info_n (by kernel_rfl)⟩
instance : TySc Tryz.prog 188 := ⟨fun w => by kernel_rfl, info_n (by kernel_rfl)⟩
theorem Tryz.z188 : (Tryz.prog.info? 188).map (·.zero) = some (some (.slice none 0 0)) := by kernel_rfl
instance : TyZ Tryz.prog 188 [.nil] := ⟨by obtain ⟨i, h1, h2⟩ := info_z Tryz.z188; exact ⟨i, _, h1, h2, rfl⟩⟩
instance : TyE Tryz.prog 188 [.l []] := ⟨by obtain ⟨i, h1, h2⟩ := info_z Tryz.z188; exact ⟨i, _, h1, h2, rfl⟩⟩
instance : TySl Tryz.prog 188 316 2 32 := ⟨Tryz.underlying188, info_s (z := .agg #[.int .i64 0, .slice none 0 0]) (by kernel_rfl) rfl, by decide⟩
-- 189: []laws.Payload
instance : TyN Tryz.prog 189 1 := ⟨info_n (by kernel_rfl)⟩
instance : TySc Tryz.prog 189 := ⟨fun w => by kernel_rfl, info_n (by kernel_rfl)⟩
theorem Tryz.z189 : (Tryz.prog.info? 189).map (·.zero) = some (some (.slice none 0 0)) := by kernel_rfl
instance : TyZ Tryz.prog 189 [.nil] := ⟨by obtain ⟨i, h1, h2⟩ := info_z Tryz.z189; exact ⟨i, _, h1, h2, rfl⟩⟩
instance : TyE Tryz.prog 189 [.l []] := ⟨by obtain ⟨i, h1, h2⟩ := info_z Tryz.z189; exact ⟨i, _, h1, h2, rfl⟩⟩
instance : TySl Tryz.prog 189 298 1 24 := ⟨Tryz.underlying189, info_s (z := .agg #[.slice none 0 0]) (by kernel_rfl) rfl, by decide⟩
-- 191: laws.ReceiveWindow
instance : TyN Tryz.prog 191 3 := ⟨info_n (by kernel_rfl)⟩
instance : TyAg Tryz.prog 191 3 := ⟨fun w => by kernel_rfl, info_n (by kernel_rfl)⟩
theorem Tryz.z191 : (Tryz.prog.info? 191).map (·.zero) = some (some (.agg #[.int .i64 0, .slice none 0 0, .slice none 0 0])) := by kernel_rfl
instance : TyZ Tryz.prog 191 [.d false (.i .i64 0), .nil, .nil] := ⟨by obtain ⟨i, h1, h2⟩ := info_z Tryz.z191; exact ⟨i, _, h1, h2, rfl⟩⟩
instance : TyE Tryz.prog 191 [.i .i64 0, .l [], .l []] := ⟨by obtain ⟨i, h1, h2⟩ := info_z Tryz.z191; exact ⟨i, _, h1, h2, rfl⟩⟩
instance : TyB Tryz.prog 191 [(0, 1), (1, 1), (2, 1)] := ⟨_, Tryz.underlying191, fun w => by kernel_rfl⟩
instance : TyF Tryz.prog 191 0 0 3 := ⟨_, _, Tryz.underlying191, rfl, rfl, rfl, info_f (n := 1) (by kernel_rfl) (by decide)⟩
instance : TyF Tryz.prog 191 1 1 188 := ⟨_, _, Tryz.underlying191, rfl, rfl, rfl, info_f (n := 1) (by kernel_rfl) (by decide)⟩
instance : TyF Tryz.prog 191 2 2 189 := ⟨_, _, Tryz.underlying191, rfl, rfl, rfl, info_f (n := 1) (by kernel_rfl) (by decide)⟩
-- 193: laws.Device
instance : TyN Tryz.prog 193 14 := ⟨info_n (by kernel_rfl)⟩
instance : TyAg Tryz.prog 193 14 := ⟨fun w => by kernel_rfl, info_n (by kernel_rfl)⟩
theorem Tryz.z193 : (Tryz.prog.info? 193).map (·.zero) = some (some (.agg #[.int .i64 0, .int .i64 0, .int .i64 0, .int .i64 0, .int .i64 0, .int .i64 0, .int .i64 0, .int .i64 0, .int .i64 0, .bool false, .int .i64 0, .int .i64 0, .slice none 0 0, .slice none 0 0])) := by kernel_rfl
instance : TyZ Tryz.prog 193 [.d false (.i .i64 0), .d false (.i .i64 0), .d false (.i .i64 0), .d false (.i .i64 0), .d false (.i .i64 0), .d false (.i .i64 0), .d false (.i .i64 0), .d false (.i .i64 0), .d false (.i .i64 0), .d false (.b false), .d false (.i .i64 0), .d false (.i .i64 0), .nil, .nil] := ⟨by obtain ⟨i, h1, h2⟩ := info_z Tryz.z193; exact ⟨i, _, h1, h2, rfl⟩⟩
instance : TyE Tryz.prog 193 [.i .i64 0, .i .i64 0, .i .i64 0, .i .i64 0, .i .i64 0, .i .i64 0, .i .i64 0, .i .i64 0, .i .i64 0, .b false, .i .i64 0, .i .i64 0, .l [], .l []] := ⟨by obtain ⟨i, h1, h2⟩ := info_z Tryz.z193; exact ⟨i, _, h1, h2, rfl⟩⟩
instance : TyB Tryz.prog 193 [(0, 4), (4, 1), (5, 1), (6, 1), (7, 1), (8, 1), (9, 1), (10, 1), (11, 3)] := ⟨_, Tryz.underlying193, fun w => by kernel_rfl⟩
instance : TyF Tryz.prog 193 0 0 187 := ⟨_, _, Tryz.underlying193, rfl, rfl, rfl, info_f (n := 4) (by kernel_rfl) (by decide)⟩
instance : TyF Tryz.prog 193 1 4 3 := ⟨_, _, Tryz.underlying193, rfl, rfl, rfl, info_f (n := 1) (by kernel_rfl) (by decide)⟩
instance : TyF Tryz.prog 193 2 5 3 := ⟨_, _, Tryz.underlying193, rfl, rfl, rfl, info_f (n := 1) (by kernel_rfl) (by decide)⟩
instance : TyF Tryz.prog 193 3 6 3 := ⟨_, _, Tryz.underlying193, rfl, rfl, rfl, info_f (n := 1) (by kernel_rfl) (by decide)⟩
instance : TyF Tryz.prog 193 4 7 3 := ⟨_, _, Tryz.underlying193, rfl, rfl, rfl, info_f (n := 1) (by kernel_rfl) (by decide)⟩
instance : TyF Tryz.prog 193 5 8 3 := ⟨_, _, Tryz.underlying193, rfl, rfl, rfl, info_f (n := 1) (by kernel_rfl) (by decide)⟩
instance : TyF Tryz.prog 193 6 9 4 := ⟨_, _, Tryz.underlying193, rfl, rfl, rfl, info_f (n := 1) (by kernel_rfl) (by decide)⟩
instance : TyF Tryz.prog 193 7 10 3 := ⟨_, _, Tryz.underlying193, rfl, rfl, rfl, info_f (n := 1) (by kernel_rfl) (by decide)⟩
instance : TyF Tryz.prog 193 8 11 191 := ⟨_, _, Tryz.underlying193, rfl, rfl, rfl, info_f (n := 3) (by kernel_rfl) (by decide)⟩
-- 196: laws.SubscriberRecord
instance : TyN Tryz.prog 196 4 := ⟨info_n (by kernel_rfl)⟩
instance : TyAg Tryz.prog 196 4 := ⟨fun w => by kernel_rfl, info_n (by kernel_rfl)⟩
theorem Tryz.z196 : (Tryz.prog.info? 196).map (·.zero) = some (some (.agg #[.int .i64 0, .int .i64 0, .int .i64 0, .int .i64 0])) := by kernel_rfl
instance : TyZ Tryz.prog 196 [.d false (.i .i64 0), .d false (.i .i64 0), .d false (.i .i64 0), .d false (.i .i64 0)] := ⟨by obtain ⟨i, h1, h2⟩ := info_z Tryz.z196; exact ⟨i, _, h1, h2, rfl⟩⟩
instance : TyE Tryz.prog 196 [.i .i64 0, .i .i64 0, .i .i64 0, .i .i64 0] := ⟨by obtain ⟨i, h1, h2⟩ := info_z Tryz.z196; exact ⟨i, _, h1, h2, rfl⟩⟩
instance : TyB Tryz.prog 196 [(0, 2), (2, 1), (3, 1)] := ⟨_, Tryz.underlying196, fun w => by kernel_rfl⟩
instance : TyF Tryz.prog 196 0 0 185 := ⟨_, _, Tryz.underlying196, rfl, rfl, rfl, info_f (n := 2) (by kernel_rfl) (by decide)⟩
instance : TyF Tryz.prog 196 1 2 3 := ⟨_, _, Tryz.underlying196, rfl, rfl, rfl, info_f (n := 1) (by kernel_rfl) (by decide)⟩
instance : TyF Tryz.prog 196 2 3 3 := ⟨_, _, Tryz.underlying196, rfl, rfl, rfl, info_f (n := 1) (by kernel_rfl) (by decide)⟩
-- 197: laws.Subscription
instance : TyN Tryz.prog 197 4 := ⟨info_n (by kernel_rfl)⟩
instance : TyAg Tryz.prog 197 4 := ⟨fun w => by kernel_rfl, info_n (by kernel_rfl)⟩
theorem Tryz.z197 : (Tryz.prog.info? 197).map (·.zero) = some (some (.agg #[.int .i64 0, .int .i64 0, .int .i64 0, .slice none 0 0])) := by kernel_rfl
instance : TyZ Tryz.prog 197 [.d false (.i .i64 0), .d false (.i .i64 0), .d false (.i .i64 0), .nil] := ⟨by obtain ⟨i, h1, h2⟩ := info_z Tryz.z197; exact ⟨i, _, h1, h2, rfl⟩⟩
instance : TyE Tryz.prog 197 [.i .i64 0, .i .i64 0, .i .i64 0, .l []] := ⟨by obtain ⟨i, h1, h2⟩ := info_z Tryz.z197; exact ⟨i, _, h1, h2, rfl⟩⟩
instance : TyB Tryz.prog 197 [(0, 1), (1, 1), (2, 1), (3, 1)] := ⟨_, Tryz.underlying197, fun w => by kernel_rfl⟩
instance : TyF Tryz.prog 197 0 0 3 := ⟨_, _, Tryz.underlying197, rfl, rfl, rfl, info_f (n := 1) (by kernel_rfl) (by decide)⟩
instance : TyF Tryz.prog 197 1 1 3 := ⟨_, _, Tryz.underlying197, rfl, rfl, rfl, info_f (n := 1) (by kernel_rfl) (by decide)⟩
instance : TyF Tryz.prog 197 2 2 3 := ⟨_, _, Tryz.underlying197, rfl, rfl, rfl, info_f (n := 1) (by kernel_rfl) (by decide)⟩
instance : TyF Tryz.prog 197 3 3 28 := ⟨_, _, Tryz.underlying197, rfl, rfl, rfl, info_f (n := 1) (by kernel_rfl) (by decide)⟩
-- 198: laws.AuthVector
instance : TyN Tryz.prog 198 5 := ⟨info_n (by kernel_rfl)⟩
instance : TyAg Tryz.prog 198 5 := ⟨fun w => by kernel_rfl, info_n (by kernel_rfl)⟩
theorem Tryz.z198 : (Tryz.prog.info? 198).map (·.zero) = some (some (.agg #[.int .i64 0, .int .i64 0, .int .i64 0, .int .i64 0, .int .i64 0])) := by kernel_rfl
instance : TyZ Tryz.prog 198 [.d false (.i .i64 0), .d false (.i .i64 0), .d false (.i .i64 0), .d false (.i .i64 0), .d false (.i .i64 0)] := ⟨by obtain ⟨i, h1, h2⟩ := info_z Tryz.z198; exact ⟨i, _, h1, h2, rfl⟩⟩
instance : TyE Tryz.prog 198 [.i .i64 0, .i .i64 0, .i .i64 0, .i .i64 0, .i .i64 0] := ⟨by obtain ⟨i, h1, h2⟩ := info_z Tryz.z198; exact ⟨i, _, h1, h2, rfl⟩⟩
instance : TyB Tryz.prog 198 [(0, 1), (1, 1), (2, 1), (3, 1), (4, 1)] := ⟨_, Tryz.underlying198, fun w => by kernel_rfl⟩
instance : TyF Tryz.prog 198 0 0 3 := ⟨_, _, Tryz.underlying198, rfl, rfl, rfl, info_f (n := 1) (by kernel_rfl) (by decide)⟩
instance : TyF Tryz.prog 198 1 1 3 := ⟨_, _, Tryz.underlying198, rfl, rfl, rfl, info_f (n := 1) (by kernel_rfl) (by decide)⟩
instance : TyF Tryz.prog 198 2 2 3 := ⟨_, _, Tryz.underlying198, rfl, rfl, rfl, info_f (n := 1) (by kernel_rfl) (by decide)⟩
instance : TyF Tryz.prog 198 3 3 3 := ⟨_, _, Tryz.underlying198, rfl, rfl, rfl, info_f (n := 1) (by kernel_rfl) (by decide)⟩
instance : TyF Tryz.prog 198 4 4 3 := ⟨_, _, Tryz.underlying198, rfl, rfl, rfl, info_f (n := 1) (by kernel_rfl) (by decide)⟩
-- 199: laws.PagingState
instance : TyN Tryz.prog 199 3 := ⟨info_n (by kernel_rfl)⟩
instance : TyAg Tryz.prog 199 3 := ⟨fun w => by kernel_rfl, info_n (by kernel_rfl)⟩
theorem Tryz.z199 : (Tryz.prog.info? 199).map (·.zero) = some (some (.agg #[.int .i64 0, .int .i64 0, .int .i64 0])) := by kernel_rfl
instance : TyZ Tryz.prog 199 [.d false (.i .i64 0), .d false (.i .i64 0), .d false (.i .i64 0)] := ⟨by obtain ⟨i, h1, h2⟩ := info_z Tryz.z199; exact ⟨i, _, h1, h2, rfl⟩⟩
instance : TyE Tryz.prog 199 [.i .i64 0, .i .i64 0, .i .i64 0] := ⟨by obtain ⟨i, h1, h2⟩ := info_z Tryz.z199; exact ⟨i, _, h1, h2, rfl⟩⟩
instance : TyB Tryz.prog 199 [(0, 1), (1, 1), (2, 1)] := ⟨_, Tryz.underlying199, fun w => by kernel_rfl⟩
instance : TyF Tryz.prog 199 0 0 3 := ⟨_, _, Tryz.underlying199, rfl, rfl, rfl, info_f (n := 1) (by kernel_rfl) (by decide)⟩
instance : TyF Tryz.prog 199 1 1 3 := ⟨_, _, Tryz.underlying199, rfl, rfl, rfl, info_f (n := 1) (by kernel_rfl) (by decide)⟩
instance : TyF Tryz.prog 199 2 2 3 := ⟨_, _, Tryz.underlying199, rfl, rfl, rfl, info_f (n := 1) (by kernel_rfl) (by decide)⟩
-- 201: laws.SendWindow
instance : TyN Tryz.prog 201 2 := ⟨info_n (by kernel_rfl)⟩
instance : TyAg Tryz.prog 201 2 := ⟨fun w => by kernel_rfl, info_n (by kernel_rfl)⟩
theorem Tryz.z201 : (Tryz.prog.info? 201).map (·.zero) = some (some (.agg #[.int .i64 0, .slice none 0 0])) := by kernel_rfl
instance : TyZ Tryz.prog 201 [.d false (.i .i64 0), .nil] := ⟨by obtain ⟨i, h1, h2⟩ := info_z Tryz.z201; exact ⟨i, _, h1, h2, rfl⟩⟩
instance : TyE Tryz.prog 201 [.i .i64 0, .l []] := ⟨by obtain ⟨i, h1, h2⟩ := info_z Tryz.z201; exact ⟨i, _, h1, h2, rfl⟩⟩
instance : TyB Tryz.prog 201 [(0, 1), (1, 1)] := ⟨_, Tryz.underlying201, fun w => by kernel_rfl⟩
instance : TyF Tryz.prog 201 0 0 3 := ⟨_, _, Tryz.underlying201, rfl, rfl, rfl, info_f (n := 1) (by kernel_rfl) (by decide)⟩
instance : TyF Tryz.prog 201 1 1 188 := ⟨_, _, Tryz.underlying201, rfl, rfl, rfl, info_f (n := 1) (by kernel_rfl) (by decide)⟩
-- 202: laws.Quota
instance : TyN Tryz.prog 202 3 := ⟨info_n (by kernel_rfl)⟩
instance : TyAg Tryz.prog 202 3 := ⟨fun w => by kernel_rfl, info_n (by kernel_rfl)⟩
theorem Tryz.z202 : (Tryz.prog.info? 202).map (·.zero) = some (some (.agg #[.int .i64 0, .int .i64 0, .int .i64 0])) := by kernel_rfl
instance : TyZ Tryz.prog 202 [.d false (.i .i64 0), .d false (.i .i64 0), .d false (.i .i64 0)] := ⟨by obtain ⟨i, h1, h2⟩ := info_z Tryz.z202; exact ⟨i, _, h1, h2, rfl⟩⟩
instance : TyE Tryz.prog 202 [.i .i64 0, .i .i64 0, .i .i64 0] := ⟨by obtain ⟨i, h1, h2⟩ := info_z Tryz.z202; exact ⟨i, _, h1, h2, rfl⟩⟩
instance : TyB Tryz.prog 202 [(0, 1), (1, 1), (2, 1)] := ⟨_, Tryz.underlying202, fun w => by kernel_rfl⟩
instance : TyF Tryz.prog 202 0 0 3 := ⟨_, _, Tryz.underlying202, rfl, rfl, rfl, info_f (n := 1) (by kernel_rfl) (by decide)⟩
instance : TyF Tryz.prog 202 1 1 3 := ⟨_, _, Tryz.underlying202, rfl, rfl, rfl, info_f (n := 1) (by kernel_rfl) (by decide)⟩
instance : TyF Tryz.prog 202 2 2 3 := ⟨_, _, Tryz.underlying202, rfl, rfl, rfl, info_f (n := 1) (by kernel_rfl) (by decide)⟩
-- 204: laws.Session
instance : TyN Tryz.prog 204 30 := ⟨info_n (by kernel_rfl)⟩
instance : TyAg Tryz.prog 204 30 := ⟨fun w => by kernel_rfl, info_n (by kernel_rfl)⟩
theorem Tryz.z204 : (Tryz.prog.info? 204).map (·.zero) = some (some (.agg #[.int .i64 0, .int .i64 0, .int .i64 0, .int .i64 0, .int .i64 0, .int .i64 0, .int .i64 0, .slice none 0 0, .int .i64 0, .int .i64 0, .int .i64 0, .int .i64 0, .int .i64 0, .int .i64 0, .int .i64 0, .int .i64 0, .int .i64 0, .int .i64 0, .int .i64 0, .int .i64 0, .int .i64 0, .int .i64 0, .int .i64 0, .slice none 0 0, .int .i64 0, .slice none 0 0, .int .i64 0, .int .i64 0, .int .i64 0, .int .i64 0])) := by kernel_rfl
instance : TyZ Tryz.prog 204 [.d false (.i .i64 0), .d false (.i .i64 0), .d false (.i .i64 0), .d false (.i .i64 0), .d false (.i .i64 0), .d false (.i .i64 0), .d false (.i .i64 0), .nil, .d false (.i .i64 0), .d false (.i .i64 0), .d false (.i .i64 0), .d false (.i .i64 0), .d false (.i .i64 0), .d false (.i .i64 0), .d false (.i .i64 0), .d false (.i .i64 0), .d false (.i .i64 0), .d false (.i .i64 0), .d false (.i .i64 0), .d false (.i .i64 0), .d false (.i .i64 0), .d false (.i .i64 0), .d false (.i .i64 0), .nil, .d false (.i .i64 0), .nil, .d false (.i .i64 0), .d false (.i .i64 0), .d false (.i .i64 0), .d false (.i .i64 0)] := ⟨by obtain ⟨i, h1, h2⟩ := info_z Tryz.z204; exact ⟨i, _, h1, h2, rfl⟩⟩
instance : TyE Tryz.prog 204 [.i .i64 0, .i .i64 0, .i .i64 0, .i .i64 0, .i .i64 0, .i .i64 0, .i .i64 0, .l [], .i .i64 0, .i .i64 0, .i .i64 0, .i .i64 0, .i .i64 0, .i .i64 0, .i .i64 0, .i .i64 0, .i .i64 0, .i .i64 0, .i .i64 0, .i .i64 0, .i .i64 0, .i .i64 0, .i .i64 0, .l [], .i .i64 0, .l [], .i .i64 0, .i .i64 0, .i .i64 0, .i .i64 0] := ⟨by obtain ⟨i, h1, h2⟩ := info_z Tryz.z204; exact ⟨i, _, h1, h2, rfl⟩⟩
instance : TyB Tryz.prog 204 [(0, 4), (4, 4), (8, 1), (9, 5), (14, 1), (15, 1), (16, 1), (17, 1), (18, 1), (19, 1), (20, 3), (23, 1), (24, 2), (26, 1), (27, 3)] := ⟨_, Tryz.underlying204, fun w => by kernel_rfl⟩
instance : TyF Tryz.prog 204 0 0 196 := ⟨_, _, Tryz.underlying204, rfl, rfl, rfl, info_f (n := 4) (by kernel_rfl) (by decide)⟩
instance : TyF Tryz.prog 204 1 4 197 := ⟨_, _, Tryz.underlying204, rfl, rfl, rfl, info_f (n := 4) (by kernel_rfl) (by decide)⟩
instance : TyF Tryz.prog 204 2 8 3 := ⟨_, _, Tryz.underlying204, rfl, rfl, rfl, info_f (n := 1) (by kernel_rfl) (by decide)⟩
instance : TyF Tryz.prog 204 3 9 198 := ⟨_, _, Tryz.underlying204, rfl, rfl, rfl, info_f (n := 5) (by kernel_rfl) (by decide)⟩
instance : TyF Tryz.prog 204 4 14 3 := ⟨_, _, Tryz.underlying204, rfl, rfl, rfl, info_f (n := 1) (by kernel_rfl) (by decide)⟩
instance : TyF Tryz.prog 204 5 15 3 := ⟨_, _, Tryz.underlying204, rfl, rfl, rfl, info_f (n := 1) (by kernel_rfl) (by decide)⟩
instance : TyF Tryz.prog 204 6 16 3 := ⟨_, _, Tryz.underlying204, rfl, rfl, rfl, info_f (n := 1) (by kernel_rfl) (by decide)⟩
instance : TyF Tryz.prog 204 7 17 3 := ⟨_, _, Tryz.underlying204, rfl, rfl, rfl, info_f (n := 1) (by kernel_rfl) (by decide)⟩
instance : TyF Tryz.prog 204 8 18 3 := ⟨_, _, Tryz.underlying204, rfl, rfl, rfl, info_f (n := 1) (by kernel_rfl) (by decide)⟩
instance : TyF Tryz.prog 204 9 19 3 := ⟨_, _, Tryz.underlying204, rfl, rfl, rfl, info_f (n := 1) (by kernel_rfl) (by decide)⟩
instance : TyF Tryz.prog 204 10 20 199 := ⟨_, _, Tryz.underlying204, rfl, rfl, rfl, info_f (n := 3) (by kernel_rfl) (by decide)⟩
instance : TyF Tryz.prog 204 11 23 189 := ⟨_, _, Tryz.underlying204, rfl, rfl, rfl, info_f (n := 1) (by kernel_rfl) (by decide)⟩
instance : TyF Tryz.prog 204 12 24 201 := ⟨_, _, Tryz.underlying204, rfl, rfl, rfl, info_f (n := 2) (by kernel_rfl) (by decide)⟩
instance : TyF Tryz.prog 204 13 26 3 := ⟨_, _, Tryz.underlying204, rfl, rfl, rfl, info_f (n := 1) (by kernel_rfl) (by decide)⟩
instance : TyF Tryz.prog 204 14 27 202 := ⟨_, _, Tryz.underlying204, rfl, rfl, rfl, info_f (n := 3) (by kernel_rfl) (by decide)⟩
-- 206: []laws.Reservation
instance : TyN Tryz.prog 206 1 := ⟨info_n (by kernel_rfl)⟩
instance : TySc Tryz.prog 206 := ⟨fun w => by kernel_rfl, info_n (by kernel_rfl)⟩
theorem Tryz.z206 : (Tryz.prog.info? 206).map (·.zero) = some (some (.slice none 0 0)) := by kernel_rfl
instance : TyZ Tryz.prog 206 [.nil] := ⟨by obtain ⟨i, h1, h2⟩ := info_z Tryz.z206; exact ⟨i, _, h1, h2, rfl⟩⟩
instance : TyE Tryz.prog 206 [.l []] := ⟨by obtain ⟨i, h1, h2⟩ := info_z Tryz.z206; exact ⟨i, _, h1, h2, rfl⟩⟩
instance : TySl Tryz.prog 206 306 2 16 := ⟨Tryz.underlying206, info_s (z := .agg #[.int .i64 0, .int .i64 0]) (by kernel_rfl) rfl, by decide⟩
-- 208: laws.Account
instance : TyN Tryz.prog 208 4 := ⟨info_n (by kernel_rfl)⟩
instance : TyAg Tryz.prog 208 4 := ⟨fun w => by kernel_rfl, info_n (by kernel_rfl)⟩
theorem Tryz.z208 : (Tryz.prog.info? 208).map (·.zero) = some (some (.agg #[.int .i64 0, .int .i64 0, .int .i64 0, .slice none 0 0])) := by kernel_rfl
instance : TyZ Tryz.prog 208 [.d false (.i .i64 0), .d false (.i .i64 0), .d false (.i .i64 0), .nil] := ⟨by obtain ⟨i, h1, h2⟩ := info_z Tryz.z208; exact ⟨i, _, h1, h2, rfl⟩⟩
instance : TyE Tryz.prog 208 [.i .i64 0, .i .i64 0, .i .i64 0, .l []] := ⟨by obtain ⟨i, h1, h2⟩ := info_z Tryz.z208; exact ⟨i, _, h1, h2, rfl⟩⟩
instance : TyB Tryz.prog 208 [(0, 1), (1, 1), (2, 1), (3, 1)] := ⟨_, Tryz.underlying208, fun w => by kernel_rfl⟩
instance : TyF Tryz.prog 208 0 0 3 := ⟨_, _, Tryz.underlying208, rfl, rfl, rfl, info_f (n := 1) (by kernel_rfl) (by decide)⟩
instance : TyF Tryz.prog 208 1 1 3 := ⟨_, _, Tryz.underlying208, rfl, rfl, rfl, info_f (n := 1) (by kernel_rfl) (by decide)⟩
instance : TyF Tryz.prog 208 2 2 3 := ⟨_, _, Tryz.underlying208, rfl, rfl, rfl, info_f (n := 1) (by kernel_rfl) (by decide)⟩
instance : TyF Tryz.prog 208 3 3 206 := ⟨_, _, Tryz.underlying208, rfl, rfl, rfl, info_f (n := 1) (by kernel_rfl) (by decide)⟩
-- 211: laws.Signal
instance : TyN Tryz.prog 211 11 := ⟨info_n (by kernel_rfl)⟩
instance : TyAg Tryz.prog 211 11 := ⟨fun w => by kernel_rfl, info_n (by kernel_rfl)⟩
theorem Tryz.z211 : (Tryz.prog.info? 211).map (·.zero) = some (some (.agg #[.int .i64 0, .int .i64 0, .int .i64 0, .int .i64 0, .int .i64 0, .int .i64 0, .int .i64 0, .int .i64 0, .int .i64 0, .int .i64 0, .int .i64 0])) := by kernel_rfl
instance : TyZ Tryz.prog 211 [.d false (.i .i64 0), .d false (.i .i64 0), .d false (.i .i64 0), .d false (.i .i64 0), .d false (.i .i64 0), .d false (.i .i64 0), .d false (.i .i64 0), .d false (.i .i64 0), .d false (.i .i64 0), .d false (.i .i64 0), .d false (.i .i64 0)] := ⟨by obtain ⟨i, h1, h2⟩ := info_z Tryz.z211; exact ⟨i, _, h1, h2, rfl⟩⟩
instance : TyE Tryz.prog 211 [.i .i64 0, .i .i64 0, .i .i64 0, .i .i64 0, .i .i64 0, .i .i64 0, .i .i64 0, .i .i64 0, .i .i64 0, .i .i64 0, .i .i64 0] := ⟨by obtain ⟨i, h1, h2⟩ := info_z Tryz.z211; exact ⟨i, _, h1, h2, rfl⟩⟩
instance : TyB Tryz.prog 211 [(0, 1), (1, 1), (2, 1), (3, 1), (4, 1), (5, 5), (10, 1)] := ⟨_, Tryz.underlying211, fun w => by kernel_rfl⟩
instance : TyF Tryz.prog 211 0 0 3 := ⟨_, _, Tryz.underlying211, rfl, rfl, rfl, info_f (n := 1) (by kernel_rfl) (by decide)⟩
instance : TyF Tryz.prog 211 1 1 3 := ⟨_, _, Tryz.underlying211, rfl, rfl, rfl, info_f (n := 1) (by kernel_rfl) (by decide)⟩
instance : TyF Tryz.prog 211 2 2 3 := ⟨_, _, Tryz.underlying211, rfl, rfl, rfl, info_f (n := 1) (by kernel_rfl) (by decide)⟩
instance : TyF Tryz.prog 211 3 3 3 := ⟨_, _, Tryz.underlying211, rfl, rfl, rfl, info_f (n := 1) (by kernel_rfl) (by decide)⟩
instance : TyF Tryz.prog 211 4 4 3 := ⟨_, _, Tryz.underlying211, rfl, rfl, rfl, info_f (n := 1) (by kernel_rfl) (by decide)⟩
instance : TyF Tryz.prog 211 5 5 198 := ⟨_, _, Tryz.underlying211, rfl, rfl, rfl, info_f (n := 5) (by kernel_rfl) (by decide)⟩
instance : TyF Tryz.prog 211 6 10 3 := ⟨_, _, Tryz.underlying211, rfl, rfl, rfl, info_f (n := 1) (by kernel_rfl) (by decide)⟩
-- 212: laws.SecuredMessage
instance : TyN Tryz.prog 212 4 := ⟨info_n (by kernel_rfl)⟩
instance : TyAg Tryz.prog 212 4 := ⟨fun w => by kernel_rfl, info_n (by kernel_rfl)⟩
theorem Tryz.z212 : (Tryz.prog.info? 212).map (·.zero) = some (some (.agg #[.int .i64 0, .int .i64 0, .slice none 0 0, .int .i64 0])) := by kernel_rfl
instance : TyZ Tryz.prog 212 [.d false (.i .i64 0), .d false (.i .i64 0), .nil, .d false (.i .i64 0)] := ⟨by obtain ⟨i, h1, h2⟩ := info_z Tryz.z212; exact ⟨i, _, h1, h2, rfl⟩⟩
instance : TyE Tryz.prog 212 [.i .i64 0, .i .i64 0, .l [], .i .i64 0] := ⟨by obtain ⟨i, h1, h2⟩ := info_z Tryz.z212; exact ⟨i, _, h1, h2, rfl⟩⟩
instance : TyB Tryz.prog 212 [(0, 1), (1, 1), (2, 1), (3, 1)] := ⟨_, Tryz.underlying212, fun w => by kernel_rfl⟩
instance : TyF Tryz.prog 212 0 0 3 := ⟨_, _, Tryz.underlying212, rfl, rfl, rfl, info_f (n := 1) (by kernel_rfl) (by decide)⟩
instance : TyF Tryz.prog 212 1 1 3 := ⟨_, _, Tryz.underlying212, rfl, rfl, rfl, info_f (n := 1) (by kernel_rfl) (by decide)⟩
instance : TyF Tryz.prog 212 2 2 22 := ⟨_, _, Tryz.underlying212, rfl, rfl, rfl, info_f (n := 1) (by kernel_rfl) (by decide)⟩
instance : TyF Tryz.prog 212 3 3 3 := ⟨_, _, Tryz.underlying212, rfl, rfl, rfl, info_f (n := 1) (by kernel_rfl) (by decide)⟩
-- 214: laws.RadioPacket
instance : TyN Tryz.prog 214 6 := ⟨info_n (by kernel_rfl)⟩
instance : TyAg Tryz.prog 214 6 := ⟨fun w => by kernel_rfl, info_n (by kernel_rfl)⟩
theorem Tryz.z214 : (Tryz.prog.info? 214).map (·.zero) = some (some (.agg #[.int .i64 0, .int .i64 0, .int .i64 0, .int .i64 0, .slice none 0 0, .int .i64 0])) := by kernel_rfl
instance : TyZ Tryz.prog 214 [.d false (.i .i64 0), .d false (.i .i64 0), .d false (.i .i64 0), .d false (.i .i64 0), .nil, .d false (.i .i64 0)] := ⟨by obtain ⟨i, h1, h2⟩ := info_z Tryz.z214; exact ⟨i, _, h1, h2, rfl⟩⟩
instance : TyE Tryz.prog 214 [.i .i64 0, .i .i64 0, .i .i64 0, .i .i64 0, .l [], .i .i64 0] := ⟨by obtain ⟨i, h1, h2⟩ := info_z Tryz.z214; exact ⟨i, _, h1, h2, rfl⟩⟩
instance : TyB Tryz.prog 214 [(0, 1), (1, 1), (2, 4)] := ⟨_, Tryz.underlying214, fun w => by kernel_rfl⟩
instance : TyF Tryz.prog 214 0 0 3 := ⟨_, _, Tryz.underlying214, rfl, rfl, rfl, info_f (n := 1) (by kernel_rfl) (by decide)⟩
instance : TyF Tryz.prog 214 1 1 3 := ⟨_, _, Tryz.underlying214, rfl, rfl, rfl, info_f (n := 1) (by kernel_rfl) (by decide)⟩
instance : TyF Tryz.prog 214 2 2 212 := ⟨_, _, Tryz.underlying214, rfl, rfl, rfl, info_f (n := 4) (by kernel_rfl) (by decide)⟩
-- 216: laws.Flight
instance : TyN Tryz.prog 216 21 := ⟨info_n (by kernel_rfl)⟩
instance : TyAg Tryz.prog 216 21 := ⟨fun w => by kernel_rfl, info_n (by kernel_rfl)⟩
theorem Tryz.z216 : (Tryz.prog.info? 216).map (·.zero) = some (some (.agg #[.int .i64 0, .bool false, .bool false, .int .i64 0, .int .i64 0, .int .i64 0, .int .i64 0, .int .i64 0, .int .i64 0, .int .i64 0, .int .i64 0, .int .i64 0, .int .i64 0, .int .i64 0, .int .i64 0, .int .i64 0, .int .i64 0, .int .i64 0, .int .i64 0, .slice none 0 0, .int .i64 0])) := by kernel_rfl
instance : TyZ Tryz.prog 216 [.d false (.i .i64 0), .d false (.b false), .d false (.b false), .d false (.i .i64 0), .d false (.i .i64 0), .d false (.i .i64 0), .d false (.i .i64 0), .d false (.i .i64 0), .d false (.i .i64 0), .d false (.i .i64 0), .d false (.i .i64 0), .d false (.i .i64 0), .d false (.i .i64 0), .d false (.i .i64 0), .d false (.i .i64 0), .d false (.i .i64 0), .d false (.i .i64 0), .d false (.i .i64 0), .d false (.i .i64 0), .nil, .d false (.i .i64 0)] := ⟨by obtain ⟨i, h1, h2⟩ := info_z Tryz.z216; exact ⟨i, _, h1, h2, rfl⟩⟩
instance : TyE Tryz.prog 216 [.i .i64 0, .b false, .b false, .i .i64 0, .i .i64 0, .i .i64 0, .i .i64 0, .i .i64 0, .i .i64 0, .i .i64 0, .i .i64 0, .i .i64 0, .i .i64 0, .i .i64 0, .i .i64 0, .i .i64 0, .i .i64 0, .i .i64 0, .i .i64 0, .l [], .i .i64 0] := ⟨by obtain ⟨i, h1, h2⟩ := info_z Tryz.z216; exact ⟨i, _, h1, h2, rfl⟩⟩
instance : TyB Tryz.prog 216 [(0, 1), (1, 1), (2, 1), (3, 1), (4, 11), (15, 6)] := ⟨_, Tryz.underlying216, fun w => by kernel_rfl⟩
instance : TyF Tryz.prog 216 0 0 3 := ⟨_, _, Tryz.underlying216, rfl, rfl, rfl, info_f (n := 1) (by kernel_rfl) (by decide)⟩
instance : TyF Tryz.prog 216 1 1 4 := ⟨_, _, Tryz.underlying216, rfl, rfl, rfl, info_f (n := 1) (by kernel_rfl) (by decide)⟩
instance : TyF Tryz.prog 216 2 2 4 := ⟨_, _, Tryz.underlying216, rfl, rfl, rfl, info_f (n := 1) (by kernel_rfl) (by decide)⟩
instance : TyF Tryz.prog 216 3 3 3 := ⟨_, _, Tryz.underlying216, rfl, rfl, rfl, info_f (n := 1) (by kernel_rfl) (by decide)⟩
instance : TyF Tryz.prog 216 4 4 211 := ⟨_, _, Tryz.underlying216, rfl, rfl, rfl, info_f (n := 11) (by kernel_rfl) (by decide)⟩
instance : TyF Tryz.prog 216 5 15 214 := ⟨_, _, Tryz.underlying216, rfl, rfl, rfl, info_f (n := 6) (by kernel_rfl) (by decide)⟩
-- 249: impl.Reservation
instance : TyN Tryz.prog 249 2 := ⟨info_n (by kernel_rfl)⟩
instance : TyAg Tryz.prog 249 2 := ⟨fun w => by kernel_rfl, info_n (by kernel_rfl)⟩
theorem Tryz.z249 : (Tryz.prog.info? 249).map (·.zero) = some (some (.agg #[.int .i64 0, .int .i64 0])) := by kernel_rfl
instance : TyZ Tryz.prog 249 [.d false (.i .i64 0), .d false (.i .i64 0)] := ⟨by obtain ⟨i, h1, h2⟩ := info_z Tryz.z249; exact ⟨i, _, h1, h2, rfl⟩⟩
instance : TyE Tryz.prog 249 [.i .i64 0, .i .i64 0] := ⟨by obtain ⟨i, h1, h2⟩ := info_z Tryz.z249; exact ⟨i, _, h1, h2, rfl⟩⟩
instance : TyB Tryz.prog 249 [(0, 1), (1, 1)] := ⟨_, Tryz.underlying249, fun w => by kernel_rfl⟩
instance : TyF Tryz.prog 249 0 0 3 := ⟨_, _, Tryz.underlying249, rfl, rfl, rfl, info_f (n := 1) (by kernel_rfl) (by decide)⟩
instance : TyF Tryz.prog 249 1 1 3 := ⟨_, _, Tryz.underlying249, rfl, rfl, rfl, info_f (n := 1) (by kernel_rfl) (by decide)⟩
-- 255: impl.Payload
instance : TyN Tryz.prog 255 1 := ⟨info_n (by kernel_rfl)⟩
instance : TyAg Tryz.prog 255 1 := ⟨fun w => by kernel_rfl, info_n (by kernel_rfl)⟩
theorem Tryz.z255 : (Tryz.prog.info? 255).map (·.zero) = some (some (.agg #[.slice none 0 0])) := by kernel_rfl
instance : TyZ Tryz.prog 255 [.nil] := ⟨by obtain ⟨i, h1, h2⟩ := info_z Tryz.z255; exact ⟨i, _, h1, h2, rfl⟩⟩
instance : TyE Tryz.prog 255 [.l []] := ⟨by obtain ⟨i, h1, h2⟩ := info_z Tryz.z255; exact ⟨i, _, h1, h2, rfl⟩⟩
instance : TyB Tryz.prog 255 [(0, 1)] := ⟨_, Tryz.underlying255, fun w => by kernel_rfl⟩
instance : TyF Tryz.prog 255 0 0 22 := ⟨_, _, Tryz.underlying255, rfl, rfl, rfl, info_f (n := 1) (by kernel_rfl) (by decide)⟩
-- 258: laws.Cell
instance : TyN Tryz.prog 258 2 := ⟨info_n (by kernel_rfl)⟩
instance : TyAg Tryz.prog 258 2 := ⟨fun w => by kernel_rfl, info_n (by kernel_rfl)⟩
theorem Tryz.z258 : (Tryz.prog.info? 258).map (·.zero) = some (some (.agg #[.int .i64 0, .slice none 0 0])) := by kernel_rfl
instance : TyZ Tryz.prog 258 [.d false (.i .i64 0), .nil] := ⟨by obtain ⟨i, h1, h2⟩ := info_z Tryz.z258; exact ⟨i, _, h1, h2, rfl⟩⟩
instance : TyE Tryz.prog 258 [.i .i64 0, .l []] := ⟨by obtain ⟨i, h1, h2⟩ := info_z Tryz.z258; exact ⟨i, _, h1, h2, rfl⟩⟩
instance : TyB Tryz.prog 258 [(0, 1), (1, 1)] := ⟨_, Tryz.underlying258, fun w => by kernel_rfl⟩
instance : TyF Tryz.prog 258 0 0 3 := ⟨_, _, Tryz.underlying258, rfl, rfl, rfl, info_f (n := 1) (by kernel_rfl) (by decide)⟩
instance : TyF Tryz.prog 258 1 1 28 := ⟨_, _, Tryz.underlying258, rfl, rfl, rfl, info_f (n := 1) (by kernel_rfl) (by decide)⟩
-- 298: laws.Payload
instance : TyN Tryz.prog 298 1 := ⟨info_n (by kernel_rfl)⟩
instance : TyAg Tryz.prog 298 1 := ⟨fun w => by kernel_rfl, info_n (by kernel_rfl)⟩
theorem Tryz.z298 : (Tryz.prog.info? 298).map (·.zero) = some (some (.agg #[.slice none 0 0])) := by kernel_rfl
instance : TyZ Tryz.prog 298 [.nil] := ⟨by obtain ⟨i, h1, h2⟩ := info_z Tryz.z298; exact ⟨i, _, h1, h2, rfl⟩⟩
instance : TyE Tryz.prog 298 [.l []] := ⟨by obtain ⟨i, h1, h2⟩ := info_z Tryz.z298; exact ⟨i, _, h1, h2, rfl⟩⟩
instance : TyB Tryz.prog 298 [(0, 1)] := ⟨_, Tryz.underlying298, fun w => by kernel_rfl⟩
instance : TyF Tryz.prog 298 0 0 22 := ⟨_, _, Tryz.underlying298, rfl, rfl, rfl, info_f (n := 1) (by kernel_rfl) (by decide)⟩
-- 306: laws.Reservation
instance : TyN Tryz.prog 306 2 := ⟨info_n (by kernel_rfl)⟩
instance : TyAg Tryz.prog 306 2 := ⟨fun w => by kernel_rfl, info_n (by kernel_rfl)⟩
theorem Tryz.z306 : (Tryz.prog.info? 306).map (·.zero) = some (some (.agg #[.int .i64 0, .int .i64 0])) := by kernel_rfl
instance : TyZ Tryz.prog 306 [.d false (.i .i64 0), .d false (.i .i64 0)] := ⟨by obtain ⟨i, h1, h2⟩ := info_z Tryz.z306; exact ⟨i, _, h1, h2, rfl⟩⟩
instance : TyE Tryz.prog 306 [.i .i64 0, .i .i64 0] := ⟨by obtain ⟨i, h1, h2⟩ := info_z Tryz.z306; exact ⟨i, _, h1, h2, rfl⟩⟩
instance : TyB Tryz.prog 306 [(0, 1), (1, 1)] := ⟨_, Tryz.underlying306, fun w => by kernel_rfl⟩
instance : TyF Tryz.prog 306 0 0 3 := ⟨_, _, Tryz.underlying306, rfl, rfl, rfl, info_f (n := 1) (by kernel_rfl) (by decide)⟩
instance : TyF Tryz.prog 306 1 1 3 := ⟨_, _, Tryz.underlying306, rfl, rfl, rfl, info_f (n := 1) (by kernel_rfl) (by decide)⟩
-- 316: laws.NumberedPacket
instance : TyN Tryz.prog 316 2 := ⟨info_n (by kernel_rfl)⟩
instance : TyAg Tryz.prog 316 2 := ⟨fun w => by kernel_rfl, info_n (by kernel_rfl)⟩
theorem Tryz.z316 : (Tryz.prog.info? 316).map (·.zero) = some (some (.agg #[.int .i64 0, .slice none 0 0])) := by kernel_rfl
instance : TyZ Tryz.prog 316 [.d false (.i .i64 0), .nil] := ⟨by obtain ⟨i, h1, h2⟩ := info_z Tryz.z316; exact ⟨i, _, h1, h2, rfl⟩⟩
instance : TyE Tryz.prog 316 [.i .i64 0, .l []] := ⟨by obtain ⟨i, h1, h2⟩ := info_z Tryz.z316; exact ⟨i, _, h1, h2, rfl⟩⟩
instance : TyB Tryz.prog 316 [(0, 1), (1, 1)] := ⟨_, Tryz.underlying316, fun w => by kernel_rfl⟩
instance : TyF Tryz.prog 316 0 0 3 := ⟨_, _, Tryz.underlying316, rfl, rfl, rfl, info_f (n := 1) (by kernel_rfl) (by decide)⟩
instance : TyF Tryz.prog 316 1 1 22 := ⟨_, _, Tryz.underlying316, rfl, rfl, rfl, info_f (n := 1) (by kernel_rfl) (by decide)⟩
theorem Tryz.sh3 : HasSh Tryz.prog 3 [.i .i64] := .int Tryz.underlying3
theorem Tryz.sh4 : HasSh Tryz.prog 4 [.b] := .bool Tryz.underlying4
theorem Tryz.sh5 : HasSh Tryz.prog 5 [.i .u8] := .int Tryz.underlying5
theorem Tryz.sh9 : HasSh Tryz.prog 9 [.str] := .string Tryz.underlying9
theorem Tryz.sh22 : HasSh Tryz.prog 22 [.l [.i .u8]] := .slice Tryz.underlying22 Tryz.sh5 (by kernel_rfl) (by decide)
theorem Tryz.sh28 : HasSh Tryz.prog 28 [.l [.i .i64]] := .slice Tryz.underlying28 Tryz.sh3 (by kernel_rfl) (by decide)
theorem Tryz.sh166 : HasSh Tryz.prog 166 [.i .i64, .l [.i .i64]] := .struct (ss := [.i .i64, .l [.i .i64]]) Tryz.underlying166 (HasFs.cons (s1 := [.i .i64]) (s2 := [.l [.i .i64]]) rfl Tryz.sh3 (by kernel_rfl) (HasFs.cons (s1 := [.l [.i .i64]]) (s2 := []) rfl Tryz.sh28 (by kernel_rfl) (HasFs.nil))) (by kernel_rfl)
theorem Tryz.sh24 : HasSh Tryz.prog 24 [.l [.i .i64, .l [.i .i64]]] := .slice Tryz.underlying24 Tryz.sh166 (by kernel_rfl) (by decide)
theorem Tryz.sh26 : HasSh Tryz.prog 26 [.l [.i .i64, .l [.i .i64]]] := .struct (ss := [.l [.i .i64, .l [.i .i64]]]) Tryz.underlying26 (HasFs.cons (s1 := [.l [.i .i64, .l [.i .i64]]]) (s2 := []) rfl Tryz.sh24 (by kernel_rfl) (HasFs.nil)) (by kernel_rfl)
theorem Tryz.sh44 : HasSh Tryz.prog 44 [.i .i64, .i .i64] := .struct (ss := [.i .i64, .i .i64]) Tryz.underlying44 (HasFs.cons (s1 := [.i .i64]) (s2 := [.i .i64]) rfl Tryz.sh3 (by kernel_rfl) (HasFs.cons (s1 := [.i .i64]) (s2 := []) rfl Tryz.sh3 (by kernel_rfl) (HasFs.nil))) (by kernel_rfl)
theorem Tryz.sh54 : HasSh Tryz.prog 54 [.i .i64, .i .i64, .i .i64, .i .i64] := .struct (ss := [.i .i64, .i .i64, .i .i64, .i .i64]) Tryz.underlying54 (HasFs.cons (s1 := [.i .i64, .i .i64]) (s2 := [.i .i64, .i .i64]) rfl Tryz.sh44 (by kernel_rfl) (HasFs.cons (s1 := [.i .i64]) (s2 := [.i .i64]) rfl Tryz.sh3 (by kernel_rfl) (HasFs.cons (s1 := [.i .i64]) (s2 := []) rfl Tryz.sh3 (by kernel_rfl) (HasFs.nil)))) (by kernel_rfl)
theorem Tryz.sh27 : HasSh Tryz.prog 27 [.l [.i .i64, .i .i64, .i .i64, .i .i64]] := .slice Tryz.underlying27 Tryz.sh54 (by kernel_rfl) (by decide)
theorem Tryz.sh30 : HasSh Tryz.prog 30 [.i .i64, .i .i64, .i .i64, .l [.i .i64]] := .struct (ss := [.i .i64, .i .i64, .i .i64, .l [.i .i64]]) Tryz.underlying30 (HasFs.cons (s1 := [.i .i64]) (s2 := [.i .i64, .i .i64, .l [.i .i64]]) rfl Tryz.sh3 (by kernel_rfl) (HasFs.cons (s1 := [.i .i64]) (s2 := [.i .i64, .l [.i .i64]]) rfl Tryz.sh3 (by kernel_rfl) (HasFs.cons (s1 := [.i .i64]) (s2 := [.l [.i .i64]]) rfl Tryz.sh3 (by kernel_rfl) (HasFs.cons (s1 := [.l [.i .i64]]) (s2 := []) rfl Tryz.sh28 (by kernel_rfl) (HasFs.nil))))) (by kernel_rfl)
theorem Tryz.sh46 : HasSh Tryz.prog 46 [.i .i64, .i .i64, .i .i64, .i .i64] := .struct (ss := [.i .i64, .i .i64, .i .i64, .i .i64]) Tryz.underlying46 (HasFs.cons (s1 := [.i .i64, .i .i64]) (s2 := [.i .i64, .i .i64]) rfl Tryz.sh44 (by kernel_rfl) (HasFs.cons (s1 := [.i .i64]) (s2 := [.i .i64]) rfl Tryz.sh3 (by kernel_rfl) (HasFs.cons (s1 := [.i .i64]) (s2 := []) rfl Tryz.sh3 (by kernel_rfl) (HasFs.nil)))) (by kernel_rfl)
theorem Tryz.sh136 : HasSh Tryz.prog 136 [.i .i64, .l [.i .u8]] := .struct (ss := [.i .i64, .l [.i .u8]]) Tryz.underlying136 (HasFs.cons (s1 := [.i .i64]) (s2 := [.l [.i .u8]]) rfl Tryz.sh3 (by kernel_rfl) (HasFs.cons (s1 := [.l [.i .u8]]) (s2 := []) rfl Tryz.sh22 (by kernel_rfl) (HasFs.nil))) (by kernel_rfl)
theorem Tryz.sh47 : HasSh Tryz.prog 47 [.l [.i .i64, .l [.i .u8]]] := .slice Tryz.underlying47 Tryz.sh136 (by kernel_rfl) (by decide)
theorem Tryz.sh255 : HasSh Tryz.prog 255 [.l [.i .u8]] := .struct (ss := [.l [.i .u8]]) Tryz.underlying255 (HasFs.cons (s1 := [.l [.i .u8]]) (s2 := []) rfl Tryz.sh22 (by kernel_rfl) (HasFs.nil)) (by kernel_rfl)
theorem Tryz.sh48 : HasSh Tryz.prog 48 [.l [.l [.i .u8]]] := .slice Tryz.underlying48 Tryz.sh255 (by kernel_rfl) (by decide)
theorem Tryz.sh50 : HasSh Tryz.prog 50 [.i .i64, .l [.i .i64, .l [.i .u8]], .l [.l [.i .u8]]] := .struct (ss := [.i .i64, .l [.i .i64, .l [.i .u8]], .l [.l [.i .u8]]]) Tryz.underlying50 (HasFs.cons (s1 := [.i .i64]) (s2 := [.l [.i .i64, .l [.i .u8]], .l [.l [.i .u8]]]) rfl Tryz.sh3 (by kernel_rfl) (HasFs.cons (s1 := [.l [.i .i64, .l [.i .u8]]]) (s2 := [.l [.l [.i .u8]]]) rfl Tryz.sh47 (by kernel_rfl) (HasFs.cons (s1 := [.l [.l [.i .u8]]]) (s2 := []) rfl Tryz.sh48 (by kernel_rfl) (HasFs.nil)))) (by kernel_rfl)
theorem Tryz.sh52 : HasSh Tryz.prog 52 [.i .i64, .i .i64, .i .i64, .i .i64, .i .i64, .i .i64, .i .i64, .i .i64, .i .i64, .b, .i .i64, .i .i64, .l [.i .i64, .l [.i .u8]], .l [.l [.i .u8]]] := .struct (ss := [.i .i64, .i .i64, .i .i64, .i .i64, .i .i64, .i .i64, .i .i64, .i .i64, .i .i64, .b, .i .i64, .i .i64, .l [.i .i64, .l [.i .u8]], .l [.l [.i .u8]]]) Tryz.underlying52 (HasFs.cons (s1 := [.i .i64, .i .i64, .i .i64, .i .i64]) (s2 := [.i .i64, .i .i64, .i .i64, .i .i64, .i .i64, .b, .i .i64, .i .i64, .l [.i .i64, .l [.i .u8]], .l [.l [.i .u8]]]) rfl Tryz.sh46 (by kernel_rfl) (HasFs.cons (s1 := [.i .i64]) (s2 := [.i .i64, .i .i64, .i .i64, .i .i64, .b, .i .i64, .i .i64, .l [.i .i64, .l [.i .u8]], .l [.l [.i .u8]]]) rfl Tryz.sh3 (by kernel_rfl) (HasFs.cons (s1 := [.i .i64]) (s2 := [.i .i64, .i .i64, .i .i64, .b, .i .i64, .i .i64, .l [.i .i64, .l [.i .u8]], .l [.l [.i .u8]]]) rfl Tryz.sh3 (by kernel_rfl) (HasFs.cons (s1 := [.i .i64]) (s2 := [.i .i64, .i .i64, .b, .i .i64, .i .i64, .l [.i .i64, .l [.i .u8]], .l [.l [.i .u8]]]) rfl Tryz.sh3 (by kernel_rfl) (HasFs.cons (s1 := [.i .i64]) (s2 := [.i .i64, .b, .i .i64, .i .i64, .l [.i .i64, .l [.i .u8]], .l [.l [.i .u8]]]) rfl Tryz.sh3 (by kernel_rfl) (HasFs.cons (s1 := [.i .i64]) (s2 := [.b, .i .i64, .i .i64, .l [.i .i64, .l [.i .u8]], .l [.l [.i .u8]]]) rfl Tryz.sh3 (by kernel_rfl) (HasFs.cons (s1 := [.b]) (s2 := [.i .i64, .i .i64, .l [.i .i64, .l [.i .u8]], .l [.l [.i .u8]]]) rfl Tryz.sh4 (by kernel_rfl) (HasFs.cons (s1 := [.i .i64]) (s2 := [.i .i64, .l [.i .i64, .l [.i .u8]], .l [.l [.i .u8]]]) rfl Tryz.sh3 (by kernel_rfl) (HasFs.cons (s1 := [.i .i64, .l [.i .i64, .l [.i .u8]], .l [.l [.i .u8]]]) (s2 := []) rfl Tryz.sh50 (by kernel_rfl) (HasFs.nil)))))))))) (by kernel_rfl)
theorem Tryz.sh33 : HasSh Tryz.prog 33 [.l [.i .i64, .i .i64, .i .i64, .i .i64, .i .i64, .i .i64, .i .i64, .i .i64, .i .i64, .b, .i .i64, .i .i64, .l [.i .i64, .l [.i .u8]], .l [.l [.i .u8]]]] := .slice Tryz.underlying33 Tryz.sh52 (by kernel_rfl) (by decide)
theorem Tryz.sh57 : HasSh Tryz.prog 57 [.i .i64, .i .i64, .i .i64, .i .i64, .i .i64] := .struct (ss := [.i .i64, .i .i64, .i .i64, .i .i64, .i .i64]) Tryz.underlying57 (HasFs.cons (s1 := [.i .i64]) (s2 := [.i .i64, .i .i64, .i .i64, .i .i64]) rfl Tryz.sh3 (by kernel_rfl) (HasFs.cons (s1 := [.i .i64]) (s2 := [.i .i64, .i .i64, .i .i64]) rfl Tryz.sh3 (by kernel_rfl) (HasFs.cons (s1 := [.i .i64]) (s2 := [.i .i64, .i .i64]) rfl Tryz.sh3 (by kernel_rfl) (HasFs.cons (s1 := [.i .i64]) (s2 := [.i .i64]) rfl Tryz.sh3 (by kernel_rfl) (HasFs.cons (s1 := [.i .i64]) (s2 := []) rfl Tryz.sh3 (by kernel_rfl) (HasFs.nil)))))) (by kernel_rfl)
theorem Tryz.sh59 : HasSh Tryz.prog 59 [.i .i64, .i .i64, .i .i64] := .struct (ss := [.i .i64, .i .i64, .i .i64]) Tryz.underlying59 (HasFs.cons (s1 := [.i .i64]) (s2 := [.i .i64, .i .i64]) rfl Tryz.sh3 (by kernel_rfl) (HasFs.cons (s1 := [.i .i64]) (s2 := [.i .i64]) rfl Tryz.sh3 (by kernel_rfl) (HasFs.cons (s1 := [.i .i64]) (s2 := []) rfl Tryz.sh3 (by kernel_rfl) (HasFs.nil)))) (by kernel_rfl)
theorem Tryz.sh61 : HasSh Tryz.prog 61 [.i .i64, .l [.i .i64, .l [.i .u8]]] := .struct (ss := [.i .i64, .l [.i .i64, .l [.i .u8]]]) Tryz.underlying61 (HasFs.cons (s1 := [.i .i64]) (s2 := [.l [.i .i64, .l [.i .u8]]]) rfl Tryz.sh3 (by kernel_rfl) (HasFs.cons (s1 := [.l [.i .i64, .l [.i .u8]]]) (s2 := []) rfl Tryz.sh47 (by kernel_rfl) (HasFs.nil))) (by kernel_rfl)
theorem Tryz.sh63 : HasSh Tryz.prog 63 [.i .i64, .i .i64, .i .i64] := .struct (ss := [.i .i64, .i .i64, .i .i64]) Tryz.underlying63 (HasFs.cons (s1 := [.i .i64]) (s2 := [.i .i64, .i .i64]) rfl Tryz.sh3 (by kernel_rfl) (HasFs.cons (s1 := [.i .i64]) (s2 := [.i .i64]) rfl Tryz.sh3 (by kernel_rfl) (HasFs.cons (s1 := [.i .i64]) (s2 := []) rfl Tryz.sh3 (by kernel_rfl) (HasFs.nil)))) (by kernel_rfl)
theorem Tryz.sh65 : HasSh Tryz.prog 65 [.i .i64, .i .i64, .i .i64, .i .i64, .i .i64, .i .i64, .i .i64, .l [.i .i64], .i .i64, .i .i64, .i .i64, .i .i64, .i .i64, .i .i64, .i .i64, .i .i64, .i .i64, .i .i64, .i .i64, .i .i64, .i .i64, .i .i64, .i .i64, .l [.l [.i .u8]], .i .i64, .l [.i .i64, .l [.i .u8]], .i .i64, .i .i64, .i .i64, .i .i64] := .struct (ss := [.i .i64, .i .i64, .i .i64, .i .i64, .i .i64, .i .i64, .i .i64, .l [.i .i64], .i .i64, .i .i64, .i .i64, .i .i64, .i .i64, .i .i64, .i .i64, .i .i64, .i .i64, .i .i64, .i .i64, .i .i64, .i .i64, .i .i64, .i .i64, .l [.l [.i .u8]], .i .i64, .l [.i .i64, .l [.i .u8]], .i .i64, .i .i64, .i .i64, .i .i64]) Tryz.underlying65 (HasFs.cons (s1 := [.i .i64, .i .i64, .i .i64, .i .i64]) (s2 := [.i .i64, .i .i64, .i .i64, .l [.i .i64], .i .i64, .i .i64, .i .i64, .i .i64, .i .i64, .i .i64, .i .i64, .i .i64, .i .i64, .i .i64, .i .i64, .i .i64, .i .i64, .i .i64, .i .i64, .l [.l [.i .u8]], .i .i64, .l [.i .i64, .l [.i .u8]], .i .i64, .i .i64, .i .i64, .i .i64]) rfl Tryz.sh54 (by kernel_rfl) (HasFs.cons (s1 := [.i .i64, .i .i64, .i .i64, .l [.i .i64]]) (s2 := [.i .i64, .i .i64, .i .i64, .i .i64, .i .i64, .i .i64, .i .i64, .i .i64, .i .i64, .i .i64, .i .i64, .i .i64, .i .i64, .i .i64, .i .i64, .l [.l [.i .u8]], .i .i64, .l [.i .i64, .l [.i .u8]], .i .i64, .i .i64, .i .i64, .i .i64]) rfl Tryz.sh30 (by kernel_rfl) (HasFs.cons (s1 := [.i .i64]) (s2 := [.i .i64, .i .i64, .i .i64, .i .i64, .i .i64, .i .i64, .i .i64, .i .i64, .i .i64, .i .i64, .i .i64, .i .i64, .i .i64, .i .i64, .l [.l [.i .u8]], .i .i64, .l [.i .i64, .l [.i .u8]], .i .i64, .i .i64, .i .i64, .i .i64]) rfl Tryz.sh3 (by kernel_rfl) (HasFs.cons (s1 := [.i .i64, .i .i64, .i .i64, .i .i64, .i .i64]) (s2 := [.i .i64, .i .i64, .i .i64, .i .i64, .i .i64, .i .i64, .i .i64, .i .i64, .i .i64, .l [.l [.i .u8]], .i .i64, .l [.i .i64, .l [.i .u8]], .i .i64, .i .i64, .i .i64, .i .i64]) rfl Tryz.sh57 (by kernel_rfl) (HasFs.cons (s1 := [.i .i64]) (s2 := [.i .i64, .i .i64, .i .i64, .i .i64, .i .i64, .i .i64, .i .i64, .i .i64, .l [.l [.i .u8]], .i .i64, .l [.i .i64, .l [.i .u8]], .i .i64, .i .i64, .i .i64, .i .i64]) rfl Tryz.sh3 (by kernel_rfl) (HasFs.cons (s1 := [.i .i64]) (s2 := [.i .i64, .i .i64, .i .i64, .i .i64, .i .i64, .i .i64, .i .i64, .l [.l [.i .u8]], .i .i64, .l [.i .i64, .l [.i .u8]], .i .i64, .i .i64, .i .i64, .i .i64]) rfl Tryz.sh3 (by kernel_rfl) (HasFs.cons (s1 := [.i .i64]) (s2 := [.i .i64, .i .i64, .i .i64, .i .i64, .i .i64, .i .i64, .l [.l [.i .u8]], .i .i64, .l [.i .i64, .l [.i .u8]], .i .i64, .i .i64, .i .i64, .i .i64]) rfl Tryz.sh3 (by kernel_rfl) (HasFs.cons (s1 := [.i .i64]) (s2 := [.i .i64, .i .i64, .i .i64, .i .i64, .i .i64, .l [.l [.i .u8]], .i .i64, .l [.i .i64, .l [.i .u8]], .i .i64, .i .i64, .i .i64, .i .i64]) rfl Tryz.sh3 (by kernel_rfl) (HasFs.cons (s1 := [.i .i64]) (s2 := [.i .i64, .i .i64, .i .i64, .i .i64, .l [.l [.i .u8]], .i .i64, .l [.i .i64, .l [.i .u8]], .i .i64, .i .i64, .i .i64, .i .i64]) rfl Tryz.sh3 (by kernel_rfl) (HasFs.cons (s1 := [.i .i64]) (s2 := [.i .i64, .i .i64, .i .i64, .l [.l [.i .u8]], .i .i64, .l [.i .i64, .l [.i .u8]], .i .i64, .i .i64, .i .i64, .i .i64]) rfl Tryz.sh3 (by kernel_rfl) (HasFs.cons (s1 := [.i .i64, .i .i64, .i .i64]) (s2 := [.l [.l [.i .u8]], .i .i64, .l [.i .i64, .l [.i .u8]], .i .i64, .i .i64, .i .i64, .i .i64]) rfl Tryz.sh59 (by kernel_rfl) (HasFs.cons (s1 := [.l [.l [.i .u8]]]) (s2 := [.i .i64, .l [.i .i64, .l [.i .u8]], .i .i64, .i .i64, .i .i64, .i .i64]) rfl Tryz.sh48 (by kernel_rfl) (HasFs.cons (s1 := [.i .i64, .l [.i .i64, .l [.i .u8]]]) (s2 := [.i .i64, .i .i64, .i .i64, .i .i64]) rfl Tryz.sh61 (by kernel_rfl) (HasFs.cons (s1 := [.i .i64]) (s2 := [.i .i64, .i .i64, .i .i64]) rfl Tryz.sh3 (by kernel_rfl) (HasFs.cons (s1 := [.i .i64, .i .i64, .i .i64]) (s2 := []) rfl Tryz.sh63 (by kernel_rfl) (HasFs.nil)))))))))))))))) (by kernel_rfl)
theorem Tryz.sh34 : HasSh Tryz.prog 34 [.l [.i .i64, .i .i64, .i .i64, .i .i64, .i .i64, .i .i64, .i .i64, .l [.i .i64], .i .i64, .i .i64, .i .i64, .i .i64, .i .i64, .i .i64, .i .i64, .i .i64, .i .i64, .i .i64, .i .i64, .i .i64, .i .i64, .i .i64, .i .i64, .l [.l [.i .u8]], .i .i64, .l [.i .i64, .l [.i .u8]], .i .i64, .i .i64, .i .i64, .i .i64]] := .slice Tryz.underlying34 Tryz.sh65 (by kernel_rfl) (by decide)
theorem Tryz.sh249 : HasSh Tryz.prog 249 [.i .i64, .i .i64] := .struct (ss := [.i .i64, .i .i64]) Tryz.underlying249 (HasFs.cons (s1 := [.i .i64]) (s2 := [.i .i64]) rfl Tryz.sh3 (by kernel_rfl) (HasFs.cons (s1 := [.i .i64]) (s2 := []) rfl Tryz.sh3 (by kernel_rfl) (HasFs.nil))) (by kernel_rfl)
theorem Tryz.sh66 : HasSh Tryz.prog 66 [.l [.i .i64, .i .i64]] := .slice Tryz.underlying66 Tryz.sh249 (by kernel_rfl) (by decide)
theorem Tryz.sh68 : HasSh Tryz.prog 68 [.i .i64, .i .i64, .i .i64, .l [.i .i64, .i .i64]] := .struct (ss := [.i .i64, .i .i64, .i .i64, .l [.i .i64, .i .i64]]) Tryz.underlying68 (HasFs.cons (s1 := [.i .i64]) (s2 := [.i .i64, .i .i64, .l [.i .i64, .i .i64]]) rfl Tryz.sh3 (by kernel_rfl) (HasFs.cons (s1 := [.i .i64]) (s2 := [.i .i64, .l [.i .i64, .i .i64]]) rfl Tryz.sh3 (by kernel_rfl) (HasFs.cons (s1 := [.i .i64]) (s2 := [.l [.i .i64, .i .i64]]) rfl Tryz.sh3 (by kernel_rfl) (HasFs.cons (s1 := [.l [.i .i64, .i .i64]]) (s2 := []) rfl Tryz.sh66 (by kernel_rfl) (HasFs.nil))))) (by kernel_rfl)
theorem Tryz.sh35 : HasSh Tryz.prog 35 [.l [.i .i64, .i .i64, .i .i64, .l [.i .i64, .i .i64]]] := .slice Tryz.underlying35 Tryz.sh68 (by kernel_rfl) (by decide)
theorem Tryz.sh114 : HasSh Tryz.prog 114 [.i .i64, .i .i64, .i .i64, .i .i64, .i .i64, .i .i64, .i .i64, .i .i64, .i .i64, .i .i64, .i .i64] := .struct (ss := [.i .i64, .i .i64, .i .i64, .i .i64, .i .i64, .i .i64, .i .i64, .i .i64, .i .i64, .i .i64, .i .i64]) Tryz.underlying114 (HasFs.cons (s1 := [.i .i64]) (s2 := [.i .i64, .i .i64, .i .i64, .i .i64, .i .i64, .i .i64, .i .i64, .i .i64, .i .i64, .i .i64]) rfl Tryz.sh3 (by kernel_rfl) (HasFs.cons (s1 := [.i .i64]) (s2 := [.i .i64, .i .i64, .i .i64, .i .i64, .i .i64, .i .i64, .i .i64, .i .i64, .i .i64]) rfl Tryz.sh3 (by kernel_rfl) (HasFs.cons (s1 := [.i .i64]) (s2 := [.i .i64, .i .i64, .i .i64, .i .i64, .i .i64, .i .i64, .i .i64, .i .i64]) rfl Tryz.sh3 (by kernel_rfl) (HasFs.cons (s1 := [.i .i64]) (s2 := [.i .i64, .i .i64, .i .i64, .i .i64, .i .i64, .i .i64, .i .i64]) rfl Tryz.sh3 (by kernel_rfl) (HasFs.cons (s1 := [.i .i64]) (s2 := [.i .i64, .i .i64, .i .i64, .i .i64, .i .i64, .i .i64]) rfl Tryz.sh3 (by kernel_rfl) (HasFs.cons (s1 := [.i .i64, .i .i64, .i .i64, .i .i64, .i .i64]) (s2 := [.i .i64]) rfl Tryz.sh57 (by kernel_rfl) (HasFs.cons (s1 := [.i .i64]) (s2 := []) rfl Tryz.sh3 (by kernel_rfl) (HasFs.nil)))))))) (by kernel_rfl)
theorem Tryz.sh116 : HasSh Tryz.prog 116 [.i .i64, .i .i64, .l [.i .u8], .i .i64] := .struct (ss := [.i .i64, .i .i64, .l [.i .u8], .i .i64]) Tryz.underlying116 (HasFs.cons (s1 := [.i .i64]) (s2 := [.i .i64, .l [.i .u8], .i .i64]) rfl Tryz.sh3 (by kernel_rfl) (HasFs.cons (s1 := [.i .i64]) (s2 := [.l [.i .u8], .i .i64]) rfl Tryz.sh3 (by kernel_rfl) (HasFs.cons (s1 := [.l [.i .u8]]) (s2 := [.i .i64]) rfl Tryz.sh22 (by kernel_rfl) (HasFs.cons (s1 := [.i .i64]) (s2 := []) rfl Tryz.sh3 (by kernel_rfl) (HasFs.nil))))) (by kernel_rfl)
theorem Tryz.sh118 : HasSh Tryz.prog 118 [.i .i64, .i .i64, .i .i64, .i .i64, .l [.i .u8], .i .i64] := .struct (ss := [.i .i64, .i .i64, .i .i64, .i .i64, .l [.i .u8], .i .i64]) Tryz.underlying118 (HasFs.cons (s1 := [.i .i64]) (s2 := [.i .i64, .i .i64, .i .i64, .l [.i .u8], .i .i64]) rfl Tryz.sh3 (by kernel_rfl) (HasFs.cons (s1 := [.i .i64]) (s2 := [.i .i64, .i .i64, .l [.i .u8], .i .i64]) rfl Tryz.sh3 (by kernel_rfl) (HasFs.cons (s1 := [.i .i64, .i .i64, .l [.i .u8], .i .i64]) (s2 := []) rfl Tryz.sh116 (by kernel_rfl) (HasFs.nil)))) (by kernel_rfl)
theorem Tryz.sh120 : HasSh Tryz.prog 120 [.i .i64, .b, .b, .i .i64, .i .i64, .i .i64, .i .i64, .i .i64, .i .i64, .i .i64, .i .i64, .i .i64, .i .i64, .i .i64, .i .i64, .i .i64, .i .i64, .i .i64, .i .i64, .l [.i .u8], .i .i64] := .struct (ss := [.i .i64, .b, .b, .i .i64, .i .i64, .i .i64, .i .i64, .i .i64, .i .i64, .i .i64, .i .i64, .i .i64, .i .i64, .i .i64, .i .i64, .i .i64, .i .i64, .i .i64, .i .i64, .l [.i .u8], .i .i64]) Tryz.underlying120 (HasFs.cons (s1 := [.i .i64]) (s2 := [.b, .b, .i .i64, .i .i64, .i .i64, .i .i64, .i .i64, .i .i64, .i .i64, .i .i64, .i .i64, .i .i64, .i .i64, .i .i64, .i .i64, .i .i64, .i .i64, .i .i64, .l [.i .u8], .i .i64]) rfl Tryz.sh3 (by kernel_rfl) (HasFs.cons (s1 := [.b]) (s2 := [.b, .i .i64, .i .i64, .i .i64, .i .i64, .i .i64, .i .i64, .i .i64, .i .i64, .i .i64, .i .i64, .i .i64, .i .i64, .i .i64, .i .i64, .i .i64, .i .i64, .l [.i .u8], .i .i64]) rfl Tryz.sh4 (by kernel_rfl) (HasFs.cons (s1 := [.b]) (s2 := [.i .i64, .i .i64, .i .i64, .i .i64, .i .i64, .i .i64, .i .i64, .i .i64, .i .i64, .i .i64, .i .i64, .i .i64, .i .i64, .i .i64, .i .i64, .i .i64, .l [.i .u8], .i .i64]) rfl Tryz.sh4 (by kernel_rfl) (HasFs.cons (s1 := [.i .i64]) (s2 := [.i .i64, .i .i64, .i .i64, .i .i64, .i .i64, .i .i64, .i .i64, .i .i64, .i .i64, .i .i64, .i .i64, .i .i64, .i .i64, .i .i64, .i .i64, .l [.i .u8], .i .i64]) rfl Tryz.sh3 (by kernel_rfl) (HasFs.cons (s1 := [.i .i64, .i .i64, .i .i64, .i .i64, .i .i64, .i .i64, .i .i64, .i .i64, .i .i64, .i .i64, .i .i64]) (s2 := [.i .i64, .i .i64, .i .i64, .i .i64, .l [.i .u8], .i .i64]) rfl Tryz.sh114 (by kernel_rfl) (HasFs.cons (s1 := [.i .i64, .i .i64, .i .i64, .i .i64, .l [.i .u8], .i .i64]) (s2 := []) rfl Tryz.sh118 (by kernel_rfl) (HasFs.nil))))))) (by kernel_rfl)
theorem Tryz.sh36 : HasSh Tryz.prog 36 [.l [.i .i64, .b, .b, .i .i64, .i .i64, .i .i64, .i .i64, .i .i64, .i .i64, .i .i64, .i .i64, .i .i64, .i .i64, .i .i64, .i .i64, .i .i64, .i .i64, .i .i64, .i .i64, .l [.i .u8], .i .i64]] := .slice Tryz.underlying36 Tryz.sh120 (by kernel_rfl) (by decide)
theorem Tryz.sh38 : HasSh Tryz.prog 38 [.i .i64, .i .i64] := .struct (ss := [.i .i64, .i .i64]) Tryz.underlying38 (HasFs.cons (s1 := [.i .i64]) (s2 := [.i .i64]) rfl Tryz.sh3 (by kernel_rfl) (HasFs.cons (s1 := [.i .i64]) (s2 := []) rfl Tryz.sh3 (by kernel_rfl) (HasFs.nil))) (by kernel_rfl)
theorem Tryz.sh40 : HasSh Tryz.prog 40 [.l [.i .i64, .l [.i .i64]], .l [.i .i64, .i .i64, .i .i64, .i .i64, .i .i64, .i .i64, .i .i64, .i .i64, .i .i64, .b, .i .i64, .i .i64, .l [.i .i64, .l [.i .u8]], .l [.l [.i .u8]]], .l [.i .i64, .i .i64, .i .i64, .i .i64, .i .i64, .i .i64, .i .i64, .l [.i .i64], .i .i64, .i .i64, .i .i64, .i .i64, .i .i64, .i .i64, .i .i64, .i .i64, .i .i64, .i .i64, .i .i64, .i .i64, .i .i64, .i .i64, .i .i64, .l [.l [.i .u8]], .i .i64, .l [.i .i64, .l [.i .u8]], .i .i64, .i .i64, .i .i64, .i .i64], .l [.i .i64, .i .i64, .i .i64, .l [.i .i64, .i .i64]], .l [.i .i64, .b, .b, .i .i64, .i .i64, .i .i64, .i .i64, .i .i64, .i .i64, .i .i64, .i .i64, .i .i64, .i .i64, .i .i64, .i .i64, .i .i64, .i .i64, .i .i64, .i .i64, .l [.i .u8], .i .i64], .i .i64, .i .i64, .i .i64, .i .i64, .i .i64] := .struct (ss := [.l [.i .i64, .l [.i .i64]], .l [.i .i64, .i .i64, .i .i64, .i .i64, .i .i64, .i .i64, .i .i64, .i .i64, .i .i64, .b, .i .i64, .i .i64, .l [.i .i64, .l [.i .u8]], .l [.l [.i .u8]]], .l [.i .i64, .i .i64, .i .i64, .i .i64, .i .i64, .i .i64, .i .i64, .l [.i .i64], .i .i64, .i .i64, .i .i64, .i .i64, .i .i64, .i .i64, .i .i64, .i .i64, .i .i64, .i .i64, .i .i64, .i .i64, .i .i64, .i .i64, .i .i64, .l [.l [.i .u8]], .i .i64, .l [.i .i64, .l [.i .u8]], .i .i64, .i .i64, .i .i64, .i .i64], .l [.i .i64, .i .i64, .i .i64, .l [.i .i64, .i .i64]], .l [.i .i64, .b, .b, .i .i64, .i .i64, .i .i64, .i .i64, .i .i64, .i .i64, .i .i64, .i .i64, .i .i64, .i .i64, .i .i64, .i .i64, .i .i64, .i .i64, .i .i64, .i .i64, .l [.i .u8], .i .i64], .i .i64, .i .i64, .i .i64, .i .i64, .i .i64]) Tryz.underlying40 (HasFs.cons (s1 := [.l [.i .i64, .l [.i .i64]]]) (s2 := [.l [.i .i64, .i .i64, .i .i64, .i .i64, .i .i64, .i .i64, .i .i64, .i .i64, .i .i64, .b, .i .i64, .i .i64, .l [.i .i64, .l [.i .u8]], .l [.l [.i .u8]]], .l [.i .i64, .i .i64, .i .i64, .i .i64, .i .i64, .i .i64, .i .i64, .l [.i .i64], .i .i64, .i .i64, .i .i64, .i .i64, .i .i64, .i .i64, .i .i64, .i .i64, .i .i64, .i .i64, .i .i64, .i .i64, .i .i64, .i .i64, .i .i64, .l [.l [.i .u8]], .i .i64, .l [.i .i64, .l [.i .u8]], .i .i64, .i .i64, .i .i64, .i .i64], .l [.i .i64, .i .i64, .i .i64, .l [.i .i64, .i .i64]], .l [.i .i64, .b, .b, .i .i64, .i .i64, .i .i64, .i .i64, .i .i64, .i .i64, .i .i64, .i .i64, .i .i64, .i .i64, .i .i64, .i .i64, .i .i64, .i .i64, .i .i64, .i .i64, .l [.i .u8], .i .i64], .i .i64, .i .i64, .i .i64, .i .i64, .i .i64]) rfl Tryz.sh26 (by kernel_rfl) (HasFs.cons (s1 := [.l [.i .i64, .i .i64, .i .i64, .i .i64, .i .i64, .i .i64, .i .i64, .i .i64, .i .i64, .b, .i .i64, .i .i64, .l [.i .i64, .l [.i .u8]], .l [.l [.i .u8]]]]) (s2 := [.l [.i .i64, .i .i64, .i .i64, .i .i64, .i .i64, .i .i64, .i .i64, .l [.i .i64], .i .i64, .i .i64, .i .i64, .i .i64, .i .i64, .i .i64, .i .i64, .i .i64, .i .i64, .i .i64, .i .i64, .i .i64, .i .i64, .i .i64, .i .i64, .l [.l [.i .u8]], .i .i64, .l [.i .i64, .l [.i .u8]], .i .i64, .i .i64, .i .i64, .i .i64], .l [.i .i64, .i .i64, .i .i64, .l [.i .i64, .i .i64]], .l [.i .i64, .b, .b, .i .i64, .i .i64, .i .i64, .i .i64, .i .i64, .i .i64, .i .i64, .i .i64, .i .i64, .i .i64, .i .i64, .i .i64, .i .i64, .i .i64, .i .i64, .i .i64, .l [.i .u8], .i .i64], .i .i64, .i .i64, .i .i64, .i .i64, .i .i64]) rfl Tryz.sh33 (by kernel_rfl) (HasFs.cons (s1 := [.l [.i .i64, .i .i64, .i .i64, .i .i64, .i .i64, .i .i64, .i .i64, .l [.i .i64], .i .i64, .i .i64, .i .i64, .i .i64, .i .i64, .i .i64, .i .i64, .i .i64, .i .i64, .i .i64, .i .i64, .i .i64, .i .i64, .i .i64, .i .i64, .l [.l [.i .u8]], .i .i64, .l [.i .i64, .l [.i .u8]], .i .i64, .i .i64, .i .i64, .i .i64]]) (s2 := [.l [.i .i64, .i .i64, .i .i64, .l [.i .i64, .i .i64]], .l [.i .i64, .b, .b, .i .i64, .i .i64, .i .i64, .i .i64, .i .i64, .i .i64, .i .i64, .i .i64, .i .i64, .i .i64, .i .i64, .i .i64, .i .i64, .i .i64, .i .i64, .i .i64, .l [.i .u8], .i .i64], .i .i64, .i .i64, .i .i64, .i .i64, .i .i64]) rfl Tryz.sh34 (by kernel_rfl) (HasFs.cons (s1 := [.l [.i .i64, .i .i64, .i .i64, .l [.i .i64, .i .i64]]]) (s2 := [.l [.i .i64, .b, .b, .i .i64, .i .i64, .i .i64, .i .i64, .i .i64, .i .i64, .i .i64, .i .i64, .i .i64, .i .i64, .i .i64, .i .i64, .i .i64, .i .i64, .i .i64, .i .i64, .l [.i .u8], .i .i64], .i .i64, .i .i64, .i .i64, .i .i64, .i .i64]) rfl Tryz.sh35 (by kernel_rfl) (HasFs.cons (s1 := [.l [.i .i64, .b, .b, .i .i64, .i .i64, .i .i64, .i .i64, .i .i64, .i .i64, .i .i64, .i .i64, .i .i64, .i .i64, .i .i64, .i .i64, .i .i64, .i .i64, .i .i64, .i .i64, .l [.i .u8], .i .i64]]) (s2 := [.i .i64, .i .i64, .i .i64, .i .i64, .i .i64]) rfl Tryz.sh36 (by kernel_rfl) (HasFs.cons (s1 := [.i .i64]) (s2 := [.i .i64, .i .i64, .i .i64, .i .i64]) rfl Tryz.sh3 (by kernel_rfl) (HasFs.cons (s1 := [.i .i64, .i .i64]) (s2 := [.i .i64, .i .i64]) rfl Tryz.sh38 (by kernel_rfl) (HasFs.cons (s1 := [.i .i64]) (s2 := [.i .i64]) rfl Tryz.sh3 (by kernel_rfl) (HasFs.cons (s1 := [.i .i64]) (s2 := []) rfl Tryz.sh3 (by kernel_rfl) (HasFs.nil)))))))))) (by kernel_rfl)
theorem Tryz.sh258 : HasSh Tryz.prog 258 [.i .i64, .l [.i .i64]] := .struct (ss := [.i .i64, .l [.i .i64]]) Tryz.underlying258 (HasFs.cons (s1 := [.i .i64]) (s2 := [.l [.i .i64]]) rfl Tryz.sh3 (by kernel_rfl) (HasFs.cons (s1 := [.l [.i .i64]]) (s2 := []) rfl Tryz.sh28 (by kernel_rfl) (HasFs.nil))) (by kernel_rfl)
theorem Tryz.sh69 : HasSh Tryz.prog 69 [.l [.i .i64, .l [.i .i64]]] := .slice Tryz.underlying69 Tryz.sh258 (by kernel_rfl) (by decide)
theorem Tryz.sh71 : HasSh Tryz.prog 71 [.l [.i .i64, .l [.i .i64]]] := .struct (ss := [.l [.i .i64, .l [.i .i64]]]) Tryz.underlying71 (HasFs.cons (s1 := [.l [.i .i64, .l [.i .i64]]]) (s2 := []) rfl Tryz.sh69 (by kernel_rfl) (HasFs.nil)) (by kernel_rfl)
theorem Tryz.sh185 : HasSh Tryz.prog 185 [.i .i64, .i .i64] := .struct (ss := [.i .i64, .i .i64]) Tryz.underlying185 (HasFs.cons (s1 := [.i .i64]) (s2 := [.i .i64]) rfl Tryz.sh3 (by kernel_rfl) (HasFs.cons (s1 := [.i .i64]) (s2 := []) rfl Tryz.sh3 (by kernel_rfl) (HasFs.nil))) (by kernel_rfl)
theorem Tryz.sh187 : HasSh Tryz.prog 187 [.i .i64, .i .i64, .i .i64, .i .i64] := .struct (ss := [.i .i64, .i .i64, .i .i64, .i .i64]) Tryz.underlying187 (HasFs.cons (s1 := [.i .i64, .i .i64]) (s2 := [.i .i64, .i .i64]) rfl Tryz.sh185 (by kernel_rfl) (HasFs.cons (s1 := [.i .i64]) (s2 := [.i .i64]) rfl Tryz.sh3 (by kernel_rfl) (HasFs.cons (s1 := [.i .i64]) (s2 := []) rfl Tryz.sh3 (by kernel_rfl) (HasFs.nil)))) (by kernel_rfl)
theorem Tryz.sh316 : HasSh Tryz.prog 316 [.i .i64, .l [.i .u8]] := .struct (ss := [.i .i64, .l [.i .u8]]) Tryz.underlying316 (HasFs.cons (s1 := [.i .i64]) (s2 := [.l [.i .u8]]) rfl Tryz.sh3 (by kernel_rfl) (HasFs.cons (s1 := [.l [.i .u8]]) (s2 := []) rfl Tryz.sh22 (by kernel_rfl) (HasFs.nil))) (by kernel_rfl)
theorem Tryz.sh188 : HasSh Tryz.prog 188 [.l [.i .i64, .l [.i .u8]]] := .slice Tryz.underlying188 Tryz.sh316 (by kernel_rfl) (by decide)
theorem Tryz.sh298 : HasSh Tryz.prog 298 [.l [.i .u8]] := .struct (ss := [.l [.i .u8]]) Tryz.underlying298 (HasFs.cons (s1 := [.l [.i .u8]]) (s2 := []) rfl Tryz.sh22 (by kernel_rfl) (HasFs.nil)) (by kernel_rfl)
theorem Tryz.sh189 : HasSh Tryz.prog 189 [.l [.l [.i .u8]]] := .slice Tryz.underlying189 Tryz.sh298 (by kernel_rfl) (by decide)
theorem Tryz.sh191 : HasSh Tryz.prog 191 [.i .i64, .l [.i .i64, .l [.i .u8]], .l [.l [.i .u8]]] := .struct (ss := [.i .i64, .l [.i .i64, .l [.i .u8]], .l [.l [.i .u8]]]) Tryz.underlying191 (HasFs.cons (s1 := [.i .i64]) (s2 := [.l [.i .i64, .l [.i .u8]], .l [.l [.i .u8]]]) rfl Tryz.sh3 (by kernel_rfl) (HasFs.cons (s1 := [.l [.i .i64, .l [.i .u8]]]) (s2 := [.l [.l [.i .u8]]]) rfl Tryz.sh188 (by kernel_rfl) (HasFs.cons (s1 := [.l [.l [.i .u8]]]) (s2 := []) rfl Tryz.sh189 (by kernel_rfl) (HasFs.nil)))) (by kernel_rfl)
theorem Tryz.sh193 : HasSh Tryz.prog 193 [.i .i64, .i .i64, .i .i64, .i .i64, .i .i64, .i .i64, .i .i64, .i .i64, .i .i64, .b, .i .i64, .i .i64, .l [.i .i64, .l [.i .u8]], .l [.l [.i .u8]]] := .struct (ss := [.i .i64, .i .i64, .i .i64, .i .i64, .i .i64, .i .i64, .i .i64, .i .i64, .i .i64, .b, .i .i64, .i .i64, .l [.i .i64, .l [.i .u8]], .l [.l [.i .u8]]]) Tryz.underlying193 (HasFs.cons (s1 := [.i .i64, .i .i64, .i .i64, .i .i64]) (s2 := [.i .i64, .i .i64, .i .i64, .i .i64, .i .i64, .b, .i .i64, .i .i64, .l [.i .i64, .l [.i .u8]], .l [.l [.i .u8]]]) rfl Tryz.sh187 (by kernel_rfl) (HasFs.cons (s1 := [.i .i64]) (s2 := [.i .i64, .i .i64, .i .i64, .i .i64, .b, .i .i64, .i .i64, .l [.i .i64, .l [.i .u8]], .l [.l [.i .u8]]]) rfl Tryz.sh3 (by kernel_rfl) (HasFs.cons (s1 := [.i .i64]) (s2 := [.i .i64, .i .i64, .i .i64, .b, .i .i64, .i .i64, .l [.i .i64, .l [.i .u8]], .l [.l [.i .u8]]]) rfl Tryz.sh3 (by kernel_rfl) (HasFs.cons (s1 := [.i .i64]) (s2 := [.i .i64, .i .i64, .b, .i .i64, .i .i64, .l [.i .i64, .l [.i .u8]], .l [.l [.i .u8]]]) rfl Tryz.sh3 (by kernel_rfl) (HasFs.cons (s1 := [.i .i64]) (s2 := [.i .i64, .b, .i .i64, .i .i64, .l [.i .i64, .l [.i .u8]], .l [.l [.i .u8]]]) rfl Tryz.sh3 (by kernel_rfl) (HasFs.cons (s1 := [.i .i64]) (s2 := [.b, .i .i64, .i .i64, .l [.i .i64, .l [.i .u8]], .l [.l [.i .u8]]]) rfl Tryz.sh3 (by kernel_rfl) (HasFs.cons (s1 := [.b]) (s2 := [.i .i64, .i .i64, .l [.i .i64, .l [.i .u8]], .l [.l [.i .u8]]]) rfl Tryz.sh4 (by kernel_rfl) (HasFs.cons (s1 := [.i .i64]) (s2 := [.i .i64, .l [.i .i64, .l [.i .u8]], .l [.l [.i .u8]]]) rfl Tryz.sh3 (by kernel_rfl) (HasFs.cons (s1 := [.i .i64, .l [.i .i64, .l [.i .u8]], .l [.l [.i .u8]]]) (s2 := []) rfl Tryz.sh191 (by kernel_rfl) (HasFs.nil)))))))))) (by kernel_rfl)
theorem Tryz.sh72 : HasSh Tryz.prog 72 [.l [.i .i64, .i .i64, .i .i64, .i .i64, .i .i64, .i .i64, .i .i64, .i .i64, .i .i64, .b, .i .i64, .i .i64, .l [.i .i64, .l [.i .u8]], .l [.l [.i .u8]]]] := .slice Tryz.underlying72 Tryz.sh193 (by kernel_rfl) (by decide)
theorem Tryz.sh196 : HasSh Tryz.prog 196 [.i .i64, .i .i64, .i .i64, .i .i64] := .struct (ss := [.i .i64, .i .i64, .i .i64, .i .i64]) Tryz.underlying196 (HasFs.cons (s1 := [.i .i64, .i .i64]) (s2 := [.i .i64, .i .i64]) rfl Tryz.sh185 (by kernel_rfl) (HasFs.cons (s1 := [.i .i64]) (s2 := [.i .i64]) rfl Tryz.sh3 (by kernel_rfl) (HasFs.cons (s1 := [.i .i64]) (s2 := []) rfl Tryz.sh3 (by kernel_rfl) (HasFs.nil)))) (by kernel_rfl)
theorem Tryz.sh197 : HasSh Tryz.prog 197 [.i .i64, .i .i64, .i .i64, .l [.i .i64]] := .struct (ss := [.i .i64, .i .i64, .i .i64, .l [.i .i64]]) Tryz.underlying197 (HasFs.cons (s1 := [.i .i64]) (s2 := [.i .i64, .i .i64, .l [.i .i64]]) rfl Tryz.sh3 (by kernel_rfl) (HasFs.cons (s1 := [.i .i64]) (s2 := [.i .i64, .l [.i .i64]]) rfl Tryz.sh3 (by kernel_rfl) (HasFs.cons (s1 := [.i .i64]) (s2 := [.l [.i .i64]]) rfl Tryz.sh3 (by kernel_rfl) (HasFs.cons (s1 := [.l [.i .i64]]) (s2 := []) rfl Tryz.sh28 (by kernel_rfl) (HasFs.nil))))) (by kernel_rfl)
theorem Tryz.sh198 : HasSh Tryz.prog 198 [.i .i64, .i .i64, .i .i64, .i .i64, .i .i64] := .struct (ss := [.i .i64, .i .i64, .i .i64, .i .i64, .i .i64]) Tryz.underlying198 (HasFs.cons (s1 := [.i .i64]) (s2 := [.i .i64, .i .i64, .i .i64, .i .i64]) rfl Tryz.sh3 (by kernel_rfl) (HasFs.cons (s1 := [.i .i64]) (s2 := [.i .i64, .i .i64, .i .i64]) rfl Tryz.sh3 (by kernel_rfl) (HasFs.cons (s1 := [.i .i64]) (s2 := [.i .i64, .i .i64]) rfl Tryz.sh3 (by kernel_rfl) (HasFs.cons (s1 := [.i .i64]) (s2 := [.i .i64]) rfl Tryz.sh3 (by kernel_rfl) (HasFs.cons (s1 := [.i .i64]) (s2 := []) rfl Tryz.sh3 (by kernel_rfl) (HasFs.nil)))))) (by kernel_rfl)
theorem Tryz.sh199 : HasSh Tryz.prog 199 [.i .i64, .i .i64, .i .i64] := .struct (ss := [.i .i64, .i .i64, .i .i64]) Tryz.underlying199 (HasFs.cons (s1 := [.i .i64]) (s2 := [.i .i64, .i .i64]) rfl Tryz.sh3 (by kernel_rfl) (HasFs.cons (s1 := [.i .i64]) (s2 := [.i .i64]) rfl Tryz.sh3 (by kernel_rfl) (HasFs.cons (s1 := [.i .i64]) (s2 := []) rfl Tryz.sh3 (by kernel_rfl) (HasFs.nil)))) (by kernel_rfl)
theorem Tryz.sh201 : HasSh Tryz.prog 201 [.i .i64, .l [.i .i64, .l [.i .u8]]] := .struct (ss := [.i .i64, .l [.i .i64, .l [.i .u8]]]) Tryz.underlying201 (HasFs.cons (s1 := [.i .i64]) (s2 := [.l [.i .i64, .l [.i .u8]]]) rfl Tryz.sh3 (by kernel_rfl) (HasFs.cons (s1 := [.l [.i .i64, .l [.i .u8]]]) (s2 := []) rfl Tryz.sh188 (by kernel_rfl) (HasFs.nil))) (by kernel_rfl)
theorem Tryz.sh202 : HasSh Tryz.prog 202 [.i .i64, .i .i64, .i .i64] := .struct (ss := [.i .i64, .i .i64, .i .i64]) Tryz.underlying202 (HasFs.cons (s1 := [.i .i64]) (s2 := [.i .i64, .i .i64]) rfl Tryz.sh3 (by kernel_rfl) (HasFs.cons (s1 := [.i .i64]) (s2 := [.i .i64]) rfl Tryz.sh3 (by kernel_rfl) (HasFs.cons (s1 := [.i .i64]) (s2 := []) rfl Tryz.sh3 (by kernel_rfl) (HasFs.nil)))) (by kernel_rfl)
theorem Tryz.sh204 : HasSh Tryz.prog 204 [.i .i64, .i .i64, .i .i64, .i .i64, .i .i64, .i .i64, .i .i64, .l [.i .i64], .i .i64, .i .i64, .i .i64, .i .i64, .i .i64, .i .i64, .i .i64, .i .i64, .i .i64, .i .i64, .i .i64, .i .i64, .i .i64, .i .i64, .i .i64, .l [.l [.i .u8]], .i .i64, .l [.i .i64, .l [.i .u8]], .i .i64, .i .i64, .i .i64, .i .i64] := .struct (ss := [.i .i64, .i .i64, .i .i64, .i .i64, .i .i64, .i .i64, .i .i64, .l [.i .i64], .i .i64, .i .i64, .i .i64, .i .i64, .i .i64, .i .i64, .i .i64, .i .i64, .i .i64, .i .i64, .i .i64, .i .i64, .i .i64, .i .i64, .i .i64, .l [.l [.i .u8]], .i .i64, .l [.i .i64, .l [.i .u8]], .i .i64, .i .i64, .i .i64, .i .i64]) Tryz.underlying204 (HasFs.cons (s1 := [.i .i64, .i .i64, .i .i64, .i .i64]) (s2 := [.i .i64, .i .i64, .i .i64, .l [.i .i64], .i .i64, .i .i64, .i .i64, .i .i64, .i .i64, .i .i64, .i .i64, .i .i64, .i .i64, .i .i64, .i .i64, .i .i64, .i .i64, .i .i64, .i .i64, .l [.l [.i .u8]], .i .i64, .l [.i .i64, .l [.i .u8]], .i .i64, .i .i64, .i .i64, .i .i64]) rfl Tryz.sh196 (by kernel_rfl) (HasFs.cons (s1 := [.i .i64, .i .i64, .i .i64, .l [.i .i64]]) (s2 := [.i .i64, .i .i64, .i .i64, .i .i64, .i .i64, .i .i64, .i .i64, .i .i64, .i .i64, .i .i64, .i .i64, .i .i64, .i .i64, .i .i64, .i .i64, .l [.l [.i .u8]], .i .i64, .l [.i .i64, .l [.i .u8]], .i .i64, .i .i64, .i .i64, .i .i64]) rfl Tryz.sh197 (by kernel_rfl) (HasFs.cons (s1 := [.i .i64]) (s2 := [.i .i64, .i .i64, .i .i64, .i .i64, .i .i64, .i .i64, .i .i64, .i .i64, .i .i64, .i .i64, .i .i64, .i .i64, .i .i64, .i .i64, .l [.l [.i .u8]], .i .i64, .l [.i .i64, .l [.i .u8]], .i .i64, .i .i64, .i .i64, .i .i64]) rfl Tryz.sh3 (by kernel_rfl) (HasFs.cons (s1 := [.i .i64, .i .i64, .i .i64, .i .i64, .i .i64]) (s2 := [.i .i64, .i .i64, .i .i64, .i .i64, .i .i64, .i .i64, .i .i64, .i .i64, .i .i64, .l [.l [.i .u8]], .i .i64, .l [.i .i64, .l [.i .u8]], .i .i64, .i .i64, .i .i64, .i .i64]) rfl Tryz.sh198 (by kernel_rfl) (HasFs.cons (s1 := [.i .i64]) (s2 := [.i .i64, .i .i64, .i .i64, .i .i64, .i .i64, .i .i64, .i .i64, .i .i64, .l [.l [.i .u8]], .i .i64, .l [.i .i64, .l [.i .u8]], .i .i64, .i .i64, .i .i64, .i .i64]) rfl Tryz.sh3 (by kernel_rfl) (HasFs.cons (s1 := [.i .i64]) (s2 := [.i .i64, .i .i64, .i .i64, .i .i64, .i .i64, .i .i64, .i .i64, .l [.l [.i .u8]], .i .i64, .l [.i .i64, .l [.i .u8]], .i .i64, .i .i64, .i .i64, .i .i64]) rfl Tryz.sh3 (by kernel_rfl) (HasFs.cons (s1 := [.i .i64]) (s2 := [.i .i64, .i .i64, .i .i64, .i .i64, .i .i64, .i .i64, .l [.l [.i .u8]], .i .i64, .l [.i .i64, .l [.i .u8]], .i .i64, .i .i64, .i .i64, .i .i64]) rfl Tryz.sh3 (by kernel_rfl) (HasFs.cons (s1 := [.i .i64]) (s2 := [.i .i64, .i .i64, .i .i64, .i .i64, .i .i64, .l [.l [.i .u8]], .i .i64, .l [.i .i64, .l [.i .u8]], .i .i64, .i .i64, .i .i64, .i .i64]) rfl Tryz.sh3 (by kernel_rfl) (HasFs.cons (s1 := [.i .i64]) (s2 := [.i .i64, .i .i64, .i .i64, .i .i64, .l [.l [.i .u8]], .i .i64, .l [.i .i64, .l [.i .u8]], .i .i64, .i .i64, .i .i64, .i .i64]) rfl Tryz.sh3 (by kernel_rfl) (HasFs.cons (s1 := [.i .i64]) (s2 := [.i .i64, .i .i64, .i .i64, .l [.l [.i .u8]], .i .i64, .l [.i .i64, .l [.i .u8]], .i .i64, .i .i64, .i .i64, .i .i64]) rfl Tryz.sh3 (by kernel_rfl) (HasFs.cons (s1 := [.i .i64, .i .i64, .i .i64]) (s2 := [.l [.l [.i .u8]], .i .i64, .l [.i .i64, .l [.i .u8]], .i .i64, .i .i64, .i .i64, .i .i64]) rfl Tryz.sh199 (by kernel_rfl) (HasFs.cons (s1 := [.l [.l [.i .u8]]]) (s2 := [.i .i64, .l [.i .i64, .l [.i .u8]], .i .i64, .i .i64, .i .i64, .i .i64]) rfl Tryz.sh189 (by kernel_rfl) (HasFs.cons (s1 := [.i .i64, .l [.i .i64, .l [.i .u8]]]) (s2 := [.i .i64, .i .i64, .i .i64, .i .i64]) rfl Tryz.sh201 (by kernel_rfl) (HasFs.cons (s1 := [.i .i64]) (s2 := [.i .i64, .i .i64, .i .i64]) rfl Tryz.sh3 (by kernel_rfl) (HasFs.cons (s1 := [.i .i64, .i .i64, .i .i64]) (s2 := []) rfl Tryz.sh202 (by kernel_rfl) (HasFs.nil)))))))))))))))) (by kernel_rfl)
theorem Tryz.sh73 : HasSh Tryz.prog 73 [.l [.i .i64, .i .i64, .i .i64, .i .i64, .i .i64, .i .i64, .i .i64, .l [.i .i64], .i .i64, .i .i64, .i .i64, .i .i64, .i .i64, .i .i64, .i .i64, .i .i64, .i .i64, .i .i64, .i .i64, .i .i64, .i .i64, .i .i64, .i .i64, .l [.l [.i .u8]], .i .i64, .l [.i .i64, .l [.i .u8]], .i .i64, .i .i64, .i .i64, .i .i64]] := .slice Tryz.underlying73 Tryz.sh204 (by kernel_rfl) (by decide)
theorem Tryz.sh306 : HasSh Tryz.prog 306 [.i .i64, .i .i64] := .struct (ss := [.i .i64, .i .i64]) Tryz.underlying306 (HasFs.cons (s1 := [.i .i64]) (s2 := [.i .i64]) rfl Tryz.sh3 (by kernel_rfl) (HasFs.cons (s1 := [.i .i64]) (s2 := []) rfl Tryz.sh3 (by kernel_rfl) (HasFs.nil))) (by kernel_rfl)
theorem Tryz.sh206 : HasSh Tryz.prog 206 [.l [.i .i64, .i .i64]] := .slice Tryz.underlying206 Tryz.sh306 (by kernel_rfl) (by decide)
theorem Tryz.sh208 : HasSh Tryz.prog 208 [.i .i64, .i .i64, .i .i64, .l [.i .i64, .i .i64]] := .struct (ss := [.i .i64, .i .i64, .i .i64, .l [.i .i64, .i .i64]]) Tryz.underlying208 (HasFs.cons (s1 := [.i .i64]) (s2 := [.i .i64, .i .i64, .l [.i .i64, .i .i64]]) rfl Tryz.sh3 (by kernel_rfl) (HasFs.cons (s1 := [.i .i64]) (s2 := [.i .i64, .l [.i .i64, .i .i64]]) rfl Tryz.sh3 (by kernel_rfl) (HasFs.cons (s1 := [.i .i64]) (s2 := [.l [.i .i64, .i .i64]]) rfl Tryz.sh3 (by kernel_rfl) (HasFs.cons (s1 := [.l [.i .i64, .i .i64]]) (s2 := []) rfl Tryz.sh206 (by kernel_rfl) (HasFs.nil))))) (by kernel_rfl)
theorem Tryz.sh74 : HasSh Tryz.prog 74 [.l [.i .i64, .i .i64, .i .i64, .l [.i .i64, .i .i64]]] := .slice Tryz.underlying74 Tryz.sh208 (by kernel_rfl) (by decide)
theorem Tryz.sh211 : HasSh Tryz.prog 211 [.i .i64, .i .i64, .i .i64, .i .i64, .i .i64, .i .i64, .i .i64, .i .i64, .i .i64, .i .i64, .i .i64] := .struct (ss := [.i .i64, .i .i64, .i .i64, .i .i64, .i .i64, .i .i64, .i .i64, .i .i64, .i .i64, .i .i64, .i .i64]) Tryz.underlying211 (HasFs.cons (s1 := [.i .i64]) (s2 := [.i .i64, .i .i64, .i .i64, .i .i64, .i .i64, .i .i64, .i .i64, .i .i64, .i .i64, .i .i64]) rfl Tryz.sh3 (by kernel_rfl) (HasFs.cons (s1 := [.i .i64]) (s2 := [.i .i64, .i .i64, .i .i64, .i .i64, .i .i64, .i .i64, .i .i64, .i .i64, .i .i64]) rfl Tryz.sh3 (by kernel_rfl) (HasFs.cons (s1 := [.i .i64]) (s2 := [.i .i64, .i .i64, .i .i64, .i .i64, .i .i64, .i .i64, .i .i64, .i .i64]) rfl Tryz.sh3 (by kernel_rfl) (HasFs.cons (s1 := [.i .i64]) (s2 := [.i .i64, .i .i64, .i .i64, .i .i64, .i .i64, .i .i64, .i .i64]) rfl Tryz.sh3 (by kernel_rfl) (HasFs.cons (s1 := [.i .i64]) (s2 := [.i .i64, .i .i64, .i .i64, .i .i64, .i .i64, .i .i64]) rfl Tryz.sh3 (by kernel_rfl) (HasFs.cons (s1 := [.i .i64, .i .i64, .i .i64, .i .i64, .i .i64]) (s2 := [.i .i64]) rfl Tryz.sh198 (by kernel_rfl) (HasFs.cons (s1 := [.i .i64]) (s2 := []) rfl Tryz.sh3 (by kernel_rfl) (HasFs.nil)))))))) (by kernel_rfl)
theorem Tryz.sh212 : HasSh Tryz.prog 212 [.i .i64, .i .i64, .l [.i .u8], .i .i64] := .struct (ss := [.i .i64, .i .i64, .l [.i .u8], .i .i64]) Tryz.underlying212 (HasFs.cons (s1 := [.i .i64]) (s2 := [.i .i64, .l [.i .u8], .i .i64]) rfl Tryz.sh3 (by kernel_rfl) (HasFs.cons (s1 := [.i .i64]) (s2 := [.l [.i .u8], .i .i64]) rfl Tryz.sh3 (by kernel_rfl) (HasFs.cons (s1 := [.l [.i .u8]]) (s2 := [.i .i64]) rfl Tryz.sh22 (by kernel_rfl) (HasFs.cons (s1 := [.i .i64]) (s2 := []) rfl Tryz.sh3 (by kernel_rfl) (HasFs.nil))))) (by kernel_rfl)
theorem Tryz.sh214 : HasSh Tryz.prog 214 [.i .i64, .i .i64, .i .i64, .i .i64, .l [.i .u8], .i .i64] := .struct (ss := [.i .i64, .i .i64, .i .i64, .i .i64, .l [.i .u8], .i .i64]) Tryz.underlying214 (HasFs.cons (s1 := [.i .i64]) (s2 := [.i .i64, .i .i64, .i .i64, .l [.i .u8], .i .i64]) rfl Tryz.sh3 (by kernel_rfl) (HasFs.cons (s1 := [.i .i64]) (s2 := [.i .i64, .i .i64, .l [.i .u8], .i .i64]) rfl Tryz.sh3 (by kernel_rfl) (HasFs.cons (s1 := [.i .i64, .i .i64, .l [.i .u8], .i .i64]) (s2 := []) rfl Tryz.sh212 (by kernel_rfl) (HasFs.nil)))) (by kernel_rfl)
theorem Tryz.sh216 : HasSh Tryz.prog 216 [.i .i64, .b, .b, .i .i64, .i .i64, .i .i64, .i .i64, .i .i64, .i .i64, .i .i64, .i .i64, .i .i64, .i .i64, .i .i64, .i .i64, .i .i64, .i .i64, .i .i64, .i .i64, .l [.i .u8], .i .i64] := .struct (ss := [.i .i64, .b, .b, .i .i64, .i .i64, .i .i64, .i .i64, .i .i64, .i .i64, .i .i64, .i .i64, .i .i64, .i .i64, .i .i64, .i .i64, .i .i64, .i .i64, .i .i64, .i .i64, .l [.i .u8], .i .i64]) Tryz.underlying216 (HasFs.cons (s1 := [.i .i64]) (s2 := [.b, .b, .i .i64, .i .i64, .i .i64, .i .i64, .i .i64, .i .i64, .i .i64, .i .i64, .i .i64, .i .i64, .i .i64, .i .i64, .i .i64, .i .i64, .i .i64, .i .i64, .l [.i .u8], .i .i64]) rfl Tryz.sh3 (by kernel_rfl) (HasFs.cons (s1 := [.b]) (s2 := [.b, .i .i64, .i .i64, .i .i64, .i .i64, .i .i64, .i .i64, .i .i64, .i .i64, .i .i64, .i .i64, .i .i64, .i .i64, .i .i64, .i .i64, .i .i64, .i .i64, .l [.i .u8], .i .i64]) rfl Tryz.sh4 (by kernel_rfl) (HasFs.cons (s1 := [.b]) (s2 := [.i .i64, .i .i64, .i .i64, .i .i64, .i .i64, .i .i64, .i .i64, .i .i64, .i .i64, .i .i64, .i .i64, .i .i64, .i .i64, .i .i64, .i .i64, .i .i64, .l [.i .u8], .i .i64]) rfl Tryz.sh4 (by kernel_rfl) (HasFs.cons (s1 := [.i .i64]) (s2 := [.i .i64, .i .i64, .i .i64, .i .i64, .i .i64, .i .i64, .i .i64, .i .i64, .i .i64, .i .i64, .i .i64, .i .i64, .i .i64, .i .i64, .i .i64, .l [.i .u8], .i .i64]) rfl Tryz.sh3 (by kernel_rfl) (HasFs.cons (s1 := [.i .i64, .i .i64, .i .i64, .i .i64, .i .i64, .i .i64, .i .i64, .i .i64, .i .i64, .i .i64, .i .i64]) (s2 := [.i .i64, .i .i64, .i .i64, .i .i64, .l [.i .u8], .i .i64]) rfl Tryz.sh211 (by kernel_rfl) (HasFs.cons (s1 := [.i .i64, .i .i64, .i .i64, .i .i64, .l [.i .u8], .i .i64]) (s2 := []) rfl Tryz.sh214 (by kernel_rfl) (HasFs.nil))))))) (by kernel_rfl)
theorem Tryz.sh75 : HasSh Tryz.prog 75 [.l [.i .i64, .b, .b, .i .i64, .i .i64, .i .i64, .i .i64, .i .i64, .i .i64, .i .i64, .i .i64, .i .i64, .i .i64, .i .i64, .i .i64, .i .i64, .i .i64, .i .i64, .i .i64, .l [.i .u8], .i .i64]] := .slice Tryz.underlying75 Tryz.sh216 (by kernel_rfl) (by decide)
theorem Tryz.sh76 : HasSh Tryz.prog 76 [.i .i64, .i .i64] := .struct (ss := [.i .i64, .i .i64]) Tryz.underlying76 (HasFs.cons (s1 := [.i .i64]) (s2 := [.i .i64]) rfl Tryz.sh3 (by kernel_rfl) (HasFs.cons (s1 := [.i .i64]) (s2 := []) rfl Tryz.sh3 (by kernel_rfl) (HasFs.nil))) (by kernel_rfl)
theorem Tryz.sh78 : HasSh Tryz.prog 78 [.l [.i .i64, .l [.i .i64]], .l [.i .i64, .i .i64, .i .i64, .i .i64, .i .i64, .i .i64, .i .i64, .i .i64, .i .i64, .b, .i .i64, .i .i64, .l [.i .i64, .l [.i .u8]], .l [.l [.i .u8]]], .l [.i .i64, .i .i64, .i .i64, .i .i64, .i .i64, .i .i64, .i .i64, .l [.i .i64], .i .i64, .i .i64, .i .i64, .i .i64, .i .i64, .i .i64, .i .i64, .i .i64, .i .i64, .i .i64, .i .i64, .i .i64, .i .i64, .i .i64, .i .i64, .l [.l [.i .u8]], .i .i64, .l [.i .i64, .l [.i .u8]], .i .i64, .i .i64, .i .i64, .i .i64], .l [.i .i64, .i .i64, .i .i64, .l [.i .i64, .i .i64]], .l [.i .i64, .b, .b, .i .i64, .i .i64, .i .i64, .i .i64, .i .i64, .i .i64, .i .i64, .i .i64, .i .i64, .i .i64, .i .i64, .i .i64, .i .i64, .i .i64, .i .i64, .i .i64, .l [.i .u8], .i .i64], .i .i64, .i .i64, .i .i64, .i .i64, .i .i64] := .struct (ss := [.l [.i .i64, .l [.i .i64]], .l [.i .i64, .i .i64, .i .i64, .i .i64, .i .i64, .i .i64, .i .i64, .i .i64, .i .i64, .b, .i .i64, .i .i64, .l [.i .i64, .l [.i .u8]], .l [.l [.i .u8]]], .l [.i .i64, .i .i64, .i .i64, .i .i64, .i .i64, .i .i64, .i .i64, .l [.i .i64], .i .i64, .i .i64, .i .i64, .i .i64, .i .i64, .i .i64, .i .i64, .i .i64, .i .i64, .i .i64, .i .i64, .i .i64, .i .i64, .i .i64, .i .i64, .l [.l [.i .u8]], .i .i64, .l [.i .i64, .l [.i .u8]], .i .i64, .i .i64, .i .i64, .i .i64], .l [.i .i64, .i .i64, .i .i64, .l [.i .i64, .i .i64]], .l [.i .i64, .b, .b, .i .i64, .i .i64, .i .i64, .i .i64, .i .i64, .i .i64, .i .i64, .i .i64, .i .i64, .i .i64, .i .i64, .i .i64, .i .i64, .i .i64, .i .i64, .i .i64, .l [.i .u8], .i .i64], .i .i64, .i .i64, .i .i64, .i .i64, .i .i64]) Tryz.underlying78 (HasFs.cons (s1 := [.l [.i .i64, .l [.i .i64]]]) (s2 := [.l [.i .i64, .i .i64, .i .i64, .i .i64, .i .i64, .i .i64, .i .i64, .i .i64, .i .i64, .b, .i .i64, .i .i64, .l [.i .i64, .l [.i .u8]], .l [.l [.i .u8]]], .l [.i .i64, .i .i64, .i .i64, .i .i64, .i .i64, .i .i64, .i .i64, .l [.i .i64], .i .i64, .i .i64, .i .i64, .i .i64, .i .i64, .i .i64, .i .i64, .i .i64, .i .i64, .i .i64, .i .i64, .i .i64, .i .i64, .i .i64, .i .i64, .l [.l [.i .u8]], .i .i64, .l [.i .i64, .l [.i .u8]], .i .i64, .i .i64, .i .i64, .i .i64], .l [.i .i64, .i .i64, .i .i64, .l [.i .i64, .i .i64]], .l [.i .i64, .b, .b, .i .i64, .i .i64, .i .i64, .i .i64, .i .i64, .i .i64, .i .i64, .i .i64, .i .i64, .i .i64, .i .i64, .i .i64, .i .i64, .i .i64, .i .i64, .i .i64, .l [.i .u8], .i .i64], .i .i64, .i .i64, .i .i64, .i .i64, .i .i64]) rfl Tryz.sh71 (by kernel_rfl) (HasFs.cons (s1 := [.l [.i .i64, .i .i64, .i .i64, .i .i64, .i .i64, .i .i64, .i .i64, .i .i64, .i .i64, .b, .i .i64, .i .i64, .l [.i .i64, .l [.i .u8]], .l [.l [.i .u8]]]]) (s2 := [.l [.i .i64, .i .i64, .i .i64, .i .i64, .i .i64, .i .i64, .i .i64, .l [.i .i64], .i .i64, .i .i64, .i .i64, .i .i64, .i .i64, .i .i64, .i .i64, .i .i64, .i .i64, .i .i64, .i .i64, .i .i64, .i .i64, .i .i64, .i .i64, .l [.l [.i .u8]], .i .i64, .l [.i .i64, .l [.i .u8]], .i .i64, .i .i64, .i .i64, .i .i64], .l [.i .i64, .i .i64, .i .i64, .l [.i .i64, .i .i64]], .l [.i .i64, .b, .b, .i .i64, .i .i64, .i .i64, .i .i64, .i .i64, .i .i64, .i .i64, .i .i64, .i .i64, .i .i64, .i .i64, .i .i64, .i .i64, .i .i64, .i .i64, .i .i64, .l [.i .u8], .i .i64], .i .i64, .i .i64, .i .i64, .i .i64, .i .i64]) rfl Tryz.sh72 (by kernel_rfl) (HasFs.cons (s1 := [.l [.i .i64, .i .i64, .i .i64, .i .i64, .i .i64, .i .i64, .i .i64, .l [.i .i64], .i .i64, .i .i64, .i .i64, .i .i64, .i .i64, .i .i64, .i .i64, .i .i64, .i .i64, .i .i64, .i .i64, .i .i64, .i .i64, .i .i64, .i .i64, .l [.l [.i .u8]], .i .i64, .l [.i .i64, .l [.i .u8]], .i .i64, .i .i64, .i .i64, .i .i64]]) (s2 := [.l [.i .i64, .i .i64, .i .i64, .l [.i .i64, .i .i64]], .l [.i .i64, .b, .b, .i .i64, .i .i64, .i .i64, .i .i64, .i .i64, .i .i64, .i .i64, .i .i64, .i .i64, .i .i64, .i .i64, .i .i64, .i .i64, .i .i64, .i .i64, .i .i64, .l [.i .u8], .i .i64], .i .i64, .i .i64, .i .i64, .i .i64, .i .i64]) rfl Tryz.sh73 (by kernel_rfl) (HasFs.cons (s1 := [.l [.i .i64, .i .i64, .i .i64, .l [.i .i64, .i .i64]]]) (s2 := [.l [.i .i64, .b, .b, .i .i64, .i .i64, .i .i64, .i .i64, .i .i64, .i .i64, .i .i64, .i .i64, .i .i64, .i .i64, .i .i64, .i .i64, .i .i64, .i .i64, .i .i64, .i .i64, .l [.i .u8], .i .i64], .i .i64, .i .i64, .i .i64, .i .i64, .i .i64]) rfl Tryz.sh74 (by kernel_rfl) (HasFs.cons (s1 := [.l [.i .i64, .b, .b, .i .i64, .i .i64, .i .i64, .i .i64, .i .i64, .i .i64, .i .i64, .i .i64, .i .i64, .i .i64, .i .i64, .i .i64, .i .i64, .i .i64, .i .i64, .i .i64, .l [.i .u8], .i .i64]]) (s2 := [.i .i64, .i .i64, .i .i64, .i .i64, .i .i64]) rfl Tryz.sh75 (by kernel_rfl) (HasFs.cons (s1 := [.i .i64]) (s2 := [.i .i64, .i .i64, .i .i64, .i .i64]) rfl Tryz.sh3 (by kernel_rfl) (HasFs.cons (s1 := [.i .i64, .i .i64]) (s2 := [.i .i64, .i .i64]) rfl Tryz.sh76 (by kernel_rfl) (HasFs.cons (s1 := [.i .i64]) (s2 := [.i .i64]) rfl Tryz.sh3 (by kernel_rfl) (HasFs.cons (s1 := [.i .i64]) (s2 := []) rfl Tryz.sh3 (by kernel_rfl) (HasFs.nil)))))))))) (by kernel_rfl)
theorem Tryz.sh131 : HasSh Tryz.prog 131 [.l [.i .i64]] := .struct (ss := [.l [.i .i64]]) Tryz.underlying131 (HasFs.cons (s1 := [.l [.i .i64]]) (s2 := []) rfl Tryz.sh28 (by kernel_rfl) (HasFs.nil)) (by kernel_rfl)
theorem Tryz.sh133 : HasSh Tryz.prog 133 [.i .i64, .l [.i .i64]] := .struct (ss := [.i .i64, .l [.i .i64]]) Tryz.underlying133 (HasFs.cons (s1 := [.i .i64]) (s2 := [.l [.i .i64]]) rfl Tryz.sh3 (by kernel_rfl) (HasFs.cons (s1 := [.l [.i .i64]]) (s2 := []) rfl Tryz.sh131 (by kernel_rfl) (HasFs.nil))) (by kernel_rfl)
theorem Tryz.sh79 : HasSh Tryz.prog 79 [.l [.i .i64, .l [.i .i64]]] := .slice Tryz.underlying79 Tryz.sh133 (by kernel_rfl) (by decide)
theorem Tryz.sh145 : HasSh Tryz.prog 145 [.l [.i .i64]] := .struct (ss := [.l [.i .i64]]) Tryz.underlying145 (HasFs.cons (s1 := [.l [.i .i64]]) (s2 := []) rfl Tryz.sh28 (by kernel_rfl) (HasFs.nil)) (by kernel_rfl)
theorem Tryz.sh147 : HasSh Tryz.prog 147 [.i .i64, .l [.i .i64]] := .struct (ss := [.i .i64, .l [.i .i64]]) Tryz.underlying147 (HasFs.cons (s1 := [.i .i64]) (s2 := [.l [.i .i64]]) rfl Tryz.sh3 (by kernel_rfl) (HasFs.cons (s1 := [.l [.i .i64]]) (s2 := []) rfl Tryz.sh145 (by kernel_rfl) (HasFs.nil))) (by kernel_rfl)
theorem Tryz.sh85 : HasSh Tryz.prog 85 [.l [.i .i64, .l [.i .i64]]] := .slice Tryz.underlying85 Tryz.sh147 (by kernel_rfl) (by decide)
theorem Tryz.sh164 : HasSh Tryz.prog 164 [.l [.i .u8], .i .i64, .i .i64] := .struct (ss := [.l [.i .u8], .i .i64, .i .i64]) Tryz.underlying164 (HasFs.cons (s1 := [.l [.i .u8]]) (s2 := [.i .i64, .i .i64]) rfl Tryz.sh22 (by kernel_rfl) (HasFs.cons (s1 := [.i .i64]) (s2 := [.i .i64]) rfl Tryz.sh3 (by kernel_rfl) (HasFs.cons (s1 := [.i .i64]) (s2 := []) rfl Tryz.sh3 (by kernel_rfl) (HasFs.nil)))) (by kernel_rfl)
theorem Tryz.eqa38 : EqA Tryz.prog 2 38 [.i .i64, .i .i64] := eqA_struct (k := 1) Tryz.underlying38 (by kernel_rfl) (eqF_s rfl (by decide) inferInstance (eqS_int Tryz.underlying3) (eqF_s rfl (by decide) inferInstance (eqS_int Tryz.underlying3) (eqF_nil)))
instance : TyEq Tryz.prog 38 [.i .i64, .i .i64] := ⟨⟨2, by decide, Tryz.eqa38⟩, by kernel_rfl⟩
theorem Tryz.eqa44 : EqA Tryz.prog 2 44 [.i .i64, .i .i64] := eqA_struct (k := 1) Tryz.underlying44 (by kernel_rfl) (eqF_s rfl (by decide) inferInstance (eqS_int Tryz.underlying3) (eqF_s rfl (by decide) inferInstance (eqS_int Tryz.underlying3) (eqF_nil)))
instance : TyEq Tryz.prog 44 [.i .i64, .i .i64] := ⟨⟨2, by decide, Tryz.eqa44⟩, by kernel_rfl⟩
theorem Tryz.eqa46 : EqA Tryz.prog 3 46 [.i .i64, .i .i64, .i .i64, .i .i64] := eqA_struct (k := 2) Tryz.underlying46 (by kernel_rfl) (eqF_a (n := 2) (s1 := [.i .i64, .i .i64]) rfl (by decide) inferInstance rfl (by decide) Tryz.eqa44 (eqF_s rfl (by decide) inferInstance (eqS_int Tryz.underlying3) (eqF_s rfl (by decide) inferInstance (eqS_int Tryz.underlying3) (eqF_nil))))
instance : TyEq Tryz.prog 46 [.i .i64, .i .i64, .i .i64, .i .i64] := ⟨⟨3, by decide, Tryz.eqa46⟩, by kernel_rfl⟩
theorem Tryz.eqa54 : EqA Tryz.prog 3 54 [.i .i64, .i .i64, .i .i64, .i .i64] := eqA_struct (k := 2) Tryz.underlying54 (by kernel_rfl) (eqF_a (n := 2) (s1 := [.i .i64, .i .i64]) rfl (by decide) inferInstance rfl (by decide) Tryz.eqa44 (eqF_s rfl (by decide) inferInstance (eqS_int Tryz.underlying3) (eqF_s rfl (by decide) inferInstance (eqS_int Tryz.underlying3) (eqF_nil))))
instance : TyEq Tryz.prog 54 [.i .i64, .i .i64, .i .i64, .i .i64] := ⟨⟨3, by decide, Tryz.eqa54⟩, by kernel_rfl⟩
theorem Tryz.eqa57 : EqA Tryz.prog 2 57 [.i .i64, .i .i64, .i .i64, .i .i64, .i .i64] := eqA_struct (k := 1) Tryz.underlying57 (by kernel_rfl) (eqF_s rfl (by decide) inferInstance (eqS_int Tryz.underlying3) (eqF_s rfl (by decide) inferInstance (eqS_int Tryz.underlying3) (eqF_s rfl (by decide) inferInstance (eqS_int Tryz.underlying3) (eqF_s rfl (by decide) inferInstance (eqS_int Tryz.underlying3) (eqF_s rfl (by decide) inferInstance (eqS_int Tryz.underlying3) (eqF_nil))))))
instance : TyEq Tryz.prog 57 [.i .i64, .i .i64, .i .i64, .i .i64, .i .i64] := ⟨⟨2, by decide, Tryz.eqa57⟩, by kernel_rfl⟩
theorem Tryz.eqa59 : EqA Tryz.prog 2 59 [.i .i64, .i .i64, .i .i64] := eqA_struct (k := 1) Tryz.underlying59 (by kernel_rfl) (eqF_s rfl (by decide) inferInstance (eqS_int Tryz.underlying3) (eqF_s rfl (by decide) inferInstance (eqS_int Tryz.underlying3) (eqF_s rfl (by decide) inferInstance (eqS_int Tryz.underlying3) (eqF_nil))))
instance : TyEq Tryz.prog 59 [.i .i64, .i .i64, .i .i64] := ⟨⟨2, by decide, Tryz.eqa59⟩, by kernel_rfl⟩
theorem Tryz.eqa63 : EqA Tryz.prog 2 63 [.i .i64, .i .i64, .i .i64] := eqA_struct (k := 1) Tryz.underlying63 (by kernel_rfl) (eqF_s rfl (by decide) inferInstance (eqS_int Tryz.underlying3) (eqF_s rfl (by decide) inferInstance (eqS_int Tryz.underlying3) (eqF_s rfl (by decide) inferInstance (eqS_int Tryz.underlying3) (eqF_nil))))
instance : TyEq Tryz.prog 63 [.i .i64, .i .i64, .i .i64] := ⟨⟨2, by decide, Tryz.eqa63⟩, by kernel_rfl⟩
theorem Tryz.eqa76 : EqA Tryz.prog 2 76 [.i .i64, .i .i64] := eqA_struct (k := 1) Tryz.underlying76 (by kernel_rfl) (eqF_s rfl (by decide) inferInstance (eqS_int Tryz.underlying3) (eqF_s rfl (by decide) inferInstance (eqS_int Tryz.underlying3) (eqF_nil)))
instance : TyEq Tryz.prog 76 [.i .i64, .i .i64] := ⟨⟨2, by decide, Tryz.eqa76⟩, by kernel_rfl⟩
theorem Tryz.eqa114 : EqA Tryz.prog 3 114 [.i .i64, .i .i64, .i .i64, .i .i64, .i .i64, .i .i64, .i .i64, .i .i64, .i .i64, .i .i64, .i .i64] := eqA_struct (k := 2) Tryz.underlying114 (by kernel_rfl) (eqF_s rfl (by decide) inferInstance (eqS_int Tryz.underlying3) (eqF_s rfl (by decide) inferInstance (eqS_int Tryz.underlying3) (eqF_s rfl (by decide) inferInstance (eqS_int Tryz.underlying3) (eqF_s rfl (by decide) inferInstance (eqS_int Tryz.underlying3) (eqF_s rfl (by decide) inferInstance (eqS_int Tryz.underlying3) (eqF_a (n := 5) (s1 := [.i .i64, .i .i64, .i .i64, .i .i64, .i .i64]) rfl (by decide) inferInstance rfl (by decide) Tryz.eqa57 (eqF_s rfl (by decide) inferInstance (eqS_int Tryz.underlying3) (eqF_nil))))))))
instance : TyEq Tryz.prog 114 [.i .i64, .i .i64, .i .i64, .i .i64, .i .i64, .i .i64, .i .i64, .i .i64, .i .i64, .i .i64, .i .i64] := ⟨⟨3, by decide, Tryz.eqa114⟩, by kernel_rfl⟩
theorem Tryz.eqa185 : EqA Tryz.prog 2 185 [.i .i64, .i .i64] := eqA_struct (k := 1) Tryz.underlying185 (by kernel_rfl) (eqF_s rfl (by decide) inferInstance (eqS_int Tryz.underlying3) (eqF_s rfl (by decide) inferInstance (eqS_int Tryz.underlying3) (eqF_nil)))
instance : TyEq Tryz.prog 185 [.i .i64, .i .i64] := ⟨⟨2, by decide, Tryz.eqa185⟩, by kernel_rfl⟩
theorem Tryz.eqa187 : EqA Tryz.prog 3 187 [.i .i64, .i .i64, .i .i64, .i .i64] := eqA_struct (k := 2) Tryz.underlying187 (by kernel_rfl) (eqF_a (n := 2) (s1 := [.i .i64, .i .i64]) rfl (by decide) inferInstance rfl (by decide) Tryz.eqa185 (eqF_s rfl (by decide) inferInstance (eqS_int Tryz.underlying3) (eqF_s rfl (by decide) inferInstance (eqS_int Tryz.underlying3) (eqF_nil))))
instance : TyEq Tryz.prog 187 [.i .i64, .i .i64, .i .i64, .i .i64] := ⟨⟨3, by decide, Tryz.eqa187⟩, by kernel_rfl⟩
theorem Tryz.eqa196 : EqA Tryz.prog 3 196 [.i .i64, .i .i64, .i .i64, .i .i64] := eqA_struct (k := 2) Tryz.underlying196 (by kernel_rfl) (eqF_a (n := 2) (s1 := [.i .i64, .i .i64]) rfl (by decide) inferInstance rfl (by decide) Tryz.eqa185 (eqF_s rfl (by decide) inferInstance (eqS_int Tryz.underlying3) (eqF_s rfl (by decide) inferInstance (eqS_int Tryz.underlying3) (eqF_nil))))
instance : TyEq Tryz.prog 196 [.i .i64, .i .i64, .i .i64, .i .i64] := ⟨⟨3, by decide, Tryz.eqa196⟩, by kernel_rfl⟩
theorem Tryz.eqa198 : EqA Tryz.prog 2 198 [.i .i64, .i .i64, .i .i64, .i .i64, .i .i64] := eqA_struct (k := 1) Tryz.underlying198 (by kernel_rfl) (eqF_s rfl (by decide) inferInstance (eqS_int Tryz.underlying3) (eqF_s rfl (by decide) inferInstance (eqS_int Tryz.underlying3) (eqF_s rfl (by decide) inferInstance (eqS_int Tryz.underlying3) (eqF_s rfl (by decide) inferInstance (eqS_int Tryz.underlying3) (eqF_s rfl (by decide) inferInstance (eqS_int Tryz.underlying3) (eqF_nil))))))
instance : TyEq Tryz.prog 198 [.i .i64, .i .i64, .i .i64, .i .i64, .i .i64] := ⟨⟨2, by decide, Tryz.eqa198⟩, by kernel_rfl⟩
theorem Tryz.eqa199 : EqA Tryz.prog 2 199 [.i .i64, .i .i64, .i .i64] := eqA_struct (k := 1) Tryz.underlying199 (by kernel_rfl) (eqF_s rfl (by decide) inferInstance (eqS_int Tryz.underlying3) (eqF_s rfl (by decide) inferInstance (eqS_int Tryz.underlying3) (eqF_s rfl (by decide) inferInstance (eqS_int Tryz.underlying3) (eqF_nil))))
instance : TyEq Tryz.prog 199 [.i .i64, .i .i64, .i .i64] := ⟨⟨2, by decide, Tryz.eqa199⟩, by kernel_rfl⟩
theorem Tryz.eqa202 : EqA Tryz.prog 2 202 [.i .i64, .i .i64, .i .i64] := eqA_struct (k := 1) Tryz.underlying202 (by kernel_rfl) (eqF_s rfl (by decide) inferInstance (eqS_int Tryz.underlying3) (eqF_s rfl (by decide) inferInstance (eqS_int Tryz.underlying3) (eqF_s rfl (by decide) inferInstance (eqS_int Tryz.underlying3) (eqF_nil))))
instance : TyEq Tryz.prog 202 [.i .i64, .i .i64, .i .i64] := ⟨⟨2, by decide, Tryz.eqa202⟩, by kernel_rfl⟩
theorem Tryz.eqa211 : EqA Tryz.prog 3 211 [.i .i64, .i .i64, .i .i64, .i .i64, .i .i64, .i .i64, .i .i64, .i .i64, .i .i64, .i .i64, .i .i64] := eqA_struct (k := 2) Tryz.underlying211 (by kernel_rfl) (eqF_s rfl (by decide) inferInstance (eqS_int Tryz.underlying3) (eqF_s rfl (by decide) inferInstance (eqS_int Tryz.underlying3) (eqF_s rfl (by decide) inferInstance (eqS_int Tryz.underlying3) (eqF_s rfl (by decide) inferInstance (eqS_int Tryz.underlying3) (eqF_s rfl (by decide) inferInstance (eqS_int Tryz.underlying3) (eqF_a (n := 5) (s1 := [.i .i64, .i .i64, .i .i64, .i .i64, .i .i64]) rfl (by decide) inferInstance rfl (by decide) Tryz.eqa198 (eqF_s rfl (by decide) inferInstance (eqS_int Tryz.underlying3) (eqF_nil))))))))
instance : TyEq Tryz.prog 211 [.i .i64, .i .i64, .i .i64, .i .i64, .i .i64, .i .i64, .i .i64, .i .i64, .i .i64, .i .i64, .i .i64] := ⟨⟨3, by decide, Tryz.eqa211⟩, by kernel_rfl⟩
theorem Tryz.eqa249 : EqA Tryz.prog 2 249 [.i .i64, .i .i64] := eqA_struct (k := 1) Tryz.underlying249 (by kernel_rfl) (eqF_s rfl (by decide) inferInstance (eqS_int Tryz.underlying3) (eqF_s rfl (by decide) inferInstance (eqS_int Tryz.underlying3) (eqF_nil)))
instance : TyEq Tryz.prog 249 [.i .i64, .i .i64] := ⟨⟨2, by decide, Tryz.eqa249⟩, by kernel_rfl⟩
theorem Tryz.eqa306 : EqA Tryz.prog 2 306 [.i .i64, .i .i64] := eqA_struct (k := 1) Tryz.underlying306 (by kernel_rfl) (eqF_s rfl (by decide) inferInstance (eqS_int Tryz.underlying3) (eqF_s rfl (by decide) inferInstance (eqS_int Tryz.underlying3) (eqF_nil)))
instance : TyEq Tryz.prog 306 [.i .i64, .i .i64] := ⟨⟨2, by decide, Tryz.eqa306⟩, by kernel_rfl⟩
theorem Tryz.follows : Tryz.prog.follows .mixedOrders = true := by kernel_rfl
structure TCell where
  Area : Int
  Neighbors : List Int
  deriving DecidableEq, Inhabited
def eTCell (a : TCell) : List D := [.i .i64 a.Area, .l (a.Neighbors.map eI)]
structure TCellMap where
  Cells : List TCell
  deriving DecidableEq, Inhabited
def eTCellMap (a : TCellMap) : List D := [.l (a.Cells.map eTCell)]
structure TSubscription where
  RateLimit : Int
  BestClass : Int
  GrantSize : Int
  RoamingNetworks : List Int
  deriving DecidableEq, Inhabited
def eTSubscription (a : TSubscription) : List D := [.i .i64 a.RateLimit, .i .i64 a.BestClass, .i .i64 a.GrantSize, .l (a.RoamingNetworks.map eI)]
structure TServerPool where
  Size : Int
  UpMask : Int
  deriving DecidableEq, Inhabited
def eTServerPool (a : TServerPool) : List D := [.i .i64 a.Size, .i .i64 a.UpMask]
structure TSubscriberID where
  Network : Int
  Number : Int
  deriving DecidableEq, Inhabited
def eTSubscriberID (a : TSubscriberID) : List D := [.i .i64 a.Network, .i .i64 a.Number]
structure TUSIM where
  ID : TSubscriberID
  Key : Int
  LastSeq : Int
  deriving DecidableEq, Inhabited
def eTUSIM (a : TUSIM) : List D := [.i .i64 a.ID.Network, .i .i64 a.ID.Number, .i .i64 a.Key, .i .i64 a.LastSeq]
structure TNumberedPacket where
  Seq : Int
  Data : List Int
  deriving DecidableEq, Inhabited
def eTNumberedPacket (a : TNumberedPacket) : List D := [.i .i64 a.Seq, .l (a.Data.map eU8)]
structure TPayload where
  Data : List Int
  deriving DecidableEq, Inhabited
def eTPayload (a : TPayload) : List D := [.l (a.Data.map eU8)]
structure TReceiveWindow where
  Next : Int
  Pending : List TNumberedPacket
  Delivered : List TPayload
  deriving DecidableEq, Inhabited
def eTReceiveWindow (a : TReceiveWindow) : List D := [.i .i64 a.Next, .l (a.Pending.map eTNumberedPacket), .l (a.Delivered.map eTPayload)]
structure TDevice where
  Card : TUSIM
  State : Int
  Cell : Int
  Generation : Int
  RootKey : Int
  Epoch : Int
  PathConfirmed : Bool
  Wait : Int
  Receiver : TReceiveWindow
  deriving DecidableEq, Inhabited
def eTDevice (a : TDevice) : List D := [.i .i64 a.Card.ID.Network, .i .i64 a.Card.ID.Number, .i .i64 a.Card.Key, .i .i64 a.Card.LastSeq, .i .i64 a.State, .i .i64 a.Cell, .i .i64 a.Generation, .i .i64 a.RootKey, .i .i64 a.Epoch, .b a.PathConfirmed, .i .i64 a.Wait, .i .i64 a.Receiver.Next, .l (a.Receiver.Pending.map eTNumberedPacket), .l (a.Receiver.Delivered.map eTPayload)]
structure TSubscriberRecord where
  ID : TSubscriberID
  Key : Int
  Seq : Int
  deriving DecidableEq, Inhabited
def eTSubscriberRecord (a : TSubscriberRecord) : List D := [.i .i64 a.ID.Network, .i .i64 a.ID.Number, .i .i64 a.Key, .i .i64 a.Seq]
structure TAuthVector where
  Rand : Int
  Autn : Int
  MAC : Int
  Res : Int
  Key : Int
  deriving DecidableEq, Inhabited
def eTAuthVector (a : TAuthVector) : List D := [.i .i64 a.Rand, .i .i64 a.Autn, .i .i64 a.MAC, .i .i64 a.Res, .i .i64 a.Key]
structure TPagingState where
  Area : Int
  Attempt : Int
  Wait : Int
  deriving DecidableEq, Inhabited
def eTPagingState (a : TPagingState) : List D := [.i .i64 a.Area, .i .i64 a.Attempt, .i .i64 a.Wait]
structure TSendWindow where
  Next : Int
  Unacked : List TNumberedPacket
  deriving DecidableEq, Inhabited
def eTSendWindow (a : TSendWindow) : List D := [.i .i64 a.Next, .l (a.Unacked.map eTNumberedPacket)]
structure TQuota where
  SessionID : Int
  Granted : Int
  Used : Int
  deriving DecidableEq, Inhabited
def eTQuota (a : TQuota) : List D := [.i .i64 a.SessionID, .i .i64 a.Granted, .i .i64 a.Used]
structure TSession where
  Record : TSubscriberRecord
  Plan : TSubscription
  State : Int
  Pending : TAuthVector
  PendingSeq : Int
  Generation : Int
  RootKey : Int
  Epoch : Int
  Cell : Int
  Quiet : Int
  Page : TPagingState
  Submitted : List TPayload
  Window : TSendWindow
  Retry : Int
  Usage : TQuota
  deriving DecidableEq, Inhabited
def eTSession (a : TSession) : List D := [.i .i64 a.Record.ID.Network, .i .i64 a.Record.ID.Number, .i .i64 a.Record.Key, .i .i64 a.Record.Seq, .i .i64 a.Plan.RateLimit, .i .i64 a.Plan.BestClass, .i .i64 a.Plan.GrantSize, .l (a.Plan.RoamingNetworks.map eI), .i .i64 a.State, .i .i64 a.Pending.Rand, .i .i64 a.Pending.Autn, .i .i64 a.Pending.MAC, .i .i64 a.Pending.Res, .i .i64 a.Pending.Key, .i .i64 a.PendingSeq, .i .i64 a.Generation, .i .i64 a.RootKey, .i .i64 a.Epoch, .i .i64 a.Cell, .i .i64 a.Quiet, .i .i64 a.Page.Area, .i .i64 a.Page.Attempt, .i .i64 a.Page.Wait, .l (a.Submitted.map eTPayload), .i .i64 a.Window.Next, .l (a.Window.Unacked.map eTNumberedPacket), .i .i64 a.Retry, .i .i64 a.Usage.SessionID, .i .i64 a.Usage.Granted, .i .i64 a.Usage.Used]
structure TReservation where
  SessionID : Int
  Amount : Int
  deriving DecidableEq, Inhabited
def eTReservation (a : TReservation) : List D := [.i .i64 a.SessionID, .i .i64 a.Amount]
structure TAccount where
  Total : Int
  Available : Int
  Spent : Int
  Reservations : List TReservation
  deriving DecidableEq, Inhabited
def eTAccount (a : TAccount) : List D := [.i .i64 a.Total, .i .i64 a.Available, .i .i64 a.Spent, .l (a.Reservations.map eTReservation)]
structure TSignal where
  Kind : Int
  Cell : Int
  Generation : Int
  Epoch : Int
  Number : Int
  Vector : TAuthVector
  MAC : Int
  deriving DecidableEq, Inhabited
def eTSignal (a : TSignal) : List D := [.i .i64 a.Kind, .i .i64 a.Cell, .i .i64 a.Generation, .i .i64 a.Epoch, .i .i64 a.Number, .i .i64 a.Vector.Rand, .i .i64 a.Vector.Autn, .i .i64 a.Vector.MAC, .i .i64 a.Vector.Res, .i .i64 a.Vector.Key, .i .i64 a.MAC]
structure TSecuredMessage where
  Direction : Int
  Count : Int
  Data : List Int
  MAC : Int
  deriving DecidableEq, Inhabited
def eTSecuredMessage (a : TSecuredMessage) : List D := [.i .i64 a.Direction, .i .i64 a.Count, .l (a.Data.map eU8), .i .i64 a.MAC]
structure TRadioPacket where
  Generation : Int
  Epoch : Int
  Message : TSecuredMessage
  deriving DecidableEq, Inhabited
def eTRadioPacket (a : TRadioPacket) : List D := [.i .i64 a.Generation, .i .i64 a.Epoch, .i .i64 a.Message.Direction, .i .i64 a.Message.Count, .l (a.Message.Data.map eU8), .i .i64 a.Message.MAC]
structure TFlight where
  Device : Int
  Uplink : Bool
  IsRadio : Bool
  Cell : Int
  Signal : TSignal
  Radio : TRadioPacket
  deriving DecidableEq, Inhabited
def eTFlight (a : TFlight) : List D := [.i .i64 a.Device, .b a.Uplink, .b a.IsRadio, .i .i64 a.Cell, .i .i64 a.Signal.Kind, .i .i64 a.Signal.Cell, .i .i64 a.Signal.Generation, .i .i64 a.Signal.Epoch, .i .i64 a.Signal.Number, .i .i64 a.Signal.Vector.Rand, .i .i64 a.Signal.Vector.Autn, .i .i64 a.Signal.Vector.MAC, .i .i64 a.Signal.Vector.Res, .i .i64 a.Signal.Vector.Key, .i .i64 a.Signal.MAC, .i .i64 a.Radio.Generation, .i .i64 a.Radio.Epoch, .i .i64 a.Radio.Message.Direction, .i .i64 a.Radio.Message.Count, .l (a.Radio.Message.Data.map eU8), .i .i64 a.Radio.Message.MAC]
structure TNetwork where
  Map : TCellMap
  Devices : List TDevice
  Sessions : List TSession
  Accounts : List TAccount
  Flights : List TFlight
  DownCells : Int
  Core : TServerPool
  Now : Int
  Lost : Int
  deriving DecidableEq, Inhabited
def eTNetwork (a : TNetwork) : List D := [.l (a.Map.Cells.map eTCell), .l (a.Devices.map eTDevice), .l (a.Sessions.map eTSession), .l (a.Accounts.map eTAccount), .l (a.Flights.map eTFlight), .i .i64 a.DownCells, .i .i64 a.Core.Size, .i .i64 a.Core.UpMask, .i .i64 a.Now, .i .i64 a.Lost]
structure TKeyPath where
  Steps : List Int
  deriving DecidableEq, Inhabited
def eTKeyPath (a : TKeyPath) : List D := [.l (a.Steps.map eI)]
structure TLeakedKey where
  Generation : Int
  Path : TKeyPath
  deriving DecidableEq, Inhabited
def eTLeakedKey (a : TLeakedKey) : List D := [.i .i64 a.Generation, .l (a.Path.Steps.map eI)]
structure Tl1Cur where
  fb : List Int
  fi : Int
  fh : Int
  deriving DecidableEq, Inhabited
def eTl1Cur (a : Tl1Cur) : List D := [.l (a.fb.map eU8), .i .i64 a.fi, .i .i64 a.fh]
theorem Try.follows : Tryz.prog.follows .mixedOrders = true := Tryz.follows
end Go.AM
