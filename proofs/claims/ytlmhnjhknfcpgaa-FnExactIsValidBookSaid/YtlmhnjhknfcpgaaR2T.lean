/-
  Facts on the types of this translation, laid by program.
-/
import Derived.Test.YtlmhnjhknfcpgaaAmZc
import Derived.Test.YtlmhnjhknfcpgaaAmO
import Derived.Test.YtlmhnjhknfcpgaaProg
namespace Go.AM
open Go.Proofs
theorem info_n {P : Program} {t : TypeId} {n : Nat} (h : (P.info? t).map (·.size) = some n) : ∃ i, P.info? t = some i ∧ i.size = n := by
  cases hi : P.info? t with
  | none => simp [hi] at h
  | some i => simp [hi] at h; exact ⟨i, rfl, h⟩
theorem info_z {P : Program} {t : TypeId} {z : Value} (h : (P.info? t).map (·.zero) = some (some z)) : ∃ i, P.info? t = some i ∧ i.zero = some z := by
  cases hi : P.info? t with
  | none => simp [hi] at h
  | some i => simp [hi] at h; exact ⟨i, rfl, h⟩
theorem info_s {P : Program} {t : TypeId} {z : Value} {n b : Nat} (h : (P.info? t).map (fun i => (i.size, i.bytes, i.zero)) = some (n, b, some z)) (hz : z.cells.size = n) : ∃ i z, P.info? t = some i ∧ i.size = n ∧ i.bytes = b ∧ i.zero = some z ∧ z.cells.size = n := by
  cases hi : P.info? t with
  | none => simp [hi] at h
  | some i => simp [hi] at h; exact ⟨i, z, rfl, h.1, h.2.1, h.2.2, hz⟩
theorem info_f {P : Program} {t : TypeId} {n : Nat} (h : (P.info? t).map (·.size) = some n) (hn : n ≠ 0) : ∃ i, P.info? t = some i ∧ i.size ≠ 0 := by
  cases hi : P.info? t with
  | none => simp [hi] at h
  | some i => simp [hi] at h; exact ⟨i, rfl, by omega⟩
-- 3: int
instance : TyN Try.prog 3 1 := ⟨info_n (by kernel_rfl)⟩
instance : TySc Try.prog 3 := ⟨fun w => by kernel_rfl, info_n (by kernel_rfl)⟩
instance : TyU Try.prog 3 (.int .i64) := ⟨Try.underlying3⟩
theorem Try.z3 : (Try.prog.info? 3).map (·.zero) = some (some (.int .i64 0)) := by kernel_rfl
instance : TyZ Try.prog 3 [.d false (.i .i64 0)] := ⟨by obtain ⟨i, h1, h2⟩ := info_z Try.z3; exact ⟨i, _, h1, h2, rfl⟩⟩
instance : TyE Try.prog 3 [.i .i64 0] := ⟨by obtain ⟨i, h1, h2⟩ := info_z Try.z3; exact ⟨i, _, h1, h2, rfl⟩⟩
-- 4: bool
instance : TyN Try.prog 4 1 := ⟨info_n (by kernel_rfl)⟩
instance : TySc Try.prog 4 := ⟨fun w => by kernel_rfl, info_n (by kernel_rfl)⟩
instance : TyU Try.prog 4 (.bool) := ⟨Try.underlying4⟩
theorem Try.z4 : (Try.prog.info? 4).map (·.zero) = some (some (.bool false)) := by kernel_rfl
instance : TyZ Try.prog 4 [.d false (.b false)] := ⟨by obtain ⟨i, h1, h2⟩ := info_z Try.z4; exact ⟨i, _, h1, h2, rfl⟩⟩
instance : TyE Try.prog 4 [.b false] := ⟨by obtain ⟨i, h1, h2⟩ := info_z Try.z4; exact ⟨i, _, h1, h2, rfl⟩⟩
-- 5: uint8
instance : TyN Try.prog 5 1 := ⟨info_n (by kernel_rfl)⟩
instance : TySc Try.prog 5 := ⟨fun w => by kernel_rfl, info_n (by kernel_rfl)⟩
instance : TyU Try.prog 5 (.int .u8) := ⟨Try.underlying5⟩
theorem Try.z5 : (Try.prog.info? 5).map (·.zero) = some (some (.int .u8 0)) := by kernel_rfl
instance : TyZ Try.prog 5 [.d false (.i .u8 0)] := ⟨by obtain ⟨i, h1, h2⟩ := info_z Try.z5; exact ⟨i, _, h1, h2, rfl⟩⟩
instance : TyE Try.prog 5 [.i .u8 0] := ⟨by obtain ⟨i, h1, h2⟩ := info_z Try.z5; exact ⟨i, _, h1, h2, rfl⟩⟩
-- 9: string
instance : TyN Try.prog 9 1 := ⟨info_n (by kernel_rfl)⟩
instance : TySc Try.prog 9 := ⟨fun w => by kernel_rfl, info_n (by kernel_rfl)⟩
instance : TyU Try.prog 9 (.string) := ⟨Try.underlying9⟩
theorem Try.z9 : (Try.prog.info? 9).map (·.zero) = some (some (.string ⟨#[]⟩)) := by kernel_rfl
instance : TyZ Try.prog 9 [.d false (.str ⟨#[]⟩)] := ⟨by obtain ⟨i, h1, h2⟩ := info_z Try.z9; exact ⟨i, _, h1, h2, rfl⟩⟩
instance : TyE Try.prog 9 [.str ⟨#[]⟩] := ⟨by obtain ⟨i, h1, h2⟩ := info_z Try.z9; exact ⟨i, _, h1, h2, rfl⟩⟩
-- 22: []laws.Registration
instance : TyN Try.prog 22 1 := ⟨info_n (by kernel_rfl)⟩
instance : TySc Try.prog 22 := ⟨fun w => by kernel_rfl, info_n (by kernel_rfl)⟩
theorem Try.z22 : (Try.prog.info? 22).map (·.zero) = some (some (.slice none 0 0)) := by kernel_rfl
instance : TyZ Try.prog 22 [.nil] := ⟨by obtain ⟨i, h1, h2⟩ := info_z Try.z22; exact ⟨i, _, h1, h2, rfl⟩⟩
instance : TyE Try.prog 22 [.l []] := ⟨by obtain ⟨i, h1, h2⟩ := info_z Try.z22; exact ⟨i, _, h1, h2, rfl⟩⟩
instance : TySl Try.prog 22 123 6 48 := ⟨Try.underlying22, info_s (z := .agg #[.int .i64 0, .int .i64 0, .int .i64 0, .int .i64 0, .int .i64 0, .int .i64 0]) (by kernel_rfl) rfl, by decide⟩
-- 24: []impl.TempID
instance : TyN Try.prog 24 1 := ⟨info_n (by kernel_rfl)⟩
instance : TySc Try.prog 24 := ⟨fun w => by kernel_rfl, info_n (by kernel_rfl)⟩
theorem Try.z24 : (Try.prog.info? 24).map (·.zero) = some (some (.slice none 0 0)) := by kernel_rfl
instance : TyZ Try.prog 24 [.nil] := ⟨by obtain ⟨i, h1, h2⟩ := info_z Try.z24; exact ⟨i, _, h1, h2, rfl⟩⟩
instance : TyE Try.prog 24 [.l []] := ⟨by obtain ⟨i, h1, h2⟩ := info_z Try.z24; exact ⟨i, _, h1, h2, rfl⟩⟩
instance : TySl Try.prog 24 62 2 16 := ⟨Try.underlying24, info_s (z := .agg #[.int .i64 0, .int .i64 0]) (by kernel_rfl) rfl, by decide⟩
-- 26: []impl.Registration
instance : TyN Try.prog 26 1 := ⟨info_n (by kernel_rfl)⟩
instance : TySc Try.prog 26 := ⟨fun w => by kernel_rfl, info_n (by kernel_rfl)⟩
theorem Try.z26 : (Try.prog.info? 26).map (·.zero) = some (some (.slice none 0 0)) := by kernel_rfl
instance : TyZ Try.prog 26 [.nil] := ⟨by obtain ⟨i, h1, h2⟩ := info_z Try.z26; exact ⟨i, _, h1, h2, rfl⟩⟩
instance : TyE Try.prog 26 [.l []] := ⟨by obtain ⟨i, h1, h2⟩ := info_z Try.z26; exact ⟨i, _, h1, h2, rfl⟩⟩
instance : TySl Try.prog 26 64 6 48 := ⟨Try.underlying26, info_s (z := .agg #[.int .i64 0, .int .i64 0, .int .i64 0, .int .i64 0, .int .i64 0, .int .i64 0]) (by kernel_rfl) rfl, by decide⟩
-- 33: []impl.SubscriberID
instance : TyN Try.prog 33 1 := ⟨info_n (by kernel_rfl)⟩
instance : TySc Try.prog 33 := ⟨fun w => by kernel_rfl, info_n (by kernel_rfl)⟩
theorem Try.z33 : (Try.prog.info? 33).map (·.zero) = some (some (.slice none 0 0)) := by kernel_rfl
instance : TyZ Try.prog 33 [.nil] := ⟨by obtain ⟨i, h1, h2⟩ := info_z Try.z33; exact ⟨i, _, h1, h2, rfl⟩⟩
instance : TyE Try.prog 33 [.l []] := ⟨by obtain ⟨i, h1, h2⟩ := info_z Try.z33; exact ⟨i, _, h1, h2, rfl⟩⟩
instance : TySl Try.prog 33 60 2 16 := ⟨Try.underlying33, info_s (z := .agg #[.int .i64 0, .int .i64 0]) (by kernel_rfl) rfl, by decide⟩
-- 37: []laws.UsageRecord
instance : TyN Try.prog 37 1 := ⟨info_n (by kernel_rfl)⟩
instance : TySc Try.prog 37 := ⟨fun w => by kernel_rfl, info_n (by kernel_rfl)⟩
theorem Try.z37 : (Try.prog.info? 37).map (·.zero) = some (some (.slice none 0 0)) := by kernel_rfl
instance : TyZ Try.prog 37 [.nil] := ⟨by obtain ⟨i, h1, h2⟩ := info_z Try.z37; exact ⟨i, _, h1, h2, rfl⟩⟩
instance : TyE Try.prog 37 [.l []] := ⟨by obtain ⟨i, h1, h2⟩ := info_z Try.z37; exact ⟨i, _, h1, h2, rfl⟩⟩
instance : TySl Try.prog 37 175 4 32 := ⟨Try.underlying37, info_s (z := .agg #[.int .i64 0, .int .i64 0, .int .i64 0, .int .i64 0]) (by kernel_rfl) rfl, by decide⟩
-- 39: laws.OperatorBook
instance : TyN Try.prog 39 3 := ⟨info_n (by kernel_rfl)⟩
instance : TyAg Try.prog 39 3 := ⟨fun w => by kernel_rfl, info_n (by kernel_rfl)⟩
theorem Try.z39 : (Try.prog.info? 39).map (·.zero) = some (some (.agg #[.int .i64 0, .slice none 0 0, .slice none 0 0])) := by kernel_rfl
instance : TyZ Try.prog 39 [.d false (.i .i64 0), .nil, .nil] := ⟨by obtain ⟨i, h1, h2⟩ := info_z Try.z39; exact ⟨i, _, h1, h2, rfl⟩⟩
instance : TyE Try.prog 39 [.i .i64 0, .l [], .l []] := ⟨by obtain ⟨i, h1, h2⟩ := info_z Try.z39; exact ⟨i, _, h1, h2, rfl⟩⟩
instance : TyB Try.prog 39 [(0, 1), (1, 1), (2, 1)] := ⟨_, Try.underlying39, fun w => by kernel_rfl⟩
instance : TyF Try.prog 39 0 0 3 := ⟨_, _, Try.underlying39, rfl, rfl, rfl, info_f (n := 1) (by kernel_rfl) (by decide)⟩
instance : TyF Try.prog 39 1 1 37 := ⟨_, _, Try.underlying39, rfl, rfl, rfl, info_f (n := 1) (by kernel_rfl) (by decide)⟩
instance : TyF Try.prog 39 2 2 37 := ⟨_, _, Try.underlying39, rfl, rfl, rfl, info_f (n := 1) (by kernel_rfl) (by decide)⟩
-- 42: []impl.UsageRecord
instance : TyN Try.prog 42 1 := ⟨info_n (by kernel_rfl)⟩
instance : TySc Try.prog 42 := ⟨fun w => by kernel_rfl, info_n (by kernel_rfl)⟩
theorem Try.z42 : (Try.prog.info? 42).map (·.zero) = some (some (.slice none 0 0)) := by kernel_rfl
instance : TyZ Try.prog 42 [.nil] := ⟨by obtain ⟨i, h1, h2⟩ := info_z Try.z42; exact ⟨i, _, h1, h2, rfl⟩⟩
instance : TyE Try.prog 42 [.l []] := ⟨by obtain ⟨i, h1, h2⟩ := info_z Try.z42; exact ⟨i, _, h1, h2, rfl⟩⟩
instance : TySl Try.prog 42 129 4 32 := ⟨Try.underlying42, info_s (z := .agg #[.int .i64 0, .int .i64 0, .int .i64 0, .int .i64 0]) (by kernel_rfl) rfl, by decide⟩
-- 44: impl.OperatorBook
instance : TyN Try.prog 44 3 := ⟨info_n (by kernel_rfl)⟩
instance : TyAg Try.prog 44 3 := ⟨fun w => by kernel_rfl, info_n (by kernel_rfl)⟩
theorem Try.z44 : (Try.prog.info? 44).map (·.zero) = some (some (.agg #[.int .i64 0, .slice none 0 0, .slice none 0 0])) := by kernel_rfl
instance : TyZ Try.prog 44 [.d false (.i .i64 0), .nil, .nil] := ⟨by obtain ⟨i, h1, h2⟩ := info_z Try.z44; exact ⟨i, _, h1, h2, rfl⟩⟩
instance : TyE Try.prog 44 [.i .i64 0, .l [], .l []] := ⟨by obtain ⟨i, h1, h2⟩ := info_z Try.z44; exact ⟨i, _, h1, h2, rfl⟩⟩
instance : TyB Try.prog 44 [(0, 1), (1, 1), (2, 1)] := ⟨_, Try.underlying44, fun w => by kernel_rfl⟩
instance : TyF Try.prog 44 0 0 3 := ⟨_, _, Try.underlying44, rfl, rfl, rfl, info_f (n := 1) (by kernel_rfl) (by decide)⟩
instance : TyF Try.prog 44 1 1 42 := ⟨_, _, Try.underlying44, rfl, rfl, rfl, info_f (n := 1) (by kernel_rfl) (by decide)⟩
instance : TyF Try.prog 44 2 2 42 := ⟨_, _, Try.underlying44, rfl, rfl, rfl, info_f (n := 1) (by kernel_rfl) (by decide)⟩
-- 48: []laws.LeakedKey
instance : TyN Try.prog 48 1 := ⟨info_n (by kernel_rfl)⟩
instance : TySc Try.prog 48 := ⟨fun w => by kernel_rfl, info_n (by kernel_rfl)⟩
theorem Try.z48 : (Try.prog.info? 48).map (·.zero) = some (some (.slice none 0 0)) := by kernel_rfl
instance : TyZ Try.prog 48 [.nil] := ⟨by obtain ⟨i, h1, h2⟩ := info_z Try.z48; exact ⟨i, _, h1, h2, rfl⟩⟩
instance : TyE Try.prog 48 [.l []] := ⟨by obtain ⟨i, h1, h2⟩ := info_z Try.z48; exact ⟨i, _, h1, h2, rfl⟩⟩
instance : TySl Try.prog 48 138 2 32 := ⟨Try.underlying48, info_s (z := .agg #[.int .i64 0, .slice none 0 0]) (by kernel_rfl) rfl, by decide⟩
-- 51: []impl.LeakedKey
instance : TyN Try.prog 51 1 := ⟨info_n (by kernel_rfl)⟩
instance : TySc Try.prog 51 := ⟨fun w => by kernel_rfl, info_n (by kernel_rfl)⟩
theorem Try.z51 : (Try.prog.info? 51).map (·.zero) = some (some (.slice none 0 0)) := by kernel_rfl
instance : TyZ Try.prog 51 [.nil] := ⟨by obtain ⟨i, h1, h2⟩ := info_z Try.z51; exact ⟨i, _, h1, h2, rfl⟩⟩
instance : TyE Try.prog 51 [.l []] := ⟨by obtain ⟨i, h1, h2⟩ := info_z Try.z51; exact ⟨i, _, h1, h2, rfl⟩⟩
instance : TySl Try.prog 51 143 2 32 := ⟨Try.underlying51, info_s (z := .agg #[.int .i64 0, .slice none 0 0]) (by kernel_rfl) rfl, by decide⟩
-- 55: []uint8
instance : TyN Try.prog 55 1 := ⟨info_n (by kernel_rfl)⟩
instance : TySc Try.prog 55 := ⟨fun w => by kernel_rfl, info_n (by kernel_rfl)⟩
theorem Try.z55 : (Try.prog.info? 55).map (·.zero) = some (some (.slice none 0 0)) := by kernel_rfl
instance : TyZ Try.prog 55 [.nil] := ⟨by obtain ⟨i, h1, h2⟩ := info_z Try.z55; exact ⟨i, _, h1, h2, rfl⟩⟩
instance : TyE Try.prog 55 [.l []] := ⟨by obtain ⟨i, h1, h2⟩ := info_z Try.z55; exact ⟨i, _, h1, h2, rfl⟩⟩
instance : TySl Try.prog 55 5 1 1 := ⟨Try.underlying55, info_s (z := .int .u8 0) (by kernel_rfl) rfl, by decide⟩
-- 60: impl.SubscriberID
instance : TyN Try.prog 60 2 := ⟨info_n (by kernel_rfl)⟩
instance : TyAg Try.prog 60 2 := ⟨fun w => by kernel_rfl, info_n (by kernel_rfl)⟩
theorem Try.z60 : (Try.prog.info? 60).map (·.zero) = some (some (.agg #[.int .i64 0, .int .i64 0])) := by kernel_rfl
instance : TyZ Try.prog 60 [.d false (.i .i64 0), .d false (.i .i64 0)] := ⟨by obtain ⟨i, h1, h2⟩ := info_z Try.z60; exact ⟨i, _, h1, h2, rfl⟩⟩
instance : TyE Try.prog 60 [.i .i64 0, .i .i64 0] := ⟨by obtain ⟨i, h1, h2⟩ := info_z Try.z60; exact ⟨i, _, h1, h2, rfl⟩⟩
instance : TyB Try.prog 60 [(0, 1), (1, 1)] := ⟨_, Try.underlying60, fun w => by kernel_rfl⟩
instance : TyF Try.prog 60 0 0 3 := ⟨_, _, Try.underlying60, rfl, rfl, rfl, info_f (n := 1) (by kernel_rfl) (by decide)⟩
instance : TyF Try.prog 60 1 1 3 := ⟨_, _, Try.underlying60, rfl, rfl, rfl, info_f (n := 1) (by kernel_rfl) (by decide)⟩
-- 62: impl.TempID
instance : TyN Try.prog 62 2 := ⟨info_n (by kernel_rfl)⟩
instance : TyAg Try.prog 62 2 := ⟨fun w => by kernel_rfl, info_n (by kernel_rfl)⟩
theorem Try.z62 : (Try.prog.info? 62).map (·.zero) = some (some (.agg #[.int .i64 0, .int .i64 0])) := by kernel_rfl
instance : TyZ Try.prog 62 [.d false (.i .i64 0), .d false (.i .i64 0)] := ⟨by obtain ⟨i, h1, h2⟩ := info_z Try.z62; exact ⟨i, _, h1, h2, rfl⟩⟩
instance : TyE Try.prog 62 [.i .i64 0, .i .i64 0] := ⟨by obtain ⟨i, h1, h2⟩ := info_z Try.z62; exact ⟨i, _, h1, h2, rfl⟩⟩
instance : TyB Try.prog 62 [(0, 1), (1, 1)] := ⟨_, Try.underlying62, fun w => by kernel_rfl⟩
instance : TyF Try.prog 62 0 0 3 := ⟨_, _, Try.underlying62, rfl, rfl, rfl, info_f (n := 1) (by kernel_rfl) (by decide)⟩
instance : TyF Try.prog 62 1 1 3 := ⟨_, _, Try.underlying62, rfl, rfl, rfl, info_f (n := 1) (by kernel_rfl) (by decide)⟩
-- 64: impl.Registration
instance : TyN Try.prog 64 6 := ⟨info_n (by kernel_rfl)⟩
instance : TyAg Try.prog 64 6 := ⟨fun w => by kernel_rfl, info_n (by kernel_rfl)⟩
theorem Try.z64 : (Try.prog.info? 64).map (·.zero) = some (some (.agg #[.int .i64 0, .int .i64 0, .int .i64 0, .int .i64 0, .int .i64 0, .int .i64 0])) := by kernel_rfl
instance : TyZ Try.prog 64 [.d false (.i .i64 0), .d false (.i .i64 0), .d false (.i .i64 0), .d false (.i .i64 0), .d false (.i .i64 0), .d false (.i .i64 0)] := ⟨by obtain ⟨i, h1, h2⟩ := info_z Try.z64; exact ⟨i, _, h1, h2, rfl⟩⟩
instance : TyE Try.prog 64 [.i .i64 0, .i .i64 0, .i .i64 0, .i .i64 0, .i .i64 0, .i .i64 0] := ⟨by obtain ⟨i, h1, h2⟩ := info_z Try.z64; exact ⟨i, _, h1, h2, rfl⟩⟩
instance : TyB Try.prog 64 [(0, 2), (2, 1), (3, 1), (4, 2)] := ⟨_, Try.underlying64, fun w => by kernel_rfl⟩
instance : TyF Try.prog 64 0 0 60 := ⟨_, _, Try.underlying64, rfl, rfl, rfl, info_f (n := 2) (by kernel_rfl) (by decide)⟩
instance : TyF Try.prog 64 1 2 3 := ⟨_, _, Try.underlying64, rfl, rfl, rfl, info_f (n := 1) (by kernel_rfl) (by decide)⟩
instance : TyF Try.prog 64 2 3 3 := ⟨_, _, Try.underlying64, rfl, rfl, rfl, info_f (n := 1) (by kernel_rfl) (by decide)⟩
instance : TyF Try.prog 64 3 4 62 := ⟨_, _, Try.underlying64, rfl, rfl, rfl, info_f (n := 2) (by kernel_rfl) (by decide)⟩
-- 66: []int
instance : TyN Try.prog 66 1 := ⟨info_n (by kernel_rfl)⟩
instance : TySc Try.prog 66 := ⟨fun w => by kernel_rfl, info_n (by kernel_rfl)⟩
theorem Try.z66 : (Try.prog.info? 66).map (·.zero) = some (some (.slice none 0 0)) := by kernel_rfl
instance : TyZ Try.prog 66 [.nil] := ⟨by obtain ⟨i, h1, h2⟩ := info_z Try.z66; exact ⟨i, _, h1, h2, rfl⟩⟩
instance : TyE Try.prog 66 [.l []] := ⟨by obtain ⟨i, h1, h2⟩ := info_z Try.z66; exact ⟨i, _, h1, h2, rfl⟩⟩
instance : TySl Try.prog 66 3 1 8 := ⟨Try.underlying66, info_s (z := .int .i64 0) (by kernel_rfl) rfl, by decide⟩
-- 68: impl.Subscription
instance : TyN Try.prog 68 4 := ⟨info_n (by kernel_rfl)⟩
instance : TyAg Try.prog 68 4 := ⟨fun w => by kernel_rfl, info_n (by kernel_rfl)⟩
theorem Try.z68 : (Try.prog.info? 68).map (·.zero) = some (some (.agg #[.int .i64 0, .int .i64 0, .int .i64 0, .slice none 0 0])) := by kernel_rfl
instance : TyZ Try.prog 68 [.d false (.i .i64 0), .d false (.i .i64 0), .d false (.i .i64 0), .nil] := ⟨by obtain ⟨i, h1, h2⟩ := info_z Try.z68; exact ⟨i, _, h1, h2, rfl⟩⟩
instance : TyE Try.prog 68 [.i .i64 0, .i .i64 0, .i .i64 0, .l []] := ⟨by obtain ⟨i, h1, h2⟩ := info_z Try.z68; exact ⟨i, _, h1, h2, rfl⟩⟩
instance : TyB Try.prog 68 [(0, 1), (1, 1), (2, 1), (3, 1)] := ⟨_, Try.underlying68, fun w => by kernel_rfl⟩
instance : TyF Try.prog 68 0 0 3 := ⟨_, _, Try.underlying68, rfl, rfl, rfl, info_f (n := 1) (by kernel_rfl) (by decide)⟩
instance : TyF Try.prog 68 1 1 3 := ⟨_, _, Try.underlying68, rfl, rfl, rfl, info_f (n := 1) (by kernel_rfl) (by decide)⟩
instance : TyF Try.prog 68 2 2 3 := ⟨_, _, Try.underlying68, rfl, rfl, rfl, info_f (n := 1) (by kernel_rfl) (by decide)⟩
instance : TyF Try.prog 68 3 3 66 := ⟨_, _, Try.underlying68, rfl, rfl, rfl, info_f (n := 1) (by kernel_rfl) (by decide)⟩
-- 69: []impl.RoamingAgreement
instance : TyN Try.prog 69 1 := ⟨info_n (by kernel_rfl)⟩
instance : TySc Try.prog 69 := ⟨fun w => by kernel_rfl, info_n (by kernel_rfl)⟩
theorem Try.z69 : (Try.prog.info? 69).map (·.zero) = some (some (.slice none 0 0)) := by kernel_rfl
instance : TyZ Try.prog 69 [.nil] := ⟨by obtain ⟨i, h1, h2⟩ := info_z Try.z69; exact ⟨i, _, h1, h2, rfl⟩⟩
instance : TyE Try.prog 69 [.l []] := ⟨by obtain ⟨i, h1, h2⟩ := info_z Try.z69; exact ⟨i, _, h1, h2, rfl⟩⟩
instance : TySl Try.prog 69 80 4 32 := ⟨Try.underlying69, info_s (z := .agg #[.int .i64 0, .int .i64 0, .int .i64 0, .int .i64 0]) (by kernel_rfl) rfl, by decide⟩
-- 80: impl.RoamingAgreement
instance : TyN Try.prog 80 4 := ⟨info_n (by kernel_rfl)⟩
instance : TyAg Try.prog 80 4 := ⟨fun w => by kernel_rfl, info_n (by kernel_rfl)⟩
theorem Try.z80 : (Try.prog.info? 80).map (·.zero) = some (some (.agg #[.int .i64 0, .int .i64 0, .int .i64 0, .int .i64 0])) := by kernel_rfl
instance : TyZ Try.prog 80 [.d false (.i .i64 0), .d false (.i .i64 0), .d false (.i .i64 0), .d false (.i .i64 0)] := ⟨by obtain ⟨i, h1, h2⟩ := info_z Try.z80; exact ⟨i, _, h1, h2, rfl⟩⟩
instance : TyE Try.prog 80 [.i .i64 0, .i .i64 0, .i .i64 0, .i .i64 0] := ⟨by obtain ⟨i, h1, h2⟩ := info_z Try.z80; exact ⟨i, _, h1, h2, rfl⟩⟩
instance : TyB Try.prog 80 [(0, 1), (1, 1), (2, 1), (3, 1)] := ⟨_, Try.underlying80, fun w => by kernel_rfl⟩
instance : TyF Try.prog 80 0 0 3 := ⟨_, _, Try.underlying80, rfl, rfl, rfl, info_f (n := 1) (by kernel_rfl) (by decide)⟩
instance : TyF Try.prog 80 1 1 3 := ⟨_, _, Try.underlying80, rfl, rfl, rfl, info_f (n := 1) (by kernel_rfl) (by decide)⟩
instance : TyF Try.prog 80 2 2 3 := ⟨_, _, Try.underlying80, rfl, rfl, rfl, info_f (n := 1) (by kernel_rfl) (by decide)⟩
instance : TyF Try.prog 80 3 3 3 := ⟨_, _, Try.underlying80, rfl, rfl, rfl, info_f (n := 1) (by kernel_rfl) (by decide)⟩
-- 86: laws.Subscription
instance : TyN Try.prog 86 4 := ⟨info_n (by kernel_rfl)⟩
instance : TyAg Try.prog 86 4 := ⟨fun w => by kernel_rfl, info_n (by kernel_rfl)⟩
theorem Try.z86 : (Try.prog.info? 86).map (·.zero) = some (some (.agg #[.int .i64 0, .int .i64 0, .int .i64 0, .slice none 0 0])) := by kernel_rfl
instance : TyZ Try.prog 86 [.d false (.i .i64 0), .d false (.i .i64 0), .d false (.i .i64 0), .nil] := ⟨by obtain ⟨i, h1, h2⟩ := info_z Try.z86; exact ⟨i, _, h1, h2, rfl⟩⟩
instance : TyE Try.prog 86 [.i .i64 0, .i .i64 0, .i .i64 0, .l []] := ⟨by obtain ⟨i, h1, h2⟩ := info_z Try.z86; exact ⟨i, _, h1, h2, rfl⟩⟩
instance : TyB Try.prog 86 [(0, 1), (1, 1), (2, 1), (3, 1)] := ⟨_, Try.underlying86, fun w => by kernel_rfl⟩
instance : TyF Try.prog 86 0 0 3 := ⟨_, _, Try.underlying86, rfl, rfl, rfl, info_f (n := 1) (by kernel_rfl) (by decide)⟩
instance : TyF Try.prog 86 1 1 3 := ⟨_, _, Try.underlying86, rfl, rfl, rfl, info_f (n := 1) (by kernel_rfl) (by decide)⟩
instance : TyF Try.prog 86 2 2 3 := ⟨_, _, Try.underlying86, rfl, rfl, rfl, info_f (n := 1) (by kernel_rfl) (by decide)⟩
instance : TyF Try.prog 86 3 3 66 := ⟨_, _, Try.underlying86, rfl, rfl, rfl, info_f (n := 1) (by kernel_rfl) (by decide)⟩
-- 87: []laws.RoamingAgreement
instance : TyN Try.prog 87 1 := ⟨info_n (by kernel_rfl)⟩
instance : TySc Try.prog 87 := ⟨fun w => by kernel_rfl, info_n (by kernel_rfl)⟩
theorem Try.z87 : (Try.prog.info? 87).map (·.zero) = some (some (.slice none 0 0)) := by kernel_rfl
instance : TyZ Try.prog 87 [.nil] := ⟨by obtain ⟨i, h1, h2⟩ := info_z Try.z87; exact ⟨i, _, h1, h2, rfl⟩⟩
instance : TyE Try.prog 87 [.l []] := ⟨by obtain ⟨i, h1, h2⟩ := info_z Try.z87; exact ⟨i, _, h1, h2, rfl⟩⟩
instance : TySl Try.prog 87 157 4 32 := ⟨Try.underlying87, info_s (z := .agg #[.int .i64 0, .int .i64 0, .int .i64 0, .int .i64 0]) (by kernel_rfl) rfl, by decide⟩
-- 88: laws.SubscriberID
instance : TyN Try.prog 88 2 := ⟨info_n (by kernel_rfl)⟩
instance : TyAg Try.prog 88 2 := ⟨fun w => by kernel_rfl, info_n (by kernel_rfl)⟩
theorem Try.z88 : (Try.prog.info? 88).map (·.zero) = some (some (.agg #[.int .i64 0, .int .i64 0])) := by kernel_rfl
instance : TyZ Try.prog 88 [.d false (.i .i64 0), .d false (.i .i64 0)] := ⟨by obtain ⟨i, h1, h2⟩ := info_z Try.z88; exact ⟨i, _, h1, h2, rfl⟩⟩
instance : TyE Try.prog 88 [.i .i64 0, .i .i64 0] := ⟨by obtain ⟨i, h1, h2⟩ := info_z Try.z88; exact ⟨i, _, h1, h2, rfl⟩⟩
instance : TyB Try.prog 88 [(0, 1), (1, 1)] := ⟨_, Try.underlying88, fun w => by kernel_rfl⟩
instance : TyF Try.prog 88 0 0 3 := ⟨_, _, Try.underlying88, rfl, rfl, rfl, info_f (n := 1) (by kernel_rfl) (by decide)⟩
instance : TyF Try.prog 88 1 1 3 := ⟨_, _, Try.underlying88, rfl, rfl, rfl, info_f (n := 1) (by kernel_rfl) (by decide)⟩
-- 101: impl.RoamingResult
instance : TyN Try.prog 101 5 := ⟨info_n (by kernel_rfl)⟩
instance : TyAg Try.prog 101 5 := ⟨fun w => by kernel_rfl, info_n (by kernel_rfl)⟩
theorem Try.z101 : (Try.prog.info? 101).map (·.zero) = some (some (.agg #[.int .i64 0, .slice none 0 0, .int .i64 0, .int .i64 0, .int .i64 0])) := by kernel_rfl
instance : TyZ Try.prog 101 [.d false (.i .i64 0), .nil, .d false (.i .i64 0), .d false (.i .i64 0), .d false (.i .i64 0)] := ⟨by obtain ⟨i, h1, h2⟩ := info_z Try.z101; exact ⟨i, _, h1, h2, rfl⟩⟩
instance : TyE Try.prog 101 [.i .i64 0, .l [], .i .i64 0, .i .i64 0, .i .i64 0] := ⟨by obtain ⟨i, h1, h2⟩ := info_z Try.z101; exact ⟨i, _, h1, h2, rfl⟩⟩
instance : TyB Try.prog 101 [(0, 1), (1, 1), (2, 1), (3, 2)] := ⟨_, Try.underlying101, fun w => by kernel_rfl⟩
instance : TyF Try.prog 101 0 0 3 := ⟨_, _, Try.underlying101, rfl, rfl, rfl, info_f (n := 1) (by kernel_rfl) (by decide)⟩
instance : TyF Try.prog 101 1 1 26 := ⟨_, _, Try.underlying101, rfl, rfl, rfl, info_f (n := 1) (by kernel_rfl) (by decide)⟩
instance : TyF Try.prog 101 2 2 3 := ⟨_, _, Try.underlying101, rfl, rfl, rfl, info_f (n := 1) (by kernel_rfl) (by decide)⟩
instance : TyF Try.prog 101 3 3 62 := ⟨_, _, Try.underlying101, rfl, rfl, rfl, info_f (n := 2) (by kernel_rfl) (by decide)⟩
-- 108: []laws.OperatorBook
instance : TyN Try.prog 108 1 := ⟨info_n (by kernel_rfl)⟩
instance : TySc Try.prog 108 := ⟨fun w => by kernel_rfl, info_n (by kernel_rfl)⟩
theorem Try.z108 : (Try.prog.info? 108).map (·.zero) = some (some (.slice none 0 0)) := by kernel_rfl
instance : TyZ Try.prog 108 [.nil] := ⟨by obtain ⟨i, h1, h2⟩ := info_z Try.z108; exact ⟨i, _, h1, h2, rfl⟩⟩
instance : TyE Try.prog 108 [.l []] := ⟨by obtain ⟨i, h1, h2⟩ := info_z Try.z108; exact ⟨i, _, h1, h2, rfl⟩⟩
instance : TySl Try.prog 108 39 3 56 := ⟨Try.underlying108, info_s (z := .agg #[.int .i64 0, .slice none 0 0, .slice none 0 0]) (by kernel_rfl) rfl, by decide⟩
-- 110: []impl.StatementLine
instance : TyN Try.prog 110 1 := ⟨info_n (by kernel_rfl)⟩
instance : TySc Try.prog 110 := ⟨fun w => by kernel_rfl, info_n (by kernel_rfl)⟩
theorem Try.z110 : (Try.prog.info? 110).map (·.zero) = some (some (.slice none 0 0)) := by kernel_rfl
instance : TyZ Try.prog 110 [.nil] := ⟨by obtain ⟨i, h1, h2⟩ := info_z Try.z110; exact ⟨i, _, h1, h2, rfl⟩⟩
instance : TyE Try.prog 110 [.l []] := ⟨by obtain ⟨i, h1, h2⟩ := info_z Try.z110; exact ⟨i, _, h1, h2, rfl⟩⟩
instance : TySl Try.prog 110 168 3 24 := ⟨Try.underlying110, info_s (z := .agg #[.int .i64 0, .int .i64 0, .int .i64 0]) (by kernel_rfl) rfl, by decide⟩
-- 112: []impl.OperatorBook
instance : TyN Try.prog 112 1 := ⟨info_n (by kernel_rfl)⟩
instance : TySc Try.prog 112 := ⟨fun w => by kernel_rfl, info_n (by kernel_rfl)⟩
theorem Try.z112 : (Try.prog.info? 112).map (·.zero) = some (some (.slice none 0 0)) := by kernel_rfl
instance : TyZ Try.prog 112 [.nil] := ⟨by obtain ⟨i, h1, h2⟩ := info_z Try.z112; exact ⟨i, _, h1, h2, rfl⟩⟩
instance : TyE Try.prog 112 [.l []] := ⟨by obtain ⟨i, h1, h2⟩ := info_z Try.z112; exact ⟨i, _, h1, h2, rfl⟩⟩
instance : TySl Try.prog 112 44 3 56 := ⟨Try.underlying112, info_s (z := .agg #[.int .i64 0, .slice none 0 0, .slice none 0 0]) (by kernel_rfl) rfl, by decide⟩
-- 121: laws.TempID
instance : TyN Try.prog 121 2 := ⟨info_n (by kernel_rfl)⟩
instance : TyAg Try.prog 121 2 := ⟨fun w => by kernel_rfl, info_n (by kernel_rfl)⟩
theorem Try.z121 : (Try.prog.info? 121).map (·.zero) = some (some (.agg #[.int .i64 0, .int .i64 0])) := by kernel_rfl
instance : TyZ Try.prog 121 [.d false (.i .i64 0), .d false (.i .i64 0)] := ⟨by obtain ⟨i, h1, h2⟩ := info_z Try.z121; exact ⟨i, _, h1, h2, rfl⟩⟩
instance : TyE Try.prog 121 [.i .i64 0, .i .i64 0] := ⟨by obtain ⟨i, h1, h2⟩ := info_z Try.z121; exact ⟨i, _, h1, h2, rfl⟩⟩
instance : TyB Try.prog 121 [(0, 1), (1, 1)] := ⟨_, Try.underlying121, fun w => by kernel_rfl⟩
instance : TyF Try.prog 121 0 0 3 := ⟨_, _, Try.underlying121, rfl, rfl, rfl, info_f (n := 1) (by kernel_rfl) (by decide)⟩
instance : TyF Try.prog 121 1 1 3 := ⟨_, _, Try.underlying121, rfl, rfl, rfl, info_f (n := 1) (by kernel_rfl) (by decide)⟩
-- 123: laws.Registration
instance : TyN Try.prog 123 6 := ⟨info_n (by kernel_rfl)⟩
instance : TyAg Try.prog 123 6 := ⟨fun w => by kernel_rfl, info_n (by kernel_rfl)⟩
theorem Try.z123 : (Try.prog.info? 123).map (·.zero) = some (some (.agg #[.int .i64 0, .int .i64 0, .int .i64 0, .int .i64 0, .int .i64 0, .int .i64 0])) := by kernel_rfl
instance : TyZ Try.prog 123 [.d false (.i .i64 0), .d false (.i .i64 0), .d false (.i .i64 0), .d false (.i .i64 0), .d false (.i .i64 0), .d false (.i .i64 0)] := ⟨by obtain ⟨i, h1, h2⟩ := info_z Try.z123; exact ⟨i, _, h1, h2, rfl⟩⟩
instance : TyE Try.prog 123 [.i .i64 0, .i .i64 0, .i .i64 0, .i .i64 0, .i .i64 0, .i .i64 0] := ⟨by obtain ⟨i, h1, h2⟩ := info_z Try.z123; exact ⟨i, _, h1, h2, rfl⟩⟩
instance : TyB Try.prog 123 [(0, 2), (2, 1), (3, 1), (4, 2)] := ⟨_, Try.underlying123, fun w => by kernel_rfl⟩
instance : TyF Try.prog 123 0 0 88 := ⟨_, _, Try.underlying123, rfl, rfl, rfl, info_f (n := 2) (by kernel_rfl) (by decide)⟩
instance : TyF Try.prog 123 1 2 3 := ⟨_, _, Try.underlying123, rfl, rfl, rfl, info_f (n := 1) (by kernel_rfl) (by decide)⟩
instance : TyF Try.prog 123 2 3 3 := ⟨_, _, Try.underlying123, rfl, rfl, rfl, info_f (n := 1) (by kernel_rfl) (by decide)⟩
instance : TyF Try.prog 123 3 4 121 := ⟨_, _, Try.underlying123, rfl, rfl, rfl, info_f (n := 2) (by kernel_rfl) (by decide)⟩
-- 129: impl.UsageRecord
instance : TyN Try.prog 129 4 := ⟨info_n (by kernel_rfl)⟩
instance : TyAg Try.prog 129 4 := ⟨fun w => by kernel_rfl, info_n (by kernel_rfl)⟩
theorem Try.z129 : (Try.prog.info? 129).map (·.zero) = some (some (.agg #[.int .i64 0, .int .i64 0, .int .i64 0, .int .i64 0])) := by kernel_rfl
instance : TyZ Try.prog 129 [.d false (.i .i64 0), .d false (.i .i64 0), .d false (.i .i64 0), .d false (.i .i64 0)] := ⟨by obtain ⟨i, h1, h2⟩ := info_z Try.z129; exact ⟨i, _, h1, h2, rfl⟩⟩
instance : TyE Try.prog 129 [.i .i64 0, .i .i64 0, .i .i64 0, .i .i64 0] := ⟨by obtain ⟨i, h1, h2⟩ := info_z Try.z129; exact ⟨i, _, h1, h2, rfl⟩⟩
instance : TyB Try.prog 129 [(0, 1), (1, 1), (2, 1), (3, 1)] := ⟨_, Try.underlying129, fun w => by kernel_rfl⟩
instance : TyF Try.prog 129 0 0 3 := ⟨_, _, Try.underlying129, rfl, rfl, rfl, info_f (n := 1) (by kernel_rfl) (by decide)⟩
instance : TyF Try.prog 129 1 1 3 := ⟨_, _, Try.underlying129, rfl, rfl, rfl, info_f (n := 1) (by kernel_rfl) (by decide)⟩
instance : TyF Try.prog 129 2 2 3 := ⟨_, _, Try.underlying129, rfl, rfl, rfl, info_f (n := 1) (by kernel_rfl) (by decide)⟩
instance : TyF Try.prog 129 3 3 3 := ⟨_, _, Try.underlying129, rfl, rfl, rfl, info_f (n := 1) (by kernel_rfl) (by decide)⟩
-- 136: laws.KeyPath
instance : TyN Try.prog 136 1 := ⟨info_n (by kernel_rfl)⟩
instance : TyAg Try.prog 136 1 := ⟨fun w => by kernel_rfl, info_n (by kernel_rfl)⟩
theorem Try.z136 : (Try.prog.info? 136).map (·.zero) = some (some (.agg #[.slice none 0 0])) := by kernel_rfl
instance : TyZ Try.prog 136 [.nil] := ⟨by obtain ⟨i, h1, h2⟩ := info_z Try.z136; exact ⟨i, _, h1, h2, rfl⟩⟩
instance : TyE Try.prog 136 [.l []] := ⟨by obtain ⟨i, h1, h2⟩ := info_z Try.z136; exact ⟨i, _, h1, h2, rfl⟩⟩
instance : TyB Try.prog 136 [(0, 1)] := ⟨_, Try.underlying136, fun w => by kernel_rfl⟩
instance : TyF Try.prog 136 0 0 66 := ⟨_, _, Try.underlying136, rfl, rfl, rfl, info_f (n := 1) (by kernel_rfl) (by decide)⟩
-- 138: laws.LeakedKey
instance : TyN Try.prog 138 2 := ⟨info_n (by kernel_rfl)⟩
instance : TyAg Try.prog 138 2 := ⟨fun w => by kernel_rfl, info_n (by kernel_rfl)⟩
theorem Try.z138 : (Try.prog.info? 138).map (·.zero) = some (some (.agg #[.int .i64 0, .slice none 0 0])) := by kernel_rfl
instance : TyZ Try.prog 138 [.d false (.i .i64 0), .nil] := ⟨by obtain ⟨i, h1, h2⟩ := info_z Try.z138; exact ⟨i, _, h1, h2, rfl⟩⟩
instance : TyE Try.prog 138 [.i .i64 0, .l []] := ⟨by obtain ⟨i, h1, h2⟩ := info_z Try.z138; exact ⟨i, _, h1, h2, rfl⟩⟩
instance : TyB Try.prog 138 [(0, 1), (1, 1)] := ⟨_, Try.underlying138, fun w => by kernel_rfl⟩
instance : TyF Try.prog 138 0 0 3 := ⟨_, _, Try.underlying138, rfl, rfl, rfl, info_f (n := 1) (by kernel_rfl) (by decide)⟩
instance : TyF Try.prog 138 1 1 136 := ⟨_, _, Try.underlying138, rfl, rfl, rfl, info_f (n := 1) (by kernel_rfl) (by decide)⟩
-- 140: impl.KeyPath
instance : TyN Try.prog 140 1 := ⟨info_n (by kernel_rfl)⟩
instance : TyAg Try.prog 140 1 := ⟨fun w => by kernel_rfl, info_n (by kernel_rfl)⟩
theorem Try.z140 : (Try.prog.info? 140).map (·.zero) = some (some (.agg #[.slice none 0 0])) := by kernel_rfl
instance : TyZ Try.prog 140 [.nil] := ⟨by obtain ⟨i, h1, h2⟩ := info_z Try.z140; exact ⟨i, _, h1, h2, rfl⟩⟩
instance : TyE Try.prog 140 [.l []] := ⟨by obtain ⟨i, h1, h2⟩ := info_z Try.z140; exact ⟨i, _, h1, h2, rfl⟩⟩
instance : TyB Try.prog 140 [(0, 1)] := ⟨_, Try.underlying140, fun w => by kernel_rfl⟩
instance : TyF Try.prog 140 0 0 66 := ⟨_, _, Try.underlying140, rfl, rfl, rfl, info_f (n := 1) (by kernel_rfl) (by decide)⟩
-- 143: impl.LeakedKey
instance : TyN Try.prog 143 2 := ⟨info_n (by kernel_rfl)⟩
instance : TyAg Try.prog 143 2 := ⟨fun w => by kernel_rfl, info_n (by kernel_rfl)⟩
theorem Try.z143 : (Try.prog.info? 143).map (·.zero) = some (some (.agg #[.int .i64 0, .slice none 0 0])) := by kernel_rfl
instance : TyZ Try.prog 143 [.d false (.i .i64 0), .nil] := ⟨by obtain ⟨i, h1, h2⟩ := info_z Try.z143; exact ⟨i, _, h1, h2, rfl⟩⟩
instance : TyE Try.prog 143 [.i .i64 0, .l []] := ⟨by obtain ⟨i, h1, h2⟩ := info_z Try.z143; exact ⟨i, _, h1, h2, rfl⟩⟩
instance : TyB Try.prog 143 [(0, 1), (1, 1)] := ⟨_, Try.underlying143, fun w => by kernel_rfl⟩
instance : TyF Try.prog 143 0 0 3 := ⟨_, _, Try.underlying143, rfl, rfl, rfl, info_f (n := 1) (by kernel_rfl) (by decide)⟩
instance : TyF Try.prog 143 1 1 140 := ⟨_, _, Try.underlying143, rfl, rfl, rfl, info_f (n := 1) (by kernel_rfl) (by decide)⟩
-- 157: laws.RoamingAgreement
instance : TyN Try.prog 157 4 := ⟨info_n (by kernel_rfl)⟩
instance : TyAg Try.prog 157 4 := ⟨fun w => by kernel_rfl, info_n (by kernel_rfl)⟩
theorem Try.z157 : (Try.prog.info? 157).map (·.zero) = some (some (.agg #[.int .i64 0, .int .i64 0, .int .i64 0, .int .i64 0])) := by kernel_rfl
instance : TyZ Try.prog 157 [.d false (.i .i64 0), .d false (.i .i64 0), .d false (.i .i64 0), .d false (.i .i64 0)] := ⟨by obtain ⟨i, h1, h2⟩ := info_z Try.z157; exact ⟨i, _, h1, h2, rfl⟩⟩
instance : TyE Try.prog 157 [.i .i64 0, .i .i64 0, .i .i64 0, .i .i64 0] := ⟨by obtain ⟨i, h1, h2⟩ := info_z Try.z157; exact ⟨i, _, h1, h2, rfl⟩⟩
instance : TyB Try.prog 157 [(0, 1), (1, 1), (2, 1), (3, 1)] := ⟨_, Try.underlying157, fun w => by kernel_rfl⟩
instance : TyF Try.prog 157 0 0 3 := ⟨_, _, Try.underlying157, rfl, rfl, rfl, info_f (n := 1) (by kernel_rfl) (by decide)⟩
instance : TyF Try.prog 157 1 1 3 := ⟨_, _, Try.underlying157, rfl, rfl, rfl, info_f (n := 1) (by kernel_rfl) (by decide)⟩
instance : TyF Try.prog 157 2 2 3 := ⟨_, _, Try.underlying157, rfl, rfl, rfl, info_f (n := 1) (by kernel_rfl) (by decide)⟩
instance : TyF Try.prog 157 3 3 3 := ⟨_, _, Try.underlying157, rfl, rfl, rfl, info_f (n := 1) (by kernel_rfl) (by decide)⟩
-- 168: impl.StatementLine
instance : TyN Try.prog 168 3 := ⟨info_n (by kernel_rfl)⟩
instance : TyAg Try.prog 168 3 := ⟨fun w => by kernel_rfl, info_n (by kernel_rfl)⟩
theorem Try.z168 : (Try.prog.info? 168).map (·.zero) = some (some (.agg #[.int .i64 0, .int .i64 0, .int .i64 0])) := by kernel_rfl
instance : TyZ Try.prog 168 [.d false (.i .i64 0), .d false (.i .i64 0), .d false (.i .i64 0)] := ⟨by obtain ⟨i, h1, h2⟩ := info_z Try.z168; exact ⟨i, _, h1, h2, rfl⟩⟩
instance : TyE Try.prog 168 [.i .i64 0, .i .i64 0, .i .i64 0] := ⟨by obtain ⟨i, h1, h2⟩ := info_z Try.z168; exact ⟨i, _, h1, h2, rfl⟩⟩
instance : TyB Try.prog 168 [(0, 1), (1, 1), (2, 1)] := ⟨_, Try.underlying168, fun w => by kernel_rfl⟩
instance : TyF Try.prog 168 0 0 3 := ⟨_, _, Try.underlying168, rfl, rfl, rfl, info_f (n := 1) (by kernel_rfl) (by decide)⟩
instance : TyF Try.prog 168 1 1 3 := ⟨_, _, Try.underlying168, rfl, rfl, rfl, info_f (n := 1) (by kernel_rfl) (by decide)⟩
instance : TyF Try.prog 168 2 2 3 := ⟨_, _, Try.underlying168, rfl, rfl, rfl, info_f (n := 1) (by kernel_rfl) (by decide)⟩
-- 175: laws.UsageRecord
instance : TyN Try.prog 175 4 := ⟨info_n (by kernel_rfl)⟩
instance : TyAg Try.prog 175 4 := ⟨fun w => by kernel_rfl, info_n (by kernel_rfl)⟩
theorem Try.z175 : (Try.prog.info? 175).map (·.zero) = some (some (.agg #[.int .i64 0, .int .i64 0, .int .i64 0, .int .i64 0])) := by kernel_rfl
instance : TyZ Try.prog 175 [.d false (.i .i64 0), .d false (.i .i64 0), .d false (.i .i64 0), .d false (.i .i64 0)] := ⟨by obtain ⟨i, h1, h2⟩ := info_z Try.z175; exact ⟨i, _, h1, h2, rfl⟩⟩
instance : TyE Try.prog 175 [.i .i64 0, .i .i64 0, .i .i64 0, .i .i64 0] := ⟨by obtain ⟨i, h1, h2⟩ := info_z Try.z175; exact ⟨i, _, h1, h2, rfl⟩⟩
instance : TyB Try.prog 175 [(0, 1), (1, 1), (2, 1), (3, 1)] := ⟨_, Try.underlying175, fun w => by kernel_rfl⟩
instance : TyF Try.prog 175 0 0 3 := ⟨_, _, Try.underlying175, rfl, rfl, rfl, info_f (n := 1) (by kernel_rfl) (by decide)⟩
instance : TyF Try.prog 175 1 1 3 := ⟨_, _, Try.underlying175, rfl, rfl, rfl, info_f (n := 1) (by kernel_rfl) (by decide)⟩
instance : TyF Try.prog 175 2 2 3 := ⟨_, _, Try.underlying175, rfl, rfl, rfl, info_f (n := 1) (by kernel_rfl) (by decide)⟩
instance : TyF Try.prog 175 3 3 3 := ⟨_, _, Try.underlying175, rfl, rfl, rfl, info_f (n := 1) (by kernel_rfl) (by decide)⟩
-- 181: spec.l1Cur
instance : TyN Try.prog 181 3 := ⟨info_n (by kernel_rfl)⟩
instance : TyAg Try.prog 181 3 := ⟨fun w => by kernel_rfl, info_n (by kernel_rfl)⟩
theorem Try.z181 : (Try.prog.info? 181).map (·.zero) = some (some (.agg #[.slice none 0 0, .int .i64 0, .int .i64 0])) := by kernel_rfl
instance : TyZ Try.prog 181 [.nil, .d false (.i .i64 0), .d false (.i .i64 0)] := ⟨by obtain ⟨i, h1, h2⟩ := info_z Try.z181; exact ⟨i, _, h1, h2, rfl⟩⟩
instance : TyE Try.prog 181 [.l [], .i .i64 0, .i .i64 0] := ⟨by obtain ⟨i, h1, h2⟩ := info_z Try.z181; exact ⟨i, _, h1, h2, rfl⟩⟩
instance : TyB Try.prog 181 [(0, 1), (1, 1), (2, 1)] := ⟨_, Try.underlying181, fun w => by kernel_rfl⟩
instance : TyF Try.prog 181 0 0 55 := ⟨_, _, Try.underlying181, rfl, rfl, rfl, info_f (n := 1) (by kernel_rfl) (by decide)⟩
instance : TyF Try.prog 181 1 1 3 := ⟨_, _, Try.underlying181, rfl, rfl, rfl, info_f (n := 1) (by kernel_rfl) (by decide)⟩
instance : TyF Try.prog 181 2 2 3 := ⟨_, _, Try.underlying181, rfl, rfl, rfl, info_f (n := 1) (by kernel_rfl) (by decide)⟩
theorem Try.sh3 : HasSh Try.prog 3 [.i .i64] := .int Try.underlying3
theorem Try.sh4 : HasSh Try.prog 4 [.b] := .bool Try.underlying4
theorem Try.sh5 : HasSh Try.prog 5 [.i .u8] := .int Try.underlying5
theorem Try.sh9 : HasSh Try.prog 9 [.str] := .string Try.underlying9
theorem Try.sh88 : HasSh Try.prog 88 [.i .i64, .i .i64] := .struct (ss := [.i .i64, .i .i64]) Try.underlying88 (HasFs.cons (s1 := [.i .i64]) (s2 := [.i .i64]) rfl Try.sh3 (by kernel_rfl) (HasFs.cons (s1 := [.i .i64]) (s2 := []) rfl Try.sh3 (by kernel_rfl) (HasFs.nil))) (by kernel_rfl)
theorem Try.sh121 : HasSh Try.prog 121 [.i .i64, .i .i64] := .struct (ss := [.i .i64, .i .i64]) Try.underlying121 (HasFs.cons (s1 := [.i .i64]) (s2 := [.i .i64]) rfl Try.sh3 (by kernel_rfl) (HasFs.cons (s1 := [.i .i64]) (s2 := []) rfl Try.sh3 (by kernel_rfl) (HasFs.nil))) (by kernel_rfl)
theorem Try.sh123 : HasSh Try.prog 123 [.i .i64, .i .i64, .i .i64, .i .i64, .i .i64, .i .i64] := .struct (ss := [.i .i64, .i .i64, .i .i64, .i .i64, .i .i64, .i .i64]) Try.underlying123 (HasFs.cons (s1 := [.i .i64, .i .i64]) (s2 := [.i .i64, .i .i64, .i .i64, .i .i64]) rfl Try.sh88 (by kernel_rfl) (HasFs.cons (s1 := [.i .i64]) (s2 := [.i .i64, .i .i64, .i .i64]) rfl Try.sh3 (by kernel_rfl) (HasFs.cons (s1 := [.i .i64]) (s2 := [.i .i64, .i .i64]) rfl Try.sh3 (by kernel_rfl) (HasFs.cons (s1 := [.i .i64, .i .i64]) (s2 := []) rfl Try.sh121 (by kernel_rfl) (HasFs.nil))))) (by kernel_rfl)
theorem Try.sh22 : HasSh Try.prog 22 [.l [.i .i64, .i .i64, .i .i64, .i .i64, .i .i64, .i .i64]] := .slice Try.underlying22 Try.sh123 (by kernel_rfl) (by decide)
theorem Try.sh62 : HasSh Try.prog 62 [.i .i64, .i .i64] := .struct (ss := [.i .i64, .i .i64]) Try.underlying62 (HasFs.cons (s1 := [.i .i64]) (s2 := [.i .i64]) rfl Try.sh3 (by kernel_rfl) (HasFs.cons (s1 := [.i .i64]) (s2 := []) rfl Try.sh3 (by kernel_rfl) (HasFs.nil))) (by kernel_rfl)
theorem Try.sh24 : HasSh Try.prog 24 [.l [.i .i64, .i .i64]] := .slice Try.underlying24 Try.sh62 (by kernel_rfl) (by decide)
theorem Try.sh60 : HasSh Try.prog 60 [.i .i64, .i .i64] := .struct (ss := [.i .i64, .i .i64]) Try.underlying60 (HasFs.cons (s1 := [.i .i64]) (s2 := [.i .i64]) rfl Try.sh3 (by kernel_rfl) (HasFs.cons (s1 := [.i .i64]) (s2 := []) rfl Try.sh3 (by kernel_rfl) (HasFs.nil))) (by kernel_rfl)
theorem Try.sh64 : HasSh Try.prog 64 [.i .i64, .i .i64, .i .i64, .i .i64, .i .i64, .i .i64] := .struct (ss := [.i .i64, .i .i64, .i .i64, .i .i64, .i .i64, .i .i64]) Try.underlying64 (HasFs.cons (s1 := [.i .i64, .i .i64]) (s2 := [.i .i64, .i .i64, .i .i64, .i .i64]) rfl Try.sh60 (by kernel_rfl) (HasFs.cons (s1 := [.i .i64]) (s2 := [.i .i64, .i .i64, .i .i64]) rfl Try.sh3 (by kernel_rfl) (HasFs.cons (s1 := [.i .i64]) (s2 := [.i .i64, .i .i64]) rfl Try.sh3 (by kernel_rfl) (HasFs.cons (s1 := [.i .i64, .i .i64]) (s2 := []) rfl Try.sh62 (by kernel_rfl) (HasFs.nil))))) (by kernel_rfl)
theorem Try.sh26 : HasSh Try.prog 26 [.l [.i .i64, .i .i64, .i .i64, .i .i64, .i .i64, .i .i64]] := .slice Try.underlying26 Try.sh64 (by kernel_rfl) (by decide)
theorem Try.sh33 : HasSh Try.prog 33 [.l [.i .i64, .i .i64]] := .slice Try.underlying33 Try.sh60 (by kernel_rfl) (by decide)
theorem Try.sh175 : HasSh Try.prog 175 [.i .i64, .i .i64, .i .i64, .i .i64] := .struct (ss := [.i .i64, .i .i64, .i .i64, .i .i64]) Try.underlying175 (HasFs.cons (s1 := [.i .i64]) (s2 := [.i .i64, .i .i64, .i .i64]) rfl Try.sh3 (by kernel_rfl) (HasFs.cons (s1 := [.i .i64]) (s2 := [.i .i64, .i .i64]) rfl Try.sh3 (by kernel_rfl) (HasFs.cons (s1 := [.i .i64]) (s2 := [.i .i64]) rfl Try.sh3 (by kernel_rfl) (HasFs.cons (s1 := [.i .i64]) (s2 := []) rfl Try.sh3 (by kernel_rfl) (HasFs.nil))))) (by kernel_rfl)
theorem Try.sh37 : HasSh Try.prog 37 [.l [.i .i64, .i .i64, .i .i64, .i .i64]] := .slice Try.underlying37 Try.sh175 (by kernel_rfl) (by decide)
theorem Try.sh39 : HasSh Try.prog 39 [.i .i64, .l [.i .i64, .i .i64, .i .i64, .i .i64], .l [.i .i64, .i .i64, .i .i64, .i .i64]] := .struct (ss := [.i .i64, .l [.i .i64, .i .i64, .i .i64, .i .i64], .l [.i .i64, .i .i64, .i .i64, .i .i64]]) Try.underlying39 (HasFs.cons (s1 := [.i .i64]) (s2 := [.l [.i .i64, .i .i64, .i .i64, .i .i64], .l [.i .i64, .i .i64, .i .i64, .i .i64]]) rfl Try.sh3 (by kernel_rfl) (HasFs.cons (s1 := [.l [.i .i64, .i .i64, .i .i64, .i .i64]]) (s2 := [.l [.i .i64, .i .i64, .i .i64, .i .i64]]) rfl Try.sh37 (by kernel_rfl) (HasFs.cons (s1 := [.l [.i .i64, .i .i64, .i .i64, .i .i64]]) (s2 := []) rfl Try.sh37 (by kernel_rfl) (HasFs.nil)))) (by kernel_rfl)
theorem Try.sh129 : HasSh Try.prog 129 [.i .i64, .i .i64, .i .i64, .i .i64] := .struct (ss := [.i .i64, .i .i64, .i .i64, .i .i64]) Try.underlying129 (HasFs.cons (s1 := [.i .i64]) (s2 := [.i .i64, .i .i64, .i .i64]) rfl Try.sh3 (by kernel_rfl) (HasFs.cons (s1 := [.i .i64]) (s2 := [.i .i64, .i .i64]) rfl Try.sh3 (by kernel_rfl) (HasFs.cons (s1 := [.i .i64]) (s2 := [.i .i64]) rfl Try.sh3 (by kernel_rfl) (HasFs.cons (s1 := [.i .i64]) (s2 := []) rfl Try.sh3 (by kernel_rfl) (HasFs.nil))))) (by kernel_rfl)
theorem Try.sh42 : HasSh Try.prog 42 [.l [.i .i64, .i .i64, .i .i64, .i .i64]] := .slice Try.underlying42 Try.sh129 (by kernel_rfl) (by decide)
theorem Try.sh44 : HasSh Try.prog 44 [.i .i64, .l [.i .i64, .i .i64, .i .i64, .i .i64], .l [.i .i64, .i .i64, .i .i64, .i .i64]] := .struct (ss := [.i .i64, .l [.i .i64, .i .i64, .i .i64, .i .i64], .l [.i .i64, .i .i64, .i .i64, .i .i64]]) Try.underlying44 (HasFs.cons (s1 := [.i .i64]) (s2 := [.l [.i .i64, .i .i64, .i .i64, .i .i64], .l [.i .i64, .i .i64, .i .i64, .i .i64]]) rfl Try.sh3 (by kernel_rfl) (HasFs.cons (s1 := [.l [.i .i64, .i .i64, .i .i64, .i .i64]]) (s2 := [.l [.i .i64, .i .i64, .i .i64, .i .i64]]) rfl Try.sh42 (by kernel_rfl) (HasFs.cons (s1 := [.l [.i .i64, .i .i64, .i .i64, .i .i64]]) (s2 := []) rfl Try.sh42 (by kernel_rfl) (HasFs.nil)))) (by kernel_rfl)
theorem Try.sh66 : HasSh Try.prog 66 [.l [.i .i64]] := .slice Try.underlying66 Try.sh3 (by kernel_rfl) (by decide)
theorem Try.sh136 : HasSh Try.prog 136 [.l [.i .i64]] := .struct (ss := [.l [.i .i64]]) Try.underlying136 (HasFs.cons (s1 := [.l [.i .i64]]) (s2 := []) rfl Try.sh66 (by kernel_rfl) (HasFs.nil)) (by kernel_rfl)
theorem Try.sh138 : HasSh Try.prog 138 [.i .i64, .l [.i .i64]] := .struct (ss := [.i .i64, .l [.i .i64]]) Try.underlying138 (HasFs.cons (s1 := [.i .i64]) (s2 := [.l [.i .i64]]) rfl Try.sh3 (by kernel_rfl) (HasFs.cons (s1 := [.l [.i .i64]]) (s2 := []) rfl Try.sh136 (by kernel_rfl) (HasFs.nil))) (by kernel_rfl)
theorem Try.sh48 : HasSh Try.prog 48 [.l [.i .i64, .l [.i .i64]]] := .slice Try.underlying48 Try.sh138 (by kernel_rfl) (by decide)
theorem Try.sh140 : HasSh Try.prog 140 [.l [.i .i64]] := .struct (ss := [.l [.i .i64]]) Try.underlying140 (HasFs.cons (s1 := [.l [.i .i64]]) (s2 := []) rfl Try.sh66 (by kernel_rfl) (HasFs.nil)) (by kernel_rfl)
theorem Try.sh143 : HasSh Try.prog 143 [.i .i64, .l [.i .i64]] := .struct (ss := [.i .i64, .l [.i .i64]]) Try.underlying143 (HasFs.cons (s1 := [.i .i64]) (s2 := [.l [.i .i64]]) rfl Try.sh3 (by kernel_rfl) (HasFs.cons (s1 := [.l [.i .i64]]) (s2 := []) rfl Try.sh140 (by kernel_rfl) (HasFs.nil))) (by kernel_rfl)
theorem Try.sh51 : HasSh Try.prog 51 [.l [.i .i64, .l [.i .i64]]] := .slice Try.underlying51 Try.sh143 (by kernel_rfl) (by decide)
theorem Try.sh55 : HasSh Try.prog 55 [.l [.i .u8]] := .slice Try.underlying55 Try.sh5 (by kernel_rfl) (by decide)
theorem Try.sh68 : HasSh Try.prog 68 [.i .i64, .i .i64, .i .i64, .l [.i .i64]] := .struct (ss := [.i .i64, .i .i64, .i .i64, .l [.i .i64]]) Try.underlying68 (HasFs.cons (s1 := [.i .i64]) (s2 := [.i .i64, .i .i64, .l [.i .i64]]) rfl Try.sh3 (by kernel_rfl) (HasFs.cons (s1 := [.i .i64]) (s2 := [.i .i64, .l [.i .i64]]) rfl Try.sh3 (by kernel_rfl) (HasFs.cons (s1 := [.i .i64]) (s2 := [.l [.i .i64]]) rfl Try.sh3 (by kernel_rfl) (HasFs.cons (s1 := [.l [.i .i64]]) (s2 := []) rfl Try.sh66 (by kernel_rfl) (HasFs.nil))))) (by kernel_rfl)
theorem Try.sh80 : HasSh Try.prog 80 [.i .i64, .i .i64, .i .i64, .i .i64] := .struct (ss := [.i .i64, .i .i64, .i .i64, .i .i64]) Try.underlying80 (HasFs.cons (s1 := [.i .i64]) (s2 := [.i .i64, .i .i64, .i .i64]) rfl Try.sh3 (by kernel_rfl) (HasFs.cons (s1 := [.i .i64]) (s2 := [.i .i64, .i .i64]) rfl Try.sh3 (by kernel_rfl) (HasFs.cons (s1 := [.i .i64]) (s2 := [.i .i64]) rfl Try.sh3 (by kernel_rfl) (HasFs.cons (s1 := [.i .i64]) (s2 := []) rfl Try.sh3 (by kernel_rfl) (HasFs.nil))))) (by kernel_rfl)
theorem Try.sh69 : HasSh Try.prog 69 [.l [.i .i64, .i .i64, .i .i64, .i .i64]] := .slice Try.underlying69 Try.sh80 (by kernel_rfl) (by decide)
theorem Try.sh86 : HasSh Try.prog 86 [.i .i64, .i .i64, .i .i64, .l [.i .i64]] := .struct (ss := [.i .i64, .i .i64, .i .i64, .l [.i .i64]]) Try.underlying86 (HasFs.cons (s1 := [.i .i64]) (s2 := [.i .i64, .i .i64, .l [.i .i64]]) rfl Try.sh3 (by kernel_rfl) (HasFs.cons (s1 := [.i .i64]) (s2 := [.i .i64, .l [.i .i64]]) rfl Try.sh3 (by kernel_rfl) (HasFs.cons (s1 := [.i .i64]) (s2 := [.l [.i .i64]]) rfl Try.sh3 (by kernel_rfl) (HasFs.cons (s1 := [.l [.i .i64]]) (s2 := []) rfl Try.sh66 (by kernel_rfl) (HasFs.nil))))) (by kernel_rfl)
theorem Try.sh157 : HasSh Try.prog 157 [.i .i64, .i .i64, .i .i64, .i .i64] := .struct (ss := [.i .i64, .i .i64, .i .i64, .i .i64]) Try.underlying157 (HasFs.cons (s1 := [.i .i64]) (s2 := [.i .i64, .i .i64, .i .i64]) rfl Try.sh3 (by kernel_rfl) (HasFs.cons (s1 := [.i .i64]) (s2 := [.i .i64, .i .i64]) rfl Try.sh3 (by kernel_rfl) (HasFs.cons (s1 := [.i .i64]) (s2 := [.i .i64]) rfl Try.sh3 (by kernel_rfl) (HasFs.cons (s1 := [.i .i64]) (s2 := []) rfl Try.sh3 (by kernel_rfl) (HasFs.nil))))) (by kernel_rfl)
theorem Try.sh87 : HasSh Try.prog 87 [.l [.i .i64, .i .i64, .i .i64, .i .i64]] := .slice Try.underlying87 Try.sh157 (by kernel_rfl) (by decide)
theorem Try.sh101 : HasSh Try.prog 101 [.i .i64, .l [.i .i64, .i .i64, .i .i64, .i .i64, .i .i64, .i .i64], .i .i64, .i .i64, .i .i64] := .struct (ss := [.i .i64, .l [.i .i64, .i .i64, .i .i64, .i .i64, .i .i64, .i .i64], .i .i64, .i .i64, .i .i64]) Try.underlying101 (HasFs.cons (s1 := [.i .i64]) (s2 := [.l [.i .i64, .i .i64, .i .i64, .i .i64, .i .i64, .i .i64], .i .i64, .i .i64, .i .i64]) rfl Try.sh3 (by kernel_rfl) (HasFs.cons (s1 := [.l [.i .i64, .i .i64, .i .i64, .i .i64, .i .i64, .i .i64]]) (s2 := [.i .i64, .i .i64, .i .i64]) rfl Try.sh26 (by kernel_rfl) (HasFs.cons (s1 := [.i .i64]) (s2 := [.i .i64, .i .i64]) rfl Try.sh3 (by kernel_rfl) (HasFs.cons (s1 := [.i .i64, .i .i64]) (s2 := []) rfl Try.sh62 (by kernel_rfl) (HasFs.nil))))) (by kernel_rfl)
theorem Try.sh108 : HasSh Try.prog 108 [.l [.i .i64, .l [.i .i64, .i .i64, .i .i64, .i .i64], .l [.i .i64, .i .i64, .i .i64, .i .i64]]] := .slice Try.underlying108 Try.sh39 (by kernel_rfl) (by decide)
theorem Try.sh168 : HasSh Try.prog 168 [.i .i64, .i .i64, .i .i64] := .struct (ss := [.i .i64, .i .i64, .i .i64]) Try.underlying168 (HasFs.cons (s1 := [.i .i64]) (s2 := [.i .i64, .i .i64]) rfl Try.sh3 (by kernel_rfl) (HasFs.cons (s1 := [.i .i64]) (s2 := [.i .i64]) rfl Try.sh3 (by kernel_rfl) (HasFs.cons (s1 := [.i .i64]) (s2 := []) rfl Try.sh3 (by kernel_rfl) (HasFs.nil)))) (by kernel_rfl)
theorem Try.sh110 : HasSh Try.prog 110 [.l [.i .i64, .i .i64, .i .i64]] := .slice Try.underlying110 Try.sh168 (by kernel_rfl) (by decide)
theorem Try.sh112 : HasSh Try.prog 112 [.l [.i .i64, .l [.i .i64, .i .i64, .i .i64, .i .i64], .l [.i .i64, .i .i64, .i .i64, .i .i64]]] := .slice Try.underlying112 Try.sh44 (by kernel_rfl) (by decide)
theorem Try.sh181 : HasSh Try.prog 181 [.l [.i .u8], .i .i64, .i .i64] := .struct (ss := [.l [.i .u8], .i .i64, .i .i64]) Try.underlying181 (HasFs.cons (s1 := [.l [.i .u8]]) (s2 := [.i .i64, .i .i64]) rfl Try.sh55 (by kernel_rfl) (HasFs.cons (s1 := [.i .i64]) (s2 := [.i .i64]) rfl Try.sh3 (by kernel_rfl) (HasFs.cons (s1 := [.i .i64]) (s2 := []) rfl Try.sh3 (by kernel_rfl) (HasFs.nil)))) (by kernel_rfl)
theorem Try.eqa60 : EqA Try.prog 2 60 [.i .i64, .i .i64] := eqA_struct (k := 1) Try.underlying60 (by kernel_rfl) (eqF_s rfl (by decide) inferInstance (eqS_int Try.underlying3) (eqF_s rfl (by decide) inferInstance (eqS_int Try.underlying3) (eqF_nil)))
instance : TyEq Try.prog 60 [.i .i64, .i .i64] := ⟨⟨2, by decide, Try.eqa60⟩, by kernel_rfl⟩
theorem Try.eqa62 : EqA Try.prog 2 62 [.i .i64, .i .i64] := eqA_struct (k := 1) Try.underlying62 (by kernel_rfl) (eqF_s rfl (by decide) inferInstance (eqS_int Try.underlying3) (eqF_s rfl (by decide) inferInstance (eqS_int Try.underlying3) (eqF_nil)))
instance : TyEq Try.prog 62 [.i .i64, .i .i64] := ⟨⟨2, by decide, Try.eqa62⟩, by kernel_rfl⟩
theorem Try.eqa64 : EqA Try.prog 3 64 [.i .i64, .i .i64, .i .i64, .i .i64, .i .i64, .i .i64] := eqA_struct (k := 2) Try.underlying64 (by kernel_rfl) (eqF_a (n := 2) (s1 := [.i .i64, .i .i64]) rfl (by decide) inferInstance rfl (by decide) Try.eqa60 (eqF_s rfl (by decide) inferInstance (eqS_int Try.underlying3) (eqF_s rfl (by decide) inferInstance (eqS_int Try.underlying3) (eqF_a (n := 2) (s1 := [.i .i64, .i .i64]) rfl (by decide) inferInstance rfl (by decide) Try.eqa62 (eqF_nil)))))
instance : TyEq Try.prog 64 [.i .i64, .i .i64, .i .i64, .i .i64, .i .i64, .i .i64] := ⟨⟨3, by decide, Try.eqa64⟩, by kernel_rfl⟩
theorem Try.eqa80 : EqA Try.prog 2 80 [.i .i64, .i .i64, .i .i64, .i .i64] := eqA_struct (k := 1) Try.underlying80 (by kernel_rfl) (eqF_s rfl (by decide) inferInstance (eqS_int Try.underlying3) (eqF_s rfl (by decide) inferInstance (eqS_int Try.underlying3) (eqF_s rfl (by decide) inferInstance (eqS_int Try.underlying3) (eqF_s rfl (by decide) inferInstance (eqS_int Try.underlying3) (eqF_nil)))))
instance : TyEq Try.prog 80 [.i .i64, .i .i64, .i .i64, .i .i64] := ⟨⟨2, by decide, Try.eqa80⟩, by kernel_rfl⟩
theorem Try.eqa88 : EqA Try.prog 2 88 [.i .i64, .i .i64] := eqA_struct (k := 1) Try.underlying88 (by kernel_rfl) (eqF_s rfl (by decide) inferInstance (eqS_int Try.underlying3) (eqF_s rfl (by decide) inferInstance (eqS_int Try.underlying3) (eqF_nil)))
instance : TyEq Try.prog 88 [.i .i64, .i .i64] := ⟨⟨2, by decide, Try.eqa88⟩, by kernel_rfl⟩
theorem Try.eqa121 : EqA Try.prog 2 121 [.i .i64, .i .i64] := eqA_struct (k := 1) Try.underlying121 (by kernel_rfl) (eqF_s rfl (by decide) inferInstance (eqS_int Try.underlying3) (eqF_s rfl (by decide) inferInstance (eqS_int Try.underlying3) (eqF_nil)))
instance : TyEq Try.prog 121 [.i .i64, .i .i64] := ⟨⟨2, by decide, Try.eqa121⟩, by kernel_rfl⟩
theorem Try.eqa123 : EqA Try.prog 3 123 [.i .i64, .i .i64, .i .i64, .i .i64, .i .i64, .i .i64] := eqA_struct (k := 2) Try.underlying123 (by kernel_rfl) (eqF_a (n := 2) (s1 := [.i .i64, .i .i64]) rfl (by decide) inferInstance rfl (by decide) Try.eqa88 (eqF_s rfl (by decide) inferInstance (eqS_int Try.underlying3) (eqF_s rfl (by decide) inferInstance (eqS_int Try.underlying3) (eqF_a (n := 2) (s1 := [.i .i64, .i .i64]) rfl (by decide) inferInstance rfl (by decide) Try.eqa121 (eqF_nil)))))
instance : TyEq Try.prog 123 [.i .i64, .i .i64, .i .i64, .i .i64, .i .i64, .i .i64] := ⟨⟨3, by decide, Try.eqa123⟩, by kernel_rfl⟩
theorem Try.eqa129 : EqA Try.prog 2 129 [.i .i64, .i .i64, .i .i64, .i .i64] := eqA_struct (k := 1) Try.underlying129 (by kernel_rfl) (eqF_s rfl (by decide) inferInstance (eqS_int Try.underlying3) (eqF_s rfl (by decide) inferInstance (eqS_int Try.underlying3) (eqF_s rfl (by decide) inferInstance (eqS_int Try.underlying3) (eqF_s rfl (by decide) inferInstance (eqS_int Try.underlying3) (eqF_nil)))))
instance : TyEq Try.prog 129 [.i .i64, .i .i64, .i .i64, .i .i64] := ⟨⟨2, by decide, Try.eqa129⟩, by kernel_rfl⟩
theorem Try.eqa157 : EqA Try.prog 2 157 [.i .i64, .i .i64, .i .i64, .i .i64] := eqA_struct (k := 1) Try.underlying157 (by kernel_rfl) (eqF_s rfl (by decide) inferInstance (eqS_int Try.underlying3) (eqF_s rfl (by decide) inferInstance (eqS_int Try.underlying3) (eqF_s rfl (by decide) inferInstance (eqS_int Try.underlying3) (eqF_s rfl (by decide) inferInstance (eqS_int Try.underlying3) (eqF_nil)))))
instance : TyEq Try.prog 157 [.i .i64, .i .i64, .i .i64, .i .i64] := ⟨⟨2, by decide, Try.eqa157⟩, by kernel_rfl⟩
theorem Try.eqa168 : EqA Try.prog 2 168 [.i .i64, .i .i64, .i .i64] := eqA_struct (k := 1) Try.underlying168 (by kernel_rfl) (eqF_s rfl (by decide) inferInstance (eqS_int Try.underlying3) (eqF_s rfl (by decide) inferInstance (eqS_int Try.underlying3) (eqF_s rfl (by decide) inferInstance (eqS_int Try.underlying3) (eqF_nil))))
instance : TyEq Try.prog 168 [.i .i64, .i .i64, .i .i64] := ⟨⟨2, by decide, Try.eqa168⟩, by kernel_rfl⟩
theorem Try.eqa175 : EqA Try.prog 2 175 [.i .i64, .i .i64, .i .i64, .i .i64] := eqA_struct (k := 1) Try.underlying175 (by kernel_rfl) (eqF_s rfl (by decide) inferInstance (eqS_int Try.underlying3) (eqF_s rfl (by decide) inferInstance (eqS_int Try.underlying3) (eqF_s rfl (by decide) inferInstance (eqS_int Try.underlying3) (eqF_s rfl (by decide) inferInstance (eqS_int Try.underlying3) (eqF_nil)))))
instance : TyEq Try.prog 175 [.i .i64, .i .i64, .i .i64, .i .i64] := ⟨⟨2, by decide, Try.eqa175⟩, by kernel_rfl⟩
theorem Try.follows : Try.prog.follows .mixedOrders = true := by kernel_rfl
structure TUsageRecord where
  Network : Int
  SessionID : Int
  Seq : Int
  Bytes : Int
  deriving DecidableEq, Inhabited
def eTUsageRecord (a : TUsageRecord) : List D := [.i .i64 a.Network, .i .i64 a.SessionID, .i .i64 a.Seq, .i .i64 a.Bytes]
structure TOperatorBook where
  Network : Int
  Own : List TUsageRecord
  Claims : List TUsageRecord
  deriving DecidableEq, Inhabited
def eTOperatorBook (a : TOperatorBook) : List D := [.i .i64 a.Network, .l (a.Own.map eTUsageRecord), .l (a.Claims.map eTUsageRecord)]
structure TSubscriberID where
  Network : Int
  Number : Int
  deriving DecidableEq, Inhabited
def eTSubscriberID (a : TSubscriberID) : List D := [.i .i64 a.Network, .i .i64 a.Number]
structure TTempID where
  Pool : Int
  Number : Int
  deriving DecidableEq, Inhabited
def eTTempID (a : TTempID) : List D := [.i .i64 a.Pool, .i .i64 a.Number]
structure TRegistration where
  ID : TSubscriberID
  Network : Int
  Area : Int
  TempID : TTempID
  deriving DecidableEq, Inhabited
def eTRegistration (a : TRegistration) : List D := [.i .i64 a.ID.Network, .i .i64 a.ID.Number, .i .i64 a.Network, .i .i64 a.Area, .i .i64 a.TempID.Pool, .i .i64 a.TempID.Number]
structure TSubscription where
  RateLimit : Int
  BestClass : Int
  GrantSize : Int
  RoamingNetworks : List Int
  deriving DecidableEq, Inhabited
def eTSubscription (a : TSubscription) : List D := [.i .i64 a.RateLimit, .i .i64 a.BestClass, .i .i64 a.GrantSize, .l (a.RoamingNetworks.map eI)]
structure TRoamingAgreement where
  Home : Int
  Visited : Int
  Price : Int
  Cap : Int
  deriving DecidableEq, Inhabited
def eTRoamingAgreement (a : TRoamingAgreement) : List D := [.i .i64 a.Home, .i .i64 a.Visited, .i .i64 a.Price, .i .i64 a.Cap]
structure TRoamingResult where
  Code : Int
  Registrations : List TRegistration
  Cancelled : Int
  TempID : TTempID
  deriving DecidableEq, Inhabited
def eTRoamingResult (a : TRoamingResult) : List D := [.i .i64 a.Code, .l (a.Registrations.map eTRegistration), .i .i64 a.Cancelled, .i .i64 a.TempID.Pool, .i .i64 a.TempID.Number]
structure TKeyPath where
  Steps : List Int
  deriving DecidableEq, Inhabited
def eTKeyPath (a : TKeyPath) : List D := [.l (a.Steps.map eI)]
structure TLeakedKey where
  Generation : Int
  Path : TKeyPath
  deriving DecidableEq, Inhabited
def eTLeakedKey (a : TLeakedKey) : List D := [.i .i64 a.Generation, .l (a.Path.Steps.map eI)]
structure TStatementLine where
  Payer : Int
  Payee : Int
  Amount : Int
  deriving DecidableEq, Inhabited
def eTStatementLine (a : TStatementLine) : List D := [.i .i64 a.Payer, .i .i64 a.Payee, .i .i64 a.Amount]
structure Tl1Cur where
  fb : List Int
  fi : Int
  fh : Int
  deriving DecidableEq, Inhabited
def eTl1Cur (a : Tl1Cur) : List D := [.l (a.fb.map eU8), .i .i64 a.fi, .i .i64 a.fh]
end Go.AM
