/-
  Facts on the types of this translation, laid by program.
-/
import Derived.Test.YtnhgchfpccpcdaaAmZc
import Derived.Test.YtnhgchfpccpcdaaAmO
import Derived.Test.YtnhgchfpccpcdaaProg
namespace Go.AM
open Go.Proofs
theorem info_n {P : Program} {t : TypeId} {n : Nat} (h : (P.info? t).map (·.size) = some n) : ∃ i, P.info? t = some i ∧ i.size = n := by
  cases hi : P.info? t with
  | none => simp [hi] at h
  | some i => simp [hi] at h; exact ⟨i, rfl, h⟩
theorem info_z {P : Program} {t : TypeId} {z : Value} (h : (P.info? t).map (·.zero) = some (some z)) : ∃ i, P.info? t = some i ∧ i.zero = some z := by
  cases hi : P.info? t with
  | none => simp [hi] at h
  | some i => simp [hi] at h; exact ⟨i, rfl, h⟩
theorem info_s {P : Program} {t : TypeId} {z : Value} {n b : Nat} (h : (P.info? t).map (fun i => (i.size, i.bytes, i.zero)) = some (n, b, some z)) (hz : z.cells.size = n) : ∃ i z, P.info? t = some i ∧ i.size = n ∧ i.bytes = b ∧ i.zero = some z ∧ z.cells.size = n := by
  cases hi : P.info? t with
  | none => simp [hi] at h
  | some i => simp [hi] at h; exact ⟨i, z, rfl, h.1, h.2.1, h.2.2, hz⟩
theorem info_f {P : Program} {t : TypeId} {n : Nat} (h : (P.info? t).map (·.size) = some n) (hn : n ≠ 0) : ∃ i, P.info? t = some i ∧ i.size ≠ 0 := by
  cases hi : P.info? t with
  | none => simp [hi] at h
  | some i => simp [hi] at h; exact ⟨i, rfl, by omega⟩
-- 3: int
instance : TyN Try.prog 3 1 := ⟨info_n (by kernel_rfl)⟩
instance : TySc Try.prog 3 := ⟨fun w => by kernel_rfl, info_n (by kernel_rfl)⟩
instance : TyU Try.prog 3 (.int .i64) := ⟨Try.underlying3⟩
theorem Try.z3 : (Try.prog.info? 3).map (·.zero) = some (some (.int .i64 0)) := by kernel_rfl
instance : TyZ Try.prog 3 [.d false (.i .i64 0)] := ⟨by obtain ⟨i, h1, h2⟩ := info_z Try.z3; exact ⟨i, _, h1, h2, rfl⟩⟩
instance : TyE Try.prog 3 [.i .i64 0] := ⟨by obtain ⟨i, h1, h2⟩ := info_z Try.z3; exact ⟨i, _, h1, h2, rfl⟩⟩
-- 4: bool
instance : TyN Try.prog 4 1 := ⟨info_n (by kernel_rfl)⟩
instance : TySc Try.prog 4 := ⟨fun w => by kernel_rfl, info_n (by kernel_rfl)⟩
instance : TyU Try.prog 4 (.bool) := ⟨Try.underlying4⟩
theorem Try.z4 : (Try.prog.info? 4).map (·.zero) = some (some (.bool false)) := by kernel_rfl
instance : TyZ Try.prog 4 [.d false (.b false)] := ⟨by obtain ⟨i, h1, h2⟩ := info_z Try.z4; exact ⟨i, _, h1, h2, rfl⟩⟩
instance : TyE Try.prog 4 [.b false] := ⟨by obtain ⟨i, h1, h2⟩ := info_z Try.z4; exact ⟨i, _, h1, h2, rfl⟩⟩
-- 5: uint8
instance : TyN Try.prog 5 1 := ⟨info_n (by kernel_rfl)⟩
instance : TySc Try.prog 5 := ⟨fun w => by kernel_rfl, info_n (by kernel_rfl)⟩
instance : TyU Try.prog 5 (.int .u8) := ⟨Try.underlying5⟩
theorem Try.z5 : (Try.prog.info? 5).map (·.zero) = some (some (.int .u8 0)) := by kernel_rfl
instance : TyZ Try.prog 5 [.d false (.i .u8 0)] := ⟨by obtain ⟨i, h1, h2⟩ := info_z Try.z5; exact ⟨i, _, h1, h2, rfl⟩⟩
instance : TyE Try.prog 5 [.i .u8 0] := ⟨by obtain ⟨i, h1, h2⟩ := info_z Try.z5; exact ⟨i, _, h1, h2, rfl⟩⟩
-- 9: string
instance : TyN Try.prog 9 1 := ⟨info_n (by kernel_rfl)⟩
instance : TySc Try.prog 9 := ⟨fun w => by kernel_rfl, info_n (by kernel_rfl)⟩
instance : TyU Try.prog 9 (.string) := ⟨Try.underlying9⟩
theorem Try.z9 : (Try.prog.info? 9).map (·.zero) = some (some (.string ⟨#[]⟩)) := by kernel_rfl
instance : TyZ Try.prog 9 [.d false (.str ⟨#[]⟩)] := ⟨by obtain ⟨i, h1, h2⟩ := info_z Try.z9; exact ⟨i, _, h1, h2, rfl⟩⟩
instance : TyE Try.prog 9 [.str ⟨#[]⟩] := ⟨by obtain ⟨i, h1, h2⟩ := info_z Try.z9; exact ⟨i, _, h1, h2, rfl⟩⟩
-- 22: []uint8
instance : TyN Try.prog 22 1 := ⟨info_n (by kernel_rfl)⟩
instance : TySc Try.prog 22 := ⟨fun w => by kernel_rfl, info_n (by kernel_rfl)⟩
theorem Try.z22 : (Try.prog.info? 22).map (·.zero) = some (some (.slice none 0 0)) := by kernel_rfl
instance : TyZ Try.prog 22 [.nil] := ⟨by obtain ⟨i, h1, h2⟩ := info_z Try.z22; exact ⟨i, _, h1, h2, rfl⟩⟩
instance : TyE Try.prog 22 [.l []] := ⟨by obtain ⟨i, h1, h2⟩ := info_z Try.z22; exact ⟨i, _, h1, h2, rfl⟩⟩
instance : TySl Try.prog 22 5 1 1 := ⟨Try.underlying22, info_s (z := .int .u8 0) (by kernel_rfl) rfl, by decide⟩
-- 27: []impl.StatementLine
instance : TyN Try.prog 27 1 := ⟨info_n (by kernel_rfl)⟩
instance : TySc Try.prog 27 := ⟨fun w => by kernel_rfl, info_n (by kernel_rfl)⟩
theorem Try.z27 : (Try.prog.info? 27).map (·.zero) = some (some (.slice none 0 0)) := by kernel_rfl
instance : TyZ Try.prog 27 [.nil] := ⟨by obtain ⟨i, h1, h2⟩ := info_z Try.z27; exact ⟨i, _, h1, h2, rfl⟩⟩
instance : TyE Try.prog 27 [.l []] := ⟨by obtain ⟨i, h1, h2⟩ := info_z Try.z27; exact ⟨i, _, h1, h2, rfl⟩⟩
instance : TySl Try.prog 27 30 3 24 := ⟨Try.underlying27, info_s (z := .agg #[.int .i64 0, .int .i64 0, .int .i64 0]) (by kernel_rfl) rfl, by decide⟩
-- 30: impl.StatementLine
instance : TyN Try.prog 30 3 := ⟨info_n (by kernel_rfl)⟩
instance : TyAg Try.prog 30 3 := ⟨fun w => by kernel_rfl, info_n (by kernel_rfl)⟩
theorem Try.z30 : (Try.prog.info? 30).map (·.zero) = some (some (.agg #[.int .i64 0, .int .i64 0, .int .i64 0])) := by kernel_rfl
instance : TyZ Try.prog 30 [.d false (.i .i64 0), .d false (.i .i64 0), .d false (.i .i64 0)] := ⟨by obtain ⟨i, h1, h2⟩ := info_z Try.z30; exact ⟨i, _, h1, h2, rfl⟩⟩
instance : TyE Try.prog 30 [.i .i64 0, .i .i64 0, .i .i64 0] := ⟨by obtain ⟨i, h1, h2⟩ := info_z Try.z30; exact ⟨i, _, h1, h2, rfl⟩⟩
instance : TyB Try.prog 30 [(0, 1), (1, 1), (2, 1)] := ⟨_, Try.underlying30, fun w => by kernel_rfl⟩
instance : TyF Try.prog 30 0 0 3 := ⟨_, _, Try.underlying30, rfl, rfl, rfl, info_f (n := 1) (by kernel_rfl) (by decide)⟩
instance : TyF Try.prog 30 1 1 3 := ⟨_, _, Try.underlying30, rfl, rfl, rfl, info_f (n := 1) (by kernel_rfl) (by decide)⟩
instance : TyF Try.prog 30 2 2 3 := ⟨_, _, Try.underlying30, rfl, rfl, rfl, info_f (n := 1) (by kernel_rfl) (by decide)⟩
-- 34: []impl.Registration
instance : TyN Try.prog 34 1 := ⟨info_n (by kernel_rfl)⟩
instance : TySc Try.prog 34 := ⟨fun w => by kernel_rfl, info_n (by kernel_rfl)⟩
theorem Try.z34 : (Try.prog.info? 34).map (·.zero) = some (some (.slice none 0 0)) := by kernel_rfl
instance : TyZ Try.prog 34 [.nil] := ⟨by obtain ⟨i, h1, h2⟩ := info_z Try.z34; exact ⟨i, _, h1, h2, rfl⟩⟩
instance : TyE Try.prog 34 [.l []] := ⟨by obtain ⟨i, h1, h2⟩ := info_z Try.z34; exact ⟨i, _, h1, h2, rfl⟩⟩
instance : TySl Try.prog 34 44 6 48 := ⟨Try.underlying34, info_s (z := .agg #[.int .i64 0, .int .i64 0, .int .i64 0, .int .i64 0, .int .i64 0, .int .i64 0]) (by kernel_rfl) rfl, by decide⟩
-- 36: []impl.SubscriberID
instance : TyN Try.prog 36 1 := ⟨info_n (by kernel_rfl)⟩
instance : TySc Try.prog 36 := ⟨fun w => by kernel_rfl, info_n (by kernel_rfl)⟩
theorem Try.z36 : (Try.prog.info? 36).map (·.zero) = some (some (.slice none 0 0)) := by kernel_rfl
instance : TyZ Try.prog 36 [.nil] := ⟨by obtain ⟨i, h1, h2⟩ := info_z Try.z36; exact ⟨i, _, h1, h2, rfl⟩⟩
instance : TyE Try.prog 36 [.l []] := ⟨by obtain ⟨i, h1, h2⟩ := info_z Try.z36; exact ⟨i, _, h1, h2, rfl⟩⟩
instance : TySl Try.prog 36 40 2 16 := ⟨Try.underlying36, info_s (z := .agg #[.int .i64 0, .int .i64 0]) (by kernel_rfl) rfl, by decide⟩
-- 40: impl.SubscriberID
instance : TyN Try.prog 40 2 := ⟨info_n (by kernel_rfl)⟩
instance : TyAg Try.prog 40 2 := ⟨fun w => by kernel_rfl, info_n (by kernel_rfl)⟩
theorem Try.z40 : (Try.prog.info? 40).map (·.zero) = some (some (.agg #[.int .i64 0, .int .i64 0])) := by kernel_rfl
instance : TyZ Try.prog 40 [.d false (.i .i64 0), .d false (.i .i64 0)] := ⟨by obtain ⟨i, h1, h2⟩ := info_z Try.z40; exact ⟨i, _, h1, h2, rfl⟩⟩
instance : TyE Try.prog 40 [.i .i64 0, .i .i64 0] := ⟨by obtain ⟨i, h1, h2⟩ := info_z Try.z40; exact ⟨i, _, h1, h2, rfl⟩⟩
instance : TyB Try.prog 40 [(0, 1), (1, 1)] := ⟨_, Try.underlying40, fun w => by kernel_rfl⟩
instance : TyF Try.prog 40 0 0 3 := ⟨_, _, Try.underlying40, rfl, rfl, rfl, info_f (n := 1) (by kernel_rfl) (by decide)⟩
instance : TyF Try.prog 40 1 1 3 := ⟨_, _, Try.underlying40, rfl, rfl, rfl, info_f (n := 1) (by kernel_rfl) (by decide)⟩
-- 42: impl.TempID
instance : TyN Try.prog 42 2 := ⟨info_n (by kernel_rfl)⟩
instance : TyAg Try.prog 42 2 := ⟨fun w => by kernel_rfl, info_n (by kernel_rfl)⟩
theorem Try.z42 : (Try.prog.info? 42).map (·.zero) = some (some (.agg #[.int .i64 0, .int .i64 0])) := by kernel_rfl
instance : TyZ Try.prog 42 [.d false (.i .i64 0), .d false (.i .i64 0)] := ⟨by obtain ⟨i, h1, h2⟩ := info_z Try.z42; exact ⟨i, _, h1, h2, rfl⟩⟩
instance : TyE Try.prog 42 [.i .i64 0, .i .i64 0] := ⟨by obtain ⟨i, h1, h2⟩ := info_z Try.z42; exact ⟨i, _, h1, h2, rfl⟩⟩
instance : TyB Try.prog 42 [(0, 1), (1, 1)] := ⟨_, Try.underlying42, fun w => by kernel_rfl⟩
instance : TyF Try.prog 42 0 0 3 := ⟨_, _, Try.underlying42, rfl, rfl, rfl, info_f (n := 1) (by kernel_rfl) (by decide)⟩
instance : TyF Try.prog 42 1 1 3 := ⟨_, _, Try.underlying42, rfl, rfl, rfl, info_f (n := 1) (by kernel_rfl) (by decide)⟩
-- 44: impl.Registration
instance : TyN Try.prog 44 6 := ⟨info_n (by kernel_rfl)⟩
instance : TyAg Try.prog 44 6 := ⟨fun w => by kernel_rfl, info_n (by kernel_rfl)⟩
theorem Try.z44 : (Try.prog.info? 44).map (·.zero) = some (some (.agg #[.int .i64 0, .int .i64 0, .int .i64 0, .int .i64 0, .int .i64 0, .int .i64 0])) := by kernel_rfl
instance : TyZ Try.prog 44 [.d false (.i .i64 0), .d false (.i .i64 0), .d false (.i .i64 0), .d false (.i .i64 0), .d false (.i .i64 0), .d false (.i .i64 0)] := ⟨by obtain ⟨i, h1, h2⟩ := info_z Try.z44; exact ⟨i, _, h1, h2, rfl⟩⟩
instance : TyE Try.prog 44 [.i .i64 0, .i .i64 0, .i .i64 0, .i .i64 0, .i .i64 0, .i .i64 0] := ⟨by obtain ⟨i, h1, h2⟩ := info_z Try.z44; exact ⟨i, _, h1, h2, rfl⟩⟩
instance : TyB Try.prog 44 [(0, 2), (2, 1), (3, 1), (4, 2)] := ⟨_, Try.underlying44, fun w => by kernel_rfl⟩
instance : TyF Try.prog 44 0 0 40 := ⟨_, _, Try.underlying44, rfl, rfl, rfl, info_f (n := 2) (by kernel_rfl) (by decide)⟩
instance : TyF Try.prog 44 1 2 3 := ⟨_, _, Try.underlying44, rfl, rfl, rfl, info_f (n := 1) (by kernel_rfl) (by decide)⟩
instance : TyF Try.prog 44 2 3 3 := ⟨_, _, Try.underlying44, rfl, rfl, rfl, info_f (n := 1) (by kernel_rfl) (by decide)⟩
instance : TyF Try.prog 44 3 4 42 := ⟨_, _, Try.underlying44, rfl, rfl, rfl, info_f (n := 2) (by kernel_rfl) (by decide)⟩
-- 45: []impl.TempID
instance : TyN Try.prog 45 1 := ⟨info_n (by kernel_rfl)⟩
instance : TySc Try.prog 45 := ⟨fun w => by kernel_rfl, info_n (by kernel_rfl)⟩
theorem Try.z45 : (Try.prog.info? 45).map (·.zero) = some (some (.slice none 0 0)) := by kernel_rfl
instance : TyZ Try.prog 45 [.nil] := ⟨by obtain ⟨i, h1, h2⟩ := info_z Try.z45; exact ⟨i, _, h1, h2, rfl⟩⟩
instance : TyE Try.prog 45 [.l []] := ⟨by obtain ⟨i, h1, h2⟩ := info_z Try.z45; exact ⟨i, _, h1, h2, rfl⟩⟩
instance : TySl Try.prog 45 42 2 16 := ⟨Try.underlying45, info_s (z := .agg #[.int .i64 0, .int .i64 0]) (by kernel_rfl) rfl, by decide⟩
-- 48: []int
instance : TyN Try.prog 48 1 := ⟨info_n (by kernel_rfl)⟩
instance : TySc Try.prog 48 := ⟨fun w => by kernel_rfl, info_n (by kernel_rfl)⟩
theorem Try.z48 : (Try.prog.info? 48).map (·.zero) = some (some (.slice none 0 0)) := by kernel_rfl
instance : TyZ Try.prog 48 [.nil] := ⟨by obtain ⟨i, h1, h2⟩ := info_z Try.z48; exact ⟨i, _, h1, h2, rfl⟩⟩
instance : TyE Try.prog 48 [.l []] := ⟨by obtain ⟨i, h1, h2⟩ := info_z Try.z48; exact ⟨i, _, h1, h2, rfl⟩⟩
instance : TySl Try.prog 48 3 1 8 := ⟨Try.underlying48, info_s (z := .int .i64 0) (by kernel_rfl) rfl, by decide⟩
-- 50: impl.Subscription
instance : TyN Try.prog 50 4 := ⟨info_n (by kernel_rfl)⟩
instance : TyAg Try.prog 50 4 := ⟨fun w => by kernel_rfl, info_n (by kernel_rfl)⟩
theorem Try.z50 : (Try.prog.info? 50).map (·.zero) = some (some (.agg #[.int .i64 0, .int .i64 0, .int .i64 0, .slice none 0 0])) := by kernel_rfl
instance : TyZ Try.prog 50 [.d false (.i .i64 0), .d false (.i .i64 0), .d false (.i .i64 0), .nil] := ⟨by obtain ⟨i, h1, h2⟩ := info_z Try.z50; exact ⟨i, _, h1, h2, rfl⟩⟩
instance : TyE Try.prog 50 [.i .i64 0, .i .i64 0, .i .i64 0, .l []] := ⟨by obtain ⟨i, h1, h2⟩ := info_z Try.z50; exact ⟨i, _, h1, h2, rfl⟩⟩
instance : TyB Try.prog 50 [(0, 1), (1, 1), (2, 1), (3, 1)] := ⟨_, Try.underlying50, fun w => by kernel_rfl⟩
instance : TyF Try.prog 50 0 0 3 := ⟨_, _, Try.underlying50, rfl, rfl, rfl, info_f (n := 1) (by kernel_rfl) (by decide)⟩
instance : TyF Try.prog 50 1 1 3 := ⟨_, _, Try.underlying50, rfl, rfl, rfl, info_f (n := 1) (by kernel_rfl) (by decide)⟩
instance : TyF Try.prog 50 2 2 3 := ⟨_, _, Try.underlying50, rfl, rfl, rfl, info_f (n := 1) (by kernel_rfl) (by decide)⟩
instance : TyF Try.prog 50 3 3 48 := ⟨_, _, Try.underlying50, rfl, rfl, rfl, info_f (n := 1) (by kernel_rfl) (by decide)⟩
-- 51: []impl.RoamingAgreement
instance : TyN Try.prog 51 1 := ⟨info_n (by kernel_rfl)⟩
instance : TySc Try.prog 51 := ⟨fun w => by kernel_rfl, info_n (by kernel_rfl)⟩
theorem Try.z51 : (Try.prog.info? 51).map (·.zero) = some (some (.slice none 0 0)) := by kernel_rfl
instance : TyZ Try.prog 51 [.nil] := ⟨by obtain ⟨i, h1, h2⟩ := info_z Try.z51; exact ⟨i, _, h1, h2, rfl⟩⟩
instance : TyE Try.prog 51 [.l []] := ⟨by obtain ⟨i, h1, h2⟩ := info_z Try.z51; exact ⟨i, _, h1, h2, rfl⟩⟩
instance : TySl Try.prog 51 62 4 32 := ⟨Try.underlying51, info_s (z := .agg #[.int .i64 0, .int .i64 0, .int .i64 0, .int .i64 0]) (by kernel_rfl) rfl, by decide⟩
-- 62: impl.RoamingAgreement
instance : TyN Try.prog 62 4 := ⟨info_n (by kernel_rfl)⟩
instance : TyAg Try.prog 62 4 := ⟨fun w => by kernel_rfl, info_n (by kernel_rfl)⟩
theorem Try.z62 : (Try.prog.info? 62).map (·.zero) = some (some (.agg #[.int .i64 0, .int .i64 0, .int .i64 0, .int .i64 0])) := by kernel_rfl
instance : TyZ Try.prog 62 [.d false (.i .i64 0), .d false (.i .i64 0), .d false (.i .i64 0), .d false (.i .i64 0)] := ⟨by obtain ⟨i, h1, h2⟩ := info_z Try.z62; exact ⟨i, _, h1, h2, rfl⟩⟩
instance : TyE Try.prog 62 [.i .i64 0, .i .i64 0, .i .i64 0, .i .i64 0] := ⟨by obtain ⟨i, h1, h2⟩ := info_z Try.z62; exact ⟨i, _, h1, h2, rfl⟩⟩
instance : TyB Try.prog 62 [(0, 1), (1, 1), (2, 1), (3, 1)] := ⟨_, Try.underlying62, fun w => by kernel_rfl⟩
instance : TyF Try.prog 62 0 0 3 := ⟨_, _, Try.underlying62, rfl, rfl, rfl, info_f (n := 1) (by kernel_rfl) (by decide)⟩
instance : TyF Try.prog 62 1 1 3 := ⟨_, _, Try.underlying62, rfl, rfl, rfl, info_f (n := 1) (by kernel_rfl) (by decide)⟩
instance : TyF Try.prog 62 2 2 3 := ⟨_, _, Try.underlying62, rfl, rfl, rfl, info_f (n := 1) (by kernel_rfl) (by decide)⟩
instance : TyF Try.prog 62 3 3 3 := ⟨_, _, Try.underlying62, rfl, rfl, rfl, info_f (n := 1) (by kernel_rfl) (by decide)⟩
-- 63: []laws.LeakedKey
instance : TyN Try.prog 63 1 := ⟨info_n (by kernel_rfl)⟩
instance : TySc Try.prog 63 := ⟨fun w => by kernel_rfl, info_n (by kernel_rfl)⟩
theorem Try.z63 : (Try.prog.info? 63).map (·.zero) = some (some (.slice none 0 0)) := by kernel_rfl
instance : TyZ Try.prog 63 [.nil] := ⟨by obtain ⟨i, h1, h2⟩ := info_z Try.z63; exact ⟨i, _, h1, h2, rfl⟩⟩
instance : TyE Try.prog 63 [.l []] := ⟨by obtain ⟨i, h1, h2⟩ := info_z Try.z63; exact ⟨i, _, h1, h2, rfl⟩⟩
instance : TySl Try.prog 63 127 2 32 := ⟨Try.underlying63, info_s (z := .agg #[.int .i64 0, .slice none 0 0]) (by kernel_rfl) rfl, by decide⟩
-- 66: []impl.LeakedKey
instance : TyN Try.prog 66 1 := ⟨info_n (by kernel_rfl)⟩
instance : TySc Try.prog 66 := ⟨fun w => by kernel_rfl, info_n (by kernel_rfl)⟩
theorem Try.z66 : (Try.prog.info? 66).map (·.zero) = some (some (.slice none 0 0)) := by kernel_rfl
instance : TyZ Try.prog 66 [.nil] := ⟨by obtain ⟨i, h1, h2⟩ := info_z Try.z66; exact ⟨i, _, h1, h2, rfl⟩⟩
instance : TyE Try.prog 66 [.l []] := ⟨by obtain ⟨i, h1, h2⟩ := info_z Try.z66; exact ⟨i, _, h1, h2, rfl⟩⟩
instance : TySl Try.prog 66 132 2 32 := ⟨Try.underlying66, info_s (z := .agg #[.int .i64 0, .slice none 0 0]) (by kernel_rfl) rfl, by decide⟩
-- 77: impl.RoamingResult
instance : TyN Try.prog 77 5 := ⟨info_n (by kernel_rfl)⟩
instance : TyAg Try.prog 77 5 := ⟨fun w => by kernel_rfl, info_n (by kernel_rfl)⟩
theorem Try.z77 : (Try.prog.info? 77).map (·.zero) = some (some (.agg #[.int .i64 0, .slice none 0 0, .int .i64 0, .int .i64 0, .int .i64 0])) := by kernel_rfl
instance : TyZ Try.prog 77 [.d false (.i .i64 0), .nil, .d false (.i .i64 0), .d false (.i .i64 0), .d false (.i .i64 0)] := ⟨by obtain ⟨i, h1, h2⟩ := info_z Try.z77; exact ⟨i, _, h1, h2, rfl⟩⟩
instance : TyE Try.prog 77 [.i .i64 0, .l [], .i .i64 0, .i .i64 0, .i .i64 0] := ⟨by obtain ⟨i, h1, h2⟩ := info_z Try.z77; exact ⟨i, _, h1, h2, rfl⟩⟩
instance : TyB Try.prog 77 [(0, 1), (1, 1), (2, 1), (3, 2)] := ⟨_, Try.underlying77, fun w => by kernel_rfl⟩
instance : TyF Try.prog 77 0 0 3 := ⟨_, _, Try.underlying77, rfl, rfl, rfl, info_f (n := 1) (by kernel_rfl) (by decide)⟩
instance : TyF Try.prog 77 1 1 34 := ⟨_, _, Try.underlying77, rfl, rfl, rfl, info_f (n := 1) (by kernel_rfl) (by decide)⟩
instance : TyF Try.prog 77 2 2 3 := ⟨_, _, Try.underlying77, rfl, rfl, rfl, info_f (n := 1) (by kernel_rfl) (by decide)⟩
instance : TyF Try.prog 77 3 3 42 := ⟨_, _, Try.underlying77, rfl, rfl, rfl, info_f (n := 2) (by kernel_rfl) (by decide)⟩
-- 85: []laws.OperatorBook
instance : TyN Try.prog 85 1 := ⟨info_n (by kernel_rfl)⟩
instance : TySc Try.prog 85 := ⟨fun w => by kernel_rfl, info_n (by kernel_rfl)⟩
theorem Try.z85 : (Try.prog.info? 85).map (·.zero) = some (some (.slice none 0 0)) := by kernel_rfl
instance : TyZ Try.prog 85 [.nil] := ⟨by obtain ⟨i, h1, h2⟩ := info_z Try.z85; exact ⟨i, _, h1, h2, rfl⟩⟩
instance : TyE Try.prog 85 [.l []] := ⟨by obtain ⟨i, h1, h2⟩ := info_z Try.z85; exact ⟨i, _, h1, h2, rfl⟩⟩
instance : TySl Try.prog 85 146 3 56 := ⟨Try.underlying85, info_s (z := .agg #[.int .i64 0, .slice none 0 0, .slice none 0 0]) (by kernel_rfl) rfl, by decide⟩
-- 86: []laws.RoamingAgreement
instance : TyN Try.prog 86 1 := ⟨info_n (by kernel_rfl)⟩
instance : TySc Try.prog 86 := ⟨fun w => by kernel_rfl, info_n (by kernel_rfl)⟩
theorem Try.z86 : (Try.prog.info? 86).map (·.zero) = some (some (.slice none 0 0)) := by kernel_rfl
instance : TyZ Try.prog 86 [.nil] := ⟨by obtain ⟨i, h1, h2⟩ := info_z Try.z86; exact ⟨i, _, h1, h2, rfl⟩⟩
instance : TyE Try.prog 86 [.l []] := ⟨by obtain ⟨i, h1, h2⟩ := info_z Try.z86; exact ⟨i, _, h1, h2, rfl⟩⟩
instance : TySl Try.prog 86 154 4 32 := ⟨Try.underlying86, info_s (z := .agg #[.int .i64 0, .int .i64 0, .int .i64 0, .int .i64 0]) (by kernel_rfl) rfl, by decide⟩
-- 90: []impl.OperatorBook
instance : TyN Try.prog 90 1 := ⟨info_n (by kernel_rfl)⟩
instance : TySc Try.prog 90 := ⟨fun w => by kernel_rfl, info_n (by kernel_rfl)⟩
theorem Try.z90 : (Try.prog.info? 90).map (·.zero) = some (some (.slice none 0 0)) := by kernel_rfl
instance : TyZ Try.prog 90 [.nil] := ⟨by obtain ⟨i, h1, h2⟩ := info_z Try.z90; exact ⟨i, _, h1, h2, rfl⟩⟩
instance : TyE Try.prog 90 [.l []] := ⟨by obtain ⟨i, h1, h2⟩ := info_z Try.z90; exact ⟨i, _, h1, h2, rfl⟩⟩
instance : TySl Try.prog 90 150 3 56 := ⟨Try.underlying90, info_s (z := .agg #[.int .i64 0, .slice none 0 0, .slice none 0 0]) (by kernel_rfl) rfl, by decide⟩
-- 99: []laws.Registration
instance : TyN Try.prog 99 1 := ⟨info_n (by kernel_rfl)⟩
instance : TySc Try.prog 99 := ⟨fun w => by kernel_rfl, info_n (by kernel_rfl)⟩
theorem Try.z99 : (Try.prog.info? 99).map (·.zero) = some (some (.slice none 0 0)) := by kernel_rfl
instance : TyZ Try.prog 99 [.nil] := ⟨by obtain ⟨i, h1, h2⟩ := info_z Try.z99; exact ⟨i, _, h1, h2, rfl⟩⟩
instance : TyE Try.prog 99 [.l []] := ⟨by obtain ⟨i, h1, h2⟩ := info_z Try.z99; exact ⟨i, _, h1, h2, rfl⟩⟩
instance : TySl Try.prog 99 162 6 48 := ⟨Try.underlying99, info_s (z := .agg #[.int .i64 0, .int .i64 0, .int .i64 0, .int .i64 0, .int .i64 0, .int .i64 0]) (by kernel_rfl) rfl, by decide⟩
-- 100: laws.Subscription
instance : TyN Try.prog 100 4 := ⟨info_n (by kernel_rfl)⟩
instance : TyAg Try.prog 100 4 := ⟨fun w => by kernel_rfl, info_n (by kernel_rfl)⟩
theorem Try.z100 : (Try.prog.info? 100).map (·.zero) = some (some (.agg #[.int .i64 0, .int .i64 0, .int .i64 0, .slice none 0 0])) := by kernel_rfl
instance : TyZ Try.prog 100 [.d false (.i .i64 0), .d false (.i .i64 0), .d false (.i .i64 0), .nil] := ⟨by obtain ⟨i, h1, h2⟩ := info_z Try.z100; exact ⟨i, _, h1, h2, rfl⟩⟩
instance : TyE Try.prog 100 [.i .i64 0, .i .i64 0, .i .i64 0, .l []] := ⟨by obtain ⟨i, h1, h2⟩ := info_z Try.z100; exact ⟨i, _, h1, h2, rfl⟩⟩
instance : TyB Try.prog 100 [(0, 1), (1, 1), (2, 1), (3, 1)] := ⟨_, Try.underlying100, fun w => by kernel_rfl⟩
instance : TyF Try.prog 100 0 0 3 := ⟨_, _, Try.underlying100, rfl, rfl, rfl, info_f (n := 1) (by kernel_rfl) (by decide)⟩
instance : TyF Try.prog 100 1 1 3 := ⟨_, _, Try.underlying100, rfl, rfl, rfl, info_f (n := 1) (by kernel_rfl) (by decide)⟩
instance : TyF Try.prog 100 2 2 3 := ⟨_, _, Try.underlying100, rfl, rfl, rfl, info_f (n := 1) (by kernel_rfl) (by decide)⟩
instance : TyF Try.prog 100 3 3 48 := ⟨_, _, Try.underlying100, rfl, rfl, rfl, info_f (n := 1) (by kernel_rfl) (by decide)⟩
-- 101: laws.SubscriberID
instance : TyN Try.prog 101 2 := ⟨info_n (by kernel_rfl)⟩
instance : TyAg Try.prog 101 2 := ⟨fun w => by kernel_rfl, info_n (by kernel_rfl)⟩
theorem Try.z101 : (Try.prog.info? 101).map (·.zero) = some (some (.agg #[.int .i64 0, .int .i64 0])) := by kernel_rfl
instance : TyZ Try.prog 101 [.d false (.i .i64 0), .d false (.i .i64 0)] := ⟨by obtain ⟨i, h1, h2⟩ := info_z Try.z101; exact ⟨i, _, h1, h2, rfl⟩⟩
instance : TyE Try.prog 101 [.i .i64 0, .i .i64 0] := ⟨by obtain ⟨i, h1, h2⟩ := info_z Try.z101; exact ⟨i, _, h1, h2, rfl⟩⟩
instance : TyB Try.prog 101 [(0, 1), (1, 1)] := ⟨_, Try.underlying101, fun w => by kernel_rfl⟩
instance : TyF Try.prog 101 0 0 3 := ⟨_, _, Try.underlying101, rfl, rfl, rfl, info_f (n := 1) (by kernel_rfl) (by decide)⟩
instance : TyF Try.prog 101 1 1 3 := ⟨_, _, Try.underlying101, rfl, rfl, rfl, info_f (n := 1) (by kernel_rfl) (by decide)⟩
-- 125: laws.KeyPath
instance : TyN Try.prog 125 1 := ⟨info_n (by kernel_rfl)⟩
instance : TyAg Try.prog 125 1 := ⟨fun w => by kernel_rfl, info_n (by kernel_rfl)⟩
theorem Try.z125 : (Try.prog.info? 125).map (·.zero) = some (some (.agg #[.slice none 0 0])) := by kernel_rfl
instance : TyZ Try.prog 125 [.nil] := ⟨by obtain ⟨i, h1, h2⟩ := info_z Try.z125; exact ⟨i, _, h1, h2, rfl⟩⟩
instance : TyE Try.prog 125 [.l []] := ⟨by obtain ⟨i, h1, h2⟩ := info_z Try.z125; exact ⟨i, _, h1, h2, rfl⟩⟩
instance : TyB Try.prog 125 [(0, 1)] := ⟨_, Try.underlying125, fun w => by kernel_rfl⟩
instance : TyF Try.prog 125 0 0 48 := ⟨_, _, Try.underlying125, rfl, rfl, rfl, info_f (n := 1) (by kernel_rfl) (by decide)⟩
-- 127: laws.LeakedKey
instance : TyN Try.prog 127 2 := ⟨info_n (by kernel_rfl)⟩
instance : TyAg Try.prog 127 2 := ⟨fun w => by kernel_rfl, info_n (by kernel_rfl)⟩
theorem Try.z127 : (Try.prog.info? 127).map (·.zero) = some (some (.agg #[.int .i64 0, .slice none 0 0])) := by kernel_rfl
instance : TyZ Try.prog 127 [.d false (.i .i64 0), .nil] := ⟨by obtain ⟨i, h1, h2⟩ := info_z Try.z127; exact ⟨i, _, h1, h2, rfl⟩⟩
instance : TyE Try.prog 127 [.i .i64 0, .l []] := ⟨by obtain ⟨i, h1, h2⟩ := info_z Try.z127; exact ⟨i, _, h1, h2, rfl⟩⟩
instance : TyB Try.prog 127 [(0, 1), (1, 1)] := ⟨_, Try.underlying127, fun w => by kernel_rfl⟩
instance : TyF Try.prog 127 0 0 3 := ⟨_, _, Try.underlying127, rfl, rfl, rfl, info_f (n := 1) (by kernel_rfl) (by decide)⟩
instance : TyF Try.prog 127 1 1 125 := ⟨_, _, Try.underlying127, rfl, rfl, rfl, info_f (n := 1) (by kernel_rfl) (by decide)⟩
-- 129: impl.KeyPath
instance : TyN Try.prog 129 1 := ⟨info_n (by kernel_rfl)⟩
instance : TyAg Try.prog 129 1 := ⟨fun w => by kernel_rfl, info_n (by kernel_rfl)⟩
theorem Try.z129 : (Try.prog.info? 129).map (·.zero) = some (some (.agg #[.slice none 0 0])) := by kernel_rfl
instance : TyZ Try.prog 129 [.nil] := ⟨by obtain ⟨i, h1, h2⟩ := info_z Try.z129; exact ⟨i, _, h1, h2, rfl⟩⟩
instance : TyE Try.prog 129 [.l []] := ⟨by obtain ⟨i, h1, h2⟩ := info_z Try.z129; exact ⟨i, _, h1, h2, rfl⟩⟩
instance : TyB Try.prog 129 [(0, 1)] := ⟨_, Try.underlying129, fun w => by kernel_rfl⟩
instance : TyF Try.prog 129 0 0 48 := ⟨_, _, Try.underlying129, rfl, rfl, rfl, info_f (n := 1) (by kernel_rfl) (by decide)⟩
-- 132: impl.LeakedKey
instance : TyN Try.prog 132 2 := ⟨info_n (by kernel_rfl)⟩
instance : TyAg Try.prog 132 2 := ⟨fun w => by kernel_rfl, info_n (by kernel_rfl)⟩
theorem Try.z132 : (Try.prog.info? 132).map (·.zero) = some (some (.agg #[.int .i64 0, .slice none 0 0])) := by kernel_rfl
instance : TyZ Try.prog 132 [.d false (.i .i64 0), .nil] := ⟨by obtain ⟨i, h1, h2⟩ := info_z Try.z132; exact ⟨i, _, h1, h2, rfl⟩⟩
instance : TyE Try.prog 132 [.i .i64 0, .l []] := ⟨by obtain ⟨i, h1, h2⟩ := info_z Try.z132; exact ⟨i, _, h1, h2, rfl⟩⟩
instance : TyB Try.prog 132 [(0, 1), (1, 1)] := ⟨_, Try.underlying132, fun w => by kernel_rfl⟩
instance : TyF Try.prog 132 0 0 3 := ⟨_, _, Try.underlying132, rfl, rfl, rfl, info_f (n := 1) (by kernel_rfl) (by decide)⟩
instance : TyF Try.prog 132 1 1 129 := ⟨_, _, Try.underlying132, rfl, rfl, rfl, info_f (n := 1) (by kernel_rfl) (by decide)⟩
-- 144: []laws.UsageRecord
instance : TyN Try.prog 144 1 := ⟨info_n (by kernel_rfl)⟩
instance : TySc Try.prog 144 := ⟨fun w => by kernel_rfl, info_n (by kernel_rfl)⟩
theorem Try.z144 : (Try.prog.info? 144).map (·.zero) = some (some (.slice none 0 0)) := by kernel_rfl
instance : TyZ Try.prog 144 [.nil] := ⟨by obtain ⟨i, h1, h2⟩ := info_z Try.z144; exact ⟨i, _, h1, h2, rfl⟩⟩
instance : TyE Try.prog 144 [.l []] := ⟨by obtain ⟨i, h1, h2⟩ := info_z Try.z144; exact ⟨i, _, h1, h2, rfl⟩⟩
instance : TySl Try.prog 144 195 4 32 := ⟨Try.underlying144, info_s (z := .agg #[.int .i64 0, .int .i64 0, .int .i64 0, .int .i64 0]) (by kernel_rfl) rfl, by decide⟩
-- 146: laws.OperatorBook
instance : TyN Try.prog 146 3 := ⟨info_n (by kernel_rfl)⟩
instance : TyAg Try.prog 146 3 := ⟨fun w => by kernel_rfl, info_n (by kernel_rfl)⟩
theorem Try.z146 : (Try.prog.info? 146).map (·.zero) = some (some (.agg #[.int .i64 0, .slice none 0 0, .slice none 0 0])) := by kernel_rfl
instance : TyZ Try.prog 146 [.d false (.i .i64 0), .nil, .nil] := ⟨by obtain ⟨i, h1, h2⟩ := info_z Try.z146; exact ⟨i, _, h1, h2, rfl⟩⟩
instance : TyE Try.prog 146 [.i .i64 0, .l [], .l []] := ⟨by obtain ⟨i, h1, h2⟩ := info_z Try.z146; exact ⟨i, _, h1, h2, rfl⟩⟩
instance : TyB Try.prog 146 [(0, 1), (1, 1), (2, 1)] := ⟨_, Try.underlying146, fun w => by kernel_rfl⟩
instance : TyF Try.prog 146 0 0 3 := ⟨_, _, Try.underlying146, rfl, rfl, rfl, info_f (n := 1) (by kernel_rfl) (by decide)⟩
instance : TyF Try.prog 146 1 1 144 := ⟨_, _, Try.underlying146, rfl, rfl, rfl, info_f (n := 1) (by kernel_rfl) (by decide)⟩
instance : TyF Try.prog 146 2 2 144 := ⟨_, _, Try.underlying146, rfl, rfl, rfl, info_f (n := 1) (by kernel_rfl) (by decide)⟩
-- 148: []impl.UsageRecord
instance : TyN Try.prog 148 1 := ⟨info_n (by kernel_rfl)⟩
instance : TySc Try.prog 148 := ⟨fun w => by kernel_rfl, info_n (by kernel_rfl)⟩
theorem Try.z148 : (Try.prog.info? 148).map (·.zero) = some (some (.slice none 0 0)) := by kernel_rfl
instance : TyZ Try.prog 148 [.nil] := ⟨by obtain ⟨i, h1, h2⟩ := info_z Try.z148; exact ⟨i, _, h1, h2, rfl⟩⟩
instance : TyE Try.prog 148 [.l []] := ⟨by obtain ⟨i, h1, h2⟩ := info_z Try.z148; exact ⟨i, _, h1, h2, rfl⟩⟩
instance : TySl Try.prog 148 183 4 32 := ⟨Try.underlying148, info_s (z := .agg #[.int .i64 0, .int .i64 0, .int .i64 0, .int .i64 0]) (by kernel_rfl) rfl, by decide⟩
-- 150: impl.OperatorBook
instance : TyN Try.prog 150 3 := ⟨info_n (by kernel_rfl)⟩
instance : TyAg Try.prog 150 3 := ⟨fun w => by kernel_rfl, info_n (by kernel_rfl)⟩
theorem Try.z150 : (Try.prog.info? 150).map (·.zero) = some (some (.agg #[.int .i64 0, .slice none 0 0, .slice none 0 0])) := by kernel_rfl
instance : TyZ Try.prog 150 [.d false (.i .i64 0), .nil, .nil] := ⟨by obtain ⟨i, h1, h2⟩ := info_z Try.z150; exact ⟨i, _, h1, h2, rfl⟩⟩
instance : TyE Try.prog 150 [.i .i64 0, .l [], .l []] := ⟨by obtain ⟨i, h1, h2⟩ := info_z Try.z150; exact ⟨i, _, h1, h2, rfl⟩⟩
instance : TyB Try.prog 150 [(0, 1), (1, 1), (2, 1)] := ⟨_, Try.underlying150, fun w => by kernel_rfl⟩
instance : TyF Try.prog 150 0 0 3 := ⟨_, _, Try.underlying150, rfl, rfl, rfl, info_f (n := 1) (by kernel_rfl) (by decide)⟩
instance : TyF Try.prog 150 1 1 148 := ⟨_, _, Try.underlying150, rfl, rfl, rfl, info_f (n := 1) (by kernel_rfl) (by decide)⟩
instance : TyF Try.prog 150 2 2 148 := ⟨_, _, Try.underlying150, rfl, rfl, rfl, info_f (n := 1) (by kernel_rfl) (by decide)⟩
-- 154: laws.RoamingAgreement
instance : TyN Try.prog 154 4 := ⟨info_n (by kernel_rfl)⟩
instance : TyAg Try.prog 154 4 := ⟨fun w => by kernel_rfl, info_n (by kernel_rfl)⟩
theorem Try.z154 : (Try.prog.info? 154).map (·.zero) = some (some (.agg #[.int .i64 0, .int .i64 0, .int .i64 0, .int .i64 0])) := by kernel_rfl
instance : TyZ Try.prog 154 [.d false (.i .i64 0), .d false (.i .i64 0), .d false (.i .i64 0), .d false (.i .i64 0)] := ⟨by obtain ⟨i, h1, h2⟩ := info_z Try.z154; exact ⟨i, _, h1, h2, rfl⟩⟩
instance : TyE Try.prog 154 [.i .i64 0, .i .i64 0, .i .i64 0, .i .i64 0] := ⟨by obtain ⟨i, h1, h2⟩ := info_z Try.z154; exact ⟨i, _, h1, h2, rfl⟩⟩
instance : TyB Try.prog 154 [(0, 1), (1, 1), (2, 1), (3, 1)] := ⟨_, Try.underlying154, fun w => by kernel_rfl⟩
instance : TyF Try.prog 154 0 0 3 := ⟨_, _, Try.underlying154, rfl, rfl, rfl, info_f (n := 1) (by kernel_rfl) (by decide)⟩
instance : TyF Try.prog 154 1 1 3 := ⟨_, _, Try.underlying154, rfl, rfl, rfl, info_f (n := 1) (by kernel_rfl) (by decide)⟩
instance : TyF Try.prog 154 2 2 3 := ⟨_, _, Try.underlying154, rfl, rfl, rfl, info_f (n := 1) (by kernel_rfl) (by decide)⟩
instance : TyF Try.prog 154 3 3 3 := ⟨_, _, Try.underlying154, rfl, rfl, rfl, info_f (n := 1) (by kernel_rfl) (by decide)⟩
-- 160: laws.TempID
instance : TyN Try.prog 160 2 := ⟨info_n (by kernel_rfl)⟩
instance : TyAg Try.prog 160 2 := ⟨fun w => by kernel_rfl, info_n (by kernel_rfl)⟩
theorem Try.z160 : (Try.prog.info? 160).map (·.zero) = some (some (.agg #[.int .i64 0, .int .i64 0])) := by kernel_rfl
instance : TyZ Try.prog 160 [.d false (.i .i64 0), .d false (.i .i64 0)] := ⟨by obtain ⟨i, h1, h2⟩ := info_z Try.z160; exact ⟨i, _, h1, h2, rfl⟩⟩
instance : TyE Try.prog 160 [.i .i64 0, .i .i64 0] := ⟨by obtain ⟨i, h1, h2⟩ := info_z Try.z160; exact ⟨i, _, h1, h2, rfl⟩⟩
instance : TyB Try.prog 160 [(0, 1), (1, 1)] := ⟨_, Try.underlying160, fun w => by kernel_rfl⟩
instance : TyF Try.prog 160 0 0 3 := ⟨_, _, Try.underlying160, rfl, rfl, rfl, info_f (n := 1) (by kernel_rfl) (by decide)⟩
instance : TyF Try.prog 160 1 1 3 := ⟨_, _, Try.underlying160, rfl, rfl, rfl, info_f (n := 1) (by kernel_rfl) (by decide)⟩
-- 162: laws.Registration
instance : TyN Try.prog 162 6 := ⟨info_n (by kernel_rfl)⟩
instance : TyAg Try.prog 162 6 := ⟨fun w => by kernel_rfl, info_n (by kernel_rfl)⟩
theorem Try.z162 : (Try.prog.info? 162).map (·.zero) = some (some (.agg #[.int .i64 0, .int .i64 0, .int .i64 0, .int .i64 0, .int .i64 0, .int .i64 0])) := by kernel_rfl
instance : TyZ Try.prog 162 [.d false (.i .i64 0), .d false (.i .i64 0), .d false (.i .i64 0), .d false (.i .i64 0), .d false (.i .i64 0), .d false (.i .i64 0)] := ⟨by obtain ⟨i, h1, h2⟩ := info_z Try.z162; exact ⟨i, _, h1, h2, rfl⟩⟩
instance : TyE Try.prog 162 [.i .i64 0, .i .i64 0, .i .i64 0, .i .i64 0, .i .i64 0, .i .i64 0] := ⟨by obtain ⟨i, h1, h2⟩ := info_z Try.z162; exact ⟨i, _, h1, h2, rfl⟩⟩
instance : TyB Try.prog 162 [(0, 2), (2, 1), (3, 1), (4, 2)] := ⟨_, Try.underlying162, fun w => by kernel_rfl⟩
instance : TyF Try.prog 162 0 0 101 := ⟨_, _, Try.underlying162, rfl, rfl, rfl, info_f (n := 2) (by kernel_rfl) (by decide)⟩
instance : TyF Try.prog 162 1 2 3 := ⟨_, _, Try.underlying162, rfl, rfl, rfl, info_f (n := 1) (by kernel_rfl) (by decide)⟩
instance : TyF Try.prog 162 2 3 3 := ⟨_, _, Try.underlying162, rfl, rfl, rfl, info_f (n := 1) (by kernel_rfl) (by decide)⟩
instance : TyF Try.prog 162 3 4 160 := ⟨_, _, Try.underlying162, rfl, rfl, rfl, info_f (n := 2) (by kernel_rfl) (by decide)⟩
-- 168: spec.l1Cur
instance : TyN Try.prog 168 3 := ⟨info_n (by kernel_rfl)⟩
instance : TyAg Try.prog 168 3 := ⟨fun w => by kernel_rfl, info_n (by kernel_rfl)⟩
theorem Try.z168 : (Try.prog.info? 168).map (·.zero) = some (some (.agg #[.slice none 0 0, .int .i64 0, .int .i64 0])) := by kernel_rfl
instance : TyZ Try.prog 168 [.nil, .d false (.i .i64 0), .d false (.i .i64 0)] := ⟨by obtain ⟨i, h1, h2⟩ := info_z Try.z168; exact ⟨i, _, h1, h2, rfl⟩⟩
instance : TyE Try.prog 168 [.l [], .i .i64 0, .i .i64 0] := ⟨by obtain ⟨i, h1, h2⟩ := info_z Try.z168; exact ⟨i, _, h1, h2, rfl⟩⟩
instance : TyB Try.prog 168 [(0, 1), (1, 1), (2, 1)] := ⟨_, Try.underlying168, fun w => by kernel_rfl⟩
instance : TyF Try.prog 168 0 0 22 := ⟨_, _, Try.underlying168, rfl, rfl, rfl, info_f (n := 1) (by kernel_rfl) (by decide)⟩
instance : TyF Try.prog 168 1 1 3 := ⟨_, _, Try.underlying168, rfl, rfl, rfl, info_f (n := 1) (by kernel_rfl) (by decide)⟩
instance : TyF Try.prog 168 2 2 3 := ⟨_, _, Try.underlying168, rfl, rfl, rfl, info_f (n := 1) (by kernel_rfl) (by decide)⟩
-- 183: impl.UsageRecord
instance : TyN Try.prog 183 4 := ⟨info_n (by kernel_rfl)⟩
instance : TyAg Try.prog 183 4 := ⟨fun w => by kernel_rfl, info_n (by kernel_rfl)⟩
theorem Try.z183 : (Try.prog.info? 183).map (·.zero) = some (some (.agg #[.int .i64 0, .int .i64 0, .int .i64 0, .int .i64 0])) := by kernel_rfl
instance : TyZ Try.prog 183 [.d false (.i .i64 0), .d false (.i .i64 0), .d false (.i .i64 0), .d false (.i .i64 0)] := ⟨by obtain ⟨i, h1, h2⟩ := info_z Try.z183; exact ⟨i, _, h1, h2, rfl⟩⟩
instance : TyE Try.prog 183 [.i .i64 0, .i .i64 0, .i .i64 0, .i .i64 0] := ⟨by obtain ⟨i, h1, h2⟩ := info_z Try.z183; exact ⟨i, _, h1, h2, rfl⟩⟩
instance : TyB Try.prog 183 [(0, 1), (1, 1), (2, 1), (3, 1)] := ⟨_, Try.underlying183, fun w => by kernel_rfl⟩
instance : TyF Try.prog 183 0 0 3 := ⟨_, _, Try.underlying183, rfl, rfl, rfl, info_f (n := 1) (by kernel_rfl) (by decide)⟩
instance : TyF Try.prog 183 1 1 3 := ⟨_, _, Try.underlying183, rfl, rfl, rfl, info_f (n := 1) (by kernel_rfl) (by decide)⟩
instance : TyF Try.prog 183 2 2 3 := ⟨_, _, Try.underlying183, rfl, rfl, rfl, info_f (n := 1) (by kernel_rfl) (by decide)⟩
instance : TyF Try.prog 183 3 3 3 := ⟨_, _, Try.underlying183, rfl, rfl, rfl, info_f (n := 1) (by kernel_rfl) (by decide)⟩
-- 195: laws.UsageRecord
instance : TyN Try.prog 195 4 := ⟨info_n (by kernel_rfl)⟩
instance : TyAg Try.prog 195 4 := ⟨fun w => by kernel_rfl, info_n (by kernel_rfl)⟩
theorem Try.z195 : (Try.prog.info? 195).map (·.zero) = some (some (.agg #[.int .i64 0, .int .i64 0, .int .i64 0, .int .i64 0])) := by kernel_rfl
instance : TyZ Try.prog 195 [.d false (.i .i64 0), .d false (.i .i64 0), .d false (.i .i64 0), .d false (.i .i64 0)] := ⟨by obtain ⟨i, h1, h2⟩ := info_z Try.z195; exact ⟨i, _, h1, h2, rfl⟩⟩
instance : TyE Try.prog 195 [.i .i64 0, .i .i64 0, .i .i64 0, .i .i64 0] := ⟨by obtain ⟨i, h1, h2⟩ := info_z Try.z195; exact ⟨i, _, h1, h2, rfl⟩⟩
instance : TyB Try.prog 195 [(0, 1), (1, 1), (2, 1), (3, 1)] := ⟨_, Try.underlying195, fun w => by kernel_rfl⟩
instance : TyF Try.prog 195 0 0 3 := ⟨_, _, Try.underlying195, rfl, rfl, rfl, info_f (n := 1) (by kernel_rfl) (by decide)⟩
instance : TyF Try.prog 195 1 1 3 := ⟨_, _, Try.underlying195, rfl, rfl, rfl, info_f (n := 1) (by kernel_rfl) (by decide)⟩
instance : TyF Try.prog 195 2 2 3 := ⟨_, _, Try.underlying195, rfl, rfl, rfl, info_f (n := 1) (by kernel_rfl) (by decide)⟩
instance : TyF Try.prog 195 3 3 3 := ⟨_, _, Try.underlying195, rfl, rfl, rfl, info_f (n := 1) (by kernel_rfl) (by decide)⟩
theorem Try.sh3 : HasSh Try.prog 3 [.i .i64] := .int Try.underlying3
theorem Try.sh4 : HasSh Try.prog 4 [.b] := .bool Try.underlying4
theorem Try.sh5 : HasSh Try.prog 5 [.i .u8] := .int Try.underlying5
theorem Try.sh9 : HasSh Try.prog 9 [.str] := .string Try.underlying9
theorem Try.sh22 : HasSh Try.prog 22 [.l [.i .u8]] := .slice Try.underlying22 Try.sh5 (by kernel_rfl) (by decide)
theorem Try.sh30 : HasSh Try.prog 30 [.i .i64, .i .i64, .i .i64] := .struct (ss := [.i .i64, .i .i64, .i .i64]) Try.underlying30 (HasFs.cons (s1 := [.i .i64]) (s2 := [.i .i64, .i .i64]) rfl Try.sh3 (by kernel_rfl) (HasFs.cons (s1 := [.i .i64]) (s2 := [.i .i64]) rfl Try.sh3 (by kernel_rfl) (HasFs.cons (s1 := [.i .i64]) (s2 := []) rfl Try.sh3 (by kernel_rfl) (HasFs.nil)))) (by kernel_rfl)
theorem Try.sh27 : HasSh Try.prog 27 [.l [.i .i64, .i .i64, .i .i64]] := .slice Try.underlying27 Try.sh30 (by kernel_rfl) (by decide)
theorem Try.sh40 : HasSh Try.prog 40 [.i .i64, .i .i64] := .struct (ss := [.i .i64, .i .i64]) Try.underlying40 (HasFs.cons (s1 := [.i .i64]) (s2 := [.i .i64]) rfl Try.sh3 (by kernel_rfl) (HasFs.cons (s1 := [.i .i64]) (s2 := []) rfl Try.sh3 (by kernel_rfl) (HasFs.nil))) (by kernel_rfl)
theorem Try.sh42 : HasSh Try.prog 42 [.i .i64, .i .i64] := .struct (ss := [.i .i64, .i .i64]) Try.underlying42 (HasFs.cons (s1 := [.i .i64]) (s2 := [.i .i64]) rfl Try.sh3 (by kernel_rfl) (HasFs.cons (s1 := [.i .i64]) (s2 := []) rfl Try.sh3 (by kernel_rfl) (HasFs.nil))) (by kernel_rfl)
theorem Try.sh44 : HasSh Try.prog 44 [.i .i64, .i .i64, .i .i64, .i .i64, .i .i64, .i .i64] := .struct (ss := [.i .i64, .i .i64, .i .i64, .i .i64, .i .i64, .i .i64]) Try.underlying44 (HasFs.cons (s1 := [.i .i64, .i .i64]) (s2 := [.i .i64, .i .i64, .i .i64, .i .i64]) rfl Try.sh40 (by kernel_rfl) (HasFs.cons (s1 := [.i .i64]) (s2 := [.i .i64, .i .i64, .i .i64]) rfl Try.sh3 (by kernel_rfl) (HasFs.cons (s1 := [.i .i64]) (s2 := [.i .i64, .i .i64]) rfl Try.sh3 (by kernel_rfl) (HasFs.cons (s1 := [.i .i64, .i .i64]) (s2 := []) rfl Try.sh42 (by kernel_rfl) (HasFs.nil))))) (by kernel_rfl)
theorem Try.sh34 : HasSh Try.prog 34 [.l [.i .i64, .i .i64, .i .i64, .i .i64, .i .i64, .i .i64]] := .slice Try.underlying34 Try.sh44 (by kernel_rfl) (by decide)
theorem Try.sh36 : HasSh Try.prog 36 [.l [.i .i64, .i .i64]] := .slice Try.underlying36 Try.sh40 (by kernel_rfl) (by decide)
theorem Try.sh45 : HasSh Try.prog 45 [.l [.i .i64, .i .i64]] := .slice Try.underlying45 Try.sh42 (by kernel_rfl) (by decide)
theorem Try.sh48 : HasSh Try.prog 48 [.l [.i .i64]] := .slice Try.underlying48 Try.sh3 (by kernel_rfl) (by decide)
theorem Try.sh50 : HasSh Try.prog 50 [.i .i64, .i .i64, .i .i64, .l [.i .i64]] := .struct (ss := [.i .i64, .i .i64, .i .i64, .l [.i .i64]]) Try.underlying50 (HasFs.cons (s1 := [.i .i64]) (s2 := [.i .i64, .i .i64, .l [.i .i64]]) rfl Try.sh3 (by kernel_rfl) (HasFs.cons (s1 := [.i .i64]) (s2 := [.i .i64, .l [.i .i64]]) rfl Try.sh3 (by kernel_rfl) (HasFs.cons (s1 := [.i .i64]) (s2 := [.l [.i .i64]]) rfl Try.sh3 (by kernel_rfl) (HasFs.cons (s1 := [.l [.i .i64]]) (s2 := []) rfl Try.sh48 (by kernel_rfl) (HasFs.nil))))) (by kernel_rfl)
theorem Try.sh62 : HasSh Try.prog 62 [.i .i64, .i .i64, .i .i64, .i .i64] := .struct (ss := [.i .i64, .i .i64, .i .i64, .i .i64]) Try.underlying62 (HasFs.cons (s1 := [.i .i64]) (s2 := [.i .i64, .i .i64, .i .i64]) rfl Try.sh3 (by kernel_rfl) (HasFs.cons (s1 := [.i .i64]) (s2 := [.i .i64, .i .i64]) rfl Try.sh3 (by kernel_rfl) (HasFs.cons (s1 := [.i .i64]) (s2 := [.i .i64]) rfl Try.sh3 (by kernel_rfl) (HasFs.cons (s1 := [.i .i64]) (s2 := []) rfl Try.sh3 (by kernel_rfl) (HasFs.nil))))) (by kernel_rfl)
theorem Try.sh51 : HasSh Try.prog 51 [.l [.i .i64, .i .i64, .i .i64, .i .i64]] := .slice Try.underlying51 Try.sh62 (by kernel_rfl) (by decide)
theorem Try.sh125 : HasSh Try.prog 125 [.l [.i .i64]] := .struct (ss := [.l [.i .i64]]) Try.underlying125 (HasFs.cons (s1 := [.l [.i .i64]]) (s2 := []) rfl Try.sh48 (by kernel_rfl) (HasFs.nil)) (by kernel_rfl)
theorem Try.sh127 : HasSh Try.prog 127 [.i .i64, .l [.i .i64]] := .struct (ss := [.i .i64, .l [.i .i64]]) Try.underlying127 (HasFs.cons (s1 := [.i .i64]) (s2 := [.l [.i .i64]]) rfl Try.sh3 (by kernel_rfl) (HasFs.cons (s1 := [.l [.i .i64]]) (s2 := []) rfl Try.sh125 (by kernel_rfl) (HasFs.nil))) (by kernel_rfl)
theorem Try.sh63 : HasSh Try.prog 63 [.l [.i .i64, .l [.i .i64]]] := .slice Try.underlying63 Try.sh127 (by kernel_rfl) (by decide)
theorem Try.sh129 : HasSh Try.prog 129 [.l [.i .i64]] := .struct (ss := [.l [.i .i64]]) Try.underlying129 (HasFs.cons (s1 := [.l [.i .i64]]) (s2 := []) rfl Try.sh48 (by kernel_rfl) (HasFs.nil)) (by kernel_rfl)
theorem Try.sh132 : HasSh Try.prog 132 [.i .i64, .l [.i .i64]] := .struct (ss := [.i .i64, .l [.i .i64]]) Try.underlying132 (HasFs.cons (s1 := [.i .i64]) (s2 := [.l [.i .i64]]) rfl Try.sh3 (by kernel_rfl) (HasFs.cons (s1 := [.l [.i .i64]]) (s2 := []) rfl Try.sh129 (by kernel_rfl) (HasFs.nil))) (by kernel_rfl)
theorem Try.sh66 : HasSh Try.prog 66 [.l [.i .i64, .l [.i .i64]]] := .slice Try.underlying66 Try.sh132 (by kernel_rfl) (by decide)
theorem Try.sh77 : HasSh Try.prog 77 [.i .i64, .l [.i .i64, .i .i64, .i .i64, .i .i64, .i .i64, .i .i64], .i .i64, .i .i64, .i .i64] := .struct (ss := [.i .i64, .l [.i .i64, .i .i64, .i .i64, .i .i64, .i .i64, .i .i64], .i .i64, .i .i64, .i .i64]) Try.underlying77 (HasFs.cons (s1 := [.i .i64]) (s2 := [.l [.i .i64, .i .i64, .i .i64, .i .i64, .i .i64, .i .i64], .i .i64, .i .i64, .i .i64]) rfl Try.sh3 (by kernel_rfl) (HasFs.cons (s1 := [.l [.i .i64, .i .i64, .i .i64, .i .i64, .i .i64, .i .i64]]) (s2 := [.i .i64, .i .i64, .i .i64]) rfl Try.sh34 (by kernel_rfl) (HasFs.cons (s1 := [.i .i64]) (s2 := [.i .i64, .i .i64]) rfl Try.sh3 (by kernel_rfl) (HasFs.cons (s1 := [.i .i64, .i .i64]) (s2 := []) rfl Try.sh42 (by kernel_rfl) (HasFs.nil))))) (by kernel_rfl)
theorem Try.sh195 : HasSh Try.prog 195 [.i .i64, .i .i64, .i .i64, .i .i64] := .struct (ss := [.i .i64, .i .i64, .i .i64, .i .i64]) Try.underlying195 (HasFs.cons (s1 := [.i .i64]) (s2 := [.i .i64, .i .i64, .i .i64]) rfl Try.sh3 (by kernel_rfl) (HasFs.cons (s1 := [.i .i64]) (s2 := [.i .i64, .i .i64]) rfl Try.sh3 (by kernel_rfl) (HasFs.cons (s1 := [.i .i64]) (s2 := [.i .i64]) rfl Try.sh3 (by kernel_rfl) (HasFs.cons (s1 := [.i .i64]) (s2 := []) rfl Try.sh3 (by kernel_rfl) (HasFs.nil))))) (by kernel_rfl)
theorem Try.sh144 : HasSh Try.prog 144 [.l [.i .i64, .i .i64, .i .i64, .i .i64]] := .slice Try.underlying144 Try.sh195 (by kernel_rfl) (by decide)
theorem Try.sh146 : HasSh Try.prog 146 [.i .i64, .l [.i .i64, .i .i64, .i .i64, .i .i64], .l [.i .i64, .i .i64, .i .i64, .i .i64]] := .struct (ss := [.i .i64, .l [.i .i64, .i .i64, .i .i64, .i .i64], .l [.i .i64, .i .i64, .i .i64, .i .i64]]) Try.underlying146 (HasFs.cons (s1 := [.i .i64]) (s2 := [.l [.i .i64, .i .i64, .i .i64, .i .i64], .l [.i .i64, .i .i64, .i .i64, .i .i64]]) rfl Try.sh3 (by kernel_rfl) (HasFs.cons (s1 := [.l [.i .i64, .i .i64, .i .i64, .i .i64]]) (s2 := [.l [.i .i64, .i .i64, .i .i64, .i .i64]]) rfl Try.sh144 (by kernel_rfl) (HasFs.cons (s1 := [.l [.i .i64, .i .i64, .i .i64, .i .i64]]) (s2 := []) rfl Try.sh144 (by kernel_rfl) (HasFs.nil)))) (by kernel_rfl)
theorem Try.sh85 : HasSh Try.prog 85 [.l [.i .i64, .l [.i .i64, .i .i64, .i .i64, .i .i64], .l [.i .i64, .i .i64, .i .i64, .i .i64]]] := .slice Try.underlying85 Try.sh146 (by kernel_rfl) (by decide)
theorem Try.sh154 : HasSh Try.prog 154 [.i .i64, .i .i64, .i .i64, .i .i64] := .struct (ss := [.i .i64, .i .i64, .i .i64, .i .i64]) Try.underlying154 (HasFs.cons (s1 := [.i .i64]) (s2 := [.i .i64, .i .i64, .i .i64]) rfl Try.sh3 (by kernel_rfl) (HasFs.cons (s1 := [.i .i64]) (s2 := [.i .i64, .i .i64]) rfl Try.sh3 (by kernel_rfl) (HasFs.cons (s1 := [.i .i64]) (s2 := [.i .i64]) rfl Try.sh3 (by kernel_rfl) (HasFs.cons (s1 := [.i .i64]) (s2 := []) rfl Try.sh3 (by kernel_rfl) (HasFs.nil))))) (by kernel_rfl)
theorem Try.sh86 : HasSh Try.prog 86 [.l [.i .i64, .i .i64, .i .i64, .i .i64]] := .slice Try.underlying86 Try.sh154 (by kernel_rfl) (by decide)
theorem Try.sh183 : HasSh Try.prog 183 [.i .i64, .i .i64, .i .i64, .i .i64] := .struct (ss := [.i .i64, .i .i64, .i .i64, .i .i64]) Try.underlying183 (HasFs.cons (s1 := [.i .i64]) (s2 := [.i .i64, .i .i64, .i .i64]) rfl Try.sh3 (by kernel_rfl) (HasFs.cons (s1 := [.i .i64]) (s2 := [.i .i64, .i .i64]) rfl Try.sh3 (by kernel_rfl) (HasFs.cons (s1 := [.i .i64]) (s2 := [.i .i64]) rfl Try.sh3 (by kernel_rfl) (HasFs.cons (s1 := [.i .i64]) (s2 := []) rfl Try.sh3 (by kernel_rfl) (HasFs.nil))))) (by kernel_rfl)
theorem Try.sh148 : HasSh Try.prog 148 [.l [.i .i64, .i .i64, .i .i64, .i .i64]] := .slice Try.underlying148 Try.sh183 (by kernel_rfl) (by decide)
theorem Try.sh150 : HasSh Try.prog 150 [.i .i64, .l [.i .i64, .i .i64, .i .i64, .i .i64], .l [.i .i64, .i .i64, .i .i64, .i .i64]] := .struct (ss := [.i .i64, .l [.i .i64, .i .i64, .i .i64, .i .i64], .l [.i .i64, .i .i64, .i .i64, .i .i64]]) Try.underlying150 (HasFs.cons (s1 := [.i .i64]) (s2 := [.l [.i .i64, .i .i64, .i .i64, .i .i64], .l [.i .i64, .i .i64, .i .i64, .i .i64]]) rfl Try.sh3 (by kernel_rfl) (HasFs.cons (s1 := [.l [.i .i64, .i .i64, .i .i64, .i .i64]]) (s2 := [.l [.i .i64, .i .i64, .i .i64, .i .i64]]) rfl Try.sh148 (by kernel_rfl) (HasFs.cons (s1 := [.l [.i .i64, .i .i64, .i .i64, .i .i64]]) (s2 := []) rfl Try.sh148 (by kernel_rfl) (HasFs.nil)))) (by kernel_rfl)
theorem Try.sh90 : HasSh Try.prog 90 [.l [.i .i64, .l [.i .i64, .i .i64, .i .i64, .i .i64], .l [.i .i64, .i .i64, .i .i64, .i .i64]]] := .slice Try.underlying90 Try.sh150 (by kernel_rfl) (by decide)
theorem Try.sh101 : HasSh Try.prog 101 [.i .i64, .i .i64] := .struct (ss := [.i .i64, .i .i64]) Try.underlying101 (HasFs.cons (s1 := [.i .i64]) (s2 := [.i .i64]) rfl Try.sh3 (by kernel_rfl) (HasFs.cons (s1 := [.i .i64]) (s2 := []) rfl Try.sh3 (by kernel_rfl) (HasFs.nil))) (by kernel_rfl)
theorem Try.sh160 : HasSh Try.prog 160 [.i .i64, .i .i64] := .struct (ss := [.i .i64, .i .i64]) Try.underlying160 (HasFs.cons (s1 := [.i .i64]) (s2 := [.i .i64]) rfl Try.sh3 (by kernel_rfl) (HasFs.cons (s1 := [.i .i64]) (s2 := []) rfl Try.sh3 (by kernel_rfl) (HasFs.nil))) (by kernel_rfl)
theorem Try.sh162 : HasSh Try.prog 162 [.i .i64, .i .i64, .i .i64, .i .i64, .i .i64, .i .i64] := .struct (ss := [.i .i64, .i .i64, .i .i64, .i .i64, .i .i64, .i .i64]) Try.underlying162 (HasFs.cons (s1 := [.i .i64, .i .i64]) (s2 := [.i .i64, .i .i64, .i .i64, .i .i64]) rfl Try.sh101 (by kernel_rfl) (HasFs.cons (s1 := [.i .i64]) (s2 := [.i .i64, .i .i64, .i .i64]) rfl Try.sh3 (by kernel_rfl) (HasFs.cons (s1 := [.i .i64]) (s2 := [.i .i64, .i .i64]) rfl Try.sh3 (by kernel_rfl) (HasFs.cons (s1 := [.i .i64, .i .i64]) (s2 := []) rfl Try.sh160 (by kernel_rfl) (HasFs.nil))))) (by kernel_rfl)
theorem Try.sh99 : HasSh Try.prog 99 [.l [.i .i64, .i .i64, .i .i64, .i .i64, .i .i64, .i .i64]] := .slice Try.underlying99 Try.sh162 (by kernel_rfl) (by decide)
theorem Try.sh100 : HasSh Try.prog 100 [.i .i64, .i .i64, .i .i64, .l [.i .i64]] := .struct (ss := [.i .i64, .i .i64, .i .i64, .l [.i .i64]]) Try.underlying100 (HasFs.cons (s1 := [.i .i64]) (s2 := [.i .i64, .i .i64, .l [.i .i64]]) rfl Try.sh3 (by kernel_rfl) (HasFs.cons (s1 := [.i .i64]) (s2 := [.i .i64, .l [.i .i64]]) rfl Try.sh3 (by kernel_rfl) (HasFs.cons (s1 := [.i .i64]) (s2 := [.l [.i .i64]]) rfl Try.sh3 (by kernel_rfl) (HasFs.cons (s1 := [.l [.i .i64]]) (s2 := []) rfl Try.sh48 (by kernel_rfl) (HasFs.nil))))) (by kernel_rfl)
theorem Try.sh168 : HasSh Try.prog 168 [.l [.i .u8], .i .i64, .i .i64] := .struct (ss := [.l [.i .u8], .i .i64, .i .i64]) Try.underlying168 (HasFs.cons (s1 := [.l [.i .u8]]) (s2 := [.i .i64, .i .i64]) rfl Try.sh22 (by kernel_rfl) (HasFs.cons (s1 := [.i .i64]) (s2 := [.i .i64]) rfl Try.sh3 (by kernel_rfl) (HasFs.cons (s1 := [.i .i64]) (s2 := []) rfl Try.sh3 (by kernel_rfl) (HasFs.nil)))) (by kernel_rfl)
theorem Try.eqa30 : EqA Try.prog 2 30 [.i .i64, .i .i64, .i .i64] := eqA_struct (k := 1) Try.underlying30 (by kernel_rfl) (eqF_s rfl (by decide) inferInstance (eqS_int Try.underlying3) (eqF_s rfl (by decide) inferInstance (eqS_int Try.underlying3) (eqF_s rfl (by decide) inferInstance (eqS_int Try.underlying3) (eqF_nil))))
instance : TyEq Try.prog 30 [.i .i64, .i .i64, .i .i64] := ⟨⟨2, by decide, Try.eqa30⟩, by kernel_rfl⟩
theorem Try.eqa40 : EqA Try.prog 2 40 [.i .i64, .i .i64] := eqA_struct (k := 1) Try.underlying40 (by kernel_rfl) (eqF_s rfl (by decide) inferInstance (eqS_int Try.underlying3) (eqF_s rfl (by decide) inferInstance (eqS_int Try.underlying3) (eqF_nil)))
instance : TyEq Try.prog 40 [.i .i64, .i .i64] := ⟨⟨2, by decide, Try.eqa40⟩, by kernel_rfl⟩
theorem Try.eqa42 : EqA Try.prog 2 42 [.i .i64, .i .i64] := eqA_struct (k := 1) Try.underlying42 (by kernel_rfl) (eqF_s rfl (by decide) inferInstance (eqS_int Try.underlying3) (eqF_s rfl (by decide) inferInstance (eqS_int Try.underlying3) (eqF_nil)))
instance : TyEq Try.prog 42 [.i .i64, .i .i64] := ⟨⟨2, by decide, Try.eqa42⟩, by kernel_rfl⟩
theorem Try.eqa44 : EqA Try.prog 3 44 [.i .i64, .i .i64, .i .i64, .i .i64, .i .i64, .i .i64] := eqA_struct (k := 2) Try.underlying44 (by kernel_rfl) (eqF_a (n := 2) (s1 := [.i .i64, .i .i64]) rfl (by decide) inferInstance rfl (by decide) Try.eqa40 (eqF_s rfl (by decide) inferInstance (eqS_int Try.underlying3) (eqF_s rfl (by decide) inferInstance (eqS_int Try.underlying3) (eqF_a (n := 2) (s1 := [.i .i64, .i .i64]) rfl (by decide) inferInstance rfl (by decide) Try.eqa42 (eqF_nil)))))
instance : TyEq Try.prog 44 [.i .i64, .i .i64, .i .i64, .i .i64, .i .i64, .i .i64] := ⟨⟨3, by decide, Try.eqa44⟩, by kernel_rfl⟩
theorem Try.eqa62 : EqA Try.prog 2 62 [.i .i64, .i .i64, .i .i64, .i .i64] := eqA_struct (k := 1) Try.underlying62 (by kernel_rfl) (eqF_s rfl (by decide) inferInstance (eqS_int Try.underlying3) (eqF_s rfl (by decide) inferInstance (eqS_int Try.underlying3) (eqF_s rfl (by decide) inferInstance (eqS_int Try.underlying3) (eqF_s rfl (by decide) inferInstance (eqS_int Try.underlying3) (eqF_nil)))))
instance : TyEq Try.prog 62 [.i .i64, .i .i64, .i .i64, .i .i64] := ⟨⟨2, by decide, Try.eqa62⟩, by kernel_rfl⟩
theorem Try.eqa101 : EqA Try.prog 2 101 [.i .i64, .i .i64] := eqA_struct (k := 1) Try.underlying101 (by kernel_rfl) (eqF_s rfl (by decide) inferInstance (eqS_int Try.underlying3) (eqF_s rfl (by decide) inferInstance (eqS_int Try.underlying3) (eqF_nil)))
instance : TyEq Try.prog 101 [.i .i64, .i .i64] := ⟨⟨2, by decide, Try.eqa101⟩, by kernel_rfl⟩
theorem Try.eqa154 : EqA Try.prog 2 154 [.i .i64, .i .i64, .i .i64, .i .i64] := eqA_struct (k := 1) Try.underlying154 (by kernel_rfl) (eqF_s rfl (by decide) inferInstance (eqS_int Try.underlying3) (eqF_s rfl (by decide) inferInstance (eqS_int Try.underlying3) (eqF_s rfl (by decide) inferInstance (eqS_int Try.underlying3) (eqF_s rfl (by decide) inferInstance (eqS_int Try.underlying3) (eqF_nil)))))
instance : TyEq Try.prog 154 [.i .i64, .i .i64, .i .i64, .i .i64] := ⟨⟨2, by decide, Try.eqa154⟩, by kernel_rfl⟩
theorem Try.eqa160 : EqA Try.prog 2 160 [.i .i64, .i .i64] := eqA_struct (k := 1) Try.underlying160 (by kernel_rfl) (eqF_s rfl (by decide) inferInstance (eqS_int Try.underlying3) (eqF_s rfl (by decide) inferInstance (eqS_int Try.underlying3) (eqF_nil)))
instance : TyEq Try.prog 160 [.i .i64, .i .i64] := ⟨⟨2, by decide, Try.eqa160⟩, by kernel_rfl⟩
theorem Try.eqa162 : EqA Try.prog 3 162 [.i .i64, .i .i64, .i .i64, .i .i64, .i .i64, .i .i64] := eqA_struct (k := 2) Try.underlying162 (by kernel_rfl) (eqF_a (n := 2) (s1 := [.i .i64, .i .i64]) rfl (by decide) inferInstance rfl (by decide) Try.eqa101 (eqF_s rfl (by decide) inferInstance (eqS_int Try.underlying3) (eqF_s rfl (by decide) inferInstance (eqS_int Try.underlying3) (eqF_a (n := 2) (s1 := [.i .i64, .i .i64]) rfl (by decide) inferInstance rfl (by decide) Try.eqa160 (eqF_nil)))))
instance : TyEq Try.prog 162 [.i .i64, .i .i64, .i .i64, .i .i64, .i .i64, .i .i64] := ⟨⟨3, by decide, Try.eqa162⟩, by kernel_rfl⟩
theorem Try.eqa183 : EqA Try.prog 2 183 [.i .i64, .i .i64, .i .i64, .i .i64] := eqA_struct (k := 1) Try.underlying183 (by kernel_rfl) (eqF_s rfl (by decide) inferInstance (eqS_int Try.underlying3) (eqF_s rfl (by decide) inferInstance (eqS_int Try.underlying3) (eqF_s rfl (by decide) inferInstance (eqS_int Try.underlying3) (eqF_s rfl (by decide) inferInstance (eqS_int Try.underlying3) (eqF_nil)))))
instance : TyEq Try.prog 183 [.i .i64, .i .i64, .i .i64, .i .i64] := ⟨⟨2, by decide, Try.eqa183⟩, by kernel_rfl⟩
theorem Try.eqa195 : EqA Try.prog 2 195 [.i .i64, .i .i64, .i .i64, .i .i64] := eqA_struct (k := 1) Try.underlying195 (by kernel_rfl) (eqF_s rfl (by decide) inferInstance (eqS_int Try.underlying3) (eqF_s rfl (by decide) inferInstance (eqS_int Try.underlying3) (eqF_s rfl (by decide) inferInstance (eqS_int Try.underlying3) (eqF_s rfl (by decide) inferInstance (eqS_int Try.underlying3) (eqF_nil)))))
instance : TyEq Try.prog 195 [.i .i64, .i .i64, .i .i64, .i .i64] := ⟨⟨2, by decide, Try.eqa195⟩, by kernel_rfl⟩
theorem Try.follows : Try.prog.follows .mixedOrders = true := by kernel_rfl
structure TStatementLine where
  Payer : Int
  Payee : Int
  Amount : Int
  deriving DecidableEq, Inhabited
def eTStatementLine (a : TStatementLine) : List D := [.i .i64 a.Payer, .i .i64 a.Payee, .i .i64 a.Amount]
structure TSubscriberID where
  Network : Int
  Number : Int
  deriving DecidableEq, Inhabited
def eTSubscriberID (a : TSubscriberID) : List D := [.i .i64 a.Network, .i .i64 a.Number]
structure TTempID where
  Pool : Int
  Number : Int
  deriving DecidableEq, Inhabited
def eTTempID (a : TTempID) : List D := [.i .i64 a.Pool, .i .i64 a.Number]
structure TRegistration where
  ID : TSubscriberID
  Network : Int
  Area : Int
  TempID : TTempID
  deriving DecidableEq, Inhabited
def eTRegistration (a : TRegistration) : List D := [.i .i64 a.ID.Network, .i .i64 a.ID.Number, .i .i64 a.Network, .i .i64 a.Area, .i .i64 a.TempID.Pool, .i .i64 a.TempID.Number]
structure TSubscription where
  RateLimit : Int
  BestClass : Int
  GrantSize : Int
  RoamingNetworks : List Int
  deriving DecidableEq, Inhabited
def eTSubscription (a : TSubscription) : List D := [.i .i64 a.RateLimit, .i .i64 a.BestClass, .i .i64 a.GrantSize, .l (a.RoamingNetworks.map eI)]
structure TRoamingAgreement where
  Home : Int
  Visited : Int
  Price : Int
  Cap : Int
  deriving DecidableEq, Inhabited
def eTRoamingAgreement (a : TRoamingAgreement) : List D := [.i .i64 a.Home, .i .i64 a.Visited, .i .i64 a.Price, .i .i64 a.Cap]
structure TRoamingResult where
  Code : Int
  Registrations : List TRegistration
  Cancelled : Int
  TempID : TTempID
  deriving DecidableEq, Inhabited
def eTRoamingResult (a : TRoamingResult) : List D := [.i .i64 a.Code, .l (a.Registrations.map eTRegistration), .i .i64 a.Cancelled, .i .i64 a.TempID.Pool, .i .i64 a.TempID.Number]
structure TKeyPath where
  Steps : List Int
  deriving DecidableEq, Inhabited
def eTKeyPath (a : TKeyPath) : List D := [.l (a.Steps.map eI)]
structure TLeakedKey where
  Generation : Int
  Path : TKeyPath
  deriving DecidableEq, Inhabited
def eTLeakedKey (a : TLeakedKey) : List D := [.i .i64 a.Generation, .l (a.Path.Steps.map eI)]
structure TUsageRecord where
  Network : Int
  SessionID : Int
  Seq : Int
  Bytes : Int
  deriving DecidableEq, Inhabited
def eTUsageRecord (a : TUsageRecord) : List D := [.i .i64 a.Network, .i .i64 a.SessionID, .i .i64 a.Seq, .i .i64 a.Bytes]
structure TOperatorBook where
  Network : Int
  Own : List TUsageRecord
  Claims : List TUsageRecord
  deriving DecidableEq, Inhabited
def eTOperatorBook (a : TOperatorBook) : List D := [.i .i64 a.Network, .l (a.Own.map eTUsageRecord), .l (a.Claims.map eTUsageRecord)]
structure Tl1Cur where
  fb : List Int
  fi : Int
  fh : Int
  deriving DecidableEq, Inhabited
def eTl1Cur (a : Tl1Cur) : List D := [.l (a.fb.map eU8), .i .i64 a.fi, .i .i64 a.fh]
end Go.AM
