/-
  Facts on the types of this translation, laid by program.
-/
import Derived.Test.YtenhpomjfgbpoaaAmZb
import Derived.Test.YtenhpomjfgbpoaaAmO
import Derived.Test.YtenhpomjfgbpoaaProg
namespace Go.AM
open Go.Proofs
theorem info_n {P : Program} {t : TypeId} {n : Nat} (h : (P.info? t).map (·.size) = some n) : ∃ i, P.info? t = some i ∧ i.size = n := by
  cases hi : P.info? t with
  | none => simp [hi] at h
  | some i => simp [hi] at h; exact ⟨i, rfl, h⟩
theorem info_z {P : Program} {t : TypeId} {z : Value} (h : (P.info? t).map (·.zero) = some (some z)) : ∃ i, P.info? t = some i ∧ i.zero = some z := by
  cases hi : P.info? t with
  | none => simp [hi] at h
  | some i => simp [hi] at h; exact ⟨i, rfl, h⟩
theorem info_s {P : Program} {t : TypeId} {z : Value} {n b : Nat} (h : (P.info? t).map (fun i => (i.size, i.bytes, i.zero)) = some (n, b, some z)) (hz : z.cells.size = n) : ∃ i z, P.info? t = some i ∧ i.size = n ∧ i.bytes = b ∧ i.zero = some z ∧ z.cells.size = n := by
  cases hi : P.info? t with
  | none => simp [hi] at h
  | some i => simp [hi] at h; exact ⟨i, z, rfl, h.1, h.2.1, h.2.2, hz⟩
theorem info_f {P : Program} {t : TypeId} {n : Nat} (h : (P.info? t).map (·.size) = some n) (hn : n ≠ 0) : ∃ i, P.info? t = some i ∧ i.size ≠ 0 := by
  cases hi : P.info? t with
  | none => simp [hi] at h
  | some i => simp [hi] at h; exact ⟨i, rfl, by omega⟩
-- 3: int
instance : TyN Try.prog 3 1 := ⟨info_n (by kernel_rfl)⟩
instance : TySc Try.prog 3 := ⟨fun w => by kernel_rfl, info_n (by kernel_rfl)⟩
instance : TyU Try.prog 3 (.int .i64) := ⟨Try.underlying3⟩
theorem Try.z3 : (Try.prog.info? 3).map (·.zero) = some (some (.int .i64 0)) := by kernel_rfl
instance : TyZ Try.prog 3 [.d false (.i .i64 0)] := ⟨by obtain ⟨i, h1, h2⟩ := info_z Try.z3; exact ⟨i, _, h1, h2, rfl⟩⟩
instance : TyE Try.prog 3 [.i .i64 0] := ⟨by obtain ⟨i, h1, h2⟩ := info_z Try.z3; exact ⟨i, _, h1, h2, rfl⟩⟩
-- 4: bool
instance : TyN Try.prog 4 1 := ⟨info_n (by kernel_rfl)⟩
instance : TySc Try.prog 4 := ⟨fun w => by kernel_rfl, info_n (by kernel_rfl)⟩
instance : TyU Try.prog 4 (.bool) := ⟨Try.underlying4⟩
theorem Try.z4 : (Try.prog.info? 4).map (·.zero) = some (some (.bool false)) := by kernel_rfl
instance : TyZ Try.prog 4 [.d false (.b false)] := ⟨by obtain ⟨i, h1, h2⟩ := info_z Try.z4; exact ⟨i, _, h1, h2, rfl⟩⟩
instance : TyE Try.prog 4 [.b false] := ⟨by obtain ⟨i, h1, h2⟩ := info_z Try.z4; exact ⟨i, _, h1, h2, rfl⟩⟩
-- 5: uint8
instance : TyN Try.prog 5 1 := ⟨info_n (by kernel_rfl)⟩
instance : TySc Try.prog 5 := ⟨fun w => by kernel_rfl, info_n (by kernel_rfl)⟩
instance : TyU Try.prog 5 (.int .u8) := ⟨Try.underlying5⟩
theorem Try.z5 : (Try.prog.info? 5).map (·.zero) = some (some (.int .u8 0)) := by kernel_rfl
instance : TyZ Try.prog 5 [.d false (.i .u8 0)] := ⟨by obtain ⟨i, h1, h2⟩ := info_z Try.z5; exact ⟨i, _, h1, h2, rfl⟩⟩
instance : TyE Try.prog 5 [.i .u8 0] := ⟨by obtain ⟨i, h1, h2⟩ := info_z Try.z5; exact ⟨i, _, h1, h2, rfl⟩⟩
-- 9: string
instance : TyN Try.prog 9 1 := ⟨info_n (by kernel_rfl)⟩
instance : TySc Try.prog 9 := ⟨fun w => by kernel_rfl, info_n (by kernel_rfl)⟩
instance : TyU Try.prog 9 (.string) := ⟨Try.underlying9⟩
theorem Try.z9 : (Try.prog.info? 9).map (·.zero) = some (some (.string ⟨#[]⟩)) := by kernel_rfl
instance : TyZ Try.prog 9 [.d false (.str ⟨#[]⟩)] := ⟨by obtain ⟨i, h1, h2⟩ := info_z Try.z9; exact ⟨i, _, h1, h2, rfl⟩⟩
instance : TyE Try.prog 9 [.str ⟨#[]⟩] := ⟨by obtain ⟨i, h1, h2⟩ := info_z Try.z9; exact ⟨i, _, h1, h2, rfl⟩⟩
-- 24: []uint8
instance : TyN Try.prog 24 1 := ⟨info_n (by kernel_rfl)⟩
instance : TySc Try.prog 24 := ⟨fun w => by kernel_rfl, info_n (by kernel_rfl)⟩
theorem Try.z24 : (Try.prog.info? 24).map (·.zero) = some (some (.slice none 0 0)) := by kernel_rfl
instance : TyZ Try.prog 24 [.nil] := ⟨by obtain ⟨i, h1, h2⟩ := info_z Try.z24; exact ⟨i, _, h1, h2, rfl⟩⟩
instance : TyE Try.prog 24 [.l []] := ⟨by obtain ⟨i, h1, h2⟩ := info_z Try.z24; exact ⟨i, _, h1, h2, rfl⟩⟩
instance : TySl Try.prog 24 5 1 1 := ⟨Try.underlying24, info_s (z := .int .u8 0) (by kernel_rfl) rfl, by decide⟩
-- 29: []laws.StatementLine
instance : TyN Try.prog 29 1 := ⟨info_n (by kernel_rfl)⟩
instance : TySc Try.prog 29 := ⟨fun w => by kernel_rfl, info_n (by kernel_rfl)⟩
theorem Try.z29 : (Try.prog.info? 29).map (·.zero) = some (some (.slice none 0 0)) := by kernel_rfl
instance : TyZ Try.prog 29 [.nil] := ⟨by obtain ⟨i, h1, h2⟩ := info_z Try.z29; exact ⟨i, _, h1, h2, rfl⟩⟩
instance : TyE Try.prog 29 [.l []] := ⟨by obtain ⟨i, h1, h2⟩ := info_z Try.z29; exact ⟨i, _, h1, h2, rfl⟩⟩
instance : TySl Try.prog 29 88 3 24 := ⟨Try.underlying29, info_s (z := .agg #[.int .i64 0, .int .i64 0, .int .i64 0]) (by kernel_rfl) rfl, by decide⟩
-- 32: []impl.StatementLine
instance : TyN Try.prog 32 1 := ⟨info_n (by kernel_rfl)⟩
instance : TySc Try.prog 32 := ⟨fun w => by kernel_rfl, info_n (by kernel_rfl)⟩
theorem Try.z32 : (Try.prog.info? 32).map (·.zero) = some (some (.slice none 0 0)) := by kernel_rfl
instance : TyZ Try.prog 32 [.nil] := ⟨by obtain ⟨i, h1, h2⟩ := info_z Try.z32; exact ⟨i, _, h1, h2, rfl⟩⟩
instance : TyE Try.prog 32 [.l []] := ⟨by obtain ⟨i, h1, h2⟩ := info_z Try.z32; exact ⟨i, _, h1, h2, rfl⟩⟩
instance : TySl Try.prog 32 65 3 24 := ⟨Try.underlying32, info_s (z := .agg #[.int .i64 0, .int .i64 0, .int .i64 0]) (by kernel_rfl) rfl, by decide⟩
-- 37: []int
instance : TyN Try.prog 37 1 := ⟨info_n (by kernel_rfl)⟩
instance : TySc Try.prog 37 := ⟨fun w => by kernel_rfl, info_n (by kernel_rfl)⟩
theorem Try.z37 : (Try.prog.info? 37).map (·.zero) = some (some (.slice none 0 0)) := by kernel_rfl
instance : TyZ Try.prog 37 [.nil] := ⟨by obtain ⟨i, h1, h2⟩ := info_z Try.z37; exact ⟨i, _, h1, h2, rfl⟩⟩
instance : TyE Try.prog 37 [.l []] := ⟨by obtain ⟨i, h1, h2⟩ := info_z Try.z37; exact ⟨i, _, h1, h2, rfl⟩⟩
instance : TySl Try.prog 37 3 1 8 := ⟨Try.underlying37, info_s (z := .int .i64 0) (by kernel_rfl) rfl, by decide⟩
-- 39: impl.KeyPath
instance : TyN Try.prog 39 1 := ⟨info_n (by kernel_rfl)⟩
instance : TyAg Try.prog 39 1 := ⟨fun w => by kernel_rfl, info_n (by kernel_rfl)⟩
theorem Try.z39 : (Try.prog.info? 39).map (·.zero) = some (some (.agg #[.slice none 0 0])) := by kernel_rfl
instance : TyZ Try.prog 39 [.nil] := ⟨by obtain ⟨i, h1, h2⟩ := info_z Try.z39; exact ⟨i, _, h1, h2, rfl⟩⟩
instance : TyE Try.prog 39 [.l []] := ⟨by obtain ⟨i, h1, h2⟩ := info_z Try.z39; exact ⟨i, _, h1, h2, rfl⟩⟩
instance : TyB Try.prog 39 [(0, 1)] := ⟨_, Try.underlying39, fun w => by kernel_rfl⟩
instance : TyF Try.prog 39 0 0 37 := ⟨_, _, Try.underlying39, rfl, rfl, rfl, info_f (n := 1) (by kernel_rfl) (by decide)⟩
-- 41: impl.LeakedKey
instance : TyN Try.prog 41 2 := ⟨info_n (by kernel_rfl)⟩
instance : TyAg Try.prog 41 2 := ⟨fun w => by kernel_rfl, info_n (by kernel_rfl)⟩
theorem Try.z41 : (Try.prog.info? 41).map (·.zero) = some (some (.agg #[.int .i64 0, .slice none 0 0])) := by kernel_rfl
instance : TyZ Try.prog 41 [.d false (.i .i64 0), .nil] := ⟨by obtain ⟨i, h1, h2⟩ := info_z Try.z41; exact ⟨i, _, h1, h2, rfl⟩⟩
instance : TyE Try.prog 41 [.i .i64 0, .l []] := ⟨by obtain ⟨i, h1, h2⟩ := info_z Try.z41; exact ⟨i, _, h1, h2, rfl⟩⟩
instance : TyB Try.prog 41 [(0, 1), (1, 1)] := ⟨_, Try.underlying41, fun w => by kernel_rfl⟩
instance : TyF Try.prog 41 0 0 3 := ⟨_, _, Try.underlying41, rfl, rfl, rfl, info_f (n := 1) (by kernel_rfl) (by decide)⟩
instance : TyF Try.prog 41 1 1 39 := ⟨_, _, Try.underlying41, rfl, rfl, rfl, info_f (n := 1) (by kernel_rfl) (by decide)⟩
-- 42: []impl.LeakedKey
instance : TyN Try.prog 42 1 := ⟨info_n (by kernel_rfl)⟩
instance : TySc Try.prog 42 := ⟨fun w => by kernel_rfl, info_n (by kernel_rfl)⟩
theorem Try.z42 : (Try.prog.info? 42).map (·.zero) = some (some (.slice none 0 0)) := by kernel_rfl
instance : TyZ Try.prog 42 [.nil] := ⟨by obtain ⟨i, h1, h2⟩ := info_z Try.z42; exact ⟨i, _, h1, h2, rfl⟩⟩
instance : TyE Try.prog 42 [.l []] := ⟨by obtain ⟨i, h1, h2⟩ := info_z Try.z42; exact ⟨i, _, h1, h2, rfl⟩⟩
instance : TySl Try.prog 42 41 2 32 := ⟨Try.underlying42, info_s (z := .agg #[.int .i64 0, .slice none 0 0]) (by kernel_rfl) rfl, by decide⟩
-- 52: laws.Subscription
instance : TyN Try.prog 52 4 := ⟨info_n (by kernel_rfl)⟩
instance : TyAg Try.prog 52 4 := ⟨fun w => by kernel_rfl, info_n (by kernel_rfl)⟩
theorem Try.z52 : (Try.prog.info? 52).map (·.zero) = some (some (.agg #[.int .i64 0, .int .i64 0, .int .i64 0, .slice none 0 0])) := by kernel_rfl
instance : TyZ Try.prog 52 [.d false (.i .i64 0), .d false (.i .i64 0), .d false (.i .i64 0), .nil] := ⟨by obtain ⟨i, h1, h2⟩ := info_z Try.z52; exact ⟨i, _, h1, h2, rfl⟩⟩
instance : TyE Try.prog 52 [.i .i64 0, .i .i64 0, .i .i64 0, .l []] := ⟨by obtain ⟨i, h1, h2⟩ := info_z Try.z52; exact ⟨i, _, h1, h2, rfl⟩⟩
instance : TyB Try.prog 52 [(0, 1), (1, 1), (2, 1), (3, 1)] := ⟨_, Try.underlying52, fun w => by kernel_rfl⟩
instance : TyF Try.prog 52 0 0 3 := ⟨_, _, Try.underlying52, rfl, rfl, rfl, info_f (n := 1) (by kernel_rfl) (by decide)⟩
instance : TyF Try.prog 52 1 1 3 := ⟨_, _, Try.underlying52, rfl, rfl, rfl, info_f (n := 1) (by kernel_rfl) (by decide)⟩
instance : TyF Try.prog 52 2 2 3 := ⟨_, _, Try.underlying52, rfl, rfl, rfl, info_f (n := 1) (by kernel_rfl) (by decide)⟩
instance : TyF Try.prog 52 3 3 37 := ⟨_, _, Try.underlying52, rfl, rfl, rfl, info_f (n := 1) (by kernel_rfl) (by decide)⟩
-- 54: laws.SubscriberID
instance : TyN Try.prog 54 2 := ⟨info_n (by kernel_rfl)⟩
instance : TyAg Try.prog 54 2 := ⟨fun w => by kernel_rfl, info_n (by kernel_rfl)⟩
theorem Try.z54 : (Try.prog.info? 54).map (·.zero) = some (some (.agg #[.int .i64 0, .int .i64 0])) := by kernel_rfl
instance : TyZ Try.prog 54 [.d false (.i .i64 0), .d false (.i .i64 0)] := ⟨by obtain ⟨i, h1, h2⟩ := info_z Try.z54; exact ⟨i, _, h1, h2, rfl⟩⟩
instance : TyE Try.prog 54 [.i .i64 0, .i .i64 0] := ⟨by obtain ⟨i, h1, h2⟩ := info_z Try.z54; exact ⟨i, _, h1, h2, rfl⟩⟩
instance : TyB Try.prog 54 [(0, 1), (1, 1)] := ⟨_, Try.underlying54, fun w => by kernel_rfl⟩
instance : TyF Try.prog 54 0 0 3 := ⟨_, _, Try.underlying54, rfl, rfl, rfl, info_f (n := 1) (by kernel_rfl) (by decide)⟩
instance : TyF Try.prog 54 1 1 3 := ⟨_, _, Try.underlying54, rfl, rfl, rfl, info_f (n := 1) (by kernel_rfl) (by decide)⟩
-- 57: impl.Subscription
instance : TyN Try.prog 57 4 := ⟨info_n (by kernel_rfl)⟩
instance : TyAg Try.prog 57 4 := ⟨fun w => by kernel_rfl, info_n (by kernel_rfl)⟩
theorem Try.z57 : (Try.prog.info? 57).map (·.zero) = some (some (.agg #[.int .i64 0, .int .i64 0, .int .i64 0, .slice none 0 0])) := by kernel_rfl
instance : TyZ Try.prog 57 [.d false (.i .i64 0), .d false (.i .i64 0), .d false (.i .i64 0), .nil] := ⟨by obtain ⟨i, h1, h2⟩ := info_z Try.z57; exact ⟨i, _, h1, h2, rfl⟩⟩
instance : TyE Try.prog 57 [.i .i64 0, .i .i64 0, .i .i64 0, .l []] := ⟨by obtain ⟨i, h1, h2⟩ := info_z Try.z57; exact ⟨i, _, h1, h2, rfl⟩⟩
instance : TyB Try.prog 57 [(0, 1), (1, 1), (2, 1), (3, 1)] := ⟨_, Try.underlying57, fun w => by kernel_rfl⟩
instance : TyF Try.prog 57 0 0 3 := ⟨_, _, Try.underlying57, rfl, rfl, rfl, info_f (n := 1) (by kernel_rfl) (by decide)⟩
instance : TyF Try.prog 57 1 1 3 := ⟨_, _, Try.underlying57, rfl, rfl, rfl, info_f (n := 1) (by kernel_rfl) (by decide)⟩
instance : TyF Try.prog 57 2 2 3 := ⟨_, _, Try.underlying57, rfl, rfl, rfl, info_f (n := 1) (by kernel_rfl) (by decide)⟩
instance : TyF Try.prog 57 3 3 37 := ⟨_, _, Try.underlying57, rfl, rfl, rfl, info_f (n := 1) (by kernel_rfl) (by decide)⟩
-- 59: impl.SubscriberID
instance : TyN Try.prog 59 2 := ⟨info_n (by kernel_rfl)⟩
instance : TyAg Try.prog 59 2 := ⟨fun w => by kernel_rfl, info_n (by kernel_rfl)⟩
theorem Try.z59 : (Try.prog.info? 59).map (·.zero) = some (some (.agg #[.int .i64 0, .int .i64 0])) := by kernel_rfl
instance : TyZ Try.prog 59 [.d false (.i .i64 0), .d false (.i .i64 0)] := ⟨by obtain ⟨i, h1, h2⟩ := info_z Try.z59; exact ⟨i, _, h1, h2, rfl⟩⟩
instance : TyE Try.prog 59 [.i .i64 0, .i .i64 0] := ⟨by obtain ⟨i, h1, h2⟩ := info_z Try.z59; exact ⟨i, _, h1, h2, rfl⟩⟩
instance : TyB Try.prog 59 [(0, 1), (1, 1)] := ⟨_, Try.underlying59, fun w => by kernel_rfl⟩
instance : TyF Try.prog 59 0 0 3 := ⟨_, _, Try.underlying59, rfl, rfl, rfl, info_f (n := 1) (by kernel_rfl) (by decide)⟩
instance : TyF Try.prog 59 1 1 3 := ⟨_, _, Try.underlying59, rfl, rfl, rfl, info_f (n := 1) (by kernel_rfl) (by decide)⟩
-- 65: impl.StatementLine
instance : TyN Try.prog 65 3 := ⟨info_n (by kernel_rfl)⟩
instance : TyAg Try.prog 65 3 := ⟨fun w => by kernel_rfl, info_n (by kernel_rfl)⟩
theorem Try.z65 : (Try.prog.info? 65).map (·.zero) = some (some (.agg #[.int .i64 0, .int .i64 0, .int .i64 0])) := by kernel_rfl
instance : TyZ Try.prog 65 [.d false (.i .i64 0), .d false (.i .i64 0), .d false (.i .i64 0)] := ⟨by obtain ⟨i, h1, h2⟩ := info_z Try.z65; exact ⟨i, _, h1, h2, rfl⟩⟩
instance : TyE Try.prog 65 [.i .i64 0, .i .i64 0, .i .i64 0] := ⟨by obtain ⟨i, h1, h2⟩ := info_z Try.z65; exact ⟨i, _, h1, h2, rfl⟩⟩
instance : TyB Try.prog 65 [(0, 1), (1, 1), (2, 1)] := ⟨_, Try.underlying65, fun w => by kernel_rfl⟩
instance : TyF Try.prog 65 0 0 3 := ⟨_, _, Try.underlying65, rfl, rfl, rfl, info_f (n := 1) (by kernel_rfl) (by decide)⟩
instance : TyF Try.prog 65 1 1 3 := ⟨_, _, Try.underlying65, rfl, rfl, rfl, info_f (n := 1) (by kernel_rfl) (by decide)⟩
instance : TyF Try.prog 65 2 2 3 := ⟨_, _, Try.underlying65, rfl, rfl, rfl, info_f (n := 1) (by kernel_rfl) (by decide)⟩
-- 67: []laws.LeakedKey
instance : TyN Try.prog 67 1 := ⟨info_n (by kernel_rfl)⟩
instance : TySc Try.prog 67 := ⟨fun w => by kernel_rfl, info_n (by kernel_rfl)⟩
theorem Try.z67 : (Try.prog.info? 67).map (·.zero) = some (some (.slice none 0 0)) := by kernel_rfl
instance : TyZ Try.prog 67 [.nil] := ⟨by obtain ⟨i, h1, h2⟩ := info_z Try.z67; exact ⟨i, _, h1, h2, rfl⟩⟩
instance : TyE Try.prog 67 [.l []] := ⟨by obtain ⟨i, h1, h2⟩ := info_z Try.z67; exact ⟨i, _, h1, h2, rfl⟩⟩
instance : TySl Try.prog 67 97 2 32 := ⟨Try.underlying67, info_s (z := .agg #[.int .i64 0, .slice none 0 0]) (by kernel_rfl) rfl, by decide⟩
-- 72: []laws.OperatorBook
instance : TyN Try.prog 72 1 := ⟨info_n (by kernel_rfl)⟩
instance : TySc Try.prog 72 := ⟨fun w => by kernel_rfl, info_n (by kernel_rfl)⟩
theorem Try.z72 : (Try.prog.info? 72).map (·.zero) = some (some (.slice none 0 0)) := by kernel_rfl
instance : TyZ Try.prog 72 [.nil] := ⟨by obtain ⟨i, h1, h2⟩ := info_z Try.z72; exact ⟨i, _, h1, h2, rfl⟩⟩
instance : TyE Try.prog 72 [.l []] := ⟨by obtain ⟨i, h1, h2⟩ := info_z Try.z72; exact ⟨i, _, h1, h2, rfl⟩⟩
instance : TySl Try.prog 72 103 3 56 := ⟨Try.underlying72, info_s (z := .agg #[.int .i64 0, .slice none 0 0, .slice none 0 0]) (by kernel_rfl) rfl, by decide⟩
-- 75: []impl.OperatorBook
instance : TyN Try.prog 75 1 := ⟨info_n (by kernel_rfl)⟩
instance : TySc Try.prog 75 := ⟨fun w => by kernel_rfl, info_n (by kernel_rfl)⟩
theorem Try.z75 : (Try.prog.info? 75).map (·.zero) = some (some (.slice none 0 0)) := by kernel_rfl
instance : TyZ Try.prog 75 [.nil] := ⟨by obtain ⟨i, h1, h2⟩ := info_z Try.z75; exact ⟨i, _, h1, h2, rfl⟩⟩
instance : TyE Try.prog 75 [.l []] := ⟨by obtain ⟨i, h1, h2⟩ := info_z Try.z75; exact ⟨i, _, h1, h2, rfl⟩⟩
instance : TySl Try.prog 75 106 3 56 := ⟨Try.underlying75, info_s (z := .agg #[.int .i64 0, .slice none 0 0, .slice none 0 0]) (by kernel_rfl) rfl, by decide⟩
-- 79: laws.KeyPath
instance : TyN Try.prog 79 1 := ⟨info_n (by kernel_rfl)⟩
instance : TyAg Try.prog 79 1 := ⟨fun w => by kernel_rfl, info_n (by kernel_rfl)⟩
theorem Try.z79 : (Try.prog.info? 79).map (·.zero) = some (some (.agg #[.slice none 0 0])) := by kernel_rfl
instance : TyZ Try.prog 79 [.nil] := ⟨by obtain ⟨i, h1, h2⟩ := info_z Try.z79; exact ⟨i, _, h1, h2, rfl⟩⟩
instance : TyE Try.prog 79 [.l []] := ⟨by obtain ⟨i, h1, h2⟩ := info_z Try.z79; exact ⟨i, _, h1, h2, rfl⟩⟩
instance : TyB Try.prog 79 [(0, 1)] := ⟨_, Try.underlying79, fun w => by kernel_rfl⟩
instance : TyF Try.prog 79 0 0 37 := ⟨_, _, Try.underlying79, rfl, rfl, rfl, info_f (n := 1) (by kernel_rfl) (by decide)⟩
-- 84: []string
instance : TyN Try.prog 84 1 := ⟨info_n (by kernel_rfl)⟩
instance : TySc Try.prog 84 := ⟨fun w => by kernel_rfl, info_n (by kernel_rfl)⟩
theorem Try.z84 : (Try.prog.info? 84).map (·.zero) = some (some (.slice none 0 0)) := by kernel_rfl
instance : TyZ Try.prog 84 [.nil] := ⟨by obtain ⟨i, h1, h2⟩ := info_z Try.z84; exact ⟨i, _, h1, h2, rfl⟩⟩
instance : TyE Try.prog 84 [.l []] := ⟨by obtain ⟨i, h1, h2⟩ := info_z Try.z84; exact ⟨i, _, h1, h2, rfl⟩⟩
instance : TySl Try.prog 84 9 1 16 := ⟨Try.underlying84, info_s (z := .string ⟨#[]⟩) (by kernel_rfl) rfl, by decide⟩
-- 88: laws.StatementLine
instance : TyN Try.prog 88 3 := ⟨info_n (by kernel_rfl)⟩
instance : TyAg Try.prog 88 3 := ⟨fun w => by kernel_rfl, info_n (by kernel_rfl)⟩
theorem Try.z88 : (Try.prog.info? 88).map (·.zero) = some (some (.agg #[.int .i64 0, .int .i64 0, .int .i64 0])) := by kernel_rfl
instance : TyZ Try.prog 88 [.d false (.i .i64 0), .d false (.i .i64 0), .d false (.i .i64 0)] := ⟨by obtain ⟨i, h1, h2⟩ := info_z Try.z88; exact ⟨i, _, h1, h2, rfl⟩⟩
instance : TyE Try.prog 88 [.i .i64 0, .i .i64 0, .i .i64 0] := ⟨by obtain ⟨i, h1, h2⟩ := info_z Try.z88; exact ⟨i, _, h1, h2, rfl⟩⟩
instance : TyB Try.prog 88 [(0, 1), (1, 1), (2, 1)] := ⟨_, Try.underlying88, fun w => by kernel_rfl⟩
instance : TyF Try.prog 88 0 0 3 := ⟨_, _, Try.underlying88, rfl, rfl, rfl, info_f (n := 1) (by kernel_rfl) (by decide)⟩
instance : TyF Try.prog 88 1 1 3 := ⟨_, _, Try.underlying88, rfl, rfl, rfl, info_f (n := 1) (by kernel_rfl) (by decide)⟩
instance : TyF Try.prog 88 2 2 3 := ⟨_, _, Try.underlying88, rfl, rfl, rfl, info_f (n := 1) (by kernel_rfl) (by decide)⟩
-- 97: laws.LeakedKey
instance : TyN Try.prog 97 2 := ⟨info_n (by kernel_rfl)⟩
instance : TyAg Try.prog 97 2 := ⟨fun w => by kernel_rfl, info_n (by kernel_rfl)⟩
theorem Try.z97 : (Try.prog.info? 97).map (·.zero) = some (some (.agg #[.int .i64 0, .slice none 0 0])) := by kernel_rfl
instance : TyZ Try.prog 97 [.d false (.i .i64 0), .nil] := ⟨by obtain ⟨i, h1, h2⟩ := info_z Try.z97; exact ⟨i, _, h1, h2, rfl⟩⟩
instance : TyE Try.prog 97 [.i .i64 0, .l []] := ⟨by obtain ⟨i, h1, h2⟩ := info_z Try.z97; exact ⟨i, _, h1, h2, rfl⟩⟩
instance : TyB Try.prog 97 [(0, 1), (1, 1)] := ⟨_, Try.underlying97, fun w => by kernel_rfl⟩
instance : TyF Try.prog 97 0 0 3 := ⟨_, _, Try.underlying97, rfl, rfl, rfl, info_f (n := 1) (by kernel_rfl) (by decide)⟩
instance : TyF Try.prog 97 1 1 79 := ⟨_, _, Try.underlying97, rfl, rfl, rfl, info_f (n := 1) (by kernel_rfl) (by decide)⟩
-- 101: []laws.UsageRecord
instance : TyN Try.prog 101 1 := ⟨info_n (by kernel_rfl)⟩
instance : TySc Try.prog 101 := ⟨fun w => by kernel_rfl, info_n (by kernel_rfl)⟩
theorem Try.z101 : (Try.prog.info? 101).map (·.zero) = some (some (.slice none 0 0)) := by kernel_rfl
instance : TyZ Try.prog 101 [.nil] := ⟨by obtain ⟨i, h1, h2⟩ := info_z Try.z101; exact ⟨i, _, h1, h2, rfl⟩⟩
instance : TyE Try.prog 101 [.l []] := ⟨by obtain ⟨i, h1, h2⟩ := info_z Try.z101; exact ⟨i, _, h1, h2, rfl⟩⟩
instance : TySl Try.prog 101 124 4 32 := ⟨Try.underlying101, info_s (z := .agg #[.int .i64 0, .int .i64 0, .int .i64 0, .int .i64 0]) (by kernel_rfl) rfl, by decide⟩
-- 103: laws.OperatorBook
instance : TyN Try.prog 103 3 := ⟨info_n (by kernel_rfl)⟩
instance : TyAg Try.prog 103 3 := ⟨fun w => by kernel_rfl, info_n (by kernel_rfl)⟩
theorem Try.z103 : (Try.prog.info? 103).map (·.zero) = some (some (.agg #[.int .i64 0, .slice none 0 0, .slice none 0 0])) := by kernel_rfl
instance : TyZ Try.prog 103 [.d false (.i .i64 0), .nil, .nil] := ⟨by obtain ⟨i, h1, h2⟩ := info_z Try.z103; exact ⟨i, _, h1, h2, rfl⟩⟩
instance : TyE Try.prog 103 [.i .i64 0, .l [], .l []] := ⟨by obtain ⟨i, h1, h2⟩ := info_z Try.z103; exact ⟨i, _, h1, h2, rfl⟩⟩
instance : TyB Try.prog 103 [(0, 1), (1, 1), (2, 1)] := ⟨_, Try.underlying103, fun w => by kernel_rfl⟩
instance : TyF Try.prog 103 0 0 3 := ⟨_, _, Try.underlying103, rfl, rfl, rfl, info_f (n := 1) (by kernel_rfl) (by decide)⟩
instance : TyF Try.prog 103 1 1 101 := ⟨_, _, Try.underlying103, rfl, rfl, rfl, info_f (n := 1) (by kernel_rfl) (by decide)⟩
instance : TyF Try.prog 103 2 2 101 := ⟨_, _, Try.underlying103, rfl, rfl, rfl, info_f (n := 1) (by kernel_rfl) (by decide)⟩
-- 104: []impl.UsageRecord
instance : TyN Try.prog 104 1 := ⟨info_n (by kernel_rfl)⟩
instance : TySc Try.prog 104 := ⟨fun w => by kernel_rfl, info_n (by kernel_rfl)⟩
theorem Try.z104 : (Try.prog.info? 104).map (·.zero) = some (some (.slice none 0 0)) := by kernel_rfl
instance : TyZ Try.prog 104 [.nil] := ⟨by obtain ⟨i, h1, h2⟩ := info_z Try.z104; exact ⟨i, _, h1, h2, rfl⟩⟩
instance : TyE Try.prog 104 [.l []] := ⟨by obtain ⟨i, h1, h2⟩ := info_z Try.z104; exact ⟨i, _, h1, h2, rfl⟩⟩
instance : TySl Try.prog 104 122 4 32 := ⟨Try.underlying104, info_s (z := .agg #[.int .i64 0, .int .i64 0, .int .i64 0, .int .i64 0]) (by kernel_rfl) rfl, by decide⟩
-- 106: impl.OperatorBook
instance : TyN Try.prog 106 3 := ⟨info_n (by kernel_rfl)⟩
instance : TyAg Try.prog 106 3 := ⟨fun w => by kernel_rfl, info_n (by kernel_rfl)⟩
theorem Try.z106 : (Try.prog.info? 106).map (·.zero) = some (some (.agg #[.int .i64 0, .slice none 0 0, .slice none 0 0])) := by kernel_rfl
instance : TyZ Try.prog 106 [.d false (.i .i64 0), .nil, .nil] := ⟨by obtain ⟨i, h1, h2⟩ := info_z Try.z106; exact ⟨i, _, h1, h2, rfl⟩⟩
instance : TyE Try.prog 106 [.i .i64 0, .l [], .l []] := ⟨by obtain ⟨i, h1, h2⟩ := info_z Try.z106; exact ⟨i, _, h1, h2, rfl⟩⟩
instance : TyB Try.prog 106 [(0, 1), (1, 1), (2, 1)] := ⟨_, Try.underlying106, fun w => by kernel_rfl⟩
instance : TyF Try.prog 106 0 0 3 := ⟨_, _, Try.underlying106, rfl, rfl, rfl, info_f (n := 1) (by kernel_rfl) (by decide)⟩
instance : TyF Try.prog 106 1 1 104 := ⟨_, _, Try.underlying106, rfl, rfl, rfl, info_f (n := 1) (by kernel_rfl) (by decide)⟩
instance : TyF Try.prog 106 2 2 104 := ⟨_, _, Try.underlying106, rfl, rfl, rfl, info_f (n := 1) (by kernel_rfl) (by decide)⟩
-- 117: spec.l1Cur
instance : TyN Try.prog 117 3 := ⟨info_n (by kernel_rfl)⟩
instance : TyAg Try.prog 117 3 := ⟨fun w => by kernel_rfl, info_n (by kernel_rfl)⟩
theorem Try.z117 : (Try.prog.info? 117).map (·.zero) = some (some (.agg #[.slice none 0 0, .int .i64 0, .int .i64 0])) := by kernel_rfl
instance : TyZ Try.prog 117 [.nil, .d false (.i .i64 0), .d false (.i .i64 0)] := ⟨by obtain ⟨i, h1, h2⟩ := info_z Try.z117; exact ⟨i, _, h1, h2, rfl⟩⟩
instance : TyE Try.prog 117 [.l [], .i .i64 0, .i .i64 0] := ⟨by obtain ⟨i, h1, h2⟩ := info_z Try.z117; exact ⟨i, _, h1, h2, rfl⟩⟩
instance : TyB Try.prog 117 [(0, 1), (1, 1), (2, 1)] := ⟨_, Try.underlying117, fun w => by kernel_rfl⟩
instance : TyF Try.prog 117 0 0 24 := ⟨_, _, Try.underlying117, rfl, rfl, rfl, info_f (n := 1) (by kernel_rfl) (by decide)⟩
instance : TyF Try.prog 117 1 1 3 := ⟨_, _, Try.underlying117, rfl, rfl, rfl, info_f (n := 1) (by kernel_rfl) (by decide)⟩
instance : TyF Try.prog 117 2 2 3 := ⟨_, _, Try.underlying117, rfl, rfl, rfl, info_f (n := 1) (by kernel_rfl) (by decide)⟩
-- 122: impl.UsageRecord
instance : TyN Try.prog 122 4 := ⟨info_n (by kernel_rfl)⟩
instance : TyAg Try.prog 122 4 := ⟨fun w => by kernel_rfl, info_n (by kernel_rfl)⟩
theorem Try.z122 : (Try.prog.info? 122).map (·.zero) = some (some (.agg #[.int .i64 0, .int .i64 0, .int .i64 0, .int .i64 0])) := by kernel_rfl
instance : TyZ Try.prog 122 [.d false (.i .i64 0), .d false (.i .i64 0), .d false (.i .i64 0), .d false (.i .i64 0)] := ⟨by obtain ⟨i, h1, h2⟩ := info_z Try.z122; exact ⟨i, _, h1, h2, rfl⟩⟩
instance : TyE Try.prog 122 [.i .i64 0, .i .i64 0, .i .i64 0, .i .i64 0] := ⟨by obtain ⟨i, h1, h2⟩ := info_z Try.z122; exact ⟨i, _, h1, h2, rfl⟩⟩
instance : TyB Try.prog 122 [(0, 1), (1, 1), (2, 1), (3, 1)] := ⟨_, Try.underlying122, fun w => by kernel_rfl⟩
instance : TyF Try.prog 122 0 0 3 := ⟨_, _, Try.underlying122, rfl, rfl, rfl, info_f (n := 1) (by kernel_rfl) (by decide)⟩
instance : TyF Try.prog 122 1 1 3 := ⟨_, _, Try.underlying122, rfl, rfl, rfl, info_f (n := 1) (by kernel_rfl) (by decide)⟩
instance : TyF Try.prog 122 2 2 3 := ⟨_, _, Try.underlying122, rfl, rfl, rfl, info_f (n := 1) (by kernel_rfl) (by decide)⟩
instance : TyF Try.prog 122 3 3 3 := ⟨_, _, Try.underlying122, rfl, rfl, rfl, info_f (n := 1) (by kernel_rfl) (by decide)⟩
-- 124: laws.UsageRecord
instance : TyN Try.prog 124 4 := ⟨info_n (by kernel_rfl)⟩
instance : TyAg Try.prog 124 4 := ⟨fun w => by kernel_rfl, info_n (by kernel_rfl)⟩
theorem Try.z124 : (Try.prog.info? 124).map (·.zero) = some (some (.agg #[.int .i64 0, .int .i64 0, .int .i64 0, .int .i64 0])) := by kernel_rfl
instance : TyZ Try.prog 124 [.d false (.i .i64 0), .d false (.i .i64 0), .d false (.i .i64 0), .d false (.i .i64 0)] := ⟨by obtain ⟨i, h1, h2⟩ := info_z Try.z124; exact ⟨i, _, h1, h2, rfl⟩⟩
instance : TyE Try.prog 124 [.i .i64 0, .i .i64 0, .i .i64 0, .i .i64 0] := ⟨by obtain ⟨i, h1, h2⟩ := info_z Try.z124; exact ⟨i, _, h1, h2, rfl⟩⟩
instance : TyB Try.prog 124 [(0, 1), (1, 1), (2, 1), (3, 1)] := ⟨_, Try.underlying124, fun w => by kernel_rfl⟩
instance : TyF Try.prog 124 0 0 3 := ⟨_, _, Try.underlying124, rfl, rfl, rfl, info_f (n := 1) (by kernel_rfl) (by decide)⟩
instance : TyF Try.prog 124 1 1 3 := ⟨_, _, Try.underlying124, rfl, rfl, rfl, info_f (n := 1) (by kernel_rfl) (by decide)⟩
instance : TyF Try.prog 124 2 2 3 := ⟨_, _, Try.underlying124, rfl, rfl, rfl, info_f (n := 1) (by kernel_rfl) (by decide)⟩
instance : TyF Try.prog 124 3 3 3 := ⟨_, _, Try.underlying124, rfl, rfl, rfl, info_f (n := 1) (by kernel_rfl) (by decide)⟩
theorem Try.sh3 : HasSh Try.prog 3 [.i .i64] := .int Try.underlying3
theorem Try.sh4 : HasSh Try.prog 4 [.b] := .bool Try.underlying4
theorem Try.sh5 : HasSh Try.prog 5 [.i .u8] := .int Try.underlying5
theorem Try.sh9 : HasSh Try.prog 9 [.str] := .string Try.underlying9
theorem Try.sh24 : HasSh Try.prog 24 [.l [.i .u8]] := .slice Try.underlying24 Try.sh5 (by kernel_rfl) (by decide)
theorem Try.sh88 : HasSh Try.prog 88 [.i .i64, .i .i64, .i .i64] := .struct (ss := [.i .i64, .i .i64, .i .i64]) Try.underlying88 (HasFs.cons (s1 := [.i .i64]) (s2 := [.i .i64, .i .i64]) rfl Try.sh3 (by kernel_rfl) (HasFs.cons (s1 := [.i .i64]) (s2 := [.i .i64]) rfl Try.sh3 (by kernel_rfl) (HasFs.cons (s1 := [.i .i64]) (s2 := []) rfl Try.sh3 (by kernel_rfl) (HasFs.nil)))) (by kernel_rfl)
theorem Try.sh29 : HasSh Try.prog 29 [.l [.i .i64, .i .i64, .i .i64]] := .slice Try.underlying29 Try.sh88 (by kernel_rfl) (by decide)
theorem Try.sh65 : HasSh Try.prog 65 [.i .i64, .i .i64, .i .i64] := .struct (ss := [.i .i64, .i .i64, .i .i64]) Try.underlying65 (HasFs.cons (s1 := [.i .i64]) (s2 := [.i .i64, .i .i64]) rfl Try.sh3 (by kernel_rfl) (HasFs.cons (s1 := [.i .i64]) (s2 := [.i .i64]) rfl Try.sh3 (by kernel_rfl) (HasFs.cons (s1 := [.i .i64]) (s2 := []) rfl Try.sh3 (by kernel_rfl) (HasFs.nil)))) (by kernel_rfl)
theorem Try.sh32 : HasSh Try.prog 32 [.l [.i .i64, .i .i64, .i .i64]] := .slice Try.underlying32 Try.sh65 (by kernel_rfl) (by decide)
theorem Try.sh37 : HasSh Try.prog 37 [.l [.i .i64]] := .slice Try.underlying37 Try.sh3 (by kernel_rfl) (by decide)
theorem Try.sh39 : HasSh Try.prog 39 [.l [.i .i64]] := .struct (ss := [.l [.i .i64]]) Try.underlying39 (HasFs.cons (s1 := [.l [.i .i64]]) (s2 := []) rfl Try.sh37 (by kernel_rfl) (HasFs.nil)) (by kernel_rfl)
theorem Try.sh41 : HasSh Try.prog 41 [.i .i64, .l [.i .i64]] := .struct (ss := [.i .i64, .l [.i .i64]]) Try.underlying41 (HasFs.cons (s1 := [.i .i64]) (s2 := [.l [.i .i64]]) rfl Try.sh3 (by kernel_rfl) (HasFs.cons (s1 := [.l [.i .i64]]) (s2 := []) rfl Try.sh39 (by kernel_rfl) (HasFs.nil))) (by kernel_rfl)
theorem Try.sh42 : HasSh Try.prog 42 [.l [.i .i64, .l [.i .i64]]] := .slice Try.underlying42 Try.sh41 (by kernel_rfl) (by decide)
theorem Try.sh52 : HasSh Try.prog 52 [.i .i64, .i .i64, .i .i64, .l [.i .i64]] := .struct (ss := [.i .i64, .i .i64, .i .i64, .l [.i .i64]]) Try.underlying52 (HasFs.cons (s1 := [.i .i64]) (s2 := [.i .i64, .i .i64, .l [.i .i64]]) rfl Try.sh3 (by kernel_rfl) (HasFs.cons (s1 := [.i .i64]) (s2 := [.i .i64, .l [.i .i64]]) rfl Try.sh3 (by kernel_rfl) (HasFs.cons (s1 := [.i .i64]) (s2 := [.l [.i .i64]]) rfl Try.sh3 (by kernel_rfl) (HasFs.cons (s1 := [.l [.i .i64]]) (s2 := []) rfl Try.sh37 (by kernel_rfl) (HasFs.nil))))) (by kernel_rfl)
theorem Try.sh54 : HasSh Try.prog 54 [.i .i64, .i .i64] := .struct (ss := [.i .i64, .i .i64]) Try.underlying54 (HasFs.cons (s1 := [.i .i64]) (s2 := [.i .i64]) rfl Try.sh3 (by kernel_rfl) (HasFs.cons (s1 := [.i .i64]) (s2 := []) rfl Try.sh3 (by kernel_rfl) (HasFs.nil))) (by kernel_rfl)
theorem Try.sh57 : HasSh Try.prog 57 [.i .i64, .i .i64, .i .i64, .l [.i .i64]] := .struct (ss := [.i .i64, .i .i64, .i .i64, .l [.i .i64]]) Try.underlying57 (HasFs.cons (s1 := [.i .i64]) (s2 := [.i .i64, .i .i64, .l [.i .i64]]) rfl Try.sh3 (by kernel_rfl) (HasFs.cons (s1 := [.i .i64]) (s2 := [.i .i64, .l [.i .i64]]) rfl Try.sh3 (by kernel_rfl) (HasFs.cons (s1 := [.i .i64]) (s2 := [.l [.i .i64]]) rfl Try.sh3 (by kernel_rfl) (HasFs.cons (s1 := [.l [.i .i64]]) (s2 := []) rfl Try.sh37 (by kernel_rfl) (HasFs.nil))))) (by kernel_rfl)
theorem Try.sh59 : HasSh Try.prog 59 [.i .i64, .i .i64] := .struct (ss := [.i .i64, .i .i64]) Try.underlying59 (HasFs.cons (s1 := [.i .i64]) (s2 := [.i .i64]) rfl Try.sh3 (by kernel_rfl) (HasFs.cons (s1 := [.i .i64]) (s2 := []) rfl Try.sh3 (by kernel_rfl) (HasFs.nil))) (by kernel_rfl)
theorem Try.sh79 : HasSh Try.prog 79 [.l [.i .i64]] := .struct (ss := [.l [.i .i64]]) Try.underlying79 (HasFs.cons (s1 := [.l [.i .i64]]) (s2 := []) rfl Try.sh37 (by kernel_rfl) (HasFs.nil)) (by kernel_rfl)
theorem Try.sh97 : HasSh Try.prog 97 [.i .i64, .l [.i .i64]] := .struct (ss := [.i .i64, .l [.i .i64]]) Try.underlying97 (HasFs.cons (s1 := [.i .i64]) (s2 := [.l [.i .i64]]) rfl Try.sh3 (by kernel_rfl) (HasFs.cons (s1 := [.l [.i .i64]]) (s2 := []) rfl Try.sh79 (by kernel_rfl) (HasFs.nil))) (by kernel_rfl)
theorem Try.sh67 : HasSh Try.prog 67 [.l [.i .i64, .l [.i .i64]]] := .slice Try.underlying67 Try.sh97 (by kernel_rfl) (by decide)
theorem Try.sh124 : HasSh Try.prog 124 [.i .i64, .i .i64, .i .i64, .i .i64] := .struct (ss := [.i .i64, .i .i64, .i .i64, .i .i64]) Try.underlying124 (HasFs.cons (s1 := [.i .i64]) (s2 := [.i .i64, .i .i64, .i .i64]) rfl Try.sh3 (by kernel_rfl) (HasFs.cons (s1 := [.i .i64]) (s2 := [.i .i64, .i .i64]) rfl Try.sh3 (by kernel_rfl) (HasFs.cons (s1 := [.i .i64]) (s2 := [.i .i64]) rfl Try.sh3 (by kernel_rfl) (HasFs.cons (s1 := [.i .i64]) (s2 := []) rfl Try.sh3 (by kernel_rfl) (HasFs.nil))))) (by kernel_rfl)
theorem Try.sh101 : HasSh Try.prog 101 [.l [.i .i64, .i .i64, .i .i64, .i .i64]] := .slice Try.underlying101 Try.sh124 (by kernel_rfl) (by decide)
theorem Try.sh103 : HasSh Try.prog 103 [.i .i64, .l [.i .i64, .i .i64, .i .i64, .i .i64], .l [.i .i64, .i .i64, .i .i64, .i .i64]] := .struct (ss := [.i .i64, .l [.i .i64, .i .i64, .i .i64, .i .i64], .l [.i .i64, .i .i64, .i .i64, .i .i64]]) Try.underlying103 (HasFs.cons (s1 := [.i .i64]) (s2 := [.l [.i .i64, .i .i64, .i .i64, .i .i64], .l [.i .i64, .i .i64, .i .i64, .i .i64]]) rfl Try.sh3 (by kernel_rfl) (HasFs.cons (s1 := [.l [.i .i64, .i .i64, .i .i64, .i .i64]]) (s2 := [.l [.i .i64, .i .i64, .i .i64, .i .i64]]) rfl Try.sh101 (by kernel_rfl) (HasFs.cons (s1 := [.l [.i .i64, .i .i64, .i .i64, .i .i64]]) (s2 := []) rfl Try.sh101 (by kernel_rfl) (HasFs.nil)))) (by kernel_rfl)
theorem Try.sh72 : HasSh Try.prog 72 [.l [.i .i64, .l [.i .i64, .i .i64, .i .i64, .i .i64], .l [.i .i64, .i .i64, .i .i64, .i .i64]]] := .slice Try.underlying72 Try.sh103 (by kernel_rfl) (by decide)
theorem Try.sh122 : HasSh Try.prog 122 [.i .i64, .i .i64, .i .i64, .i .i64] := .struct (ss := [.i .i64, .i .i64, .i .i64, .i .i64]) Try.underlying122 (HasFs.cons (s1 := [.i .i64]) (s2 := [.i .i64, .i .i64, .i .i64]) rfl Try.sh3 (by kernel_rfl) (HasFs.cons (s1 := [.i .i64]) (s2 := [.i .i64, .i .i64]) rfl Try.sh3 (by kernel_rfl) (HasFs.cons (s1 := [.i .i64]) (s2 := [.i .i64]) rfl Try.sh3 (by kernel_rfl) (HasFs.cons (s1 := [.i .i64]) (s2 := []) rfl Try.sh3 (by kernel_rfl) (HasFs.nil))))) (by kernel_rfl)
theorem Try.sh104 : HasSh Try.prog 104 [.l [.i .i64, .i .i64, .i .i64, .i .i64]] := .slice Try.underlying104 Try.sh122 (by kernel_rfl) (by decide)
theorem Try.sh106 : HasSh Try.prog 106 [.i .i64, .l [.i .i64, .i .i64, .i .i64, .i .i64], .l [.i .i64, .i .i64, .i .i64, .i .i64]] := .struct (ss := [.i .i64, .l [.i .i64, .i .i64, .i .i64, .i .i64], .l [.i .i64, .i .i64, .i .i64, .i .i64]]) Try.underlying106 (HasFs.cons (s1 := [.i .i64]) (s2 := [.l [.i .i64, .i .i64, .i .i64, .i .i64], .l [.i .i64, .i .i64, .i .i64, .i .i64]]) rfl Try.sh3 (by kernel_rfl) (HasFs.cons (s1 := [.l [.i .i64, .i .i64, .i .i64, .i .i64]]) (s2 := [.l [.i .i64, .i .i64, .i .i64, .i .i64]]) rfl Try.sh104 (by kernel_rfl) (HasFs.cons (s1 := [.l [.i .i64, .i .i64, .i .i64, .i .i64]]) (s2 := []) rfl Try.sh104 (by kernel_rfl) (HasFs.nil)))) (by kernel_rfl)
theorem Try.sh75 : HasSh Try.prog 75 [.l [.i .i64, .l [.i .i64, .i .i64, .i .i64, .i .i64], .l [.i .i64, .i .i64, .i .i64, .i .i64]]] := .slice Try.underlying75 Try.sh106 (by kernel_rfl) (by decide)
theorem Try.sh84 : HasSh Try.prog 84 [.l [.str]] := .slice Try.underlying84 Try.sh9 (by kernel_rfl) (by decide)
theorem Try.sh117 : HasSh Try.prog 117 [.l [.i .u8], .i .i64, .i .i64] := .struct (ss := [.l [.i .u8], .i .i64, .i .i64]) Try.underlying117 (HasFs.cons (s1 := [.l [.i .u8]]) (s2 := [.i .i64, .i .i64]) rfl Try.sh24 (by kernel_rfl) (HasFs.cons (s1 := [.i .i64]) (s2 := [.i .i64]) rfl Try.sh3 (by kernel_rfl) (HasFs.cons (s1 := [.i .i64]) (s2 := []) rfl Try.sh3 (by kernel_rfl) (HasFs.nil)))) (by kernel_rfl)
theorem Try.eqa54 : EqA Try.prog 2 54 [.i .i64, .i .i64] := eqA_struct (k := 1) Try.underlying54 (by kernel_rfl) (eqF_s rfl (by decide) inferInstance (eqS_int Try.underlying3) (eqF_s rfl (by decide) inferInstance (eqS_int Try.underlying3) (eqF_nil)))
instance : TyEq Try.prog 54 [.i .i64, .i .i64] := ⟨⟨2, by decide, Try.eqa54⟩, by kernel_rfl⟩
theorem Try.eqa59 : EqA Try.prog 2 59 [.i .i64, .i .i64] := eqA_struct (k := 1) Try.underlying59 (by kernel_rfl) (eqF_s rfl (by decide) inferInstance (eqS_int Try.underlying3) (eqF_s rfl (by decide) inferInstance (eqS_int Try.underlying3) (eqF_nil)))
instance : TyEq Try.prog 59 [.i .i64, .i .i64] := ⟨⟨2, by decide, Try.eqa59⟩, by kernel_rfl⟩
theorem Try.eqa65 : EqA Try.prog 2 65 [.i .i64, .i .i64, .i .i64] := eqA_struct (k := 1) Try.underlying65 (by kernel_rfl) (eqF_s rfl (by decide) inferInstance (eqS_int Try.underlying3) (eqF_s rfl (by decide) inferInstance (eqS_int Try.underlying3) (eqF_s rfl (by decide) inferInstance (eqS_int Try.underlying3) (eqF_nil))))
instance : TyEq Try.prog 65 [.i .i64, .i .i64, .i .i64] := ⟨⟨2, by decide, Try.eqa65⟩, by kernel_rfl⟩
theorem Try.eqa88 : EqA Try.prog 2 88 [.i .i64, .i .i64, .i .i64] := eqA_struct (k := 1) Try.underlying88 (by kernel_rfl) (eqF_s rfl (by decide) inferInstance (eqS_int Try.underlying3) (eqF_s rfl (by decide) inferInstance (eqS_int Try.underlying3) (eqF_s rfl (by decide) inferInstance (eqS_int Try.underlying3) (eqF_nil))))
instance : TyEq Try.prog 88 [.i .i64, .i .i64, .i .i64] := ⟨⟨2, by decide, Try.eqa88⟩, by kernel_rfl⟩
theorem Try.eqa122 : EqA Try.prog 2 122 [.i .i64, .i .i64, .i .i64, .i .i64] := eqA_struct (k := 1) Try.underlying122 (by kernel_rfl) (eqF_s rfl (by decide) inferInstance (eqS_int Try.underlying3) (eqF_s rfl (by decide) inferInstance (eqS_int Try.underlying3) (eqF_s rfl (by decide) inferInstance (eqS_int Try.underlying3) (eqF_s rfl (by decide) inferInstance (eqS_int Try.underlying3) (eqF_nil)))))
instance : TyEq Try.prog 122 [.i .i64, .i .i64, .i .i64, .i .i64] := ⟨⟨2, by decide, Try.eqa122⟩, by kernel_rfl⟩
theorem Try.eqa124 : EqA Try.prog 2 124 [.i .i64, .i .i64, .i .i64, .i .i64] := eqA_struct (k := 1) Try.underlying124 (by kernel_rfl) (eqF_s rfl (by decide) inferInstance (eqS_int Try.underlying3) (eqF_s rfl (by decide) inferInstance (eqS_int Try.underlying3) (eqF_s rfl (by decide) inferInstance (eqS_int Try.underlying3) (eqF_s rfl (by decide) inferInstance (eqS_int Try.underlying3) (eqF_nil)))))
instance : TyEq Try.prog 124 [.i .i64, .i .i64, .i .i64, .i .i64] := ⟨⟨2, by decide, Try.eqa124⟩, by kernel_rfl⟩
theorem Try.follows : Try.prog.follows .mixedOrders = true := by kernel_rfl
structure TKeyPath where
  Steps : List Int
  deriving DecidableEq, Inhabited
def eTKeyPath (a : TKeyPath) : List D := [.l (a.Steps.map eI)]
structure TLeakedKey where
  Generation : Int
  Path : TKeyPath
  deriving DecidableEq, Inhabited
def eTLeakedKey (a : TLeakedKey) : List D := [.i .i64 a.Generation, .l (a.Path.Steps.map eI)]
structure TSubscription where
  RateLimit : Int
  BestClass : Int
  GrantSize : Int
  RoamingNetworks : List Int
  deriving DecidableEq, Inhabited
def eTSubscription (a : TSubscription) : List D := [.i .i64 a.RateLimit, .i .i64 a.BestClass, .i .i64 a.GrantSize, .l (a.RoamingNetworks.map eI)]
structure TSubscriberID where
  Network : Int
  Number : Int
  deriving DecidableEq, Inhabited
def eTSubscriberID (a : TSubscriberID) : List D := [.i .i64 a.Network, .i .i64 a.Number]
structure TStatementLine where
  Payer : Int
  Payee : Int
  Amount : Int
  deriving DecidableEq, Inhabited
def eTStatementLine (a : TStatementLine) : List D := [.i .i64 a.Payer, .i .i64 a.Payee, .i .i64 a.Amount]
structure TUsageRecord where
  Network : Int
  SessionID : Int
  Seq : Int
  Bytes : Int
  deriving DecidableEq, Inhabited
def eTUsageRecord (a : TUsageRecord) : List D := [.i .i64 a.Network, .i .i64 a.SessionID, .i .i64 a.Seq, .i .i64 a.Bytes]
structure TOperatorBook where
  Network : Int
  Own : List TUsageRecord
  Claims : List TUsageRecord
  deriving DecidableEq, Inhabited
def eTOperatorBook (a : TOperatorBook) : List D := [.i .i64 a.Network, .l (a.Own.map eTUsageRecord), .l (a.Claims.map eTUsageRecord)]
structure Tl1Cur where
  fb : List Int
  fi : Int
  fh : Int
  deriving DecidableEq, Inhabited
def eTl1Cur (a : Tl1Cur) : List D := [.l (a.fb.map eU8), .i .i64 a.fi, .i .i64 a.fh]
end Go.AM
