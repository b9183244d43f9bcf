/-
  Facts on the types of this translation, laid by program.
-/
import Derived.Test.YtmfccbgmdnhkfaaAmZc
import Derived.Test.YtmfccbgmdnhkfaaAmO
import Derived.Test.YtmfccbgmdnhkfaaProg
namespace Go.AM
open Go.Proofs
theorem info_n {P : Program} {t : TypeId} {n : Nat} (h : (P.info? t).map (·.size) = some n) : ∃ i, P.info? t = some i ∧ i.size = n := by
  cases hi : P.info? t with
  | none => simp [hi] at h
  | some i => simp [hi] at h; exact ⟨i, rfl, h⟩
theorem info_z {P : Program} {t : TypeId} {z : Value} (h : (P.info? t).map (·.zero) = some (some z)) : ∃ i, P.info? t = some i ∧ i.zero = some z := by
  cases hi : P.info? t with
  | none => simp [hi] at h
  | some i => simp [hi] at h; exact ⟨i, rfl, h⟩
theorem info_s {P : Program} {t : TypeId} {z : Value} {n b : Nat} (h : (P.info? t).map (fun i => (i.size, i.bytes, i.zero)) = some (n, b, some z)) (hz : z.cells.size = n) : ∃ i z, P.info? t = some i ∧ i.size = n ∧ i.bytes = b ∧ i.zero = some z ∧ z.cells.size = n := by
  cases hi : P.info? t with
  | none => simp [hi] at h
  | some i => simp [hi] at h; exact ⟨i, z, rfl, h.1, h.2.1, h.2.2, hz⟩
theorem info_f {P : Program} {t : TypeId} {n : Nat} (h : (P.info? t).map (·.size) = some n) (hn : n ≠ 0) : ∃ i, P.info? t = some i ∧ i.size ≠ 0 := by
  cases hi : P.info? t with
  | none => simp [hi] at h
  | some i => simp [hi] at h; exact ⟨i, rfl, by omega⟩
-- 3: int
instance : TyN Try.prog 3 1 := ⟨info_n (by kernel_rfl)⟩
instance : TySc Try.prog 3 := ⟨fun w => by kernel_rfl, info_n (by kernel_rfl)⟩
instance : TyU Try.prog 3 (.int .i64) := ⟨Try.underlying3⟩
theorem Try.z3 : (Try.prog.info? 3).map (·.zero) = some (some (.int .i64 0)) := by kernel_rfl
instance : TyZ Try.prog 3 [.d false (.i .i64 0)] := ⟨by obtain ⟨i, h1, h2⟩ := info_z Try.z3; exact ⟨i, _, h1, h2, rfl⟩⟩
instance : TyE Try.prog 3 [.i .i64 0] := ⟨by obtain ⟨i, h1, h2⟩ := info_z Try.z3; exact ⟨i, _, h1, h2, rfl⟩⟩
-- 4: bool
instance : TyN Try.prog 4 1 := ⟨info_n (by kernel_rfl)⟩
instance : TySc Try.prog 4 := ⟨fun w => by kernel_rfl, info_n (by kernel_rfl)⟩
instance : TyU Try.prog 4 (.bool) := ⟨Try.underlying4⟩
theorem Try.z4 : (Try.prog.info? 4).map (·.zero) = some (some (.bool false)) := by kernel_rfl
instance : TyZ Try.prog 4 [.d false (.b false)] := ⟨by obtain ⟨i, h1, h2⟩ := info_z Try.z4; exact ⟨i, _, h1, h2, rfl⟩⟩
instance : TyE Try.prog 4 [.b false] := ⟨by obtain ⟨i, h1, h2⟩ := info_z Try.z4; exact ⟨i, _, h1, h2, rfl⟩⟩
-- 5: uint8
instance : TyN Try.prog 5 1 := ⟨info_n (by kernel_rfl)⟩
instance : TySc Try.prog 5 := ⟨fun w => by kernel_rfl, info_n (by kernel_rfl)⟩
instance : TyU Try.prog 5 (.int .u8) := ⟨Try.underlying5⟩
theorem Try.z5 : (Try.prog.info? 5).map (·.zero) = some (some (.int .u8 0)) := by kernel_rfl
instance : TyZ Try.prog 5 [.d false (.i .u8 0)] := ⟨by obtain ⟨i, h1, h2⟩ := info_z Try.z5; exact ⟨i, _, h1, h2, rfl⟩⟩
instance : TyE Try.prog 5 [.i .u8 0] := ⟨by obtain ⟨i, h1, h2⟩ := info_z Try.z5; exact ⟨i, _, h1, h2, rfl⟩⟩
-- 9: string
instance : TyN Try.prog 9 1 := ⟨info_n (by kernel_rfl)⟩
instance : TySc Try.prog 9 := ⟨fun w => by kernel_rfl, info_n (by kernel_rfl)⟩
instance : TyU Try.prog 9 (.string) := ⟨Try.underlying9⟩
theorem Try.z9 : (Try.prog.info? 9).map (·.zero) = some (some (.string ⟨#[]⟩)) := by kernel_rfl
instance : TyZ Try.prog 9 [.d false (.str ⟨#[]⟩)] := ⟨by obtain ⟨i, h1, h2⟩ := info_z Try.z9; exact ⟨i, _, h1, h2, rfl⟩⟩
instance : TyE Try.prog 9 [.str ⟨#[]⟩] := ⟨by obtain ⟨i, h1, h2⟩ := info_z Try.z9; exact ⟨i, _, h1, h2, rfl⟩⟩
-- 22: []uint8
instance : TyN Try.prog 22 1 := ⟨info_n (by kernel_rfl)⟩
instance : TySc Try.prog 22 := ⟨fun w => by kernel_rfl, info_n (by kernel_rfl)⟩
theorem Try.z22 : (Try.prog.info? 22).map (·.zero) = some (some (.slice none 0 0)) := by kernel_rfl
instance : TyZ Try.prog 22 [.nil] := ⟨by obtain ⟨i, h1, h2⟩ := info_z Try.z22; exact ⟨i, _, h1, h2, rfl⟩⟩
instance : TyE Try.prog 22 [.l []] := ⟨by obtain ⟨i, h1, h2⟩ := info_z Try.z22; exact ⟨i, _, h1, h2, rfl⟩⟩
instance : TySl Try.prog 22 5 1 1 := ⟨Try.underlying22, info_s (z := .int .u8 0) (by kernel_rfl) rfl, by decide⟩
-- 24: []impl.Registration
instance : TyN Try.prog 24 1 := ⟨info_n (by kernel_rfl)⟩
instance : TySc Try.prog 24 := ⟨fun w => by kernel_rfl, info_n (by kernel_rfl)⟩
theorem Try.z24 : (Try.prog.info? 24).map (·.zero) = some (some (.slice none 0 0)) := by kernel_rfl
instance : TyZ Try.prog 24 [.nil] := ⟨by obtain ⟨i, h1, h2⟩ := info_z Try.z24; exact ⟨i, _, h1, h2, rfl⟩⟩
instance : TyE Try.prog 24 [.l []] := ⟨by obtain ⟨i, h1, h2⟩ := info_z Try.z24; exact ⟨i, _, h1, h2, rfl⟩⟩
instance : TySl Try.prog 24 34 6 48 := ⟨Try.underlying24, info_s (z := .agg #[.int .i64 0, .int .i64 0, .int .i64 0, .int .i64 0, .int .i64 0, .int .i64 0]) (by kernel_rfl) rfl, by decide⟩
-- 26: []impl.SubscriberID
instance : TyN Try.prog 26 1 := ⟨info_n (by kernel_rfl)⟩
instance : TySc Try.prog 26 := ⟨fun w => by kernel_rfl, info_n (by kernel_rfl)⟩
theorem Try.z26 : (Try.prog.info? 26).map (·.zero) = some (some (.slice none 0 0)) := by kernel_rfl
instance : TyZ Try.prog 26 [.nil] := ⟨by obtain ⟨i, h1, h2⟩ := info_z Try.z26; exact ⟨i, _, h1, h2, rfl⟩⟩
instance : TyE Try.prog 26 [.l []] := ⟨by obtain ⟨i, h1, h2⟩ := info_z Try.z26; exact ⟨i, _, h1, h2, rfl⟩⟩
instance : TySl Try.prog 26 30 2 16 := ⟨Try.underlying26, info_s (z := .agg #[.int .i64 0, .int .i64 0]) (by kernel_rfl) rfl, by decide⟩
-- 30: impl.SubscriberID
instance : TyN Try.prog 30 2 := ⟨info_n (by kernel_rfl)⟩
instance : TyAg Try.prog 30 2 := ⟨fun w => by kernel_rfl, info_n (by kernel_rfl)⟩
theorem Try.z30 : (Try.prog.info? 30).map (·.zero) = some (some (.agg #[.int .i64 0, .int .i64 0])) := by kernel_rfl
instance : TyZ Try.prog 30 [.d false (.i .i64 0), .d false (.i .i64 0)] := ⟨by obtain ⟨i, h1, h2⟩ := info_z Try.z30; exact ⟨i, _, h1, h2, rfl⟩⟩
instance : TyE Try.prog 30 [.i .i64 0, .i .i64 0] := ⟨by obtain ⟨i, h1, h2⟩ := info_z Try.z30; exact ⟨i, _, h1, h2, rfl⟩⟩
instance : TyB Try.prog 30 [(0, 1), (1, 1)] := ⟨_, Try.underlying30, fun w => by kernel_rfl⟩
instance : TyF Try.prog 30 0 0 3 := ⟨_, _, Try.underlying30, rfl, rfl, rfl, info_f (n := 1) (by kernel_rfl) (by decide)⟩
instance : TyF Try.prog 30 1 1 3 := ⟨_, _, Try.underlying30, rfl, rfl, rfl, info_f (n := 1) (by kernel_rfl) (by decide)⟩
-- 32: impl.TempID
instance : TyN Try.prog 32 2 := ⟨info_n (by kernel_rfl)⟩
instance : TyAg Try.prog 32 2 := ⟨fun w => by kernel_rfl, info_n (by kernel_rfl)⟩
theorem Try.z32 : (Try.prog.info? 32).map (·.zero) = some (some (.agg #[.int .i64 0, .int .i64 0])) := by kernel_rfl
instance : TyZ Try.prog 32 [.d false (.i .i64 0), .d false (.i .i64 0)] := ⟨by obtain ⟨i, h1, h2⟩ := info_z Try.z32; exact ⟨i, _, h1, h2, rfl⟩⟩
instance : TyE Try.prog 32 [.i .i64 0, .i .i64 0] := ⟨by obtain ⟨i, h1, h2⟩ := info_z Try.z32; exact ⟨i, _, h1, h2, rfl⟩⟩
instance : TyB Try.prog 32 [(0, 1), (1, 1)] := ⟨_, Try.underlying32, fun w => by kernel_rfl⟩
instance : TyF Try.prog 32 0 0 3 := ⟨_, _, Try.underlying32, rfl, rfl, rfl, info_f (n := 1) (by kernel_rfl) (by decide)⟩
instance : TyF Try.prog 32 1 1 3 := ⟨_, _, Try.underlying32, rfl, rfl, rfl, info_f (n := 1) (by kernel_rfl) (by decide)⟩
-- 34: impl.Registration
instance : TyN Try.prog 34 6 := ⟨info_n (by kernel_rfl)⟩
instance : TyAg Try.prog 34 6 := ⟨fun w => by kernel_rfl, info_n (by kernel_rfl)⟩
theorem Try.z34 : (Try.prog.info? 34).map (·.zero) = some (some (.agg #[.int .i64 0, .int .i64 0, .int .i64 0, .int .i64 0, .int .i64 0, .int .i64 0])) := by kernel_rfl
instance : TyZ Try.prog 34 [.d false (.i .i64 0), .d false (.i .i64 0), .d false (.i .i64 0), .d false (.i .i64 0), .d false (.i .i64 0), .d false (.i .i64 0)] := ⟨by obtain ⟨i, h1, h2⟩ := info_z Try.z34; exact ⟨i, _, h1, h2, rfl⟩⟩
instance : TyE Try.prog 34 [.i .i64 0, .i .i64 0, .i .i64 0, .i .i64 0, .i .i64 0, .i .i64 0] := ⟨by obtain ⟨i, h1, h2⟩ := info_z Try.z34; exact ⟨i, _, h1, h2, rfl⟩⟩
instance : TyB Try.prog 34 [(0, 2), (2, 1), (3, 1), (4, 2)] := ⟨_, Try.underlying34, fun w => by kernel_rfl⟩
instance : TyF Try.prog 34 0 0 30 := ⟨_, _, Try.underlying34, rfl, rfl, rfl, info_f (n := 2) (by kernel_rfl) (by decide)⟩
instance : TyF Try.prog 34 1 2 3 := ⟨_, _, Try.underlying34, rfl, rfl, rfl, info_f (n := 1) (by kernel_rfl) (by decide)⟩
instance : TyF Try.prog 34 2 3 3 := ⟨_, _, Try.underlying34, rfl, rfl, rfl, info_f (n := 1) (by kernel_rfl) (by decide)⟩
instance : TyF Try.prog 34 3 4 32 := ⟨_, _, Try.underlying34, rfl, rfl, rfl, info_f (n := 2) (by kernel_rfl) (by decide)⟩
-- 35: []impl.TempID
instance : TyN Try.prog 35 1 := ⟨info_n (by kernel_rfl)⟩
instance : TySc Try.prog 35 := ⟨fun w => by kernel_rfl, info_n (by kernel_rfl)⟩
theorem Try.z35 : (Try.prog.info? 35).map (·.zero) = some (some (.slice none 0 0)) := by kernel_rfl
instance : TyZ Try.prog 35 [.nil] := ⟨by obtain ⟨i, h1, h2⟩ := info_z Try.z35; exact ⟨i, _, h1, h2, rfl⟩⟩
instance : TyE Try.prog 35 [.l []] := ⟨by obtain ⟨i, h1, h2⟩ := info_z Try.z35; exact ⟨i, _, h1, h2, rfl⟩⟩
instance : TySl Try.prog 35 32 2 16 := ⟨Try.underlying35, info_s (z := .agg #[.int .i64 0, .int .i64 0]) (by kernel_rfl) rfl, by decide⟩
-- 38: []int
instance : TyN Try.prog 38 1 := ⟨info_n (by kernel_rfl)⟩
instance : TySc Try.prog 38 := ⟨fun w => by kernel_rfl, info_n (by kernel_rfl)⟩
theorem Try.z38 : (Try.prog.info? 38).map (·.zero) = some (some (.slice none 0 0)) := by kernel_rfl
instance : TyZ Try.prog 38 [.nil] := ⟨by obtain ⟨i, h1, h2⟩ := info_z Try.z38; exact ⟨i, _, h1, h2, rfl⟩⟩
instance : TyE Try.prog 38 [.l []] := ⟨by obtain ⟨i, h1, h2⟩ := info_z Try.z38; exact ⟨i, _, h1, h2, rfl⟩⟩
instance : TySl Try.prog 38 3 1 8 := ⟨Try.underlying38, info_s (z := .int .i64 0) (by kernel_rfl) rfl, by decide⟩
-- 40: impl.Subscription
instance : TyN Try.prog 40 4 := ⟨info_n (by kernel_rfl)⟩
instance : TyAg Try.prog 40 4 := ⟨fun w => by kernel_rfl, info_n (by kernel_rfl)⟩
theorem Try.z40 : (Try.prog.info? 40).map (·.zero) = some (some (.agg #[.int .i64 0, .int .i64 0, .int .i64 0, .slice none 0 0])) := by kernel_rfl
instance : TyZ Try.prog 40 [.d false (.i .i64 0), .d false (.i .i64 0), .d false (.i .i64 0), .nil] := ⟨by obtain ⟨i, h1, h2⟩ := info_z Try.z40; exact ⟨i, _, h1, h2, rfl⟩⟩
instance : TyE Try.prog 40 [.i .i64 0, .i .i64 0, .i .i64 0, .l []] := ⟨by obtain ⟨i, h1, h2⟩ := info_z Try.z40; exact ⟨i, _, h1, h2, rfl⟩⟩
instance : TyB Try.prog 40 [(0, 1), (1, 1), (2, 1), (3, 1)] := ⟨_, Try.underlying40, fun w => by kernel_rfl⟩
instance : TyF Try.prog 40 0 0 3 := ⟨_, _, Try.underlying40, rfl, rfl, rfl, info_f (n := 1) (by kernel_rfl) (by decide)⟩
instance : TyF Try.prog 40 1 1 3 := ⟨_, _, Try.underlying40, rfl, rfl, rfl, info_f (n := 1) (by kernel_rfl) (by decide)⟩
instance : TyF Try.prog 40 2 2 3 := ⟨_, _, Try.underlying40, rfl, rfl, rfl, info_f (n := 1) (by kernel_rfl) (by decide)⟩
instance : TyF Try.prog 40 3 3 38 := ⟨_, _, Try.underlying40, rfl, rfl, rfl, info_f (n := 1) (by kernel_rfl) (by decide)⟩
-- 41: []impl.RoamingAgreement
instance : TyN Try.prog 41 1 := ⟨info_n (by kernel_rfl)⟩
instance : TySc Try.prog 41 := ⟨fun w => by kernel_rfl, info_n (by kernel_rfl)⟩
theorem Try.z41 : (Try.prog.info? 41).map (·.zero) = some (some (.slice none 0 0)) := by kernel_rfl
instance : TyZ Try.prog 41 [.nil] := ⟨by obtain ⟨i, h1, h2⟩ := info_z Try.z41; exact ⟨i, _, h1, h2, rfl⟩⟩
instance : TyE Try.prog 41 [.l []] := ⟨by obtain ⟨i, h1, h2⟩ := info_z Try.z41; exact ⟨i, _, h1, h2, rfl⟩⟩
instance : TySl Try.prog 41 52 4 32 := ⟨Try.underlying41, info_s (z := .agg #[.int .i64 0, .int .i64 0, .int .i64 0, .int .i64 0]) (by kernel_rfl) rfl, by decide⟩
-- 52: impl.RoamingAgreement
instance : TyN Try.prog 52 4 := ⟨info_n (by kernel_rfl)⟩
instance : TyAg Try.prog 52 4 := ⟨fun w => by kernel_rfl, info_n (by kernel_rfl)⟩
theorem Try.z52 : (Try.prog.info? 52).map (·.zero) = some (some (.agg #[.int .i64 0, .int .i64 0, .int .i64 0, .int .i64 0])) := by kernel_rfl
instance : TyZ Try.prog 52 [.d false (.i .i64 0), .d false (.i .i64 0), .d false (.i .i64 0), .d false (.i .i64 0)] := ⟨by obtain ⟨i, h1, h2⟩ := info_z Try.z52; exact ⟨i, _, h1, h2, rfl⟩⟩
instance : TyE Try.prog 52 [.i .i64 0, .i .i64 0, .i .i64 0, .i .i64 0] := ⟨by obtain ⟨i, h1, h2⟩ := info_z Try.z52; exact ⟨i, _, h1, h2, rfl⟩⟩
instance : TyB Try.prog 52 [(0, 1), (1, 1), (2, 1), (3, 1)] := ⟨_, Try.underlying52, fun w => by kernel_rfl⟩
instance : TyF Try.prog 52 0 0 3 := ⟨_, _, Try.underlying52, rfl, rfl, rfl, info_f (n := 1) (by kernel_rfl) (by decide)⟩
instance : TyF Try.prog 52 1 1 3 := ⟨_, _, Try.underlying52, rfl, rfl, rfl, info_f (n := 1) (by kernel_rfl) (by decide)⟩
instance : TyF Try.prog 52 2 2 3 := ⟨_, _, Try.underlying52, rfl, rfl, rfl, info_f (n := 1) (by kernel_rfl) (by decide)⟩
instance : TyF Try.prog 52 3 3 3 := ⟨_, _, Try.underlying52, rfl, rfl, rfl, info_f (n := 1) (by kernel_rfl) (by decide)⟩
-- 57: impl.RoamingResult
instance : TyN Try.prog 57 5 := ⟨info_n (by kernel_rfl)⟩
instance : TyAg Try.prog 57 5 := ⟨fun w => by kernel_rfl, info_n (by kernel_rfl)⟩
theorem Try.z57 : (Try.prog.info? 57).map (·.zero) = some (some (.agg #[.int .i64 0, .slice none 0 0, .int .i64 0, .int .i64 0, .int .i64 0])) := by kernel_rfl
instance : TyZ Try.prog 57 [.d false (.i .i64 0), .nil, .d false (.i .i64 0), .d false (.i .i64 0), .d false (.i .i64 0)] := ⟨by obtain ⟨i, h1, h2⟩ := info_z Try.z57; exact ⟨i, _, h1, h2, rfl⟩⟩
instance : TyE Try.prog 57 [.i .i64 0, .l [], .i .i64 0, .i .i64 0, .i .i64 0] := ⟨by obtain ⟨i, h1, h2⟩ := info_z Try.z57; exact ⟨i, _, h1, h2, rfl⟩⟩
instance : TyB Try.prog 57 [(0, 1), (1, 1), (2, 1), (3, 2)] := ⟨_, Try.underlying57, fun w => by kernel_rfl⟩
instance : TyF Try.prog 57 0 0 3 := ⟨_, _, Try.underlying57, rfl, rfl, rfl, info_f (n := 1) (by kernel_rfl) (by decide)⟩
instance : TyF Try.prog 57 1 1 24 := ⟨_, _, Try.underlying57, rfl, rfl, rfl, info_f (n := 1) (by kernel_rfl) (by decide)⟩
instance : TyF Try.prog 57 2 2 3 := ⟨_, _, Try.underlying57, rfl, rfl, rfl, info_f (n := 1) (by kernel_rfl) (by decide)⟩
instance : TyF Try.prog 57 3 3 32 := ⟨_, _, Try.underlying57, rfl, rfl, rfl, info_f (n := 2) (by kernel_rfl) (by decide)⟩
-- 81: spec.l1Cur
instance : TyN Try.prog 81 3 := ⟨info_n (by kernel_rfl)⟩
instance : TyAg Try.prog 81 3 := ⟨fun w => by kernel_rfl, info_n (by kernel_rfl)⟩
theorem Try.z81 : (Try.prog.info? 81).map (·.zero) = some (some (.agg #[.slice none 0 0, .int .i64 0, .int .i64 0])) := by kernel_rfl
instance : TyZ Try.prog 81 [.nil, .d false (.i .i64 0), .d false (.i .i64 0)] := ⟨by obtain ⟨i, h1, h2⟩ := info_z Try.z81; exact ⟨i, _, h1, h2, rfl⟩⟩
instance : TyE Try.prog 81 [.l [], .i .i64 0, .i .i64 0] := ⟨by obtain ⟨i, h1, h2⟩ := info_z Try.z81; exact ⟨i, _, h1, h2, rfl⟩⟩
instance : TyB Try.prog 81 [(0, 1), (1, 1), (2, 1)] := ⟨_, Try.underlying81, fun w => by kernel_rfl⟩
instance : TyF Try.prog 81 0 0 22 := ⟨_, _, Try.underlying81, rfl, rfl, rfl, info_f (n := 1) (by kernel_rfl) (by decide)⟩
instance : TyF Try.prog 81 1 1 3 := ⟨_, _, Try.underlying81, rfl, rfl, rfl, info_f (n := 1) (by kernel_rfl) (by decide)⟩
instance : TyF Try.prog 81 2 2 3 := ⟨_, _, Try.underlying81, rfl, rfl, rfl, info_f (n := 1) (by kernel_rfl) (by decide)⟩
theorem Try.sh3 : HasSh Try.prog 3 [.i .i64] := .int Try.underlying3
theorem Try.sh4 : HasSh Try.prog 4 [.b] := .bool Try.underlying4
theorem Try.sh5 : HasSh Try.prog 5 [.i .u8] := .int Try.underlying5
theorem Try.sh9 : HasSh Try.prog 9 [.str] := .string Try.underlying9
theorem Try.sh22 : HasSh Try.prog 22 [.l [.i .u8]] := .slice Try.underlying22 Try.sh5 (by kernel_rfl) (by decide)
theorem Try.sh30 : HasSh Try.prog 30 [.i .i64, .i .i64] := .struct (ss := [.i .i64, .i .i64]) Try.underlying30 (HasFs.cons (s1 := [.i .i64]) (s2 := [.i .i64]) rfl Try.sh3 (by kernel_rfl) (HasFs.cons (s1 := [.i .i64]) (s2 := []) rfl Try.sh3 (by kernel_rfl) (HasFs.nil))) (by kernel_rfl)
theorem Try.sh32 : HasSh Try.prog 32 [.i .i64, .i .i64] := .struct (ss := [.i .i64, .i .i64]) Try.underlying32 (HasFs.cons (s1 := [.i .i64]) (s2 := [.i .i64]) rfl Try.sh3 (by kernel_rfl) (HasFs.cons (s1 := [.i .i64]) (s2 := []) rfl Try.sh3 (by kernel_rfl) (HasFs.nil))) (by kernel_rfl)
theorem Try.sh34 : HasSh Try.prog 34 [.i .i64, .i .i64, .i .i64, .i .i64, .i .i64, .i .i64] := .struct (ss := [.i .i64, .i .i64, .i .i64, .i .i64, .i .i64, .i .i64]) Try.underlying34 (HasFs.cons (s1 := [.i .i64, .i .i64]) (s2 := [.i .i64, .i .i64, .i .i64, .i .i64]) rfl Try.sh30 (by kernel_rfl) (HasFs.cons (s1 := [.i .i64]) (s2 := [.i .i64, .i .i64, .i .i64]) rfl Try.sh3 (by kernel_rfl) (HasFs.cons (s1 := [.i .i64]) (s2 := [.i .i64, .i .i64]) rfl Try.sh3 (by kernel_rfl) (HasFs.cons (s1 := [.i .i64, .i .i64]) (s2 := []) rfl Try.sh32 (by kernel_rfl) (HasFs.nil))))) (by kernel_rfl)
theorem Try.sh24 : HasSh Try.prog 24 [.l [.i .i64, .i .i64, .i .i64, .i .i64, .i .i64, .i .i64]] := .slice Try.underlying24 Try.sh34 (by kernel_rfl) (by decide)
theorem Try.sh26 : HasSh Try.prog 26 [.l [.i .i64, .i .i64]] := .slice Try.underlying26 Try.sh30 (by kernel_rfl) (by decide)
theorem Try.sh35 : HasSh Try.prog 35 [.l [.i .i64, .i .i64]] := .slice Try.underlying35 Try.sh32 (by kernel_rfl) (by decide)
theorem Try.sh38 : HasSh Try.prog 38 [.l [.i .i64]] := .slice Try.underlying38 Try.sh3 (by kernel_rfl) (by decide)
theorem Try.sh40 : HasSh Try.prog 40 [.i .i64, .i .i64, .i .i64, .l [.i .i64]] := .struct (ss := [.i .i64, .i .i64, .i .i64, .l [.i .i64]]) Try.underlying40 (HasFs.cons (s1 := [.i .i64]) (s2 := [.i .i64, .i .i64, .l [.i .i64]]) rfl Try.sh3 (by kernel_rfl) (HasFs.cons (s1 := [.i .i64]) (s2 := [.i .i64, .l [.i .i64]]) rfl Try.sh3 (by kernel_rfl) (HasFs.cons (s1 := [.i .i64]) (s2 := [.l [.i .i64]]) rfl Try.sh3 (by kernel_rfl) (HasFs.cons (s1 := [.l [.i .i64]]) (s2 := []) rfl Try.sh38 (by kernel_rfl) (HasFs.nil))))) (by kernel_rfl)
theorem Try.sh52 : HasSh Try.prog 52 [.i .i64, .i .i64, .i .i64, .i .i64] := .struct (ss := [.i .i64, .i .i64, .i .i64, .i .i64]) Try.underlying52 (HasFs.cons (s1 := [.i .i64]) (s2 := [.i .i64, .i .i64, .i .i64]) rfl Try.sh3 (by kernel_rfl) (HasFs.cons (s1 := [.i .i64]) (s2 := [.i .i64, .i .i64]) rfl Try.sh3 (by kernel_rfl) (HasFs.cons (s1 := [.i .i64]) (s2 := [.i .i64]) rfl Try.sh3 (by kernel_rfl) (HasFs.cons (s1 := [.i .i64]) (s2 := []) rfl Try.sh3 (by kernel_rfl) (HasFs.nil))))) (by kernel_rfl)
theorem Try.sh41 : HasSh Try.prog 41 [.l [.i .i64, .i .i64, .i .i64, .i .i64]] := .slice Try.underlying41 Try.sh52 (by kernel_rfl) (by decide)
theorem Try.sh57 : HasSh Try.prog 57 [.i .i64, .l [.i .i64, .i .i64, .i .i64, .i .i64, .i .i64, .i .i64], .i .i64, .i .i64, .i .i64] := .struct (ss := [.i .i64, .l [.i .i64, .i .i64, .i .i64, .i .i64, .i .i64, .i .i64], .i .i64, .i .i64, .i .i64]) Try.underlying57 (HasFs.cons (s1 := [.i .i64]) (s2 := [.l [.i .i64, .i .i64, .i .i64, .i .i64, .i .i64, .i .i64], .i .i64, .i .i64, .i .i64]) rfl Try.sh3 (by kernel_rfl) (HasFs.cons (s1 := [.l [.i .i64, .i .i64, .i .i64, .i .i64, .i .i64, .i .i64]]) (s2 := [.i .i64, .i .i64, .i .i64]) rfl Try.sh24 (by kernel_rfl) (HasFs.cons (s1 := [.i .i64]) (s2 := [.i .i64, .i .i64]) rfl Try.sh3 (by kernel_rfl) (HasFs.cons (s1 := [.i .i64, .i .i64]) (s2 := []) rfl Try.sh32 (by kernel_rfl) (HasFs.nil))))) (by kernel_rfl)
theorem Try.sh81 : HasSh Try.prog 81 [.l [.i .u8], .i .i64, .i .i64] := .struct (ss := [.l [.i .u8], .i .i64, .i .i64]) Try.underlying81 (HasFs.cons (s1 := [.l [.i .u8]]) (s2 := [.i .i64, .i .i64]) rfl Try.sh22 (by kernel_rfl) (HasFs.cons (s1 := [.i .i64]) (s2 := [.i .i64]) rfl Try.sh3 (by kernel_rfl) (HasFs.cons (s1 := [.i .i64]) (s2 := []) rfl Try.sh3 (by kernel_rfl) (HasFs.nil)))) (by kernel_rfl)
theorem Try.eqa30 : EqA Try.prog 2 30 [.i .i64, .i .i64] := eqA_struct (k := 1) Try.underlying30 (by kernel_rfl) (eqF_s rfl (by decide) inferInstance (eqS_int Try.underlying3) (eqF_s rfl (by decide) inferInstance (eqS_int Try.underlying3) (eqF_nil)))
instance : TyEq Try.prog 30 [.i .i64, .i .i64] := ⟨⟨2, by decide, Try.eqa30⟩, by kernel_rfl⟩
theorem Try.eqa32 : EqA Try.prog 2 32 [.i .i64, .i .i64] := eqA_struct (k := 1) Try.underlying32 (by kernel_rfl) (eqF_s rfl (by decide) inferInstance (eqS_int Try.underlying3) (eqF_s rfl (by decide) inferInstance (eqS_int Try.underlying3) (eqF_nil)))
instance : TyEq Try.prog 32 [.i .i64, .i .i64] := ⟨⟨2, by decide, Try.eqa32⟩, by kernel_rfl⟩
theorem Try.eqa34 : EqA Try.prog 3 34 [.i .i64, .i .i64, .i .i64, .i .i64, .i .i64, .i .i64] := eqA_struct (k := 2) Try.underlying34 (by kernel_rfl) (eqF_a (n := 2) (s1 := [.i .i64, .i .i64]) rfl (by decide) inferInstance rfl (by decide) Try.eqa30 (eqF_s rfl (by decide) inferInstance (eqS_int Try.underlying3) (eqF_s rfl (by decide) inferInstance (eqS_int Try.underlying3) (eqF_a (n := 2) (s1 := [.i .i64, .i .i64]) rfl (by decide) inferInstance rfl (by decide) Try.eqa32 (eqF_nil)))))
instance : TyEq Try.prog 34 [.i .i64, .i .i64, .i .i64, .i .i64, .i .i64, .i .i64] := ⟨⟨3, by decide, Try.eqa34⟩, by kernel_rfl⟩
theorem Try.eqa52 : EqA Try.prog 2 52 [.i .i64, .i .i64, .i .i64, .i .i64] := eqA_struct (k := 1) Try.underlying52 (by kernel_rfl) (eqF_s rfl (by decide) inferInstance (eqS_int Try.underlying3) (eqF_s rfl (by decide) inferInstance (eqS_int Try.underlying3) (eqF_s rfl (by decide) inferInstance (eqS_int Try.underlying3) (eqF_s rfl (by decide) inferInstance (eqS_int Try.underlying3) (eqF_nil)))))
instance : TyEq Try.prog 52 [.i .i64, .i .i64, .i .i64, .i .i64] := ⟨⟨2, by decide, Try.eqa52⟩, by kernel_rfl⟩
theorem Try.follows : Try.prog.follows .mixedOrders = true := by kernel_rfl
structure TSubscriberID where
  Network : Int
  Number : Int
  deriving DecidableEq, Inhabited
def eTSubscriberID (a : TSubscriberID) : List D := [.i .i64 a.Network, .i .i64 a.Number]
structure TTempID where
  Pool : Int
  Number : Int
  deriving DecidableEq, Inhabited
def eTTempID (a : TTempID) : List D := [.i .i64 a.Pool, .i .i64 a.Number]
structure TRegistration where
  ID : TSubscriberID
  Network : Int
  Area : Int
  TempID : TTempID
  deriving DecidableEq, Inhabited
def eTRegistration (a : TRegistration) : List D := [.i .i64 a.ID.Network, .i .i64 a.ID.Number, .i .i64 a.Network, .i .i64 a.Area, .i .i64 a.TempID.Pool, .i .i64 a.TempID.Number]
structure TSubscription where
  RateLimit : Int
  BestClass : Int
  GrantSize : Int
  RoamingNetworks : List Int
  deriving DecidableEq, Inhabited
def eTSubscription (a : TSubscription) : List D := [.i .i64 a.RateLimit, .i .i64 a.BestClass, .i .i64 a.GrantSize, .l (a.RoamingNetworks.map eI)]
structure TRoamingAgreement where
  Home : Int
  Visited : Int
  Price : Int
  Cap : Int
  deriving DecidableEq, Inhabited
def eTRoamingAgreement (a : TRoamingAgreement) : List D := [.i .i64 a.Home, .i .i64 a.Visited, .i .i64 a.Price, .i .i64 a.Cap]
structure TRoamingResult where
  Code : Int
  Registrations : List TRegistration
  Cancelled : Int
  TempID : TTempID
  deriving DecidableEq, Inhabited
def eTRoamingResult (a : TRoamingResult) : List D := [.i .i64 a.Code, .l (a.Registrations.map eTRegistration), .i .i64 a.Cancelled, .i .i64 a.TempID.Pool, .i .i64 a.TempID.Number]
structure Tl1Cur where
  fb : List Int
  fi : Int
  fh : Int
  deriving DecidableEq, Inhabited
def eTl1Cur (a : Tl1Cur) : List D := [.l (a.fb.map eU8), .i .i64 a.fi, .i .i64 a.fh]
end Go.AM
