/-
  Facts on the types of this translation, laid by program.
-/
import Derived.Test.YtghkejhhneijlaaAmZc
import Derived.Test.YtghkejhhneijlaaAmO
import Derived.Test.YtghkejhhneijlaaProg
namespace Go.AM
open Go.Proofs
theorem info_n {P : Program} {t : TypeId} {n : Nat} (h : (P.info? t).map (·.size) = some n) : ∃ i, P.info? t = some i ∧ i.size = n := by
  cases hi : P.info? t with
  | none => simp [hi] at h
  | some i => simp [hi] at h; exact ⟨i, rfl, h⟩
theorem info_z {P : Program} {t : TypeId} {z : Value} (h : (P.info? t).map (·.zero) = some (some z)) : ∃ i, P.info? t = some i ∧ i.zero = some z := by
  cases hi : P.info? t with
  | none => simp [hi] at h
  | some i => simp [hi] at h; exact ⟨i, rfl, h⟩
theorem info_s {P : Program} {t : TypeId} {z : Value} {n b : Nat} (h : (P.info? t).map (fun i => (i.size, i.bytes, i.zero)) = some (n, b, some z)) (hz : z.cells.size = n) : ∃ i z, P.info? t = some i ∧ i.size = n ∧ i.bytes = b ∧ i.zero = some z ∧ z.cells.size = n := by
  cases hi : P.info? t with
  | none => simp [hi] at h
  | some i => simp [hi] at h; exact ⟨i, z, rfl, h.1, h.2.1, h.2.2, hz⟩
theorem info_f {P : Program} {t : TypeId} {n : Nat} (h : (P.info? t).map (·.size) = some n) (hn : n ≠ 0) : ∃ i, P.info? t = some i ∧ i.size ≠ 0 := by
  cases hi : P.info? t with
  | none => simp [hi] at h
  | some i => simp [hi] at h; exact ⟨i, rfl, by omega⟩
-- 3: int
instance : TyN Try.prog 3 1 := ⟨info_n (by kernel_rfl)⟩
instance : TySc Try.prog 3 := ⟨fun w => by kernel_rfl, info_n (by kernel_rfl)⟩
instance : TyU Try.prog 3 (.int .i64) := ⟨Try.underlying3⟩
theorem Try.z3 : (Try.prog.info? 3).map (·.zero) = some (some (.int .i64 0)) := by kernel_rfl
instance : TyZ Try.prog 3 [.d false (.i .i64 0)] := ⟨by obtain ⟨i, h1, h2⟩ := info_z Try.z3; exact ⟨i, _, h1, h2, rfl⟩⟩
instance : TyE Try.prog 3 [.i .i64 0] := ⟨by obtain ⟨i, h1, h2⟩ := info_z Try.z3; exact ⟨i, _, h1, h2, rfl⟩⟩
-- 4: bool
instance : TyN Try.prog 4 1 := ⟨info_n (by kernel_rfl)⟩
instance : TySc Try.prog 4 := ⟨fun w => by kernel_rfl, info_n (by kernel_rfl)⟩
instance : TyU Try.prog 4 (.bool) := ⟨Try.underlying4⟩
theorem Try.z4 : (Try.prog.info? 4).map (·.zero) = some (some (.bool false)) := by kernel_rfl
instance : TyZ Try.prog 4 [.d false (.b false)] := ⟨by obtain ⟨i, h1, h2⟩ := info_z Try.z4; exact ⟨i, _, h1, h2, rfl⟩⟩
instance : TyE Try.prog 4 [.b false] := ⟨by obtain ⟨i, h1, h2⟩ := info_z Try.z4; exact ⟨i, _, h1, h2, rfl⟩⟩
-- 5: uint8
instance : TyN Try.prog 5 1 := ⟨info_n (by kernel_rfl)⟩
instance : TySc Try.prog 5 := ⟨fun w => by kernel_rfl, info_n (by kernel_rfl)⟩
instance : TyU Try.prog 5 (.int .u8) := ⟨Try.underlying5⟩
theorem Try.z5 : (Try.prog.info? 5).map (·.zero) = some (some (.int .u8 0)) := by kernel_rfl
instance : TyZ Try.prog 5 [.d false (.i .u8 0)] := ⟨by obtain ⟨i, h1, h2⟩ := info_z Try.z5; exact ⟨i, _, h1, h2, rfl⟩⟩
instance : TyE Try.prog 5 [.i .u8 0] := ⟨by obtain ⟨i, h1, h2⟩ := info_z Try.z5; exact ⟨i, _, h1, h2, rfl⟩⟩
-- 9: string
instance : TyN Try.prog 9 1 := ⟨info_n (by kernel_rfl)⟩
instance : TySc Try.prog 9 := ⟨fun w => by kernel_rfl, info_n (by kernel_rfl)⟩
instance : TyU Try.prog 9 (.string) := ⟨Try.underlying9⟩
theorem Try.z9 : (Try.prog.info? 9).map (·.zero) = some (some (.string ⟨#[]⟩)) := by kernel_rfl
instance : TyZ Try.prog 9 [.d false (.str ⟨#[]⟩)] := ⟨by obtain ⟨i, h1, h2⟩ := info_z Try.z9; exact ⟨i, _, h1, h2, rfl⟩⟩
instance : TyE Try.prog 9 [.str ⟨#[]⟩] := ⟨by obtain ⟨i, h1, h2⟩ := info_z Try.z9; exact ⟨i, _, h1, h2, rfl⟩⟩
-- 23: laws.SubscriberID
instance : TyN Try.prog 23 2 := ⟨info_n (by kernel_rfl)⟩
instance : TyAg Try.prog 23 2 := ⟨fun w => by kernel_rfl, info_n (by kernel_rfl)⟩
theorem Try.z23 : (Try.prog.info? 23).map (·.zero) = some (some (.agg #[.int .i64 0, .int .i64 0])) := by kernel_rfl
instance : TyZ Try.prog 23 [.d false (.i .i64 0), .d false (.i .i64 0)] := ⟨by obtain ⟨i, h1, h2⟩ := info_z Try.z23; exact ⟨i, _, h1, h2, rfl⟩⟩
instance : TyE Try.prog 23 [.i .i64 0, .i .i64 0] := ⟨by obtain ⟨i, h1, h2⟩ := info_z Try.z23; exact ⟨i, _, h1, h2, rfl⟩⟩
instance : TyB Try.prog 23 [(0, 1), (1, 1)] := ⟨_, Try.underlying23, fun w => by kernel_rfl⟩
instance : TyF Try.prog 23 0 0 3 := ⟨_, _, Try.underlying23, rfl, rfl, rfl, info_f (n := 1) (by kernel_rfl) (by decide)⟩
instance : TyF Try.prog 23 1 1 3 := ⟨_, _, Try.underlying23, rfl, rfl, rfl, info_f (n := 1) (by kernel_rfl) (by decide)⟩
-- 25: laws.SubscriberRecord
instance : TyN Try.prog 25 4 := ⟨info_n (by kernel_rfl)⟩
instance : TyAg Try.prog 25 4 := ⟨fun w => by kernel_rfl, info_n (by kernel_rfl)⟩
theorem Try.z25 : (Try.prog.info? 25).map (·.zero) = some (some (.agg #[.int .i64 0, .int .i64 0, .int .i64 0, .int .i64 0])) := by kernel_rfl
instance : TyZ Try.prog 25 [.d false (.i .i64 0), .d false (.i .i64 0), .d false (.i .i64 0), .d false (.i .i64 0)] := ⟨by obtain ⟨i, h1, h2⟩ := info_z Try.z25; exact ⟨i, _, h1, h2, rfl⟩⟩
instance : TyE Try.prog 25 [.i .i64 0, .i .i64 0, .i .i64 0, .i .i64 0] := ⟨by obtain ⟨i, h1, h2⟩ := info_z Try.z25; exact ⟨i, _, h1, h2, rfl⟩⟩
instance : TyB Try.prog 25 [(0, 2), (2, 1), (3, 1)] := ⟨_, Try.underlying25, fun w => by kernel_rfl⟩
instance : TyF Try.prog 25 0 0 23 := ⟨_, _, Try.underlying25, rfl, rfl, rfl, info_f (n := 2) (by kernel_rfl) (by decide)⟩
instance : TyF Try.prog 25 1 2 3 := ⟨_, _, Try.underlying25, rfl, rfl, rfl, info_f (n := 1) (by kernel_rfl) (by decide)⟩
instance : TyF Try.prog 25 2 3 3 := ⟨_, _, Try.underlying25, rfl, rfl, rfl, info_f (n := 1) (by kernel_rfl) (by decide)⟩
-- 26: []int
instance : TyN Try.prog 26 1 := ⟨info_n (by kernel_rfl)⟩
instance : TySc Try.prog 26 := ⟨fun w => by kernel_rfl, info_n (by kernel_rfl)⟩
theorem Try.z26 : (Try.prog.info? 26).map (·.zero) = some (some (.slice none 0 0)) := by kernel_rfl
instance : TyZ Try.prog 26 [.nil] := ⟨by obtain ⟨i, h1, h2⟩ := info_z Try.z26; exact ⟨i, _, h1, h2, rfl⟩⟩
instance : TyE Try.prog 26 [.l []] := ⟨by obtain ⟨i, h1, h2⟩ := info_z Try.z26; exact ⟨i, _, h1, h2, rfl⟩⟩
instance : TySl Try.prog 26 3 1 8 := ⟨Try.underlying26, info_s (z := .int .i64 0) (by kernel_rfl) rfl, by decide⟩
-- 28: laws.Subscription
instance : TyN Try.prog 28 4 := ⟨info_n (by kernel_rfl)⟩
instance : TyAg Try.prog 28 4 := ⟨fun w => by kernel_rfl, info_n (by kernel_rfl)⟩
theorem Try.z28 : (Try.prog.info? 28).map (·.zero) = some (some (.agg #[.int .i64 0, .int .i64 0, .int .i64 0, .slice none 0 0])) := by kernel_rfl
instance : TyZ Try.prog 28 [.d false (.i .i64 0), .d false (.i .i64 0), .d false (.i .i64 0), .nil] := ⟨by obtain ⟨i, h1, h2⟩ := info_z Try.z28; exact ⟨i, _, h1, h2, rfl⟩⟩
instance : TyE Try.prog 28 [.i .i64 0, .i .i64 0, .i .i64 0, .l []] := ⟨by obtain ⟨i, h1, h2⟩ := info_z Try.z28; exact ⟨i, _, h1, h2, rfl⟩⟩
instance : TyB Try.prog 28 [(0, 1), (1, 1), (2, 1), (3, 1)] := ⟨_, Try.underlying28, fun w => by kernel_rfl⟩
instance : TyF Try.prog 28 0 0 3 := ⟨_, _, Try.underlying28, rfl, rfl, rfl, info_f (n := 1) (by kernel_rfl) (by decide)⟩
instance : TyF Try.prog 28 1 1 3 := ⟨_, _, Try.underlying28, rfl, rfl, rfl, info_f (n := 1) (by kernel_rfl) (by decide)⟩
instance : TyF Try.prog 28 2 2 3 := ⟨_, _, Try.underlying28, rfl, rfl, rfl, info_f (n := 1) (by kernel_rfl) (by decide)⟩
instance : TyF Try.prog 28 3 3 26 := ⟨_, _, Try.underlying28, rfl, rfl, rfl, info_f (n := 1) (by kernel_rfl) (by decide)⟩
-- 30: laws.AuthVector
instance : TyN Try.prog 30 5 := ⟨info_n (by kernel_rfl)⟩
instance : TyAg Try.prog 30 5 := ⟨fun w => by kernel_rfl, info_n (by kernel_rfl)⟩
theorem Try.z30 : (Try.prog.info? 30).map (·.zero) = some (some (.agg #[.int .i64 0, .int .i64 0, .int .i64 0, .int .i64 0, .int .i64 0])) := by kernel_rfl
instance : TyZ Try.prog 30 [.d false (.i .i64 0), .d false (.i .i64 0), .d false (.i .i64 0), .d false (.i .i64 0), .d false (.i .i64 0)] := ⟨by obtain ⟨i, h1, h2⟩ := info_z Try.z30; exact ⟨i, _, h1, h2, rfl⟩⟩
instance : TyE Try.prog 30 [.i .i64 0, .i .i64 0, .i .i64 0, .i .i64 0, .i .i64 0] := ⟨by obtain ⟨i, h1, h2⟩ := info_z Try.z30; exact ⟨i, _, h1, h2, rfl⟩⟩
instance : TyB Try.prog 30 [(0, 1), (1, 1), (2, 1), (3, 1), (4, 1)] := ⟨_, Try.underlying30, fun w => by kernel_rfl⟩
instance : TyF Try.prog 30 0 0 3 := ⟨_, _, Try.underlying30, rfl, rfl, rfl, info_f (n := 1) (by kernel_rfl) (by decide)⟩
instance : TyF Try.prog 30 1 1 3 := ⟨_, _, Try.underlying30, rfl, rfl, rfl, info_f (n := 1) (by kernel_rfl) (by decide)⟩
instance : TyF Try.prog 30 2 2 3 := ⟨_, _, Try.underlying30, rfl, rfl, rfl, info_f (n := 1) (by kernel_rfl) (by decide)⟩
instance : TyF Try.prog 30 3 3 3 := ⟨_, _, Try.underlying30, rfl, rfl, rfl, info_f (n := 1) (by kernel_rfl) (by decide)⟩
instance : TyF Try.prog 30 4 4 3 := ⟨_, _, Try.underlying30, rfl, rfl, rfl, info_f (n := 1) (by kernel_rfl) (by decide)⟩
-- 32: laws.PagingState
instance : TyN Try.prog 32 3 := ⟨info_n (by kernel_rfl)⟩
instance : TyAg Try.prog 32 3 := ⟨fun w => by kernel_rfl, info_n (by kernel_rfl)⟩
theorem Try.z32 : (Try.prog.info? 32).map (·.zero) = some (some (.agg #[.int .i64 0, .int .i64 0, .int .i64 0])) := by kernel_rfl
instance : TyZ Try.prog 32 [.d false (.i .i64 0), .d false (.i .i64 0), .d false (.i .i64 0)] := ⟨by obtain ⟨i, h1, h2⟩ := info_z Try.z32; exact ⟨i, _, h1, h2, rfl⟩⟩
instance : TyE Try.prog 32 [.i .i64 0, .i .i64 0, .i .i64 0] := ⟨by obtain ⟨i, h1, h2⟩ := info_z Try.z32; exact ⟨i, _, h1, h2, rfl⟩⟩
instance : TyB Try.prog 32 [(0, 1), (1, 1), (2, 1)] := ⟨_, Try.underlying32, fun w => by kernel_rfl⟩
instance : TyF Try.prog 32 0 0 3 := ⟨_, _, Try.underlying32, rfl, rfl, rfl, info_f (n := 1) (by kernel_rfl) (by decide)⟩
instance : TyF Try.prog 32 1 1 3 := ⟨_, _, Try.underlying32, rfl, rfl, rfl, info_f (n := 1) (by kernel_rfl) (by decide)⟩
instance : TyF Try.prog 32 2 2 3 := ⟨_, _, Try.underlying32, rfl, rfl, rfl, info_f (n := 1) (by kernel_rfl) (by decide)⟩
-- 33: []laws.Payload
instance : TyN Try.prog 33 1 := ⟨info_n (by kernel_rfl)⟩
instance : TySc Try.prog 33 := ⟨fun w => by kernel_rfl, info_n (by kernel_rfl)⟩
theorem Try.z33 : (Try.prog.info? 33).map (·.zero) = some (some (.slice none 0 0)) := by kernel_rfl
instance : TyZ Try.prog 33 [.nil] := ⟨by obtain ⟨i, h1, h2⟩ := info_z Try.z33; exact ⟨i, _, h1, h2, rfl⟩⟩
instance : TyE Try.prog 33 [.l []] := ⟨by obtain ⟨i, h1, h2⟩ := info_z Try.z33; exact ⟨i, _, h1, h2, rfl⟩⟩
instance : TySl Try.prog 33 140 1 24 := ⟨Try.underlying33, info_s (z := .agg #[.slice none 0 0]) (by kernel_rfl) rfl, by decide⟩
-- 34: []laws.NumberedPacket
instance : TyN Try.prog 34 1 := ⟨info_n (by kernel_rfl)⟩
instance : TySc Try.prog 34 := ⟨fun w => by kernel_rfl, info_n (by kernel_rfl)⟩
theorem Try.z34 : (Try.prog.info? 34).map (·.zero) = some (some (.slice none 0 0)) := by kernel_rfl
instance : TyZ Try.prog 34 [.nil] := ⟨by obtain ⟨i, h1, h2⟩ := info_z Try.z34; exact ⟨i, _, h1, h2, rfl⟩⟩
instance : TyE Try.prog 34 [.l []] := ⟨by obtain ⟨i, h1, h2⟩ := info_z Try.z34; exact ⟨i, _, h1, h2, rfl⟩⟩
instance : TySl Try.prog 34 190 2 32 := ⟨Try.underlying34, info_s (z := .agg #[.int .i64 0, .slice none 0 0]) (by kernel_rfl) rfl, by decide⟩
-- 36: laws.SendWindow
instance : TyN Try.prog 36 2 := ⟨info_n (by kernel_rfl)⟩
instance : TyAg Try.prog 36 2 := ⟨fun w => by kernel_rfl, info_n (by kernel_rfl)⟩
theorem Try.z36 : (Try.prog.info? 36).map (·.zero) = some (some (.agg #[.int .i64 0, .slice none 0 0])) := by kernel_rfl
instance : TyZ Try.prog 36 [.d false (.i .i64 0), .nil] := ⟨by obtain ⟨i, h1, h2⟩ := info_z Try.z36; exact ⟨i, _, h1, h2, rfl⟩⟩
instance : TyE Try.prog 36 [.i .i64 0, .l []] := ⟨by obtain ⟨i, h1, h2⟩ := info_z Try.z36; exact ⟨i, _, h1, h2, rfl⟩⟩
instance : TyB Try.prog 36 [(0, 1), (1, 1)] := ⟨_, Try.underlying36, fun w => by kernel_rfl⟩
instance : TyF Try.prog 36 0 0 3 := ⟨_, _, Try.underlying36, rfl, rfl, rfl, info_f (n := 1) (by kernel_rfl) (by decide)⟩
instance : TyF Try.prog 36 1 1 34 := ⟨_, _, Try.underlying36, rfl, rfl, rfl, info_f (n := 1) (by kernel_rfl) (by decide)⟩
-- 38: laws.Quota
instance : TyN Try.prog 38 3 := ⟨info_n (by kernel_rfl)⟩
instance : TyAg Try.prog 38 3 := ⟨fun w => by kernel_rfl, info_n (by kernel_rfl)⟩
theorem Try.z38 : (Try.prog.info? 38).map (·.zero) = some (some (.agg #[.int .i64 0, .int .i64 0, .int .i64 0])) := by kernel_rfl
instance : TyZ Try.prog 38 [.d false (.i .i64 0), .d false (.i .i64 0), .d false (.i .i64 0)] := ⟨by obtain ⟨i, h1, h2⟩ := info_z Try.z38; exact ⟨i, _, h1, h2, rfl⟩⟩
instance : TyE Try.prog 38 [.i .i64 0, .i .i64 0, .i .i64 0] := ⟨by obtain ⟨i, h1, h2⟩ := info_z Try.z38; exact ⟨i, _, h1, h2, rfl⟩⟩
instance : TyB Try.prog 38 [(0, 1), (1, 1), (2, 1)] := ⟨_, Try.underlying38, fun w => by kernel_rfl⟩
instance : TyF Try.prog 38 0 0 3 := ⟨_, _, Try.underlying38, rfl, rfl, rfl, info_f (n := 1) (by kernel_rfl) (by decide)⟩
instance : TyF Try.prog 38 1 1 3 := ⟨_, _, Try.underlying38, rfl, rfl, rfl, info_f (n := 1) (by kernel_rfl) (by decide)⟩
instance : TyF Try.prog 38 2 2 3 := ⟨_, _, Try.underlying38, rfl, rfl, rfl, info_f (n := 1) (by kernel_rfl) (by decide)⟩
-- 40: laws.Session
instance : TyN Try.prog 40 30 := ⟨info_n (by kernel_rfl)⟩
instance : TyAg Try.prog 40 30 := ⟨fun w => by kernel_rfl, info_n (by kernel_rfl)⟩
theorem Try.z40 : (Try.prog.info? 40).map (·.zero) = some (some (.agg #[.int .i64 0, .int .i64 0, .int .i64 0, .int .i64 0, .int .i64 0, .int .i64 0, .int .i64 0, .slice none 0 0, .int .i64 0, .int .i64 0, .int .i64 0, .int .i64 0, .int .i64 0, .int .i64 0, .int .i64 0, .int .i64 0, .int .i64 0, .int .i64 0, .int .i64 0, .int .i64 0, .int .i64 0, .int .i64 0, .int .i64 0, .slice none 0 0, .int .i64 0, .slice none 0 0, .int .i64 0, .int .i64 0, .int .i64 0, .int .i64 0])) := by kernel_rfl
instance : TyZ Try.prog 40 [.d false (.i .i64 0), .d false (.i .i64 0), .d false (.i .i64 0), .d false (.i .i64 0), .d false (.i .i64 0), .d false (.i .i64 0), .d false (.i .i64 0), .nil, .d false (.i .i64 0), .d false (.i .i64 0), .d false (.i .i64 0), .d false (.i .i64 0), .d false (.i .i64 0), .d false (.i .i64 0), .d false (.i .i64 0), .d false (.i .i64 0), .d false (.i .i64 0), .d false (.i .i64 0), .d false (.i .i64 0), .d false (.i .i64 0), .d false (.i .i64 0), .d false (.i .i64 0), .d false (.i .i64 0), .nil, .d false (.i .i64 0), .nil, .d false (.i .i64 0), .d false (.i .i64 0), .d false (.i .i64 0), .d false (.i .i64 0)] := ⟨by obtain ⟨i, h1, h2⟩ := info_z Try.z40; exact ⟨i, _, h1, h2, rfl⟩⟩
instance : TyE Try.prog 40 [.i .i64 0, .i .i64 0, .i .i64 0, .i .i64 0, .i .i64 0, .i .i64 0, .i .i64 0, .l [], .i .i64 0, .i .i64 0, .i .i64 0, .i .i64 0, .i .i64 0, .i .i64 0, .i .i64 0, .i .i64 0, .i .i64 0, .i .i64 0, .i .i64 0, .i .i64 0, .i .i64 0, .i .i64 0, .i .i64 0, .l [], .i .i64 0, .l [], .i .i64 0, .i .i64 0, .i .i64 0, .i .i64 0] := ⟨by obtain ⟨i, h1, h2⟩ := info_z Try.z40; exact ⟨i, _, h1, h2, rfl⟩⟩
instance : TyB Try.prog 40 [(0, 4), (4, 4), (8, 1), (9, 5), (14, 1), (15, 1), (16, 1), (17, 1), (18, 1), (19, 1), (20, 3), (23, 1), (24, 2), (26, 1), (27, 3)] := ⟨_, Try.underlying40, fun w => by kernel_rfl⟩
instance : TyF Try.prog 40 0 0 25 := ⟨_, _, Try.underlying40, rfl, rfl, rfl, info_f (n := 4) (by kernel_rfl) (by decide)⟩
instance : TyF Try.prog 40 1 4 28 := ⟨_, _, Try.underlying40, rfl, rfl, rfl, info_f (n := 4) (by kernel_rfl) (by decide)⟩
instance : TyF Try.prog 40 2 8 3 := ⟨_, _, Try.underlying40, rfl, rfl, rfl, info_f (n := 1) (by kernel_rfl) (by decide)⟩
instance : TyF Try.prog 40 3 9 30 := ⟨_, _, Try.underlying40, rfl, rfl, rfl, info_f (n := 5) (by kernel_rfl) (by decide)⟩
instance : TyF Try.prog 40 4 14 3 := ⟨_, _, Try.underlying40, rfl, rfl, rfl, info_f (n := 1) (by kernel_rfl) (by decide)⟩
instance : TyF Try.prog 40 5 15 3 := ⟨_, _, Try.underlying40, rfl, rfl, rfl, info_f (n := 1) (by kernel_rfl) (by decide)⟩
instance : TyF Try.prog 40 6 16 3 := ⟨_, _, Try.underlying40, rfl, rfl, rfl, info_f (n := 1) (by kernel_rfl) (by decide)⟩
instance : TyF Try.prog 40 7 17 3 := ⟨_, _, Try.underlying40, rfl, rfl, rfl, info_f (n := 1) (by kernel_rfl) (by decide)⟩
instance : TyF Try.prog 40 8 18 3 := ⟨_, _, Try.underlying40, rfl, rfl, rfl, info_f (n := 1) (by kernel_rfl) (by decide)⟩
instance : TyF Try.prog 40 9 19 3 := ⟨_, _, Try.underlying40, rfl, rfl, rfl, info_f (n := 1) (by kernel_rfl) (by decide)⟩
instance : TyF Try.prog 40 10 20 32 := ⟨_, _, Try.underlying40, rfl, rfl, rfl, info_f (n := 3) (by kernel_rfl) (by decide)⟩
instance : TyF Try.prog 40 11 23 33 := ⟨_, _, Try.underlying40, rfl, rfl, rfl, info_f (n := 1) (by kernel_rfl) (by decide)⟩
instance : TyF Try.prog 40 12 24 36 := ⟨_, _, Try.underlying40, rfl, rfl, rfl, info_f (n := 2) (by kernel_rfl) (by decide)⟩
instance : TyF Try.prog 40 13 26 3 := ⟨_, _, Try.underlying40, rfl, rfl, rfl, info_f (n := 1) (by kernel_rfl) (by decide)⟩
instance : TyF Try.prog 40 14 27 38 := ⟨_, _, Try.underlying40, rfl, rfl, rfl, info_f (n := 3) (by kernel_rfl) (by decide)⟩
-- 43: impl.SubscriberID
instance : TyN Try.prog 43 2 := ⟨info_n (by kernel_rfl)⟩
instance : TyAg Try.prog 43 2 := ⟨fun w => by kernel_rfl, info_n (by kernel_rfl)⟩
theorem Try.z43 : (Try.prog.info? 43).map (·.zero) = some (some (.agg #[.int .i64 0, .int .i64 0])) := by kernel_rfl
instance : TyZ Try.prog 43 [.d false (.i .i64 0), .d false (.i .i64 0)] := ⟨by obtain ⟨i, h1, h2⟩ := info_z Try.z43; exact ⟨i, _, h1, h2, rfl⟩⟩
instance : TyE Try.prog 43 [.i .i64 0, .i .i64 0] := ⟨by obtain ⟨i, h1, h2⟩ := info_z Try.z43; exact ⟨i, _, h1, h2, rfl⟩⟩
instance : TyB Try.prog 43 [(0, 1), (1, 1)] := ⟨_, Try.underlying43, fun w => by kernel_rfl⟩
instance : TyF Try.prog 43 0 0 3 := ⟨_, _, Try.underlying43, rfl, rfl, rfl, info_f (n := 1) (by kernel_rfl) (by decide)⟩
instance : TyF Try.prog 43 1 1 3 := ⟨_, _, Try.underlying43, rfl, rfl, rfl, info_f (n := 1) (by kernel_rfl) (by decide)⟩
-- 45: impl.SubscriberRecord
instance : TyN Try.prog 45 4 := ⟨info_n (by kernel_rfl)⟩
instance : TyAg Try.prog 45 4 := ⟨fun w => by kernel_rfl, info_n (by kernel_rfl)⟩
theorem Try.z45 : (Try.prog.info? 45).map (·.zero) = some (some (.agg #[.int .i64 0, .int .i64 0, .int .i64 0, .int .i64 0])) := by kernel_rfl
instance : TyZ Try.prog 45 [.d false (.i .i64 0), .d false (.i .i64 0), .d false (.i .i64 0), .d false (.i .i64 0)] := ⟨by obtain ⟨i, h1, h2⟩ := info_z Try.z45; exact ⟨i, _, h1, h2, rfl⟩⟩
instance : TyE Try.prog 45 [.i .i64 0, .i .i64 0, .i .i64 0, .i .i64 0] := ⟨by obtain ⟨i, h1, h2⟩ := info_z Try.z45; exact ⟨i, _, h1, h2, rfl⟩⟩
instance : TyB Try.prog 45 [(0, 2), (2, 1), (3, 1)] := ⟨_, Try.underlying45, fun w => by kernel_rfl⟩
instance : TyF Try.prog 45 0 0 43 := ⟨_, _, Try.underlying45, rfl, rfl, rfl, info_f (n := 2) (by kernel_rfl) (by decide)⟩
instance : TyF Try.prog 45 1 2 3 := ⟨_, _, Try.underlying45, rfl, rfl, rfl, info_f (n := 1) (by kernel_rfl) (by decide)⟩
instance : TyF Try.prog 45 2 3 3 := ⟨_, _, Try.underlying45, rfl, rfl, rfl, info_f (n := 1) (by kernel_rfl) (by decide)⟩
-- 46: impl.Subscription
instance : TyN Try.prog 46 4 := ⟨info_n (by kernel_rfl)⟩
instance : TyAg Try.prog 46 4 := ⟨fun w => by kernel_rfl, info_n (by kernel_rfl)⟩
theorem Try.z46 : (Try.prog.info? 46).map (·.zero) = some (some (.agg #[.int .i64 0, .int .i64 0, .int .i64 0, .slice none 0 0])) := by kernel_rfl
instance : TyZ Try.prog 46 [.d false (.i .i64 0), .d false (.i .i64 0), .d false (.i .i64 0), .nil] := ⟨by obtain ⟨i, h1, h2⟩ := info_z Try.z46; exact ⟨i, _, h1, h2, rfl⟩⟩
instance : TyE Try.prog 46 [.i .i64 0, .i .i64 0, .i .i64 0, .l []] := ⟨by obtain ⟨i, h1, h2⟩ := info_z Try.z46; exact ⟨i, _, h1, h2, rfl⟩⟩
instance : TyB Try.prog 46 [(0, 1), (1, 1), (2, 1), (3, 1)] := ⟨_, Try.underlying46, fun w => by kernel_rfl⟩
instance : TyF Try.prog 46 0 0 3 := ⟨_, _, Try.underlying46, rfl, rfl, rfl, info_f (n := 1) (by kernel_rfl) (by decide)⟩
instance : TyF Try.prog 46 1 1 3 := ⟨_, _, Try.underlying46, rfl, rfl, rfl, info_f (n := 1) (by kernel_rfl) (by decide)⟩
instance : TyF Try.prog 46 2 2 3 := ⟨_, _, Try.underlying46, rfl, rfl, rfl, info_f (n := 1) (by kernel_rfl) (by decide)⟩
instance : TyF Try.prog 46 3 3 26 := ⟨_, _, Try.underlying46, rfl, rfl, rfl, info_f (n := 1) (by kernel_rfl) (by decide)⟩
-- 47: impl.AuthVector
instance : TyN Try.prog 47 5 := ⟨info_n (by kernel_rfl)⟩
instance : TyAg Try.prog 47 5 := ⟨fun w => by kernel_rfl, info_n (by kernel_rfl)⟩
theorem Try.z47 : (Try.prog.info? 47).map (·.zero) = some (some (.agg #[.int .i64 0, .int .i64 0, .int .i64 0, .int .i64 0, .int .i64 0])) := by kernel_rfl
instance : TyZ Try.prog 47 [.d false (.i .i64 0), .d false (.i .i64 0), .d false (.i .i64 0), .d false (.i .i64 0), .d false (.i .i64 0)] := ⟨by obtain ⟨i, h1, h2⟩ := info_z Try.z47; exact ⟨i, _, h1, h2, rfl⟩⟩
instance : TyE Try.prog 47 [.i .i64 0, .i .i64 0, .i .i64 0, .i .i64 0, .i .i64 0] := ⟨by obtain ⟨i, h1, h2⟩ := info_z Try.z47; exact ⟨i, _, h1, h2, rfl⟩⟩
instance : TyB Try.prog 47 [(0, 1), (1, 1), (2, 1), (3, 1), (4, 1)] := ⟨_, Try.underlying47, fun w => by kernel_rfl⟩
instance : TyF Try.prog 47 0 0 3 := ⟨_, _, Try.underlying47, rfl, rfl, rfl, info_f (n := 1) (by kernel_rfl) (by decide)⟩
instance : TyF Try.prog 47 1 1 3 := ⟨_, _, Try.underlying47, rfl, rfl, rfl, info_f (n := 1) (by kernel_rfl) (by decide)⟩
instance : TyF Try.prog 47 2 2 3 := ⟨_, _, Try.underlying47, rfl, rfl, rfl, info_f (n := 1) (by kernel_rfl) (by decide)⟩
instance : TyF Try.prog 47 3 3 3 := ⟨_, _, Try.underlying47, rfl, rfl, rfl, info_f (n := 1) (by kernel_rfl) (by decide)⟩
instance : TyF Try.prog 47 4 4 3 := ⟨_, _, Try.underlying47, rfl, rfl, rfl, info_f (n := 1) (by kernel_rfl) (by decide)⟩
-- 48: impl.PagingState
instance : TyN Try.prog 48 3 := ⟨info_n (by kernel_rfl)⟩
instance : TyAg Try.prog 48 3 := ⟨fun w => by kernel_rfl, info_n (by kernel_rfl)⟩
theorem Try.z48 : (Try.prog.info? 48).map (·.zero) = some (some (.agg #[.int .i64 0, .int .i64 0, .int .i64 0])) := by kernel_rfl
instance : TyZ Try.prog 48 [.d false (.i .i64 0), .d false (.i .i64 0), .d false (.i .i64 0)] := ⟨by obtain ⟨i, h1, h2⟩ := info_z Try.z48; exact ⟨i, _, h1, h2, rfl⟩⟩
instance : TyE Try.prog 48 [.i .i64 0, .i .i64 0, .i .i64 0] := ⟨by obtain ⟨i, h1, h2⟩ := info_z Try.z48; exact ⟨i, _, h1, h2, rfl⟩⟩
instance : TyB Try.prog 48 [(0, 1), (1, 1), (2, 1)] := ⟨_, Try.underlying48, fun w => by kernel_rfl⟩
instance : TyF Try.prog 48 0 0 3 := ⟨_, _, Try.underlying48, rfl, rfl, rfl, info_f (n := 1) (by kernel_rfl) (by decide)⟩
instance : TyF Try.prog 48 1 1 3 := ⟨_, _, Try.underlying48, rfl, rfl, rfl, info_f (n := 1) (by kernel_rfl) (by decide)⟩
instance : TyF Try.prog 48 2 2 3 := ⟨_, _, Try.underlying48, rfl, rfl, rfl, info_f (n := 1) (by kernel_rfl) (by decide)⟩
-- 49: []impl.Payload
instance : TyN Try.prog 49 1 := ⟨info_n (by kernel_rfl)⟩
instance : TySc Try.prog 49 := ⟨fun w => by kernel_rfl, info_n (by kernel_rfl)⟩
theorem Try.z49 : (Try.prog.info? 49).map (·.zero) = some (some (.slice none 0 0)) := by kernel_rfl
instance : TyZ Try.prog 49 [.nil] := ⟨by obtain ⟨i, h1, h2⟩ := info_z Try.z49; exact ⟨i, _, h1, h2, rfl⟩⟩
instance : TyE Try.prog 49 [.l []] := ⟨by obtain ⟨i, h1, h2⟩ := info_z Try.z49; exact ⟨i, _, h1, h2, rfl⟩⟩
instance : TySl Try.prog 49 93 1 24 := ⟨Try.underlying49, info_s (z := .agg #[.slice none 0 0]) (by kernel_rfl) rfl, by decide⟩
-- 50: []impl.NumberedPacket
instance : TyN Try.prog 50 1 := ⟨info_n (by kernel_rfl)⟩
instance : TySc Try.prog 50 := ⟨fun w => by kernel_rfl, info_n (by kernel_rfl)⟩
theorem Try.z50 : (Try.prog.info? 50).map (·.zero) = some (some (.slice none 0 0)) := by kernel_rfl
instance : TyZ Try.prog 50 [.nil] := ⟨by obtain ⟨i, h1, h2⟩ := info_z Try.z50; exact ⟨i, _, h1, h2, rfl⟩⟩
instance : TyE Try.prog 50 [.l []] := ⟨by obtain ⟨i, h1, h2⟩ := info_z Try.z50; exact ⟨i, _, h1, h2, rfl⟩⟩
instance : TySl Try.prog 50 192 2 32 := ⟨Try.underlying50, info_s (z := .agg #[.int .i64 0, .slice none 0 0]) (by kernel_rfl) rfl, by decide⟩
-- 52: impl.SendWindow
instance : TyN Try.prog 52 2 := ⟨info_n (by kernel_rfl)⟩
instance : TyAg Try.prog 52 2 := ⟨fun w => by kernel_rfl, info_n (by kernel_rfl)⟩
theorem Try.z52 : (Try.prog.info? 52).map (·.zero) = some (some (.agg #[.int .i64 0, .slice none 0 0])) := by kernel_rfl
instance : TyZ Try.prog 52 [.d false (.i .i64 0), .nil] := ⟨by obtain ⟨i, h1, h2⟩ := info_z Try.z52; exact ⟨i, _, h1, h2, rfl⟩⟩
instance : TyE Try.prog 52 [.i .i64 0, .l []] := ⟨by obtain ⟨i, h1, h2⟩ := info_z Try.z52; exact ⟨i, _, h1, h2, rfl⟩⟩
instance : TyB Try.prog 52 [(0, 1), (1, 1)] := ⟨_, Try.underlying52, fun w => by kernel_rfl⟩
instance : TyF Try.prog 52 0 0 3 := ⟨_, _, Try.underlying52, rfl, rfl, rfl, info_f (n := 1) (by kernel_rfl) (by decide)⟩
instance : TyF Try.prog 52 1 1 50 := ⟨_, _, Try.underlying52, rfl, rfl, rfl, info_f (n := 1) (by kernel_rfl) (by decide)⟩
-- 53: impl.Quota
instance : TyN Try.prog 53 3 := ⟨info_n (by kernel_rfl)⟩
instance : TyAg Try.prog 53 3 := ⟨fun w => by kernel_rfl, info_n (by kernel_rfl)⟩
theorem Try.z53 : (Try.prog.info? 53).map (·.zero) = some (some (.agg #[.int .i64 0, .int .i64 0, .int .i64 0])) := by kernel_rfl
instance : TyZ Try.prog 53 [.d false (.i .i64 0), .d false (.i .i64 0), .d false (.i .i64 0)] := ⟨by obtain ⟨i, h1, h2⟩ := info_z Try.z53; exact ⟨i, _, h1, h2, rfl⟩⟩
instance : TyE Try.prog 53 [.i .i64 0, .i .i64 0, .i .i64 0] := ⟨by obtain ⟨i, h1, h2⟩ := info_z Try.z53; exact ⟨i, _, h1, h2, rfl⟩⟩
instance : TyB Try.prog 53 [(0, 1), (1, 1), (2, 1)] := ⟨_, Try.underlying53, fun w => by kernel_rfl⟩
instance : TyF Try.prog 53 0 0 3 := ⟨_, _, Try.underlying53, rfl, rfl, rfl, info_f (n := 1) (by kernel_rfl) (by decide)⟩
instance : TyF Try.prog 53 1 1 3 := ⟨_, _, Try.underlying53, rfl, rfl, rfl, info_f (n := 1) (by kernel_rfl) (by decide)⟩
instance : TyF Try.prog 53 2 2 3 := ⟨_, _, Try.underlying53, rfl, rfl, rfl, info_f (n := 1) (by kernel_rfl) (by decide)⟩
-- 55: impl.Session
instance : TyN Try.prog 55 30 := ⟨info_n (by kernel_rfl)⟩
instance : TyAg Try.prog 55 30 := ⟨fun w => by kernel_rfl, info_n (by kernel_rfl)⟩
theorem Try.z55 : (Try.prog.info? 55).map (·.zero) = some (some (.agg #[.int .i64 0, .int .i64 0, .int .i64 0, .int .i64 0, .int .i64 0, .int .i64 0, .int .i64 0, .slice none 0 0, .int .i64 0, .int .i64 0, .int .i64 0, .int .i64 0, .int .i64 0, .int .i64 0, .int .i64 0, .int .i64 0, .int .i64 0, .int .i64 0, .int .i64 0, .int .i64 0, .int .i64 0, .int .i64 0, .int .i64 0, .slice none 0 0, .int .i64 0, .slice none 0 0, .int .i64 0, .int .i64 0, .int .i64 0, .int .i64 0])) := by kernel_rfl
instance : TyZ Try.prog 55 [.d false (.i .i64 0), .d false (.i .i64 0), .d false (.i .i64 0), .d false (.i .i64 0), .d false (.i .i64 0), .d false (.i .i64 0), .d false (.i .i64 0), .nil, .d false (.i .i64 0), .d false (.i .i64 0), .d false (.i .i64 0), .d false (.i .i64 0), .d false (.i .i64 0), .d false (.i .i64 0), .d false (.i .i64 0), .d false (.i .i64 0), .d false (.i .i64 0), .d false (.i .i64 0), .d false (.i .i64 0), .d false (.i .i64 0), .d false (.i .i64 0), .d false (.i .i64 0), .d false (.i .i64 0), .nil, .d false (.i .i64 0), .nil, .d false (.i .i64 0), .d false (.i .i64 0), .d false (.i .i64 0), .d false (.i .i64 0)] := ⟨by obtain ⟨i, h1, h2⟩ := info_z Try.z55; exact ⟨i, _, h1, h2, rfl⟩⟩
instance : TyE Try.prog 55 [.i .i64 0, .i .i64 0, .i .i64 0, .i .i64 0, .i .i64 0, .i .i64 0, .i .i64 0, .l [], .i .i64 0, .i .i64 0, .i .i64 0, .i .i64 0, .i .i64 0, .i .i64 0, .i .i64 0, .i .i64 0, .i .i64 0, .i .i64 0, .i .i64 0, .i .i64 0, .i .i64 0, .i .i64 0, .i .i64 0, .l [], .i .i64 0, .l [], .i .i64 0, .i .i64 0, .i .i64 0, .i .i64 0] := ⟨by obtain ⟨i, h1, h2⟩ := info_z Try.z55; exact ⟨i, _, h1, h2, rfl⟩⟩
instance : TyB Try.prog 55 [(0, 4), (4, 4), (8, 1), (9, 5), (14, 1), (15, 1), (16, 1), (17, 1), (18, 1), (19, 1), (20, 3), (23, 1), (24, 2), (26, 1), (27, 3)] := ⟨_, Try.underlying55, fun w => by kernel_rfl⟩
instance : TyF Try.prog 55 0 0 45 := ⟨_, _, Try.underlying55, rfl, rfl, rfl, info_f (n := 4) (by kernel_rfl) (by decide)⟩
instance : TyF Try.prog 55 1 4 46 := ⟨_, _, Try.underlying55, rfl, rfl, rfl, info_f (n := 4) (by kernel_rfl) (by decide)⟩
instance : TyF Try.prog 55 2 8 3 := ⟨_, _, Try.underlying55, rfl, rfl, rfl, info_f (n := 1) (by kernel_rfl) (by decide)⟩
instance : TyF Try.prog 55 3 9 47 := ⟨_, _, Try.underlying55, rfl, rfl, rfl, info_f (n := 5) (by kernel_rfl) (by decide)⟩
instance : TyF Try.prog 55 4 14 3 := ⟨_, _, Try.underlying55, rfl, rfl, rfl, info_f (n := 1) (by kernel_rfl) (by decide)⟩
instance : TyF Try.prog 55 5 15 3 := ⟨_, _, Try.underlying55, rfl, rfl, rfl, info_f (n := 1) (by kernel_rfl) (by decide)⟩
instance : TyF Try.prog 55 6 16 3 := ⟨_, _, Try.underlying55, rfl, rfl, rfl, info_f (n := 1) (by kernel_rfl) (by decide)⟩
instance : TyF Try.prog 55 7 17 3 := ⟨_, _, Try.underlying55, rfl, rfl, rfl, info_f (n := 1) (by kernel_rfl) (by decide)⟩
instance : TyF Try.prog 55 8 18 3 := ⟨_, _, Try.underlying55, rfl, rfl, rfl, info_f (n := 1) (by kernel_rfl) (by decide)⟩
instance : TyF Try.prog 55 9 19 3 := ⟨_, _, Try.underlying55, rfl, rfl, rfl, info_f (n := 1) (by kernel_rfl) (by decide)⟩
instance : TyF Try.prog 55 10 20 48 := ⟨_, _, Try.underlying55, rfl, rfl, rfl, info_f (n := 3) (by kernel_rfl) (by decide)⟩
instance : TyF Try.prog 55 11 23 49 := ⟨_, _, Try.underlying55, rfl, rfl, rfl, info_f (n := 1) (by kernel_rfl) (by decide)⟩
instance : TyF Try.prog 55 12 24 52 := ⟨_, _, Try.underlying55, rfl, rfl, rfl, info_f (n := 2) (by kernel_rfl) (by decide)⟩
instance : TyF Try.prog 55 13 26 3 := ⟨_, _, Try.underlying55, rfl, rfl, rfl, info_f (n := 1) (by kernel_rfl) (by decide)⟩
instance : TyF Try.prog 55 14 27 53 := ⟨_, _, Try.underlying55, rfl, rfl, rfl, info_f (n := 3) (by kernel_rfl) (by decide)⟩
-- 59: []laws.Cell
instance : TyN Try.prog 59 1 := ⟨info_n (by kernel_rfl)⟩
instance : TySc Try.prog 59 := ⟨fun w => by kernel_rfl, info_n (by kernel_rfl)⟩
theorem Try.z59 : (Try.prog.info? 59).map (·.zero) = some (some (.slice none 0 0)) := by kernel_rfl
instance : TyZ Try.prog 59 [.nil] := ⟨by obtain ⟨i, h1, h2⟩ := info_z Try.z59; exact ⟨i, _, h1, h2, rfl⟩⟩
instance : TyE Try.prog 59 [.l []] := ⟨by obtain ⟨i, h1, h2⟩ := info_z Try.z59; exact ⟨i, _, h1, h2, rfl⟩⟩
instance : TySl Try.prog 59 198 2 32 := ⟨Try.underlying59, info_s (z := .agg #[.int .i64 0, .slice none 0 0]) (by kernel_rfl) rfl, by decide⟩
-- 61: laws.CellMap
instance : TyN Try.prog 61 1 := ⟨info_n (by kernel_rfl)⟩
instance : TyAg Try.prog 61 1 := ⟨fun w => by kernel_rfl, info_n (by kernel_rfl)⟩
theorem Try.z61 : (Try.prog.info? 61).map (·.zero) = some (some (.agg #[.slice none 0 0])) := by kernel_rfl
instance : TyZ Try.prog 61 [.nil] := ⟨by obtain ⟨i, h1, h2⟩ := info_z Try.z61; exact ⟨i, _, h1, h2, rfl⟩⟩
instance : TyE Try.prog 61 [.l []] := ⟨by obtain ⟨i, h1, h2⟩ := info_z Try.z61; exact ⟨i, _, h1, h2, rfl⟩⟩
instance : TyB Try.prog 61 [(0, 1)] := ⟨_, Try.underlying61, fun w => by kernel_rfl⟩
instance : TyF Try.prog 61 0 0 59 := ⟨_, _, Try.underlying61, rfl, rfl, rfl, info_f (n := 1) (by kernel_rfl) (by decide)⟩
-- 62: []laws.Device
instance : TyN Try.prog 62 1 := ⟨info_n (by kernel_rfl)⟩
instance : TySc Try.prog 62 := ⟨fun w => by kernel_rfl, info_n (by kernel_rfl)⟩
theorem Try.z62 : (Try.prog.info? 62).map (·.zero) = some (some (.slice none 0 0)) := by kernel_rfl
instance : TyZ Try.prog 62 [.nil] := ⟨by obtain ⟨i, h1, h2⟩ := info_z Try.z62; exact ⟨i, _, h1, h2, rfl⟩⟩
instance : TyE Try.prog 62 [.l []] := ⟨by obtain ⟨i, h1, h2⟩ := info_z Try.z62; exact ⟨i, _, h1, h2, rfl⟩⟩
instance : TySl Try.prog 62 157 14 144 := ⟨Try.underlying62, info_s (z := .agg #[.int .i64 0, .int .i64 0, .int .i64 0, .int .i64 0, .int .i64 0, .int .i64 0, .int .i64 0, .int .i64 0, .int .i64 0, .bool false, .int .i64 0, .int .i64 0, .slice none 0 0, .slice none 0 0]) (by kernel_rfl) rfl, by decide⟩
-- 63: []laws.Session
instance : TyN Try.prog 63 1 := ⟨info_n (by kernel_rfl)⟩
instance : TySc Try.prog 63 := ⟨fun w => by kernel_rfl, info_n (by kernel_rfl)⟩
theorem Try.z63 : (Try.prog.info? 63).map (·.zero) = some (some (.slice none 0 0)) := by kernel_rfl
instance : TyZ Try.prog 63 [.nil] := ⟨by obtain ⟨i, h1, h2⟩ := info_z Try.z63; exact ⟨i, _, h1, h2, rfl⟩⟩
instance : TyE Try.prog 63 [.l []] := ⟨by obtain ⟨i, h1, h2⟩ := info_z Try.z63; exact ⟨i, _, h1, h2, rfl⟩⟩
instance : TySl Try.prog 63 40 30 288 := ⟨Try.underlying63, info_s (z := .agg #[.int .i64 0, .int .i64 0, .int .i64 0, .int .i64 0, .int .i64 0, .int .i64 0, .int .i64 0, .slice none 0 0, .int .i64 0, .int .i64 0, .int .i64 0, .int .i64 0, .int .i64 0, .int .i64 0, .int .i64 0, .int .i64 0, .int .i64 0, .int .i64 0, .int .i64 0, .int .i64 0, .int .i64 0, .int .i64 0, .int .i64 0, .slice none 0 0, .int .i64 0, .slice none 0 0, .int .i64 0, .int .i64 0, .int .i64 0, .int .i64 0]) (by kernel_rfl) rfl, by decide⟩
-- 64: []laws.Account
instance : TyN Try.prog 64 1 := ⟨info_n (by kernel_rfl)⟩
instance : TySc Try.prog 64 := ⟨fun w => by kernel_rfl, info_n (by kernel_rfl)⟩
theorem Try.z64 : (Try.prog.info? 64).map (·.zero) = some (some (.slice none 0 0)) := by kernel_rfl
instance : TyZ Try.prog 64 [.nil] := ⟨by obtain ⟨i, h1, h2⟩ := info_z Try.z64; exact ⟨i, _, h1, h2, rfl⟩⟩
instance : TyE Try.prog 64 [.l []] := ⟨by obtain ⟨i, h1, h2⟩ := info_z Try.z64; exact ⟨i, _, h1, h2, rfl⟩⟩
instance : TySl Try.prog 64 161 4 48 := ⟨Try.underlying64, info_s (z := .agg #[.int .i64 0, .int .i64 0, .int .i64 0, .slice none 0 0]) (by kernel_rfl) rfl, by decide⟩
-- 65: []laws.Flight
instance : TyN Try.prog 65 1 := ⟨info_n (by kernel_rfl)⟩
instance : TySc Try.prog 65 := ⟨fun w => by kernel_rfl, info_n (by kernel_rfl)⟩
theorem Try.z65 : (Try.prog.info? 65).map (·.zero) = some (some (.slice none 0 0)) := by kernel_rfl
instance : TyZ Try.prog 65 [.nil] := ⟨by obtain ⟨i, h1, h2⟩ := info_z Try.z65; exact ⟨i, _, h1, h2, rfl⟩⟩
instance : TyE Try.prog 65 [.l []] := ⟨by obtain ⟨i, h1, h2⟩ := info_z Try.z65; exact ⟨i, _, h1, h2, rfl⟩⟩
instance : TySl Try.prog 65 170 21 176 := ⟨Try.underlying65, info_s (z := .agg #[.int .i64 0, .bool false, .bool false, .int .i64 0, .int .i64 0, .int .i64 0, .int .i64 0, .int .i64 0, .int .i64 0, .int .i64 0, .int .i64 0, .int .i64 0, .int .i64 0, .int .i64 0, .int .i64 0, .int .i64 0, .int .i64 0, .int .i64 0, .int .i64 0, .slice none 0 0, .int .i64 0]) (by kernel_rfl) rfl, by decide⟩
-- 67: laws.ServerPool
instance : TyN Try.prog 67 2 := ⟨info_n (by kernel_rfl)⟩
instance : TyAg Try.prog 67 2 := ⟨fun w => by kernel_rfl, info_n (by kernel_rfl)⟩
theorem Try.z67 : (Try.prog.info? 67).map (·.zero) = some (some (.agg #[.int .i64 0, .int .i64 0])) := by kernel_rfl
instance : TyZ Try.prog 67 [.d false (.i .i64 0), .d false (.i .i64 0)] := ⟨by obtain ⟨i, h1, h2⟩ := info_z Try.z67; exact ⟨i, _, h1, h2, rfl⟩⟩
instance : TyE Try.prog 67 [.i .i64 0, .i .i64 0] := ⟨by obtain ⟨i, h1, h2⟩ := info_z Try.z67; exact ⟨i, _, h1, h2, rfl⟩⟩
instance : TyB Try.prog 67 [(0, 1), (1, 1)] := ⟨_, Try.underlying67, fun w => by kernel_rfl⟩
instance : TyF Try.prog 67 0 0 3 := ⟨_, _, Try.underlying67, rfl, rfl, rfl, info_f (n := 1) (by kernel_rfl) (by decide)⟩
instance : TyF Try.prog 67 1 1 3 := ⟨_, _, Try.underlying67, rfl, rfl, rfl, info_f (n := 1) (by kernel_rfl) (by decide)⟩
-- 69: laws.Network
instance : TyN Try.prog 69 10 := ⟨info_n (by kernel_rfl)⟩
instance : TyAg Try.prog 69 10 := ⟨fun w => by kernel_rfl, info_n (by kernel_rfl)⟩
theorem Try.z69 : (Try.prog.info? 69).map (·.zero) = some (some (.agg #[.slice none 0 0, .slice none 0 0, .slice none 0 0, .slice none 0 0, .slice none 0 0, .int .i64 0, .int .i64 0, .int .i64 0, .int .i64 0, .int .i64 0])) := by kernel_rfl
instance : TyZ Try.prog 69 [.nil, .nil, .nil, .nil, .nil, .d false (.i .i64 0), .d false (.i .i64 0), .d false (.i .i64 0), .d false (.i .i64 0), .d false (.i .i64 0)] := ⟨by obtain ⟨i, h1, h2⟩ := info_z Try.z69; exact ⟨i, _, h1, h2, rfl⟩⟩
instance : TyE Try.prog 69 [.l [], .l [], .l [], .l [], .l [], .i .i64 0, .i .i64 0, .i .i64 0, .i .i64 0, .i .i64 0] := ⟨by obtain ⟨i, h1, h2⟩ := info_z Try.z69; exact ⟨i, _, h1, h2, rfl⟩⟩
instance : TyB Try.prog 69 [(0, 1), (1, 1), (2, 1), (3, 1), (4, 1), (5, 1), (6, 2), (8, 1), (9, 1)] := ⟨_, Try.underlying69, fun w => by kernel_rfl⟩
instance : TyF Try.prog 69 0 0 61 := ⟨_, _, Try.underlying69, rfl, rfl, rfl, info_f (n := 1) (by kernel_rfl) (by decide)⟩
instance : TyF Try.prog 69 1 1 62 := ⟨_, _, Try.underlying69, rfl, rfl, rfl, info_f (n := 1) (by kernel_rfl) (by decide)⟩
instance : TyF Try.prog 69 2 2 63 := ⟨_, _, Try.underlying69, rfl, rfl, rfl, info_f (n := 1) (by kernel_rfl) (by decide)⟩
instance : TyF Try.prog 69 3 3 64 := ⟨_, _, Try.underlying69, rfl, rfl, rfl, info_f (n := 1) (by kernel_rfl) (by decide)⟩
instance : TyF Try.prog 69 4 4 65 := ⟨_, _, Try.underlying69, rfl, rfl, rfl, info_f (n := 1) (by kernel_rfl) (by decide)⟩
instance : TyF Try.prog 69 5 5 3 := ⟨_, _, Try.underlying69, rfl, rfl, rfl, info_f (n := 1) (by kernel_rfl) (by decide)⟩
instance : TyF Try.prog 69 6 6 67 := ⟨_, _, Try.underlying69, rfl, rfl, rfl, info_f (n := 2) (by kernel_rfl) (by decide)⟩
instance : TyF Try.prog 69 7 8 3 := ⟨_, _, Try.underlying69, rfl, rfl, rfl, info_f (n := 1) (by kernel_rfl) (by decide)⟩
instance : TyF Try.prog 69 8 9 3 := ⟨_, _, Try.underlying69, rfl, rfl, rfl, info_f (n := 1) (by kernel_rfl) (by decide)⟩
-- 72: []impl.Cell
instance : TyN Try.prog 72 1 := ⟨info_n (by kernel_rfl)⟩
instance : TySc Try.prog 72 := ⟨fun w => by kernel_rfl, info_n (by kernel_rfl)⟩
theorem Try.z72 : (Try.prog.info? 72).map (·.zero) = some (some (.slice none 0 0)) := by kernel_rfl
instance : TyZ Try.prog 72 [.nil] := ⟨by obtain ⟨i, h1, h2⟩ := info_z Try.z72; exact ⟨i, _, h1, h2, rfl⟩⟩
instance : TyE Try.prog 72 [.l []] := ⟨by obtain ⟨i, h1, h2⟩ := info_z Try.z72; exact ⟨i, _, h1, h2, rfl⟩⟩
instance : TySl Try.prog 72 202 2 32 := ⟨Try.underlying72, info_s (z := .agg #[.int .i64 0, .slice none 0 0]) (by kernel_rfl) rfl, by decide⟩
-- 74: impl.CellMap
instance : TyN Try.prog 74 1 := ⟨info_n (by kernel_rfl)⟩
instance : TyAg Try.prog 74 1 := ⟨fun w => by kernel_rfl, info_n (by kernel_rfl)⟩
theorem Try.z74 : (Try.prog.info? 74).map (·.zero) = some (some (.agg #[.slice none 0 0])) := by kernel_rfl
instance : TyZ Try.prog 74 [.nil] := ⟨by obtain ⟨i, h1, h2⟩ := info_z Try.z74; exact ⟨i, _, h1, h2, rfl⟩⟩
instance : TyE Try.prog 74 [.l []] := ⟨by obtain ⟨i, h1, h2⟩ := info_z Try.z74; exact ⟨i, _, h1, h2, rfl⟩⟩
instance : TyB Try.prog 74 [(0, 1)] := ⟨_, Try.underlying74, fun w => by kernel_rfl⟩
instance : TyF Try.prog 74 0 0 72 := ⟨_, _, Try.underlying74, rfl, rfl, rfl, info_f (n := 1) (by kernel_rfl) (by decide)⟩
-- 75: []impl.Device
instance : TyN Try.prog 75 1 := ⟨info_n (by kernel_rfl)⟩
instance : TySc Try.prog 75 := ⟨fun w => by kernel_rfl, info_n (by kernel_rfl)⟩
theorem Try.z75 : (Try.prog.info? 75).map (·.zero) = some (some (.slice none 0 0)) := by kernel_rfl
instance : TyZ Try.prog 75 [.nil] := ⟨by obtain ⟨i, h1, h2⟩ := info_z Try.z75; exact ⟨i, _, h1, h2, rfl⟩⟩
instance : TyE Try.prog 75 [.l []] := ⟨by obtain ⟨i, h1, h2⟩ := info_z Try.z75; exact ⟨i, _, h1, h2, rfl⟩⟩
instance : TySl Try.prog 75 133 14 144 := ⟨Try.underlying75, info_s (z := .agg #[.int .i64 0, .int .i64 0, .int .i64 0, .int .i64 0, .int .i64 0, .int .i64 0, .int .i64 0, .int .i64 0, .int .i64 0, .bool false, .int .i64 0, .int .i64 0, .slice none 0 0, .slice none 0 0]) (by kernel_rfl) rfl, by decide⟩
-- 76: []impl.Session
instance : TyN Try.prog 76 1 := ⟨info_n (by kernel_rfl)⟩
instance : TySc Try.prog 76 := ⟨fun w => by kernel_rfl, info_n (by kernel_rfl)⟩
theorem Try.z76 : (Try.prog.info? 76).map (·.zero) = some (some (.slice none 0 0)) := by kernel_rfl
instance : TyZ Try.prog 76 [.nil] := ⟨by obtain ⟨i, h1, h2⟩ := info_z Try.z76; exact ⟨i, _, h1, h2, rfl⟩⟩
instance : TyE Try.prog 76 [.l []] := ⟨by obtain ⟨i, h1, h2⟩ := info_z Try.z76; exact ⟨i, _, h1, h2, rfl⟩⟩
instance : TySl Try.prog 76 55 30 288 := ⟨Try.underlying76, info_s (z := .agg #[.int .i64 0, .int .i64 0, .int .i64 0, .int .i64 0, .int .i64 0, .int .i64 0, .int .i64 0, .slice none 0 0, .int .i64 0, .int .i64 0, .int .i64 0, .int .i64 0, .int .i64 0, .int .i64 0, .int .i64 0, .int .i64 0, .int .i64 0, .int .i64 0, .int .i64 0, .int .i64 0, .int .i64 0, .int .i64 0, .int .i64 0, .slice none 0 0, .int .i64 0, .slice none 0 0, .int .i64 0, .int .i64 0, .int .i64 0, .int .i64 0]) (by kernel_rfl) rfl, by decide⟩
-- 77: []impl.Account
instance : TyN Try.prog 77 1 := ⟨info_n (by kernel_rfl)⟩
instance : TySc Try.prog 77 := ⟨fun w => by kernel_rfl, info_n (by kernel_rfl)⟩
theorem Try.z77 : (Try.prog.info? 77).map (·.zero) = some (some (.slice none 0 0)) := by kernel_rfl
instance : TyZ Try.prog 77 [.nil] := ⟨by obtain ⟨i, h1, h2⟩ := info_z Try.z77; exact ⟨i, _, h1, h2, rfl⟩⟩
instance : TyE Try.prog 77 [.l []] := ⟨by obtain ⟨i, h1, h2⟩ := info_z Try.z77; exact ⟨i, _, h1, h2, rfl⟩⟩
instance : TySl Try.prog 77 137 4 48 := ⟨Try.underlying77, info_s (z := .agg #[.int .i64 0, .int .i64 0, .int .i64 0, .slice none 0 0]) (by kernel_rfl) rfl, by decide⟩
-- 78: []impl.Flight
instance : TyN Try.prog 78 1 := ⟨info_n (by kernel_rfl)⟩
instance : TySc Try.prog 78 := ⟨fun w => by kernel_rfl, info_n (by kernel_rfl)⟩
theorem Try.z78 : (Try.prog.info? 78).map (·.zero) = some (some (.slice none 0 0)) := by kernel_rfl
instance : TyZ Try.prog 78 [.nil] := ⟨by obtain ⟨i, h1, h2⟩ := info_z Try.z78; exact ⟨i, _, h1, h2, rfl⟩⟩
instance : TyE Try.prog 78 [.l []] := ⟨by obtain ⟨i, h1, h2⟩ := info_z Try.z78; exact ⟨i, _, h1, h2, rfl⟩⟩
instance : TySl Try.prog 78 180 21 176 := ⟨Try.underlying78, info_s (z := .agg #[.int .i64 0, .bool false, .bool false, .int .i64 0, .int .i64 0, .int .i64 0, .int .i64 0, .int .i64 0, .int .i64 0, .int .i64 0, .int .i64 0, .int .i64 0, .int .i64 0, .int .i64 0, .int .i64 0, .int .i64 0, .int .i64 0, .int .i64 0, .int .i64 0, .slice none 0 0, .int .i64 0]) (by kernel_rfl) rfl, by decide⟩
-- 79: impl.ServerPool
instance : TyN Try.prog 79 2 := ⟨info_n (by kernel_rfl)⟩
instance : TyAg Try.prog 79 2 := ⟨fun w => by kernel_rfl, info_n (by kernel_rfl)⟩
theorem Try.z79 : (Try.prog.info? 79).map (·.zero) = some (some (.agg #[.int .i64 0, .int .i64 0])) := by kernel_rfl
instance : TyZ Try.prog 79 [.d false (.i .i64 0), .d false (.i .i64 0)] := ⟨by obtain ⟨i, h1, h2⟩ := info_z Try.z79; exact ⟨i, _, h1, h2, rfl⟩⟩
instance : TyE Try.prog 79 [.i .i64 0, .i .i64 0] := ⟨by obtain ⟨i, h1, h2⟩ := info_z Try.z79; exact ⟨i, _, h1, h2, rfl⟩⟩
instance : TyB Try.prog 79 [(0, 1), (1, 1)] := ⟨_, Try.underlying79, fun w => by kernel_rfl⟩
instance : TyF Try.prog 79 0 0 3 := ⟨_, _, Try.underlying79, rfl, rfl, rfl, info_f (n := 1) (by kernel_rfl) (by decide)⟩
instance : TyF Try.prog 79 1 1 3 := ⟨_, _, Try.underlying79, rfl, rfl, rfl, info_f (n := 1) (by kernel_rfl) (by decide)⟩
-- 81: impl.Network
instance : TyN Try.prog 81 10 := ⟨info_n (by kernel_rfl)⟩
instance : TyAg Try.prog 81 10 := ⟨fun w => by kernel_rfl, info_n (by kernel_rfl)⟩
theorem Try.z81 : (Try.prog.info? 81).map (·.zero) = some (some (.agg #[.slice none 0 0, .slice none 0 0, .slice none 0 0, .slice none 0 0, .slice none 0 0, .int .i64 0, .int .i64 0, .int .i64 0, .int .i64 0, .int .i64 0])) := by kernel_rfl
instance : TyZ Try.prog 81 [.nil, .nil, .nil, .nil, .nil, .d false (.i .i64 0), .d false (.i .i64 0), .d false (.i .i64 0), .d false (.i .i64 0), .d false (.i .i64 0)] := ⟨by obtain ⟨i, h1, h2⟩ := info_z Try.z81; exact ⟨i, _, h1, h2, rfl⟩⟩
instance : TyE Try.prog 81 [.l [], .l [], .l [], .l [], .l [], .i .i64 0, .i .i64 0, .i .i64 0, .i .i64 0, .i .i64 0] := ⟨by obtain ⟨i, h1, h2⟩ := info_z Try.z81; exact ⟨i, _, h1, h2, rfl⟩⟩
instance : TyB Try.prog 81 [(0, 1), (1, 1), (2, 1), (3, 1), (4, 1), (5, 1), (6, 2), (8, 1), (9, 1)] := ⟨_, Try.underlying81, fun w => by kernel_rfl⟩
instance : TyF Try.prog 81 0 0 74 := ⟨_, _, Try.underlying81, rfl, rfl, rfl, info_f (n := 1) (by kernel_rfl) (by decide)⟩
instance : TyF Try.prog 81 1 1 75 := ⟨_, _, Try.underlying81, rfl, rfl, rfl, info_f (n := 1) (by kernel_rfl) (by decide)⟩
instance : TyF Try.prog 81 2 2 76 := ⟨_, _, Try.underlying81, rfl, rfl, rfl, info_f (n := 1) (by kernel_rfl) (by decide)⟩
instance : TyF Try.prog 81 3 3 77 := ⟨_, _, Try.underlying81, rfl, rfl, rfl, info_f (n := 1) (by kernel_rfl) (by decide)⟩
instance : TyF Try.prog 81 4 4 78 := ⟨_, _, Try.underlying81, rfl, rfl, rfl, info_f (n := 1) (by kernel_rfl) (by decide)⟩
instance : TyF Try.prog 81 5 5 3 := ⟨_, _, Try.underlying81, rfl, rfl, rfl, info_f (n := 1) (by kernel_rfl) (by decide)⟩
instance : TyF Try.prog 81 6 6 79 := ⟨_, _, Try.underlying81, rfl, rfl, rfl, info_f (n := 2) (by kernel_rfl) (by decide)⟩
instance : TyF Try.prog 81 7 8 3 := ⟨_, _, Try.underlying81, rfl, rfl, rfl, info_f (n := 1) (by kernel_rfl) (by decide)⟩
instance : TyF Try.prog 81 8 9 3 := ⟨_, _, Try.underlying81, rfl, rfl, rfl, info_f (n := 1) (by kernel_rfl) (by decide)⟩
-- 91: []uint8
instance : TyN Try.prog 91 1 := ⟨info_n (by kernel_rfl)⟩
instance : TySc Try.prog 91 := ⟨fun w => by kernel_rfl, info_n (by kernel_rfl)⟩
theorem Try.z91 : (Try.prog.info? 91).map (·.zero) = some (some (.slice none 0 0)) := by kernel_rfl
instance : TyZ Try.prog 91 [.nil] := ⟨by obtain ⟨i, h1, h2⟩ := info_z Try.z91; exact ⟨i, _, h1, h2, rfl⟩⟩
instance : TyE Try.prog 91 [.l []] := ⟨by obtain ⟨i, h1, h2⟩ := info_z Try.z91; exact ⟨i, _, h1, h2, rfl⟩⟩
instance : TySl Try.prog 91 5 1 1 := ⟨Try.underlying91, info_s (z := .int .u8 0) (by kernel_rfl) rfl, by decide⟩
-- 93: impl.Payload
instance : TyN Try.prog 93 1 := ⟨info_n (by kernel_rfl)⟩
instance : TyAg Try.prog 93 1 := ⟨fun w => by kernel_rfl, info_n (by kernel_rfl)⟩
theorem Try.z93 : (Try.prog.info? 93).map (·.zero) = some (some (.agg #[.slice none 0 0])) := by kernel_rfl
instance : TyZ Try.prog 93 [.nil] := ⟨by obtain ⟨i, h1, h2⟩ := info_z Try.z93; exact ⟨i, _, h1, h2, rfl⟩⟩
instance : TyE Try.prog 93 [.l []] := ⟨by obtain ⟨i, h1, h2⟩ := info_z Try.z93; exact ⟨i, _, h1, h2, rfl⟩⟩
instance : TyB Try.prog 93 [(0, 1)] := ⟨_, Try.underlying93, fun w => by kernel_rfl⟩
instance : TyF Try.prog 93 0 0 91 := ⟨_, _, Try.underlying93, rfl, rfl, rfl, info_f (n := 1) (by kernel_rfl) (by decide)⟩
-- 129: impl.ReceiveWindow
instance : TyN Try.prog 129 3 := ⟨info_n (by kernel_rfl)⟩
instance : TyAg Try.prog 129 3 := ⟨fun w => by kernel_rfl, info_n (by kernel_rfl)⟩
theorem Try.z129 : (Try.prog.info? 129).map (·.zero) = some (some (.agg #[.int .i64 0, .slice none 0 0, .slice none 0 0])) := by kernel_rfl
instance : TyZ Try.prog 129 [.d false (.i .i64 0), .nil, .nil] := ⟨by obtain ⟨i, h1, h2⟩ := info_z Try.z129; exact ⟨i, _, h1, h2, rfl⟩⟩
instance : TyE Try.prog 129 [.i .i64 0, .l [], .l []] := ⟨by obtain ⟨i, h1, h2⟩ := info_z Try.z129; exact ⟨i, _, h1, h2, rfl⟩⟩
instance : TyB Try.prog 129 [(0, 1), (1, 1), (2, 1)] := ⟨_, Try.underlying129, fun w => by kernel_rfl⟩
instance : TyF Try.prog 129 0 0 3 := ⟨_, _, Try.underlying129, rfl, rfl, rfl, info_f (n := 1) (by kernel_rfl) (by decide)⟩
instance : TyF Try.prog 129 1 1 50 := ⟨_, _, Try.underlying129, rfl, rfl, rfl, info_f (n := 1) (by kernel_rfl) (by decide)⟩
instance : TyF Try.prog 129 2 2 49 := ⟨_, _, Try.underlying129, rfl, rfl, rfl, info_f (n := 1) (by kernel_rfl) (by decide)⟩
-- 131: impl.USIM
instance : TyN Try.prog 131 4 := ⟨info_n (by kernel_rfl)⟩
instance : TyAg Try.prog 131 4 := ⟨fun w => by kernel_rfl, info_n (by kernel_rfl)⟩
theorem Try.z131 : (Try.prog.info? 131).map (·.zero) = some (some (.agg #[.int .i64 0, .int .i64 0, .int .i64 0, .int .i64 0])) := by kernel_rfl
instance : TyZ Try.prog 131 [.d false (.i .i64 0), .d false (.i .i64 0), .d false (.i .i64 0), .d false (.i .i64 0)] := ⟨by obtain ⟨i, h1, h2⟩ := info_z Try.z131; exact ⟨i, _, h1, h2, rfl⟩⟩
instance : TyE Try.prog 131 [.i .i64 0, .i .i64 0, .i .i64 0, .i .i64 0] := ⟨by obtain ⟨i, h1, h2⟩ := info_z Try.z131; exact ⟨i, _, h1, h2, rfl⟩⟩
instance : TyB Try.prog 131 [(0, 2), (2, 1), (3, 1)] := ⟨_, Try.underlying131, fun w => by kernel_rfl⟩
instance : TyF Try.prog 131 0 0 43 := ⟨_, _, Try.underlying131, rfl, rfl, rfl, info_f (n := 2) (by kernel_rfl) (by decide)⟩
instance : TyF Try.prog 131 1 2 3 := ⟨_, _, Try.underlying131, rfl, rfl, rfl, info_f (n := 1) (by kernel_rfl) (by decide)⟩
instance : TyF Try.prog 131 2 3 3 := ⟨_, _, Try.underlying131, rfl, rfl, rfl, info_f (n := 1) (by kernel_rfl) (by decide)⟩
-- 133: impl.Device
instance : TyN Try.prog 133 14 := ⟨info_n (by kernel_rfl)⟩
instance : TyAg Try.prog 133 14 := ⟨fun w => by kernel_rfl, info_n (by kernel_rfl)⟩
theorem Try.z133 : (Try.prog.info? 133).map (·.zero) = some (some (.agg #[.int .i64 0, .int .i64 0, .int .i64 0, .int .i64 0, .int .i64 0, .int .i64 0, .int .i64 0, .int .i64 0, .int .i64 0, .bool false, .int .i64 0, .int .i64 0, .slice none 0 0, .slice none 0 0])) := by kernel_rfl
instance : TyZ Try.prog 133 [.d false (.i .i64 0), .d false (.i .i64 0), .d false (.i .i64 0), .d false (.i .i64 0), .d false (.i .i64 0), .d false (.i .i64 0), .d false (.i .i64 0), .d false (.i .i64 0), .d false (.i .i64 0), .d false (.b false), .d false (.i .i64 0), .d false (.i .i64 0), .nil, .nil] := ⟨by obtain ⟨i, h1, h2⟩ := info_z Try.z133; exact ⟨i, _, h1, h2, rfl⟩⟩
instance : TyE Try.prog 133 [.i .i64 0, .i .i64 0, .i .i64 0, .i .i64 0, .i .i64 0, .i .i64 0, .i .i64 0, .i .i64 0, .i .i64 0, .b false, .i .i64 0, .i .i64 0, .l [], .l []] := ⟨by obtain ⟨i, h1, h2⟩ := info_z Try.z133; exact ⟨i, _, h1, h2, rfl⟩⟩
instance : TyB Try.prog 133 [(0, 4), (4, 1), (5, 1), (6, 1), (7, 1), (8, 1), (9, 1), (10, 1), (11, 3)] := ⟨_, Try.underlying133, fun w => by kernel_rfl⟩
instance : TyF Try.prog 133 0 0 131 := ⟨_, _, Try.underlying133, rfl, rfl, rfl, info_f (n := 4) (by kernel_rfl) (by decide)⟩
instance : TyF Try.prog 133 1 4 3 := ⟨_, _, Try.underlying133, rfl, rfl, rfl, info_f (n := 1) (by kernel_rfl) (by decide)⟩
instance : TyF Try.prog 133 2 5 3 := ⟨_, _, Try.underlying133, rfl, rfl, rfl, info_f (n := 1) (by kernel_rfl) (by decide)⟩
instance : TyF Try.prog 133 3 6 3 := ⟨_, _, Try.underlying133, rfl, rfl, rfl, info_f (n := 1) (by kernel_rfl) (by decide)⟩
instance : TyF Try.prog 133 4 7 3 := ⟨_, _, Try.underlying133, rfl, rfl, rfl, info_f (n := 1) (by kernel_rfl) (by decide)⟩
instance : TyF Try.prog 133 5 8 3 := ⟨_, _, Try.underlying133, rfl, rfl, rfl, info_f (n := 1) (by kernel_rfl) (by decide)⟩
instance : TyF Try.prog 133 6 9 4 := ⟨_, _, Try.underlying133, rfl, rfl, rfl, info_f (n := 1) (by kernel_rfl) (by decide)⟩
instance : TyF Try.prog 133 7 10 3 := ⟨_, _, Try.underlying133, rfl, rfl, rfl, info_f (n := 1) (by kernel_rfl) (by decide)⟩
instance : TyF Try.prog 133 8 11 129 := ⟨_, _, Try.underlying133, rfl, rfl, rfl, info_f (n := 3) (by kernel_rfl) (by decide)⟩
-- 135: []impl.Reservation
instance : TyN Try.prog 135 1 := ⟨info_n (by kernel_rfl)⟩
instance : TySc Try.prog 135 := ⟨fun w => by kernel_rfl, info_n (by kernel_rfl)⟩
theorem Try.z135 : (Try.prog.info? 135).map (·.zero) = some (some (.slice none 0 0)) := by kernel_rfl
instance : TyZ Try.prog 135 [.nil] := ⟨by obtain ⟨i, h1, h2⟩ := info_z Try.z135; exact ⟨i, _, h1, h2, rfl⟩⟩
instance : TyE Try.prog 135 [.l []] := ⟨by obtain ⟨i, h1, h2⟩ := info_z Try.z135; exact ⟨i, _, h1, h2, rfl⟩⟩
instance : TySl Try.prog 135 217 2 16 := ⟨Try.underlying135, info_s (z := .agg #[.int .i64 0, .int .i64 0]) (by kernel_rfl) rfl, by decide⟩
-- 137: impl.Account
instance : TyN Try.prog 137 4 := ⟨info_n (by kernel_rfl)⟩
instance : TyAg Try.prog 137 4 := ⟨fun w => by kernel_rfl, info_n (by kernel_rfl)⟩
theorem Try.z137 : (Try.prog.info? 137).map (·.zero) = some (some (.agg #[.int .i64 0, .int .i64 0, .int .i64 0, .slice none 0 0])) := by kernel_rfl
instance : TyZ Try.prog 137 [.d false (.i .i64 0), .d false (.i .i64 0), .d false (.i .i64 0), .nil] := ⟨by obtain ⟨i, h1, h2⟩ := info_z Try.z137; exact ⟨i, _, h1, h2, rfl⟩⟩
instance : TyE Try.prog 137 [.i .i64 0, .i .i64 0, .i .i64 0, .l []] := ⟨by obtain ⟨i, h1, h2⟩ := info_z Try.z137; exact ⟨i, _, h1, h2, rfl⟩⟩
instance : TyB Try.prog 137 [(0, 1), (1, 1), (2, 1), (3, 1)] := ⟨_, Try.underlying137, fun w => by kernel_rfl⟩
instance : TyF Try.prog 137 0 0 3 := ⟨_, _, Try.underlying137, rfl, rfl, rfl, info_f (n := 1) (by kernel_rfl) (by decide)⟩
instance : TyF Try.prog 137 1 1 3 := ⟨_, _, Try.underlying137, rfl, rfl, rfl, info_f (n := 1) (by kernel_rfl) (by decide)⟩
instance : TyF Try.prog 137 2 2 3 := ⟨_, _, Try.underlying137, rfl, rfl, rfl, info_f (n := 1) (by kernel_rfl) (by decide)⟩
instance : TyF Try.prog 137 3 3 135 := ⟨_, _, Try.underlying137, rfl, rfl, rfl, info_f (n := 1) (by kernel_rfl) (by decide)⟩
-- 140: laws.Payload
instance : TyN Try.prog 140 1 := ⟨info_n (by kernel_rfl)⟩
instance : TyAg Try.prog 140 1 := ⟨fun w => by kernel_rfl, info_n (by kernel_rfl)⟩
theorem Try.z140 : (Try.prog.info? 140).map (·.zero) = some (some (.agg #[.slice none 0 0])) := by kernel_rfl
instance : TyZ Try.prog 140 [.nil] := ⟨by obtain ⟨i, h1, h2⟩ := info_z Try.z140; exact ⟨i, _, h1, h2, rfl⟩⟩
instance : TyE Try.prog 140 [.l []] := ⟨by obtain ⟨i, h1, h2⟩ := info_z Try.z140; exact ⟨i, _, h1, h2, rfl⟩⟩
instance : TyB Try.prog 140 [(0, 1)] := ⟨_, Try.underlying140, fun w => by kernel_rfl⟩
instance : TyF Try.prog 140 0 0 91 := ⟨_, _, Try.underlying140, rfl, rfl, rfl, info_f (n := 1) (by kernel_rfl) (by decide)⟩
-- 153: laws.USIM
instance : TyN Try.prog 153 4 := ⟨info_n (by kernel_rfl)⟩
instance : TyAg Try.prog 153 4 := ⟨fun w => by kernel_rfl, info_n (by kernel_rfl)⟩
theorem Try.z153 : (Try.prog.info? 153).map (·.zero) = some (some (.agg #[.int .i64 0, .int .i64 0, .int .i64 0, .int .i64 0])) := by kernel_rfl
instance : TyZ Try.prog 153 [.d false (.i .i64 0), .d false (.i .i64 0), .d false (.i .i64 0), .d false (.i .i64 0)] := ⟨by obtain ⟨i, h1, h2⟩ := info_z Try.z153; exact ⟨i, _, h1, h2, rfl⟩⟩
instance : TyE Try.prog 153 [.i .i64 0, .i .i64 0, .i .i64 0, .i .i64 0] := ⟨by obtain ⟨i, h1, h2⟩ := info_z Try.z153; exact ⟨i, _, h1, h2, rfl⟩⟩
instance : TyB Try.prog 153 [(0, 2), (2, 1), (3, 1)] := ⟨_, Try.underlying153, fun w => by kernel_rfl⟩
instance : TyF Try.prog 153 0 0 23 := ⟨_, _, Try.underlying153, rfl, rfl, rfl, info_f (n := 2) (by kernel_rfl) (by decide)⟩
instance : TyF Try.prog 153 1 2 3 := ⟨_, _, Try.underlying153, rfl, rfl, rfl, info_f (n := 1) (by kernel_rfl) (by decide)⟩
instance : TyF Try.prog 153 2 3 3 := ⟨_, _, Try.underlying153, rfl, rfl, rfl, info_f (n := 1) (by kernel_rfl) (by decide)⟩
-- 155: laws.ReceiveWindow
instance : TyN Try.prog 155 3 := ⟨info_n (by kernel_rfl)⟩
instance : TyAg Try.prog 155 3 := ⟨fun w => by kernel_rfl, info_n (by kernel_rfl)⟩
theorem Try.z155 : (Try.prog.info? 155).map (·.zero) = some (some (.agg #[.int .i64 0, .slice none 0 0, .slice none 0 0])) := by kernel_rfl
instance : TyZ Try.prog 155 [.d false (.i .i64 0), .nil, .nil] := ⟨by obtain ⟨i, h1, h2⟩ := info_z Try.z155; exact ⟨i, _, h1, h2, rfl⟩⟩
instance : TyE Try.prog 155 [.i .i64 0, .l [], .l []] := ⟨by obtain ⟨i, h1, h2⟩ := info_z Try.z155; exact ⟨i, _, h1, h2, rfl⟩⟩
instance : TyB Try.prog 155 [(0, 1), (1, 1), (2, 1)] := ⟨_, Try.underlying155, fun w => by kernel_rfl⟩
instance : TyF Try.prog 155 0 0 3 := ⟨_, _, Try.underlying155, rfl, rfl, rfl, info_f (n := 1) (by kernel_rfl) (by decide)⟩
instance : TyF Try.prog 155 1 1 34 := ⟨_, _, Try.underlying155, rfl, rfl, rfl, info_f (n := 1) (by kernel_rfl) (by decide)⟩
instance : TyF Try.prog 155 2 2 33 := ⟨_, _, Try.underlying155, rfl, rfl, rfl, info_f (n := 1) (by kernel_rfl) (by decide)⟩
-- 157: laws.Device
instance : TyN Try.prog 157 14 := ⟨info_n (by kernel_rfl)⟩
instance : TyAg Try.prog 157 14 := ⟨fun w => by kernel_rfl, info_n (by kernel_rfl)⟩
theorem Try.z157 : (Try.prog.info? 157).map (·.zero) = some (some (.agg #[.int .i64 0, .int .i64 0, .int .i64 0, .int .i64 0, .int .i64 0, .int .i64 0, .int .i64 0, .int .i64 0, .int .i64 0, .bool false, .int .i64 0, .int .i64 0, .slice none 0 0, .slice none 0 0])) := by kernel_rfl
instance : TyZ Try.prog 157 [.d false (.i .i64 0), .d false (.i .i64 0), .d false (.i .i64 0), .d false (.i .i64 0), .d false (.i .i64 0), .d false (.i .i64 0), .d false (.i .i64 0), .d false (.i .i64 0), .d false (.i .i64 0), .d false (.b false), .d false (.i .i64 0), .d false (.i .i64 0), .nil, .nil] := ⟨by obtain ⟨i, h1, h2⟩ := info_z Try.z157; exact ⟨i, _, h1, h2, rfl⟩⟩
instance : TyE Try.prog 157 [.i .i64 0, .i .i64 0, .i .i64 0, .i .i64 0, .i .i64 0, .i .i64 0, .i .i64 0, .i .i64 0, .i .i64 0, .b false, .i .i64 0, .i .i64 0, .l [], .l []] := ⟨by obtain ⟨i, h1, h2⟩ := info_z Try.z157; exact ⟨i, _, h1, h2, rfl⟩⟩
instance : TyB Try.prog 157 [(0, 4), (4, 1), (5, 1), (6, 1), (7, 1), (8, 1), (9, 1), (10, 1), (11, 3)] := ⟨_, Try.underlying157, fun w => by kernel_rfl⟩
instance : TyF Try.prog 157 0 0 153 := ⟨_, _, Try.underlying157, rfl, rfl, rfl, info_f (n := 4) (by kernel_rfl) (by decide)⟩
instance : TyF Try.prog 157 1 4 3 := ⟨_, _, Try.underlying157, rfl, rfl, rfl, info_f (n := 1) (by kernel_rfl) (by decide)⟩
instance : TyF Try.prog 157 2 5 3 := ⟨_, _, Try.underlying157, rfl, rfl, rfl, info_f (n := 1) (by kernel_rfl) (by decide)⟩
instance : TyF Try.prog 157 3 6 3 := ⟨_, _, Try.underlying157, rfl, rfl, rfl, info_f (n := 1) (by kernel_rfl) (by decide)⟩
instance : TyF Try.prog 157 4 7 3 := ⟨_, _, Try.underlying157, rfl, rfl, rfl, info_f (n := 1) (by kernel_rfl) (by decide)⟩
instance : TyF Try.prog 157 5 8 3 := ⟨_, _, Try.underlying157, rfl, rfl, rfl, info_f (n := 1) (by kernel_rfl) (by decide)⟩
instance : TyF Try.prog 157 6 9 4 := ⟨_, _, Try.underlying157, rfl, rfl, rfl, info_f (n := 1) (by kernel_rfl) (by decide)⟩
instance : TyF Try.prog 157 7 10 3 := ⟨_, _, Try.underlying157, rfl, rfl, rfl, info_f (n := 1) (by kernel_rfl) (by decide)⟩
instance : TyF Try.prog 157 8 11 155 := ⟨_, _, Try.underlying157, rfl, rfl, rfl, info_f (n := 3) (by kernel_rfl) (by decide)⟩
-- 159: []laws.Reservation
instance : TyN Try.prog 159 1 := ⟨info_n (by kernel_rfl)⟩
instance : TySc Try.prog 159 := ⟨fun w => by kernel_rfl, info_n (by kernel_rfl)⟩
theorem Try.z159 : (Try.prog.info? 159).map (·.zero) = some (some (.slice none 0 0)) := by kernel_rfl
instance : TyZ Try.prog 159 [.nil] := ⟨by obtain ⟨i, h1, h2⟩ := info_z Try.z159; exact ⟨i, _, h1, h2, rfl⟩⟩
instance : TyE Try.prog 159 [.l []] := ⟨by obtain ⟨i, h1, h2⟩ := info_z Try.z159; exact ⟨i, _, h1, h2, rfl⟩⟩
instance : TySl Try.prog 159 219 2 16 := ⟨Try.underlying159, info_s (z := .agg #[.int .i64 0, .int .i64 0]) (by kernel_rfl) rfl, by decide⟩
-- 161: laws.Account
instance : TyN Try.prog 161 4 := ⟨info_n (by kernel_rfl)⟩
instance : TyAg Try.prog 161 4 := ⟨fun w => by kernel_rfl, info_n (by kernel_rfl)⟩
theorem Try.z161 : (Try.prog.info? 161).map (·.zero) = some (some (.agg #[.int .i64 0, .int .i64 0, .int .i64 0, .slice none 0 0])) := by kernel_rfl
instance : TyZ Try.prog 161 [.d false (.i .i64 0), .d false (.i .i64 0), .d false (.i .i64 0), .nil] := ⟨by obtain ⟨i, h1, h2⟩ := info_z Try.z161; exact ⟨i, _, h1, h2, rfl⟩⟩
instance : TyE Try.prog 161 [.i .i64 0, .i .i64 0, .i .i64 0, .l []] := ⟨by obtain ⟨i, h1, h2⟩ := info_z Try.z161; exact ⟨i, _, h1, h2, rfl⟩⟩
instance : TyB Try.prog 161 [(0, 1), (1, 1), (2, 1), (3, 1)] := ⟨_, Try.underlying161, fun w => by kernel_rfl⟩
instance : TyF Try.prog 161 0 0 3 := ⟨_, _, Try.underlying161, rfl, rfl, rfl, info_f (n := 1) (by kernel_rfl) (by decide)⟩
instance : TyF Try.prog 161 1 1 3 := ⟨_, _, Try.underlying161, rfl, rfl, rfl, info_f (n := 1) (by kernel_rfl) (by decide)⟩
instance : TyF Try.prog 161 2 2 3 := ⟨_, _, Try.underlying161, rfl, rfl, rfl, info_f (n := 1) (by kernel_rfl) (by decide)⟩
instance : TyF Try.prog 161 3 3 159 := ⟨_, _, Try.underlying161, rfl, rfl, rfl, info_f (n := 1) (by kernel_rfl) (by decide)⟩
-- 164: laws.Signal
instance : TyN Try.prog 164 11 := ⟨info_n (by kernel_rfl)⟩
instance : TyAg Try.prog 164 11 := ⟨fun w => by kernel_rfl, info_n (by kernel_rfl)⟩
theorem Try.z164 : (Try.prog.info? 164).map (·.zero) = some (some (.agg #[.int .i64 0, .int .i64 0, .int .i64 0, .int .i64 0, .int .i64 0, .int .i64 0, .int .i64 0, .int .i64 0, .int .i64 0, .int .i64 0, .int .i64 0])) := by kernel_rfl
instance : TyZ Try.prog 164 [.d false (.i .i64 0), .d false (.i .i64 0), .d false (.i .i64 0), .d false (.i .i64 0), .d false (.i .i64 0), .d false (.i .i64 0), .d false (.i .i64 0), .d false (.i .i64 0), .d false (.i .i64 0), .d false (.i .i64 0), .d false (.i .i64 0)] := ⟨by obtain ⟨i, h1, h2⟩ := info_z Try.z164; exact ⟨i, _, h1, h2, rfl⟩⟩
instance : TyE Try.prog 164 [.i .i64 0, .i .i64 0, .i .i64 0, .i .i64 0, .i .i64 0, .i .i64 0, .i .i64 0, .i .i64 0, .i .i64 0, .i .i64 0, .i .i64 0] := ⟨by obtain ⟨i, h1, h2⟩ := info_z Try.z164; exact ⟨i, _, h1, h2, rfl⟩⟩
instance : TyB Try.prog 164 [(0, 1), (1, 1), (2, 1), (3, 1), (4, 1), (5, 5), (10, 1)] := ⟨_, Try.underlying164, fun w => by kernel_rfl⟩
instance : TyF Try.prog 164 0 0 3 := ⟨_, _, Try.underlying164, rfl, rfl, rfl, info_f (n := 1) (by kernel_rfl) (by decide)⟩
instance : TyF Try.prog 164 1 1 3 := ⟨_, _, Try.underlying164, rfl, rfl, rfl, info_f (n := 1) (by kernel_rfl) (by decide)⟩
instance : TyF Try.prog 164 2 2 3 := ⟨_, _, Try.underlying164, rfl, rfl, rfl, info_f (n := 1) (by kernel_rfl) (by decide)⟩
instance : TyF Try.prog 164 3 3 3 := ⟨_, _, Try.underlying164, rfl, rfl, rfl, info_f (n := 1) (by kernel_rfl) (by decide)⟩
instance : TyF Try.prog 164 4 4 3 := ⟨_, _, Try.underlying164, rfl, rfl, rfl, info_f (n := 1) (by kernel_rfl) (by decide)⟩
instance : TyF Try.prog 164 5 5 30 := ⟨_, _, Try.underlying164, rfl, rfl, rfl, info_f (n := 5) (by kernel_rfl) (by decide)⟩
instance : TyF Try.prog 164 6 10 3 := ⟨_, _, Try.underlying164, rfl, rfl, rfl, info_f (n := 1) (by kernel_rfl) (by decide)⟩
-- 166: laws.SecuredMessage
instance : TyN Try.prog 166 4 := ⟨info_n (by kernel_rfl)⟩
instance : TyAg Try.prog 166 4 := ⟨fun w => by kernel_rfl, info_n (by kernel_rfl)⟩
theorem Try.z166 : (Try.prog.info? 166).map (·.zero) = some (some (.agg #[.int .i64 0, .int .i64 0, .slice none 0 0, .int .i64 0])) := by kernel_rfl
instance : TyZ Try.prog 166 [.d false (.i .i64 0), .d false (.i .i64 0), .nil, .d false (.i .i64 0)] := ⟨by obtain ⟨i, h1, h2⟩ := info_z Try.z166; exact ⟨i, _, h1, h2, rfl⟩⟩
instance : TyE Try.prog 166 [.i .i64 0, .i .i64 0, .l [], .i .i64 0] := ⟨by obtain ⟨i, h1, h2⟩ := info_z Try.z166; exact ⟨i, _, h1, h2, rfl⟩⟩
instance : TyB Try.prog 166 [(0, 1), (1, 1), (2, 1), (3, 1)] := ⟨_, Try.underlying166, fun w => by kernel_rfl⟩
instance : TyF Try.prog 166 0 0 3 := ⟨_, _, Try.underlying166, rfl, rfl, rfl, info_f (n := 1) (by kernel_rfl) (by decide)⟩
instance : TyF Try.prog 166 1 1 3 := ⟨_, _, Try.underlying166, rfl, rfl, rfl, info_f (n := 1) (by kernel_rfl) (by decide)⟩
instance : TyF Try.prog 166 2 2 91 := ⟨_, _, Try.underlying166, rfl, rfl, rfl, info_f (n := 1) (by kernel_rfl) (by decide)⟩
instance : TyF Try.prog 166 3 3 3 := ⟨_, _, Try.underlying166, rfl, rfl, rfl, info_f (n := 1) (by kernel_rfl) (by decide)⟩
-- 168: laws.RadioPacket
instance : TyN Try.prog 168 6 := ⟨info_n (by kernel_rfl)⟩
instance : TyAg Try.prog 168 6 := ⟨fun w => by kernel_rfl, info_n (by kernel_rfl)⟩
theorem Try.z168 : (Try.prog.info? 168).map (·.zero) = some (some (.agg #[.int .i64 0, .int .i64 0, .int .i64 0, .int .i64 0, .slice none 0 0, .int .i64 0])) := by kernel_rfl
instance : TyZ Try.prog 168 [.d false (.i .i64 0), .d false (.i .i64 0), .d false (.i .i64 0), .d false (.i .i64 0), .nil, .d false (.i .i64 0)] := ⟨by obtain ⟨i, h1, h2⟩ := info_z Try.z168; exact ⟨i, _, h1, h2, rfl⟩⟩
instance : TyE Try.prog 168 [.i .i64 0, .i .i64 0, .i .i64 0, .i .i64 0, .l [], .i .i64 0] := ⟨by obtain ⟨i, h1, h2⟩ := info_z Try.z168; exact ⟨i, _, h1, h2, rfl⟩⟩
instance : TyB Try.prog 168 [(0, 1), (1, 1), (2, 4)] := ⟨_, Try.underlying168, fun w => by kernel_rfl⟩
instance : TyF Try.prog 168 0 0 3 := ⟨_, _, Try.underlying168, rfl, rfl, rfl, info_f (n := 1) (by kernel_rfl) (by decide)⟩
instance : TyF Try.prog 168 1 1 3 := ⟨_, _, Try.underlying168, rfl, rfl, rfl, info_f (n := 1) (by kernel_rfl) (by decide)⟩
instance : TyF Try.prog 168 2 2 166 := ⟨_, _, Try.underlying168, rfl, rfl, rfl, info_f (n := 4) (by kernel_rfl) (by decide)⟩
-- 170: laws.Flight
instance : TyN Try.prog 170 21 := ⟨info_n (by kernel_rfl)⟩
instance : TyAg Try.prog 170 21 := ⟨fun w => by kernel_rfl, info_n (by kernel_rfl)⟩
theorem Try.z170 : (Try.prog.info? 170).map (·.zero) = some (some (.agg #[.int .i64 0, .bool false, .bool false, .int .i64 0, .int .i64 0, .int .i64 0, .int .i64 0, .int .i64 0, .int .i64 0, .int .i64 0, .int .i64 0, .int .i64 0, .int .i64 0, .int .i64 0, .int .i64 0, .int .i64 0, .int .i64 0, .int .i64 0, .int .i64 0, .slice none 0 0, .int .i64 0])) := by kernel_rfl
instance : TyZ Try.prog 170 [.d false (.i .i64 0), .d false (.b false), .d false (.b false), .d false (.i .i64 0), .d false (.i .i64 0), .d false (.i .i64 0), .d false (.i .i64 0), .d false (.i .i64 0), .d false (.i .i64 0), .d false (.i .i64 0), .d false (.i .i64 0), .d false (.i .i64 0), .d false (.i .i64 0), .d false (.i .i64 0), .d false (.i .i64 0), .d false (.i .i64 0), .d false (.i .i64 0), .d false (.i .i64 0), .d false (.i .i64 0), .nil, .d false (.i .i64 0)] := ⟨by obtain ⟨i, h1, h2⟩ := info_z Try.z170; exact ⟨i, _, h1, h2, rfl⟩⟩
instance : TyE Try.prog 170 [.i .i64 0, .b false, .b false, .i .i64 0, .i .i64 0, .i .i64 0, .i .i64 0, .i .i64 0, .i .i64 0, .i .i64 0, .i .i64 0, .i .i64 0, .i .i64 0, .i .i64 0, .i .i64 0, .i .i64 0, .i .i64 0, .i .i64 0, .i .i64 0, .l [], .i .i64 0] := ⟨by obtain ⟨i, h1, h2⟩ := info_z Try.z170; exact ⟨i, _, h1, h2, rfl⟩⟩
instance : TyB Try.prog 170 [(0, 1), (1, 1), (2, 1), (3, 1), (4, 11), (15, 6)] := ⟨_, Try.underlying170, fun w => by kernel_rfl⟩
instance : TyF Try.prog 170 0 0 3 := ⟨_, _, Try.underlying170, rfl, rfl, rfl, info_f (n := 1) (by kernel_rfl) (by decide)⟩
instance : TyF Try.prog 170 1 1 4 := ⟨_, _, Try.underlying170, rfl, rfl, rfl, info_f (n := 1) (by kernel_rfl) (by decide)⟩
instance : TyF Try.prog 170 2 2 4 := ⟨_, _, Try.underlying170, rfl, rfl, rfl, info_f (n := 1) (by kernel_rfl) (by decide)⟩
instance : TyF Try.prog 170 3 3 3 := ⟨_, _, Try.underlying170, rfl, rfl, rfl, info_f (n := 1) (by kernel_rfl) (by decide)⟩
instance : TyF Try.prog 170 4 4 164 := ⟨_, _, Try.underlying170, rfl, rfl, rfl, info_f (n := 11) (by kernel_rfl) (by decide)⟩
instance : TyF Try.prog 170 5 15 168 := ⟨_, _, Try.underlying170, rfl, rfl, rfl, info_f (n := 6) (by kernel_rfl) (by decide)⟩
-- 175: impl.Signal
instance : TyN Try.prog 175 11 := ⟨info_n (by kernel_rfl)⟩
instance : TyAg Try.prog 175 11 := ⟨fun w => by kernel_rfl, info_n (by kernel_rfl)⟩
theorem Try.z175 : (Try.prog.info? 175).map (·.zero) = some (some (.agg #[.int .i64 0, .int .i64 0, .int .i64 0, .int .i64 0, .int .i64 0, .int .i64 0, .int .i64 0, .int .i64 0, .int .i64 0, .int .i64 0, .int .i64 0])) := by kernel_rfl
instance : TyZ Try.prog 175 [.d false (.i .i64 0), .d false (.i .i64 0), .d false (.i .i64 0), .d false (.i .i64 0), .d false (.i .i64 0), .d false (.i .i64 0), .d false (.i .i64 0), .d false (.i .i64 0), .d false (.i .i64 0), .d false (.i .i64 0), .d false (.i .i64 0)] := ⟨by obtain ⟨i, h1, h2⟩ := info_z Try.z175; exact ⟨i, _, h1, h2, rfl⟩⟩
instance : TyE Try.prog 175 [.i .i64 0, .i .i64 0, .i .i64 0, .i .i64 0, .i .i64 0, .i .i64 0, .i .i64 0, .i .i64 0, .i .i64 0, .i .i64 0, .i .i64 0] := ⟨by obtain ⟨i, h1, h2⟩ := info_z Try.z175; exact ⟨i, _, h1, h2, rfl⟩⟩
instance : TyB Try.prog 175 [(0, 1), (1, 1), (2, 1), (3, 1), (4, 1), (5, 5), (10, 1)] := ⟨_, Try.underlying175, fun w => by kernel_rfl⟩
instance : TyF Try.prog 175 0 0 3 := ⟨_, _, Try.underlying175, rfl, rfl, rfl, info_f (n := 1) (by kernel_rfl) (by decide)⟩
instance : TyF Try.prog 175 1 1 3 := ⟨_, _, Try.underlying175, rfl, rfl, rfl, info_f (n := 1) (by kernel_rfl) (by decide)⟩
instance : TyF Try.prog 175 2 2 3 := ⟨_, _, Try.underlying175, rfl, rfl, rfl, info_f (n := 1) (by kernel_rfl) (by decide)⟩
instance : TyF Try.prog 175 3 3 3 := ⟨_, _, Try.underlying175, rfl, rfl, rfl, info_f (n := 1) (by kernel_rfl) (by decide)⟩
instance : TyF Try.prog 175 4 4 3 := ⟨_, _, Try.underlying175, rfl, rfl, rfl, info_f (n := 1) (by kernel_rfl) (by decide)⟩
instance : TyF Try.prog 175 5 5 47 := ⟨_, _, Try.underlying175, rfl, rfl, rfl, info_f (n := 5) (by kernel_rfl) (by decide)⟩
instance : TyF Try.prog 175 6 10 3 := ⟨_, _, Try.underlying175, rfl, rfl, rfl, info_f (n := 1) (by kernel_rfl) (by decide)⟩
-- 176: impl.SecuredMessage
instance : TyN Try.prog 176 4 := ⟨info_n (by kernel_rfl)⟩
instance : TyAg Try.prog 176 4 := ⟨fun w => by kernel_rfl, info_n (by kernel_rfl)⟩
theorem Try.z176 : (Try.prog.info? 176).map (·.zero) = some (some (.agg #[.int .i64 0, .int .i64 0, .slice none 0 0, .int .i64 0])) := by kernel_rfl
instance : TyZ Try.prog 176 [.d false (.i .i64 0), .d false (.i .i64 0), .nil, .d false (.i .i64 0)] := ⟨by obtain ⟨i, h1, h2⟩ := info_z Try.z176; exact ⟨i, _, h1, h2, rfl⟩⟩
instance : TyE Try.prog 176 [.i .i64 0, .i .i64 0, .l [], .i .i64 0] := ⟨by obtain ⟨i, h1, h2⟩ := info_z Try.z176; exact ⟨i, _, h1, h2, rfl⟩⟩
instance : TyB Try.prog 176 [(0, 1), (1, 1), (2, 1), (3, 1)] := ⟨_, Try.underlying176, fun w => by kernel_rfl⟩
instance : TyF Try.prog 176 0 0 3 := ⟨_, _, Try.underlying176, rfl, rfl, rfl, info_f (n := 1) (by kernel_rfl) (by decide)⟩
instance : TyF Try.prog 176 1 1 3 := ⟨_, _, Try.underlying176, rfl, rfl, rfl, info_f (n := 1) (by kernel_rfl) (by decide)⟩
instance : TyF Try.prog 176 2 2 91 := ⟨_, _, Try.underlying176, rfl, rfl, rfl, info_f (n := 1) (by kernel_rfl) (by decide)⟩
instance : TyF Try.prog 176 3 3 3 := ⟨_, _, Try.underlying176, rfl, rfl, rfl, info_f (n := 1) (by kernel_rfl) (by decide)⟩
-- 178: impl.RadioPacket
instance : TyN Try.prog 178 6 := ⟨info_n (by kernel_rfl)⟩
instance : TyAg Try.prog 178 6 := ⟨fun w => by kernel_rfl, info_n (by kernel_rfl)⟩
theorem Try.z178 : (Try.prog.info? 178).map (·.zero) = some (some (.agg #[.int .i64 0, .int .i64 0, .int .i64 0, .int .i64 0, .slice none 0 0, .int .i64 0])) := by kernel_rfl
instance : TyZ Try.prog 178 [.d false (.i .i64 0), .d false (.i .i64 0), .d false (.i .i64 0), .d false (.i .i64 0), .nil, .d false (.i .i64 0)] := ⟨by obtain ⟨i, h1, h2⟩ := info_z Try.z178; exact ⟨i, _, h1, h2, rfl⟩⟩
instance : TyE Try.prog 178 [.i .i64 0, .i .i64 0, .i .i64 0, .i .i64 0, .l [], .i .i64 0] := ⟨by obtain ⟨i, h1, h2⟩ := info_z Try.z178; exact ⟨i, _, h1, h2, rfl⟩⟩
instance : TyB Try.prog 178 [(0, 1), (1, 1), (2, 4)] := ⟨_, Try.underlying178, fun w => by kernel_rfl⟩
instance : TyF Try.prog 178 0 0 3 := ⟨_, _, Try.underlying178, rfl, rfl, rfl, info_f (n := 1) (by kernel_rfl) (by decide)⟩
instance : TyF Try.prog 178 1 1 3 := ⟨_, _, Try.underlying178, rfl, rfl, rfl, info_f (n := 1) (by kernel_rfl) (by decide)⟩
instance : TyF Try.prog 178 2 2 176 := ⟨_, _, Try.underlying178, rfl, rfl, rfl, info_f (n := 4) (by kernel_rfl) (by decide)⟩
-- 180: impl.Flight
instance : TyN Try.prog 180 21 := ⟨info_n (by kernel_rfl)⟩
instance : TyAg Try.prog 180 21 := ⟨fun w => by kernel_rfl, info_n (by kernel_rfl)⟩
theorem Try.z180 : (Try.prog.info? 180).map (·.zero) = some (some (.agg #[.int .i64 0, .bool false, .bool false, .int .i64 0, .int .i64 0, .int .i64 0, .int .i64 0, .int .i64 0, .int .i64 0, .int .i64 0, .int .i64 0, .int .i64 0, .int .i64 0, .int .i64 0, .int .i64 0, .int .i64 0, .int .i64 0, .int .i64 0, .int .i64 0, .slice none 0 0, .int .i64 0])) := by kernel_rfl
instance : TyZ Try.prog 180 [.d false (.i .i64 0), .d false (.b false), .d false (.b false), .d false (.i .i64 0), .d false (.i .i64 0), .d false (.i .i64 0), .d false (.i .i64 0), .d false (.i .i64 0), .d false (.i .i64 0), .d false (.i .i64 0), .d false (.i .i64 0), .d false (.i .i64 0), .d false (.i .i64 0), .d false (.i .i64 0), .d false (.i .i64 0), .d false (.i .i64 0), .d false (.i .i64 0), .d false (.i .i64 0), .d false (.i .i64 0), .nil, .d false (.i .i64 0)] := ⟨by obtain ⟨i, h1, h2⟩ := info_z Try.z180; exact ⟨i, _, h1, h2, rfl⟩⟩
instance : TyE Try.prog 180 [.i .i64 0, .b false, .b false, .i .i64 0, .i .i64 0, .i .i64 0, .i .i64 0, .i .i64 0, .i .i64 0, .i .i64 0, .i .i64 0, .i .i64 0, .i .i64 0, .i .i64 0, .i .i64 0, .i .i64 0, .i .i64 0, .i .i64 0, .i .i64 0, .l [], .i .i64 0] := ⟨by obtain ⟨i, h1, h2⟩ := info_z Try.z180; exact ⟨i, _, h1, h2, rfl⟩⟩
instance : TyB Try.prog 180 [(0, 1), (1, 1), (2, 1), (3, 1), (4, 11), (15, 6)] := ⟨_, Try.underlying180, fun w => by kernel_rfl⟩
instance : TyF Try.prog 180 0 0 3 := ⟨_, _, Try.underlying180, rfl, rfl, rfl, info_f (n := 1) (by kernel_rfl) (by decide)⟩
instance : TyF Try.prog 180 1 1 4 := ⟨_, _, Try.underlying180, rfl, rfl, rfl, info_f (n := 1) (by kernel_rfl) (by decide)⟩
instance : TyF Try.prog 180 2 2 4 := ⟨_, _, Try.underlying180, rfl, rfl, rfl, info_f (n := 1) (by kernel_rfl) (by decide)⟩
instance : TyF Try.prog 180 3 3 3 := ⟨_, _, Try.underlying180, rfl, rfl, rfl, info_f (n := 1) (by kernel_rfl) (by decide)⟩
instance : TyF Try.prog 180 4 4 175 := ⟨_, _, Try.underlying180, rfl, rfl, rfl, info_f (n := 11) (by kernel_rfl) (by decide)⟩
instance : TyF Try.prog 180 5 15 178 := ⟨_, _, Try.underlying180, rfl, rfl, rfl, info_f (n := 6) (by kernel_rfl) (by decide)⟩
-- 190: laws.NumberedPacket
instance : TyN Try.prog 190 2 := ⟨info_n (by kernel_rfl)⟩
instance : TyAg Try.prog 190 2 := ⟨fun w => by kernel_rfl, info_n (by kernel_rfl)⟩
theorem Try.z190 : (Try.prog.info? 190).map (·.zero) = some (some (.agg #[.int .i64 0, .slice none 0 0])) := by kernel_rfl
instance : TyZ Try.prog 190 [.d false (.i .i64 0), .nil] := ⟨by obtain ⟨i, h1, h2⟩ := info_z Try.z190; exact ⟨i, _, h1, h2, rfl⟩⟩
instance : TyE Try.prog 190 [.i .i64 0, .l []] := ⟨by obtain ⟨i, h1, h2⟩ := info_z Try.z190; exact ⟨i, _, h1, h2, rfl⟩⟩
instance : TyB Try.prog 190 [(0, 1), (1, 1)] := ⟨_, Try.underlying190, fun w => by kernel_rfl⟩
instance : TyF Try.prog 190 0 0 3 := ⟨_, _, Try.underlying190, rfl, rfl, rfl, info_f (n := 1) (by kernel_rfl) (by decide)⟩
instance : TyF Try.prog 190 1 1 91 := ⟨_, _, Try.underlying190, rfl, rfl, rfl, info_f (n := 1) (by kernel_rfl) (by decide)⟩
-- 192: impl.NumberedPacket
instance : TyN Try.prog 192 2 := ⟨info_n (by kernel_rfl)⟩
instance : TyAg Try.prog 192 2 := ⟨fun w => by kernel_rfl, info_n (by kernel_rfl)⟩
theorem Try.z192 : (Try.prog.info? 192).map (·.zero) = some (some (.agg #[.int .i64 0, .slice none 0 0])) := by kernel_rfl
instance : TyZ Try.prog 192 [.d false (.i .i64 0), .nil] := ⟨by obtain ⟨i, h1, h2⟩ := info_z Try.z192; exact ⟨i, _, h1, h2, rfl⟩⟩
instance : TyE Try.prog 192 [.i .i64 0, .l []] := ⟨by obtain ⟨i, h1, h2⟩ := info_z Try.z192; exact ⟨i, _, h1, h2, rfl⟩⟩
instance : TyB Try.prog 192 [(0, 1), (1, 1)] := ⟨_, Try.underlying192, fun w => by kernel_rfl⟩
instance : TyF Try.prog 192 0 0 3 := ⟨_, _, Try.underlying192, rfl, rfl, rfl, info_f (n := 1) (by kernel_rfl) (by decide)⟩
instance : TyF Try.prog 192 1 1 91 := ⟨_, _, Try.underlying192, rfl, rfl, rfl, info_f (n := 1) (by kernel_rfl) (by decide)⟩
-- 198: laws.Cell
instance : TyN Try.prog 198 2 := ⟨info_n (by kernel_rfl)⟩
instance : TyAg Try.prog 198 2 := ⟨fun w => by kernel_rfl, info_n (by kernel_rfl)⟩
theorem Try.z198 : (Try.prog.info? 198).map (·.zero) = some (some (.agg #[.int .i64 0, .slice none 0 0])) := by kernel_rfl
instance : TyZ Try.prog 198 [.d false (.i .i64 0), .nil] := ⟨by obtain ⟨i, h1, h2⟩ := info_z Try.z198; exact ⟨i, _, h1, h2, rfl⟩⟩
instance : TyE Try.prog 198 [.i .i64 0, .l []] := ⟨by obtain ⟨i, h1, h2⟩ := info_z Try.z198; exact ⟨i, _, h1, h2, rfl⟩⟩
instance : TyB Try.prog 198 [(0, 1), (1, 1)] := ⟨_, Try.underlying198, fun w => by kernel_rfl⟩
instance : TyF Try.prog 198 0 0 3 := ⟨_, _, Try.underlying198, rfl, rfl, rfl, info_f (n := 1) (by kernel_rfl) (by decide)⟩
instance : TyF Try.prog 198 1 1 26 := ⟨_, _, Try.underlying198, rfl, rfl, rfl, info_f (n := 1) (by kernel_rfl) (by decide)⟩
-- 202: impl.Cell
instance : TyN Try.prog 202 2 := ⟨info_n (by kernel_rfl)⟩
instance : TyAg Try.prog 202 2 := ⟨fun w => by kernel_rfl, info_n (by kernel_rfl)⟩
theorem Try.z202 : (Try.prog.info? 202).map (·.zero) = some (some (.agg #[.int .i64 0, .slice none 0 0])) := by kernel_rfl
instance : TyZ Try.prog 202 [.d false (.i .i64 0), .nil] := ⟨by obtain ⟨i, h1, h2⟩ := info_z Try.z202; exact ⟨i, _, h1, h2, rfl⟩⟩
instance : TyE Try.prog 202 [.i .i64 0, .l []] := ⟨by obtain ⟨i, h1, h2⟩ := info_z Try.z202; exact ⟨i, _, h1, h2, rfl⟩⟩
instance : TyB Try.prog 202 [(0, 1), (1, 1)] := ⟨_, Try.underlying202, fun w => by kernel_rfl⟩
instance : TyF Try.prog 202 0 0 3 := ⟨_, _, Try.underlying202, rfl, rfl, rfl, info_f (n := 1) (by kernel_rfl) (by decide)⟩
instance : TyF Try.prog 202 1 1 26 := ⟨_, _, Try.underlying202, rfl, rfl, rfl, info_f (n := 1) (by kernel_rfl) (by decide)⟩
-- 217: impl.Reservation
instance : TyN Try.prog 217 2 := ⟨info_n (by kernel_rfl)⟩
instance : TyAg Try.prog 217 2 := ⟨fun w => by kernel_rfl, info_n (by kernel_rfl)⟩
theorem Try.z217 : (Try.prog.info? 217).map (·.zero) = some (some (.agg #[.int .i64 0, .int .i64 0])) := by kernel_rfl
instance : TyZ Try.prog 217 [.d false (.i .i64 0), .d false (.i .i64 0)] := ⟨by obtain ⟨i, h1, h2⟩ := info_z Try.z217; exact ⟨i, _, h1, h2, rfl⟩⟩
instance : TyE Try.prog 217 [.i .i64 0, .i .i64 0] := ⟨by obtain ⟨i, h1, h2⟩ := info_z Try.z217; exact ⟨i, _, h1, h2, rfl⟩⟩
instance : TyB Try.prog 217 [(0, 1), (1, 1)] := ⟨_, Try.underlying217, fun w => by kernel_rfl⟩
instance : TyF Try.prog 217 0 0 3 := ⟨_, _, Try.underlying217, rfl, rfl, rfl, info_f (n := 1) (by kernel_rfl) (by decide)⟩
instance : TyF Try.prog 217 1 1 3 := ⟨_, _, Try.underlying217, rfl, rfl, rfl, info_f (n := 1) (by kernel_rfl) (by decide)⟩
-- 219: laws.Reservation
instance : TyN Try.prog 219 2 := ⟨info_n (by kernel_rfl)⟩
instance : TyAg Try.prog 219 2 := ⟨fun w => by kernel_rfl, info_n (by kernel_rfl)⟩
theorem Try.z219 : (Try.prog.info? 219).map (·.zero) = some (some (.agg #[.int .i64 0, .int .i64 0])) := by kernel_rfl
instance : TyZ Try.prog 219 [.d false (.i .i64 0), .d false (.i .i64 0)] := ⟨by obtain ⟨i, h1, h2⟩ := info_z Try.z219; exact ⟨i, _, h1, h2, rfl⟩⟩
instance : TyE Try.prog 219 [.i .i64 0, .i .i64 0] := ⟨by obtain ⟨i, h1, h2⟩ := info_z Try.z219; exact ⟨i, _, h1, h2, rfl⟩⟩
instance : TyB Try.prog 219 [(0, 1), (1, 1)] := ⟨_, Try.underlying219, fun w => by kernel_rfl⟩
instance : TyF Try.prog 219 0 0 3 := ⟨_, _, Try.underlying219, rfl, rfl, rfl, info_f (n := 1) (by kernel_rfl) (by decide)⟩
instance : TyF Try.prog 219 1 1 3 := ⟨_, _, Try.underlying219, rfl, rfl, rfl, info_f (n := 1) (by kernel_rfl) (by decide)⟩
theorem Try.sh3 : HasSh Try.prog 3 [.i .i64] := .int Try.underlying3
theorem Try.sh4 : HasSh Try.prog 4 [.b] := .bool Try.underlying4
theorem Try.sh5 : HasSh Try.prog 5 [.i .u8] := .int Try.underlying5
theorem Try.sh9 : HasSh Try.prog 9 [.str] := .string Try.underlying9
theorem Try.sh23 : HasSh Try.prog 23 [.i .i64, .i .i64] := .struct (ss := [.i .i64, .i .i64]) Try.underlying23 (HasFs.cons (s1 := [.i .i64]) (s2 := [.i .i64]) rfl Try.sh3 (by kernel_rfl) (HasFs.cons (s1 := [.i .i64]) (s2 := []) rfl Try.sh3 (by kernel_rfl) (HasFs.nil))) (by kernel_rfl)
theorem Try.sh25 : HasSh Try.prog 25 [.i .i64, .i .i64, .i .i64, .i .i64] := .struct (ss := [.i .i64, .i .i64, .i .i64, .i .i64]) Try.underlying25 (HasFs.cons (s1 := [.i .i64, .i .i64]) (s2 := [.i .i64, .i .i64]) rfl Try.sh23 (by kernel_rfl) (HasFs.cons (s1 := [.i .i64]) (s2 := [.i .i64]) rfl Try.sh3 (by kernel_rfl) (HasFs.cons (s1 := [.i .i64]) (s2 := []) rfl Try.sh3 (by kernel_rfl) (HasFs.nil)))) (by kernel_rfl)
theorem Try.sh26 : HasSh Try.prog 26 [.l [.i .i64]] := .slice Try.underlying26 Try.sh3 (by kernel_rfl) (by decide)
theorem Try.sh28 : HasSh Try.prog 28 [.i .i64, .i .i64, .i .i64, .l [.i .i64]] := .struct (ss := [.i .i64, .i .i64, .i .i64, .l [.i .i64]]) Try.underlying28 (HasFs.cons (s1 := [.i .i64]) (s2 := [.i .i64, .i .i64, .l [.i .i64]]) rfl Try.sh3 (by kernel_rfl) (HasFs.cons (s1 := [.i .i64]) (s2 := [.i .i64, .l [.i .i64]]) rfl Try.sh3 (by kernel_rfl) (HasFs.cons (s1 := [.i .i64]) (s2 := [.l [.i .i64]]) rfl Try.sh3 (by kernel_rfl) (HasFs.cons (s1 := [.l [.i .i64]]) (s2 := []) rfl Try.sh26 (by kernel_rfl) (HasFs.nil))))) (by kernel_rfl)
theorem Try.sh30 : HasSh Try.prog 30 [.i .i64, .i .i64, .i .i64, .i .i64, .i .i64] := .struct (ss := [.i .i64, .i .i64, .i .i64, .i .i64, .i .i64]) Try.underlying30 (HasFs.cons (s1 := [.i .i64]) (s2 := [.i .i64, .i .i64, .i .i64, .i .i64]) rfl Try.sh3 (by kernel_rfl) (HasFs.cons (s1 := [.i .i64]) (s2 := [.i .i64, .i .i64, .i .i64]) rfl Try.sh3 (by kernel_rfl) (HasFs.cons (s1 := [.i .i64]) (s2 := [.i .i64, .i .i64]) rfl Try.sh3 (by kernel_rfl) (HasFs.cons (s1 := [.i .i64]) (s2 := [.i .i64]) rfl Try.sh3 (by kernel_rfl) (HasFs.cons (s1 := [.i .i64]) (s2 := []) rfl Try.sh3 (by kernel_rfl) (HasFs.nil)))))) (by kernel_rfl)
theorem Try.sh32 : HasSh Try.prog 32 [.i .i64, .i .i64, .i .i64] := .struct (ss := [.i .i64, .i .i64, .i .i64]) Try.underlying32 (HasFs.cons (s1 := [.i .i64]) (s2 := [.i .i64, .i .i64]) rfl Try.sh3 (by kernel_rfl) (HasFs.cons (s1 := [.i .i64]) (s2 := [.i .i64]) rfl Try.sh3 (by kernel_rfl) (HasFs.cons (s1 := [.i .i64]) (s2 := []) rfl Try.sh3 (by kernel_rfl) (HasFs.nil)))) (by kernel_rfl)
theorem Try.sh91 : HasSh Try.prog 91 [.l [.i .u8]] := .slice Try.underlying91 Try.sh5 (by kernel_rfl) (by decide)
theorem Try.sh140 : HasSh Try.prog 140 [.l [.i .u8]] := .struct (ss := [.l [.i .u8]]) Try.underlying140 (HasFs.cons (s1 := [.l [.i .u8]]) (s2 := []) rfl Try.sh91 (by kernel_rfl) (HasFs.nil)) (by kernel_rfl)
theorem Try.sh33 : HasSh Try.prog 33 [.l [.l [.i .u8]]] := .slice Try.underlying33 Try.sh140 (by kernel_rfl) (by decide)
theorem Try.sh190 : HasSh Try.prog 190 [.i .i64, .l [.i .u8]] := .struct (ss := [.i .i64, .l [.i .u8]]) Try.underlying190 (HasFs.cons (s1 := [.i .i64]) (s2 := [.l [.i .u8]]) rfl Try.sh3 (by kernel_rfl) (HasFs.cons (s1 := [.l [.i .u8]]) (s2 := []) rfl Try.sh91 (by kernel_rfl) (HasFs.nil))) (by kernel_rfl)
theorem Try.sh34 : HasSh Try.prog 34 [.l [.i .i64, .l [.i .u8]]] := .slice Try.underlying34 Try.sh190 (by kernel_rfl) (by decide)
theorem Try.sh36 : HasSh Try.prog 36 [.i .i64, .l [.i .i64, .l [.i .u8]]] := .struct (ss := [.i .i64, .l [.i .i64, .l [.i .u8]]]) Try.underlying36 (HasFs.cons (s1 := [.i .i64]) (s2 := [.l [.i .i64, .l [.i .u8]]]) rfl Try.sh3 (by kernel_rfl) (HasFs.cons (s1 := [.l [.i .i64, .l [.i .u8]]]) (s2 := []) rfl Try.sh34 (by kernel_rfl) (HasFs.nil))) (by kernel_rfl)
theorem Try.sh38 : HasSh Try.prog 38 [.i .i64, .i .i64, .i .i64] := .struct (ss := [.i .i64, .i .i64, .i .i64]) Try.underlying38 (HasFs.cons (s1 := [.i .i64]) (s2 := [.i .i64, .i .i64]) rfl Try.sh3 (by kernel_rfl) (HasFs.cons (s1 := [.i .i64]) (s2 := [.i .i64]) rfl Try.sh3 (by kernel_rfl) (HasFs.cons (s1 := [.i .i64]) (s2 := []) rfl Try.sh3 (by kernel_rfl) (HasFs.nil)))) (by kernel_rfl)
theorem Try.sh40 : HasSh Try.prog 40 [.i .i64, .i .i64, .i .i64, .i .i64, .i .i64, .i .i64, .i .i64, .l [.i .i64], .i .i64, .i .i64, .i .i64, .i .i64, .i .i64, .i .i64, .i .i64, .i .i64, .i .i64, .i .i64, .i .i64, .i .i64, .i .i64, .i .i64, .i .i64, .l [.l [.i .u8]], .i .i64, .l [.i .i64, .l [.i .u8]], .i .i64, .i .i64, .i .i64, .i .i64] := .struct (ss := [.i .i64, .i .i64, .i .i64, .i .i64, .i .i64, .i .i64, .i .i64, .l [.i .i64], .i .i64, .i .i64, .i .i64, .i .i64, .i .i64, .i .i64, .i .i64, .i .i64, .i .i64, .i .i64, .i .i64, .i .i64, .i .i64, .i .i64, .i .i64, .l [.l [.i .u8]], .i .i64, .l [.i .i64, .l [.i .u8]], .i .i64, .i .i64, .i .i64, .i .i64]) Try.underlying40 (HasFs.cons (s1 := [.i .i64, .i .i64, .i .i64, .i .i64]) (s2 := [.i .i64, .i .i64, .i .i64, .l [.i .i64], .i .i64, .i .i64, .i .i64, .i .i64, .i .i64, .i .i64, .i .i64, .i .i64, .i .i64, .i .i64, .i .i64, .i .i64, .i .i64, .i .i64, .i .i64, .l [.l [.i .u8]], .i .i64, .l [.i .i64, .l [.i .u8]], .i .i64, .i .i64, .i .i64, .i .i64]) rfl Try.sh25 (by kernel_rfl) (HasFs.cons (s1 := [.i .i64, .i .i64, .i .i64, .l [.i .i64]]) (s2 := [.i .i64, .i .i64, .i .i64, .i .i64, .i .i64, .i .i64, .i .i64, .i .i64, .i .i64, .i .i64, .i .i64, .i .i64, .i .i64, .i .i64, .i .i64, .l [.l [.i .u8]], .i .i64, .l [.i .i64, .l [.i .u8]], .i .i64, .i .i64, .i .i64, .i .i64]) rfl Try.sh28 (by kernel_rfl) (HasFs.cons (s1 := [.i .i64]) (s2 := [.i .i64, .i .i64, .i .i64, .i .i64, .i .i64, .i .i64, .i .i64, .i .i64, .i .i64, .i .i64, .i .i64, .i .i64, .i .i64, .i .i64, .l [.l [.i .u8]], .i .i64, .l [.i .i64, .l [.i .u8]], .i .i64, .i .i64, .i .i64, .i .i64]) rfl Try.sh3 (by kernel_rfl) (HasFs.cons (s1 := [.i .i64, .i .i64, .i .i64, .i .i64, .i .i64]) (s2 := [.i .i64, .i .i64, .i .i64, .i .i64, .i .i64, .i .i64, .i .i64, .i .i64, .i .i64, .l [.l [.i .u8]], .i .i64, .l [.i .i64, .l [.i .u8]], .i .i64, .i .i64, .i .i64, .i .i64]) rfl Try.sh30 (by kernel_rfl) (HasFs.cons (s1 := [.i .i64]) (s2 := [.i .i64, .i .i64, .i .i64, .i .i64, .i .i64, .i .i64, .i .i64, .i .i64, .l [.l [.i .u8]], .i .i64, .l [.i .i64, .l [.i .u8]], .i .i64, .i .i64, .i .i64, .i .i64]) rfl Try.sh3 (by kernel_rfl) (HasFs.cons (s1 := [.i .i64]) (s2 := [.i .i64, .i .i64, .i .i64, .i .i64, .i .i64, .i .i64, .i .i64, .l [.l [.i .u8]], .i .i64, .l [.i .i64, .l [.i .u8]], .i .i64, .i .i64, .i .i64, .i .i64]) rfl Try.sh3 (by kernel_rfl) (HasFs.cons (s1 := [.i .i64]) (s2 := [.i .i64, .i .i64, .i .i64, .i .i64, .i .i64, .i .i64, .l [.l [.i .u8]], .i .i64, .l [.i .i64, .l [.i .u8]], .i .i64, .i .i64, .i .i64, .i .i64]) rfl Try.sh3 (by kernel_rfl) (HasFs.cons (s1 := [.i .i64]) (s2 := [.i .i64, .i .i64, .i .i64, .i .i64, .i .i64, .l [.l [.i .u8]], .i .i64, .l [.i .i64, .l [.i .u8]], .i .i64, .i .i64, .i .i64, .i .i64]) rfl Try.sh3 (by kernel_rfl) (HasFs.cons (s1 := [.i .i64]) (s2 := [.i .i64, .i .i64, .i .i64, .i .i64, .l [.l [.i .u8]], .i .i64, .l [.i .i64, .l [.i .u8]], .i .i64, .i .i64, .i .i64, .i .i64]) rfl Try.sh3 (by kernel_rfl) (HasFs.cons (s1 := [.i .i64]) (s2 := [.i .i64, .i .i64, .i .i64, .l [.l [.i .u8]], .i .i64, .l [.i .i64, .l [.i .u8]], .i .i64, .i .i64, .i .i64, .i .i64]) rfl Try.sh3 (by kernel_rfl) (HasFs.cons (s1 := [.i .i64, .i .i64, .i .i64]) (s2 := [.l [.l [.i .u8]], .i .i64, .l [.i .i64, .l [.i .u8]], .i .i64, .i .i64, .i .i64, .i .i64]) rfl Try.sh32 (by kernel_rfl) (HasFs.cons (s1 := [.l [.l [.i .u8]]]) (s2 := [.i .i64, .l [.i .i64, .l [.i .u8]], .i .i64, .i .i64, .i .i64, .i .i64]) rfl Try.sh33 (by kernel_rfl) (HasFs.cons (s1 := [.i .i64, .l [.i .i64, .l [.i .u8]]]) (s2 := [.i .i64, .i .i64, .i .i64, .i .i64]) rfl Try.sh36 (by kernel_rfl) (HasFs.cons (s1 := [.i .i64]) (s2 := [.i .i64, .i .i64, .i .i64]) rfl Try.sh3 (by kernel_rfl) (HasFs.cons (s1 := [.i .i64, .i .i64, .i .i64]) (s2 := []) rfl Try.sh38 (by kernel_rfl) (HasFs.nil)))))))))))))))) (by kernel_rfl)
theorem Try.sh43 : HasSh Try.prog 43 [.i .i64, .i .i64] := .struct (ss := [.i .i64, .i .i64]) Try.underlying43 (HasFs.cons (s1 := [.i .i64]) (s2 := [.i .i64]) rfl Try.sh3 (by kernel_rfl) (HasFs.cons (s1 := [.i .i64]) (s2 := []) rfl Try.sh3 (by kernel_rfl) (HasFs.nil))) (by kernel_rfl)
theorem Try.sh45 : HasSh Try.prog 45 [.i .i64, .i .i64, .i .i64, .i .i64] := .struct (ss := [.i .i64, .i .i64, .i .i64, .i .i64]) Try.underlying45 (HasFs.cons (s1 := [.i .i64, .i .i64]) (s2 := [.i .i64, .i .i64]) rfl Try.sh43 (by kernel_rfl) (HasFs.cons (s1 := [.i .i64]) (s2 := [.i .i64]) rfl Try.sh3 (by kernel_rfl) (HasFs.cons (s1 := [.i .i64]) (s2 := []) rfl Try.sh3 (by kernel_rfl) (HasFs.nil)))) (by kernel_rfl)
theorem Try.sh46 : HasSh Try.prog 46 [.i .i64, .i .i64, .i .i64, .l [.i .i64]] := .struct (ss := [.i .i64, .i .i64, .i .i64, .l [.i .i64]]) Try.underlying46 (HasFs.cons (s1 := [.i .i64]) (s2 := [.i .i64, .i .i64, .l [.i .i64]]) rfl Try.sh3 (by kernel_rfl) (HasFs.cons (s1 := [.i .i64]) (s2 := [.i .i64, .l [.i .i64]]) rfl Try.sh3 (by kernel_rfl) (HasFs.cons (s1 := [.i .i64]) (s2 := [.l [.i .i64]]) rfl Try.sh3 (by kernel_rfl) (HasFs.cons (s1 := [.l [.i .i64]]) (s2 := []) rfl Try.sh26 (by kernel_rfl) (HasFs.nil))))) (by kernel_rfl)
theorem Try.sh47 : HasSh Try.prog 47 [.i .i64, .i .i64, .i .i64, .i .i64, .i .i64] := .struct (ss := [.i .i64, .i .i64, .i .i64, .i .i64, .i .i64]) Try.underlying47 (HasFs.cons (s1 := [.i .i64]) (s2 := [.i .i64, .i .i64, .i .i64, .i .i64]) rfl Try.sh3 (by kernel_rfl) (HasFs.cons (s1 := [.i .i64]) (s2 := [.i .i64, .i .i64, .i .i64]) rfl Try.sh3 (by kernel_rfl) (HasFs.cons (s1 := [.i .i64]) (s2 := [.i .i64, .i .i64]) rfl Try.sh3 (by kernel_rfl) (HasFs.cons (s1 := [.i .i64]) (s2 := [.i .i64]) rfl Try.sh3 (by kernel_rfl) (HasFs.cons (s1 := [.i .i64]) (s2 := []) rfl Try.sh3 (by kernel_rfl) (HasFs.nil)))))) (by kernel_rfl)
theorem Try.sh48 : HasSh Try.prog 48 [.i .i64, .i .i64, .i .i64] := .struct (ss := [.i .i64, .i .i64, .i .i64]) Try.underlying48 (HasFs.cons (s1 := [.i .i64]) (s2 := [.i .i64, .i .i64]) rfl Try.sh3 (by kernel_rfl) (HasFs.cons (s1 := [.i .i64]) (s2 := [.i .i64]) rfl Try.sh3 (by kernel_rfl) (HasFs.cons (s1 := [.i .i64]) (s2 := []) rfl Try.sh3 (by kernel_rfl) (HasFs.nil)))) (by kernel_rfl)
theorem Try.sh93 : HasSh Try.prog 93 [.l [.i .u8]] := .struct (ss := [.l [.i .u8]]) Try.underlying93 (HasFs.cons (s1 := [.l [.i .u8]]) (s2 := []) rfl Try.sh91 (by kernel_rfl) (HasFs.nil)) (by kernel_rfl)
theorem Try.sh49 : HasSh Try.prog 49 [.l [.l [.i .u8]]] := .slice Try.underlying49 Try.sh93 (by kernel_rfl) (by decide)
theorem Try.sh192 : HasSh Try.prog 192 [.i .i64, .l [.i .u8]] := .struct (ss := [.i .i64, .l [.i .u8]]) Try.underlying192 (HasFs.cons (s1 := [.i .i64]) (s2 := [.l [.i .u8]]) rfl Try.sh3 (by kernel_rfl) (HasFs.cons (s1 := [.l [.i .u8]]) (s2 := []) rfl Try.sh91 (by kernel_rfl) (HasFs.nil))) (by kernel_rfl)
theorem Try.sh50 : HasSh Try.prog 50 [.l [.i .i64, .l [.i .u8]]] := .slice Try.underlying50 Try.sh192 (by kernel_rfl) (by decide)
theorem Try.sh52 : HasSh Try.prog 52 [.i .i64, .l [.i .i64, .l [.i .u8]]] := .struct (ss := [.i .i64, .l [.i .i64, .l [.i .u8]]]) Try.underlying52 (HasFs.cons (s1 := [.i .i64]) (s2 := [.l [.i .i64, .l [.i .u8]]]) rfl Try.sh3 (by kernel_rfl) (HasFs.cons (s1 := [.l [.i .i64, .l [.i .u8]]]) (s2 := []) rfl Try.sh50 (by kernel_rfl) (HasFs.nil))) (by kernel_rfl)
theorem Try.sh53 : HasSh Try.prog 53 [.i .i64, .i .i64, .i .i64] := .struct (ss := [.i .i64, .i .i64, .i .i64]) Try.underlying53 (HasFs.cons (s1 := [.i .i64]) (s2 := [.i .i64, .i .i64]) rfl Try.sh3 (by kernel_rfl) (HasFs.cons (s1 := [.i .i64]) (s2 := [.i .i64]) rfl Try.sh3 (by kernel_rfl) (HasFs.cons (s1 := [.i .i64]) (s2 := []) rfl Try.sh3 (by kernel_rfl) (HasFs.nil)))) (by kernel_rfl)
theorem Try.sh55 : HasSh Try.prog 55 [.i .i64, .i .i64, .i .i64, .i .i64, .i .i64, .i .i64, .i .i64, .l [.i .i64], .i .i64, .i .i64, .i .i64, .i .i64, .i .i64, .i .i64, .i .i64, .i .i64, .i .i64, .i .i64, .i .i64, .i .i64, .i .i64, .i .i64, .i .i64, .l [.l [.i .u8]], .i .i64, .l [.i .i64, .l [.i .u8]], .i .i64, .i .i64, .i .i64, .i .i64] := .struct (ss := [.i .i64, .i .i64, .i .i64, .i .i64, .i .i64, .i .i64, .i .i64, .l [.i .i64], .i .i64, .i .i64, .i .i64, .i .i64, .i .i64, .i .i64, .i .i64, .i .i64, .i .i64, .i .i64, .i .i64, .i .i64, .i .i64, .i .i64, .i .i64, .l [.l [.i .u8]], .i .i64, .l [.i .i64, .l [.i .u8]], .i .i64, .i .i64, .i .i64, .i .i64]) Try.underlying55 (HasFs.cons (s1 := [.i .i64, .i .i64, .i .i64, .i .i64]) (s2 := [.i .i64, .i .i64, .i .i64, .l [.i .i64], .i .i64, .i .i64, .i .i64, .i .i64, .i .i64, .i .i64, .i .i64, .i .i64, .i .i64, .i .i64, .i .i64, .i .i64, .i .i64, .i .i64, .i .i64, .l [.l [.i .u8]], .i .i64, .l [.i .i64, .l [.i .u8]], .i .i64, .i .i64, .i .i64, .i .i64]) rfl Try.sh45 (by kernel_rfl) (HasFs.cons (s1 := [.i .i64, .i .i64, .i .i64, .l [.i .i64]]) (s2 := [.i .i64, .i .i64, .i .i64, .i .i64, .i .i64, .i .i64, .i .i64, .i .i64, .i .i64, .i .i64, .i .i64, .i .i64, .i .i64, .i .i64, .i .i64, .l [.l [.i .u8]], .i .i64, .l [.i .i64, .l [.i .u8]], .i .i64, .i .i64, .i .i64, .i .i64]) rfl Try.sh46 (by kernel_rfl) (HasFs.cons (s1 := [.i .i64]) (s2 := [.i .i64, .i .i64, .i .i64, .i .i64, .i .i64, .i .i64, .i .i64, .i .i64, .i .i64, .i .i64, .i .i64, .i .i64, .i .i64, .i .i64, .l [.l [.i .u8]], .i .i64, .l [.i .i64, .l [.i .u8]], .i .i64, .i .i64, .i .i64, .i .i64]) rfl Try.sh3 (by kernel_rfl) (HasFs.cons (s1 := [.i .i64, .i .i64, .i .i64, .i .i64, .i .i64]) (s2 := [.i .i64, .i .i64, .i .i64, .i .i64, .i .i64, .i .i64, .i .i64, .i .i64, .i .i64, .l [.l [.i .u8]], .i .i64, .l [.i .i64, .l [.i .u8]], .i .i64, .i .i64, .i .i64, .i .i64]) rfl Try.sh47 (by kernel_rfl) (HasFs.cons (s1 := [.i .i64]) (s2 := [.i .i64, .i .i64, .i .i64, .i .i64, .i .i64, .i .i64, .i .i64, .i .i64, .l [.l [.i .u8]], .i .i64, .l [.i .i64, .l [.i .u8]], .i .i64, .i .i64, .i .i64, .i .i64]) rfl Try.sh3 (by kernel_rfl) (HasFs.cons (s1 := [.i .i64]) (s2 := [.i .i64, .i .i64, .i .i64, .i .i64, .i .i64, .i .i64, .i .i64, .l [.l [.i .u8]], .i .i64, .l [.i .i64, .l [.i .u8]], .i .i64, .i .i64, .i .i64, .i .i64]) rfl Try.sh3 (by kernel_rfl) (HasFs.cons (s1 := [.i .i64]) (s2 := [.i .i64, .i .i64, .i .i64, .i .i64, .i .i64, .i .i64, .l [.l [.i .u8]], .i .i64, .l [.i .i64, .l [.i .u8]], .i .i64, .i .i64, .i .i64, .i .i64]) rfl Try.sh3 (by kernel_rfl) (HasFs.cons (s1 := [.i .i64]) (s2 := [.i .i64, .i .i64, .i .i64, .i .i64, .i .i64, .l [.l [.i .u8]], .i .i64, .l [.i .i64, .l [.i .u8]], .i .i64, .i .i64, .i .i64, .i .i64]) rfl Try.sh3 (by kernel_rfl) (HasFs.cons (s1 := [.i .i64]) (s2 := [.i .i64, .i .i64, .i .i64, .i .i64, .l [.l [.i .u8]], .i .i64, .l [.i .i64, .l [.i .u8]], .i .i64, .i .i64, .i .i64, .i .i64]) rfl Try.sh3 (by kernel_rfl) (HasFs.cons (s1 := [.i .i64]) (s2 := [.i .i64, .i .i64, .i .i64, .l [.l [.i .u8]], .i .i64, .l [.i .i64, .l [.i .u8]], .i .i64, .i .i64, .i .i64, .i .i64]) rfl Try.sh3 (by kernel_rfl) (HasFs.cons (s1 := [.i .i64, .i .i64, .i .i64]) (s2 := [.l [.l [.i .u8]], .i .i64, .l [.i .i64, .l [.i .u8]], .i .i64, .i .i64, .i .i64, .i .i64]) rfl Try.sh48 (by kernel_rfl) (HasFs.cons (s1 := [.l [.l [.i .u8]]]) (s2 := [.i .i64, .l [.i .i64, .l [.i .u8]], .i .i64, .i .i64, .i .i64, .i .i64]) rfl Try.sh49 (by kernel_rfl) (HasFs.cons (s1 := [.i .i64, .l [.i .i64, .l [.i .u8]]]) (s2 := [.i .i64, .i .i64, .i .i64, .i .i64]) rfl Try.sh52 (by kernel_rfl) (HasFs.cons (s1 := [.i .i64]) (s2 := [.i .i64, .i .i64, .i .i64]) rfl Try.sh3 (by kernel_rfl) (HasFs.cons (s1 := [.i .i64, .i .i64, .i .i64]) (s2 := []) rfl Try.sh53 (by kernel_rfl) (HasFs.nil)))))))))))))))) (by kernel_rfl)
theorem Try.sh198 : HasSh Try.prog 198 [.i .i64, .l [.i .i64]] := .struct (ss := [.i .i64, .l [.i .i64]]) Try.underlying198 (HasFs.cons (s1 := [.i .i64]) (s2 := [.l [.i .i64]]) rfl Try.sh3 (by kernel_rfl) (HasFs.cons (s1 := [.l [.i .i64]]) (s2 := []) rfl Try.sh26 (by kernel_rfl) (HasFs.nil))) (by kernel_rfl)
theorem Try.sh59 : HasSh Try.prog 59 [.l [.i .i64, .l [.i .i64]]] := .slice Try.underlying59 Try.sh198 (by kernel_rfl) (by decide)
theorem Try.sh61 : HasSh Try.prog 61 [.l [.i .i64, .l [.i .i64]]] := .struct (ss := [.l [.i .i64, .l [.i .i64]]]) Try.underlying61 (HasFs.cons (s1 := [.l [.i .i64, .l [.i .i64]]]) (s2 := []) rfl Try.sh59 (by kernel_rfl) (HasFs.nil)) (by kernel_rfl)
theorem Try.sh153 : HasSh Try.prog 153 [.i .i64, .i .i64, .i .i64, .i .i64] := .struct (ss := [.i .i64, .i .i64, .i .i64, .i .i64]) Try.underlying153 (HasFs.cons (s1 := [.i .i64, .i .i64]) (s2 := [.i .i64, .i .i64]) rfl Try.sh23 (by kernel_rfl) (HasFs.cons (s1 := [.i .i64]) (s2 := [.i .i64]) rfl Try.sh3 (by kernel_rfl) (HasFs.cons (s1 := [.i .i64]) (s2 := []) rfl Try.sh3 (by kernel_rfl) (HasFs.nil)))) (by kernel_rfl)
theorem Try.sh155 : HasSh Try.prog 155 [.i .i64, .l [.i .i64, .l [.i .u8]], .l [.l [.i .u8]]] := .struct (ss := [.i .i64, .l [.i .i64, .l [.i .u8]], .l [.l [.i .u8]]]) Try.underlying155 (HasFs.cons (s1 := [.i .i64]) (s2 := [.l [.i .i64, .l [.i .u8]], .l [.l [.i .u8]]]) rfl Try.sh3 (by kernel_rfl) (HasFs.cons (s1 := [.l [.i .i64, .l [.i .u8]]]) (s2 := [.l [.l [.i .u8]]]) rfl Try.sh34 (by kernel_rfl) (HasFs.cons (s1 := [.l [.l [.i .u8]]]) (s2 := []) rfl Try.sh33 (by kernel_rfl) (HasFs.nil)))) (by kernel_rfl)
theorem Try.sh157 : HasSh Try.prog 157 [.i .i64, .i .i64, .i .i64, .i .i64, .i .i64, .i .i64, .i .i64, .i .i64, .i .i64, .b, .i .i64, .i .i64, .l [.i .i64, .l [.i .u8]], .l [.l [.i .u8]]] := .struct (ss := [.i .i64, .i .i64, .i .i64, .i .i64, .i .i64, .i .i64, .i .i64, .i .i64, .i .i64, .b, .i .i64, .i .i64, .l [.i .i64, .l [.i .u8]], .l [.l [.i .u8]]]) Try.underlying157 (HasFs.cons (s1 := [.i .i64, .i .i64, .i .i64, .i .i64]) (s2 := [.i .i64, .i .i64, .i .i64, .i .i64, .i .i64, .b, .i .i64, .i .i64, .l [.i .i64, .l [.i .u8]], .l [.l [.i .u8]]]) rfl Try.sh153 (by kernel_rfl) (HasFs.cons (s1 := [.i .i64]) (s2 := [.i .i64, .i .i64, .i .i64, .i .i64, .b, .i .i64, .i .i64, .l [.i .i64, .l [.i .u8]], .l [.l [.i .u8]]]) rfl Try.sh3 (by kernel_rfl) (HasFs.cons (s1 := [.i .i64]) (s2 := [.i .i64, .i .i64, .i .i64, .b, .i .i64, .i .i64, .l [.i .i64, .l [.i .u8]], .l [.l [.i .u8]]]) rfl Try.sh3 (by kernel_rfl) (HasFs.cons (s1 := [.i .i64]) (s2 := [.i .i64, .i .i64, .b, .i .i64, .i .i64, .l [.i .i64, .l [.i .u8]], .l [.l [.i .u8]]]) rfl Try.sh3 (by kernel_rfl) (HasFs.cons (s1 := [.i .i64]) (s2 := [.i .i64, .b, .i .i64, .i .i64, .l [.i .i64, .l [.i .u8]], .l [.l [.i .u8]]]) rfl Try.sh3 (by kernel_rfl) (HasFs.cons (s1 := [.i .i64]) (s2 := [.b, .i .i64, .i .i64, .l [.i .i64, .l [.i .u8]], .l [.l [.i .u8]]]) rfl Try.sh3 (by kernel_rfl) (HasFs.cons (s1 := [.b]) (s2 := [.i .i64, .i .i64, .l [.i .i64, .l [.i .u8]], .l [.l [.i .u8]]]) rfl Try.sh4 (by kernel_rfl) (HasFs.cons (s1 := [.i .i64]) (s2 := [.i .i64, .l [.i .i64, .l [.i .u8]], .l [.l [.i .u8]]]) rfl Try.sh3 (by kernel_rfl) (HasFs.cons (s1 := [.i .i64, .l [.i .i64, .l [.i .u8]], .l [.l [.i .u8]]]) (s2 := []) rfl Try.sh155 (by kernel_rfl) (HasFs.nil)))))))))) (by kernel_rfl)
theorem Try.sh62 : HasSh Try.prog 62 [.l [.i .i64, .i .i64, .i .i64, .i .i64, .i .i64, .i .i64, .i .i64, .i .i64, .i .i64, .b, .i .i64, .i .i64, .l [.i .i64, .l [.i .u8]], .l [.l [.i .u8]]]] := .slice Try.underlying62 Try.sh157 (by kernel_rfl) (by decide)
theorem Try.sh63 : HasSh Try.prog 63 [.l [.i .i64, .i .i64, .i .i64, .i .i64, .i .i64, .i .i64, .i .i64, .l [.i .i64], .i .i64, .i .i64, .i .i64, .i .i64, .i .i64, .i .i64, .i .i64, .i .i64, .i .i64, .i .i64, .i .i64, .i .i64, .i .i64, .i .i64, .i .i64, .l [.l [.i .u8]], .i .i64, .l [.i .i64, .l [.i .u8]], .i .i64, .i .i64, .i .i64, .i .i64]] := .slice Try.underlying63 Try.sh40 (by kernel_rfl) (by decide)
theorem Try.sh219 : HasSh Try.prog 219 [.i .i64, .i .i64] := .struct (ss := [.i .i64, .i .i64]) Try.underlying219 (HasFs.cons (s1 := [.i .i64]) (s2 := [.i .i64]) rfl Try.sh3 (by kernel_rfl) (HasFs.cons (s1 := [.i .i64]) (s2 := []) rfl Try.sh3 (by kernel_rfl) (HasFs.nil))) (by kernel_rfl)
theorem Try.sh159 : HasSh Try.prog 159 [.l [.i .i64, .i .i64]] := .slice Try.underlying159 Try.sh219 (by kernel_rfl) (by decide)
theorem Try.sh161 : HasSh Try.prog 161 [.i .i64, .i .i64, .i .i64, .l [.i .i64, .i .i64]] := .struct (ss := [.i .i64, .i .i64, .i .i64, .l [.i .i64, .i .i64]]) Try.underlying161 (HasFs.cons (s1 := [.i .i64]) (s2 := [.i .i64, .i .i64, .l [.i .i64, .i .i64]]) rfl Try.sh3 (by kernel_rfl) (HasFs.cons (s1 := [.i .i64]) (s2 := [.i .i64, .l [.i .i64, .i .i64]]) rfl Try.sh3 (by kernel_rfl) (HasFs.cons (s1 := [.i .i64]) (s2 := [.l [.i .i64, .i .i64]]) rfl Try.sh3 (by kernel_rfl) (HasFs.cons (s1 := [.l [.i .i64, .i .i64]]) (s2 := []) rfl Try.sh159 (by kernel_rfl) (HasFs.nil))))) (by kernel_rfl)
theorem Try.sh64 : HasSh Try.prog 64 [.l [.i .i64, .i .i64, .i .i64, .l [.i .i64, .i .i64]]] := .slice Try.underlying64 Try.sh161 (by kernel_rfl) (by decide)
theorem Try.sh164 : HasSh Try.prog 164 [.i .i64, .i .i64, .i .i64, .i .i64, .i .i64, .i .i64, .i .i64, .i .i64, .i .i64, .i .i64, .i .i64] := .struct (ss := [.i .i64, .i .i64, .i .i64, .i .i64, .i .i64, .i .i64, .i .i64, .i .i64, .i .i64, .i .i64, .i .i64]) Try.underlying164 (HasFs.cons (s1 := [.i .i64]) (s2 := [.i .i64, .i .i64, .i .i64, .i .i64, .i .i64, .i .i64, .i .i64, .i .i64, .i .i64, .i .i64]) rfl Try.sh3 (by kernel_rfl) (HasFs.cons (s1 := [.i .i64]) (s2 := [.i .i64, .i .i64, .i .i64, .i .i64, .i .i64, .i .i64, .i .i64, .i .i64, .i .i64]) rfl Try.sh3 (by kernel_rfl) (HasFs.cons (s1 := [.i .i64]) (s2 := [.i .i64, .i .i64, .i .i64, .i .i64, .i .i64, .i .i64, .i .i64, .i .i64]) rfl Try.sh3 (by kernel_rfl) (HasFs.cons (s1 := [.i .i64]) (s2 := [.i .i64, .i .i64, .i .i64, .i .i64, .i .i64, .i .i64, .i .i64]) rfl Try.sh3 (by kernel_rfl) (HasFs.cons (s1 := [.i .i64]) (s2 := [.i .i64, .i .i64, .i .i64, .i .i64, .i .i64, .i .i64]) rfl Try.sh3 (by kernel_rfl) (HasFs.cons (s1 := [.i .i64, .i .i64, .i .i64, .i .i64, .i .i64]) (s2 := [.i .i64]) rfl Try.sh30 (by kernel_rfl) (HasFs.cons (s1 := [.i .i64]) (s2 := []) rfl Try.sh3 (by kernel_rfl) (HasFs.nil)))))))) (by kernel_rfl)
theorem Try.sh166 : HasSh Try.prog 166 [.i .i64, .i .i64, .l [.i .u8], .i .i64] := .struct (ss := [.i .i64, .i .i64, .l [.i .u8], .i .i64]) Try.underlying166 (HasFs.cons (s1 := [.i .i64]) (s2 := [.i .i64, .l [.i .u8], .i .i64]) rfl Try.sh3 (by kernel_rfl) (HasFs.cons (s1 := [.i .i64]) (s2 := [.l [.i .u8], .i .i64]) rfl Try.sh3 (by kernel_rfl) (HasFs.cons (s1 := [.l [.i .u8]]) (s2 := [.i .i64]) rfl Try.sh91 (by kernel_rfl) (HasFs.cons (s1 := [.i .i64]) (s2 := []) rfl Try.sh3 (by kernel_rfl) (HasFs.nil))))) (by kernel_rfl)
theorem Try.sh168 : HasSh Try.prog 168 [.i .i64, .i .i64, .i .i64, .i .i64, .l [.i .u8], .i .i64] := .struct (ss := [.i .i64, .i .i64, .i .i64, .i .i64, .l [.i .u8], .i .i64]) Try.underlying168 (HasFs.cons (s1 := [.i .i64]) (s2 := [.i .i64, .i .i64, .i .i64, .l [.i .u8], .i .i64]) rfl Try.sh3 (by kernel_rfl) (HasFs.cons (s1 := [.i .i64]) (s2 := [.i .i64, .i .i64, .l [.i .u8], .i .i64]) rfl Try.sh3 (by kernel_rfl) (HasFs.cons (s1 := [.i .i64, .i .i64, .l [.i .u8], .i .i64]) (s2 := []) rfl Try.sh166 (by kernel_rfl) (HasFs.nil)))) (by kernel_rfl)
theorem Try.sh170 : HasSh Try.prog 170 [.i .i64, .b, .b, .i .i64, .i .i64, .i .i64, .i .i64, .i .i64, .i .i64, .i .i64, .i .i64, .i .i64, .i .i64, .i .i64, .i .i64, .i .i64, .i .i64, .i .i64, .i .i64, .l [.i .u8], .i .i64] := .struct (ss := [.i .i64, .b, .b, .i .i64, .i .i64, .i .i64, .i .i64, .i .i64, .i .i64, .i .i64, .i .i64, .i .i64, .i .i64, .i .i64, .i .i64, .i .i64, .i .i64, .i .i64, .i .i64, .l [.i .u8], .i .i64]) Try.underlying170 (HasFs.cons (s1 := [.i .i64]) (s2 := [.b, .b, .i .i64, .i .i64, .i .i64, .i .i64, .i .i64, .i .i64, .i .i64, .i .i64, .i .i64, .i .i64, .i .i64, .i .i64, .i .i64, .i .i64, .i .i64, .i .i64, .l [.i .u8], .i .i64]) rfl Try.sh3 (by kernel_rfl) (HasFs.cons (s1 := [.b]) (s2 := [.b, .i .i64, .i .i64, .i .i64, .i .i64, .i .i64, .i .i64, .i .i64, .i .i64, .i .i64, .i .i64, .i .i64, .i .i64, .i .i64, .i .i64, .i .i64, .i .i64, .l [.i .u8], .i .i64]) rfl Try.sh4 (by kernel_rfl) (HasFs.cons (s1 := [.b]) (s2 := [.i .i64, .i .i64, .i .i64, .i .i64, .i .i64, .i .i64, .i .i64, .i .i64, .i .i64, .i .i64, .i .i64, .i .i64, .i .i64, .i .i64, .i .i64, .i .i64, .l [.i .u8], .i .i64]) rfl Try.sh4 (by kernel_rfl) (HasFs.cons (s1 := [.i .i64]) (s2 := [.i .i64, .i .i64, .i .i64, .i .i64, .i .i64, .i .i64, .i .i64, .i .i64, .i .i64, .i .i64, .i .i64, .i .i64, .i .i64, .i .i64, .i .i64, .l [.i .u8], .i .i64]) rfl Try.sh3 (by kernel_rfl) (HasFs.cons (s1 := [.i .i64, .i .i64, .i .i64, .i .i64, .i .i64, .i .i64, .i .i64, .i .i64, .i .i64, .i .i64, .i .i64]) (s2 := [.i .i64, .i .i64, .i .i64, .i .i64, .l [.i .u8], .i .i64]) rfl Try.sh164 (by kernel_rfl) (HasFs.cons (s1 := [.i .i64, .i .i64, .i .i64, .i .i64, .l [.i .u8], .i .i64]) (s2 := []) rfl Try.sh168 (by kernel_rfl) (HasFs.nil))))))) (by kernel_rfl)
theorem Try.sh65 : HasSh Try.prog 65 [.l [.i .i64, .b, .b, .i .i64, .i .i64, .i .i64, .i .i64, .i .i64, .i .i64, .i .i64, .i .i64, .i .i64, .i .i64, .i .i64, .i .i64, .i .i64, .i .i64, .i .i64, .i .i64, .l [.i .u8], .i .i64]] := .slice Try.underlying65 Try.sh170 (by kernel_rfl) (by decide)
theorem Try.sh67 : HasSh Try.prog 67 [.i .i64, .i .i64] := .struct (ss := [.i .i64, .i .i64]) Try.underlying67 (HasFs.cons (s1 := [.i .i64]) (s2 := [.i .i64]) rfl Try.sh3 (by kernel_rfl) (HasFs.cons (s1 := [.i .i64]) (s2 := []) rfl Try.sh3 (by kernel_rfl) (HasFs.nil))) (by kernel_rfl)
theorem Try.sh69 : HasSh Try.prog 69 [.l [.i .i64, .l [.i .i64]], .l [.i .i64, .i .i64, .i .i64, .i .i64, .i .i64, .i .i64, .i .i64, .i .i64, .i .i64, .b, .i .i64, .i .i64, .l [.i .i64, .l [.i .u8]], .l [.l [.i .u8]]], .l [.i .i64, .i .i64, .i .i64, .i .i64, .i .i64, .i .i64, .i .i64, .l [.i .i64], .i .i64, .i .i64, .i .i64, .i .i64, .i .i64, .i .i64, .i .i64, .i .i64, .i .i64, .i .i64, .i .i64, .i .i64, .i .i64, .i .i64, .i .i64, .l [.l [.i .u8]], .i .i64, .l [.i .i64, .l [.i .u8]], .i .i64, .i .i64, .i .i64, .i .i64], .l [.i .i64, .i .i64, .i .i64, .l [.i .i64, .i .i64]], .l [.i .i64, .b, .b, .i .i64, .i .i64, .i .i64, .i .i64, .i .i64, .i .i64, .i .i64, .i .i64, .i .i64, .i .i64, .i .i64, .i .i64, .i .i64, .i .i64, .i .i64, .i .i64, .l [.i .u8], .i .i64], .i .i64, .i .i64, .i .i64, .i .i64, .i .i64] := .struct (ss := [.l [.i .i64, .l [.i .i64]], .l [.i .i64, .i .i64, .i .i64, .i .i64, .i .i64, .i .i64, .i .i64, .i .i64, .i .i64, .b, .i .i64, .i .i64, .l [.i .i64, .l [.i .u8]], .l [.l [.i .u8]]], .l [.i .i64, .i .i64, .i .i64, .i .i64, .i .i64, .i .i64, .i .i64, .l [.i .i64], .i .i64, .i .i64, .i .i64, .i .i64, .i .i64, .i .i64, .i .i64, .i .i64, .i .i64, .i .i64, .i .i64, .i .i64, .i .i64, .i .i64, .i .i64, .l [.l [.i .u8]], .i .i64, .l [.i .i64, .l [.i .u8]], .i .i64, .i .i64, .i .i64, .i .i64], .l [.i .i64, .i .i64, .i .i64, .l [.i .i64, .i .i64]], .l [.i .i64, .b, .b, .i .i64, .i .i64, .i .i64, .i .i64, .i .i64, .i .i64, .i .i64, .i .i64, .i .i64, .i .i64, .i .i64, .i .i64, .i .i64, .i .i64, .i .i64, .i .i64, .l [.i .u8], .i .i64], .i .i64, .i .i64, .i .i64, .i .i64, .i .i64]) Try.underlying69 (HasFs.cons (s1 := [.l [.i .i64, .l [.i .i64]]]) (s2 := [.l [.i .i64, .i .i64, .i .i64, .i .i64, .i .i64, .i .i64, .i .i64, .i .i64, .i .i64, .b, .i .i64, .i .i64, .l [.i .i64, .l [.i .u8]], .l [.l [.i .u8]]], .l [.i .i64, .i .i64, .i .i64, .i .i64, .i .i64, .i .i64, .i .i64, .l [.i .i64], .i .i64, .i .i64, .i .i64, .i .i64, .i .i64, .i .i64, .i .i64, .i .i64, .i .i64, .i .i64, .i .i64, .i .i64, .i .i64, .i .i64, .i .i64, .l [.l [.i .u8]], .i .i64, .l [.i .i64, .l [.i .u8]], .i .i64, .i .i64, .i .i64, .i .i64], .l [.i .i64, .i .i64, .i .i64, .l [.i .i64, .i .i64]], .l [.i .i64, .b, .b, .i .i64, .i .i64, .i .i64, .i .i64, .i .i64, .i .i64, .i .i64, .i .i64, .i .i64, .i .i64, .i .i64, .i .i64, .i .i64, .i .i64, .i .i64, .i .i64, .l [.i .u8], .i .i64], .i .i64, .i .i64, .i .i64, .i .i64, .i .i64]) rfl Try.sh61 (by kernel_rfl) (HasFs.cons (s1 := [.l [.i .i64, .i .i64, .i .i64, .i .i64, .i .i64, .i .i64, .i .i64, .i .i64, .i .i64, .b, .i .i64, .i .i64, .l [.i .i64, .l [.i .u8]], .l [.l [.i .u8]]]]) (s2 := [.l [.i .i64, .i .i64, .i .i64, .i .i64, .i .i64, .i .i64, .i .i64, .l [.i .i64], .i .i64, .i .i64, .i .i64, .i .i64, .i .i64, .i .i64, .i .i64, .i .i64, .i .i64, .i .i64, .i .i64, .i .i64, .i .i64, .i .i64, .i .i64, .l [.l [.i .u8]], .i .i64, .l [.i .i64, .l [.i .u8]], .i .i64, .i .i64, .i .i64, .i .i64], .l [.i .i64, .i .i64, .i .i64, .l [.i .i64, .i .i64]], .l [.i .i64, .b, .b, .i .i64, .i .i64, .i .i64, .i .i64, .i .i64, .i .i64, .i .i64, .i .i64, .i .i64, .i .i64, .i .i64, .i .i64, .i .i64, .i .i64, .i .i64, .i .i64, .l [.i .u8], .i .i64], .i .i64, .i .i64, .i .i64, .i .i64, .i .i64]) rfl Try.sh62 (by kernel_rfl) (HasFs.cons (s1 := [.l [.i .i64, .i .i64, .i .i64, .i .i64, .i .i64, .i .i64, .i .i64, .l [.i .i64], .i .i64, .i .i64, .i .i64, .i .i64, .i .i64, .i .i64, .i .i64, .i .i64, .i .i64, .i .i64, .i .i64, .i .i64, .i .i64, .i .i64, .i .i64, .l [.l [.i .u8]], .i .i64, .l [.i .i64, .l [.i .u8]], .i .i64, .i .i64, .i .i64, .i .i64]]) (s2 := [.l [.i .i64, .i .i64, .i .i64, .l [.i .i64, .i .i64]], .l [.i .i64, .b, .b, .i .i64, .i .i64, .i .i64, .i .i64, .i .i64, .i .i64, .i .i64, .i .i64, .i .i64, .i .i64, .i .i64, .i .i64, .i .i64, .i .i64, .i .i64, .i .i64, .l [.i .u8], .i .i64], .i .i64, .i .i64, .i .i64, .i .i64, .i .i64]) rfl Try.sh63 (by kernel_rfl) (HasFs.cons (s1 := [.l [.i .i64, .i .i64, .i .i64, .l [.i .i64, .i .i64]]]) (s2 := [.l [.i .i64, .b, .b, .i .i64, .i .i64, .i .i64, .i .i64, .i .i64, .i .i64, .i .i64, .i .i64, .i .i64, .i .i64, .i .i64, .i .i64, .i .i64, .i .i64, .i .i64, .i .i64, .l [.i .u8], .i .i64], .i .i64, .i .i64, .i .i64, .i .i64, .i .i64]) rfl Try.sh64 (by kernel_rfl) (HasFs.cons (s1 := [.l [.i .i64, .b, .b, .i .i64, .i .i64, .i .i64, .i .i64, .i .i64, .i .i64, .i .i64, .i .i64, .i .i64, .i .i64, .i .i64, .i .i64, .i .i64, .i .i64, .i .i64, .i .i64, .l [.i .u8], .i .i64]]) (s2 := [.i .i64, .i .i64, .i .i64, .i .i64, .i .i64]) rfl Try.sh65 (by kernel_rfl) (HasFs.cons (s1 := [.i .i64]) (s2 := [.i .i64, .i .i64, .i .i64, .i .i64]) rfl Try.sh3 (by kernel_rfl) (HasFs.cons (s1 := [.i .i64, .i .i64]) (s2 := [.i .i64, .i .i64]) rfl Try.sh67 (by kernel_rfl) (HasFs.cons (s1 := [.i .i64]) (s2 := [.i .i64]) rfl Try.sh3 (by kernel_rfl) (HasFs.cons (s1 := [.i .i64]) (s2 := []) rfl Try.sh3 (by kernel_rfl) (HasFs.nil)))))))))) (by kernel_rfl)
theorem Try.sh202 : HasSh Try.prog 202 [.i .i64, .l [.i .i64]] := .struct (ss := [.i .i64, .l [.i .i64]]) Try.underlying202 (HasFs.cons (s1 := [.i .i64]) (s2 := [.l [.i .i64]]) rfl Try.sh3 (by kernel_rfl) (HasFs.cons (s1 := [.l [.i .i64]]) (s2 := []) rfl Try.sh26 (by kernel_rfl) (HasFs.nil))) (by kernel_rfl)
theorem Try.sh72 : HasSh Try.prog 72 [.l [.i .i64, .l [.i .i64]]] := .slice Try.underlying72 Try.sh202 (by kernel_rfl) (by decide)
theorem Try.sh74 : HasSh Try.prog 74 [.l [.i .i64, .l [.i .i64]]] := .struct (ss := [.l [.i .i64, .l [.i .i64]]]) Try.underlying74 (HasFs.cons (s1 := [.l [.i .i64, .l [.i .i64]]]) (s2 := []) rfl Try.sh72 (by kernel_rfl) (HasFs.nil)) (by kernel_rfl)
theorem Try.sh131 : HasSh Try.prog 131 [.i .i64, .i .i64, .i .i64, .i .i64] := .struct (ss := [.i .i64, .i .i64, .i .i64, .i .i64]) Try.underlying131 (HasFs.cons (s1 := [.i .i64, .i .i64]) (s2 := [.i .i64, .i .i64]) rfl Try.sh43 (by kernel_rfl) (HasFs.cons (s1 := [.i .i64]) (s2 := [.i .i64]) rfl Try.sh3 (by kernel_rfl) (HasFs.cons (s1 := [.i .i64]) (s2 := []) rfl Try.sh3 (by kernel_rfl) (HasFs.nil)))) (by kernel_rfl)
theorem Try.sh129 : HasSh Try.prog 129 [.i .i64, .l [.i .i64, .l [.i .u8]], .l [.l [.i .u8]]] := .struct (ss := [.i .i64, .l [.i .i64, .l [.i .u8]], .l [.l [.i .u8]]]) Try.underlying129 (HasFs.cons (s1 := [.i .i64]) (s2 := [.l [.i .i64, .l [.i .u8]], .l [.l [.i .u8]]]) rfl Try.sh3 (by kernel_rfl) (HasFs.cons (s1 := [.l [.i .i64, .l [.i .u8]]]) (s2 := [.l [.l [.i .u8]]]) rfl Try.sh50 (by kernel_rfl) (HasFs.cons (s1 := [.l [.l [.i .u8]]]) (s2 := []) rfl Try.sh49 (by kernel_rfl) (HasFs.nil)))) (by kernel_rfl)
theorem Try.sh133 : HasSh Try.prog 133 [.i .i64, .i .i64, .i .i64, .i .i64, .i .i64, .i .i64, .i .i64, .i .i64, .i .i64, .b, .i .i64, .i .i64, .l [.i .i64, .l [.i .u8]], .l [.l [.i .u8]]] := .struct (ss := [.i .i64, .i .i64, .i .i64, .i .i64, .i .i64, .i .i64, .i .i64, .i .i64, .i .i64, .b, .i .i64, .i .i64, .l [.i .i64, .l [.i .u8]], .l [.l [.i .u8]]]) Try.underlying133 (HasFs.cons (s1 := [.i .i64, .i .i64, .i .i64, .i .i64]) (s2 := [.i .i64, .i .i64, .i .i64, .i .i64, .i .i64, .b, .i .i64, .i .i64, .l [.i .i64, .l [.i .u8]], .l [.l [.i .u8]]]) rfl Try.sh131 (by kernel_rfl) (HasFs.cons (s1 := [.i .i64]) (s2 := [.i .i64, .i .i64, .i .i64, .i .i64, .b, .i .i64, .i .i64, .l [.i .i64, .l [.i .u8]], .l [.l [.i .u8]]]) rfl Try.sh3 (by kernel_rfl) (HasFs.cons (s1 := [.i .i64]) (s2 := [.i .i64, .i .i64, .i .i64, .b, .i .i64, .i .i64, .l [.i .i64, .l [.i .u8]], .l [.l [.i .u8]]]) rfl Try.sh3 (by kernel_rfl) (HasFs.cons (s1 := [.i .i64]) (s2 := [.i .i64, .i .i64, .b, .i .i64, .i .i64, .l [.i .i64, .l [.i .u8]], .l [.l [.i .u8]]]) rfl Try.sh3 (by kernel_rfl) (HasFs.cons (s1 := [.i .i64]) (s2 := [.i .i64, .b, .i .i64, .i .i64, .l [.i .i64, .l [.i .u8]], .l [.l [.i .u8]]]) rfl Try.sh3 (by kernel_rfl) (HasFs.cons (s1 := [.i .i64]) (s2 := [.b, .i .i64, .i .i64, .l [.i .i64, .l [.i .u8]], .l [.l [.i .u8]]]) rfl Try.sh3 (by kernel_rfl) (HasFs.cons (s1 := [.b]) (s2 := [.i .i64, .i .i64, .l [.i .i64, .l [.i .u8]], .l [.l [.i .u8]]]) rfl Try.sh4 (by kernel_rfl) (HasFs.cons (s1 := [.i .i64]) (s2 := [.i .i64, .l [.i .i64, .l [.i .u8]], .l [.l [.i .u8]]]) rfl Try.sh3 (by kernel_rfl) (HasFs.cons (s1 := [.i .i64, .l [.i .i64, .l [.i .u8]], .l [.l [.i .u8]]]) (s2 := []) rfl Try.sh129 (by kernel_rfl) (HasFs.nil)))))))))) (by kernel_rfl)
theorem Try.sh75 : HasSh Try.prog 75 [.l [.i .i64, .i .i64, .i .i64, .i .i64, .i .i64, .i .i64, .i .i64, .i .i64, .i .i64, .b, .i .i64, .i .i64, .l [.i .i64, .l [.i .u8]], .l [.l [.i .u8]]]] := .slice Try.underlying75 Try.sh133 (by kernel_rfl) (by decide)
theorem Try.sh76 : HasSh Try.prog 76 [.l [.i .i64, .i .i64, .i .i64, .i .i64, .i .i64, .i .i64, .i .i64, .l [.i .i64], .i .i64, .i .i64, .i .i64, .i .i64, .i .i64, .i .i64, .i .i64, .i .i64, .i .i64, .i .i64, .i .i64, .i .i64, .i .i64, .i .i64, .i .i64, .l [.l [.i .u8]], .i .i64, .l [.i .i64, .l [.i .u8]], .i .i64, .i .i64, .i .i64, .i .i64]] := .slice Try.underlying76 Try.sh55 (by kernel_rfl) (by decide)
theorem Try.sh217 : HasSh Try.prog 217 [.i .i64, .i .i64] := .struct (ss := [.i .i64, .i .i64]) Try.underlying217 (HasFs.cons (s1 := [.i .i64]) (s2 := [.i .i64]) rfl Try.sh3 (by kernel_rfl) (HasFs.cons (s1 := [.i .i64]) (s2 := []) rfl Try.sh3 (by kernel_rfl) (HasFs.nil))) (by kernel_rfl)
theorem Try.sh135 : HasSh Try.prog 135 [.l [.i .i64, .i .i64]] := .slice Try.underlying135 Try.sh217 (by kernel_rfl) (by decide)
theorem Try.sh137 : HasSh Try.prog 137 [.i .i64, .i .i64, .i .i64, .l [.i .i64, .i .i64]] := .struct (ss := [.i .i64, .i .i64, .i .i64, .l [.i .i64, .i .i64]]) Try.underlying137 (HasFs.cons (s1 := [.i .i64]) (s2 := [.i .i64, .i .i64, .l [.i .i64, .i .i64]]) rfl Try.sh3 (by kernel_rfl) (HasFs.cons (s1 := [.i .i64]) (s2 := [.i .i64, .l [.i .i64, .i .i64]]) rfl Try.sh3 (by kernel_rfl) (HasFs.cons (s1 := [.i .i64]) (s2 := [.l [.i .i64, .i .i64]]) rfl Try.sh3 (by kernel_rfl) (HasFs.cons (s1 := [.l [.i .i64, .i .i64]]) (s2 := []) rfl Try.sh135 (by kernel_rfl) (HasFs.nil))))) (by kernel_rfl)
theorem Try.sh77 : HasSh Try.prog 77 [.l [.i .i64, .i .i64, .i .i64, .l [.i .i64, .i .i64]]] := .slice Try.underlying77 Try.sh137 (by kernel_rfl) (by decide)
theorem Try.sh175 : HasSh Try.prog 175 [.i .i64, .i .i64, .i .i64, .i .i64, .i .i64, .i .i64, .i .i64, .i .i64, .i .i64, .i .i64, .i .i64] := .struct (ss := [.i .i64, .i .i64, .i .i64, .i .i64, .i .i64, .i .i64, .i .i64, .i .i64, .i .i64, .i .i64, .i .i64]) Try.underlying175 (HasFs.cons (s1 := [.i .i64]) (s2 := [.i .i64, .i .i64, .i .i64, .i .i64, .i .i64, .i .i64, .i .i64, .i .i64, .i .i64, .i .i64]) rfl Try.sh3 (by kernel_rfl) (HasFs.cons (s1 := [.i .i64]) (s2 := [.i .i64, .i .i64, .i .i64, .i .i64, .i .i64, .i .i64, .i .i64, .i .i64, .i .i64]) rfl Try.sh3 (by kernel_rfl) (HasFs.cons (s1 := [.i .i64]) (s2 := [.i .i64, .i .i64, .i .i64, .i .i64, .i .i64, .i .i64, .i .i64, .i .i64]) rfl Try.sh3 (by kernel_rfl) (HasFs.cons (s1 := [.i .i64]) (s2 := [.i .i64, .i .i64, .i .i64, .i .i64, .i .i64, .i .i64, .i .i64]) rfl Try.sh3 (by kernel_rfl) (HasFs.cons (s1 := [.i .i64]) (s2 := [.i .i64, .i .i64, .i .i64, .i .i64, .i .i64, .i .i64]) rfl Try.sh3 (by kernel_rfl) (HasFs.cons (s1 := [.i .i64, .i .i64, .i .i64, .i .i64, .i .i64]) (s2 := [.i .i64]) rfl Try.sh47 (by kernel_rfl) (HasFs.cons (s1 := [.i .i64]) (s2 := []) rfl Try.sh3 (by kernel_rfl) (HasFs.nil)))))))) (by kernel_rfl)
theorem Try.sh176 : HasSh Try.prog 176 [.i .i64, .i .i64, .l [.i .u8], .i .i64] := .struct (ss := [.i .i64, .i .i64, .l [.i .u8], .i .i64]) Try.underlying176 (HasFs.cons (s1 := [.i .i64]) (s2 := [.i .i64, .l [.i .u8], .i .i64]) rfl Try.sh3 (by kernel_rfl) (HasFs.cons (s1 := [.i .i64]) (s2 := [.l [.i .u8], .i .i64]) rfl Try.sh3 (by kernel_rfl) (HasFs.cons (s1 := [.l [.i .u8]]) (s2 := [.i .i64]) rfl Try.sh91 (by kernel_rfl) (HasFs.cons (s1 := [.i .i64]) (s2 := []) rfl Try.sh3 (by kernel_rfl) (HasFs.nil))))) (by kernel_rfl)
theorem Try.sh178 : HasSh Try.prog 178 [.i .i64, .i .i64, .i .i64, .i .i64, .l [.i .u8], .i .i64] := .struct (ss := [.i .i64, .i .i64, .i .i64, .i .i64, .l [.i .u8], .i .i64]) Try.underlying178 (HasFs.cons (s1 := [.i .i64]) (s2 := [.i .i64, .i .i64, .i .i64, .l [.i .u8], .i .i64]) rfl Try.sh3 (by kernel_rfl) (HasFs.cons (s1 := [.i .i64]) (s2 := [.i .i64, .i .i64, .l [.i .u8], .i .i64]) rfl Try.sh3 (by kernel_rfl) (HasFs.cons (s1 := [.i .i64, .i .i64, .l [.i .u8], .i .i64]) (s2 := []) rfl Try.sh176 (by kernel_rfl) (HasFs.nil)))) (by kernel_rfl)
theorem Try.sh180 : HasSh Try.prog 180 [.i .i64, .b, .b, .i .i64, .i .i64, .i .i64, .i .i64, .i .i64, .i .i64, .i .i64, .i .i64, .i .i64, .i .i64, .i .i64, .i .i64, .i .i64, .i .i64, .i .i64, .i .i64, .l [.i .u8], .i .i64] := .struct (ss := [.i .i64, .b, .b, .i .i64, .i .i64, .i .i64, .i .i64, .i .i64, .i .i64, .i .i64, .i .i64, .i .i64, .i .i64, .i .i64, .i .i64, .i .i64, .i .i64, .i .i64, .i .i64, .l [.i .u8], .i .i64]) Try.underlying180 (HasFs.cons (s1 := [.i .i64]) (s2 := [.b, .b, .i .i64, .i .i64, .i .i64, .i .i64, .i .i64, .i .i64, .i .i64, .i .i64, .i .i64, .i .i64, .i .i64, .i .i64, .i .i64, .i .i64, .i .i64, .i .i64, .l [.i .u8], .i .i64]) rfl Try.sh3 (by kernel_rfl) (HasFs.cons (s1 := [.b]) (s2 := [.b, .i .i64, .i .i64, .i .i64, .i .i64, .i .i64, .i .i64, .i .i64, .i .i64, .i .i64, .i .i64, .i .i64, .i .i64, .i .i64, .i .i64, .i .i64, .i .i64, .l [.i .u8], .i .i64]) rfl Try.sh4 (by kernel_rfl) (HasFs.cons (s1 := [.b]) (s2 := [.i .i64, .i .i64, .i .i64, .i .i64, .i .i64, .i .i64, .i .i64, .i .i64, .i .i64, .i .i64, .i .i64, .i .i64, .i .i64, .i .i64, .i .i64, .i .i64, .l [.i .u8], .i .i64]) rfl Try.sh4 (by kernel_rfl) (HasFs.cons (s1 := [.i .i64]) (s2 := [.i .i64, .i .i64, .i .i64, .i .i64, .i .i64, .i .i64, .i .i64, .i .i64, .i .i64, .i .i64, .i .i64, .i .i64, .i .i64, .i .i64, .i .i64, .l [.i .u8], .i .i64]) rfl Try.sh3 (by kernel_rfl) (HasFs.cons (s1 := [.i .i64, .i .i64, .i .i64, .i .i64, .i .i64, .i .i64, .i .i64, .i .i64, .i .i64, .i .i64, .i .i64]) (s2 := [.i .i64, .i .i64, .i .i64, .i .i64, .l [.i .u8], .i .i64]) rfl Try.sh175 (by kernel_rfl) (HasFs.cons (s1 := [.i .i64, .i .i64, .i .i64, .i .i64, .l [.i .u8], .i .i64]) (s2 := []) rfl Try.sh178 (by kernel_rfl) (HasFs.nil))))))) (by kernel_rfl)
theorem Try.sh78 : HasSh Try.prog 78 [.l [.i .i64, .b, .b, .i .i64, .i .i64, .i .i64, .i .i64, .i .i64, .i .i64, .i .i64, .i .i64, .i .i64, .i .i64, .i .i64, .i .i64, .i .i64, .i .i64, .i .i64, .i .i64, .l [.i .u8], .i .i64]] := .slice Try.underlying78 Try.sh180 (by kernel_rfl) (by decide)
theorem Try.sh79 : HasSh Try.prog 79 [.i .i64, .i .i64] := .struct (ss := [.i .i64, .i .i64]) Try.underlying79 (HasFs.cons (s1 := [.i .i64]) (s2 := [.i .i64]) rfl Try.sh3 (by kernel_rfl) (HasFs.cons (s1 := [.i .i64]) (s2 := []) rfl Try.sh3 (by kernel_rfl) (HasFs.nil))) (by kernel_rfl)
theorem Try.sh81 : HasSh Try.prog 81 [.l [.i .i64, .l [.i .i64]], .l [.i .i64, .i .i64, .i .i64, .i .i64, .i .i64, .i .i64, .i .i64, .i .i64, .i .i64, .b, .i .i64, .i .i64, .l [.i .i64, .l [.i .u8]], .l [.l [.i .u8]]], .l [.i .i64, .i .i64, .i .i64, .i .i64, .i .i64, .i .i64, .i .i64, .l [.i .i64], .i .i64, .i .i64, .i .i64, .i .i64, .i .i64, .i .i64, .i .i64, .i .i64, .i .i64, .i .i64, .i .i64, .i .i64, .i .i64, .i .i64, .i .i64, .l [.l [.i .u8]], .i .i64, .l [.i .i64, .l [.i .u8]], .i .i64, .i .i64, .i .i64, .i .i64], .l [.i .i64, .i .i64, .i .i64, .l [.i .i64, .i .i64]], .l [.i .i64, .b, .b, .i .i64, .i .i64, .i .i64, .i .i64, .i .i64, .i .i64, .i .i64, .i .i64, .i .i64, .i .i64, .i .i64, .i .i64, .i .i64, .i .i64, .i .i64, .i .i64, .l [.i .u8], .i .i64], .i .i64, .i .i64, .i .i64, .i .i64, .i .i64] := .struct (ss := [.l [.i .i64, .l [.i .i64]], .l [.i .i64, .i .i64, .i .i64, .i .i64, .i .i64, .i .i64, .i .i64, .i .i64, .i .i64, .b, .i .i64, .i .i64, .l [.i .i64, .l [.i .u8]], .l [.l [.i .u8]]], .l [.i .i64, .i .i64, .i .i64, .i .i64, .i .i64, .i .i64, .i .i64, .l [.i .i64], .i .i64, .i .i64, .i .i64, .i .i64, .i .i64, .i .i64, .i .i64, .i .i64, .i .i64, .i .i64, .i .i64, .i .i64, .i .i64, .i .i64, .i .i64, .l [.l [.i .u8]], .i .i64, .l [.i .i64, .l [.i .u8]], .i .i64, .i .i64, .i .i64, .i .i64], .l [.i .i64, .i .i64, .i .i64, .l [.i .i64, .i .i64]], .l [.i .i64, .b, .b, .i .i64, .i .i64, .i .i64, .i .i64, .i .i64, .i .i64, .i .i64, .i .i64, .i .i64, .i .i64, .i .i64, .i .i64, .i .i64, .i .i64, .i .i64, .i .i64, .l [.i .u8], .i .i64], .i .i64, .i .i64, .i .i64, .i .i64, .i .i64]) Try.underlying81 (HasFs.cons (s1 := [.l [.i .i64, .l [.i .i64]]]) (s2 := [.l [.i .i64, .i .i64, .i .i64, .i .i64, .i .i64, .i .i64, .i .i64, .i .i64, .i .i64, .b, .i .i64, .i .i64, .l [.i .i64, .l [.i .u8]], .l [.l [.i .u8]]], .l [.i .i64, .i .i64, .i .i64, .i .i64, .i .i64, .i .i64, .i .i64, .l [.i .i64], .i .i64, .i .i64, .i .i64, .i .i64, .i .i64, .i .i64, .i .i64, .i .i64, .i .i64, .i .i64, .i .i64, .i .i64, .i .i64, .i .i64, .i .i64, .l [.l [.i .u8]], .i .i64, .l [.i .i64, .l [.i .u8]], .i .i64, .i .i64, .i .i64, .i .i64], .l [.i .i64, .i .i64, .i .i64, .l [.i .i64, .i .i64]], .l [.i .i64, .b, .b, .i .i64, .i .i64, .i .i64, .i .i64, .i .i64, .i .i64, .i .i64, .i .i64, .i .i64, .i .i64, .i .i64, .i .i64, .i .i64, .i .i64, .i .i64, .i .i64, .l [.i .u8], .i .i64], .i .i64, .i .i64, .i .i64, .i .i64, .i .i64]) rfl Try.sh74 (by kernel_rfl) (HasFs.cons (s1 := [.l [.i .i64, .i .i64, .i .i64, .i .i64, .i .i64, .i .i64, .i .i64, .i .i64, .i .i64, .b, .i .i64, .i .i64, .l [.i .i64, .l [.i .u8]], .l [.l [.i .u8]]]]) (s2 := [.l [.i .i64, .i .i64, .i .i64, .i .i64, .i .i64, .i .i64, .i .i64, .l [.i .i64], .i .i64, .i .i64, .i .i64, .i .i64, .i .i64, .i .i64, .i .i64, .i .i64, .i .i64, .i .i64, .i .i64, .i .i64, .i .i64, .i .i64, .i .i64, .l [.l [.i .u8]], .i .i64, .l [.i .i64, .l [.i .u8]], .i .i64, .i .i64, .i .i64, .i .i64], .l [.i .i64, .i .i64, .i .i64, .l [.i .i64, .i .i64]], .l [.i .i64, .b, .b, .i .i64, .i .i64, .i .i64, .i .i64, .i .i64, .i .i64, .i .i64, .i .i64, .i .i64, .i .i64, .i .i64, .i .i64, .i .i64, .i .i64, .i .i64, .i .i64, .l [.i .u8], .i .i64], .i .i64, .i .i64, .i .i64, .i .i64, .i .i64]) rfl Try.sh75 (by kernel_rfl) (HasFs.cons (s1 := [.l [.i .i64, .i .i64, .i .i64, .i .i64, .i .i64, .i .i64, .i .i64, .l [.i .i64], .i .i64, .i .i64, .i .i64, .i .i64, .i .i64, .i .i64, .i .i64, .i .i64, .i .i64, .i .i64, .i .i64, .i .i64, .i .i64, .i .i64, .i .i64, .l [.l [.i .u8]], .i .i64, .l [.i .i64, .l [.i .u8]], .i .i64, .i .i64, .i .i64, .i .i64]]) (s2 := [.l [.i .i64, .i .i64, .i .i64, .l [.i .i64, .i .i64]], .l [.i .i64, .b, .b, .i .i64, .i .i64, .i .i64, .i .i64, .i .i64, .i .i64, .i .i64, .i .i64, .i .i64, .i .i64, .i .i64, .i .i64, .i .i64, .i .i64, .i .i64, .i .i64, .l [.i .u8], .i .i64], .i .i64, .i .i64, .i .i64, .i .i64, .i .i64]) rfl Try.sh76 (by kernel_rfl) (HasFs.cons (s1 := [.l [.i .i64, .i .i64, .i .i64, .l [.i .i64, .i .i64]]]) (s2 := [.l [.i .i64, .b, .b, .i .i64, .i .i64, .i .i64, .i .i64, .i .i64, .i .i64, .i .i64, .i .i64, .i .i64, .i .i64, .i .i64, .i .i64, .i .i64, .i .i64, .i .i64, .i .i64, .l [.i .u8], .i .i64], .i .i64, .i .i64, .i .i64, .i .i64, .i .i64]) rfl Try.sh77 (by kernel_rfl) (HasFs.cons (s1 := [.l [.i .i64, .b, .b, .i .i64, .i .i64, .i .i64, .i .i64, .i .i64, .i .i64, .i .i64, .i .i64, .i .i64, .i .i64, .i .i64, .i .i64, .i .i64, .i .i64, .i .i64, .i .i64, .l [.i .u8], .i .i64]]) (s2 := [.i .i64, .i .i64, .i .i64, .i .i64, .i .i64]) rfl Try.sh78 (by kernel_rfl) (HasFs.cons (s1 := [.i .i64]) (s2 := [.i .i64, .i .i64, .i .i64, .i .i64]) rfl Try.sh3 (by kernel_rfl) (HasFs.cons (s1 := [.i .i64, .i .i64]) (s2 := [.i .i64, .i .i64]) rfl Try.sh79 (by kernel_rfl) (HasFs.cons (s1 := [.i .i64]) (s2 := [.i .i64]) rfl Try.sh3 (by kernel_rfl) (HasFs.cons (s1 := [.i .i64]) (s2 := []) rfl Try.sh3 (by kernel_rfl) (HasFs.nil)))))))))) (by kernel_rfl)
theorem Try.eqa23 : EqA Try.prog 2 23 [.i .i64, .i .i64] := eqA_struct (k := 1) Try.underlying23 (by kernel_rfl) (eqF_s rfl (by decide) inferInstance (eqS_int Try.underlying3) (eqF_s rfl (by decide) inferInstance (eqS_int Try.underlying3) (eqF_nil)))
instance : TyEq Try.prog 23 [.i .i64, .i .i64] := ⟨⟨2, by decide, Try.eqa23⟩, by kernel_rfl⟩
theorem Try.eqa25 : EqA Try.prog 3 25 [.i .i64, .i .i64, .i .i64, .i .i64] := eqA_struct (k := 2) Try.underlying25 (by kernel_rfl) (eqF_a (n := 2) (s1 := [.i .i64, .i .i64]) rfl (by decide) inferInstance rfl (by decide) Try.eqa23 (eqF_s rfl (by decide) inferInstance (eqS_int Try.underlying3) (eqF_s rfl (by decide) inferInstance (eqS_int Try.underlying3) (eqF_nil))))
instance : TyEq Try.prog 25 [.i .i64, .i .i64, .i .i64, .i .i64] := ⟨⟨3, by decide, Try.eqa25⟩, by kernel_rfl⟩
theorem Try.eqa30 : EqA Try.prog 2 30 [.i .i64, .i .i64, .i .i64, .i .i64, .i .i64] := eqA_struct (k := 1) Try.underlying30 (by kernel_rfl) (eqF_s rfl (by decide) inferInstance (eqS_int Try.underlying3) (eqF_s rfl (by decide) inferInstance (eqS_int Try.underlying3) (eqF_s rfl (by decide) inferInstance (eqS_int Try.underlying3) (eqF_s rfl (by decide) inferInstance (eqS_int Try.underlying3) (eqF_s rfl (by decide) inferInstance (eqS_int Try.underlying3) (eqF_nil))))))
instance : TyEq Try.prog 30 [.i .i64, .i .i64, .i .i64, .i .i64, .i .i64] := ⟨⟨2, by decide, Try.eqa30⟩, by kernel_rfl⟩
theorem Try.eqa32 : EqA Try.prog 2 32 [.i .i64, .i .i64, .i .i64] := eqA_struct (k := 1) Try.underlying32 (by kernel_rfl) (eqF_s rfl (by decide) inferInstance (eqS_int Try.underlying3) (eqF_s rfl (by decide) inferInstance (eqS_int Try.underlying3) (eqF_s rfl (by decide) inferInstance (eqS_int Try.underlying3) (eqF_nil))))
instance : TyEq Try.prog 32 [.i .i64, .i .i64, .i .i64] := ⟨⟨2, by decide, Try.eqa32⟩, by kernel_rfl⟩
theorem Try.eqa38 : EqA Try.prog 2 38 [.i .i64, .i .i64, .i .i64] := eqA_struct (k := 1) Try.underlying38 (by kernel_rfl) (eqF_s rfl (by decide) inferInstance (eqS_int Try.underlying3) (eqF_s rfl (by decide) inferInstance (eqS_int Try.underlying3) (eqF_s rfl (by decide) inferInstance (eqS_int Try.underlying3) (eqF_nil))))
instance : TyEq Try.prog 38 [.i .i64, .i .i64, .i .i64] := ⟨⟨2, by decide, Try.eqa38⟩, by kernel_rfl⟩
theorem Try.eqa43 : EqA Try.prog 2 43 [.i .i64, .i .i64] := eqA_struct (k := 1) Try.underlying43 (by kernel_rfl) (eqF_s rfl (by decide) inferInstance (eqS_int Try.underlying3) (eqF_s rfl (by decide) inferInstance (eqS_int Try.underlying3) (eqF_nil)))
instance : TyEq Try.prog 43 [.i .i64, .i .i64] := ⟨⟨2, by decide, Try.eqa43⟩, by kernel_rfl⟩
theorem Try.eqa45 : EqA Try.prog 3 45 [.i .i64, .i .i64, .i .i64, .i .i64] := eqA_struct (k := 2) Try.underlying45 (by kernel_rfl) (eqF_a (n := 2) (s1 := [.i .i64, .i .i64]) rfl (by decide) inferInstance rfl (by decide) Try.eqa43 (eqF_s rfl (by decide) inferInstance (eqS_int Try.underlying3) (eqF_s rfl (by decide) inferInstance (eqS_int Try.underlying3) (eqF_nil))))
instance : TyEq Try.prog 45 [.i .i64, .i .i64, .i .i64, .i .i64] := ⟨⟨3, by decide, Try.eqa45⟩, by kernel_rfl⟩
theorem Try.eqa47 : EqA Try.prog 2 47 [.i .i64, .i .i64, .i .i64, .i .i64, .i .i64] := eqA_struct (k := 1) Try.underlying47 (by kernel_rfl) (eqF_s rfl (by decide) inferInstance (eqS_int Try.underlying3) (eqF_s rfl (by decide) inferInstance (eqS_int Try.underlying3) (eqF_s rfl (by decide) inferInstance (eqS_int Try.underlying3) (eqF_s rfl (by decide) inferInstance (eqS_int Try.underlying3) (eqF_s rfl (by decide) inferInstance (eqS_int Try.underlying3) (eqF_nil))))))
instance : TyEq Try.prog 47 [.i .i64, .i .i64, .i .i64, .i .i64, .i .i64] := ⟨⟨2, by decide, Try.eqa47⟩, by kernel_rfl⟩
theorem Try.eqa48 : EqA Try.prog 2 48 [.i .i64, .i .i64, .i .i64] := eqA_struct (k := 1) Try.underlying48 (by kernel_rfl) (eqF_s rfl (by decide) inferInstance (eqS_int Try.underlying3) (eqF_s rfl (by decide) inferInstance (eqS_int Try.underlying3) (eqF_s rfl (by decide) inferInstance (eqS_int Try.underlying3) (eqF_nil))))
instance : TyEq Try.prog 48 [.i .i64, .i .i64, .i .i64] := ⟨⟨2, by decide, Try.eqa48⟩, by kernel_rfl⟩
theorem Try.eqa53 : EqA Try.prog 2 53 [.i .i64, .i .i64, .i .i64] := eqA_struct (k := 1) Try.underlying53 (by kernel_rfl) (eqF_s rfl (by decide) inferInstance (eqS_int Try.underlying3) (eqF_s rfl (by decide) inferInstance (eqS_int Try.underlying3) (eqF_s rfl (by decide) inferInstance (eqS_int Try.underlying3) (eqF_nil))))
instance : TyEq Try.prog 53 [.i .i64, .i .i64, .i .i64] := ⟨⟨2, by decide, Try.eqa53⟩, by kernel_rfl⟩
theorem Try.eqa67 : EqA Try.prog 2 67 [.i .i64, .i .i64] := eqA_struct (k := 1) Try.underlying67 (by kernel_rfl) (eqF_s rfl (by decide) inferInstance (eqS_int Try.underlying3) (eqF_s rfl (by decide) inferInstance (eqS_int Try.underlying3) (eqF_nil)))
instance : TyEq Try.prog 67 [.i .i64, .i .i64] := ⟨⟨2, by decide, Try.eqa67⟩, by kernel_rfl⟩
theorem Try.eqa79 : EqA Try.prog 2 79 [.i .i64, .i .i64] := eqA_struct (k := 1) Try.underlying79 (by kernel_rfl) (eqF_s rfl (by decide) inferInstance (eqS_int Try.underlying3) (eqF_s rfl (by decide) inferInstance (eqS_int Try.underlying3) (eqF_nil)))
instance : TyEq Try.prog 79 [.i .i64, .i .i64] := ⟨⟨2, by decide, Try.eqa79⟩, by kernel_rfl⟩
theorem Try.eqa131 : EqA Try.prog 3 131 [.i .i64, .i .i64, .i .i64, .i .i64] := eqA_struct (k := 2) Try.underlying131 (by kernel_rfl) (eqF_a (n := 2) (s1 := [.i .i64, .i .i64]) rfl (by decide) inferInstance rfl (by decide) Try.eqa43 (eqF_s rfl (by decide) inferInstance (eqS_int Try.underlying3) (eqF_s rfl (by decide) inferInstance (eqS_int Try.underlying3) (eqF_nil))))
instance : TyEq Try.prog 131 [.i .i64, .i .i64, .i .i64, .i .i64] := ⟨⟨3, by decide, Try.eqa131⟩, by kernel_rfl⟩
theorem Try.eqa153 : EqA Try.prog 3 153 [.i .i64, .i .i64, .i .i64, .i .i64] := eqA_struct (k := 2) Try.underlying153 (by kernel_rfl) (eqF_a (n := 2) (s1 := [.i .i64, .i .i64]) rfl (by decide) inferInstance rfl (by decide) Try.eqa23 (eqF_s rfl (by decide) inferInstance (eqS_int Try.underlying3) (eqF_s rfl (by decide) inferInstance (eqS_int Try.underlying3) (eqF_nil))))
instance : TyEq Try.prog 153 [.i .i64, .i .i64, .i .i64, .i .i64] := ⟨⟨3, by decide, Try.eqa153⟩, by kernel_rfl⟩
theorem Try.eqa164 : EqA Try.prog 3 164 [.i .i64, .i .i64, .i .i64, .i .i64, .i .i64, .i .i64, .i .i64, .i .i64, .i .i64, .i .i64, .i .i64] := eqA_struct (k := 2) Try.underlying164 (by kernel_rfl) (eqF_s rfl (by decide) inferInstance (eqS_int Try.underlying3) (eqF_s rfl (by decide) inferInstance (eqS_int Try.underlying3) (eqF_s rfl (by decide) inferInstance (eqS_int Try.underlying3) (eqF_s rfl (by decide) inferInstance (eqS_int Try.underlying3) (eqF_s rfl (by decide) inferInstance (eqS_int Try.underlying3) (eqF_a (n := 5) (s1 := [.i .i64, .i .i64, .i .i64, .i .i64, .i .i64]) rfl (by decide) inferInstance rfl (by decide) Try.eqa30 (eqF_s rfl (by decide) inferInstance (eqS_int Try.underlying3) (eqF_nil))))))))
instance : TyEq Try.prog 164 [.i .i64, .i .i64, .i .i64, .i .i64, .i .i64, .i .i64, .i .i64, .i .i64, .i .i64, .i .i64, .i .i64] := ⟨⟨3, by decide, Try.eqa164⟩, by kernel_rfl⟩
theorem Try.eqa175 : EqA Try.prog 3 175 [.i .i64, .i .i64, .i .i64, .i .i64, .i .i64, .i .i64, .i .i64, .i .i64, .i .i64, .i .i64, .i .i64] := eqA_struct (k := 2) Try.underlying175 (by kernel_rfl) (eqF_s rfl (by decide) inferInstance (eqS_int Try.underlying3) (eqF_s rfl (by decide) inferInstance (eqS_int Try.underlying3) (eqF_s rfl (by decide) inferInstance (eqS_int Try.underlying3) (eqF_s rfl (by decide) inferInstance (eqS_int Try.underlying3) (eqF_s rfl (by decide) inferInstance (eqS_int Try.underlying3) (eqF_a (n := 5) (s1 := [.i .i64, .i .i64, .i .i64, .i .i64, .i .i64]) rfl (by decide) inferInstance rfl (by decide) Try.eqa47 (eqF_s rfl (by decide) inferInstance (eqS_int Try.underlying3) (eqF_nil))))))))
instance : TyEq Try.prog 175 [.i .i64, .i .i64, .i .i64, .i .i64, .i .i64, .i .i64, .i .i64, .i .i64, .i .i64, .i .i64, .i .i64] := ⟨⟨3, by decide, Try.eqa175⟩, by kernel_rfl⟩
theorem Try.eqa217 : EqA Try.prog 2 217 [.i .i64, .i .i64] := eqA_struct (k := 1) Try.underlying217 (by kernel_rfl) (eqF_s rfl (by decide) inferInstance (eqS_int Try.underlying3) (eqF_s rfl (by decide) inferInstance (eqS_int Try.underlying3) (eqF_nil)))
instance : TyEq Try.prog 217 [.i .i64, .i .i64] := ⟨⟨2, by decide, Try.eqa217⟩, by kernel_rfl⟩
theorem Try.eqa219 : EqA Try.prog 2 219 [.i .i64, .i .i64] := eqA_struct (k := 1) Try.underlying219 (by kernel_rfl) (eqF_s rfl (by decide) inferInstance (eqS_int Try.underlying3) (eqF_s rfl (by decide) inferInstance (eqS_int Try.underlying3) (eqF_nil)))
instance : TyEq Try.prog 219 [.i .i64, .i .i64] := ⟨⟨2, by decide, Try.eqa219⟩, by kernel_rfl⟩
theorem Try.follows : Try.prog.follows .mixedOrders = true := by kernel_rfl
structure TSubscriberID where
  Network : Int
  Number : Int
  deriving DecidableEq, Inhabited
def eTSubscriberID (a : TSubscriberID) : List D := [.i .i64 a.Network, .i .i64 a.Number]
structure TSubscriberRecord where
  ID : TSubscriberID
  Key : Int
  Seq : Int
  deriving DecidableEq, Inhabited
def eTSubscriberRecord (a : TSubscriberRecord) : List D := [.i .i64 a.ID.Network, .i .i64 a.ID.Number, .i .i64 a.Key, .i .i64 a.Seq]
structure TSubscription where
  RateLimit : Int
  BestClass : Int
  GrantSize : Int
  RoamingNetworks : List Int
  deriving DecidableEq, Inhabited
def eTSubscription (a : TSubscription) : List D := [.i .i64 a.RateLimit, .i .i64 a.BestClass, .i .i64 a.GrantSize, .l (a.RoamingNetworks.map eI)]
structure TAuthVector where
  Rand : Int
  Autn : Int
  MAC : Int
  Res : Int
  Key : Int
  deriving DecidableEq, Inhabited
def eTAuthVector (a : TAuthVector) : List D := [.i .i64 a.Rand, .i .i64 a.Autn, .i .i64 a.MAC, .i .i64 a.Res, .i .i64 a.Key]
structure TPagingState where
  Area : Int
  Attempt : Int
  Wait : Int
  deriving DecidableEq, Inhabited
def eTPagingState (a : TPagingState) : List D := [.i .i64 a.Area, .i .i64 a.Attempt, .i .i64 a.Wait]
structure TNumberedPacket where
  Seq : Int
  Data : List Int
  deriving DecidableEq, Inhabited
def eTNumberedPacket (a : TNumberedPacket) : List D := [.i .i64 a.Seq, .l (a.Data.map eU8)]
structure TSendWindow where
  Next : Int
  Unacked : List TNumberedPacket
  deriving DecidableEq, Inhabited
def eTSendWindow (a : TSendWindow) : List D := [.i .i64 a.Next, .l (a.Unacked.map eTNumberedPacket)]
structure TQuota where
  SessionID : Int
  Granted : Int
  Used : Int
  deriving DecidableEq, Inhabited
def eTQuota (a : TQuota) : List D := [.i .i64 a.SessionID, .i .i64 a.Granted, .i .i64 a.Used]
structure TPayload where
  Data : List Int
  deriving DecidableEq, Inhabited
def eTPayload (a : TPayload) : List D := [.l (a.Data.map eU8)]
structure TSession where
  Record : TSubscriberRecord
  Plan : TSubscription
  State : Int
  Pending : TAuthVector
  PendingSeq : Int
  Generation : Int
  RootKey : Int
  Epoch : Int
  Cell : Int
  Quiet : Int
  Page : TPagingState
  Submitted : List TPayload
  Window : TSendWindow
  Retry : Int
  Usage : TQuota
  deriving DecidableEq, Inhabited
def eTSession (a : TSession) : List D := [.i .i64 a.Record.ID.Network, .i .i64 a.Record.ID.Number, .i .i64 a.Record.Key, .i .i64 a.Record.Seq, .i .i64 a.Plan.RateLimit, .i .i64 a.Plan.BestClass, .i .i64 a.Plan.GrantSize, .l (a.Plan.RoamingNetworks.map eI), .i .i64 a.State, .i .i64 a.Pending.Rand, .i .i64 a.Pending.Autn, .i .i64 a.Pending.MAC, .i .i64 a.Pending.Res, .i .i64 a.Pending.Key, .i .i64 a.PendingSeq, .i .i64 a.Generation, .i .i64 a.RootKey, .i .i64 a.Epoch, .i .i64 a.Cell, .i .i64 a.Quiet, .i .i64 a.Page.Area, .i .i64 a.Page.Attempt, .i .i64 a.Page.Wait, .l (a.Submitted.map eTPayload), .i .i64 a.Window.Next, .l (a.Window.Unacked.map eTNumberedPacket), .i .i64 a.Retry, .i .i64 a.Usage.SessionID, .i .i64 a.Usage.Granted, .i .i64 a.Usage.Used]
structure TCell where
  Area : Int
  Neighbors : List Int
  deriving DecidableEq, Inhabited
def eTCell (a : TCell) : List D := [.i .i64 a.Area, .l (a.Neighbors.map eI)]
structure TCellMap where
  Cells : List TCell
  deriving DecidableEq, Inhabited
def eTCellMap (a : TCellMap) : List D := [.l (a.Cells.map eTCell)]
structure TServerPool where
  Size : Int
  UpMask : Int
  deriving DecidableEq, Inhabited
def eTServerPool (a : TServerPool) : List D := [.i .i64 a.Size, .i .i64 a.UpMask]
structure TUSIM where
  ID : TSubscriberID
  Key : Int
  LastSeq : Int
  deriving DecidableEq, Inhabited
def eTUSIM (a : TUSIM) : List D := [.i .i64 a.ID.Network, .i .i64 a.ID.Number, .i .i64 a.Key, .i .i64 a.LastSeq]
structure TReceiveWindow where
  Next : Int
  Pending : List TNumberedPacket
  Delivered : List TPayload
  deriving DecidableEq, Inhabited
def eTReceiveWindow (a : TReceiveWindow) : List D := [.i .i64 a.Next, .l (a.Pending.map eTNumberedPacket), .l (a.Delivered.map eTPayload)]
structure TDevice where
  Card : TUSIM
  State : Int
  Cell : Int
  Generation : Int
  RootKey : Int
  Epoch : Int
  PathConfirmed : Bool
  Wait : Int
  Receiver : TReceiveWindow
  deriving DecidableEq, Inhabited
def eTDevice (a : TDevice) : List D := [.i .i64 a.Card.ID.Network, .i .i64 a.Card.ID.Number, .i .i64 a.Card.Key, .i .i64 a.Card.LastSeq, .i .i64 a.State, .i .i64 a.Cell, .i .i64 a.Generation, .i .i64 a.RootKey, .i .i64 a.Epoch, .b a.PathConfirmed, .i .i64 a.Wait, .i .i64 a.Receiver.Next, .l (a.Receiver.Pending.map eTNumberedPacket), .l (a.Receiver.Delivered.map eTPayload)]
structure TReservation where
  SessionID : Int
  Amount : Int
  deriving DecidableEq, Inhabited
def eTReservation (a : TReservation) : List D := [.i .i64 a.SessionID, .i .i64 a.Amount]
structure TAccount where
  Total : Int
  Available : Int
  Spent : Int
  Reservations : List TReservation
  deriving DecidableEq, Inhabited
def eTAccount (a : TAccount) : List D := [.i .i64 a.Total, .i .i64 a.Available, .i .i64 a.Spent, .l (a.Reservations.map eTReservation)]
structure TSignal where
  Kind : Int
  Cell : Int
  Generation : Int
  Epoch : Int
  Number : Int
  Vector : TAuthVector
  MAC : Int
  deriving DecidableEq, Inhabited
def eTSignal (a : TSignal) : List D := [.i .i64 a.Kind, .i .i64 a.Cell, .i .i64 a.Generation, .i .i64 a.Epoch, .i .i64 a.Number, .i .i64 a.Vector.Rand, .i .i64 a.Vector.Autn, .i .i64 a.Vector.MAC, .i .i64 a.Vector.Res, .i .i64 a.Vector.Key, .i .i64 a.MAC]
structure TSecuredMessage where
  Direction : Int
  Count : Int
  Data : List Int
  MAC : Int
  deriving DecidableEq, Inhabited
def eTSecuredMessage (a : TSecuredMessage) : List D := [.i .i64 a.Direction, .i .i64 a.Count, .l (a.Data.map eU8), .i .i64 a.MAC]
structure TRadioPacket where
  Generation : Int
  Epoch : Int
  Message : TSecuredMessage
  deriving DecidableEq, Inhabited
def eTRadioPacket (a : TRadioPacket) : List D := [.i .i64 a.Generation, .i .i64 a.Epoch, .i .i64 a.Message.Direction, .i .i64 a.Message.Count, .l (a.Message.Data.map eU8), .i .i64 a.Message.MAC]
structure TFlight where
  Device : Int
  Uplink : Bool
  IsRadio : Bool
  Cell : Int
  Signal : TSignal
  Radio : TRadioPacket
  deriving DecidableEq, Inhabited
def eTFlight (a : TFlight) : List D := [.i .i64 a.Device, .b a.Uplink, .b a.IsRadio, .i .i64 a.Cell, .i .i64 a.Signal.Kind, .i .i64 a.Signal.Cell, .i .i64 a.Signal.Generation, .i .i64 a.Signal.Epoch, .i .i64 a.Signal.Number, .i .i64 a.Signal.Vector.Rand, .i .i64 a.Signal.Vector.Autn, .i .i64 a.Signal.Vector.MAC, .i .i64 a.Signal.Vector.Res, .i .i64 a.Signal.Vector.Key, .i .i64 a.Signal.MAC, .i .i64 a.Radio.Generation, .i .i64 a.Radio.Epoch, .i .i64 a.Radio.Message.Direction, .i .i64 a.Radio.Message.Count, .l (a.Radio.Message.Data.map eU8), .i .i64 a.Radio.Message.MAC]
structure TNetwork where
  Map : TCellMap
  Devices : List TDevice
  Sessions : List TSession
  Accounts : List TAccount
  Flights : List TFlight
  DownCells : Int
  Core : TServerPool
  Now : Int
  Lost : Int
  deriving DecidableEq, Inhabited
def eTNetwork (a : TNetwork) : List D := [.l (a.Map.Cells.map eTCell), .l (a.Devices.map eTDevice), .l (a.Sessions.map eTSession), .l (a.Accounts.map eTAccount), .l (a.Flights.map eTFlight), .i .i64 a.DownCells, .i .i64 a.Core.Size, .i .i64 a.Core.UpMask, .i .i64 a.Now, .i .i64 a.Lost]
end Go.AM
