/-
  Facts on the types of this translation, laid by program.
-/
import Derived.Test.YtmlpfnppnjfcaaaDoorAmZc
import Derived.Test.YtmlpfnppnjfcaaaDoorAmO
import Derived.Test.YtmlpfnppnjfcaaaDoorProg
import Derived.Lib.LaidTab
import Derived.Lib.ItoaNum
namespace Go.AM
open Go.Proofs
theorem info_n {P : Program} {t : TypeId} {n : Nat} (h : (P.info? t).map (·.size) = some n) : ∃ i, P.info? t = some i ∧ i.size = n := by
  cases hi : P.info? t with
  | none => simp [hi] at h
  | some i => simp [hi] at h; exact ⟨i, rfl, h⟩
theorem info_z {P : Program} {t : TypeId} {z : Value} (h : (P.info? t).map (·.zero) = some (some z)) : ∃ i, P.info? t = some i ∧ i.zero = some z := by
  cases hi : P.info? t with
  | none => simp [hi] at h
  | some i => simp [hi] at h; exact ⟨i, rfl, h⟩
theorem info_s {P : Program} {t : TypeId} {z : Value} {n b : Nat} (h : (P.info? t).map (fun i => (i.size, i.bytes, i.zero)) = some (n, b, some z)) (hz : z.cells.size = n) : ∃ i z, P.info? t = some i ∧ i.size = n ∧ i.bytes = b ∧ i.zero = some z ∧ z.cells.size = n := by
  cases hi : P.info? t with
  | none => simp [hi] at h
  | some i => simp [hi] at h; exact ⟨i, z, rfl, h.1, h.2.1, h.2.2, hz⟩
theorem info_f {P : Program} {t : TypeId} {n : Nat} (h : (P.info? t).map (·.size) = some n) (hn : n ≠ 0) : ∃ i, P.info? t = some i ∧ i.size ≠ 0 := by
  cases hi : P.info? t with
  | none => simp [hi] at h
  | some i => simp [hi] at h; exact ⟨i, rfl, by omega⟩
-- 3: int
instance : TyN Tryd.prog 3 1 := ⟨info_n (by kernel_rfl)⟩
instance : TySc Tryd.prog 3 := ⟨fun w => by kernel_rfl, info_n (by kernel_rfl)⟩
instance : TyU Tryd.prog 3 (.int .i64) := ⟨Tryd.underlying3⟩
theorem Tryd.z3 : (Tryd.prog.info? 3).map (·.zero) = some (some (.int .i64 0)) := by kernel_rfl
instance : TyZ Tryd.prog 3 [.d false (.i .i64 0)] := ⟨by obtain ⟨i, h1, h2⟩ := info_z Tryd.z3; exact ⟨i, _, h1, h2, rfl⟩⟩
instance : TyE Tryd.prog 3 [.i .i64 0] := ⟨by obtain ⟨i, h1, h2⟩ := info_z Tryd.z3; exact ⟨i, _, h1, h2, rfl⟩⟩
-- 4: bool
instance : TyN Tryd.prog 4 1 := ⟨info_n (by kernel_rfl)⟩
instance : TySc Tryd.prog 4 := ⟨fun w => by kernel_rfl, info_n (by kernel_rfl)⟩
instance : TyU Tryd.prog 4 (.bool) := ⟨Tryd.underlying4⟩
theorem Tryd.z4 : (Tryd.prog.info? 4).map (·.zero) = some (some (.bool false)) := by kernel_rfl
instance : TyZ Tryd.prog 4 [.d false (.b false)] := ⟨by obtain ⟨i, h1, h2⟩ := info_z Tryd.z4; exact ⟨i, _, h1, h2, rfl⟩⟩
instance : TyE Tryd.prog 4 [.b false] := ⟨by obtain ⟨i, h1, h2⟩ := info_z Tryd.z4; exact ⟨i, _, h1, h2, rfl⟩⟩
-- 5: uint8
instance : TyN Tryd.prog 5 1 := ⟨info_n (by kernel_rfl)⟩
instance : TySc Tryd.prog 5 := ⟨fun w => by kernel_rfl, info_n (by kernel_rfl)⟩
instance : TyU Tryd.prog 5 (.int .u8) := ⟨Tryd.underlying5⟩
theorem Tryd.z5 : (Tryd.prog.info? 5).map (·.zero) = some (some (.int .u8 0)) := by kernel_rfl
instance : TyZ Tryd.prog 5 [.d false (.i .u8 0)] := ⟨by obtain ⟨i, h1, h2⟩ := info_z Tryd.z5; exact ⟨i, _, h1, h2, rfl⟩⟩
instance : TyE Tryd.prog 5 [.i .u8 0] := ⟨by obtain ⟨i, h1, h2⟩ := info_z Tryd.z5; exact ⟨i, _, h1, h2, rfl⟩⟩
-- 9: string
instance : TyN Tryd.prog 9 1 := ⟨info_n (by kernel_rfl)⟩
instance : TySc Tryd.prog 9 := ⟨fun w => by kernel_rfl, info_n (by kernel_rfl)⟩
instance : TyU Tryd.prog 9 (.string) := ⟨Tryd.underlying9⟩
theorem Tryd.z9 : (Tryd.prog.info? 9).map (·.zero) = some (some (.string ⟨#[]⟩)) := by kernel_rfl
instance : TyZ Tryd.prog 9 [.d false (.str ⟨#[]⟩)] := ⟨by obtain ⟨i, h1, h2⟩ := info_z Tryd.z9; exact ⟨i, _, h1, h2, rfl⟩⟩
instance : TyE Tryd.prog 9 [.str ⟨#[]⟩] := ⟨by obtain ⟨i, h1, h2⟩ := info_z Tryd.z9; exact ⟨i, _, h1, h2, rfl⟩⟩
-- 22: []uint8
instance : TyN Tryd.prog 22 1 := ⟨info_n (by kernel_rfl)⟩
instance : TySc Tryd.prog 22 := ⟨fun w => by kernel_rfl, info_n (by kernel_rfl)⟩
theorem Tryd.z22 : (Tryd.prog.info? 22).map (·.zero) = some (some (.slice none 0 0)) := by kernel_rfl
instance : TyZ Tryd.prog 22 [.nil] := ⟨by obtain ⟨i, h1, h2⟩ := info_z Tryd.z22; exact ⟨i, _, h1, h2, rfl⟩⟩
instance : TyE Tryd.prog 22 [.l []] := ⟨by obtain ⟨i, h1, h2⟩ := info_z Tryd.z22; exact ⟨i, _, h1, h2, rfl⟩⟩
instance : TySl Tryd.prog 22 5 1 1 := ⟨Tryd.underlying22, info_s (z := .int .u8 0) (by kernel_rfl) rfl, by decide⟩
-- 24: []impl.OperatorBook
instance : TyN Tryd.prog 24 1 := ⟨info_n (by kernel_rfl)⟩
instance : TySc Tryd.prog 24 := ⟨fun w => by kernel_rfl, info_n (by kernel_rfl)⟩
theorem Tryd.z24 : (Tryd.prog.info? 24).map (·.zero) = some (some (.slice none 0 0)) := by kernel_rfl
instance : TyZ Tryd.prog 24 [.nil] := ⟨by obtain ⟨i, h1, h2⟩ := info_z Tryd.z24; exact ⟨i, _, h1, h2, rfl⟩⟩
instance : TyE Tryd.prog 24 [.l []] := ⟨by obtain ⟨i, h1, h2⟩ := info_z Tryd.z24; exact ⟨i, _, h1, h2, rfl⟩⟩
instance : TySl Tryd.prog 24 36 3 56 := ⟨Tryd.underlying24, info_s (z := .agg #[.int .i64 0, .slice none 0 0, .slice none 0 0]) (by kernel_rfl) rfl, by decide⟩
-- 25: []impl.RoamingAgreement
instance : TyN Tryd.prog 25 1 := ⟨info_n (by kernel_rfl)⟩
instance : TySc Tryd.prog 25 := ⟨fun w => by kernel_rfl, info_n (by kernel_rfl)⟩
theorem Tryd.z25 : (Tryd.prog.info? 25).map (·.zero) = some (some (.slice none 0 0)) := by kernel_rfl
instance : TyZ Tryd.prog 25 [.nil] := ⟨by obtain ⟨i, h1, h2⟩ := info_z Tryd.z25; exact ⟨i, _, h1, h2, rfl⟩⟩
instance : TyE Tryd.prog 25 [.l []] := ⟨by obtain ⟨i, h1, h2⟩ := info_z Tryd.z25; exact ⟨i, _, h1, h2, rfl⟩⟩
instance : TySl Tryd.prog 25 38 4 32 := ⟨Tryd.underlying25, info_s (z := .agg #[.int .i64 0, .int .i64 0, .int .i64 0, .int .i64 0]) (by kernel_rfl) rfl, by decide⟩
-- 28: []impl.StatementLine
instance : TyN Tryd.prog 28 1 := ⟨info_n (by kernel_rfl)⟩
instance : TySc Tryd.prog 28 := ⟨fun w => by kernel_rfl, info_n (by kernel_rfl)⟩
theorem Tryd.z28 : (Tryd.prog.info? 28).map (·.zero) = some (some (.slice none 0 0)) := by kernel_rfl
instance : TyZ Tryd.prog 28 [.nil] := ⟨by obtain ⟨i, h1, h2⟩ := info_z Tryd.z28; exact ⟨i, _, h1, h2, rfl⟩⟩
instance : TyE Tryd.prog 28 [.l []] := ⟨by obtain ⟨i, h1, h2⟩ := info_z Tryd.z28; exact ⟨i, _, h1, h2, rfl⟩⟩
instance : TySl Tryd.prog 28 32 3 24 := ⟨Tryd.underlying28, info_s (z := .agg #[.int .i64 0, .int .i64 0, .int .i64 0]) (by kernel_rfl) rfl, by decide⟩
-- 32: impl.StatementLine
instance : TyN Tryd.prog 32 3 := ⟨info_n (by kernel_rfl)⟩
instance : TyAg Tryd.prog 32 3 := ⟨fun w => by kernel_rfl, info_n (by kernel_rfl)⟩
theorem Tryd.z32 : (Tryd.prog.info? 32).map (·.zero) = some (some (.agg #[.int .i64 0, .int .i64 0, .int .i64 0])) := by kernel_rfl
instance : TyZ Tryd.prog 32 [.d false (.i .i64 0), .d false (.i .i64 0), .d false (.i .i64 0)] := ⟨by obtain ⟨i, h1, h2⟩ := info_z Tryd.z32; exact ⟨i, _, h1, h2, rfl⟩⟩
instance : TyE Tryd.prog 32 [.i .i64 0, .i .i64 0, .i .i64 0] := ⟨by obtain ⟨i, h1, h2⟩ := info_z Tryd.z32; exact ⟨i, _, h1, h2, rfl⟩⟩
instance : TyB Tryd.prog 32 [(0, 1), (1, 1), (2, 1)] := ⟨_, Tryd.underlying32, fun w => by kernel_rfl⟩
instance : TyF Tryd.prog 32 0 0 3 := ⟨_, _, Tryd.underlying32, rfl, rfl, rfl, info_f (n := 1) (by kernel_rfl) (by decide)⟩
instance : TyF Tryd.prog 32 1 1 3 := ⟨_, _, Tryd.underlying32, rfl, rfl, rfl, info_f (n := 1) (by kernel_rfl) (by decide)⟩
instance : TyF Tryd.prog 32 2 2 3 := ⟨_, _, Tryd.underlying32, rfl, rfl, rfl, info_f (n := 1) (by kernel_rfl) (by decide)⟩
-- 34: []impl.UsageRecord
instance : TyN Tryd.prog 34 1 := ⟨info_n (by kernel_rfl)⟩
instance : TySc Tryd.prog 34 := ⟨fun w => by kernel_rfl, info_n (by kernel_rfl)⟩
theorem Tryd.z34 : (Tryd.prog.info? 34).map (·.zero) = some (some (.slice none 0 0)) := by kernel_rfl
instance : TyZ Tryd.prog 34 [.nil] := ⟨by obtain ⟨i, h1, h2⟩ := info_z Tryd.z34; exact ⟨i, _, h1, h2, rfl⟩⟩
instance : TyE Tryd.prog 34 [.l []] := ⟨by obtain ⟨i, h1, h2⟩ := info_z Tryd.z34; exact ⟨i, _, h1, h2, rfl⟩⟩
instance : TySl Tryd.prog 34 48 4 32 := ⟨Tryd.underlying34, info_s (z := .agg #[.int .i64 0, .int .i64 0, .int .i64 0, .int .i64 0]) (by kernel_rfl) rfl, by decide⟩
-- 36: impl.OperatorBook
instance : TyN Tryd.prog 36 3 := ⟨info_n (by kernel_rfl)⟩
instance : TyAg Tryd.prog 36 3 := ⟨fun w => by kernel_rfl, info_n (by kernel_rfl)⟩
theorem Tryd.z36 : (Tryd.prog.info? 36).map (·.zero) = some (some (.agg #[.int .i64 0, .slice none 0 0, .slice none 0 0])) := by kernel_rfl
instance : TyZ Tryd.prog 36 [.d false (.i .i64 0), .nil, .nil] := ⟨by obtain ⟨i, h1, h2⟩ := info_z Tryd.z36; exact ⟨i, _, h1, h2, rfl⟩⟩
instance : TyE Tryd.prog 36 [.i .i64 0, .l [], .l []] := ⟨by obtain ⟨i, h1, h2⟩ := info_z Tryd.z36; exact ⟨i, _, h1, h2, rfl⟩⟩
instance : TyB Tryd.prog 36 [(0, 1), (1, 1), (2, 1)] := ⟨_, Tryd.underlying36, fun w => by kernel_rfl⟩
instance : TyF Tryd.prog 36 0 0 3 := ⟨_, _, Tryd.underlying36, rfl, rfl, rfl, info_f (n := 1) (by kernel_rfl) (by decide)⟩
instance : TyF Tryd.prog 36 1 1 34 := ⟨_, _, Tryd.underlying36, rfl, rfl, rfl, info_f (n := 1) (by kernel_rfl) (by decide)⟩
instance : TyF Tryd.prog 36 2 2 34 := ⟨_, _, Tryd.underlying36, rfl, rfl, rfl, info_f (n := 1) (by kernel_rfl) (by decide)⟩
-- 38: impl.RoamingAgreement
instance : TyN Tryd.prog 38 4 := ⟨info_n (by kernel_rfl)⟩
instance : TyAg Tryd.prog 38 4 := ⟨fun w => by kernel_rfl, info_n (by kernel_rfl)⟩
theorem Tryd.z38 : (Tryd.prog.info? 38).map (·.zero) = some (some (.agg #[.int .i64 0, .int .i64 0, .int .i64 0, .int .i64 0])) := by kernel_rfl
instance : TyZ Tryd.prog 38 [.d false (.i .i64 0), .d false (.i .i64 0), .d false (.i .i64 0), .d false (.i .i64 0)] := ⟨by obtain ⟨i, h1, h2⟩ := info_z Tryd.z38; exact ⟨i, _, h1, h2, rfl⟩⟩
instance : TyE Tryd.prog 38 [.i .i64 0, .i .i64 0, .i .i64 0, .i .i64 0] := ⟨by obtain ⟨i, h1, h2⟩ := info_z Tryd.z38; exact ⟨i, _, h1, h2, rfl⟩⟩
instance : TyB Tryd.prog 38 [(0, 1), (1, 1), (2, 1), (3, 1)] := ⟨_, Tryd.underlying38, fun w => by kernel_rfl⟩
instance : TyF Tryd.prog 38 0 0 3 := ⟨_, _, Tryd.underlying38, rfl, rfl, rfl, info_f (n := 1) (by kernel_rfl) (by decide)⟩
instance : TyF Tryd.prog 38 1 1 3 := ⟨_, _, Tryd.underlying38, rfl, rfl, rfl, info_f (n := 1) (by kernel_rfl) (by decide)⟩
instance : TyF Tryd.prog 38 2 2 3 := ⟨_, _, Tryd.underlying38, rfl, rfl, rfl, info_f (n := 1) (by kernel_rfl) (by decide)⟩
instance : TyF Tryd.prog 38 3 3 3 := ⟨_, _, Tryd.underlying38, rfl, rfl, rfl, info_f (n := 1) (by kernel_rfl) (by decide)⟩
-- 48: impl.UsageRecord
instance : TyN Tryd.prog 48 4 := ⟨info_n (by kernel_rfl)⟩
instance : TyAg Tryd.prog 48 4 := ⟨fun w => by kernel_rfl, info_n (by kernel_rfl)⟩
theorem Tryd.z48 : (Tryd.prog.info? 48).map (·.zero) = some (some (.agg #[.int .i64 0, .int .i64 0, .int .i64 0, .int .i64 0])) := by kernel_rfl
instance : TyZ Tryd.prog 48 [.d false (.i .i64 0), .d false (.i .i64 0), .d false (.i .i64 0), .d false (.i .i64 0)] := ⟨by obtain ⟨i, h1, h2⟩ := info_z Tryd.z48; exact ⟨i, _, h1, h2, rfl⟩⟩
instance : TyE Tryd.prog 48 [.i .i64 0, .i .i64 0, .i .i64 0, .i .i64 0] := ⟨by obtain ⟨i, h1, h2⟩ := info_z Tryd.z48; exact ⟨i, _, h1, h2, rfl⟩⟩
instance : TyB Tryd.prog 48 [(0, 1), (1, 1), (2, 1), (3, 1)] := ⟨_, Tryd.underlying48, fun w => by kernel_rfl⟩
instance : TyF Tryd.prog 48 0 0 3 := ⟨_, _, Tryd.underlying48, rfl, rfl, rfl, info_f (n := 1) (by kernel_rfl) (by decide)⟩
instance : TyF Tryd.prog 48 1 1 3 := ⟨_, _, Tryd.underlying48, rfl, rfl, rfl, info_f (n := 1) (by kernel_rfl) (by decide)⟩
instance : TyF Tryd.prog 48 2 2 3 := ⟨_, _, Tryd.underlying48, rfl, rfl, rfl, info_f (n := 1) (by kernel_rfl) (by decide)⟩
instance : TyF Tryd.prog 48 3 3 3 := ⟨_, _, Tryd.underlying48, rfl, rfl, rfl, info_f (n := 1) (by kernel_rfl) (by decide)⟩
-- 52: []string
instance : TyN Tryd.prog 52 1 := ⟨info_n (by kernel_rfl)⟩
instance : TySc Tryd.prog 52 := ⟨fun w => by kernel_rfl, info_n (by kernel_rfl)⟩
theorem Tryd.z52 : (Tryd.prog.info? 52).map (·.zero) = some (some (.slice none 0 0)) := by kernel_rfl
instance : TyZ Tryd.prog 52 [.nil] := ⟨by obtain ⟨i, h1, h2⟩ := info_z Tryd.z52; exact ⟨i, _, h1, h2, rfl⟩⟩
instance : TyE Tryd.prog 52 [.l []] := ⟨by obtain ⟨i, h1, h2⟩ := info_z Tryd.z52; exact ⟨i, _, h1, h2, rfl⟩⟩
instance : TySl Tryd.prog 52 9 1 16 := ⟨Tryd.underlying52, info_s (z := .string ⟨#[]⟩) (by kernel_rfl) rfl, by decide⟩
-- 56: spec.l1Cur
instance : TyN Tryd.prog 56 3 := ⟨info_n (by kernel_rfl)⟩
instance : TyAg Tryd.prog 56 3 := ⟨fun w => by kernel_rfl, info_n (by kernel_rfl)⟩
theorem Tryd.z56 : (Tryd.prog.info? 56).map (·.zero) = some (some (.agg #[.slice none 0 0, .int .i64 0, .int .i64 0])) := by kernel_rfl
instance : TyZ Tryd.prog 56 [.nil, .d false (.i .i64 0), .d false (.i .i64 0)] := ⟨by obtain ⟨i, h1, h2⟩ := info_z Tryd.z56; exact ⟨i, _, h1, h2, rfl⟩⟩
instance : TyE Tryd.prog 56 [.l [], .i .i64 0, .i .i64 0] := ⟨by obtain ⟨i, h1, h2⟩ := info_z Tryd.z56; exact ⟨i, _, h1, h2, rfl⟩⟩
instance : TyB Tryd.prog 56 [(0, 1), (1, 1), (2, 1)] := ⟨_, Tryd.underlying56, fun w => by kernel_rfl⟩
instance : TyF Tryd.prog 56 0 0 22 := ⟨_, _, Tryd.underlying56, rfl, rfl, rfl, info_f (n := 1) (by kernel_rfl) (by decide)⟩
instance : TyF Tryd.prog 56 1 1 3 := ⟨_, _, Tryd.underlying56, rfl, rfl, rfl, info_f (n := 1) (by kernel_rfl) (by decide)⟩
instance : TyF Tryd.prog 56 2 2 3 := ⟨_, _, Tryd.underlying56, rfl, rfl, rfl, info_f (n := 1) (by kernel_rfl) (by decide)⟩
-- 79: []int
instance : TyN Tryd.prog 79 1 := ⟨info_n (by kernel_rfl)⟩
instance : TySc Tryd.prog 79 := ⟨fun w => by kernel_rfl, info_n (by kernel_rfl)⟩
theorem Tryd.z79 : (Tryd.prog.info? 79).map (·.zero) = some (some (.slice none 0 0)) := by kernel_rfl
instance : TyZ Tryd.prog 79 [.nil] := ⟨by obtain ⟨i, h1, h2⟩ := info_z Tryd.z79; exact ⟨i, _, h1, h2, rfl⟩⟩
instance : TyE Tryd.prog 79 [.l []] := ⟨by obtain ⟨i, h1, h2⟩ := info_z Tryd.z79; exact ⟨i, _, h1, h2, rfl⟩⟩
instance : TySl Tryd.prog 79 3 1 8 := ⟨Tryd.underlying79, info_s (z := .int .i64 0) (by kernel_rfl) rfl, by decide⟩
theorem Tryd.sh3 : HasSh Tryd.prog 3 [.i .i64] := .int Tryd.underlying3
theorem Tryd.sh4 : HasSh Tryd.prog 4 [.b] := .bool Tryd.underlying4
theorem Tryd.sh5 : HasSh Tryd.prog 5 [.i .u8] := .int Tryd.underlying5
theorem Tryd.sh9 : HasSh Tryd.prog 9 [.str] := .string Tryd.underlying9
theorem Tryd.sh22 : HasSh Tryd.prog 22 [.l [.i .u8]] := .slice Tryd.underlying22 Tryd.sh5 (by kernel_rfl) (by decide)
theorem Tryd.sh48 : HasSh Tryd.prog 48 [.i .i64, .i .i64, .i .i64, .i .i64] := .struct (ss := [.i .i64, .i .i64, .i .i64, .i .i64]) Tryd.underlying48 (HasFs.cons (s1 := [.i .i64]) (s2 := [.i .i64, .i .i64, .i .i64]) rfl Tryd.sh3 (by kernel_rfl) (HasFs.cons (s1 := [.i .i64]) (s2 := [.i .i64, .i .i64]) rfl Tryd.sh3 (by kernel_rfl) (HasFs.cons (s1 := [.i .i64]) (s2 := [.i .i64]) rfl Tryd.sh3 (by kernel_rfl) (HasFs.cons (s1 := [.i .i64]) (s2 := []) rfl Tryd.sh3 (by kernel_rfl) (HasFs.nil))))) (by kernel_rfl)
theorem Tryd.sh34 : HasSh Tryd.prog 34 [.l [.i .i64, .i .i64, .i .i64, .i .i64]] := .slice Tryd.underlying34 Tryd.sh48 (by kernel_rfl) (by decide)
theorem Tryd.sh36 : HasSh Tryd.prog 36 [.i .i64, .l [.i .i64, .i .i64, .i .i64, .i .i64], .l [.i .i64, .i .i64, .i .i64, .i .i64]] := .struct (ss := [.i .i64, .l [.i .i64, .i .i64, .i .i64, .i .i64], .l [.i .i64, .i .i64, .i .i64, .i .i64]]) Tryd.underlying36 (HasFs.cons (s1 := [.i .i64]) (s2 := [.l [.i .i64, .i .i64, .i .i64, .i .i64], .l [.i .i64, .i .i64, .i .i64, .i .i64]]) rfl Tryd.sh3 (by kernel_rfl) (HasFs.cons (s1 := [.l [.i .i64, .i .i64, .i .i64, .i .i64]]) (s2 := [.l [.i .i64, .i .i64, .i .i64, .i .i64]]) rfl Tryd.sh34 (by kernel_rfl) (HasFs.cons (s1 := [.l [.i .i64, .i .i64, .i .i64, .i .i64]]) (s2 := []) rfl Tryd.sh34 (by kernel_rfl) (HasFs.nil)))) (by kernel_rfl)
theorem Tryd.sh24 : HasSh Tryd.prog 24 [.l [.i .i64, .l [.i .i64, .i .i64, .i .i64, .i .i64], .l [.i .i64, .i .i64, .i .i64, .i .i64]]] := .slice Tryd.underlying24 Tryd.sh36 (by kernel_rfl) (by decide)
theorem Tryd.sh38 : HasSh Tryd.prog 38 [.i .i64, .i .i64, .i .i64, .i .i64] := .struct (ss := [.i .i64, .i .i64, .i .i64, .i .i64]) Tryd.underlying38 (HasFs.cons (s1 := [.i .i64]) (s2 := [.i .i64, .i .i64, .i .i64]) rfl Tryd.sh3 (by kernel_rfl) (HasFs.cons (s1 := [.i .i64]) (s2 := [.i .i64, .i .i64]) rfl Tryd.sh3 (by kernel_rfl) (HasFs.cons (s1 := [.i .i64]) (s2 := [.i .i64]) rfl Tryd.sh3 (by kernel_rfl) (HasFs.cons (s1 := [.i .i64]) (s2 := []) rfl Tryd.sh3 (by kernel_rfl) (HasFs.nil))))) (by kernel_rfl)
theorem Tryd.sh25 : HasSh Tryd.prog 25 [.l [.i .i64, .i .i64, .i .i64, .i .i64]] := .slice Tryd.underlying25 Tryd.sh38 (by kernel_rfl) (by decide)
theorem Tryd.sh32 : HasSh Tryd.prog 32 [.i .i64, .i .i64, .i .i64] := .struct (ss := [.i .i64, .i .i64, .i .i64]) Tryd.underlying32 (HasFs.cons (s1 := [.i .i64]) (s2 := [.i .i64, .i .i64]) rfl Tryd.sh3 (by kernel_rfl) (HasFs.cons (s1 := [.i .i64]) (s2 := [.i .i64]) rfl Tryd.sh3 (by kernel_rfl) (HasFs.cons (s1 := [.i .i64]) (s2 := []) rfl Tryd.sh3 (by kernel_rfl) (HasFs.nil)))) (by kernel_rfl)
theorem Tryd.sh28 : HasSh Tryd.prog 28 [.l [.i .i64, .i .i64, .i .i64]] := .slice Tryd.underlying28 Tryd.sh32 (by kernel_rfl) (by decide)
theorem Tryd.sh52 : HasSh Tryd.prog 52 [.l [.str]] := .slice Tryd.underlying52 Tryd.sh9 (by kernel_rfl) (by decide)
theorem Tryd.sh56 : HasSh Tryd.prog 56 [.l [.i .u8], .i .i64, .i .i64] := .struct (ss := [.l [.i .u8], .i .i64, .i .i64]) Tryd.underlying56 (HasFs.cons (s1 := [.l [.i .u8]]) (s2 := [.i .i64, .i .i64]) rfl Tryd.sh22 (by kernel_rfl) (HasFs.cons (s1 := [.i .i64]) (s2 := [.i .i64]) rfl Tryd.sh3 (by kernel_rfl) (HasFs.cons (s1 := [.i .i64]) (s2 := []) rfl Tryd.sh3 (by kernel_rfl) (HasFs.nil)))) (by kernel_rfl)
theorem Tryd.sh79 : HasSh Tryd.prog 79 [.l [.i .i64]] := .slice Tryd.underlying79 Tryd.sh3 (by kernel_rfl) (by decide)
theorem Tryd.eqa32 : EqA Tryd.prog 2 32 [.i .i64, .i .i64, .i .i64] := eqA_struct (k := 1) Tryd.underlying32 (by kernel_rfl) (eqF_s rfl (by decide) inferInstance (eqS_int Tryd.underlying3) (eqF_s rfl (by decide) inferInstance (eqS_int Tryd.underlying3) (eqF_s rfl (by decide) inferInstance (eqS_int Tryd.underlying3) (eqF_nil))))
instance : TyEq Tryd.prog 32 [.i .i64, .i .i64, .i .i64] := ⟨⟨2, by decide, Tryd.eqa32⟩, by kernel_rfl⟩
theorem Tryd.eqa38 : EqA Tryd.prog 2 38 [.i .i64, .i .i64, .i .i64, .i .i64] := eqA_struct (k := 1) Tryd.underlying38 (by kernel_rfl) (eqF_s rfl (by decide) inferInstance (eqS_int Tryd.underlying3) (eqF_s rfl (by decide) inferInstance (eqS_int Tryd.underlying3) (eqF_s rfl (by decide) inferInstance (eqS_int Tryd.underlying3) (eqF_s rfl (by decide) inferInstance (eqS_int Tryd.underlying3) (eqF_nil)))))
instance : TyEq Tryd.prog 38 [.i .i64, .i .i64, .i .i64, .i .i64] := ⟨⟨2, by decide, Tryd.eqa38⟩, by kernel_rfl⟩
theorem Tryd.eqa48 : EqA Tryd.prog 2 48 [.i .i64, .i .i64, .i .i64, .i .i64] := eqA_struct (k := 1) Tryd.underlying48 (by kernel_rfl) (eqF_s rfl (by decide) inferInstance (eqS_int Tryd.underlying3) (eqF_s rfl (by decide) inferInstance (eqS_int Tryd.underlying3) (eqF_s rfl (by decide) inferInstance (eqS_int Tryd.underlying3) (eqF_s rfl (by decide) inferInstance (eqS_int Tryd.underlying3) (eqF_nil)))))
instance : TyEq Tryd.prog 48 [.i .i64, .i .i64, .i .i64, .i .i64] := ⟨⟨2, by decide, Tryd.eqa48⟩, by kernel_rfl⟩
theorem Tryd.follows : Tryd.prog.follows .mixedOrders = true := by kernel_rfl
structure TStatementLine where
  Payer : Int
  Payee : Int
  Amount : Int
  deriving DecidableEq, Inhabited
def eTStatementLine (a : TStatementLine) : List D := [.i .i64 a.Payer, .i .i64 a.Payee, .i .i64 a.Amount]
structure TUsageRecord where
  Network : Int
  SessionID : Int
  Seq : Int
  Bytes : Int
  deriving DecidableEq, Inhabited
def eTUsageRecord (a : TUsageRecord) : List D := [.i .i64 a.Network, .i .i64 a.SessionID, .i .i64 a.Seq, .i .i64 a.Bytes]
structure TOperatorBook where
  Network : Int
  Own : List TUsageRecord
  Claims : List TUsageRecord
  deriving DecidableEq, Inhabited
def eTOperatorBook (a : TOperatorBook) : List D := [.i .i64 a.Network, .l (a.Own.map eTUsageRecord), .l (a.Claims.map eTUsageRecord)]
structure TRoamingAgreement where
  Home : Int
  Visited : Int
  Price : Int
  Cap : Int
  deriving DecidableEq, Inhabited
def eTRoamingAgreement (a : TRoamingAgreement) : List D := [.i .i64 a.Home, .i .i64 a.Visited, .i .i64 a.Price, .i .i64 a.Cap]
structure Tl1Cur where
  fb : List Int
  fi : Int
  fh : Int
  deriving DecidableEq, Inhabited
def eTl1Cur (a : Tl1Cur) : List D := [.l (a.fb.map eU8), .i .i64 a.fi, .i .i64 a.fh]
theorem Try.follows : Tryd.prog.follows .mixedOrders = true := Tryd.follows
end Go.AM
