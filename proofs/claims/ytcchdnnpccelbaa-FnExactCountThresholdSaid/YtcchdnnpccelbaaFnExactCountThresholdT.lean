/- What each function that the statement reaches returns. -/
import Derived.Test.YtcchdnnpccelbaaMiD
import Derived.Test.YtcchdnnpccelbaaChecked
import Derived.KernelRfl
import Derived.WalkKit
import Derived.WalkSpells
import Derived.Maps.RangeWalk
import Derived.Maps.OwnSet
import Derived.Lib.Strings
import Derived.Lib.Slices
import Derived.Lib.Walk
import Derived.Lib.Bytealg
import Derived.OwnWalk
import Derived.Lib.SliceRun
import Derived.Maps.AppendAt
import Derived.Deep.RegionWith
set_option linter.unusedVariables false
set_option linter.unusedSimpArgs false
set_option maxRecDepth 100000
set_option maxHeartbeats 4000000
namespace Go.Proofs.Ytcchdnnpccelbaa
open Go Go.Proofs.Ytcchdnnpccelbaa.Mi
noncomputable def cx : Cx := ⟨Try.prog, id, id, by kernel_rfl⟩
attribute [local irreducible] code opsK opsDK gopK opK seqK blockK callK binV
def R2 (n : Nat) : Nat := 2 ^ n
theorem shR (n : Nat) : 1 <<< n = R2 n := by simp [R2, Nat.shiftLeft_eq]
theorem shN {n : Nat} (h : n ≤ 4) : R2 n ≤ 16 ∧ R2 (R2 n) ≤ 65536 ∧ 1 ≤ R2 n ∧ 1 ≤ R2 (R2 n) := by
  have : n = 0 ∨ n = 1 ∨ n = 2 ∨ n = 3 ∨ n = 4 := by omega
  rcases this with rfl | rfl | rfl | rfl | rfl <;> decide
theorem b_shl1 {k' : IntKind} {y : Nat} (h : R2 y < 9223372036854775808) (hy : y ≤ 64) : binV .shl (.int .i64 1) (.int k' y) = some (.int .i64 (R2 y : Nat)) := by
  rw [← shR]; exact b_shl (x := 1) (by rw [shR]; exact h) hy
attribute [local irreducible] R2
-- impl.within
def m19 : MC := (.seq (.region [⟨(.mov (.k (.bool false))), (some 6), none⟩] false) (.seq (.region [⟨(.mov (.t 0)), (some 7), none⟩, ⟨(.mov (.t 1)), (some 8), none⟩, ⟨(.bin .geq (.t 7) (.t 8)), (some 9), none⟩, ⟨(.mov (.t 9)), (some 10), none⟩, ⟨(.mov (.t 0)), (some 11), (some (10, true))⟩, ⟨(.mov (.t 2)), (some 12), (some (10, true))⟩, ⟨(.bin .leq (.t 11) (.t 12)), (some 13), (some (10, true))⟩, ⟨(.pick (.t 10) (.t 13) (.k (.bool false))), (some 14), none⟩, ⟨(.mov (.t 14)), (some 6), none⟩] false) .ret))
theorem has19 : Has cx 19 15 m19 [(.tmp 6)] :=
  ⟨⟨Try.f19, Try.f19.body.getD .skip, by kernel_rfl, by kernel_rfl, by kernel_rfl, by kernel_rfl, by kernel_rfl, by kernel_rfl⟩⟩
theorem ev19 (z lo hi : Int) : Ev cx 19 [.int .i64 z, .int .i64 lo, .int .i64 hi] [] (.bool (decide (lo ≤ z ∧ z ≤ hi))) [] := by
  by_cases h1 : lo ≤ z
  · have h2 : decide (z ≥ lo) = true := decide_eq_true h1
    refine has19.eev rfl rfl ?_
    unfold m19
    repeat' (first
      | (refine g_op ?_; first
        | refine ep_mov rfl ?_
        | refine ep_bin rfl rfl (by first | exact b_leq | exact b_geq) ?_ | refine ep_pickT rfl rfl ?_ | refine ep_pickF rfl rfl ?_ | refine ep_pickTH rfl (by assumption) rfl ?_ | refine ep_pickFH rfl (by assumption) rfl ?_)
      | (refine g_ops ?_; first | refine eo_none ?_ | refine eo_nil ?_ | refine eo_yes rfl ?_ | refine eo_no rfl ?_ | refine eo_und rfl ?_ | refine eo_yesH rfl (by assumption) ?_ | refine eo_noH rfl (by assumption) ?_)
      | (refine g_code ?_; first | refine ec_seq ?_ | refine ec_region ?_ | refine ec_ret ?_)
      | refine ek_seqN ?_ | refine ek_seqR ?_)
    refine sfin (.inr rfl) (by rfl) (by rfl) (by exact ⟨rfl, rfl, rfl⟩) (by rfl) (by rfl) (by exact congrArg V.bool (by simp [h1])) (by first | rfl | (simp; done) | (simp [ints, prs]; done))
  · have h2 : decide (z ≥ lo) = false := decide_eq_false h1
    refine has19.eev rfl rfl ?_
    unfold m19
    repeat' (first
      | (refine g_op ?_; first
        | refine ep_mov rfl ?_
        | refine ep_bin rfl rfl (by first | exact b_leq | exact b_geq) ?_ | refine ep_pickT rfl rfl ?_ | refine ep_pickF rfl rfl ?_ | refine ep_pickTH rfl (by assumption) rfl ?_ | refine ep_pickFH rfl (by assumption) rfl ?_)
      | (refine g_ops ?_; first | refine eo_none ?_ | refine eo_nil ?_ | refine eo_yes rfl ?_ | refine eo_no rfl ?_ | refine eo_und rfl ?_ | refine eo_yesH rfl (by assumption) ?_ | refine eo_noH rfl (by assumption) ?_)
      | (refine g_code ?_; first | refine ec_seq ?_ | refine ec_region ?_ | refine ec_ret ?_)
      | refine ek_seqN ?_ | refine ek_seqR ?_)
    refine sfin (.inr rfl) (by rfl) (by rfl) (by exact ⟨rfl, rfl, rfl⟩) (by rfl) (by rfl) (by exact congrArg V.bool (by simp [h1])) (by first | rfl | (simp; done) | (simp [ints, prs]; done))
-- spec.l01In
def m16 : MC := (.seq (.region [⟨(.mov (.k (.bool false))), (some 6), none⟩] false) (.seq (.region [⟨(.mov (.t 0)), (some 7), none⟩, ⟨(.mov (.t 1)), (some 8), none⟩, ⟨(.bin .geq (.t 7) (.t 8)), (some 9), none⟩, ⟨(.mov (.t 9)), (some 10), none⟩, ⟨(.mov (.t 0)), (some 11), (some (10, true))⟩, ⟨(.mov (.t 2)), (some 12), (some (10, true))⟩, ⟨(.bin .leq (.t 11) (.t 12)), (some 13), (some (10, true))⟩, ⟨(.pick (.t 10) (.t 13) (.k (.bool false))), (some 14), none⟩, ⟨(.mov (.t 14)), (some 6), none⟩] false) .ret))
theorem has16 : Has cx 16 15 m16 [(.tmp 6)] :=
  ⟨⟨Try.f16, Try.f16.body.getD .skip, by kernel_rfl, by kernel_rfl, by kernel_rfl, by kernel_rfl, by kernel_rfl, by kernel_rfl⟩⟩
theorem ev16 (z lo hi : Int) : Ev cx 16 [.int .i64 z, .int .i64 lo, .int .i64 hi] [] (.bool (decide (lo ≤ z ∧ z ≤ hi))) [] := by
  by_cases h1 : lo ≤ z
  · have h2 : decide (z ≥ lo) = true := decide_eq_true h1
    refine has16.eev rfl rfl ?_
    unfold m16
    repeat' (first
      | (refine g_op ?_; first
        | refine ep_mov rfl ?_
        | refine ep_bin rfl rfl (by first | exact b_leq | exact b_geq) ?_ | refine ep_pickT rfl rfl ?_ | refine ep_pickF rfl rfl ?_ | refine ep_pickTH rfl (by assumption) rfl ?_ | refine ep_pickFH rfl (by assumption) rfl ?_)
      | (refine g_ops ?_; first | refine eo_none ?_ | refine eo_nil ?_ | refine eo_yes rfl ?_ | refine eo_no rfl ?_ | refine eo_und rfl ?_ | refine eo_yesH rfl (by assumption) ?_ | refine eo_noH rfl (by assumption) ?_)
      | (refine g_code ?_; first | refine ec_seq ?_ | refine ec_region ?_ | refine ec_ret ?_)
      | refine ek_seqN ?_ | refine ek_seqR ?_)
    refine sfin (.inr rfl) (by rfl) (by rfl) (by exact ⟨rfl, rfl, rfl⟩) (by rfl) (by rfl) (by exact congrArg V.bool (by simp [h1])) (by first | rfl | (simp; done) | (simp [ints, prs]; done))
  · have h2 : decide (z ≥ lo) = false := decide_eq_false h1
    refine has16.eev rfl rfl ?_
    unfold m16
    repeat' (first
      | (refine g_op ?_; first
        | refine ep_mov rfl ?_
        | refine ep_bin rfl rfl (by first | exact b_leq | exact b_geq) ?_ | refine ep_pickT rfl rfl ?_ | refine ep_pickF rfl rfl ?_ | refine ep_pickTH rfl (by assumption) rfl ?_ | refine ep_pickFH rfl (by assumption) rfl ?_)
      | (refine g_ops ?_; first | refine eo_none ?_ | refine eo_nil ?_ | refine eo_yes rfl ?_ | refine eo_no rfl ?_ | refine eo_und rfl ?_ | refine eo_yesH rfl (by assumption) ?_ | refine eo_noH rfl (by assumption) ?_)
      | (refine g_code ?_; first | refine ec_seq ?_ | refine ec_region ?_ | refine ec_ret ?_)
      | refine ek_seqN ?_ | refine ek_seqR ?_)
    refine sfin (.inr rfl) (by rfl) (by rfl) (by exact ⟨rfl, rfl, rfl⟩) (by rfl) (by rfl) (by exact congrArg V.bool (by simp [h1])) (by first | rfl | (simp; done) | (simp [ints, prs]; done))
-- impl.rowsOf
def m40 : MC := (.seq (.region [⟨(.mov (.k (.int .i64 0))), (some 2), none⟩] false) (.seq (.region [⟨(.mov (.t 0)), (some 3), none⟩, ⟨(.bin .shl (.k (.int .i64 1)) (.t 3)), (some 4), none⟩, ⟨(.mov (.t 4)), (some 2), none⟩] false) .ret))
theorem has40 : Has cx 40 5 m40 [(.tmp 2)] :=
  ⟨⟨Try.f40, Try.f40.body.getD .skip, by kernel_rfl, by kernel_rfl, by kernel_rfl, by kernel_rfl, by kernel_rfl, by kernel_rfl⟩⟩
theorem ev40 (n : Nat) (h : n ≤ 4) : Ev cx 40 [.int .i64 n] [] (.int .i64 (R2 n : Nat)) [] := by
  obtain ⟨h1, h2, h3, h4⟩ := shN h
  refine has40.eev rfl rfl ?_
  unfold m40
  repeat' (first
    | (refine g_op ?_; first
      | refine ep_mov rfl ?_
      | refine ep_bin rfl rfl (by first | exact b_shl1 (by omega) (by omega) | exact b_shl (by omega) (by omega)) ?_)
    | (refine g_ops ?_; first | refine eo_none ?_ | refine eo_nil ?_)
    | (refine g_code ?_; first | refine ec_seq ?_ | refine ec_region ?_ | refine ec_ret ?_)
    | refine ek_seqN ?_ | refine ek_seqR ?_)
  refine sfin (.inr rfl) (by rfl) (by rfl) (by exact ⟨rfl, rfl, rfl⟩) (by rfl) (by rfl) (by rfl) (by first | rfl | (simp; done) | (simp [ints, prs]; done))
-- impl.funcsOf
def m31 : MC := (.seq (.region [⟨(.mov (.k (.int .i64 0))), (some 2), none⟩] false) (.seq (.region [⟨(.mov (.t 0)), (some 3), none⟩, ⟨(.call 40 [(.t 3)]), (some 4), none⟩, ⟨(.bin .shl (.k (.int .i64 1)) (.t 4)), (some 5), none⟩, ⟨(.mov (.t 5)), (some 2), none⟩] false) .ret))
theorem has31 : Has cx 31 6 m31 [(.tmp 2)] :=
  ⟨⟨Try.f31, Try.f31.body.getD .skip, by kernel_rfl, by kernel_rfl, by kernel_rfl, by kernel_rfl, by kernel_rfl, by kernel_rfl⟩⟩
theorem ev31 (n : Nat) (h : n ≤ 4) : Ev cx 31 [.int .i64 n] [] (.int .i64 (R2 (R2 n) : Nat)) [] := by
  obtain ⟨h1, h2, h3, h4⟩ := shN h
  refine has31.eev rfl rfl ?_
  unfold m31
  repeat' (first
    | (refine g_op ?_; first
      | refine ep_mov rfl ?_
      | refine ep_call0 rfl (by first | exact ev40 _ h) rfl rfl ?_
      | refine sp_call rfl rfl rfl rfl (by first | exact ev40 _ h) ⟨rfl, rfl, rfl, rfl⟩ rfl rfl rfl ?_
      | refine ep_bin rfl rfl (by first | exact b_shl1 (by omega) (by omega) | exact b_shl (by omega) (by omega)) ?_)
    | (refine g_ops ?_; first | refine eo_none ?_ | refine eo_nil ?_)
    | (refine g_code ?_; first | refine ec_seq ?_ | refine ec_region ?_ | refine ec_ret ?_)
    | refine ek_seqN ?_ | refine ek_seqR ?_)
  refine sfin (.inr rfl) (by rfl) (by rfl) (by exact ⟨rfl, rfl, rfl⟩) (by rfl) (by rfl) (by rfl) (by first | rfl | (simp; done) | (simp [ints, prs]; done))
-- spec.l01Rows
def m28 : MC := (.seq (.region [⟨(.mov (.k (.int .i64 0))), (some 2), none⟩] false) (.seq (.region [⟨(.mov (.t 0)), (some 3), none⟩, ⟨(.conv .u64 (.t 3)), (some 4), none⟩, ⟨(.bin .shl (.k (.int .i64 1)) (.t 4)), (some 5), none⟩, ⟨(.mov (.t 5)), (some 2), none⟩] false) .ret))
theorem has28 : Has cx 28 6 m28 [(.tmp 2)] :=
  ⟨⟨Try.f28, Try.f28.body.getD .skip, by kernel_rfl, by kernel_rfl, by kernel_rfl, by kernel_rfl, by kernel_rfl, by kernel_rfl⟩⟩
theorem ev28 (n : Nat) (h : n ≤ 4) : Ev cx 28 [.int .i64 n] [] (.int .i64 (R2 n : Nat)) [] := by
  obtain ⟨h1, h2, h3, h4⟩ := shN h
  refine has28.eev rfl rfl ?_
  unfold m28
  repeat' (first
    | (refine g_op ?_; first
      | refine ep_mov rfl ?_
      | refine ep_bin rfl rfl (by first | exact b_shl1 (by omega) (by omega) | exact b_shl (by omega) (by omega)) ?_ | refine ep_conv rfl (by first | exact w_u64 (by omega) (by omega) | exact wrap_id (by omega) (by omega) | rfl) ?_)
    | (refine g_ops ?_; first | refine eo_none ?_ | refine eo_nil ?_)
    | (refine g_code ?_; first | refine ec_seq ?_ | refine ec_region ?_ | refine ec_ret ?_)
    | refine ek_seqN ?_ | refine ek_seqR ?_)
  refine sfin (.inr rfl) (by rfl) (by rfl) (by exact ⟨rfl, rfl, rfl⟩) (by rfl) (by rfl) (by rfl) (by first | rfl | (simp; done) | (simp [ints, prs]; done))
-- spec.l01All
def m17 : MC := (.seq (.region [⟨(.mov (.k (.int .i64 0))), (some 2), none⟩] false) (.seq (.region [⟨(.mov (.t 0)), (some 3), none⟩, ⟨(.call 28 [(.t 3)]), (some 4), none⟩, ⟨(.conv .u64 (.t 4)), (some 5), none⟩, ⟨(.bin .shl (.k (.int .i64 1)) (.t 5)), (some 6), none⟩, ⟨(.bin .sub (.t 6) (.k (.int .i64 1))), (some 7), none⟩, ⟨(.mov (.t 7)), (some 2), none⟩] false) .ret))
theorem has17 : Has cx 17 8 m17 [(.tmp 2)] :=
  ⟨⟨Try.f17, Try.f17.body.getD .skip, by kernel_rfl, by kernel_rfl, by kernel_rfl, by kernel_rfl, by kernel_rfl, by kernel_rfl⟩⟩
theorem ev17 (n : Nat) (h : n ≤ 4) : Ev cx 17 [.int .i64 n] [] (.int .i64 ((R2 (R2 n) : Nat) - 1)) [] := by
  obtain ⟨h1, h2, h3, h4⟩ := shN h
  refine has17.eev rfl rfl ?_
  unfold m17
  repeat' (first
    | (refine g_op ?_; first
      | refine ep_mov rfl ?_
      | refine ep_call0 rfl (by first | exact ev28 _ h) rfl rfl ?_
      | refine sp_call rfl rfl rfl rfl (by first | exact ev28 _ h) ⟨rfl, rfl, rfl, rfl⟩ rfl rfl rfl ?_
      | refine ep_bin rfl rfl (by first | exact b_shl1 (by omega) (by omega) | exact b_sub (by omega) (by omega) | exact b_shl (by omega) (by omega)) ?_ | refine ep_conv rfl (by first | exact w_u64 (by omega) (by omega) | exact wrap_id (by omega) (by omega) | rfl) ?_)
    | (refine g_ops ?_; first | refine eo_none ?_ | refine eo_nil ?_)
    | (refine g_code ?_; first | refine ec_seq ?_ | refine ec_region ?_ | refine ec_ret ?_)
    | refine ek_seqN ?_ | refine ek_seqR ?_)
  refine sfin (.inr rfl) (by rfl) (by rfl) (by exact ⟨rfl, rfl, rfl⟩) (by rfl) (by rfl) (by rfl) (by first | rfl | (simp; done) | (simp [ints, prs]; done))
def bt (b r : Nat) : Nat := (b >>> r) &&& 1
theorem bt_le (b r : Nat) : bt b r ≤ 1 := by unfold bt; exact Nat.and_le_right
theorem shr_lt {b r : Nat} (h : b < 9223372036854775808) : b >>> r < 9223372036854775808 := Nat.lt_of_le_of_lt (Nat.shiftRight_le b r) h
theorem b_bt {b r : Nat} (h : b < 9223372036854775808) : binV .and (.int .i64 (b >>> r : Nat)) (.int .i64 1) = some (.int .i64 (bt b r : Nat)) := b_and (y := 1) (shr_lt h) (by omega)
attribute [local irreducible] bt
-- impl.bit
def m48 : MC := (.seq (.region [⟨(.mov (.k (.int .i64 0))), (some 4), none⟩] false) (.seq (.region [⟨(.mov (.t 0)), (some 5), none⟩, ⟨(.mov (.t 1)), (some 6), none⟩, ⟨(.bin .shr (.t 5) (.t 6)), (some 7), none⟩, ⟨(.bin .and (.t 7) (.k (.int .i64 1))), (some 8), none⟩, ⟨(.mov (.t 8)), (some 4), none⟩] false) .ret))
theorem has48 : Has cx 48 9 m48 [(.tmp 4)] :=
  ⟨⟨Try.f48, Try.f48.body.getD .skip, by kernel_rfl, by kernel_rfl, by kernel_rfl, by kernel_rfl, by kernel_rfl, by kernel_rfl⟩⟩
theorem ev48 (b r : Nat) (hb : b < 9223372036854775808) (hr : r ≤ 64) : Ev cx 48 [.int .i64 b, .int .i64 r] [] (.int .i64 (bt b r : Nat)) [] := by
  refine has48.eev rfl rfl ?_
  unfold m48
  repeat' (first
    | (refine g_op ?_; first
      | refine ep_mov rfl ?_
      | refine ep_bin rfl rfl (by first | exact b_shr hr | exact b_bt hb | exact b_and (by omega) (by omega) | exact b_shr (by omega)) ?_)
    | (refine g_ops ?_; first | refine eo_none ?_ | refine eo_nil ?_)
    | (refine g_code ?_; first | refine ec_seq ?_ | refine ec_region ?_ | refine ec_ret ?_)
    | refine ek_seqN ?_ | refine ek_seqR ?_)
  refine sfin (.inr rfl) (by rfl) (by rfl) (by exact ⟨rfl, rfl, rfl⟩) (by rfl) (by rfl) (by rfl) (by first | rfl | (simp; done) | (simp [ints, prs]; done))
-- (impl.Func).at
def m44 : MC := (.seq (.region [⟨(.box (.t 0)), (some 2), none⟩, ⟨(.mov (.k (.int .i64 0))), (some 4), none⟩] false) (.seq (.region [⟨(.fieldAddr 1 (.t 2)), (some 5), none⟩, ⟨(.load none (.t 5)), (some 6), none⟩, ⟨(.mov (.t 1)), (some 7), none⟩, ⟨(.call 48 [(.t 6), (.t 7)]), (some 8), none⟩, ⟨(.mov (.t 8)), (some 4), none⟩] false) .ret))
theorem has44 : Has cx 44 9 m44 [(.tmp 4)] :=
  ⟨⟨Try.f44, Try.f44.body.getD .skip, by kernel_rfl, by kernel_rfl, by kernel_rfl, by kernel_rfl, by kernel_rfl, by kernel_rfl⟩⟩
theorem ev44 (n : Int) (b r : Nat) (hb : b < 9223372036854775808) (hr : r ≤ 64) : Ev cx 44 [.agg [.int .i64 n, .int .i64 b], .int .i64 r] [] (.int .i64 (bt b r : Nat)) [] := by
  refine has44.eev rfl rfl ?_
  unfold m44
  repeat' (first
    | (refine g_op ?_; first
      | refine ep_mov rfl ?_ | refine ep_load1 rfl rfl rfl rfl ?_ | refine ep_fieldAddr rfl ?_
      | refine ep_call0 rfl (by first | exact ev48 _ _ hb hr) rfl rfl ?_
      | refine sp_call rfl rfl rfl rfl (by first | exact ev48 _ _ hb hr) ⟨rfl, rfl, rfl, rfl⟩ rfl rfl rfl ?_
      | refine sp_box rfl rfl rfl rfl rfl ?_)
    | (refine g_ops ?_; first | refine eo_none ?_ | refine eo_nil ?_)
    | (refine g_code ?_; first | refine ec_seq ?_ | refine ec_region ?_ | refine ec_ret ?_)
    | refine ek_seqN ?_ | refine ek_seqR ?_)
  refine sfin (.inr rfl) (by rfl) (by rfl) (by exact ⟨rfl, rfl, rfl⟩) (by rfl) (by rfl) (by rfl) (by first | rfl | (simp; done) | (simp [ints, prs]; done))
-- (impl.Func).rows
def m42 : MC := (.seq (.region [⟨(.box (.t 0)), (some 1), none⟩, ⟨(.mov (.k (.int .i64 0))), (some 2), none⟩] false) (.seq (.region [⟨(.fieldAddr 0 (.t 1)), (some 3), none⟩, ⟨(.load none (.t 3)), (some 4), none⟩, ⟨(.call 40 [(.t 4)]), (some 5), none⟩, ⟨(.mov (.t 5)), (some 2), none⟩] false) .ret))
theorem has42 : Has cx 42 6 m42 [(.tmp 2)] :=
  ⟨⟨Try.f42, Try.f42.body.getD .skip, by kernel_rfl, by kernel_rfl, by kernel_rfl, by kernel_rfl, by kernel_rfl, by kernel_rfl⟩⟩
theorem ev42 (n : Nat) (b : Int) (h : n ≤ 4) : Ev cx 42 [.agg [.int .i64 n, .int .i64 b]] [] (.int .i64 (R2 n : Nat)) [] := by
  refine has42.eev rfl rfl ?_
  unfold m42
  repeat' (first
    | (refine g_op ?_; first
      | refine ep_mov rfl ?_ | refine ep_load1 rfl rfl rfl rfl ?_ | refine ep_fieldAddr rfl ?_
      | refine ep_call0 rfl (by first | exact ev40 _ h) rfl rfl ?_
      | refine sp_call rfl rfl rfl rfl (by first | exact ev40 _ h) ⟨rfl, rfl, rfl, rfl⟩ rfl rfl rfl ?_
      | refine sp_box rfl rfl rfl rfl rfl ?_)
    | (refine g_ops ?_; first | refine eo_none ?_ | refine eo_nil ?_)
    | (refine g_code ?_; first | refine ec_seq ?_ | refine ec_region ?_ | refine ec_ret ?_)
    | refine ek_seqN ?_ | refine ek_seqR ?_)
  refine sfin (.inr rfl) (by rfl) (by rfl) (by exact ⟨rfl, rfl, rfl⟩) (by rfl) (by rfl) (by rfl) (by first | rfl | (simp; done) | (simp [ints, prs]; done))
-- spec.l01At
def m39 : MC := (.seq (.region [⟨(.box (.t 0)), (some 2), none⟩, ⟨(.mov (.k (.int .i64 0))), (some 4), none⟩] false) (.seq (.region [⟨(.fieldAddr 1 (.t 2)), (some 5), none⟩, ⟨(.load none (.t 5)), (some 6), none⟩, ⟨(.mov (.t 1)), (some 7), none⟩, ⟨(.conv .u64 (.t 7)), (some 8), none⟩, ⟨(.bin .shr (.t 6) (.t 8)), (some 9), none⟩, ⟨(.bin .and (.t 9) (.k (.int .i64 1))), (some 10), none⟩, ⟨(.mov (.t 10)), (some 4), none⟩] false) .ret))
theorem has39 : Has cx 39 11 m39 [(.tmp 4)] :=
  ⟨⟨Try.f39, Try.f39.body.getD .skip, by kernel_rfl, by kernel_rfl, by kernel_rfl, by kernel_rfl, by kernel_rfl, by kernel_rfl⟩⟩
theorem ev39 (n : Int) (b r : Nat) (hb : b < 9223372036854775808) (hr : r ≤ 64) : Ev cx 39 [.agg [.int .i64 n, .int .i64 b], .int .i64 r] [] (.int .i64 (bt b r : Nat)) [] := by
  refine has39.eev rfl rfl ?_
  unfold m39
  repeat' (first
    | (refine g_op ?_; first
      | refine ep_mov rfl ?_ | refine ep_load1 rfl rfl rfl rfl ?_ | refine ep_fieldAddr rfl ?_
      | refine ep_bin rfl rfl (by first | exact b_shr hr | exact b_bt hb | exact b_and (by omega) (by omega) | exact b_shr (by omega)) ?_ | refine ep_conv rfl (by first | exact w_u64 (by omega) (by omega) | exact wrap_id (by omega) (by omega) | rfl) ?_
      | refine sp_box rfl rfl rfl rfl rfl ?_)
    | (refine g_ops ?_; first | refine eo_none ?_ | refine eo_nil ?_)
    | (refine g_code ?_; first | refine ec_seq ?_ | refine ec_region ?_ | refine ec_ret ?_)
    | refine ek_seqN ?_ | refine ek_seqR ?_)
  refine sfin (.inr rfl) (by rfl) (by rfl) (by exact ⟨rfl, rfl, rfl⟩) (by rfl) (by rfl) (by rfl) (by first | rfl | (simp; done) | (simp [ints, prs]; done))
def ints (l : List Nat) : List V := l.map fun (x : Nat) => .int .i64 (x : Int)
def zints (l : List Int) : List V := l.map fun x => .int .i64 x
def prs (n : Nat) (l : List Nat) : List V := l.flatMap fun (b : Nat) => [.int .i64 n, .int .i64 b]
theorem ints_len (l : List Nat) : (ints l).length = l.length * 1 := by simp [ints]
theorem zints_len (l : List Int) : (zints l).length = l.length * 1 := by simp [zints]
theorem prs_len (n : Nat) : ∀ (l : List Nat), (prs n l).length = l.length * 2
  | [] => rfl
  | x :: xs => by have := prs_len n xs; simp [prs] at this ⊢; omega
def selm (p : Nat → Bool) (g : Nat → Nat) (n : Nat) : List Nat := ((List.range n).filter p).map g
theorem selm_t {p : Nat → Bool} {g : Nat → Nat} {i : Nat} (h : p i = true) : selm p g (i + 1) = selm p g i ++ [g i] := by
  simp [selm, List.range_succ, List.filter_append, h]
theorem selm_f {p : Nat → Bool} {g : Nat → Nat} {i : Nat} (h : p i = false) : selm p g (i + 1) = selm p g i := by
  simp [selm, List.range_succ, List.filter_append, h]
theorem selm_len (p : Nat → Bool) (g : Nat → Nat) : ∀ n, (selm p g n).length ≤ n
  | 0 => by simp [selm]
  | n + 1 => by
    have := selm_len p g n
    cases h : p n with
    | true => rw [selm_t h]; simp; omega
    | false => rw [selm_f h]; omega
def slV (z : V) (k : Nat) (l : List Nat) : V := match l with | [] => z | x :: xs => .sl k 0 (x :: xs).length
def slH (k es : Nat) (c : List Nat → List V) (l : List Nat) : List Blk := match l with | [] => [] | x :: xs => [⟨c (x :: xs), es, k, some 0, false⟩]
abbrev idn : Nat → Nat := fun i => i
/-- A set of numbers as bits. -/
-- impl.funcsThat
def m20_0 : MC := (.seq (.region [⟨(.bin .lss (.t 10) (.t 9)), (some 11), none⟩] false) (.seq (.cond (.t 11) .skip (.exit 0)) (.seq (.block 1 (.seq (.region [⟨(.mov (.t 10)), (some 12), none⟩, ⟨(.mov (.t 12)), (some 6), none⟩] false) (.seq (.region [⟨(.mov (.t 0)), (some 13), none⟩, ⟨(.mov (.t 6)), (some 14), none⟩, ⟨(.build [(.int .i64 0), (.int .i64 0)] [(0, (1, (.t 13))), (1, (1, (.t 14)))]), (some 15), none⟩, ⟨(.alloc [(.int .i64 0), (.int .i64 0)]), (some 7), none⟩, ⟨(.store 2 (.t 7) (.t 15)), none, none⟩] false) (.seq (.region [⟨(.mov (.t 1)), (some 16), none⟩, ⟨(.load (some 2) (.t 7)), (some 17), none⟩, ⟨(.callv (.t 16) [(.t 17)]), (some 18), none⟩] false) (.cond (.t 18) (.region [⟨(.mov (.t 5)), (some 19), none⟩, ⟨(.load (some 2) (.t 7)), (some 20), none⟩, ⟨(.bslice 2 [(.int .i64 0), (.int .i64 0)] 1 [(0, (2, (.t 20)))]), (some 21), none⟩, ⟨(.append 2 16 (.t 19) (.t 21)), (some 22), none⟩, ⟨(.mov (.t 22)), (some 5), none⟩] false) .skip))))) (.region [⟨(.bin .add (.t 10) (.k (.int .i64 1))), (some 23), none⟩, ⟨(.mov (.t 23)), (some 10), none⟩] false))))
def m20 : MC := (.seq (.region [⟨(.mov (.k .nils)), (some 4), none⟩] false) (.seq (.region [⟨(.mov (.k .nils)), (some 5), none⟩] false) (.seq (.seq (.region [⟨(.mov (.t 0)), (some 8), none⟩, ⟨(.call 31 [(.t 8)]), (some 9), none⟩, ⟨(.mov (.k (.int .i64 0))), (some 10), none⟩] false) (.block 0 (.loop m20_0))) (.seq (.region [⟨(.mov (.t 5)), (some 24), none⟩, ⟨(.mov (.t 24)), (some 4), none⟩] false) .ret))))
theorem has20 : Has cx 20 25 m20 [(.tmp 4)] :=
  ⟨⟨Try.f20, Try.f20.body.getD .skip, by kernel_rfl, by kernel_rfl, by kernel_rfl, by kernel_rfl, by kernel_rfl, by kernel_rfl⟩⟩

theorem ints_get {l : List Nat} {j : Nat} (h : j < l.length) : (ints l)[0 + j * 1]? = some (.int .i64 (l.getD j 0 : Nat)) := by
  simp [ints, h]
theorem zints_get {l : List Int} {j : Nat} (h : j < l.length) : (zints l)[0 + j * 1]? = some (.int .i64 (l.getD j 0)) := by
  simp [zints, h]
theorem prs_get {n : Nat} : ∀ {l : List Nat} {j : Nat} (_ : j < l.length), [V.int .i64 (n : Nat), V.int .i64 (l.getD j 0 : Nat)].length = 2 ∧ (0 + j * 2) + 2 ≤ (prs n l).length ∧ ((prs n l).drop (0 + j * 2)).take 2 = [V.int .i64 (n : Nat), V.int .i64 (l.getD j 0 : Nat)]
  | [], j, h => by simp at h
  | x :: xs, 0, h => by simp [prs]
  | x :: xs, j + 1, h => by
    obtain ⟨_, h2, h3⟩ := prs_get (n := n) (l := xs) (j := j) (by simpa using h)
    have e : (0 + (j + 1) * 2) = (0 + j * 2) + 2 := by omega
    rw [e]
    have e2 : prs n (x :: xs) = .int .i64 (n : Nat) :: .int .i64 (x : Nat) :: prs n xs := by simp [prs]
    rw [e2]
    refine ⟨rfl, by simp; omega, ?_⟩
    rw [List.drop_succ_cons, List.drop_succ_cons, h3]; simp
def fns (l : List (Int × Int)) : List V := l.flatMap fun (f : Int × Int) => [.int .i64 f.1, .int .i64 f.2]
theorem fns_get : ∀ {l : List (Int × Int)} {j : Nat} (_ : j < l.length), [V.int .i64 (l.getD j (0, 0)).1, V.int .i64 (l.getD j (0, 0)).2].length = 2 ∧ (0 + j * 2) + 2 ≤ (fns l).length ∧ ((fns l).drop (0 + j * 2)).take 2 = [V.int .i64 (l.getD j (0, 0)).1, V.int .i64 (l.getD j (0, 0)).2]
  | [], j, h => by simp at h
  | x :: xs, 0, h => by simp [fns]
  | x :: xs, j + 1, h => by
    obtain ⟨_, h2, h3⟩ := fns_get (l := xs) (j := j) (by simpa using h)
    have e : (0 + (j + 1) * 2) = (0 + j * 2) + 2 := by omega
    rw [e]
    have e2 : fns (x :: xs) = .int .i64 x.1 :: .int .i64 x.2 :: fns xs := by simp [fns]
    rw [e2]
    refine ⟨rfl, by simp; omega, ?_⟩
    rw [List.drop_succ_cons, List.drop_succ_cons, h3]; simp
theorem fget {o j : Nat} {l : List Int} (h : j < l.length) : (List.replicate o V.any ++ nums .i64 l)[o + j * 1]? = some (.int .i64 (l.getD j 0)) := by
  rw [List.getElem?_append_right (by simp)]
  simp [nums, h]
-- slices.Clone[[]int64,int64]
def m41 : MC := (.seq (.region [⟨(.mov (.k .nils)), (some 2), none⟩] false) (.seq (.seq (.region [⟨(.mov (.t 0)), (some 3), none⟩, ⟨(.isnil false (.t 3)), (some 4), none⟩] false) (.cond (.t 4) (.seq (.region [⟨(.mov (.k .nils)), (some 2), none⟩] false) .ret) .skip)) (.seq (.region [⟨.empt, (some 5), none⟩, ⟨(.mov (.t 0)), (some 6), none⟩, ⟨(.append 1 8 (.t 5) (.t 6)), (some 7), none⟩, ⟨(.mov (.t 7)), (some 2), none⟩] false) .ret)))
theorem has41 : Has cx 41 8 m41 [(.tmp 2)] :=
  ⟨⟨Try.f41, Try.f41.body.getD .skip, by kernel_rfl, by kernel_rfl, by kernel_rfl, by kernel_rfl, by kernel_rfl, by kernel_rfl⟩⟩
section
open Go.RowKit
theorem cell_blk {w : World} {b i : Nat} {cs : Array Value} {t : TypeId} {v : Value} (h : w.heap[b]? = some (.cells cs t (0, 0))) (hv : cs[i]? = some v) : w.cell? ⟨b, i, none⟩ = some v := by simp [World.cell?, h, hv]
theorem blk_fr' {w w' : World} {b : Nat} {o : Obj} {row : Option Nat} (h : w.heap[b]? = some o) (hg : w.grownBy w' row) (hr : some b ≠ row) : w'.heap[b]? = some o := by
  have hb : b < w.heap.size := (Array.getElem?_eq_some_iff.mp h).1
  rw [hg.block b hb hr]; exact h
theorem blk_alloc {w : World} {b : Nat} {o : Obj} (x : Obj) (h : w.heap[b]? = some o) : (w.alloc x).heap[b]? = some o := blk_fr' h (World.grownBy_alloc w x none) (by simp)
theorem blk_new (w : World) (o : Obj) : (w.alloc o).heap[w.heap.size]? = some o := by
  show (w.heap.push o)[w.heap.size]? = some o
  rw [Array.getElem?_push, if_pos rfl]
theorem own_shape {w : World} {b : Nat} {e : TypeId} {sz : Nat} {v : Value} {n : Nat} {xs : List Value} (h : w.ownsRow b e sz v n xs) : ∃ o c, v = .slice o n c := by
  rcases h.2 with ⟨rfl, rfl⟩ | ⟨g, cap, cur, rfl, _⟩
  · exact ⟨_, _, rfl⟩
  · exact ⟨_, _, rfl⟩
theorem own_ge {w : World} {b : Nat} {e : TypeId} {sz : Nat} {v : Value} {n : Nat} {xs : List Value} (h : w.ownsRow b e sz v n xs) {k : Nat} (hk : v.ownBlock = some k) : b ≤ k ∧ k < w.heap.size := by
  rcases h.2 with ⟨rfl, rfl⟩ | ⟨g, cap, cur, rfl, hg, hh, _⟩
  · simp [Value.ownBlock] at hk
  · simp only [Value.ownBlock, Option.some.injEq] at hk
    subst hk; exact ⟨hg, lt_of_block hh⟩
theorem below_grown {w w' : World} (h : Below w.heap.size w w') : w.grownBy w' none := ⟨h.os, h.tape, h.output, h.size, fun k hk _ => h.block k hk⟩
theorem Try.info2 : (Try.prog.info? 2).map (fun i => (i.zero, i.size, i.bytes)) = some (some (.int .i64 0), 1, 8) := by kernel_rfl
theorem one_cell {w : World} {b : Nat} {x : Value} {t : TypeId} (h : w.heap[b]? = some (.cells #[x] t (0, 0))) : ∀ j u, [x][j]? = some u → w.cell? (Addr.add ⟨b, 0, none⟩ j) = some u := by
  intro j u hj
  match j, hj with
  | 0, hj => simp at hj; subst hj; simp [Addr.add]; exact cell_blk h rfl
theorem ownsRow_mono {w : World} {b b' : Nat} {e : TypeId} {sz : Nat} {v : Value} {n : Nat} {xs : List Value} (h : w.ownsRow b e sz v n xs) (hb : b' ≤ b) : w.ownsRow b' e sz v n xs := by
  obtain ⟨h1, h2⟩ := h
  refine ⟨h1, ?_⟩
  rcases h2 with h2 | ⟨g, cap, cur, hv, hg, r⟩
  · exact .inl h2
  · exact .inr ⟨g, cap, cur, hv, by omega, r⟩
end

section
open Go.RowKit Go.IntWalk
theorem cell_frw {w w' : World} {a : Addr} {v : Value} {row : Option Nat} (h : w.cell? a = some v) (hg : w.grownBy w' row) (hr : some a.block ≠ row) : w'.cell? a = some v := hg.cell h hr
theorem inv00w {ρ : Nat → Nat} (W : World) : Inv ρ (Rcall mp0 [] W) mp0 (fun i => i < ([] : Heap).length) [] W :=
  ⟨fun i b hi => absurd hi (by simp), fun i hi => absurd hi (by simp), fun i j bi bj hi => absurd hi (by simp), fun i b p hi => absurd hi (by simp), fun i b hi => absurd hi (by simp), fun i b hi => absurd hi (by simp), fun r hr o => .inl hr,
    fun i b hi => absurd hi (by simp), fun i b hi => absurd hi (by simp)⟩
theorem Ev.grownW {C : Cx} {f : Nat} {args : List V} {vs : List Value} {x : Int} (h : Ev C f args [] (.int .i64 x) []) (hv : VRL C.ρ mp0 args vs) (hid : V.idsL args = []) (W : World) :
    Calls C.P (C.ρ f) vs.toArray W fun e w' => e = .returned (.int .i64 x) ∧ W.grownBy w' none := by
  refine (h.2 mp0 W vs (inv00w W) hv (by rw [hid]; simp)).mono fun e w' he => ?_
  obtain ⟨u, m', rfl, hq⟩ := he
  have hu := hq.rel
  simp only [VR] at hu
  subst hu
  refine ⟨rfl, hq.keep.os, hq.keep.tape, hq.keep.output, hq.keep.size, fun k hk _ => same_eq (hq.keep.blk k hk) fun o ho => ?_⟩
  rcases ho with ho | ⟨i, b, p, hb, _⟩
  · omega
  · simp at hb
def zvL (l : List Int) : List Value := l.map (Value.int .i64)
/-- A slice that reads as l. -/
def RdL (w : World) (v : Value) (l : List Int) : Prop := (v = .slice none 0 0 ∧ l = []) ∨ ∃ g cp, v = .slice (some ⟨g, 0, none⟩) l.length cp ∧ ∀ i, i < l.length → w.cell? ⟨g, i, none⟩ = some (.int .i64 (l.getD i 0))
theorem RdL.kept {w w' : World} {v : Value} {l : List Int} (h : RdL w v l) (hg : w.grownBy w' none) : RdL w' v l := by
  rcases h with h | ⟨g, cp, h1, h2⟩
  · exact .inl h
  · exact .inr ⟨g, cp, h1, fun i hi => cell_frw (h2 i hi) hg (by simp)⟩
theorem grown_trans {a b c : World} (h1 : a.grownBy b none) (h2 : b.grownBy c none) : a.grownBy c none :=
  ⟨h2.os.trans h1.os, h2.tape.trans h1.tape, h2.output.trans h1.output, Nat.le_trans h1.size h2.size, fun k hk _ => (h2.block k (Nat.lt_of_lt_of_le hk h1.size) (by simp)).trans (h1.block k hk (by simp))⟩
theorem grown_refl (a : World) : a.grownBy a none := ⟨rfl, rfl, rfl, Nat.le_refl _, fun _ _ _ => rfl⟩
def wsK (l : List Int) (r : Nat) : Nat → Int
  | 0 => 0
  | k + 1 => wsK l r k + l.getD k 0 * (bt r k : Nat)
def W4 (l : List Int) : Prop := l.length ≤ 4 ∧ ∀ i, -4 ≤ l.getD i 0 ∧ l.getD i 0 ≤ 4
theorem mul_bt {x : Int} {r k : Nat} : x * (bt r k : Nat) = if bt r k = 1 then x else 0 := by
  have := bt_le r k
  rcases (show bt r k = 0 ∨ bt r k = 1 by omega) with h | h <;> simp [h]
theorem wsK_le {l : List Int} (h : W4 l) (r : Nat) : ∀ k : Nat, -(4 * (k : Int)) ≤ wsK l r k ∧ wsK l r k ≤ 4 * (k : Int)
  | 0 => by simp [wsK]
  | k + 1 => by
    have h1 := wsK_le h r k
    have h2 := h.2 k
    rw [wsK, mul_bt]
    split <;> omega
theorem bit_any (r i : Nat) (hr : r < 16) (hi : i ≤ 4) (w : World) : Calls Try.prog 48 #[.int .i64 r, .int .i64 i] w fun e w' => e = .returned (.int .i64 (bt r i : Nat)) ∧ w.grownBy w' none :=
  Ev.grownW (vs := [.int .i64 r, .int .i64 i]) (ev48 r i (by omega) (by omega)) (by simp only [VR, VRL]; exact ⟨_, _, rfl, rfl, _, _, rfl, rfl, rfl⟩) (by simp [V.idsL, V.ids]) w
theorem weigh_any (v : Value) (l : List Int) (r : Nat) (hl : W4 l) (hr : r < 16) (w : World) (hv : RdL w v l) : Calls Try.prog 43 #[v, .int .i64 r] w fun e w' => e = .returned (.int .i64 (wsK l r l.length)) ∧ w.grownBy w' none := by
  have hl4 := hl.1
  rcases hv with ⟨rfl, rfl⟩ | ⟨g, cp, rfl, hc⟩
  · go_enter Try.func43, Try.ntmps43
    go_wp2_with fail
    go_loopw [5, 10] (fun s i wr => s = .int .i64 0 ∧ i = .int .i64 0 ∧ wr = w) (fun _ i _ => 0)
    case atStart => exact ⟨rfl, rfl, rfl⟩
    case round =>
      obtain ⟨rfl, rfl, rfl⟩ := hrel
      go_wp2_with fail
      go_ret
      exact ⟨rfl, grown_refl _⟩
  · generalize hln : l.length = n at *
    go_enter Try.func43, Try.ntmps43
    go_wp2_with fail
    go_loopw [5, 10] (fun s i wr => ∃ k : Nat, i = .int .i64 k ∧ k ≤ n ∧ s = .int .i64 (wsK l r k) ∧ w.grownBy wr none) (fun _ i _ => n - (intOf i).toNat)
    case atStart => exact ⟨0, rfl, Nat.zero_le _, rfl, grown_refl _⟩
    case round =>
      obtain ⟨k, rfl, hk, rfl, hgr⟩ := hrel
      have hb1 := wsK_le hl r k
      by_cases hkn : k < n
      · have hck := cell_frw (hc k hkn) hgr (by simp)
        have hb2 := hl.2 k
        have hb3 := bt_le r k
        have hw : wsK l r (k + 1) = wsK l r k + l.getD k 0 * (bt r k : Nat) := rfl
        have hq : -4 ≤ l.getD k 0 * (bt r k : Nat) ∧ l.getD k 0 * (bt r k : Nat) ≤ 4 := by rw [mul_bt]; split <;> omega
        generalize l.getD k 0 = x at *
        go_wp2_with (first
          | (go_at_call 48; refine (bit_any r k hr (by omega) _).mono ?_; rintro e w1 ⟨rfl, hg1⟩)
          | fail)
        go_roundw
        case rel => exact ⟨k + 1, by go_num, by omega, by rw [hw], grown_trans hgr hg1⟩
        case measure => simp [intOf]; omega
      · obtain rfl : k = n := by omega
        go_wp2_with fail
        go_ret
        exact ⟨rfl, hgr⟩
def hiK (l : List Int) (b : Nat) : Nat → Int
  | 0 => 20
  | k + 1 => if bt b k = 1 then min (hiK l b k) (wsK l k l.length) else hiK l b k
def loK (l : List Int) (b : Nat) : Nat → Int
  | 0 => -20
  | k + 1 => if bt b k = 1 then loK l b k else max (loK l b k) (wsK l k l.length + 1)
theorem hi_le {l : List Int} (h : W4 l) (b : Nat) : ∀ k : Nat, -16 ≤ hiK l b k ∧ hiK l b k ≤ 20
  | 0 => by simp [hiK]
  | k + 1 => by
    have h1 := hi_le h b k
    have h2 := wsK_le h k l.length
    have h3 := h.1
    rw [hiK]
    split <;> omega
theorem lo_le {l : List Int} (h : W4 l) (b : Nat) : ∀ k : Nat, -20 ≤ loK l b k ∧ loK l b k ≤ 17
  | 0 => by simp [loK]
  | k + 1 => by
    have h1 := lo_le h b k
    have h2 := wsK_le h k l.length
    have h3 := h.1
    rw [loK]
    split <;> omega
theorem rows_anyw (n : Nat) (b : Int) (hn : n ≤ 4) (W : World) : Calls Try.prog 42 #[.agg #[.int .i64 n, .int .i64 b]] W fun e w' => e = .returned (.int .i64 (R2 n : Nat)) ∧ W.grownBy w' none :=
  Ev.grownW (vs := [.agg #[.int .i64 n, .int .i64 b]]) (ev42 n b hn) (by simp only [VR, VRL]; exact ⟨_, _, rfl, ⟨#[.int .i64 n, .int .i64 b], rfl, _, _, rfl, rfl, _, _, rfl, rfl, rfl⟩, rfl⟩) (by simp [V.idsL, V.ids]) W
theorem at_anyw (n : Int) (b r : Nat) (hb : b < 9223372036854775808) (hr : r ≤ 64) (W : World) : Calls Try.prog 44 #[.agg #[.int .i64 n, .int .i64 b], .int .i64 r] W fun e w' => e = .returned (.int .i64 (bt b r : Nat)) ∧ W.grownBy w' none :=
  Ev.grownW (vs := [.agg #[.int .i64 n, .int .i64 b], .int .i64 r]) (ev44 n b r hb hr) (by simp only [VR, VRL]; exact ⟨_, _, rfl, ⟨#[.int .i64 n, .int .i64 b], rfl, _, _, rfl, rfl, _, _, rfl, rfl, rfl⟩, _, _, rfl, rfl, rfl⟩) (by simp [V.idsL, V.ids]) W
theorem level_any (n b : Nat) (v : Value) (l : List Int) (hl : W4 l) (hn : n ≤ 4) (hb : b < 65536) (w : World) (hv : RdL w v l) : Calls Try.prog 33 #[.agg #[.int .i64 n, .int .i64 b], v] w fun e w' => e = .returned (.tuple #[.int .i64 (hiK l b (R2 n)), .bool (decide (loK l b (R2 n) ≤ hiK l b (R2 n)))]) ∧ w.grownBy w' none := by
  obtain ⟨h16, h2, h3, h4⟩ := shN hn
  have hX := blk_new w (.cells #[.int .i64 (n : Int), .int .i64 (b : Int)] 30 (0, 0))
  have hX0 := cell_blk (i := 0) (v := .int .i64 (n : Int)) hX rfl
  have hX1 := cell_blk (i := 1) (v := .int .i64 (b : Int)) hX rfl
  have hv0 := hv.kept (World.grownBy_alloc w (.cells #[.int .i64 (n : Int), .int .i64 (b : Int)] 30 (0, 0)) none)
  generalize hR : R2 n = R at *
  go_enter Try.func33, Try.ntmps33
  go_wp2_with (first
    | (go_at_call 42; refine (rows_anyw n b hn _).mono ?_; rw [hR]; rintro e w1 ⟨rfl, hg1⟩; have hd0 := cell_frw hX0 hg1 (by simp); have hd1 := cell_frw hX1 hg1 (by simp))
    | fail)
  have hv1 := hv0.kept hg1
  have hg0 := grown_trans (World.grownBy_alloc w (.cells #[.int .i64 (n : Int), .int .i64 (b : Int)] 30 (0, 0)) none) hg1
  go_loopw [6, 7, 12] (fun lo hi i wr => ∃ k : Nat, i = .int .i64 k ∧ k ≤ R ∧ lo = .int .i64 (loK l b k) ∧ hi = .int .i64 (hiK l b k) ∧ w1.grownBy wr none) (fun _ _ i _ => R - (intOf i).toNat)
  case atStart => exact ⟨0, rfl, Nat.zero_le _, rfl, rfl, grown_refl _⟩
  case round =>
    obtain ⟨k, rfl, hk, rfl, rfl, hgr⟩ := hrel
    have hd0' := cell_frw hd0 hgr (by simp)
    have hd1' := cell_frw hd1 hgr (by simp)
    have hvr := hv1.kept hgr
    have hb1 := hi_le hl b k
    have hb2 := lo_le hl b k
    have hb3 := wsK_le hl k l.length
    have hb4 := hl.1
    by_cases hkn : k < R
    · have hb5 := bt_le b k
      by_cases hbt : bt b k = 1
      · have hq : ((bt b k : Nat) : Int) = 1 := by omega
        have hH : hiK l b (k + 1) = min (hiK l b k) (wsK l k l.length) := if_pos hbt
        have hL : loK l b (k + 1) = loK l b k := if_pos hbt
        go_wp2_with (first
          | (go_at_call 43; refine (weigh_any v l k hl (by omega) _ hvr).mono ?_; rintro e w2 ⟨rfl, hg2⟩; have hf0 := cell_frw hd0' hg2 (by simp); have hf1 := cell_frw hd1' hg2 (by simp))
          | (go_at_call 44; refine (at_anyw n b k (by omega) (by omega) _).mono ?_; rintro e w3 ⟨rfl, hg3⟩)
          | fail)
        go_roundw
        case rel => exact ⟨k + 1, by go_num, by omega, by rw [hL], by rw [hH], grown_trans (grown_trans hgr hg2) hg3⟩
        case measure => simp [intOf]; omega
      · have hq : ¬ ((bt b k : Nat) : Int) = 1 := by omega
        have hH : hiK l b (k + 1) = hiK l b k := if_neg hbt
        have hL : loK l b (k + 1) = max (loK l b k) (wsK l k l.length + 1) := if_neg hbt
        go_wp2_with (first
          | (go_at_call 43; refine (weigh_any v l k hl (by omega) _ hvr).mono ?_; rintro e w2 ⟨rfl, hg2⟩; have hf0 := cell_frw hd0' hg2 (by simp); have hf1 := cell_frw hd1' hg2 (by simp))
          | (go_at_call 44; refine (at_anyw n b k (by omega) (by omega) _).mono ?_; rintro e w3 ⟨rfl, hg3⟩)
          | fail)
        go_roundw
        case rel => exact ⟨k + 1, by go_num, by omega, by rw [hL], by rw [hH], grown_trans (grown_trans hgr hg2) hg3⟩
        case measure => simp [intOf]; omega
    · obtain rfl : k = R := by omega
      go_wp2_with fail
      go_ret2
      exact ⟨rfl, grown_trans hg0 hgr⟩
end
section
open Go.RowKit Go.IntWalk
theorem bits_andw {x y : Nat} (h1 : x < 9223372036854775808) (h2 : y < 9223372036854775808) : bits .and .i64 (x : Nat) (y : Nat) = ((x &&& y : Nat) : Int) := by
  have : x &&& y < 9223372036854775808 := Nat.lt_of_le_of_lt Nat.and_le_left h1
  show IntKind.wrap .i64 ((BitVec.ofInt IntKind.i64.bits (x : Int) &&& BitVec.ofInt IntKind.i64.bits (y : Int)).toNat : Int) = _
  rw [andB (lt64 h1) (lt64 h2), wrapN this]
theorem hbit_w (r k : Nat) (hr : r < 16) : bits .and .i64 ((r : Int) / 2 ^ k) 1 = ((bt r k : Nat) : Int) := by
  have e : ((r : Int) / 2 ^ k) = ((r >>> k : Nat) : Int) := by rw [Nat.shiftRight_eq_div_pow]; simp
  rw [e]
  have h := bits_andw (x := r >>> k) (y := 1) (Nat.lt_of_le_of_lt (Nat.shiftRight_le r k) (by omega)) (by omega)
  rw [show bt r k = r >>> k &&& 1 by with_unfolding_all rfl]
  exact h
theorem sum_any (v : Value) (l : List Int) (r : Nat) (hl : W4 l) (hr : r < 16) (w : World) (hv : RdL w v l ∨ ∃ a, v = .slice (some a) 0 0 ∧ l = []) : Calls Try.prog 38 #[v, .int .i64 r] w fun e w' => e = .returned (.int .i64 (wsK l r l.length)) ∧ w' = w := by
  have hl4 := hl.1
  have hnil : ∀ o cp, v = .slice o 0 cp → l = [] → Calls Try.prog 38 #[v, .int .i64 r] w fun e w' => e = .returned (.int .i64 (wsK l r l.length)) ∧ w' = w := by
    rintro o cp rfl rfl
    go_enter Try.func38, Try.ntmps38
    go_wp2_with fail
    go_loopw [5, 6] (fun s i wr => s = .int .i64 0 ∧ i = .int .i64 0 ∧ wr = w) (fun _ i _ => 0)
    case atStart => exact ⟨rfl, rfl, rfl⟩
    case round =>
      obtain ⟨rfl, rfl, rfl⟩ := hrel
      go_wp2_with fail
      go_ret
      exact ⟨rfl, rfl⟩
  rcases hv with (⟨h1, h2⟩ | ⟨g, cp, rfl, hc⟩) | ⟨a, h1, h2⟩
  · exact hnil _ _ h1 h2
  · clear hnil
    generalize hln : l.length = n at *
    go_enter Try.func38, Try.ntmps38
    go_wp2_with fail
    go_loopw [5, 6] (fun s i wr => ∃ k : Nat, i = .int .i64 k ∧ k ≤ n ∧ s = .int .i64 (wsK l r k) ∧ wr = w) (fun _ i _ => n - (intOf i).toNat)
    case atStart => exact ⟨0, rfl, Nat.zero_le _, rfl, rfl⟩
    case round =>
      obtain ⟨k, rfl, hk, rfl, rfl⟩ := hrel
      have hb1 := wsK_le hl r k
      by_cases hkn : k < n
      · have hck := hc k hkn
        have hb2 := hl.2 k
        have hw : wsK l r (k + 1) = wsK l r k + l.getD k 0 * (bt r k : Nat) := rfl
        have hq : -4 ≤ l.getD k 0 * (bt r k : Nat) ∧ l.getD k 0 * (bt r k : Nat) ≤ 4 := by rw [mul_bt]; split <;> omega
        clear hc
        have hbt := hbit_w r k hr
        generalize l.getD k 0 = x at *
        go_wp2_with fail
        go_roundw
        case rel => exact ⟨k + 1, by go_num, by omega, by rw [hw], by first | rfl | trivial⟩
        case measure => simp [intOf]; (try omega)
      · obtain rfl : k = n := by omega
        go_wp2_with fail
        go_ret
        exact ⟨rfl, rfl⟩
  · exact hnil _ _ h1 h2
def moK (l : List Int) (b : Nat) : Nat → Int
  | 0 => -100
  | k + 1 => if bt b k = 1 then moK l b k else max (moK l b k) (wsK l k l.length)
theorem mo_le {l : List Int} (h : W4 l) (b : Nat) : ∀ k : Nat, -100 ≤ moK l b k ∧ moK l b k ≤ 16
  | 0 => by simp [moK]
  | k + 1 => by
    have h1 := mo_le h b k
    have h2 := wsK_le h k l.length
    have h3 := h.1
    rw [moK]
    split <;> omega
/-- Both sides tell weighings alike. -/
theorem mo_lo {l : List Int} (h : W4 l) (b : Nat) : ∀ k : Nat, loK l b k = max (-20) (moK l b k + 1)
  | 0 => by show (-20 : Int) = max (-20) (-100 + 1); decide
  | k + 1 => by
    have h1 := mo_lo h b k
    rw [loK, moK]
    split
    · exact h1
    · rw [h1]; omega
theorem okW {l : List Int} (h : W4 l) (b k : Nat) : decide (moK l b k < hiK l b k) = decide (loK l b k ≤ hiK l b k) := by
  have h1 := mo_lo h b k
  have h2 := hi_le h b k
  rw [Bool.eq_iff_iff]
  simp only [decide_eq_true_eq]
  omega
theorem srows_anyw (n : Nat) (hn : n ≤ 4) (W : World) : Calls Try.prog 28 #[.int .i64 n] W fun e w' => e = .returned (.int .i64 (R2 n : Nat)) ∧ W.grownBy w' none :=
  Ev.grownW (vs := [.int .i64 n]) (ev28 n hn) (by simp only [VR, VRL]; exact ⟨_, _, rfl, rfl, rfl⟩) (by simp [V.idsL, V.ids]) W
theorem sat_anyw (n : Int) (b r : Nat) (hb : b < 9223372036854775808) (hr : r ≤ 64) (W : World) : Calls Try.prog 39 #[.agg #[.int .i64 n, .int .i64 b], .int .i64 r] W fun e w' => e = .returned (.int .i64 (bt b r : Nat)) ∧ W.grownBy w' none :=
  Ev.grownW (vs := [.agg #[.int .i64 n, .int .i64 b], .int .i64 r]) (ev39 n b r hb hr) (by simp only [VR, VRL]; exact ⟨_, _, rfl, ⟨#[.int .i64 n, .int .i64 b], rfl, _, _, rfl, rfl, _, _, rfl, rfl, rfl⟩, _, _, rfl, rfl, rfl⟩) (by simp [V.idsL, V.ids]) W
def RdE (w : World) (v : Value) (l : List Int) : Prop := RdL w v l ∨ ∃ a, v = .slice (some a) 0 0 ∧ l = []
theorem RdE.kept {w w' : World} {v : Value} {l : List Int} (h : RdE w v l) (hg : w.grownBy w' none) : RdE w' v l := by
  rcases h with h | h
  · exact .inl (h.kept hg)
  · exact .inr h
theorem weighed_any (n b : Nat) (v : Value) (l : List Int) (hl : W4 l) (hn : n ≤ 4) (hb : b < 65536) (w : World) (hv : RdE w v l) : Calls Try.prog 30 #[.agg #[.int .i64 n, .int .i64 b], v] w fun e w' => e = .returned (.tuple #[.int .i64 (hiK l b (R2 n)), .bool (decide (loK l b (R2 n) ≤ hiK l b (R2 n)))]) ∧ w.grownBy w' none := by
  rw [← okW hl]
  obtain ⟨h16, h2, h3, h4⟩ := shN hn
  have hX := blk_new w (.cells #[.int .i64 (n : Int), .int .i64 (b : Int)] 30 (0, 0))
  have hX0 := cell_blk (i := 0) (v := .int .i64 (n : Int)) hX rfl
  have hX1 := cell_blk (i := 1) (v := .int .i64 (b : Int)) hX rfl
  have hv0 := hv.kept (World.grownBy_alloc w (.cells #[.int .i64 (n : Int), .int .i64 (b : Int)] 30 (0, 0)) none)
  have hg0 := World.grownBy_alloc w (.cells #[.int .i64 (n : Int), .int .i64 (b : Int)] 30 (0, 0)) none
  generalize hR : R2 n = R at *
  go_enter Try.func30, Try.ntmps30
  go_wp2_with fail
  generalize w.alloc (.cells #[.int .i64 (n : Int), .int .i64 (b : Int)] 30 (0, 0)) = w1 at *
  go_loopw [6, 7, 8] (fun hi mo i wr => ∃ k : Nat, i = .int .i64 k ∧ k ≤ R ∧ mo = .int .i64 (moK l b k) ∧ hi = .int .i64 (hiK l b k) ∧ w1.grownBy wr none) (fun _ _ i _ => R - (intOf i).toNat)
  case atStart => exact ⟨0, rfl, Nat.zero_le _, rfl, rfl, grown_refl _⟩
  case round =>
    obtain ⟨k, rfl, hk, rfl, rfl, hgr⟩ := hrel
    have hd0' := cell_frw hX0 hgr (by simp)
    have hd1' := cell_frw hX1 hgr (by simp)
    have hvr := hv0.kept hgr
    have hb1 := hi_le hl b k
    have hb2 := mo_le hl b k
    have hb3 := wsK_le hl k l.length
    have hb4 := hl.1
    by_cases hkn : k < R
    · have hb5 := bt_le b k
      by_cases hbt : bt b k = 1
      · have hq : ((bt b k : Nat) : Int) = 1 := by omega
        have hH : hiK l b (k + 1) = min (hiK l b k) (wsK l k l.length) := if_pos hbt
        have hL : moK l b (k + 1) = moK l b k := if_pos hbt
        go_wp2_with (first
          | (go_at_call 28; refine (srows_anyw n hn _).mono ?_; rw [hR]; rintro e w2 ⟨rfl, hg2⟩; have hf0 := cell_frw hd0' hg2 (by simp); have hf1 := cell_frw hd1' hg2 (by simp); have hvr2 := hvr.kept hg2)
          | (go_at_call 38; refine (sum_any v l k hl (by omega) _ hvr2).mono ?_; rintro e w4 ⟨rfl, hw4⟩; subst hw4)
          | (go_at_call 39; refine (sat_anyw n b k (by omega) (by omega) _).mono ?_; rintro e w3 ⟨rfl, hg3⟩)
          | fail)
        go_roundw
        case rel => exact ⟨k + 1, by go_num, by omega, by rw [hL], by rw [hH], grown_trans (grown_trans hgr hg2) hg3⟩
        case measure => simp [intOf]; omega
      · have hq : ¬ ((bt b k : Nat) : Int) = 1 := by omega
        have hH : hiK l b (k + 1) = hiK l b k := if_neg hbt
        have hL : moK l b (k + 1) = max (moK l b k) (wsK l k l.length) := if_neg hbt
        go_wp2_with (first
          | (go_at_call 28; refine (srows_anyw n hn _).mono ?_; rw [hR]; rintro e w2 ⟨rfl, hg2⟩; have hf0 := cell_frw hd0' hg2 (by simp); have hf1 := cell_frw hd1' hg2 (by simp); have hvr2 := hvr.kept hg2)
          | (go_at_call 38; refine (sum_any v l k hl (by omega) _ hvr2).mono ?_; rintro e w4 ⟨rfl, hw4⟩; subst hw4)
          | (go_at_call 39; refine (sat_anyw n b k (by omega) (by omega) _).mono ?_; rintro e w3 ⟨rfl, hg3⟩)
          | fail)
        go_roundw
        case rel => exact ⟨k + 1, by go_num, by omega, by rw [hL], by rw [hH], grown_trans (grown_trans hgr hg2) hg3⟩
        case measure => simp [intOf]; omega
    · obtain rfl : k = R := by omega
      go_wp2_with (first
        | (go_at_call 28; refine (srows_anyw n hn _).mono ?_; rw [hR]; rintro e w2 ⟨rfl, hg2⟩)
        | fail)
      go_ret2
      exact ⟨rfl, grown_trans hg0 (grown_trans hgr hg2)⟩
end
section
open Go.RowKit Go.IntWalk
theorem zvL_len (l : List Int) : (zvL l).length = l.length := by simp [zvL]
theorem add0 (g j : Nat) : Addr.add ⟨g, 0, none⟩ j = ⟨g, j, none⟩ := by
  cases j <;> simp [Addr.add]
theorem own_cells {w : World} {b : Nat} {e : TypeId} {g cap n : Nat} {xs : List Value} (h : w.ownsRow b e 1 (.slice (some ⟨g, 0, none⟩) n cap) n xs) : ∀ j u, xs[j]? = some u → w.cell? (Addr.add ⟨g, 0, none⟩ j) = some u := by
  intro j u hj
  rcases h.2 with ⟨h1, _⟩ | ⟨g', cap', cur, hv, hg, hh, h1, h2, h3, h4⟩
  · simp at h1
  · simp only [Value.slice.injEq, Option.some.injEq, Addr.mk.injEq] at hv
    obtain ⟨⟨rfl, _⟩, _, rfl⟩ := hv
    subst h4
    rw [List.getElem?_take] at hj
    split at hj
    · rw [Array.getElem?_toList] at hj
      rw [add0]; exact cell_blk (i := j) hh hj
    · simp at hj
theorem own_rd {w : World} {b : Nat} {v : Value} {l : List Int} (h : w.ownsRow b 2 1 v l.length (zvL l)) : RdL w v l := by
  rcases h.2 with ⟨h1, h2⟩ | ⟨g, cap, cur, rfl, hg, hh, h1, h2, h3, h4⟩
  · exact .inl ⟨h1, List.eq_nil_of_length_eq_zero h2⟩
  · refine .inr ⟨g, cap, rfl, fun i hi => ?_⟩
    have := own_cells h i (.int .i64 (l.getD i 0)) (by simp [zvL, List.getD_eq_getElem?_getD, List.getElem?_eq_getElem hi])
    rwa [add0] at this
theorem own_below {w w' : World} {b e n sz : Nat} {v : Value} {xs : List Value} {B : Nat} (h : w.ownsRow b e sz v n xs) (hb : Below B w w') (hB : ∀ g, v.ownBlock = some g → g < B) : w'.ownsRow b e sz v n xs := by
  obtain ⟨h1, h2⟩ := h
  refine ⟨h1, ?_⟩
  rcases h2 with h2 | ⟨g, cap, cur, rfl, hg, hh, r⟩
  · exact .inl h2
  · exact .inr ⟨g, cap, cur, rfl, hg, by rw [hb.block g (hB g rfl)]; exact hh, r⟩
theorem own_ty {w : World} {b e b' e' n n' sz sz' : Nat} {v v' : Value} {xs xs' : List Value} (h : w.ownsRow b e sz v n xs) (h' : w.ownsRow b' e' sz' v' n' xs') (hne : e ≠ e') : v.ownBlock = none ∨ v.ownBlock ≠ v'.ownBlock := by
  rcases h.2 with ⟨rfl, _⟩ | ⟨g, cap, cur, rfl, hg, hh, _⟩
  · exact .inl rfl
  · refine .inr fun he => ?_
    rcases h'.2 with ⟨rfl, _⟩ | ⟨g', cap', cur', rfl, hg', hh', _⟩
    · simp [Value.ownBlock] at he
    · simp only [Value.ownBlock, Option.some.injEq] at he
      subst he
      rw [hh] at hh'
      simp only [Option.some.injEq, Obj.cells.injEq] at hh'
      exact hne hh'.2.1
theorem clone_any (v : Value) (l : List Int) (b : Nat) (hl : l.length ≤ 4) (w : World) (h : w.ownsRow b 2 1 v l.length (zvL l)) : Calls Try.prog 41 #[v] w fun e w' => ∃ v', e = .returned v' ∧ w'.ownsRow w.heap.size 2 1 v' l.length (zvL l) ∧ w.grownBy w' none := by
  obtain ⟨i0, hi, hz0, hz1, hz2⟩ := info_parts Try.info2
  have hu27 := fun (W : World) (a : Option Addr) (l c : Nat) => Lib.run_eql_slice_nil (P := Try.prog) W 27 2 a l c 0 0 Try.underlying27
  rcases h.2 with ⟨rfl, h2⟩ | ⟨g, cap, cur, rfl, hg, hh, h1, h2, h3, h4⟩
  · go_enter Try.func41, Try.ntmps41
    go_wp2_with fail
    go_ret
    obtain rfl := List.eq_nil_of_length_eq_zero h2
    exact ⟨_, rfl, World.ownsRow_nil _ _ _ _, grown_refl _⟩
  · have ho : (w.alloc (.cells #[] 2 (0, 0))).ownsRow w.heap.size 2 1 (.slice (some ⟨w.heap.size, 0, none⟩) 0 0) 0 [] := ⟨rfl, .inr ⟨w.heap.size, 0, #[], rfl, Nat.le_refl _, blk_new _ _, Nat.le_refl _, Nat.zero_le _, rfl, rfl⟩⟩
    have hc := own_cells (h.alloc (.cells #[] 2 (0, 0)))
    go_enter Try.func41, Try.ntmps41
    go_wp2_with (first
      | (at_builtin; refine wpList_append_own _ rfl (.tmp 5) (.tmp 6) 27 rfl w.heap.size 2 i0 _ 1 8 Try.underlying27 hi hz0 hz1 hz2 rfl (by decide) _ _ _ rfl ho ⟨g, 0, none⟩ l.length cap (zvL l) rfl (by rw [zvL_len]; omega) hc (by intro u hu; simp only [zvL, List.mem_map] at hu; obtain ⟨_, _, rfl⟩ := hu; rfl) (by unfold maxLen; omega) (by omega) (by simp) ?_; intro v' w3 hown' hgrow _)
      | fail)
    go_ret
    refine ⟨_, rfl, by simpa using hown', ?_⟩
    exact below_grown (((Below.refl _ _).alloc (Nat.le_refl _) _).grown hgrow (by simp) (fun j hj => (own_ge ho hj).1))
def RowsL (w : World) (b : Nat) (z : Value → Prop) (vs : List Value) (ls : List (List Int)) : Prop :=
  vs.length = ls.length ∧ ∀ i, i < ls.length → w.ownsRow b 2 1 (vs.getD i undef) (ls.getD i []).length (zvL (ls.getD i [])) ∧ (ls.getD i [] = [] → z (vs.getD i undef))
theorem RowsL.kept {w w' : World} {b : Nat} {z : Value → Prop} {vs : List Value} {ls : List (List Int)} {row : Option Nat} (h : RowsL w b z vs ls) (hg : w.grownBy w' row)
    (hr : ∀ i, i < ls.length → (vs.getD i undef).ownBlock = none ∨ (vs.getD i undef).ownBlock ≠ row) : RowsL w' b z vs ls :=
  ⟨h.1, fun i hi => ⟨(h.2 i hi).1.kept hg (hr i hi), (h.2 i hi).2⟩⟩
theorem RowsL.below {w w' : World} {b B : Nat} {z : Value → Prop} {vs : List Value} {ls : List (List Int)} (h : RowsL w b z vs ls) (hb : Below B w w') (hB : w.heap.size ≤ B) : RowsL w' b z vs ls :=
  ⟨h.1, fun i hi => ⟨own_below (h.2 i hi).1 hb fun g hg => Nat.lt_of_lt_of_le (own_ge (h.2 i hi).1 hg).2 hB, (h.2 i hi).2⟩⟩
theorem RowsL.outer {w w' : World} {b b' n : Nat} {z : Value → Prop} {vs : List Value} {ls : List (List Int)} {V : Value} {xs : List Value} (h : RowsL w b z vs ls) (hV : w.ownsRow b' 27 1 V n xs) (hg : w.grownBy w' V.ownBlock) : RowsL w' b z vs ls :=
  h.kept hg fun i hi => own_ty (h.2 i hi).1 hV (by decide)
theorem RowsL.snoc {w : World} {b : Nat} {z : Value → Prop} {vs : List Value} {ls : List (List Int)} {v : Value} {l : List Int} (h : RowsL w b z vs ls) (hv : w.ownsRow b 2 1 v l.length (zvL l)) (hz : l = [] → z v) : RowsL w b z (vs ++ [v]) (ls ++ [l]) := by
  refine ⟨by simp [h.1], fun i hi => ?_⟩
  have h1 := h.1
  by_cases e : i < ls.length
  · rw [show (vs ++ [v]).getD i undef = vs.getD i undef by rw [List.getD_eq_getElem?_getD, List.getD_eq_getElem?_getD, List.getElem?_append_left (by omega)],
      show (ls ++ [l]).getD i [] = ls.getD i [] by rw [List.getD_eq_getElem?_getD, List.getD_eq_getElem?_getD, List.getElem?_append_left (by omega)]]
    exact h.2 i e
  · have e2 : i = ls.length := by simp at hi; omega
    subst e2
    rw [show (vs ++ [v]).getD ls.length undef = v by rw [← h1, List.getD_eq_getElem?_getD, List.getElem?_append_right (Nat.le_refl _)]; simp,
      show (ls ++ [l]).getD ls.length [] = l by rw [List.getD_eq_getElem?_getD, List.getElem?_append_right (Nat.le_refl _)]; simp]
    exact ⟨hv, hz⟩
theorem RowsL.base {w : World} {b b' : Nat} {z : Value → Prop} {vs : List Value} {ls : List (List Int)} (h : RowsL w b z vs ls) (hb : b' ≤ b) : RowsL w b' z vs ls :=
  ⟨h.1, fun i hi => ⟨ownsRow_mono (h.2 i hi).1 hb, (h.2 i hi).2⟩⟩
theorem RowsL.nil (w : World) (b : Nat) (z : Value → Prop) : RowsL w b z [] [] := ⟨rfl, fun i hi => absurd hi (by simp)⟩
theorem out_cell {w : World} {b : Nat} {e : TypeId} {g cp n : Nat} {xs : List Value} (h : w.ownsRow b e 1 (.slice (some ⟨g, 0, none⟩) n cp) n xs) {i : Nat} (hi : i < n) : w.cell? ⟨g, i, none⟩ = some (xs.getD i undef) := by
  have hl := h.1
  have := own_cells h i (xs.getD i undef) (by rw [List.getD_eq_getElem?_getD, List.getElem?_eq_getElem (by omega)]; rfl)
  rwa [add0] at this
theorem own_some {w : World} {b e sz n : Nat} {v : Value} {xs : List Value} (h : w.ownsRow b e sz v n xs) (hn : 0 < n) : ∃ g cp, v = .slice (some ⟨g, 0, none⟩) n cp := by
  rcases h.2 with ⟨rfl, h2⟩ | ⟨g, cap, cur, rfl, _⟩
  · omega
  · exact ⟨_, _, rfl⟩
/-- All lists of n weights, in order. -/
def nine (l : List Int) : Nat → List (List Int)
  | 0 => []
  | k + 1 => nine l k ++ [l ++ [(k : Int) - 4]]
def L9K (L : List (List Int)) : Nat → List (List Int)
  | 0 => []
  | k + 1 => L9K L k ++ nine (L.getD k []) 9
def L9 : Nat → List (List Int)
  | 0 => [[]]
  | k + 1 => L9K (L9 k) (L9 k).length
theorem nine_len (l : List Int) : ∀ k, (nine l k).length = k
  | 0 => rfl
  | k + 1 => by rw [nine, List.length_append, nine_len l k]; rfl
theorem L9K_len (L : List (List Int)) : ∀ k, (L9K L k).length = 9 * k
  | 0 => rfl
  | k + 1 => by rw [L9K, List.length_append, L9K_len L k, nine_len]; omega
theorem L9_len : ∀ k, (L9 k).length = 9 ^ k
  | 0 => rfl
  | k + 1 => by rw [L9, L9K_len, L9_len k, Nat.pow_succ]; omega
theorem L9_4 {n : Nat} (h : n ≤ 4) : (L9 n).length ≤ 6561 := by
  rw [L9_len]; exact Nat.le_trans (Nat.pow_le_pow_right (by omega) h) (by decide)
theorem nine_mem {l x : List Int} : ∀ {k : Nat}, k ≤ 9 → x ∈ nine l k → ∃ y : Int, -4 ≤ y ∧ y ≤ 4 ∧ x = l ++ [y]
  | 0, _, h => by simp [nine] at h
  | k + 1, hk, h => by
    rw [nine, List.mem_append] at h
    rcases h with h | h
    · exact nine_mem (by omega) h
    · simp at h; exact ⟨_, by omega, by omega, h⟩
theorem L9K_mem {L : List (List Int)} {x : List Int} : ∀ {k : Nat}, k ≤ L.length → x ∈ L9K L k → ∃ l ∈ L, ∃ y : Int, -4 ≤ y ∧ y ≤ 4 ∧ x = l ++ [y]
  | 0, _, h => by simp [L9K] at h
  | k + 1, hk, h => by
    rw [L9K, List.mem_append] at h
    rcases h with h | h
    · exact L9K_mem (by omega) h
    · obtain ⟨y, h1, h2, h3⟩ := nine_mem (Nat.le_refl _) h
      exact ⟨L.getD k [], by rw [List.getD_eq_getElem?_getD, List.getElem?_eq_getElem (by omega)]; exact List.getElem_mem _, y, h1, h2, h3⟩
theorem L9_mem : ∀ {k : Nat} {l : List Int}, l ∈ L9 k → l.length = k ∧ ∀ x ∈ l, -4 ≤ x ∧ x ≤ 4
  | 0, l, h => by simp [L9] at h; subst h; simp
  | k + 1, l, h => by
    rw [L9] at h
    obtain ⟨l', h1, y, h2, h3, rfl⟩ := L9K_mem (Nat.le_refl _) h
    obtain ⟨h4, h5⟩ := L9_mem h1
    refine ⟨by simp [h4], fun x hx => ?_⟩
    rcases List.mem_append.mp hx with h | h
    · exact h5 x h
    · simp at h; subst h; exact ⟨h2, h3⟩
theorem W4_of {l : List Int} {k : Nat} (hk : k ≤ 4) (h : l.length = k ∧ ∀ x ∈ l, -4 ≤ x ∧ x ≤ 4) : W4 l := by
  refine ⟨by omega, fun i => ?_⟩
  rw [List.getD_eq_getElem?_getD]
  cases hi : l[i]? with
  | none => simp
  | some x => exact h.2 x (List.mem_of_getElem? hi)
theorem L9_get {k j : Nat} (hk : k ≤ 4) (h : j < (L9 k).length) : ((L9 k).getD j []).length = k ∧ W4 ((L9 k).getD j []) := by
  have hm : (L9 k).getD j [] ∈ L9 k := by rw [List.getD_eq_getElem?_getD, List.getElem?_eq_getElem h]; exact List.getElem_mem _
  exact ⟨(L9_mem hm).1, W4_of hk (L9_mem hm)⟩
theorem Try.info27 : (Try.prog.info? 27).map (fun i => (i.zero, i.size, i.bytes)) = some (some (.slice none 0 0), 1, 24) := by kernel_rfl
abbrev zNil : Value → Prop := fun v => v = .slice none 0 0
theorem wl_mid {w0 wr w2 w3 : World} {k c1 n : Nat} {o1 : Option Addr} {xs us : List Value} {W : Value} {ls : List (List Int)} {X : Obj} (hg1 : wr.grownBy w2 none) (hv1 : w2.ownsRow wr.heap.size 2 1 (.slice o1 k c1) k xs) (hg2 : (w2.alloc X).grownBy w3 (Value.ownBlock (.slice o1 k c1)))
    (hW : wr.ownsRow w0.heap.size 27 1 W n us) (hU : RowsL wr w0.heap.size zNil us ls) : Below wr.heap.size wr w3 ∧ w3.ownsRow w0.heap.size 27 1 W n us ∧ RowsL w3 w0.heap.size zNil us ls ∧ wr.heap.size ≤ w3.heap.size := by
  have hb : Below wr.heap.size wr w3 := (((Below.refl _ _).grown hg1 (Nat.le_refl _) (fun k hk => by cases hk)).alloc hg1.size _).grown hg2 (by have := hg1.size; simp; omega) (fun j hj => (own_ge hv1 hj).1)
  exact ⟨hb, own_below hW hb fun g hg => (own_ge hW hg).2, hU.below hb (Nat.le_refl _), hb.size⟩
theorem wl_end {w0 wr w3 w4 : World} {k c2 n : Nat} {o2 : Option Addr} {us : List Value} {W V4 : Value} {ls : List (List Int)} {l : List Int} {x : Int} {X : Obj} (hbx : Below w0.heap.size w0 wr) (hlk : l.length = k)
    (hst : Below wr.heap.size wr w3 ∧ w3.ownsRow w0.heap.size 27 1 W n us ∧ RowsL w3 w0.heap.size zNil us ls ∧ wr.heap.size ≤ w3.heap.size) (hv2 : w3.ownsRow wr.heap.size 2 1 (.slice o2 (k + 1) c2) (k + 1) (zvL l ++ [.int .i64 x]))
    (hv4 : w4.ownsRow w0.heap.size 27 1 V4 (n + 1) (us ++ [.slice o2 (k + 1) c2])) (hg4 : (w3.alloc X).grownBy w4 W.ownBlock) (hn : n = ls.length) :
    w4.ownsRow w0.heap.size 27 1 V4 (ls ++ [l ++ [x]]).length (us ++ [.slice o2 (k + 1) c2]) ∧ RowsL w4 w0.heap.size zNil (us ++ [.slice o2 (k + 1) c2]) (ls ++ [l ++ [x]]) ∧ Below w0.heap.size w0 w4 := by
  have hs1 := hbx.size
  have hs2 := hst.2.2.2
  have hU1 := (hst.2.2.1.kept (World.grownBy_alloc w3 X none) (fun i hi => by cases (us.getD i undef).ownBlock <;> simp)).outer (hst.2.1.alloc X) hg4
  have hv3 := (hv2.alloc X).kept hg4 (own_ty (hv2.alloc X) (hst.2.1.alloc X) (by decide))
  refine ⟨by rw [List.length_append, ← hn]; exact hv4, hU1.snoc ?_ (fun h => absurd h (by simp)), ?_⟩
  · refine ownsRow_mono ?_ (show w0.heap.size ≤ wr.heap.size from hs1)
    rw [show (l ++ [x]).length = k + 1 by simp [hlk], show zvL (l ++ [x]) = zvL l ++ [.int .i64 x] by simp [zvL]]
    exact hv3
  · exact ((hbx.trans (hst.1.mono hs1)).alloc (by omega) _).grown hg4 (by simp; omega) (fun j hj => (own_ge hst.2.1 hj).1)
theorem lists_any (n : Nat) (hn : n ≤ 4) (w : World) : Calls Try.prog 32 #[.int .i64 n] w fun e w' => ∃ V vs, e = .returned V ∧ w'.ownsRow w.heap.size 27 1 V (L9 n).length vs ∧ RowsL w' w.heap.size zNil vs (L9 n) ∧ w.grownBy w' none := by
  obtain ⟨i0, hi, hz0, hz1, hz2⟩ := info_parts Try.info2
  obtain ⟨j0, hj, hy0, hy1, hy2⟩ := info_parts Try.info27
  have hstart : RowsL (w.alloc (.cells #[.slice none 0 0] 27 (0, 0))) w.heap.size zNil [.slice none 0 0] (L9 0) := (RowsL.nil _ _ _).snoc (World.ownsRow_nil _ _ _ _) (fun _ => rfl)
  have hout : (w.alloc (.cells #[.slice none 0 0] 27 (0, 0))).ownsRow w.heap.size 27 1 (.slice (some ⟨w.heap.size, 0, none⟩) 1 1) 1 [.slice none 0 0] := ⟨rfl, .inr ⟨w.heap.size, 1, #[.slice none 0 0], rfl, Nat.le_refl _, blk_new _ _, Nat.le_refl _, by decide, rfl, rfl⟩⟩
  go_enter Try.func32, Try.ntmps32
  go_wp2_with fail
  go_loopw [3, 10] (fun V i wr => ∃ (k : Nat) (vs : List Value), i = .int .i64 k ∧ k ≤ n ∧ wr.ownsRow w.heap.size 27 1 V (L9 k).length vs ∧ RowsL wr w.heap.size zNil vs (L9 k) ∧ w.grownBy wr none) (fun _ i _ => n - (intOf i).toNat)
  case atStart => exact ⟨0, _, rfl, Nat.zero_le _, hout, hstart, World.grownBy_alloc _ _ _⟩
  case round =>
    obtain ⟨k, vs, rfl, hk, hV, hR, hgr⟩ := hrel
    by_cases hkn : k < n
    · have hL4 := L9_4 (n := k) (by omega)
      have hLp : 0 < (L9 k).length := by rw [L9_len]; exact Nat.pow_pos (by omega)
      obtain ⟨g, cp, rfl⟩ := own_some hV hLp
      generalize hN : (L9 k).length = N at *
      go_wp2_with fail
      obtain ⟨w0, rfl⟩ : ∃ w0 : World, w0 = wr := ⟨_, rfl⟩
      go_loopw [4, 14] (fun W i wq => ∃ (j : Nat) (us : List Value), i = .int .i64 j ∧ j ≤ N ∧ wq.ownsRow w0.heap.size 27 1 W (L9K (L9 k) j).length us ∧ RowsL wq w0.heap.size zNil us (L9K (L9 k) j) ∧ Below w0.heap.size w0 wq) (fun _ i _ => N - (intOf i).toNat)
      case atStart => exact ⟨0, [], rfl, Nat.zero_le _, World.ownsRow_nil _ _ _ _, RowsL.nil _ _ _, Below.refl _ _⟩
      case round =>
        obtain ⟨j, us, rfl, hj', hW, hU, hbq⟩ := hrel
        by_cases hjN : j < N
        · have hVq := own_below hV hbq fun g hg => (own_ge hV hg).2
          have hRq := hR.below hbq (Nat.le_refl _)
          have hcj := out_cell hVq hjN
          have hl4 := L9_get (k := k) (j := j) (by omega) (by omega)
          have hvj := hR.2 j (by omega)
          generalize vs.getD j undef = v at *
          obtain ⟨l, hl⟩ : ∃ l, l = (L9 k).getD j [] := ⟨_, rfl⟩
          rw [← hl] at hl4 hvj
          have hstep : L9K (L9 k) (j + 1) = L9K (L9 k) j ++ nine l 9 := by rw [hl]; rfl
          clear hl
          have hlk : l.length = k := hl4.1
          obtain ⟨ov, cv, rfl⟩ := own_shape hvj.1
          have hvq := hvj.1
          rw [hlk] at hvq
          clear hvj hl4
          have hlen0 := L9K_len (L9 k) j
          go_wp2_with fail
          go_loopw [4, 7] (fun W x wx => ∃ (m : Nat) (us : List Value), x = .int .i64 ((m : Int) - 4) ∧ m ≤ 9 ∧ wx.ownsRow w0.heap.size 27 1 W (L9K (L9 k) j ++ nine l m).length us ∧ RowsL wx w0.heap.size zNil us (L9K (L9 k) j ++ nine l m) ∧ Below w0.heap.size w0 wx) (fun _ x _ => 9 - (intOf x + 4).toNat)
          case atStart => exact ⟨0, us, rfl, Nat.zero_le _, by simpa [nine] using hW, by simpa [nine] using hU, hbq⟩
          case round =>
            obtain ⟨m, us, rfl, hm, hW, hU, hbx⟩ := hrel
            have hWl : (L9K (L9 k) j ++ nine l m).length = 9 * j + m := by rw [List.length_append, L9K_len, nine_len]
            rw [hWl] at hW
            by_cases hm9 : m < 9
            · have hvx := own_below hvq hbx fun g hg => (own_ge hvq hg).2
              go_wp2_with (first
                | (go_at_call 41; refine (clone_any _ l _ (by omega) _ (by rw [hlk]; exact hvx)).mono ?_; rintro e w2 ⟨v1, rfl, hv1, hg1⟩; rw [hlk] at hv1; obtain ⟨o1, c1, rfl⟩ := own_shape hv1)
                | (at_builtin; (refine wpList_append_own _ rfl (.tmp 24) (.tmp 26) 27 rfl wr.heap.size 2 i0 _ 1 8 Try.underlying27 hi hz0 hz1 hz2 rfl (by decide) _ _ _ rfl (hv1.alloc _) ⟨w2.heap.size, 0, none⟩ 1 1 [.int .i64 ((m : Int) - 4)] rfl rfl (one_cell (blk_new _ _)) (by intro u hu; simp at hu; subst hu; rfl) (by unfold maxLen; omega) (by omega) (by have := hg1.size; simp; omega) ?_; intro v2 w3 hv2 hg2 _; obtain ⟨o2, c2, rfl⟩ := own_shape hv2; have hst := wl_mid hg1 hv1 hg2 hW hU))
                | (at_builtin; (refine wpList_append_own _ rfl (.tmp 22) (.tmp 28) 49 rfl w0.heap.size 27 j0 _ 1 24 Try.underlying49 hj hy0 hy1 hy2 rfl (by decide) _ _ _ rfl (hst.2.1.alloc _) ⟨w3.heap.size, 0, none⟩ 1 1 [.slice o2 (k + 1) c2] rfl rfl (one_cell (blk_new _ _)) (by intro u hu; simp at hu; subst hu; rfl) (by unfold maxLen; omega) (by omega) (by have := hst.2.2.2; have := hbx.size; simp; omega) ?_; intro v4 w4 hv4 hg4 _))
                | fail)
              have hfin := wl_end hbx hlk hst hv2 hv4 hg4 hWl.symm
              rw [List.append_assoc] at hfin
              go_roundw
              case rel => exact ⟨m + 1, _, by go_num, by omega, hfin.1, hfin.2.1, hfin.2.2⟩
              case measure => simp [intOf]; omega
            · obtain rfl : m = 9 := by omega
              go_wp2_with fail
              go_roundw
              case rel => exact ⟨j + 1, us, by go_num, by omega, by rw [hstep, hWl]; exact hW, by rw [hstep]; exact hU, hbx⟩
              case measure => simp [intOf]; omega
        · obtain rfl : j = N := by omega
          go_wp2_with fail
          go_roundw
          case rel => exact ⟨k + 1, us, by go_num, by omega, by rw [show L9 (k + 1) = L9K (L9 k) j by rw [L9, hN]]; exact ownsRow_mono hW hgr.size, by rw [show L9 (k + 1) = L9K (L9 k) j by rw [L9, hN]]; exact hU.base hgr.size, below_grown ((Below.refl _ _).grown hgr (Nat.le_refl _) (fun k hk => by cases hk) |>.trans (hbq.mono hgr.size))⟩
          case measure => simp [intOf]; omega
    · obtain rfl : k = n := by omega
      go_wp2_with fail
      go_ret
      exact ⟨_, _, rfl, hV, hR, hgr⟩
end
section
open Go.RowKit Go.IntWalk
def nrK (l : List Int) : Nat → Int
  | 0 => 0
  | k + 1 => nrK l k + max (l.getD k 0) (-(l.getD k 0))
def nrm (l : List Int) : Int := nrK l l.length
theorem nrK_le {l : List Int} (h : W4 l) : ∀ k : Nat, 0 ≤ nrK l k ∧ nrK l k ≤ 4 * (k : Int)
  | 0 => by simp [nrK]
  | k + 1 => by
    have h1 := nrK_le h k
    have h2 := h.2 k
    rw [nrK]; omega
theorem nrm_nn (l : List Int) : 0 ≤ nrm l := by
  have h : ∀ k : Nat, 0 ≤ nrK l k := by
    intro k
    induction k with
    | zero => simp [nrK]
    | succ k ih => rw [nrK]; omega
  exact h _
def okL (b R : Nat) (l : List Int) : Bool := decide (loK l b R ≤ hiK l b R)
/-- The list that stands best behind k lists. -/
def pick (b R : Nat) (L : List (List Int)) : Nat → Option (List Int)
  | 0 => none
  | k + 1 => match pick b R L k with
    | none => if okL b R (L.getD k []) = true then some (L.getD k []) else none
    | some l0 => if nrm l0 ≤ nrm (L.getD k []) then some l0 else if okL b R (L.getD k []) = true then some (L.getD k []) else some l0
def stW (w : World) (b0 n b R : Nat) (B t s : Value) : Option (List Int) → Prop
  | none => B = .slice none 0 0 ∧ t = .int .i64 0 ∧ s = .int .i64 (-1)
  | some l => w.ownsRow b0 2 1 B l.length (zvL l) ∧ (l = [] → B = .slice none 0 0) ∧ l.length = n ∧ t = .int .i64 (hiK l b R) ∧ s = .int .i64 (nrm l)
def resW (w : World) (b0 n b R : Nat) (B t ok : Value) : Option (List Int) → Prop
  | none => B = .slice none 0 0 ∧ t = .int .i64 0 ∧ ok = .bool false
  | some l => w.ownsRow b0 2 1 B l.length (zvL l) ∧ (l = [] → B = .slice none 0 0) ∧ l.length = n ∧ t = .int .i64 (hiK l b R) ∧ ok = .bool true

theorem weighing_zero (b : Nat) (hb : b < 65536) (w : World) : Calls Try.prog 22 #[.agg #[.int .i64 (0 : Nat), .int .i64 b]] w fun e w' => ∃ B t ok, e = .returned (.tuple #[B, t, ok]) ∧ resW w' w.heap.size 0 b (R2 0) B t ok (pick b (R2 0) (L9 0) (L9 0).length) ∧ w.grownBy w' none := by
  have hX := blk_new w (.cells #[.int .i64 (0 : Nat), .int .i64 (b : Int)] 30 (0, 0))
  have hX0 := cell_blk (i := 0) (v := .int .i64 (0 : Nat)) hX rfl
  have hX1 := cell_blk (i := 1) (v := .int .i64 (b : Int)) hX rfl
  have hg0 := World.grownBy_alloc w (.cells #[.int .i64 (0 : Nat), .int .i64 (b : Int)] 30 (0, 0)) none
  have hL4 := L9_4 (n := 0) (by omega)
  have hLp : 0 < (L9 0).length := by rw [L9_len]; exact Nat.pow_pos (by omega)
  generalize hR2 : R2 0 = R
  generalize hLL : L9 0 = L at *
  generalize hN : L.length = N at *
  go_enter Try.func22, Try.ntmps22
  go_wp2_with (first
    | (go_at_call 32; refine (lists_any 0 (by omega) _).mono ?_; rw [hLL, hN]; rintro e w2 ⟨V, vs, rfl, hV, hRs, hg2⟩; obtain ⟨g, cp, rfl⟩ := own_some hV hLp)
    | fail)
  have d0 := cell_frw hX0 hg2 (by simp)
  have d1 := cell_frw hX1 hg2 (by simp)
  have hs0 := hg0.size
  have hg02 := grown_trans hg0 hg2
  generalize (w.alloc (.cells #[.int .i64 (0 : Nat), .int .i64 (b : Int)] 30 (0, 0))).heap.size = b0 at *
  go_loopw [5, 6, 7, 19] (fun B t s i wr => ∃ k : Nat, i = .int .i64 k ∧ k ≤ N ∧ stW w2 b0 0 b R B t s (pick b R L k) ∧ w2.grownBy wr none) (fun _ _ _ i _ => N - (intOf i).toNat)
  case atStart => exact ⟨0, rfl, Nat.zero_le _, ⟨rfl, rfl, rfl⟩, grown_refl _⟩
  case round =>
    obtain ⟨k, rfl, hk, hst, hgr⟩ := hrel
    by_cases hkN : k < N
    · have hck := cell_frw (out_cell hV hkN) hgr (by simp)
      have hrow := hRs.2 k (by omega)
      have hl4 := L9_get (k := 0) (j := k) (by omega) (by rw [hLL]; omega)
      rw [hLL] at hl4
      generalize vs.getD k undef = v at *
      obtain ⟨l, hl⟩ : ∃ l, L.getD k [] = l := ⟨_, rfl⟩
      rw [hl] at hrow hl4
      obtain ⟨hlk, hW4⟩ := hl4
      obtain ⟨hown, hownz⟩ := hrow
      rw [hlk] at hown
      have hrd := (own_rd (by rw [hlk]; exact hown)).kept hgr
      have hpn : pick b R L k = none → pick b R L (k + 1) = if okL b R l = true then some l else none := fun ho => by rw [pick, ho, hl]
      have hps : ∀ l0, pick b R L k = some l0 → pick b R L (k + 1) = if nrm l0 ≤ nrm l then some l0 else if okL b R l = true then some l else some l0 := fun l0 ho => by rw [pick, ho, hl]
      have hnrl : nrm l = nrK l 0 := by rw [nrm, hlk]
      clear hl
      obtain ⟨rfl, rfl⟩ : v = .slice none 0 0 ∧ l = [] := by
        have hz := List.eq_nil_of_length_eq_zero hlk
        exact ⟨hownz hz, hz⟩
      go_wp2_with fail
      obtain ⟨w3, rfl⟩ : ∃ w3 : World, w3 = wr := ⟨_, rfl⟩
      go_loopw [10, 25] (fun s i wq => ∃ i' : Nat, i = .int .i64 i' ∧ i' ≤ 0 ∧ s = .int .i64 (nrK ([] : List Int) i') ∧ w3.grownBy wq none) (fun _ i _ => 0 - (intOf i).toNat)
      case atStart => exact ⟨0, rfl, Nat.zero_le _, rfl, grown_refl _⟩
      case round =>
        obtain ⟨i, rfl, hin', rfl, hgi⟩ := hrel
        by_cases hin : i < 0
        · omega
        · obtain rfl : i = 0 := by omega
          have hnr := nrK_le hW4 0
          have he0 := cell_frw d0 (grown_trans hgr hgi) (by simp)
          have he1 := cell_frw d1 (grown_trans hgr hgi) (by simp)
          have hrdw := hrd.kept hgi
          cases ho : pick b R L k with
          | none =>
            have hpk := hpn ho
            rw [ho] at hst
            obtain ⟨rfl, rfl, rfl⟩ := hst
            cases hok : okL b R ([] : List Int)
            all_goals
              rw [hok] at hpk
              go_wp2_with (first
                | (go_at_call 33; refine (level_any 0 b _ ([] : List Int) hW4 (by omega) hb _ hrdw).mono ?_; rw [hR2, show decide (loK ([] : List Int) b R ≤ hiK ([] : List Int) b R) = _ from hok]; rintro e w5 ⟨rfl, hg5⟩)
                | fail)
              go_roundw
              case rel => exact ⟨k + 1, by go_num, by omega, by rw [hpk]; first | exact ⟨rfl, rfl, rfl⟩ | exact ⟨by rw [hlk]; exact hown, (by first | exact hownz | exact fun _ => rfl), hlk, rfl, by rw [hnrl]⟩, grown_trans (grown_trans hgr hgi) hg5⟩
              case measure => simp [intOf]; omega
          | some l0 =>
            have hpk := hps l0 ho
            rw [ho] at hst
            obtain ⟨hB, hBz, hlw, rfl, rfl⟩ := hst
            have hn0 := nrm_nn l0
            rw [hnrl] at hpk
            by_cases hcmp : nrm l0 ≤ nrK ([] : List Int) 0
            · rw [if_pos hcmp] at hpk
              go_wp2_with fail
              go_roundw
              case rel => exact ⟨k + 1, by go_num, by omega, by rw [hpk]; exact ⟨hB, hBz, hlw, rfl, rfl⟩, grown_trans hgr hgi⟩
              case measure => simp [intOf]; omega
            · rw [if_neg hcmp] at hpk
              cases hok : okL b R ([] : List Int)
              all_goals
                rw [hok] at hpk
                go_wp2_with (first
                  | (go_at_call 33; refine (level_any 0 b _ ([] : List Int) hW4 (by omega) hb _ hrdw).mono ?_; rw [hR2, show decide (loK ([] : List Int) b R ≤ hiK ([] : List Int) b R) = _ from hok]; rintro e w5 ⟨rfl, hg5⟩)
                  | fail)
                go_roundw
                case rel => exact ⟨k + 1, by go_num, by omega, by rw [hpk]; first | exact ⟨hB, hBz, hlw, rfl, rfl⟩ | exact ⟨by rw [hlk]; exact hown, (by first | exact hownz | exact fun _ => rfl), hlk, rfl, by rw [hnrl]⟩, grown_trans (grown_trans hgr hgi) hg5⟩
                case measure => simp [intOf]; omega
    · obtain rfl : k = N := by omega
      cases ho : pick b R L k with
      | none =>
        rw [ho] at hst
        obtain ⟨rfl, rfl, rfl⟩ := hst
        go_wp2_with fail
        go_ret3
        exact ⟨_, _, _, rfl, by rw [ho]; exact ⟨rfl, rfl, rfl⟩, grown_trans hg02 hgr⟩
      | some l0 =>
        rw [ho] at hst
        obtain ⟨hB, hBz, hlw, rfl, rfl⟩ := hst
        have hn0 := nrm_nn l0
        obtain ⟨oB, cB, rfl⟩ := own_shape hB
        go_wp2_with fail
        go_ret3
        refine ⟨_, _, _, rfl, by rw [ho]; exact ⟨ownsRow_mono (hB.kept hgr (by cases Value.ownBlock (.slice oB l0.length cB) <;> simp)) (by omega), hBz, hlw, rfl, rfl⟩, grown_trans hg02 hgr⟩

theorem weighing_pos (n b : Nat) (hn : n ≤ 4) (hn1 : 1 ≤ n) (hb : b < 65536) (w : World) : Calls Try.prog 22 #[.agg #[.int .i64 (n : Nat), .int .i64 b]] w fun e w' => ∃ B t ok, e = .returned (.tuple #[B, t, ok]) ∧ resW w' w.heap.size n b (R2 n) B t ok (pick b (R2 n) (L9 n) (L9 n).length) ∧ w.grownBy w' none := by
  have hX := blk_new w (.cells #[.int .i64 (n : Nat), .int .i64 (b : Int)] 30 (0, 0))
  have hX0 := cell_blk (i := 0) (v := .int .i64 (n : Nat)) hX rfl
  have hX1 := cell_blk (i := 1) (v := .int .i64 (b : Int)) hX rfl
  have hg0 := World.grownBy_alloc w (.cells #[.int .i64 (n : Nat), .int .i64 (b : Int)] 30 (0, 0)) none
  have hL4 := L9_4 (n := n) (by omega)
  have hLp : 0 < (L9 n).length := by rw [L9_len]; exact Nat.pow_pos (by omega)
  generalize hR2 : R2 n = R
  generalize hLL : L9 n = L at *
  generalize hN : L.length = N at *
  go_enter Try.func22, Try.ntmps22
  go_wp2_with (first
    | (go_at_call 32; refine (lists_any n (by omega) _).mono ?_; rw [hLL, hN]; rintro e w2 ⟨V, vs, rfl, hV, hRs, hg2⟩; obtain ⟨g, cp, rfl⟩ := own_some hV hLp)
    | fail)
  have d0 := cell_frw hX0 hg2 (by simp)
  have d1 := cell_frw hX1 hg2 (by simp)
  have hs0 := hg0.size
  have hg02 := grown_trans hg0 hg2
  generalize (w.alloc (.cells #[.int .i64 (n : Nat), .int .i64 (b : Int)] 30 (0, 0))).heap.size = b0 at *
  go_loopw [5, 6, 7, 19] (fun B t s i wr => ∃ k : Nat, i = .int .i64 k ∧ k ≤ N ∧ stW w2 b0 n b R B t s (pick b R L k) ∧ w2.grownBy wr none) (fun _ _ _ i _ => N - (intOf i).toNat)
  case atStart => exact ⟨0, rfl, Nat.zero_le _, ⟨rfl, rfl, rfl⟩, grown_refl _⟩
  case round =>
    obtain ⟨k, rfl, hk, hst, hgr⟩ := hrel
    by_cases hkN : k < N
    · have hck := cell_frw (out_cell hV hkN) hgr (by simp)
      have hrow := hRs.2 k (by omega)
      have hl4 := L9_get (k := n) (j := k) (by omega) (by rw [hLL]; omega)
      rw [hLL] at hl4
      generalize vs.getD k undef = v at *
      obtain ⟨l, hl⟩ : ∃ l, L.getD k [] = l := ⟨_, rfl⟩
      rw [hl] at hrow hl4
      obtain ⟨hlk, hW4⟩ := hl4
      obtain ⟨hown, hownz⟩ := hrow
      rw [hlk] at hown
      have hrd := (own_rd (by rw [hlk]; exact hown)).kept hgr
      have hpn : pick b R L k = none → pick b R L (k + 1) = if okL b R l = true then some l else none := fun ho => by rw [pick, ho, hl]
      have hps : ∀ l0, pick b R L k = some l0 → pick b R L (k + 1) = if nrm l0 ≤ nrm l then some l0 else if okL b R l = true then some l else some l0 := fun l0 ho => by rw [pick, ho, hl]
      have hnrl : nrm l = nrK l n := by rw [nrm, hlk]
      clear hl
      obtain ⟨g2, cp2, rfl, hcell⟩ : ∃ g2 cp2, v = .slice (some ⟨g2, 0, none⟩) n cp2 ∧ ∀ i, i < n → wr.cell? ⟨g2, i, none⟩ = some (.int .i64 (l.getD i 0)) := by
        rcases hrd with ⟨_, hl0⟩ | ⟨g2, cp2, h1, h2⟩
        · rw [hl0] at hlk; simp at hlk; omega
        · exact ⟨g2, cp2, by rw [h1, hlk], by rw [← hlk]; exact h2⟩
      go_wp2_with fail
      obtain ⟨w3, rfl⟩ : ∃ w3 : World, w3 = wr := ⟨_, rfl⟩
      go_loopw [10, 25] (fun s i wq => ∃ i' : Nat, i = .int .i64 i' ∧ i' ≤ n ∧ s = .int .i64 (nrK l i') ∧ w3.grownBy wq none) (fun _ i _ => n - (intOf i).toNat)
      case atStart => exact ⟨0, rfl, Nat.zero_le _, rfl, grown_refl _⟩
      case round =>
        obtain ⟨i, rfl, hin', rfl, hgi⟩ := hrel
        by_cases hin : i < n
        · have hck := cell_frw (hcell i hin) hgi (by simp)
          have hb2 := hW4.2 i
          have hw : nrK l (i + 1) = nrK l i + max (l.getD i 0) (-(l.getD i 0)) := rfl
          have hn1 := nrK_le hW4 i
          clear hcell
          generalize l.getD i 0 = x at *
          go_wp2_with fail
          go_roundw
          case rel => exact ⟨i + 1, by go_num, by omega, by rw [hw], hgi⟩
          case measure => simp [intOf]; omega
        · obtain rfl : i = n := by omega
          have hnr := nrK_le hW4 i
          have he0 := cell_frw d0 (grown_trans hgr hgi) (by simp)
          have he1 := cell_frw d1 (grown_trans hgr hgi) (by simp)
          have hrdw := hrd.kept hgi
          cases ho : pick b R L k with
          | none =>
            have hpk := hpn ho
            rw [ho] at hst
            obtain ⟨rfl, rfl, rfl⟩ := hst
            cases hok : okL b R l
            all_goals
              rw [hok] at hpk
              go_wp2_with (first
                | (go_at_call 33; refine (level_any i b _ l hW4 (by omega) hb _ hrdw).mono ?_; rw [hR2, show decide (loK l b R ≤ hiK l b R) = _ from hok]; rintro e w5 ⟨rfl, hg5⟩)
                | fail)
              go_roundw
              case rel => exact ⟨k + 1, by go_num, by omega, by rw [hpk]; first | exact ⟨rfl, rfl, rfl⟩ | exact ⟨by rw [hlk]; exact hown, (by first | exact hownz | exact fun _ => rfl), hlk, rfl, by rw [hnrl]⟩, grown_trans (grown_trans hgr hgi) hg5⟩
              case measure => simp [intOf]; omega
          | some l0 =>
            have hpk := hps l0 ho
            rw [ho] at hst
            obtain ⟨hB, hBz, hlw, rfl, rfl⟩ := hst
            have hn0 := nrm_nn l0
            rw [hnrl] at hpk
            by_cases hcmp : nrm l0 ≤ nrK l i
            · rw [if_pos hcmp] at hpk
              go_wp2_with fail
              go_roundw
              case rel => exact ⟨k + 1, by go_num, by omega, by rw [hpk]; exact ⟨hB, hBz, hlw, rfl, rfl⟩, grown_trans hgr hgi⟩
              case measure => simp [intOf]; omega
            · rw [if_neg hcmp] at hpk
              cases hok : okL b R l
              all_goals
                rw [hok] at hpk
                go_wp2_with (first
                  | (go_at_call 33; refine (level_any i b _ l hW4 (by omega) hb _ hrdw).mono ?_; rw [hR2, show decide (loK l b R ≤ hiK l b R) = _ from hok]; rintro e w5 ⟨rfl, hg5⟩)
                  | fail)
                go_roundw
                case rel => exact ⟨k + 1, by go_num, by omega, by rw [hpk]; first | exact ⟨hB, hBz, hlw, rfl, rfl⟩ | exact ⟨by rw [hlk]; exact hown, (by first | exact hownz | exact fun _ => rfl), hlk, rfl, by rw [hnrl]⟩, grown_trans (grown_trans hgr hgi) hg5⟩
                case measure => simp [intOf]; omega
    · obtain rfl : k = N := by omega
      cases ho : pick b R L k with
      | none =>
        rw [ho] at hst
        obtain ⟨rfl, rfl, rfl⟩ := hst
        go_wp2_with fail
        go_ret3
        exact ⟨_, _, _, rfl, by rw [ho]; exact ⟨rfl, rfl, rfl⟩, grown_trans hg02 hgr⟩
      | some l0 =>
        rw [ho] at hst
        obtain ⟨hB, hBz, hlw, rfl, rfl⟩ := hst
        have hn0 := nrm_nn l0
        obtain ⟨oB, cB, rfl⟩ := own_shape hB
        go_wp2_with fail
        go_ret3
        refine ⟨_, _, _, rfl, by rw [ho]; exact ⟨ownsRow_mono (hB.kept hgr (by cases Value.ownBlock (.slice oB l0.length cB) <;> simp)) (by omega), hBz, hlw, rfl, rfl⟩, grown_trans hg02 hgr⟩

end
section
open Go.RowKit Go.IntWalk Go.Maps
def consK (x : Int) (L : List (List Int)) : Nat → List (List Int)
  | 0 => []
  | i + 1 => consK x L i ++ [x :: L.getD i []]
def slK (f : Nat → List (List Int)) (size : Nat) : Nat → List (List Int)
  | 0 => []
  | m + 1 => slK f size m ++ (if ((m : Int) - 4).natAbs ≤ size then consK ((m : Int) - 4) (f (size - ((m : Int) - 4).natAbs)) (f (size - ((m : Int) - 4).natAbs)).length else [])
/-- The lists of n weights of a size, in order. -/
def SL : Nat → Nat → List (List Int)
  | 0, size => if size = 0 then [[]] else []
  | n + 1, size => slK (SL n) size 9
theorem consK_len (x : Int) (L : List (List Int)) : ∀ i, (consK x L i).length = i
  | 0 => rfl
  | i + 1 => by rw [consK, List.length_append, consK_len x L i]; rfl
theorem slK_len {f : Nat → List (List Int)} {b : Nat} (h : ∀ s, (f s).length ≤ b) (size : Nat) : ∀ m, (slK f size m).length ≤ m * b
  | 0 => by simp [slK]
  | m + 1 => by
    have h1 := slK_len h size m
    have h2 := h (size - ((m : Int) - 4).natAbs)
    rw [slK, List.length_append, Nat.add_mul]
    split
    · rw [consK_len]; omega
    · simp; omega
theorem SL_len : ∀ (n size : Nat), (SL n size).length ≤ 9 ^ n
  | 0, size => by rw [SL]; split <;> simp
  | n + 1, size => by
    have := slK_len (fun s => SL_len n s) size 9
    rw [SL, Nat.pow_succ]; omega
theorem SL_4 {n : Nat} (hn : n ≤ 4) (size : Nat) : (SL n size).length ≤ 6561 := Nat.le_trans (SL_len n size) (Nat.le_trans (Nat.pow_le_pow_right (by omega) hn) (by decide))
abbrev zSome : Value → Prop := fun v => ∃ a, v = .slice (some a) 0 0
theorem consK_mem {x : Int} {L : List (List Int)} {l : List Int} : ∀ {i : Nat}, i ≤ L.length → l ∈ consK x L i → ∃ l' ∈ L, l = x :: l'
  | 0, _, h => by simp [consK] at h
  | i + 1, hi, h => by
    rw [consK, List.mem_append] at h
    rcases h with h | h
    · exact consK_mem (by omega) h
    · simp only [List.mem_singleton] at h
      exact ⟨L.getD i [], by rw [List.getD_eq_getElem?_getD, List.getElem?_eq_getElem (by omega)]; exact List.getElem_mem _, h⟩
theorem slK_mem {f : Nat → List (List Int)} {size : Nat} {l : List Int} : ∀ {m : Nat}, l ∈ slK f size m → ∃ j, j < m ∧ ((j : Int) - 4).natAbs ≤ size ∧ ∃ l' ∈ f (size - ((j : Int) - 4).natAbs), l = ((j : Int) - 4) :: l'
  | 0, h => by simp [slK] at h
  | m + 1, h => by
    rw [slK, List.mem_append] at h
    rcases h with h | h
    · obtain ⟨j, h1, h2⟩ := slK_mem h
      exact ⟨j, by omega, h2⟩
    · split at h
      · rename_i hs
        obtain ⟨l', h1, h2⟩ := consK_mem (Nat.le_refl _) h
        exact ⟨m, by omega, hs, l', h1, h2⟩
      · simp at h
theorem SL_mem : ∀ {n size : Nat} {l : List Int}, l ∈ SL n size → l.length = n ∧ ∀ x ∈ l, -4 ≤ x ∧ x ≤ 4
  | 0, size, l, h => by
    rw [SL] at h
    split at h
    · simp at h; subst h; simp
    · simp at h
  | n + 1, size, l, h => by
    rw [SL] at h
    obtain ⟨j, h1, _, l', h2, rfl⟩ := slK_mem h
    obtain ⟨h4, h5⟩ := SL_mem h2
    refine ⟨by simp [h4], fun x hx => ?_⟩
    rcases List.mem_cons.mp hx with rfl | h
    · omega
    · exact h5 x h
theorem SL_get {n size j : Nat} (hn : n ≤ 4) (h : j < (SL n size).length) : ((SL n size).getD j []).length = n ∧ W4 ((SL n size).getD j []) := by
  have hm : (SL n size).getD j [] ∈ SL n size := by rw [List.getD_eq_getElem?_getD, List.getElem?_eq_getElem h]; exact List.getElem_mem _
  exact ⟨(SL_mem hm).1, W4_of hn (SL_mem hm)⟩
theorem wl_midG {w0 wr w2 w3 : World} {b0 k c1 n : Nat} {z : Value → Prop} {o1 : Option Addr} {xs us : List Value} {W : Value} {ls : List (List Int)} {X : Obj} (hv1 : (wr.alloc X).ownsRow wr.heap.size 2 1 (.slice o1 k c1) k xs) (hg2 : (wr.alloc X).grownBy w3 (Value.ownBlock (.slice o1 k c1)))
    (hW : wr.ownsRow b0 27 1 W n us) (hU : RowsL wr b0 z us ls) : Below wr.heap.size wr w3 ∧ w3.ownsRow b0 27 1 W n us ∧ RowsL w3 b0 z us ls ∧ wr.heap.size + 1 ≤ w3.heap.size := by
  have hb : Below wr.heap.size wr w3 := ((Below.refl _ _).alloc (Nat.le_refl _) _).grown hg2 (by simp) (fun j hj => (own_ge hv1 hj).1)
  exact ⟨hb, own_below hW hb fun g hg => (own_ge hW hg).2, hU.below hb (Nat.le_refl _), by have := hg2.size; simpa using this⟩
theorem wl_endG {w0 wr w3 w4 : World} {b0 k c2 n : Nat} {z : Value → Prop} {o2 : Option Addr} {us : List Value} {W V4 : Value} {ls : List (List Int)} {nl : List Int} {X : Obj} (hbx : Below b0 w0 wr) (hb0 : b0 ≤ wr.heap.size) (hlk : nl.length = k) (hnn : nl ≠ [])
    (hst : Below wr.heap.size wr w3 ∧ w3.ownsRow b0 27 1 W n us ∧ RowsL w3 b0 z us ls ∧ wr.heap.size + 1 ≤ w3.heap.size) (hv2 : w3.ownsRow wr.heap.size 2 1 (.slice o2 k c2) k (zvL nl))
    (hv4 : w4.ownsRow b0 27 1 V4 (n + 1) (us ++ [.slice o2 k c2])) (hg4 : (w3.alloc X).grownBy w4 W.ownBlock) (hn : n = ls.length) :
    w4.ownsRow b0 27 1 V4 (ls ++ [nl]).length (us ++ [.slice o2 k c2]) ∧ RowsL w4 b0 z (us ++ [.slice o2 k c2]) (ls ++ [nl]) ∧ Below b0 w0 w4 := by
  have hs2 := hst.2.2.2
  have hU1 := (hst.2.2.1.kept (World.grownBy_alloc w3 X none) (fun i hi => by cases (us.getD i undef).ownBlock <;> simp)).outer (hst.2.1.alloc X) hg4
  have hv3 := (hv2.alloc X).kept hg4 (own_ty (hv2.alloc X) (hst.2.1.alloc X) (by decide))
  refine ⟨by rw [List.length_append, ← hn]; exact hv4, hU1.snoc ?_ (fun h => absurd h hnn), ?_⟩
  · rw [hlk]; exact ownsRow_mono hv3 hb0
  · exact ((hbx.trans (hst.1.mono hb0)).alloc (by omega) _).grown hg4 (by simp; omega) (fun j hj => (own_ge hst.2.1 hj).1)
theorem slists_any : ∀ (n size : Nat) (w : World), n ≤ 4 → size ≤ 16 → Calls Try.prog 29 #[.int .i64 n, .int .i64 size] w fun e w' => ∃ V vs, e = .returned V ∧ w'.ownsRow w.heap.size 27 1 V (SL n size).length vs ∧ RowsL w' w.heap.size zSome vs (SL n size) ∧ w.grownBy w' none := by
  intro n
  induction n with
  | zero =>
    intro size w _ hs
    by_cases h0 : size = 0
    · subst h0
      go_enter Try.func29, Try.ntmps29
      go_wp2_with fail
      go_ret
      have hE := blk_new w (.cells #[] 2 (0, 0))
      have hO := blk_new (w.alloc (.cells #[] 2 (0, 0))) (.cells #[.slice (some ⟨w.heap.size, 0, none⟩) 0 0] 27 (0, 0))
      rw [show (w.alloc (.cells #[] 2 (0, 0))).heap.size = w.heap.size + 1 by simp] at hO
      refine ⟨_, [.slice (some ⟨w.heap.size, 0, none⟩) 0 0], rfl, ⟨rfl, .inr ⟨w.heap.size + 1, 1, _, rfl, by omega, hO, Nat.le_refl _, by decide, rfl, rfl⟩⟩, ?_, below_grown (((Below.refl _ _).alloc (Nat.le_refl _) _).alloc (by simp) _)⟩
      exact (RowsL.nil _ _ _).snoc (l := []) ⟨rfl, .inr ⟨w.heap.size, 0, #[], rfl, Nat.le_refl _, blk_alloc _ hE, Nat.le_refl _, Nat.zero_le _, rfl, rfl⟩⟩ (fun _ => ⟨_, rfl⟩)
    · rw [show SL 0 size = [] by rw [SL, if_neg h0]]
      go_enter Try.func29, Try.ntmps29
      go_wp2_with fail
      go_ret
      exact ⟨_, [], rfl, ⟨rfl, .inr ⟨w.heap.size, 0, #[], rfl, Nat.le_refl _, blk_new _ _, Nat.le_refl _, Nat.zero_le _, rfl, rfl⟩⟩, RowsL.nil _ _ _, World.grownBy_alloc _ _ _⟩
  | succ n ih =>
    intro size w hn hs
    obtain ⟨i0, hi, hz0, hz1, hz2⟩ := info_parts Try.info2
    obtain ⟨j0, hj, hy0, hy1, hy2⟩ := info_parts Try.info27
    go_enter Try.func29, Try.ntmps29
    go_wp2_with fail
    go_loopw [5, 6] (fun V x wr => ∃ (m : Nat) (us : List Value), x = .int .i64 ((m : Int) - 4) ∧ m ≤ 9 ∧ wr.ownsRow w.heap.size 27 1 V (slK (SL n) size m).length us ∧ RowsL wr w.heap.size zSome us (slK (SL n) size m) ∧ w.grownBy wr none) (fun _ x _ => 9 - (intOf x + 4).toNat)
    case atStart => exact ⟨0, [], rfl, Nat.zero_le _, ⟨rfl, .inr ⟨w.heap.size, 0, #[], rfl, Nat.le_refl _, blk_new _ _, Nat.le_refl _, Nat.zero_le _, rfl, rfl⟩⟩, RowsL.nil _ _ _, World.grownBy_alloc _ _ _⟩
    case round =>
      obtain ⟨m, us, rfl, hm, hW, hU, hgr⟩ := hrel
      have hlen := slK_len (fun s => SL_4 (n := n) (by omega) s) size m
      by_cases hm9 : m < 9
      · obtain ⟨A, hA⟩ : ∃ A, A = ((m : Int) - 4).natAbs := ⟨_, rfl⟩
        have hAx : max ((m : Int) - 4) (-((m : Int) - 4)) = (A : Int) := by omega
        by_cases hAs : A ≤ size
        · have hst : slK (SL n) size (m + 1) = slK (SL n) size m ++ consK ((m : Int) - 4) (SL n (size - A)) (SL n (size - A)).length := by rw [slK, ← hA, if_pos hAs]
          have hM6 := SL_4 (n := n) (by omega) (size - A)
          obtain ⟨M, hM⟩ : ∃ M, (SL n (size - A)).length = M := ⟨_, rfl⟩
          rw [hM] at hst hM6
          have hAn : (size : Int) - (A : Int) = ((size - A : Nat) : Int) := by omega
          clear hA
          go_wp2_with (first
            | (go_at_call 29; refine (ih (size - A) _ (by omega) (by omega)).mono ?_; rw [hM]; rintro e w2 ⟨V8, vs8, rfl, hV8, hR8, hg2⟩; obtain ⟨o8, c8, rfl⟩ := own_shape hV8)
            | fail)
          have hs2 := hg2.size
          have hs1 := hgr.size
          have hb2 : Below w.heap.size w w2 := ((Below.refl _ _).grown hgr (Nat.le_refl _) (fun k hk => by cases hk)).grown hg2 hs1 (fun k hk => by cases hk)
          have hW2 := hW.kept hg2 (by cases u5.ownBlock <;> simp)
          have hU2 := hU.kept hg2 (fun i hi => by cases (us.getD i undef).ownBlock <;> simp)
          have hne2 : Value.ownBlock (.slice o8 M c8) = none ∨ u5.ownBlock ≠ Value.ownBlock (.slice o8 M c8) := by
            cases h8 : Value.ownBlock (.slice o8 M c8) with
            | none => exact .inl rfl
            | some g => exact .inr fun he => by have := (own_ge hV8 h8).1; have := (own_ge hW he).2; omega
          have hlenS := hlen
          generalize slK (SL n) size m = S0 at *
          obtain ⟨wv, rfl⟩ : ∃ wv : World, wv = wr := ⟨_, rfl⟩
          go_loopw [5, 9] (fun V i wq => ∃ (i' : Nat) (us : List Value), i = .int .i64 i' ∧ i' ≤ M ∧ wq.ownsRow w.heap.size 27 1 V (S0 ++ consK ((m : Int) - 4) (SL n (size - A)) i').length us ∧ RowsL wq w.heap.size zSome us (S0 ++ consK ((m : Int) - 4) (SL n (size - A)) i') ∧ Below w.heap.size w wq ∧ wq.ownsRow wv.heap.size 27 1 (.slice o8 M c8) M vs8 ∧ RowsL wq wv.heap.size zSome vs8 (SL n (size - A)) ∧ (Value.ownBlock (.slice o8 M c8) = none ∨ V.ownBlock ≠ Value.ownBlock (.slice o8 M c8)) ∧ w2.heap.size ≤ wq.heap.size) (fun _ i _ => M - (intOf i).toNat)
          case atStart => exact ⟨0, us, rfl, Nat.zero_le _, by simpa [consK] using hW2, by simpa [consK] using hU2, hb2, hV8, hR8, hne2, Nat.le_refl _⟩
          case round =>
            obtain ⟨i, us, rfl, hiM, hV, hU, hbq, h8, hR8, hne, hsq⟩ := hrel
            have hVl : (S0 ++ consK ((m : Int) - 4) (SL n (size - A)) i).length = S0.length + i := by rw [List.length_append, consK_len]
            by_cases hin : i < M
            · obtain ⟨g8, cp8, hsh⟩ := own_some h8 (by omega)
              simp only [Value.slice.injEq] at hsh
              obtain ⟨rfl, _, rfl⟩ := hsh
              have hck := out_cell h8 hin
              have hrow := hR8.2 i (by omega)
              have hl4 := SL_get (n := n) (size := size - A) (j := i) (by omega) (by omega)
              generalize vs8.getD i undef = v at *
              obtain ⟨l, hl⟩ : ∃ l, (SL n (size - A)).getD i [] = l := ⟨_, rfl⟩
              rw [hl] at hrow hl4
              have hst2 : consK ((m : Int) - 4) (SL n (size - A)) (i + 1) = consK ((m : Int) - 4) (SL n (size - A)) i ++ [((m : Int) - 4) :: l] := by rw [consK, hl]
              clear hl
              obtain ⟨hlk, hW4⟩ := hl4
              obtain ⟨hown, hownz⟩ := hrow
              obtain ⟨gv, cv, rfl⟩ : ∃ gv cv, v = .slice (some ⟨gv, 0, none⟩) n cv := by
                rw [hlk] at hown
                rcases hown.2 with ⟨h1, h2⟩ | ⟨g, cap, cur, h1, _⟩
                · obtain ⟨a, ha⟩ := hownz (List.eq_nil_of_length_eq_zero (by omega))
                  rw [h1] at ha; simp at ha
                · exact ⟨g, cap, h1⟩
              rw [hlk] at hown
              have hcs := own_cells (hown.alloc (.cells #[.int .i64 ((m : Int) - 4)] 2 (0, 0)))
              have ho1 : (wr.alloc (.cells #[.int .i64 ((m : Int) - 4)] 2 (0, 0))).ownsRow wr.heap.size 2 1 (.slice (some ⟨wr.heap.size, 0, none⟩) 1 1) 1 [.int .i64 ((m : Int) - 4)] := ⟨rfl, .inr ⟨wr.heap.size, 1, _, rfl, Nat.le_refl _, blk_new _ _, Nat.le_refl _, by decide, rfl, rfl⟩⟩
              have hbs : w.heap.size ≤ wr.heap.size := hbq.size
              have hcka := cell_frw hck (World.grownBy_alloc wr (.cells #[.int .i64 ((m : Int) - 4)] 2 (0, 0)) none) (by simp)
              rw [hVl] at hV
              go_wp2_with (first
                | (at_builtin; (refine wpList_append_own _ rfl (.tmp 42) (.tmp 46) 27 rfl wr.heap.size 2 i0 _ 1 8 Try.underlying27 hi hz0 hz1 hz2 rfl (by decide) _ _ _ rfl ho1 ⟨gv, 0, none⟩ n cv (zvL l) rfl (by rw [zvL_len]; omega) hcs (by intro u hu; simp only [zvL, List.mem_map] at hu; obtain ⟨_, _, rfl⟩ := hu; rfl) (by unfold maxLen; omega) (by omega) (by simp) ?_; intro v2 w3 hv2 hg3 _; obtain ⟨o2, c2, rfl⟩ := own_shape hv2; have hmid := wl_midG (w0 := w) (w2 := w) ho1 hg3 hV hU))
                | (at_builtin; (refine wpList_append_own_at _ rfl (.tmp 40) (.tmp 48) 49 rfl w.heap.size 27 j0 _ 1 24 Try.underlying49 hj hy0 hy1 hy2 rfl (by decide) _ _ _ rfl (hmid.2.1.alloc _) ⟨w3.heap.size, 0, none⟩ 1 1 [.slice o2 (1 + n) c2] rfl rfl (one_cell (blk_new _ _)) (by intro u hu; simp at hu; subst hu; rfl) (by unfold maxLen; omega) (by omega) (by have := hmid.2.2.2; simp; omega) ?_; intro v4 w4 hv4 hg4 _ hat))
                | fail)
              have hfin := wl_endG (nl := ((m : Int) - 4) :: l) hbq hbs (by simp [hlk]; omega) (by simp) hmid hv2 hv4 hg4 hVl.symm
              rw [List.append_assoc, ← hst2] at hfin
              have hg8 : g8 < wr.heap.size := (own_ge h8 rfl).2
              have hne' : Value.ownBlock (.slice (some ⟨g8, 0, none⟩) M c8) = none ∨ Value.ownBlock (.slice (some ⟨g8, 0, none⟩) M c8) ≠ u5.ownBlock := hne.imp id Ne.symm
              have h8' := (((own_below h8 hmid.1 fun g hg => (own_ge h8 hg).2)).alloc (.cells #[.slice o2 (1 + n) c2] 27 (0, 0))).kept hg4 hne'
              have hR8' := ((hR8.below hmid.1 (Nat.le_refl _)).kept (World.grownBy_alloc w3 (.cells #[.slice o2 (1 + n) c2] 27 (0, 0)) none) (fun i hi => by cases (vs8.getD i undef).ownBlock <;> simp)).outer (hmid.2.1.alloc _) hg4
              have hs3 := hmid.2.2.2
              have hs4 : w3.heap.size + 1 ≤ w4.heap.size := by have := hg4.size; simpa using this
              have hne4 : Value.ownBlock (.slice (some ⟨g8, 0, none⟩) M c8) = none ∨ v4.ownBlock ≠ Value.ownBlock (.slice (some ⟨g8, 0, none⟩) M c8) := by
                rcases hat with h | h
                · rw [h]; exact hne
                · right; rw [h]; simp only [Value.ownBlock, ne_eq, Option.some.injEq]; simp; omega
              go_roundw
              case rel => exact ⟨i + 1, _, by go_num, by omega, hfin.1, hfin.2.1, hfin.2.2, h8', hR8', hne4, by omega⟩
              case measure => simp [intOf]; omega
            · obtain rfl : i = M := by omega
              go_wp2_with fail
              go_roundw
              case rel =>
                (repeat apply Exists.intro)
                refine ⟨⟨m + 1, us, ?_, by omega, by rw [hst]; exact hV, by rw [hst]; exact hU, below_grown hbq⟩, rfl⟩
                go_num
              case measure => simp [intOf]; omega
        · have hst : slK (SL n) size (m + 1) = slK (SL n) size m := by rw [slK, ← hA, if_neg hAs, List.append_nil]
          clear hA
          go_wp2_with fail
          go_roundw
          case rel => exact ⟨m + 1, us, by go_num, by omega, by rw [hst]; exact hW, by rw [hst]; exact hU, hgr⟩
          case measure => simp [intOf]; omega
      · obtain rfl : m = 9 := by omega
        go_wp2_with fail
        go_ret
        exact ⟨_, _, rfl, hW, hU, hgr⟩
end
section
open Go.RowKit Go.IntWalk
/-- The first list that is a weighing. -/
def fnd (b R : Nat) (L : List (List Int)) : Nat → Option (List Int)
  | 0 => none
  | k + 1 => match fnd b R L k with
    | some l => some l
    | none => if okL b R (L.getD k []) = true then some (L.getD k []) else none
def fz (b R n : Nat) : Nat → Option (List Int)
  | 0 => none
  | s + 1 => match fz b R n s with
    | some l => some l
    | none => fnd b R (SL n s) (SL n s).length
theorem fnd_up {b R : Nat} {L : List (List Int)} {l : List Int} {k : Nat} (h : fnd b R L k = some l) : ∀ j, fnd b R L (k + j) = some l
  | 0 => h
  | j + 1 => by rw [← Nat.add_assoc, fnd, fnd_up h j]
theorem fz_up {b R n : Nat} {l : List Int} {k : Nat} (h : fz b R n k = some l) : ∀ j, fz b R n (k + j) = some l
  | 0 => h
  | j + 1 => by rw [← Nat.add_assoc, fz, fz_up h j]
def resS (w : World) (b0 n b R : Nat) (B t ok : Value) : Option (List Int) → Prop
  | none => B = .slice none 0 0 ∧ t = .int .i64 0 ∧ ok = .bool false
  | some l => w.ownsRow b0 2 1 B l.length (zvL l) ∧ (l = [] → zSome B) ∧ l.length = n ∧ t = .int .i64 (hiK l b R) ∧ ok = .bool true
theorem drew_grown (w : World) : w.grownBy w.drew none := ⟨rfl, rfl, rfl, Nat.le_refl _, fun _ _ _ => rfl⟩
theorem sweigh_any (n b : Nat) (hn : n ≤ 4) (hb : b < 65536) (w : World) : Calls Try.prog 18 #[.agg #[.int .i64 n, .int .i64 b]] w fun e w' => ∃ B t ok, e = .returned (.tuple #[B, t, ok]) ∧ resS w' w.heap.size n b (R2 n) B t ok (fz b (R2 n) n (4 * n + 1)) ∧ w.grownBy w' none := by
  have hX := blk_new w (.cells #[.int .i64 (n : Int), .int .i64 (b : Int)] 30 (0, 0))
  have hX0 := cell_blk (i := 0) (v := .int .i64 (n : Int)) hX rfl
  have hX1 := cell_blk (i := 1) (v := .int .i64 (b : Int)) hX rfl
  have hg0 := World.grownBy_alloc w (.cells #[.int .i64 (n : Int), .int .i64 (b : Int)] 30 (0, 0)) none
  generalize hR2 : R2 n = R
  go_enter Try.func18, Try.ntmps18
  go_wp2_with fail
  generalize w.alloc (.cells #[.int .i64 (n : Int), .int .i64 (b : Int)] 30 (0, 0)) = w1 at *
  go_loopw [5] (fun t wr => ∃ s : Nat, t = .int .i64 s ∧ s ≤ 4 * n + 1 ∧ fz b R n s = none ∧ w1.grownBy wr none) (fun t _ => 4 * n + 1 - (intOf t).toNat)
  case atStart => exact ⟨0, rfl, Nat.zero_le _, rfl, grown_refl _⟩
  case round =>
    obtain ⟨s, rfl, hs, hfz, hgr⟩ := hrel
    have d0 := cell_frw hX0 hgr (by simp)
    have d1 := cell_frw hX1 hgr (by simp)
    by_cases hs4 : s < 4 * n + 1
    · have hM6 := SL_4 hn s
      have hfs : fz b R n (s + 1) = fnd b R (SL n s) (SL n s).length := by rw [fz, hfz]
      obtain ⟨M, hM⟩ : ∃ M, (SL n s).length = M := ⟨_, rfl⟩
      rw [hM] at hM6 hfs
      go_wp2_with (first
        | (go_at_call 29; refine (slists_any n s _ hn (by omega)).mono ?_; rw [hM]; rintro e w2 ⟨V, vs, rfl, hV, hRs, hg2⟩; obtain ⟨oV, cV, rfl⟩ := own_shape hV)
        | fail)
      have e0 := cell_frw d0 hg2 (by simp)
      have e1 := cell_frw d1 hg2 (by simp)
      have hg12 := grown_trans hgr hg2
      obtain ⟨wv, rfl⟩ : ∃ wv : World, wv = wr := ⟨_, rfl⟩
      have hsv := hgr.size
      go_loopw [7] (fun i wq => ∃ i' : Nat, i = .int .i64 i' ∧ i' ≤ M ∧ fnd b R (SL n s) i' = none ∧ w2.grownBy wq none) (fun i _ => M - (intOf i).toNat)
      case atStart => exact ⟨0, rfl, Nat.zero_le _, rfl, grown_refl _⟩
      case round =>
        obtain ⟨i, rfl, hiM, hfi, hgq⟩ := hrel
        by_cases hin : i < M
        · obtain ⟨g8, cp8, hsh⟩ := own_some hV (by omega)
          simp only [Value.slice.injEq] at hsh
          obtain ⟨rfl, _, rfl⟩ := hsh
          have hck := cell_frw (out_cell hV hin) hgq (by simp)
          have hrow := hRs.2 i (by omega)
          have hl4 := SL_get (n := n) (size := s) (j := i) (by omega) (by omega)
          have hfn : fnd b R (SL n s) (i + 1) = if okL b R ((SL n s).getD i []) = true then some ((SL n s).getD i []) else none := by rw [fnd, hfi]
          generalize vs.getD i undef = v at *
          generalize (SL n s).getD i [] = l at *
          obtain ⟨hlk, hW4⟩ := hl4
          obtain ⟨hown, hownz⟩ := hrow
          rw [hlk] at hown
          have hrd : RdE wr.drew v l := .inl (((own_rd (by rw [hlk]; exact hown)).kept hgq).kept (drew_grown _))
          have f0 := cell_frw e0 hgq (by simp)
          have f1 := cell_frw e1 hgq (by simp)
          obtain ⟨ov, cv, rfl⟩ := own_shape hown
          cases hok : okL b R l
          · rw [hok] at hfn
            go_wp2_with fail
            go_region_with (go_at_call 30; refine (weighed_any n b (.slice ov n cv) l hW4 hn hb wr.drew hrd).mono ?_; rw [hR2, show decide (loK l b R ≤ hiK l b R) = _ from hok]; rintro e w5 ⟨rfl, hg5⟩)
            all_goals
              go_wp2_with fail
              go_roundw
              case rel => exact ⟨i + 1, by go_num, by omega, by rw [hfn]; rfl, grown_trans (grown_trans hgq (drew_grown _)) hg5⟩
              case measure => simp [intOf]; omega
          · rw [hok] at hfn
            have hfn' : fnd b R (SL n s) (i + 1) = some l := by rw [hfn]; rfl
            clear hfn
            go_wp2_with fail
            go_region_with (go_at_call 30; refine (weighed_any n b (.slice ov n cv) l hW4 hn hb wr.drew hrd).mono ?_; rw [hR2, show decide (loK l b R ≤ hiK l b R) = _ from hok]; rintro e w5 ⟨rfl, hg5⟩; have hck5 := cell_frw (cell_frw hck (drew_grown _) (by simp)) hg5 (by simp))
            all_goals
              go_wp2_with fail
              go_ret3
              have hres : fz b R n (4 * n + 1) = some l := by
                have h1 := fnd_up hfn' (M - (i + 1))
                rw [show i + 1 + (M - (i + 1)) = M by omega, ← hfs] at h1
                have h2 := fz_up h1 (4 * n + 1 - (s + 1))
                rwa [show s + 1 + (4 * n + 1 - (s + 1)) = 4 * n + 1 by omega] at h2
              have hown5 := ((hown.kept hgq (by cases Value.ownBlock (.slice ov n cv) <;> simp)).kept (drew_grown _) (by cases Value.ownBlock (.slice ov n cv) <;> simp)).kept hg5 (by cases Value.ownBlock (.slice ov n cv) <;> simp)
              exact ⟨_, _, _, rfl, by rw [hres]; exact ⟨by rw [hlk]; exact ownsRow_mono hown5 (Nat.le_trans hg0.size hsv), hownz, hlk, rfl, rfl⟩, grown_trans hg0 (grown_trans (grown_trans hg12 (grown_trans hgq (drew_grown _))) hg5)⟩
        · obtain rfl : i = M := by omega
          go_wp2_with fail
          go_roundw
          case rel => exact ⟨s + 1, by go_num, by omega, by rw [hfs]; exact hfi, grown_trans hg12 hgq⟩
          case measure => simp [intOf]; omega
    · obtain rfl : s = 4 * n + 1 := by omega
      go_wp2_with fail
      go_ret3
      exact ⟨_, _, _, rfl, by rw [hfz]; exact ⟨rfl, rfl, rfl⟩, grown_trans hg0 hgr⟩
end
def mv (m : Nat) : Int := (m : Int) - 4
def C9 : Nat → List (List Int)
  | 0 => [[]]
  | n + 1 => (List.range 9).flatMap fun m => (C9 n).map fun l => mv m :: l
theorem flatMap_cg {α β : Type} {f g : α → List β} : ∀ {L : List α}, (∀ x ∈ L, f x = g x) → L.flatMap f = L.flatMap g
  | [], _ => rfl
  | x :: xs, h => by rw [List.flatMap_cons, List.flatMap_cons, h x (by simp), flatMap_cg fun y hy => h y (by simp [hy])]
theorem nine_map (l : List Int) : ∀ k, nine l k = (List.range k).map fun m => l ++ [mv m]
  | 0 => rfl
  | k + 1 => by rw [nine, nine_map l k, List.range_succ, List.map_append]; rfl
theorem take_getD {α : Type} {L : List α} {d : α} {k : Nat} (h : k < L.length) : L.take (k + 1) = L.take k ++ [L.getD k d] := by
  rw [List.take_succ_eq_append_getElem h, List.getD_eq_getElem?_getD, List.getElem?_eq_getElem h]; rfl
theorem L9K_flat (L : List (List Int)) : ∀ k, k ≤ L.length → L9K L k = (L.take k).flatMap fun l => (List.range 9).map fun m => l ++ [mv m]
  | 0, _ => by simp [L9K]
  | k + 1, h => by
    rw [L9K, L9K_flat L k (by omega), take_getD (d := []) (by omega), List.flatMap_append, nine_map]
    simp
theorem L9_s (n : Nat) : L9 (n + 1) = (L9 n).flatMap fun l => (List.range 9).map fun m => l ++ [mv m] := by
  rw [L9, L9K_flat _ _ (Nat.le_refl _), List.take_of_length_le (Nat.le_refl _)]
theorem C9_snoc : ∀ n, C9 (n + 1) = (C9 n).flatMap fun l => (List.range 9).map fun m => l ++ [mv m]
  | 0 => by
    show (List.range 9).flatMap (fun m => [[mv m]]) = _
    rw [C9]; simp [List.flatMap_singleton']
    rfl
  | n + 1 => by
    rw [C9]
    conv => rhs; rw [C9]
    rw [List.flatMap_assoc]
    refine flatMap_cg fun m _ => ?_
    rw [C9_snoc n, List.map_flatMap, List.flatMap_map]
    refine flatMap_cg fun l _ => ?_
    rw [List.map_map]; rfl
theorem L9_C9 : ∀ n, L9 n = C9 n
  | 0 => rfl
  | n + 1 => by rw [L9_s, L9_C9 n, C9_snoc]
theorem nrK_cons (x : Int) (l : List Int) : ∀ k, nrK (x :: l) (k + 1) = max x (-x) + nrK l k
  | 0 => by simp [nrK]
  | k + 1 => by
    rw [nrK, nrK_cons x l k, nrK, List.getD_cons_succ, Int.add_assoc]
theorem nrm_cons (x : Int) (l : List Int) : nrm (x :: l) = max x (-x) + nrm l := by
  rw [nrm, nrm, List.length_cons, nrK_cons]
theorem consK_map (x : Int) (L : List (List Int)) : ∀ k, k ≤ L.length → consK x L k = (L.take k).map fun l => x :: l
  | 0, _ => by simp [consK]
  | k + 1, h => by rw [consK, consK_map x L k (by omega), take_getD (d := []) (by omega), List.map_append]; rfl
theorem slK_flat (f : Nat → List (List Int)) (size : Nat) : ∀ m, slK f size m = (List.range m).flatMap fun j => if (mv j).natAbs ≤ size then (f (size - (mv j).natAbs)).map fun l => mv j :: l else []
  | 0 => rfl
  | m + 1 => by
    rw [slK, slK_flat f size m, List.range_succ, List.flatMap_append, consK_map _ _ _ (Nat.le_refl _), List.take_of_length_le (Nat.le_refl _)]
    simp only [List.flatMap_cons, List.flatMap_nil, List.append_nil]
    rfl
theorem SL_filter : ∀ (n s : Nat), SL n s = (C9 n).filter fun l => nrm l == (s : Int)
  | 0, s => by
    rw [SL, C9]
    by_cases h : s = 0
    · subst h; rfl
    · rw [if_neg h, List.filter_cons_of_neg]
      · rfl
      · show ¬ ((0 : Int) == (s : Int)) = true
        simp only [beq_iff_eq]; omega
  | n + 1, s => by
    rw [SL, slK_flat, C9, List.filter_flatMap]
    refine flatMap_cg fun j _ => ?_
    rw [List.filter_map]
    by_cases h : (mv j).natAbs ≤ s
    · rw [if_pos h, SL_filter n]
      congr 1
      refine List.filter_congr fun l _ => ?_
      simp only [Function.comp, nrm_cons]
      rw [Bool.eq_iff_iff]
      simp only [beq_iff_eq]
      omega
    · rw [if_neg h]
      symm
      rw [List.map_eq_nil_iff, List.filter_eq_nil_iff]
      intro l _
      have := nrm_nn l
      simp only [Function.comp, nrm_cons, beq_iff_eq]
      omega
theorem fnd_find (b R : Nat) (L : List (List Int)) : ∀ k, k ≤ L.length → fnd b R L k = (L.take k).find? (okL b R)
  | 0, _ => by simp [fnd]
  | k + 1, h => by
    rw [fnd, fnd_find b R L k (by omega), take_getD (d := []) (by omega), List.find?_append]
    cases (L.take k).find? (okL b R) with
    | some l => rfl
    | none =>
      simp only [Option.none_or, List.find?_cons, List.find?_nil]
      cases okL b R (L.getD k []) <;> rfl
theorem pick_inv (b R : Nat) (L : List (List Int)) : ∀ k, k ≤ L.length → (pick b R L k = none ∧ ∀ x ∈ L.take k, okL b R x = false) ∨ ∃ l, pick b R L k = some l ∧ (∀ x ∈ L.take k, okL b R x = true → nrm l ≤ nrm x) ∧ (L.take k).find? (fun x => nrm x == nrm l && okL b R x) = some l
  | 0, _ => .inl ⟨rfl, by simp⟩
  | k + 1, h => by
    rw [take_getD (d := []) (by omega)]
    generalize hy : L.getD k [] = y
    have hp := pick_inv b R L k (by omega)
    rcases hp with ⟨h1, h2⟩ | ⟨l, h1, h2, h3⟩
    · have e : pick b R L (k + 1) = if okL b R y = true then some y else none := by rw [pick, h1, hy]
      cases hok : okL b R y
      · left
        refine ⟨by rw [e, hok]; rfl, fun x hx => ?_⟩
        rcases List.mem_append.mp hx with h | h
        · exact h2 x h
        · simp at h; subst h; exact hok
      · right
        refine ⟨y, by rw [e, hok]; rfl, fun x hx hx2 => ?_, ?_⟩
        · rcases List.mem_append.mp hx with h | h
          · rw [h2 x h] at hx2; simp at hx2
          · simp at h; subst h; exact Int.le_refl _
        · rw [List.find?_append, List.find?_eq_none.mpr (fun x hx => by rw [h2 x hx]; simp), Option.none_or]
          simp [hok]
    · have e : pick b R L (k + 1) = if nrm l ≤ nrm y then some l else if okL b R y = true then some y else some l := by rw [pick, h1, hy]
      right
      by_cases hc : nrm l ≤ nrm y
      · refine ⟨l, by rw [e, if_pos hc], fun x hx hx2 => ?_, by rw [List.find?_append, h3]; rfl⟩
        rcases List.mem_append.mp hx with h | h
        · exact h2 x h hx2
        · simp at h; subst h; exact hc
      · cases hok : okL b R y
        · refine ⟨l, by rw [e, if_neg hc, hok]; rfl, fun x hx hx2 => ?_, by rw [List.find?_append, h3]; rfl⟩
          rcases List.mem_append.mp hx with h | h
          · exact h2 x h hx2
          · simp at h; subst h; rw [hok] at hx2; simp at hx2
        · refine ⟨y, by rw [e, if_neg hc, hok]; rfl, fun x hx hx2 => ?_, ?_⟩
          · rcases List.mem_append.mp hx with h | h
            · have := h2 x h hx2; omega
            · simp at h; subst h; exact Int.le_refl _
          · rw [List.find?_append, List.find?_eq_none.mpr (fun x hx => ?_), Option.none_or]
            · simp [hok]
            · intro hb2
              simp only [Bool.and_eq_true, beq_iff_eq] at hb2
              have := h2 x hx hb2.2; omega
theorem fz_none {b R n : Nat} : ∀ {k : Nat}, (∀ s, s < k → fnd b R (SL n s) (SL n s).length = none) → fz b R n k = none
  | 0, _ => rfl
  | k + 1, h => by rw [fz, fz_none fun s hs => h s (by omega)]; exact h k (by omega)
theorem find_filter {α : Type} (p q : α → Bool) : ∀ L : List α, (L.filter p).find? q = L.find? (fun x => p x && q x)
  | [] => rfl
  | x :: xs => by
    rw [List.find?_cons]
    cases hp : p x
    · rw [List.filter_cons_of_neg (by rw [hp]; simp), find_filter p q xs]; rfl
    · rw [List.filter_cons_of_pos hp, List.find?_cons, find_filter p q xs]; simp
/-- Both sides find the same weighing. -/
theorem pick_fz (b R n : Nat) (hn : n ≤ 4) : pick b R (L9 n) (L9 n).length = fz b R n (4 * n + 1) := by
  have hS : ∀ s, fnd b R (SL n s) (SL n s).length = (L9 n).find? (fun x => nrm x == (s : Int) && okL b R x) := fun s => by
    rw [fnd_find _ _ _ _ (Nat.le_refl _), List.take_of_length_le (Nat.le_refl _), SL_filter, find_filter, L9_C9]
  have hp := pick_inv b R (L9 n) _ (Nat.le_refl _)
  rw [List.take_of_length_le (Nat.le_refl _)] at hp
  rcases hp with ⟨h1, h2⟩ | ⟨l, h1, h2, h3⟩
  · rw [h1, fz_none fun s _ => ?_]
    rw [hS, List.find?_eq_none]
    intro x hx; rw [h2 x hx]; simp
  · rw [h1]
    have hl := List.mem_of_find?_eq_some h3
    have hW := L9_mem hl
    obtain ⟨m, hm⟩ := Int.eq_ofNat_of_zero_le (nrm_nn l)
    have hm4 : m ≤ 4 * n := by
      have h4 := (nrK_le (W4_of hn hW) l.length).2
      rw [hW.1] at h4
      have : nrm l = nrK l n := by rw [nrm, hW.1]
      omega
    have e1 : fz b R n (m + 1) = some l := by
      rw [fz, fz_none fun s hs => ?_]
      · show fnd b R (SL n m) (SL n m).length = some l
        rw [hS, ← hm]; exact h3
      · rw [hS, List.find?_eq_none]
        intro x hx hb2
        simp only [Bool.and_eq_true, beq_iff_eq] at hb2
        have := h2 x hx hb2.2; omega
    have e2 := fz_up e1 (4 * n - m)
    rw [show m + 1 + (4 * n - m) = 4 * n + 1 by omega] at e2
    exact e2.symm

theorem zints_ids : ∀ L : List Int, V.idsL (zints L) = []
  | [] => rfl
  | x :: xs => by
    show V.idsL (.int .i64 x :: zints xs) = []
    simp only [V.idsL, V.ids, List.nil_append]
    exact zints_ids xs
theorem vals_zints {L : List Int} {cur : Array Value} (h : cur.toList.take L.length = zvL L) {m : Mp} {ρ : Nat → Nat} : ∀ (j : Nat) (v : V), (zints L)[j]? = some v → ∃ u, cur[j]? = some u ∧ VR ρ m v u := by
  intro j v hv
  have hj : j < L.length := by
    have := (List.getElem?_eq_some_iff.mp hv).1
    rwa [zints_len, Nat.mul_one] at this
  have e : (cur.toList.take L.length)[j]? = (zvL L)[j]? := by rw [h]
  rw [List.getElem?_take, if_pos hj] at e
  have e2 : v = .int .i64 (L.getD j 0) := by
    have := zints_get (l := L) (j := j) hj
    rw [show 0 + j * 1 = j by omega] at this
    rw [this] at hv; exact (Option.some.inj hv).symm
  subst e2
  refine ⟨.int .i64 (L.getD j 0), ?_, by simp only [VR]⟩
  rw [← Array.getElem?_toList, e]
  simp [zvL, List.getElem?_map, List.getD_eq_getElem?_getD, List.getElem?_eq_getElem hj]
def slZ (z : V) (l : List Int) : V := match l with | [] => z | x :: xs => .sl 0 0 (x :: xs).length
def slZH (l : List Int) : List Blk := match l with | [] => [] | x :: xs => [⟨zints (x :: xs), 1, 0, some 0, false⟩]
/-- A function that returns a list of numbers of its own making, a number and a truth value. -/
theorem Ev.ofRow3 {C : Cx} {f : Nat} {args : List V} {vs : List Value} {t : Int} {ok : Bool} {L : List Int} {e0 : TypeId} {z : V}
    (hf : ∃ fn, C.P.funcs[C.ρ f]? = some fn ∧ (fn.name == "runtime.NumGoroutine") = false ∧ fn.body.isNone = false)
    (hv : ∀ (m : Mp) (us : List Value), VRL C.ρ m args us → us = vs)
    (h : ∀ W : World, Calls C.P (C.ρ f) vs.toArray W fun e w' => ∃ v, e = .returned (.tuple #[v, .int .i64 t, .bool ok]) ∧ w'.ownsRow W.heap.size e0 1 v L.length (zvL L) ∧ (L = [] → ∀ m : Mp, VR C.ρ m z v) ∧ RowKit.Below W.heap.size W w')
    (hzi : L = [] → z.ids = []) : Ev C f args [] (.tup [slZ z L, .int .i64 t, .bool ok]) (slZH L) := by
  refine ⟨hf, fun m W us hI hr hi => ?_⟩
  obtain rfl := hv m us hr
  refine (h W).mono fun e w' he => ?_
  obtain ⟨v, rfl, hown, hnil, hb⟩ := he
  cases L with
  | nil =>
    refine ⟨_, m, rfl, ?_, by simp [V.ids, V.idsL, slZ, hzi rfl], ?_, ?_, fun i _ => ⟨rfl, rfl, rfl⟩, Nat.le_refl _, fun i b _ hb => absurd hb (by simp [slZH]), fun i b b' hb => absurd hb (by simp)⟩
    · simp only [VR, VRL]
      exact ⟨_, rfl, v, _, rfl, hnil rfl m, _, _, rfl, rfl, _, _, rfl, rfl, rfl⟩
    · exact ⟨fun i b hi => absurd hi (by simp [slZH]), fun i hi => absurd hi (by simp [slZH]), fun i j bi bj hi => absurd hi (by simp [slZH]), fun i b p hi => absurd hi (by simp [slZH]), fun i b hi => absurd hi (by simp [slZH]), fun i b hi => absurd hi (by simp [slZH]), fun r hr o => .inl (Nat.le_trans hb.size hr),
        fun i b hi => absurd hi (by simp [slZH]), fun i b hi => absurd hi (by simp [slZH])⟩
    · exact ⟨hb.os, hb.tape, hb.output, hb.size, fun r hr => .inl (hb.block r hr).symm⟩
  | cons y ys =>
    generalize hL : y :: ys = L at *
    have hLne : L ≠ [] := by rw [← hL]; simp
    have eV : slZ z L = .sl 0 0 L.length := by rw [← hL]; rfl
    have eH : slZH L = [⟨zints L, 1, 0, some 0, false⟩] := by rw [← hL]; rfl
    rw [eV, eH]
    obtain ⟨_, h2⟩ := hown
    rcases h2 with ⟨_, h2⟩ | ⟨g, cap, cur, rfl, hg, hh, hc1, hc2, hc3, hc4⟩
    · exact absurd (List.eq_nil_of_length_eq_zero h2) hLne
    · rw [Nat.mul_one] at hc3 hc4
      have one : ∀ (i : Nat) (b : Blk), i < 1 → [(⟨zints L, 1, 0, some 0, false⟩ : Blk)][i]? = some b → i = 0 ∧ b = ⟨zints L, 1, 0, some 0, false⟩ := fun i b hi hb => by
        obtain rfl : i = 0 := by omega
        simp at hb; exact ⟨rfl, hb.symm⟩
      have hatom : (zints L).all V.atom = true := by simp [zints, V.atom]
      refine ⟨_, ⟨fun _ => g, fun _ => cur.size, fun _ => 1⟩, rfl, ?_, ?_, ?_, ?_, fun i hi => absurd hi (by simp), by simp, ?_, fun i b b' hb => absurd hb (by simp)⟩
      · simp only [VR, VRL]
        exact ⟨_, rfl, _, _, rfl, .inl ⟨cap, rfl, hc1, by omega⟩, _, _, rfl, rfl, _, _, rfl, rfl, rfl⟩
      · intro i hi
        simp [V.ids, V.idsL] at hi
        subst hi; simp
      · refine ⟨?_, ?_, ?_, ?_, ?_, ?_, ?_, ?_, ?_⟩
        · intro i b hi hb
          obtain ⟨rfl, rfl⟩ := one i b hi hb
          exact ⟨cur, e0, (0, 0), hh, rfl, rfl, by rw [zints_len]; omega, vals_zints hc4, fun _ => rfl⟩
        · intro i hi
          obtain rfl : i = 0 := by simp at hi; omega
          exact ⟨_, rfl⟩
        · intro i j bi bj hi hj hbi hbj _
          obtain ⟨_, rfl⟩ := one i bi hi hbi
          obtain ⟨_, rfl⟩ := one j bj hj hbj
          rfl
        · intro i b p hi hb hp o ho
          exact .inl hg
        · intro i b hi hb _
          obtain ⟨rfl, rfl⟩ := one i b hi hb
          exact zints_ids L
        · intro i b hi hb j hj
          obtain ⟨rfl, rfl⟩ := one i b hi hb
          rw [zints_ids L] at hj; simp at hj
        · exact fun r hr o => .inl (Nat.le_trans hb.size hr)
        · intro i b hi hb
          obtain ⟨rfl, rfl⟩ := one i b hi hb
          simp
        · intro i b hi hb _
          obtain ⟨rfl, rfl⟩ := one i b hi hb
          exact hatom
      · exact ⟨hb.os, hb.tape, hb.output, hb.size, fun r hr => .inl (hb.block r hr).symm⟩
      · intro i b _ hb
        have hi : i < 1 := by
          have := (List.getElem?_eq_some_iff.mp hb).1; simpa using this
        obtain ⟨rfl, rfl⟩ := one i b hi hb
        rfl
def wRes (n b : Nat) : Option (List Int) := fz b (R2 n) n (4 * n + 1)
def thB (n b : Nat) : Bool := (wRes n b).isSome
def wT (n b : Nat) : Int := match wRes n b with | some l => hiK l b (R2 n) | none => 0
theorem vr_agg (n b : Nat) (m : Mp) (us : List Value) (h : VRL cx.ρ m [.agg [.int .i64 n, .int .i64 b]] us) : us = [.agg #[.int .i64 n, .int .i64 b]] := by
  simp only [VR, VRL] at h
  obtain ⟨u, us', rfl, ⟨xs, rfl, u1, _, e1, rfl, u2, _, e2, rfl, e3⟩, rfl⟩ := h
  obtain rfl : xs = #[.int .i64 n, .int .i64 b] := by rw [← Array.toArray_toList (xs := xs), e1, e2, e3]
  rfl
-- (impl.Func).weighing
def m22_1 : MC := (.seq (.region [⟨(.bin .lss (.t 25) (.t 24)), (some 26), none⟩] false) (.seq (.cond (.t 26) .skip (.exit 2)) (.seq (.block 3 (.seq (.region [⟨(.indexAddr 1 (.t 23) (.t 25)), (some 27), none⟩, ⟨(.load none (.t 27)), (some 28), none⟩, ⟨(.mov (.t 28)), (some 12), none⟩] false) (.region [⟨(.mov (.t 10)), (some 29), none⟩, ⟨(.mov (.t 12)), (some 30), none⟩, ⟨(.mov (.t 12)), (some 31), none⟩, ⟨(.un .neg (.t 31)), (some 32), none⟩, ⟨(.mm true [(.t 30), (.t 32)]), (some 33), none⟩, ⟨(.bin .add (.t 29) (.t 33)), (some 34), none⟩, ⟨(.mov (.t 34)), (some 10), none⟩] false))) (.region [⟨(.bin .add (.t 25) (.k (.int .i64 1))), (some 35), none⟩, ⟨(.mov (.t 35)), (some 25), none⟩] false))))
def m22_0 : MC := (.seq (.region [⟨(.bin .lss (.t 19) (.t 18)), (some 20), none⟩] false) (.seq (.cond (.t 20) .skip (.exit 0)) (.seq (.block 1 (.seq (.region [⟨(.indexAddr 1 (.t 17) (.t 19)), (some 21), none⟩, ⟨(.load none (.t 21)), (some 22), none⟩, ⟨(.mov (.t 22)), (some 9), none⟩] false) (.seq (.region [⟨(.mov (.k (.int .i64 0))), (some 10), none⟩] false) (.seq (.seq (.region [⟨(.mov (.t 9)), (some 23), none⟩, ⟨(.len (.t 23)), (some 24), none⟩, ⟨(.mov (.k (.int .i64 0))), (some 25), none⟩] false) (.block 2 (.loop m22_1))) (.seq (.seq (.region [⟨(.mov (.t 7)), (some 36), none⟩, ⟨(.bin .geq (.t 36) (.k (.int .i64 0))), (some 37), none⟩, ⟨(.mov (.t 37)), (some 38), none⟩, ⟨(.mov (.t 10)), (some 39), (some (38, true))⟩, ⟨(.mov (.t 7)), (some 40), (some (38, true))⟩, ⟨(.bin .geq (.t 39) (.t 40)), (some 41), (some (38, true))⟩, ⟨(.pick (.t 38) (.t 41) (.k (.bool false))), (some 42), none⟩] false) (.cond (.t 42) (.exit 1) .skip)) (.seq (.region [⟨(.load (some 2) (.t 1)), (some 44), none⟩, ⟨(.mov (.t 9)), (some 45), none⟩, ⟨(.call 33 [(.t 44), (.t 45)]), (some 46), none⟩, ⟨(.mov (.t 46)), (some 43), none⟩, ⟨(.extract (.t 43) 0), (some 47), none⟩, ⟨(.extract (.t 43) 1), (some 48), none⟩, ⟨(.mov (.t 47)), (some 13), none⟩, ⟨(.mov (.t 48)), (some 14), none⟩] false) (.seq (.region [⟨(.mov (.t 14)), (some 49), none⟩] false) (.cond (.t 49) (.region [⟨(.mov (.t 9)), (some 50), none⟩, ⟨(.mov (.t 13)), (some 51), none⟩, ⟨(.mov (.t 10)), (some 52), none⟩, ⟨(.mov (.t 50)), (some 5), none⟩, ⟨(.mov (.t 51)), (some 6), none⟩, ⟨(.mov (.t 52)), (some 7), none⟩] false) .skip)))))))) (.region [⟨(.bin .add (.t 19) (.k (.int .i64 1))), (some 53), none⟩, ⟨(.mov (.t 53)), (some 19), none⟩] false))))
def m22 : MC := (.seq (.region [⟨(.box (.t 0)), (some 1), none⟩, ⟨(.mov (.k .nils)), (some 2), none⟩, ⟨(.mov (.k (.int .i64 0))), (some 3), none⟩, ⟨(.mov (.k (.bool false))), (some 4), none⟩] false) (.seq (.region [⟨(.mov (.k .nils)), (some 5), none⟩] false) (.seq (.region [⟨(.mov (.k (.int .i64 0))), (some 6), none⟩, ⟨(.mov (.k (.int .i64 (-1)))), (some 7), none⟩] false) (.seq (.seq (.region [⟨(.fieldAddr 0 (.t 1)), (some 15), none⟩, ⟨(.load none (.t 15)), (some 16), none⟩, ⟨(.call 32 [(.t 16)]), (some 17), none⟩, ⟨(.len (.t 17)), (some 18), none⟩, ⟨(.mov (.k (.int .i64 0))), (some 19), none⟩] false) (.block 0 (.loop m22_0))) (.seq (.region [⟨(.mov (.t 5)), (some 54), none⟩, ⟨(.mov (.t 6)), (some 55), none⟩, ⟨(.mov (.t 7)), (some 56), none⟩, ⟨(.bin .geq (.t 56) (.k (.int .i64 0))), (some 57), none⟩, ⟨(.mov (.t 54)), (some 2), none⟩, ⟨(.mov (.t 55)), (some 3), none⟩, ⟨(.mov (.t 57)), (some 4), none⟩] false) .ret)))))
theorem has22 : Has cx 22 58 m22 [(.tmp 2), (.tmp 3), (.tmp 4)] :=
  ⟨⟨Try.f22, Try.f22.body.getD .skip, by kernel_rfl, by kernel_rfl, by kernel_rfl, by kernel_rfl, by kernel_rfl, by kernel_rfl⟩⟩
theorem wgh_any (n b : Nat) (hn : n ≤ 4) (hb : b < 65536) (w : World) : Calls Try.prog 22 #[.agg #[.int .i64 n, .int .i64 b]] w fun e w' => ∃ B t ok, e = .returned (.tuple #[B, t, ok]) ∧ resW w' w.heap.size n b (R2 n) B t ok (wRes n b) ∧ w.grownBy w' none := by
  unfold wRes
  rw [← pick_fz b (R2 n) n hn]
  by_cases h : n = 0
  · subst h; exact weighing_zero b hb w
  · exact weighing_pos n b hn (by omega) hb w
theorem ev22_none (n b : Nat) (hn : n ≤ 4) (hb : b < 65536) (h : wRes n b = none) : Ev cx 22 [.agg [.int .i64 n, .int .i64 b]] [] (.tup [.nils, .int .i64 0, .bool false]) [] := by
  refine Ev.ofRow3 (L := []) (z := .nils) (vs := [.agg #[.int .i64 n, .int .i64 b]]) (e0 := 2) ⟨_, Try.func22, by kernel_rfl, by kernel_rfl⟩ (vr_agg n b) (fun W => ?_) (fun _ => rfl)
  refine (wgh_any n b hn hb W).mono ?_
  rintro e w' ⟨B, t, ok, rfl, hr, hg⟩
  rw [h] at hr
  obtain ⟨rfl, rfl, rfl⟩ := hr
  exact ⟨_, rfl, World.ownsRow_nil _ _ _ _, fun _ m => by simp only [VR], (RowKit.Below.refl _ _).grown hg (Nat.le_refl _) (fun k hk => by cases hk)⟩
theorem ev22_some (n b : Nat) (hn : n ≤ 4) (hb : b < 65536) (l : List Int) (h : wRes n b = some l) : Ev cx 22 [.agg [.int .i64 n, .int .i64 b]] [] (.tup [slZ .nils l, .int .i64 (wT n b), .bool true]) (slZH l) := by
  refine Ev.ofRow3 (vs := [.agg #[.int .i64 n, .int .i64 b]]) (e0 := 2) ⟨_, Try.func22, by kernel_rfl, by kernel_rfl⟩ (vr_agg n b) (fun W => ?_) (fun _ => rfl)
  refine (wgh_any n b hn hb W).mono ?_
  rintro e w' ⟨B, t, ok, rfl, hr, hg⟩
  rw [h] at hr
  obtain ⟨h1, h2, h3, rfl, rfl⟩ := hr
  exact ⟨_, by rw [wT, h], h1, fun hl m => by rw [h2 hl]; simp only [VR], (RowKit.Below.refl _ _).grown hg (Nat.le_refl _) (fun k hk => by cases hk)⟩
-- spec.l07Weighing
def m18_1 : MC := (.seq (.seq (.region [⟨(.mov (.t 7)), (some 21), none⟩, ⟨(.mov (.t 6)), (some 22), none⟩, ⟨(.len (.t 22)), (some 23), none⟩, ⟨(.bin .lss (.t 21) (.t 23)), (some 24), none⟩] false) (.cond (.t 24) .skip (.exit 2))) (.seq (.block 3 (.seq (.region [⟨(.load (some 2) (.t 1)), (some 28), none⟩, ⟨(.mov (.t 6)), (some 29), none⟩, ⟨(.mov (.t 7)), (some 30), none⟩, ⟨(.indexAddr 1 (.t 29) (.t 30)), (some 31), none⟩, ⟨(.load none (.t 31)), (some 32), none⟩, ⟨(.callw 30 [(.t 28), (.t 32)]), (some 33), none⟩, ⟨(.mov (.t 33)), (some 27), none⟩, ⟨(.extract (.t 27) 0), (some 34), none⟩, ⟨(.extract (.t 27) 1), (some 35), none⟩, ⟨(.mov (.t 34)), (some 8), none⟩, ⟨(.mov (.t 35)), (some 9), none⟩] true) (.seq (.region [⟨(.mov (.t 9)), (some 36), none⟩] false) (.cond (.t 36) (.seq (.region [⟨(.mov (.t 6)), (some 37), none⟩, ⟨(.mov (.t 7)), (some 38), none⟩, ⟨(.indexAddr 1 (.t 37) (.t 38)), (some 39), none⟩, ⟨(.load none (.t 39)), (some 40), none⟩, ⟨(.mov (.t 8)), (some 41), none⟩, ⟨(.mov (.t 40)), (some 2), none⟩, ⟨(.mov (.t 41)), (some 3), none⟩, ⟨(.mov (.k (.bool true))), (some 4), none⟩] false) .ret) .skip)))) (.region [⟨(.mov (.t 7)), (some 25), none⟩, ⟨(.bin .add (.t 25) (.k (.int .i64 1))), (some 26), none⟩, ⟨(.mov (.t 26)), (some 7), none⟩] false)))
def m18_0 : MC := (.seq (.seq (.region [⟨(.mov (.t 5)), (some 10), none⟩, ⟨(.fieldAddr 0 (.t 1)), (some 11), none⟩, ⟨(.load none (.t 11)), (some 12), none⟩, ⟨(.bin .mul (.k (.int .i64 4)) (.t 12)), (some 13), none⟩, ⟨(.bin .leq (.t 10) (.t 13)), (some 14), none⟩] false) (.cond (.t 14) .skip (.exit 0))) (.seq (.block 1 (.seq (.region [⟨(.fieldAddr 0 (.t 1)), (some 17), none⟩, ⟨(.load none (.t 17)), (some 18), none⟩, ⟨(.mov (.t 5)), (some 19), none⟩, ⟨(.call 29 [(.t 18), (.t 19)]), (some 20), none⟩, ⟨(.mov (.t 20)), (some 6), none⟩] false) (.seq (.region [⟨(.mov (.k (.int .i64 0))), (some 7), none⟩] false) (.block 2 (.loop m18_1))))) (.region [⟨(.mov (.t 5)), (some 15), none⟩, ⟨(.bin .add (.t 15) (.k (.int .i64 1))), (some 16), none⟩, ⟨(.mov (.t 16)), (some 5), none⟩] false)))
def m18 : MC := (.seq (.region [⟨(.box (.t 0)), (some 1), none⟩, ⟨(.mov (.k .nils)), (some 2), none⟩, ⟨(.mov (.k (.int .i64 0))), (some 3), none⟩, ⟨(.mov (.k (.bool false))), (some 4), none⟩] false) (.seq (.seq (.region [⟨(.mov (.k (.int .i64 0))), (some 5), none⟩] false) (.block 0 (.loop m18_0))) (.seq (.region [⟨(.mov (.k .nils)), (some 2), none⟩, ⟨(.mov (.k (.int .i64 0))), (some 3), none⟩, ⟨(.mov (.k (.bool false))), (some 4), none⟩] false) .ret)))
theorem has18 : Has cx 18 42 m18 [(.tmp 2), (.tmp 3), (.tmp 4)] :=
  ⟨⟨Try.f18, Try.f18.body.getD .skip, by kernel_rfl, by kernel_rfl, by kernel_rfl, by kernel_rfl, by kernel_rfl, by kernel_rfl⟩⟩
theorem ev18_none (n b : Nat) (hn : n ≤ 4) (hb : b < 65536) (h : wRes n b = none) : Ev cx 18 [.agg [.int .i64 n, .int .i64 b]] [] (.tup [.nils, .int .i64 0, .bool false]) [] := by
  refine Ev.ofRow3 (L := []) (z := .nils) (vs := [.agg #[.int .i64 n, .int .i64 b]]) (e0 := 2) ⟨_, Try.func18, by kernel_rfl, by kernel_rfl⟩ (vr_agg n b) (fun W => ?_) (fun _ => rfl)
  refine (sweigh_any n b hn hb W).mono ?_
  rintro e w' ⟨B, t, ok, rfl, hr, hg⟩
  rw [show fz b (R2 n) n (4 * n + 1) = wRes n b from rfl] at hr; rw [h] at hr
  obtain ⟨rfl, rfl, rfl⟩ := hr
  exact ⟨_, rfl, World.ownsRow_nil _ _ _ _, fun _ m => by simp only [VR], (RowKit.Below.refl _ _).grown hg (Nat.le_refl _) (fun k hk => by cases hk)⟩
theorem ev18_some (n b : Nat) (hn : n ≤ 4) (hb : b < 65536) (l : List Int) (h : wRes n b = some l) : Ev cx 18 [.agg [.int .i64 n, .int .i64 b]] [] (.tup [slZ .emp l, .int .i64 (wT n b), .bool true]) (slZH l) := by
  refine Ev.ofRow3 (vs := [.agg #[.int .i64 n, .int .i64 b]]) (e0 := 2) ⟨_, Try.func18, by kernel_rfl, by kernel_rfl⟩ (vr_agg n b) (fun W => ?_) (fun _ => rfl)
  refine (sweigh_any n b hn hb W).mono ?_
  rintro e w' ⟨B, t, ok, rfl, hr, hg⟩
  rw [show fz b (R2 n) n (4 * n + 1) = wRes n b from rfl] at hr; rw [h] at hr
  obtain ⟨h1, h2, h3, rfl, rfl⟩ := hr
  exact ⟨_, by rw [wT, h], h1, fun hl m => by obtain ⟨a, ha⟩ := h2 hl; simp only [VR]; exact ⟨a, ha⟩, (RowKit.Below.refl _ _).grown hg (Nat.le_refl _) (fun k hk => by cases hk)⟩
-- impl.CountThreshold$1
def m21 : MC := (.seq (.region [⟨(.box (.t 0)), (some 1), none⟩, ⟨(.mov (.k (.bool false))), (some 2), none⟩] false) (.seq (.region [⟨(.load (some 2) (.t 1)), (some 7), none⟩, ⟨(.call 22 [(.t 7)]), (some 8), none⟩, ⟨(.mov (.t 8)), (some 6), none⟩, ⟨(.extract (.t 6) 0), (some 9), none⟩, ⟨(.extract (.t 6) 1), (some 10), none⟩, ⟨(.extract (.t 6) 2), (some 11), none⟩, ⟨(.mov (.t 9)), (some 3), none⟩, ⟨(.mov (.t 10)), (some 4), none⟩, ⟨(.mov (.t 11)), (some 5), none⟩] false) (.seq (.region [⟨(.mov (.t 5)), (some 12), none⟩, ⟨(.mov (.t 12)), (some 2), none⟩] false) .ret)))
theorem has21 : Has cx 21 13 m21 [(.tmp 2)] :=
  ⟨⟨Try.f21, Try.f21.body.getD .skip, by kernel_rfl, by kernel_rfl, by kernel_rfl, by kernel_rfl, by kernel_rfl, by kernel_rfl⟩⟩
theorem ev21 (n b : Nat) (hn : n ≤ 4) (hb : b < 65536) : Ev cx 21 [.agg [.int .i64 n, .int .i64 b]] [] (.bool (thB n b)) [] := by
  cases hr : wRes n b with
  | none =>
    rw [show thB n b = false by rw [thB, hr]; rfl]
    refine has21.eev rfl rfl ?_
    unfold m21
    repeat' (first
      | (refine g_op ?_; first
        | refine ep_mov rfl ?_ | refine sp_loadN rfl rfl rfl rfl rfl ?_
        | refine ep_call0 rfl (by first | exact ev22_none n b hn hb hr) rfl rfl ?_
        | refine sp_call rfl rfl rfl rfl (by first | exact ev22_none n b hn hb hr) ⟨rfl, rfl, rfl, rfl⟩ rfl rfl rfl ?_
        | refine ep_extract rfl rfl ?_ | refine sp_box rfl rfl rfl rfl rfl ?_)
      | (refine g_ops ?_; first | refine eo_none ?_ | refine eo_nil ?_)
      | (refine g_code ?_; first | refine ec_seq ?_ | refine ec_region ?_ | refine ec_ret ?_)
      | refine ek_seqN ?_ | refine ek_seqR ?_)
    refine sfin (.inr rfl) (by rfl) (by rfl) (by exact ⟨rfl, rfl, rfl⟩) (by rfl) (by rfl) (by rfl) (by first | rfl | (simp; done) | (simp [ints, prs]; done))
  | some l =>
    rw [show thB n b = true by rw [thB, hr]; rfl]
    have e1 := ev22_some n b hn hb l hr
    generalize wT n b = T at *
    cases l with
    | nil =>
      refine has21.eev rfl rfl ?_
      unfold m21
      repeat' (first
        | (refine g_op ?_; first
          | refine ep_mov rfl ?_ | refine sp_loadN rfl rfl rfl rfl rfl ?_
          | refine ep_call0 rfl (by first | exact e1) rfl rfl ?_
          | refine sp_call rfl rfl rfl rfl (by first | exact e1) ⟨rfl, rfl, rfl, rfl⟩ rfl rfl rfl ?_
          | refine ep_extract rfl rfl ?_ | refine sp_box rfl rfl rfl rfl rfl ?_)
        | (refine g_ops ?_; first | refine eo_none ?_ | refine eo_nil ?_)
        | (refine g_code ?_; first | refine ec_seq ?_ | refine ec_region ?_ | refine ec_ret ?_)
        | refine ek_seqN ?_ | refine ek_seqR ?_)
      refine sfin (.inr rfl) (by rfl) (by rfl) (by exact ⟨rfl, rfl, rfl⟩) (by rfl) (by rfl) (by rfl) (by first | rfl | (simp; done) | (simp [ints, prs]; done))
    | cons x xs =>
      refine has21.eev rfl rfl ?_
      unfold m21
      repeat' (first
        | (refine g_op ?_; first
          | refine ep_mov rfl ?_ | refine sp_loadN rfl rfl rfl rfl rfl ?_
          | refine ep_call0 rfl (by first | exact e1) rfl rfl ?_
          | refine sp_call rfl rfl rfl rfl (by first | exact e1) ⟨rfl, rfl, rfl, rfl⟩ rfl rfl rfl ?_
          | refine ep_extract rfl rfl ?_ | refine sp_box rfl rfl rfl rfl rfl ?_)
        | (refine g_ops ?_; first | refine eo_none ?_ | refine eo_nil ?_)
        | (refine g_code ?_; first | refine ec_seq ?_ | refine ec_region ?_ | refine ec_ret ?_)
        | refine ek_seqN ?_ | refine ek_seqR ?_)
      refine sfin (.inr rfl) (by rfl) (by rfl) (by exact ⟨rfl, rfl, rfl⟩) (by rfl) (by rfl) (by rfl) (by first | rfl | (simp; done) | (simp [ints, prs]; done))
def thL (n : Nat) : List Nat := selm (thB n) idn (R2 (R2 n))
def thC (z : Int) : Int × Int := if 0 ≤ z ∧ z ≤ 3 then (((thL z.toNat).length : Nat), 0) else (0, 2)
theorem lpft_th (n : Nat) (hn : n ≤ 4) (o : Out) (ho : (match selm (thB n) (idn) (R2 (R2 n)) with | [] => (⟨.exit 0, [(5, .nils)], []⟩ : Out) | x :: xs => ⟨.exit 0, [(5, .sl 0 0 (x :: xs).length)], [⟨prs n (x :: xs), 2, 0, some 0, false⟩]⟩) = o) :
    LpS cx 25 0 m20_0 [(0, .int .i64 (n : Nat)), (1, .fn 21 []), (5, .nils), (9, .int .i64 (R2 (R2 n) : Nat)), (10, .int .i64 (0 : Nat))] [] o.x o.e o.h := by
  obtain ⟨h1, h2, h3, h4⟩ := shN hn
  subst ho
  refine lp_st (R2 (R2 n)) (selm (thB n) (idn)) (fun i s => match s with | [] => [(0, .int .i64 (n : Nat)), (1, .fn 21 []), (5, .nils), (9, .int .i64 (R2 (R2 n) : Nat)), (10, .int .i64 (i : Nat))] | x :: xs => [(0, .int .i64 (n : Nat)), (1, .fn 21 []), (5, .sl 0 0 (x :: xs).length), (9, .int .i64 (R2 (R2 n) : Nat)), (10, .int .i64 (i : Nat))]) (fun i s => match s with | [] => [] | x :: xs => [⟨prs n (x :: xs), 2, 0, some 0, false⟩]) (fun s => match s with | [] => ⟨.exit 0, [(5, .nils)], []⟩ | x :: xs => ⟨.exit 0, [(5, .sl 0 0 (x :: xs).length)], [⟨prs n (x :: xs), 2, 0, some 0, false⟩]⟩) ?_ ?_ (R2 (R2 n)) 0 (by omega)
  · intro i s hi hs
    have hlt : decide ((i : Int) < (R2 (R2 n) : Nat)) = true := decide_eq_true (by omega)
    have hle : decide ((i : Int) ≤ (R2 (R2 n) : Nat) - 1) = true := decide_eq_true (by omega)
    have hlen : s.length ≤ 65536 := by have := selm_len (thB n) (idn) i; rw [hs] at this; omega
    cases hp : (thB n) i with
    | true =>
      have hp' : ((thB n) i) = true := hp
      have e1 := ev21 n i hn (by omega)
      rw [hp'] at e1
      cases s with
      | nil =>
        refine ⟨[(idn) i], by rw [selm_t (p := thB n) hp, hs]; try rfl, ?_⟩
        unfold m20_0
        repeat' (first
          | (refine g_op ?_; first
            | refine ep_mov rfl ?_ | refine sp_loadN rfl rfl rfl rfl rfl ?_
            | refine sp_callv rfl rfl rfl rfl rfl rfl (by first | exact e1) ⟨rfl, rfl, rfl, rfl⟩ rfl rfl rfl ?_
            | refine sp_callb rfl rfl rfl rfl rfl rfl (by first | exact e1) ⟨rfl, rfl, rfl, rfl⟩ rfl rfl rfl ?_
            | refine ep_bin rfl rfl (by first | exact b_add (by omega) (by omega) | exact b_lss) ?_ | refine sp_store rfl rfl rfl rfl rfl rfl rfl rfl rfl rfl ?_ | refine sp_alloc rfl rfl ?_ | refine sp_build rfl rfl ?_
            | refine sp_bslice rfl rfl rfl rfl rfl ?_ | refine sp_push0 rfl (by first | exact .inl rfl | exact .inr rfl) rfl rfl rfl rfl rfl (by decide) rfl rfl rfl ?_ | refine sp_push rfl rfl rfl rfl rfl rfl rfl (by first | exact ints_len _ | exact prs_len _ _ | exact zints_len _) (by omega) (Nat.zero_le _) rfl rfl rfl rfl rfl ?_)
          | (refine g_ops ?_; first | refine eo_none ?_ | refine eo_nil ?_)
          | (refine g_code ?_; first | refine ec_seq ?_ | refine ec_region ?_ | refine ec_block ?_ | refine ec_skip ?_ | refine ec_exit ?_ | refine ec_condT rfl ?_ | refine ec_condF rfl ?_ | refine ec_condTH rfl (by assumption) ?_ | refine ec_condFH rfl (by assumption) ?_)
          | refine ek_seqN ?_ | refine ek_seqX ?_ | refine ek_blkN ?_ | refine ek_blkR ?_ | refine ek_blkX ?_ | refine ek_blkY rfl ?_)
        exact rnd_on (by rfl) (scmp2 (by rfl) (by rfl) (by exact ⟨rfl, rfl, rfl⟩) (by rfl) (by first | rfl | (simp; done) | (simp [ints, prs]; done)) (by rfl) (by first | rfl | (simp; done) | (simp [ints, prs]; done)))
      | cons x xs =>
        refine ⟨(x :: xs) ++ [(idn) i], by rw [selm_t (p := thB n) hp, hs]; try rfl, ?_⟩
        unfold m20_0
        repeat' (first
          | (refine g_op ?_; first
            | refine ep_mov rfl ?_ | refine sp_loadN rfl rfl rfl rfl rfl ?_
            | refine sp_callv rfl rfl rfl rfl rfl rfl (by first | exact e1) ⟨rfl, rfl, rfl, rfl⟩ rfl rfl rfl ?_
            | refine sp_callb rfl rfl rfl rfl rfl rfl (by first | exact e1) ⟨rfl, rfl, rfl, rfl⟩ rfl rfl rfl ?_
            | refine ep_bin rfl rfl (by first | exact b_add (by omega) (by omega) | exact b_lss) ?_ | refine sp_store rfl rfl rfl rfl rfl rfl rfl rfl rfl rfl ?_ | refine sp_alloc rfl rfl ?_ | refine sp_build rfl rfl ?_
            | refine sp_bslice rfl rfl rfl rfl rfl ?_ | refine sp_push0 rfl (by first | exact .inl rfl | exact .inr rfl) rfl rfl rfl rfl rfl (by decide) rfl rfl rfl ?_ | refine sp_push rfl rfl rfl rfl rfl rfl rfl (by first | exact ints_len _ | exact prs_len _ _ | exact zints_len _) (by omega) (Nat.zero_le _) rfl rfl rfl rfl rfl ?_)
          | (refine g_ops ?_; first | refine eo_none ?_ | refine eo_nil ?_)
          | (refine g_code ?_; first | refine ec_seq ?_ | refine ec_region ?_ | refine ec_block ?_ | refine ec_skip ?_ | refine ec_exit ?_ | refine ec_condT rfl ?_ | refine ec_condF rfl ?_ | refine ec_condTH rfl (by assumption) ?_ | refine ec_condFH rfl (by assumption) ?_)
          | refine ek_seqN ?_ | refine ek_seqX ?_ | refine ek_blkN ?_ | refine ek_blkR ?_ | refine ek_blkX ?_ | refine ek_blkY rfl ?_)
        exact rnd_on (by rfl) (scmp2 (by rfl) (by rfl) (by exact ⟨rfl, rfl, rfl⟩) (by rfl) (by first | rfl | (simp; done) | (simp [ints, prs]; done)) (by rfl) (by first | rfl | (simp; done) | (simp [ints, prs]; done)))
    | false =>
      have hp' : ((thB n) i) = false := hp
      have e1 := ev21 n i hn (by omega)
      rw [hp'] at e1
      cases s with
      | nil =>
        refine ⟨[], by rw [selm_f (p := thB n) hp, hs]; try rfl, ?_⟩
        unfold m20_0
        repeat' (first
          | (refine g_op ?_; first
            | refine ep_mov rfl ?_ | refine sp_loadN rfl rfl rfl rfl rfl ?_
            | refine sp_callv rfl rfl rfl rfl rfl rfl (by first | exact e1) ⟨rfl, rfl, rfl, rfl⟩ rfl rfl rfl ?_
            | refine sp_callb rfl rfl rfl rfl rfl rfl (by first | exact e1) ⟨rfl, rfl, rfl, rfl⟩ rfl rfl rfl ?_
            | refine ep_bin rfl rfl (by first | exact b_add (by omega) (by omega) | exact b_lss) ?_ | refine sp_store rfl rfl rfl rfl rfl rfl rfl rfl rfl rfl ?_ | refine sp_alloc rfl rfl ?_ | refine sp_build rfl rfl ?_
            | refine sp_bslice rfl rfl rfl rfl rfl ?_ | refine sp_push0 rfl (by first | exact .inl rfl | exact .inr rfl) rfl rfl rfl rfl rfl (by decide) rfl rfl rfl ?_ | refine sp_push rfl rfl rfl rfl rfl rfl rfl (by first | exact ints_len _ | exact prs_len _ _ | exact zints_len _) (by omega) (Nat.zero_le _) rfl rfl rfl rfl rfl ?_)
          | (refine g_ops ?_; first | refine eo_none ?_ | refine eo_nil ?_)
          | (refine g_code ?_; first | refine ec_seq ?_ | refine ec_region ?_ | refine ec_block ?_ | refine ec_skip ?_ | refine ec_exit ?_ | refine ec_condT rfl ?_ | refine ec_condF rfl ?_ | refine ec_condTH rfl (by assumption) ?_ | refine ec_condFH rfl (by assumption) ?_)
          | refine ek_seqN ?_ | refine ek_seqX ?_ | refine ek_blkN ?_ | refine ek_blkR ?_ | refine ek_blkX ?_ | refine ek_blkY rfl ?_)
        exact rnd_on (by rfl) (scmp2 (by rfl) (by rfl) (by exact ⟨rfl, rfl, rfl⟩) (by rfl) (by first | rfl | (simp; done) | (simp [ints, prs]; done)) (by rfl) (by first | rfl | (simp; done) | (simp [ints, prs]; done)))
      | cons x xs =>
        refine ⟨x :: xs, by rw [selm_f (p := thB n) hp, hs]; try rfl, ?_⟩
        unfold m20_0
        repeat' (first
          | (refine g_op ?_; first
            | refine ep_mov rfl ?_ | refine sp_loadN rfl rfl rfl rfl rfl ?_
            | refine sp_callv rfl rfl rfl rfl rfl rfl (by first | exact e1) ⟨rfl, rfl, rfl, rfl⟩ rfl rfl rfl ?_
            | refine sp_callb rfl rfl rfl rfl rfl rfl (by first | exact e1) ⟨rfl, rfl, rfl, rfl⟩ rfl rfl rfl ?_
            | refine ep_bin rfl rfl (by first | exact b_add (by omega) (by omega) | exact b_lss) ?_ | refine sp_store rfl rfl rfl rfl rfl rfl rfl rfl rfl rfl ?_ | refine sp_alloc rfl rfl ?_ | refine sp_build rfl rfl ?_
            | refine sp_bslice rfl rfl rfl rfl rfl ?_ | refine sp_push0 rfl (by first | exact .inl rfl | exact .inr rfl) rfl rfl rfl rfl rfl (by decide) rfl rfl rfl ?_ | refine sp_push rfl rfl rfl rfl rfl rfl rfl (by first | exact ints_len _ | exact prs_len _ _ | exact zints_len _) (by omega) (Nat.zero_le _) rfl rfl rfl rfl rfl ?_)
          | (refine g_ops ?_; first | refine eo_none ?_ | refine eo_nil ?_)
          | (refine g_code ?_; first | refine ec_seq ?_ | refine ec_region ?_ | refine ec_block ?_ | refine ec_skip ?_ | refine ec_exit ?_ | refine ec_condT rfl ?_ | refine ec_condF rfl ?_ | refine ec_condTH rfl (by assumption) ?_ | refine ec_condFH rfl (by assumption) ?_)
          | refine ek_seqN ?_ | refine ek_seqX ?_ | refine ek_blkN ?_ | refine ek_blkR ?_ | refine ek_blkX ?_ | refine ek_blkY rfl ?_)
        exact rnd_on (by rfl) (scmp2 (by rfl) (by rfl) (by exact ⟨rfl, rfl, rfl⟩) (by rfl) (by first | rfl | (simp; done) | (simp [ints, prs]; done)) (by rfl) (by first | rfl | (simp; done) | (simp [ints, prs]; done)))
  · intro s hs
    have hlt : decide (((R2 (R2 n) : Nat) : Int) < (R2 (R2 n) : Nat)) = false := decide_eq_false (by omega)
    have hle : decide (((R2 (R2 n) : Nat) : Int) ≤ (R2 (R2 n) : Nat) - 1) = false := decide_eq_false (by omega)
    cases s with
    | nil =>
      unfold m20_0
      repeat' (first
        | (refine g_op ?_; first
          | refine ep_mov rfl ?_ | refine sp_loadN rfl rfl rfl rfl rfl ?_
          | refine sp_callv rfl rfl rfl rfl rfl rfl (by first | exact e1) ⟨rfl, rfl, rfl, rfl⟩ rfl rfl rfl ?_
          | refine sp_callb rfl rfl rfl rfl rfl rfl (by first | exact e1) ⟨rfl, rfl, rfl, rfl⟩ rfl rfl rfl ?_
          | refine ep_bin rfl rfl (by first | exact b_add (by omega) (by omega) | exact b_lss) ?_ | refine sp_store rfl rfl rfl rfl rfl rfl rfl rfl rfl rfl ?_ | refine sp_alloc rfl rfl ?_ | refine sp_build rfl rfl ?_
          | refine sp_bslice rfl rfl rfl rfl rfl ?_ | refine sp_push0 rfl (by first | exact .inl rfl | exact .inr rfl) rfl rfl rfl rfl rfl (by decide) rfl rfl rfl ?_ | refine sp_push rfl rfl rfl rfl rfl rfl rfl (by first | exact ints_len _ | exact prs_len _ _ | exact zints_len _) (by omega) (Nat.zero_le _) rfl rfl rfl rfl rfl ?_)
        | (refine g_ops ?_; first | refine eo_none ?_ | refine eo_nil ?_)
        | (refine g_code ?_; first | refine ec_seq ?_ | refine ec_region ?_ | refine ec_block ?_ | refine ec_skip ?_ | refine ec_exit ?_ | refine ec_condT rfl ?_ | refine ec_condF rfl ?_ | refine ec_condTH rfl (by assumption) ?_ | refine ec_condFH rfl (by assumption) ?_)
        | refine ek_seqN ?_ | refine ek_seqX ?_ | refine ek_blkN ?_ | refine ek_blkR ?_ | refine ek_blkX ?_ | refine ek_blkY rfl ?_)
      exact rnd_out (by rfl) (by simp) (scmp2 (by rfl) (by rfl) (by exact ⟨rfl, rfl, rfl⟩) (by rfl) (by first | rfl | (simp; done) | (simp [ints, prs]; done)) (by rfl) (by first | rfl | (simp; done) | (simp [ints, prs]; done)))
    | cons x xs =>
      unfold m20_0
      repeat' (first
        | (refine g_op ?_; first
          | refine ep_mov rfl ?_ | refine sp_loadN rfl rfl rfl rfl rfl ?_
          | refine sp_callv rfl rfl rfl rfl rfl rfl (by first | exact e1) ⟨rfl, rfl, rfl, rfl⟩ rfl rfl rfl ?_
          | refine sp_callb rfl rfl rfl rfl rfl rfl (by first | exact e1) ⟨rfl, rfl, rfl, rfl⟩ rfl rfl rfl ?_
          | refine ep_bin rfl rfl (by first | exact b_add (by omega) (by omega) | exact b_lss) ?_ | refine sp_store rfl rfl rfl rfl rfl rfl rfl rfl rfl rfl ?_ | refine sp_alloc rfl rfl ?_ | refine sp_build rfl rfl ?_
          | refine sp_bslice rfl rfl rfl rfl rfl ?_ | refine sp_push0 rfl (by first | exact .inl rfl | exact .inr rfl) rfl rfl rfl rfl rfl (by decide) rfl rfl rfl ?_ | refine sp_push rfl rfl rfl rfl rfl rfl rfl (by first | exact ints_len _ | exact prs_len _ _ | exact zints_len _) (by omega) (Nat.zero_le _) rfl rfl rfl rfl rfl ?_)
        | (refine g_ops ?_; first | refine eo_none ?_ | refine eo_nil ?_)
        | (refine g_code ?_; first | refine ec_seq ?_ | refine ec_region ?_ | refine ec_block ?_ | refine ec_skip ?_ | refine ec_exit ?_ | refine ec_condT rfl ?_ | refine ec_condF rfl ?_ | refine ec_condTH rfl (by assumption) ?_ | refine ec_condFH rfl (by assumption) ?_)
        | refine ek_seqN ?_ | refine ek_seqX ?_ | refine ek_blkN ?_ | refine ek_blkR ?_ | refine ek_blkX ?_ | refine ek_blkY rfl ?_)
      exact rnd_out (by rfl) (by simp) (scmp2 (by rfl) (by rfl) (by exact ⟨rfl, rfl, rfl⟩) (by rfl) (by first | rfl | (simp; done) | (simp [ints, prs]; done)) (by rfl) (by first | rfl | (simp; done) | (simp [ints, prs]; done)))

theorem evft_th (n : Nat) (hn : n ≤ 4) : Ev cx 20 [.int .i64 n, .fn 21 []] [] (slV .nils 0 (thL n)) (slH 0 2 (prs n) (thL n)) := by
  cases hs : thL n with
  | nil =>
    have lp := lpft_th n hn _ (by rw [show selm (thB n) idn (R2 (R2 n)) = _ from hs])
    refine has20.eev rfl rfl ?_
    unfold m20
    repeat' (first
      | refine sc_loop lp rfl rfl ⟨rfl, rfl, rfl⟩ rfl rfl rfl ?_
      | (refine g_op ?_; first
        | refine ep_mov rfl ?_
        | refine ep_call0 rfl (by first | exact ev31 _ hn) rfl rfl ?_
        | refine sp_call rfl rfl rfl rfl (by first | exact ev31 _ hn) ⟨rfl, rfl, rfl, rfl⟩ rfl rfl rfl ?_)
      | (refine g_ops ?_; first | refine eo_none ?_ | refine eo_nil ?_)
      | (refine g_code ?_; first | refine ec_seq ?_ | refine ec_region ?_ | refine ec_block ?_ | refine ec_ret ?_)
      | refine ek_seqN ?_ | refine ek_seqX ?_ | refine ek_seqR ?_ | refine ek_blkN ?_ | refine ek_blkR ?_ | refine ek_blkX ?_ | refine ek_blkY rfl ?_)
    refine sfin (.inr rfl) (by rfl) (by rfl) (by exact ⟨rfl, rfl, rfl⟩) (by rfl) (by rfl) (by rfl) (by first | rfl | (simp; done) | (simp [ints, prs]; done))
  | cons x xs =>
    have lp := lpft_th n hn _ (by rw [show selm (thB n) idn (R2 (R2 n)) = _ from hs])
    refine has20.eev rfl rfl ?_
    unfold m20
    repeat' (first
      | refine sc_loop lp rfl rfl ⟨rfl, rfl, rfl⟩ rfl rfl rfl ?_
      | (refine g_op ?_; first
        | refine ep_mov rfl ?_
        | refine ep_call0 rfl (by first | exact ev31 _ hn) rfl rfl ?_
        | refine sp_call rfl rfl rfl rfl (by first | exact ev31 _ hn) ⟨rfl, rfl, rfl, rfl⟩ rfl rfl rfl ?_)
      | (refine g_ops ?_; first | refine eo_none ?_ | refine eo_nil ?_)
      | (refine g_code ?_; first | refine ec_seq ?_ | refine ec_region ?_ | refine ec_block ?_ | refine ec_ret ?_)
      | refine ek_seqN ?_ | refine ek_seqX ?_ | refine ek_seqR ?_ | refine ek_blkN ?_ | refine ek_blkR ?_ | refine ek_blkX ?_ | refine ek_blkY rfl ?_)
    refine sfin (.inr rfl) (by rfl) (by rfl) (by exact ⟨rfl, rfl, rfl⟩) (by rfl) (by rfl) (by rfl) (by first | rfl | (simp; done) | (simp [ints, prs]; done))
-- impl.CountThreshold
def m7 : MC := (.seq (.region [⟨(.mov (.k (.int .i64 0))), (some 2), none⟩, ⟨(.mov (.k (.int .i64 0))), (some 3), none⟩] false) (.seq (.seq (.region [⟨(.mov (.t 0)), (some 4), none⟩, ⟨(.call 19 [(.t 4), (.k (.int .i64 0)), (.k (.int .i64 3))]), (some 5), none⟩, ⟨(.un .not (.t 5)), (some 6), none⟩] false) (.cond (.t 6) (.seq (.region [⟨(.mov (.k (.int .i64 0))), (some 2), none⟩, ⟨(.mov (.k (.int .i64 2))), (some 3), none⟩] false) .ret) .skip)) (.seq (.region [⟨(.mov (.t 0)), (some 7), none⟩, ⟨(.call 20 [(.t 7), (.k (.fn 21 []))]), (some 8), none⟩, ⟨(.len (.t 8)), (some 9), none⟩, ⟨(.mov (.t 9)), (some 2), none⟩, ⟨(.mov (.k (.int .i64 0))), (some 3), none⟩] false) .ret)))
theorem has7 : Has cx 7 10 m7 [(.tmp 2), (.tmp 3)] :=
  ⟨⟨Try.f7, Try.f7.body.getD .skip, by kernel_rfl, by kernel_rfl, by kernel_rfl, by kernel_rfl, by kernel_rfl, by kernel_rfl⟩⟩
theorem ev7 (z : Int) : Ev cx 7 [.int .i64 z] [] (.tup [.int .i64 (thC z).1, .int .i64 (thC z).2]) [] := by
  have e1 := ev19 z 0 3
  by_cases h : 0 ≤ z ∧ z ≤ 3
  · rw [decide_eq_true h] at e1
    obtain ⟨n, rfl⟩ := Int.eq_ofNat_of_zero_le h.1
    have e2 := evft_th n (by omega)
    rw [show thC (n : Int) = ((((thL n).length : Nat) : Int), 0) by rw [thC, if_pos h]; rfl]
    cases hs : thL n with
    | nil =>
      rw [hs] at e2
      refine has7.eev rfl rfl ?_
      unfold m7
      repeat' (first
        | (refine g_op ?_; first
          | refine ep_mov rfl ?_
          | refine ep_call0 rfl (by first | exact e1 | exact e2) rfl rfl ?_
          | refine sp_call rfl rfl rfl rfl (by first | exact e1 | exact e2) ⟨rfl, rfl, rfl, rfl⟩ rfl rfl rfl ?_
          | refine ep_not rfl ?_ | refine ep_lenS rfl ?_ | refine ep_lenN rfl ?_ | refine ep_lenE rfl ?_)
        | (refine g_ops ?_; first | refine eo_none ?_ | refine eo_nil ?_)
        | (refine g_code ?_; first | refine ec_seq ?_ | refine ec_region ?_ | refine ec_skip ?_ | refine ec_ret ?_ | refine ec_condT rfl ?_ | refine ec_condF rfl ?_ | refine ec_condTH rfl (by assumption) ?_ | refine ec_condFH rfl (by assumption) ?_)
        | refine ek_seqN ?_ | refine ek_seqR ?_)
      refine sfin (.inr rfl) (by rfl) (by rfl) (by exact ⟨rfl, rfl, rfl⟩) (by rfl) (by rfl) (by rfl) (by first | rfl | (simp; done) | (simp [ints, prs]; done))
    | cons x xs =>
      rw [hs] at e2
      refine has7.eev rfl rfl ?_
      unfold m7
      repeat' (first
        | (refine g_op ?_; first
          | refine ep_mov rfl ?_
          | refine ep_call0 rfl (by first | exact e1 | exact e2) rfl rfl ?_
          | refine sp_call rfl rfl rfl rfl (by first | exact e1 | exact e2) ⟨rfl, rfl, rfl, rfl⟩ rfl rfl rfl ?_
          | refine ep_not rfl ?_ | refine ep_lenS rfl ?_ | refine ep_lenN rfl ?_ | refine ep_lenE rfl ?_)
        | (refine g_ops ?_; first | refine eo_none ?_ | refine eo_nil ?_)
        | (refine g_code ?_; first | refine ec_seq ?_ | refine ec_region ?_ | refine ec_skip ?_ | refine ec_ret ?_ | refine ec_condT rfl ?_ | refine ec_condF rfl ?_ | refine ec_condTH rfl (by assumption) ?_ | refine ec_condFH rfl (by assumption) ?_)
        | refine ek_seqN ?_ | refine ek_seqR ?_)
      refine sfin (.inr rfl) (by rfl) (by rfl) (by exact ⟨rfl, rfl, rfl⟩) (by rfl) (by rfl) (by rfl) (by first | rfl | (simp; done) | (simp [ints, prs]; done))
  · rw [decide_eq_false h] at e1
    rw [show thC z = (0, 2) by rw [thC, if_neg h]]
    refine has7.eev rfl rfl ?_
    unfold m7
    repeat' (first
      | (refine g_op ?_; first
        | refine ep_mov rfl ?_
        | refine ep_call0 rfl (by first | exact e1) rfl rfl ?_
        | refine sp_call rfl rfl rfl rfl (by first | exact e1) ⟨rfl, rfl, rfl, rfl⟩ rfl rfl rfl ?_
        | refine ep_not rfl ?_ | refine ep_lenS rfl ?_ | refine ep_lenN rfl ?_ | refine ep_lenE rfl ?_)
      | (refine g_ops ?_; first | refine eo_none ?_ | refine eo_nil ?_)
      | (refine g_code ?_; first | refine ec_seq ?_ | refine ec_region ?_ | refine ec_skip ?_ | refine ec_ret ?_ | refine ec_condT rfl ?_ | refine ec_condF rfl ?_ | refine ec_condTH rfl (by assumption) ?_ | refine ec_condFH rfl (by assumption) ?_)
      | refine ek_seqN ?_ | refine ek_seqR ?_)
    refine sfin (.inr rfl) (by rfl) (by rfl) (by exact ⟨rfl, rfl, rfl⟩) (by rfl) (by rfl) (by rfl) (by first | rfl | (simp; done) | (simp [ints, prs]; done))
-- spec.CountThreshold
def m6_0 : MC := (.seq (.seq (.region [⟨(.mov (.t 5)), (some 12), none⟩, ⟨(.mov (.t 0)), (some 13), none⟩, ⟨(.call 17 [(.t 13)]), (some 14), none⟩, ⟨(.bin .leq (.t 12) (.t 14)), (some 15), none⟩] false) (.cond (.t 15) .skip (.exit 0))) (.seq (.block 1 (.seq (.region [⟨(.mov (.t 0)), (some 19), none⟩, ⟨(.mov (.t 5)), (some 20), none⟩, ⟨(.build [(.int .i64 0), (.int .i64 0)] [(0, (1, (.t 19))), (1, (1, (.t 20)))]), (some 21), none⟩, ⟨(.call 18 [(.t 21)]), (some 22), none⟩, ⟨(.mov (.t 22)), (some 18), none⟩, ⟨(.extract (.t 18) 0), (some 23), none⟩, ⟨(.extract (.t 18) 1), (some 24), none⟩, ⟨(.extract (.t 18) 2), (some 25), none⟩, ⟨(.mov (.t 23)), (some 6), none⟩, ⟨(.mov (.t 24)), (some 7), none⟩, ⟨(.mov (.t 25)), (some 8), none⟩] false) (.seq (.region [⟨(.mov (.t 8)), (some 26), none⟩] false) (.cond (.t 26) (.region [⟨(.mov (.t 4)), (some 27), none⟩, ⟨(.bin .add (.t 27) (.k (.int .i64 1))), (some 28), none⟩, ⟨(.mov (.t 28)), (some 4), none⟩] false) .skip)))) (.region [⟨(.mov (.t 5)), (some 16), none⟩, ⟨(.bin .add (.t 16) (.k (.int .i64 1))), (some 17), none⟩, ⟨(.mov (.t 17)), (some 5), none⟩] false)))
def m6 : MC := (.seq (.region [⟨(.mov (.k (.int .i64 0))), (some 2), none⟩, ⟨(.mov (.k (.int .i64 0))), (some 3), none⟩] false) (.seq (.seq (.region [⟨(.mov (.t 0)), (some 9), none⟩, ⟨(.call 16 [(.t 9), (.k (.int .i64 0)), (.k (.int .i64 3))]), (some 10), none⟩, ⟨(.un .not (.t 10)), (some 11), none⟩] false) (.cond (.t 11) (.seq (.region [⟨(.mov (.k (.int .i64 0))), (some 2), none⟩, ⟨(.mov (.k (.int .i64 2))), (some 3), none⟩] false) .ret) .skip)) (.seq (.region [⟨(.mov (.k (.int .i64 0))), (some 4), none⟩] false) (.seq (.seq (.region [⟨(.mov (.k (.int .i64 0))), (some 5), none⟩] false) (.block 0 (.loop m6_0))) (.seq (.region [⟨(.mov (.t 4)), (some 29), none⟩, ⟨(.mov (.t 29)), (some 2), none⟩, ⟨(.mov (.k (.int .i64 0))), (some 3), none⟩] false) .ret)))))
theorem has6 : Has cx 6 30 m6 [(.tmp 2), (.tmp 3)] :=
  ⟨⟨Try.f6, Try.f6.body.getD .skip, by kernel_rfl, by kernel_rfl, by kernel_rfl, by kernel_rfl, by kernel_rfl, by kernel_rfl⟩⟩
theorem lp6_0 (n : Nat) (hn : n ≤ 3) :
    LpS cx 30 0 m6_0 [(0, .int .i64 (n : Nat)), (4, .int .i64 (0 : Nat)), (5, .int .i64 (0 : Nat))] [] (.exit 0) [(4, .int .i64 ((thL n).length : Nat))] [] := by
  obtain ⟨h1, h2, h3, h4⟩ := shN (show n ≤ 4 by omega)
  refine lp_st (R2 (R2 n)) (fun i => (selm (thB n) idn i).length) (fun i c => [(0, .int .i64 (n : Nat)), (4, .int .i64 (c : Nat)), (5, .int .i64 (i : Nat))]) (fun i _ => []) (fun c => ⟨.exit 0, [(4, .int .i64 (c : Nat))], []⟩) ?_ ?_ (R2 (R2 n)) 0 (by omega)
  · intro i c hi hc
    have hle : decide ((i : Int) ≤ (R2 (R2 n) : Nat) - 1) = true := decide_eq_true (by omega)
    have hcl : c ≤ 65536 := by have := selm_len (thB n) idn i; omega
    cases hr : wRes n i with
    | none =>
      refine ⟨c, by rw [selm_f (p := thB n) (by rw [thB, hr]; rfl)]; exact hc, ?_⟩
      have e1 := ev18_none n i (by omega) (by omega) hr
      unfold m6_0
      repeat' (first
        | (refine g_op ?_; first
          | refine ep_mov rfl ?_
          | refine ep_call0 rfl (by first | exact e1 | exact ev17 _ (by omega)) rfl rfl ?_
          | refine sp_call rfl rfl rfl rfl (by first | exact e1 | exact ev17 _ (by omega)) ⟨rfl, rfl, rfl, rfl⟩ rfl rfl rfl ?_
          | refine ep_bin rfl rfl (by first | exact b_add (by omega) (by omega) | exact b_leq) ?_ | refine ep_extract rfl rfl ?_ | refine sp_build rfl rfl ?_)
        | (refine g_ops ?_; first | refine eo_none ?_ | refine eo_nil ?_)
        | (refine g_code ?_; first | refine ec_seq ?_ | refine ec_region ?_ | refine ec_block ?_ | refine ec_skip ?_ | refine ec_exit ?_ | refine ec_condT rfl ?_ | refine ec_condF rfl ?_ | refine ec_condTH rfl (by assumption) ?_ | refine ec_condFH rfl (by assumption) ?_)
        | refine ek_seqN ?_ | refine ek_seqX ?_ | refine ek_blkN ?_ | refine ek_blkR ?_ | refine ek_blkX ?_ | refine ek_blkY rfl ?_)
      exact rnd_on (by rfl) (scmp2 (by rfl) (by rfl) (by exact ⟨rfl, rfl, rfl⟩) (by rfl) (by first | rfl | (simp; done) | (simp [ints, prs]; done)) (by rfl) (by first | rfl | (simp; done) | (simp [ints, prs]; done)))
    | some l =>
      refine ⟨c + 1, by rw [selm_t (p := thB n) (by rw [thB, hr]; rfl), List.length_append]; simp [hc], ?_⟩
      have e1 := ev18_some n i (by omega) (by omega) l hr
      generalize wT n i = T at *
      cases l with
      | nil =>
        unfold m6_0
        repeat' (first
          | (refine g_op ?_; first
            | refine ep_mov rfl ?_
            | refine ep_call0 rfl (by first | exact e1 | exact ev17 _ (by omega)) rfl rfl ?_
            | refine sp_call rfl rfl rfl rfl (by first | exact e1 | exact ev17 _ (by omega)) ⟨rfl, rfl, rfl, rfl⟩ rfl rfl rfl ?_
            | refine ep_bin rfl rfl (by first | exact b_add (by omega) (by omega) | exact b_leq) ?_ | refine ep_extract rfl rfl ?_ | refine sp_build rfl rfl ?_)
          | (refine g_ops ?_; first | refine eo_none ?_ | refine eo_nil ?_)
          | (refine g_code ?_; first | refine ec_seq ?_ | refine ec_region ?_ | refine ec_block ?_ | refine ec_skip ?_ | refine ec_exit ?_ | refine ec_condT rfl ?_ | refine ec_condF rfl ?_ | refine ec_condTH rfl (by assumption) ?_ | refine ec_condFH rfl (by assumption) ?_)
          | refine ek_seqN ?_ | refine ek_seqX ?_ | refine ek_blkN ?_ | refine ek_blkR ?_ | refine ek_blkX ?_ | refine ek_blkY rfl ?_)
        exact rnd_on (by rfl) (scmp2 (by rfl) (by rfl) (by exact ⟨rfl, rfl, rfl⟩) (by rfl) (by first | rfl | (simp; done) | (simp [ints, prs]; done)) (by rfl) (by first | rfl | (simp; done) | (simp [ints, prs]; done)))
      | cons x xs =>
        unfold m6_0
        repeat' (first
          | (refine g_op ?_; first
            | refine ep_mov rfl ?_
            | refine ep_call0 rfl (by first | exact e1 | exact ev17 _ (by omega)) rfl rfl ?_
            | refine sp_call rfl rfl rfl rfl (by first | exact e1 | exact ev17 _ (by omega)) ⟨rfl, rfl, rfl, rfl⟩ rfl rfl rfl ?_
            | refine ep_bin rfl rfl (by first | exact b_add (by omega) (by omega) | exact b_leq) ?_ | refine ep_extract rfl rfl ?_ | refine sp_build rfl rfl ?_)
          | (refine g_ops ?_; first | refine eo_none ?_ | refine eo_nil ?_)
          | (refine g_code ?_; first | refine ec_seq ?_ | refine ec_region ?_ | refine ec_block ?_ | refine ec_skip ?_ | refine ec_exit ?_ | refine ec_condT rfl ?_ | refine ec_condF rfl ?_ | refine ec_condTH rfl (by assumption) ?_ | refine ec_condFH rfl (by assumption) ?_)
          | refine ek_seqN ?_ | refine ek_seqX ?_ | refine ek_blkN ?_ | refine ek_blkR ?_ | refine ek_blkX ?_ | refine ek_blkY rfl ?_)
        exact rnd_on (by rfl) (scmp2 (by rfl) (by rfl) (by exact ⟨rfl, rfl, rfl⟩) (by rfl) (by first | rfl | (simp; done) | (simp [ints, prs]; done)) (by rfl) (by first | rfl | (simp; done) | (simp [ints, prs]; done)))
  · intro c hc
    have hle : decide (((R2 (R2 n) : Nat) : Int) ≤ (R2 (R2 n) : Nat) - 1) = false := decide_eq_false (by omega)
    unfold m6_0
    repeat' (first
      | (refine g_op ?_; first
        | refine ep_mov rfl ?_
        | refine ep_call0 rfl (by first | exact ev17 _ (by omega)) rfl rfl ?_
        | refine sp_call rfl rfl rfl rfl (by first | exact ev17 _ (by omega)) ⟨rfl, rfl, rfl, rfl⟩ rfl rfl rfl ?_
        | refine ep_bin rfl rfl (by first | exact b_add (by omega) (by omega) | exact b_leq) ?_ | refine ep_extract rfl rfl ?_ | refine sp_build rfl rfl ?_)
      | (refine g_ops ?_; first | refine eo_none ?_ | refine eo_nil ?_)
      | (refine g_code ?_; first | refine ec_seq ?_ | refine ec_region ?_ | refine ec_block ?_ | refine ec_skip ?_ | refine ec_exit ?_ | refine ec_condT rfl ?_ | refine ec_condF rfl ?_ | refine ec_condTH rfl (by assumption) ?_ | refine ec_condFH rfl (by assumption) ?_)
      | refine ek_seqN ?_ | refine ek_seqX ?_ | refine ek_blkN ?_ | refine ek_blkR ?_ | refine ek_blkX ?_ | refine ek_blkY rfl ?_)
    exact rnd_out (by rfl) (by simp) (scmp2 (by rfl) (by rfl) (by exact ⟨rfl, rfl, rfl⟩) (by rfl) (by first | rfl | (simp; done) | (simp [ints, prs]; done)) (by rfl) (by first | rfl | (simp; done) | (simp [ints, prs]; done)))
theorem ev6 (z : Int) : Ev cx 6 [.int .i64 z] [] (.tup [.int .i64 (thC z).1, .int .i64 (thC z).2]) [] := by
  have e1 := ev16 z 0 3
  by_cases h : 0 ≤ z ∧ z ≤ 3
  · rw [decide_eq_true h] at e1
    obtain ⟨n, rfl⟩ := Int.eq_ofNat_of_zero_le h.1
    have lp := lp6_0 n (by omega)
    rw [show thC (n : Int) = ((((thL n).length : Nat) : Int), 0) by rw [thC, if_pos h]; rfl]
    generalize (thL n).length = K at *
    refine has6.eev rfl rfl ?_
    unfold m6
    repeat' (first
      | refine sc_loop lp rfl rfl ⟨rfl, rfl, rfl⟩ rfl rfl rfl ?_
      | (refine g_op ?_; first
        | refine ep_mov rfl ?_
        | refine ep_call0 rfl (by first | exact e1) rfl rfl ?_
        | refine sp_call rfl rfl rfl rfl (by first | exact e1) ⟨rfl, rfl, rfl, rfl⟩ rfl rfl rfl ?_
        | refine ep_not rfl ?_)
      | (refine g_ops ?_; first | refine eo_none ?_ | refine eo_nil ?_)
      | (refine g_code ?_; first | refine ec_seq ?_ | refine ec_region ?_ | refine ec_block ?_ | refine ec_skip ?_ | refine ec_ret ?_ | refine ec_condT rfl ?_ | refine ec_condF rfl ?_ | refine ec_condTH rfl (by assumption) ?_ | refine ec_condFH rfl (by assumption) ?_)
      | refine ek_seqN ?_ | refine ek_seqX ?_ | refine ek_seqR ?_ | refine ek_blkN ?_ | refine ek_blkR ?_ | refine ek_blkX ?_ | refine ek_blkY rfl ?_)
    refine sfin (.inr rfl) (by rfl) (by rfl) (by exact ⟨rfl, rfl, rfl⟩) (by rfl) (by rfl) (by rfl) (by first | rfl | (simp; done) | (simp [ints, prs]; done))
  · rw [decide_eq_false h] at e1
    rw [show thC z = (0, 2) by rw [thC, if_neg h]]
    refine has6.eev rfl rfl ?_
    unfold m6
    repeat' (first
      | (refine g_op ?_; first
        | refine ep_mov rfl ?_
        | refine ep_call0 rfl (by first | exact e1) rfl rfl ?_
        | refine sp_call rfl rfl rfl rfl (by first | exact e1) ⟨rfl, rfl, rfl, rfl⟩ rfl rfl rfl ?_
        | refine ep_not rfl ?_)
      | (refine g_ops ?_; first | refine eo_none ?_ | refine eo_nil ?_)
      | (refine g_code ?_; first | refine ec_seq ?_ | refine ec_region ?_ | refine ec_block ?_ | refine ec_skip ?_ | refine ec_ret ?_ | refine ec_condT rfl ?_ | refine ec_condF rfl ?_ | refine ec_condTH rfl (by assumption) ?_ | refine ec_condFH rfl (by assumption) ?_)
      | refine ek_seqN ?_ | refine ek_seqX ?_ | refine ek_seqR ?_ | refine ek_blkN ?_ | refine ek_blkR ?_ | refine ek_blkX ?_ | refine ek_blkY rfl ?_)
    refine sfin (.inr rfl) (by rfl) (by rfl) (by exact ⟨rfl, rfl, rfl⟩) (by rfl) (by rfl) (by rfl) (by first | rfl | (simp; done) | (simp [ints, prs]; done))
-- laws.FnExactCountThreshold
def m3 : MC := (.seq (.region [⟨(.mov (.k (.bool false))), (some 2), none⟩] false) (.seq (.region [⟨(.mov (.t 0)), (some 8), none⟩, ⟨(.call 6 [(.t 8)]), (some 9), none⟩, ⟨(.mov (.t 9)), (some 7), none⟩, ⟨(.extract (.t 7) 0), (some 10), none⟩, ⟨(.extract (.t 7) 1), (some 11), none⟩, ⟨(.mov (.t 10)), (some 3), none⟩, ⟨(.mov (.t 11)), (some 4), none⟩] false) (.seq (.region [⟨(.mov (.t 0)), (some 13), none⟩, ⟨(.call 7 [(.t 13)]), (some 14), none⟩, ⟨(.mov (.t 14)), (some 12), none⟩, ⟨(.extract (.t 12) 0), (some 15), none⟩, ⟨(.extract (.t 12) 1), (some 16), none⟩, ⟨(.mov (.t 15)), (some 5), none⟩, ⟨(.mov (.t 16)), (some 6), none⟩] false) (.seq (.seq (.region [⟨(.mov (.t 5)), (some 17), none⟩, ⟨(.mov (.t 3)), (some 18), none⟩, ⟨(.bin .neq (.t 17) (.t 18)), (some 19), none⟩, ⟨(.mov (.t 19)), (some 20), none⟩, ⟨(.mov (.t 6)), (some 21), (some (20, false))⟩, ⟨(.mov (.t 4)), (some 22), (some (20, false))⟩, ⟨(.bin .neq (.t 21) (.t 22)), (some 23), (some (20, false))⟩, ⟨(.pick (.t 20) (.k (.bool true)) (.t 23)), (some 24), none⟩] false) (.cond (.t 24) (.seq (.region [⟨(.mov (.k (.bool false))), (some 2), none⟩] false) .ret) .skip)) (.seq (.region [⟨(.mov (.k (.bool true))), (some 2), none⟩] false) .ret)))))
theorem has3 : Has cx 3 25 m3 [(.tmp 2)] :=
  ⟨⟨Try.f3, Try.f3.body.getD .skip, by kernel_rfl, by kernel_rfl, by kernel_rfl, by kernel_rfl, by kernel_rfl, by kernel_rfl⟩⟩
theorem ev3 (z : Int) : Ev cx 3 [.int .i64 z] [] (.bool true) [] := by
  have e1 := ev6 z
  have e2 := ev7 z
  generalize thC z = q at e1 e2
  have h1 : (q.1 != q.1) = false := by simp
  have h2 : (q.2 != q.2) = false := by simp
  refine has3.eev rfl rfl ?_
  unfold m3
  repeat' (first
    | (refine g_op ?_; first
      | refine ep_mov rfl ?_
      | refine ep_call0 rfl (by first | exact e1 | exact e2) rfl rfl ?_
      | refine sp_call rfl rfl rfl rfl (by first | exact e1 | exact e2) ⟨rfl, rfl, rfl, rfl⟩ rfl rfl rfl ?_
      | refine ep_bin rfl rfl (by exact b_neq) ?_ | refine ep_pickT rfl rfl ?_ | refine ep_pickF rfl rfl ?_ | refine ep_pickTH rfl (by assumption) rfl ?_ | refine ep_pickFH rfl (by assumption) rfl ?_
      | refine ep_extract rfl rfl ?_)
    | (refine g_ops ?_; first | refine eo_none ?_ | refine eo_nil ?_ | refine eo_yes rfl ?_ | refine eo_no rfl ?_ | refine eo_und rfl ?_ | refine eo_yesH rfl (by assumption) ?_ | refine eo_noH rfl (by assumption) ?_)
    | (refine g_code ?_; first | refine ec_seq ?_ | refine ec_region ?_ | refine ec_skip ?_ | refine ec_ret ?_ | refine ec_condT rfl ?_ | refine ec_condF rfl ?_ | refine ec_condTH rfl (by assumption) ?_ | refine ec_condFH rfl (by assumption) ?_)
    | refine ek_seqN ?_ | refine ek_seqR ?_)
  refine sfin (.inr rfl) (by rfl) (by rfl) (by exact ⟨rfl, rfl, rfl⟩) (by rfl) (by rfl) (by rfl) (by first | rfl | (simp; done) | (simp [ints, prs]; done))


end Go.Proofs.Ytcchdnnpccelbaa
