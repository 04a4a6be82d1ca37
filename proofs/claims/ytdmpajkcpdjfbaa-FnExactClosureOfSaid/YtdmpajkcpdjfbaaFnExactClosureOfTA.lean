/- What each function that the statement reaches returns. -/
import Derived.Test.YtdmpajkcpdjfbaaMiD
import Derived.Test.YtdmpajkcpdjfbaaChecked
import Derived.KernelRfl
set_option linter.unusedVariables false
set_option linter.unusedSimpArgs false
set_option maxRecDepth 100000
set_option maxHeartbeats 4000000
namespace Go.Proofs.Ytdmpajkcpdjfbaa
open Go Go.Proofs.Ytdmpajkcpdjfbaa.Mi
noncomputable def cx : Cx := ⟨Try.prog, id, id, by kernel_rfl⟩
attribute [local irreducible] code opsK opsDK gopK opK seqK blockK callK binV
def R2 (n : Nat) : Nat := 2 ^ n
theorem shR (n : Nat) : 1 <<< n = R2 n := by simp [R2, Nat.shiftLeft_eq]
theorem shN {n : Nat} (h : n ≤ 4) : R2 n ≤ 16 ∧ R2 (R2 n) ≤ 65536 ∧ 1 ≤ R2 n ∧ 1 ≤ R2 (R2 n) := by
  have : n = 0 ∨ n = 1 ∨ n = 2 ∨ n = 3 ∨ n = 4 := by omega
  rcases this with rfl | rfl | rfl | rfl | rfl <;> decide
theorem b_shl1 {k' : IntKind} {y : Nat} (h : R2 y < 9223372036854775808) (hy : y ≤ 64) : binV .shl (.int .i64 1) (.int k' y) = some (.int .i64 (R2 y : Nat)) := by
  rw [← shR]; exact b_shl (x := 1) (by rw [shR]; exact h) hy
attribute [local irreducible] R2
def isRel (p t : Int) : Bool := decide (1 ≤ p ∧ p ≤ 4) && decide (0 ≤ t ∧ t ≤ (R2 (R2 p.toNat) : Nat) - 1)
def isFn (p t : Int) : Bool := decide (0 ≤ p ∧ p ≤ 4) && decide (0 ≤ t ∧ t ≤ (R2 (R2 p.toNat) : Nat) - 1)
-- impl.within
def m101 : MC := (.seq (.region [⟨(.mov (.k (.bool false))), (some 6), none⟩] false) (.seq (.region [⟨(.mov (.t 0)), (some 7), none⟩, ⟨(.mov (.t 1)), (some 8), none⟩, ⟨(.bin .geq (.t 7) (.t 8)), (some 9), none⟩, ⟨(.mov (.t 9)), (some 10), none⟩, ⟨(.mov (.t 0)), (some 11), (some (10, true))⟩, ⟨(.mov (.t 2)), (some 12), (some (10, true))⟩, ⟨(.bin .leq (.t 11) (.t 12)), (some 13), (some (10, true))⟩, ⟨(.pick (.t 10) (.t 13) (.k (.bool false))), (some 14), none⟩, ⟨(.mov (.t 14)), (some 6), none⟩] false) .ret))
theorem has101 : Has cx 101 15 m101 [(.tmp 6)] :=
  ⟨⟨Try.f101, Try.f101.body.getD .skip, by kernel_rfl, by kernel_rfl, by kernel_rfl, by kernel_rfl, by kernel_rfl, by kernel_rfl⟩⟩
theorem ev101 (z lo hi : Int) : Ev cx 101 [.int .i64 z, .int .i64 lo, .int .i64 hi] [] (.bool (decide (lo ≤ z ∧ z ≤ hi))) [] := by
  by_cases h1 : lo ≤ z
  · have h2 : decide (z ≥ lo) = true := decide_eq_true h1
    refine has101.eev rfl rfl ?_
    unfold m101
    repeat' (first
      | (refine g_op ?_; first
        | refine ep_mov rfl ?_
        | refine ep_bin rfl rfl (by first | exact b_add (by omega) (by omega) | exact b_sub (by omega) (by omega) | exact b_and (by omega) (by omega) | exact b_or (by omega) (by omega) | exact b_shr (by omega) | exact b_shl (by omega) (by omega) | exact b_lss | exact b_leq | exact b_gtr | exact b_geq | exact b_eql | exact b_neq) ?_
        | refine ep_pickT rfl rfl ?_ | refine ep_pickF rfl rfl ?_ | refine ep_pickTH rfl (by assumption) rfl ?_ | refine ep_pickFH rfl (by assumption) rfl ?_)
      | (refine g_ops ?_; first | refine eo_none ?_ | refine eo_nil ?_ | refine eo_yes rfl ?_ | refine eo_no rfl ?_ | refine eo_und rfl ?_ | refine eo_yesH rfl (by assumption) ?_ | refine eo_noH rfl (by assumption) ?_)
      | (refine g_code ?_; first | refine ec_seq ?_ | refine ec_region ?_ | refine ec_ret ?_)
      | refine ek_seqN ?_ | refine ek_seqR ?_)
    refine sfin (.inr rfl) (by rfl) (by rfl) (by exact ⟨rfl, rfl, rfl⟩) (by rfl) (by rfl) (by exact congrArg V.bool (by simp [h1])) (by first | rfl | (simp; done) | (simp [ints, prs]; done))
  · have h2 : decide (z ≥ lo) = false := decide_eq_false h1
    refine has101.eev rfl rfl ?_
    unfold m101
    repeat' (first
      | (refine g_op ?_; first
        | refine ep_mov rfl ?_
        | refine ep_bin rfl rfl (by first | exact b_add (by omega) (by omega) | exact b_sub (by omega) (by omega) | exact b_and (by omega) (by omega) | exact b_or (by omega) (by omega) | exact b_shr (by omega) | exact b_shl (by omega) (by omega) | exact b_lss | exact b_leq | exact b_gtr | exact b_geq | exact b_eql | exact b_neq) ?_
        | refine ep_pickT rfl rfl ?_ | refine ep_pickF rfl rfl ?_ | refine ep_pickTH rfl (by assumption) rfl ?_ | refine ep_pickFH rfl (by assumption) rfl ?_)
      | (refine g_ops ?_; first | refine eo_none ?_ | refine eo_nil ?_ | refine eo_yes rfl ?_ | refine eo_no rfl ?_ | refine eo_und rfl ?_ | refine eo_yesH rfl (by assumption) ?_ | refine eo_noH rfl (by assumption) ?_)
      | (refine g_code ?_; first | refine ec_seq ?_ | refine ec_region ?_ | refine ec_ret ?_)
      | refine ek_seqN ?_ | refine ek_seqR ?_)
    refine sfin (.inr rfl) (by rfl) (by rfl) (by exact ⟨rfl, rfl, rfl⟩) (by rfl) (by rfl) (by exact congrArg V.bool (by simp [h1])) (by first | rfl | (simp; done) | (simp [ints, prs]; done))
-- spec.l01In
def m97 : MC := (.seq (.region [⟨(.mov (.k (.bool false))), (some 6), none⟩] false) (.seq (.region [⟨(.mov (.t 0)), (some 7), none⟩, ⟨(.mov (.t 1)), (some 8), none⟩, ⟨(.bin .geq (.t 7) (.t 8)), (some 9), none⟩, ⟨(.mov (.t 9)), (some 10), none⟩, ⟨(.mov (.t 0)), (some 11), (some (10, true))⟩, ⟨(.mov (.t 2)), (some 12), (some (10, true))⟩, ⟨(.bin .leq (.t 11) (.t 12)), (some 13), (some (10, true))⟩, ⟨(.pick (.t 10) (.t 13) (.k (.bool false))), (some 14), none⟩, ⟨(.mov (.t 14)), (some 6), none⟩] false) .ret))
theorem has97 : Has cx 97 15 m97 [(.tmp 6)] :=
  ⟨⟨Try.f97, Try.f97.body.getD .skip, by kernel_rfl, by kernel_rfl, by kernel_rfl, by kernel_rfl, by kernel_rfl, by kernel_rfl⟩⟩
theorem ev97 (z lo hi : Int) : Ev cx 97 [.int .i64 z, .int .i64 lo, .int .i64 hi] [] (.bool (decide (lo ≤ z ∧ z ≤ hi))) [] := by
  by_cases h1 : lo ≤ z
  · have h2 : decide (z ≥ lo) = true := decide_eq_true h1
    refine has97.eev rfl rfl ?_
    unfold m97
    repeat' (first
      | (refine g_op ?_; first
        | refine ep_mov rfl ?_
        | refine ep_bin rfl rfl (by first | exact b_add (by omega) (by omega) | exact b_sub (by omega) (by omega) | exact b_and (by omega) (by omega) | exact b_or (by omega) (by omega) | exact b_shr (by omega) | exact b_shl (by omega) (by omega) | exact b_lss | exact b_leq | exact b_gtr | exact b_geq | exact b_eql | exact b_neq) ?_
        | refine ep_pickT rfl rfl ?_ | refine ep_pickF rfl rfl ?_ | refine ep_pickTH rfl (by assumption) rfl ?_ | refine ep_pickFH rfl (by assumption) rfl ?_)
      | (refine g_ops ?_; first | refine eo_none ?_ | refine eo_nil ?_ | refine eo_yes rfl ?_ | refine eo_no rfl ?_ | refine eo_und rfl ?_ | refine eo_yesH rfl (by assumption) ?_ | refine eo_noH rfl (by assumption) ?_)
      | (refine g_code ?_; first | refine ec_seq ?_ | refine ec_region ?_ | refine ec_ret ?_)
      | refine ek_seqN ?_ | refine ek_seqR ?_)
    refine sfin (.inr rfl) (by rfl) (by rfl) (by exact ⟨rfl, rfl, rfl⟩) (by rfl) (by rfl) (by exact congrArg V.bool (by simp [h1])) (by first | rfl | (simp; done) | (simp [ints, prs]; done))
  · have h2 : decide (z ≥ lo) = false := decide_eq_false h1
    refine has97.eev rfl rfl ?_
    unfold m97
    repeat' (first
      | (refine g_op ?_; first
        | refine ep_mov rfl ?_
        | refine ep_bin rfl rfl (by first | exact b_add (by omega) (by omega) | exact b_sub (by omega) (by omega) | exact b_and (by omega) (by omega) | exact b_or (by omega) (by omega) | exact b_shr (by omega) | exact b_shl (by omega) (by omega) | exact b_lss | exact b_leq | exact b_gtr | exact b_geq | exact b_eql | exact b_neq) ?_
        | refine ep_pickT rfl rfl ?_ | refine ep_pickF rfl rfl ?_ | refine ep_pickTH rfl (by assumption) rfl ?_ | refine ep_pickFH rfl (by assumption) rfl ?_)
      | (refine g_ops ?_; first | refine eo_none ?_ | refine eo_nil ?_ | refine eo_yes rfl ?_ | refine eo_no rfl ?_ | refine eo_und rfl ?_ | refine eo_yesH rfl (by assumption) ?_ | refine eo_noH rfl (by assumption) ?_)
      | (refine g_code ?_; first | refine ec_seq ?_ | refine ec_region ?_ | refine ec_ret ?_)
      | refine ek_seqN ?_ | refine ek_seqR ?_)
    refine sfin (.inr rfl) (by rfl) (by rfl) (by exact ⟨rfl, rfl, rfl⟩) (by rfl) (by rfl) (by exact congrArg V.bool (by simp [h1])) (by first | rfl | (simp; done) | (simp [ints, prs]; done))
-- impl.rowsOf
def m136 : MC := (.seq (.region [⟨(.mov (.k (.int .i64 0))), (some 2), none⟩] false) (.seq (.region [⟨(.mov (.t 0)), (some 3), none⟩, ⟨(.bin .shl (.k (.int .i64 1)) (.t 3)), (some 4), none⟩, ⟨(.mov (.t 4)), (some 2), none⟩] false) .ret))
theorem has136 : Has cx 136 5 m136 [(.tmp 2)] :=
  ⟨⟨Try.f136, Try.f136.body.getD .skip, by kernel_rfl, by kernel_rfl, by kernel_rfl, by kernel_rfl, by kernel_rfl, by kernel_rfl⟩⟩
theorem ev136 (n : Nat) (h : n ≤ 4) : Ev cx 136 [.int .i64 n] [] (.int .i64 (R2 n : Nat)) [] := by
  obtain ⟨h1, h2, h3, h4⟩ := shN h
  refine has136.eev rfl rfl ?_
  unfold m136
  repeat' (first
    | (refine g_op ?_; first
      | refine ep_mov rfl ?_
      | refine ep_bin rfl rfl (by first | exact b_shl1 (by omega) (by omega) | exact b_add (by omega) (by omega) | exact b_sub (by omega) (by omega) | exact b_and (by omega) (by omega) | exact b_or (by omega) (by omega) | exact b_shr (by omega) | exact b_shl (by omega) (by omega) | exact b_lss | exact b_leq | exact b_gtr | exact b_geq | exact b_eql | exact b_neq) ?_)
    | (refine g_ops ?_; first | refine eo_none ?_ | refine eo_nil ?_)
    | (refine g_code ?_; first | refine ec_seq ?_ | refine ec_region ?_ | refine ec_ret ?_)
    | refine ek_seqN ?_ | refine ek_seqR ?_)
  refine sfin (.inr rfl) (by rfl) (by rfl) (by exact ⟨rfl, rfl, rfl⟩) (by rfl) (by rfl) (by rfl) (by first | rfl | (simp; done) | (simp [ints, prs]; done))
-- impl.funcsOf
def m102 : MC := (.seq (.region [⟨(.mov (.k (.int .i64 0))), (some 2), none⟩] false) (.seq (.region [⟨(.mov (.t 0)), (some 3), none⟩, ⟨(.call 136 [(.t 3)]), (some 4), none⟩, ⟨(.bin .shl (.k (.int .i64 1)) (.t 4)), (some 5), none⟩, ⟨(.mov (.t 5)), (some 2), none⟩] false) .ret))
theorem has102 : Has cx 102 6 m102 [(.tmp 2)] :=
  ⟨⟨Try.f102, Try.f102.body.getD .skip, by kernel_rfl, by kernel_rfl, by kernel_rfl, by kernel_rfl, by kernel_rfl, by kernel_rfl⟩⟩
theorem ev102 (n : Nat) (h : n ≤ 4) : Ev cx 102 [.int .i64 n] [] (.int .i64 (R2 (R2 n) : Nat)) [] := by
  obtain ⟨h1, h2, h3, h4⟩ := shN h
  refine has102.eev rfl rfl ?_
  unfold m102
  repeat' (first
    | (refine g_op ?_; first
      | refine ep_mov rfl ?_
      | refine ep_call0 rfl (by first | exact ev136 _ h) rfl rfl ?_
      | refine sp_call rfl rfl rfl rfl (by first | exact ev136 _ h) ⟨rfl, rfl, rfl, rfl⟩ rfl rfl rfl ?_
      | refine ep_bin rfl rfl (by first | exact b_shl1 (by omega) (by omega) | exact b_add (by omega) (by omega) | exact b_sub (by omega) (by omega) | exact b_and (by omega) (by omega) | exact b_or (by omega) (by omega) | exact b_shr (by omega) | exact b_shl (by omega) (by omega) | exact b_lss | exact b_leq | exact b_gtr | exact b_geq | exact b_eql | exact b_neq) ?_)
    | (refine g_ops ?_; first | refine eo_none ?_ | refine eo_nil ?_)
    | (refine g_code ?_; first | refine ec_seq ?_ | refine ec_region ?_ | refine ec_ret ?_)
    | refine ek_seqN ?_ | refine ek_seqR ?_)
  refine sfin (.inr rfl) (by rfl) (by rfl) (by exact ⟨rfl, rfl, rfl⟩) (by rfl) (by rfl) (by rfl) (by first | rfl | (simp; done) | (simp [ints, prs]; done))
-- spec.l01Rows
def m58 : MC := (.seq (.region [⟨(.mov (.k (.int .i64 0))), (some 2), none⟩] false) (.seq (.region [⟨(.mov (.t 0)), (some 3), none⟩, ⟨(.conv .u64 (.t 3)), (some 4), none⟩, ⟨(.bin .shl (.k (.int .i64 1)) (.t 4)), (some 5), none⟩, ⟨(.mov (.t 5)), (some 2), none⟩] false) .ret))
theorem has58 : Has cx 58 6 m58 [(.tmp 2)] :=
  ⟨⟨Try.f58, Try.f58.body.getD .skip, by kernel_rfl, by kernel_rfl, by kernel_rfl, by kernel_rfl, by kernel_rfl, by kernel_rfl⟩⟩
theorem ev58 (n : Nat) (h : n ≤ 4) : Ev cx 58 [.int .i64 n] [] (.int .i64 (R2 n : Nat)) [] := by
  obtain ⟨h1, h2, h3, h4⟩ := shN h
  refine has58.eev rfl rfl ?_
  unfold m58
  repeat' (first
    | (refine g_op ?_; first
      | refine ep_mov rfl ?_
      | refine ep_bin rfl rfl (by first | exact b_shl1 (by omega) (by omega) | exact b_add (by omega) (by omega) | exact b_sub (by omega) (by omega) | exact b_and (by omega) (by omega) | exact b_or (by omega) (by omega) | exact b_shr (by omega) | exact b_shl (by omega) (by omega) | exact b_lss | exact b_leq | exact b_gtr | exact b_geq | exact b_eql | exact b_neq) ?_
      | refine ep_conv rfl (by first | exact w_u64 (by omega) (by omega) | exact wrap_id (by omega) (by omega) | rfl) ?_)
    | (refine g_ops ?_; first | refine eo_none ?_ | refine eo_nil ?_)
    | (refine g_code ?_; first | refine ec_seq ?_ | refine ec_region ?_ | refine ec_ret ?_)
    | refine ek_seqN ?_ | refine ek_seqR ?_)
  refine sfin (.inr rfl) (by rfl) (by rfl) (by exact ⟨rfl, rfl, rfl⟩) (by rfl) (by rfl) (by rfl) (by first | rfl | (simp; done) | (simp [ints, prs]; done))
-- spec.l01All
def m98 : MC := (.seq (.region [⟨(.mov (.k (.int .i64 0))), (some 2), none⟩] false) (.seq (.region [⟨(.mov (.t 0)), (some 3), none⟩, ⟨(.call 58 [(.t 3)]), (some 4), none⟩, ⟨(.conv .u64 (.t 4)), (some 5), none⟩, ⟨(.bin .shl (.k (.int .i64 1)) (.t 5)), (some 6), none⟩, ⟨(.bin .sub (.t 6) (.k (.int .i64 1))), (some 7), none⟩, ⟨(.mov (.t 7)), (some 2), none⟩] false) .ret))
theorem has98 : Has cx 98 8 m98 [(.tmp 2)] :=
  ⟨⟨Try.f98, Try.f98.body.getD .skip, by kernel_rfl, by kernel_rfl, by kernel_rfl, by kernel_rfl, by kernel_rfl, by kernel_rfl⟩⟩
theorem ev98 (n : Nat) (h : n ≤ 4) : Ev cx 98 [.int .i64 n] [] (.int .i64 ((R2 (R2 n) : Nat) - 1)) [] := by
  obtain ⟨h1, h2, h3, h4⟩ := shN h
  refine has98.eev rfl rfl ?_
  unfold m98
  repeat' (first
    | (refine g_op ?_; first
      | refine ep_mov rfl ?_
      | refine ep_call0 rfl (by first | exact ev58 _ h) rfl rfl ?_
      | refine sp_call rfl rfl rfl rfl (by first | exact ev58 _ h) ⟨rfl, rfl, rfl, rfl⟩ rfl rfl rfl ?_
      | refine ep_bin rfl rfl (by first | exact b_shl1 (by omega) (by omega) | exact b_add (by omega) (by omega) | exact b_sub (by omega) (by omega) | exact b_and (by omega) (by omega) | exact b_or (by omega) (by omega) | exact b_shr (by omega) | exact b_shl (by omega) (by omega) | exact b_lss | exact b_leq | exact b_gtr | exact b_geq | exact b_eql | exact b_neq) ?_
      | refine ep_conv rfl (by first | exact w_u64 (by omega) (by omega) | exact wrap_id (by omega) (by omega) | rfl) ?_)
    | (refine g_ops ?_; first | refine eo_none ?_ | refine eo_nil ?_)
    | (refine g_code ?_; first | refine ec_seq ?_ | refine ec_region ?_ | refine ec_ret ?_)
    | refine ek_seqN ?_ | refine ek_seqR ?_)
  refine sfin (.inr rfl) (by rfl) (by rfl) (by exact ⟨rfl, rfl, rfl⟩) (by rfl) (by rfl) (by rfl) (by first | rfl | (simp; done) | (simp [ints, prs]; done))
-- impl.isArity
def m100 : MC := (.seq (.region [⟨(.mov (.k (.bool false))), (some 2), none⟩] false) (.seq (.region [⟨(.mov (.t 0)), (some 3), none⟩, ⟨(.call 101 [(.t 3), (.k (.int .i64 0)), (.k (.int .i64 4))]), (some 4), none⟩, ⟨(.mov (.t 4)), (some 2), none⟩] false) .ret))
theorem has100 : Has cx 100 5 m100 [(.tmp 2)] :=
  ⟨⟨Try.f100, Try.f100.body.getD .skip, by kernel_rfl, by kernel_rfl, by kernel_rfl, by kernel_rfl, by kernel_rfl, by kernel_rfl⟩⟩
theorem ev100 (z : Int) : Ev cx 100 [.int .i64 z] [] (.bool (decide (0 ≤ z ∧ z ≤ 4))) [] := by
  refine has100.eev rfl rfl ?_
  unfold m100
  repeat' (first
    | (refine g_op ?_; first
      | refine ep_mov rfl ?_
      | refine ep_call0 rfl (by first | exact ev101 _ _ _) rfl rfl ?_
      | refine sp_call rfl rfl rfl rfl (by first | exact ev101 _ _ _) ⟨rfl, rfl, rfl, rfl⟩ rfl rfl rfl ?_)
    | (refine g_ops ?_; first | refine eo_none ?_ | refine eo_nil ?_)
    | (refine g_code ?_; first | refine ec_seq ?_ | refine ec_region ?_ | refine ec_ret ?_)
    | refine ek_seqN ?_ | refine ek_seqR ?_)
  refine sfin (.inr rfl) (by rfl) (by rfl) (by exact ⟨rfl, rfl, rfl⟩) (by rfl) (by rfl) (by rfl) (by first | rfl | (simp; done) | (simp [ints, prs]; done))
-- impl.IsRelation
def m74 : MC := (.seq (.region [⟨(.box (.t 0)), (some 1), none⟩, ⟨(.mov (.k (.bool false))), (some 2), none⟩] false) (.seq (.region [⟨(.fieldAddr 0 (.t 1)), (some 3), none⟩, ⟨(.load none (.t 3)), (some 4), none⟩, ⟨(.callw 101 [(.t 4), (.k (.int .i64 1)), (.k (.int .i64 4))]), (some 5), none⟩, ⟨(.mov (.t 5)), (some 6), none⟩, ⟨(.fieldAddr 1 (.t 1)), (some 7), (some (6, true))⟩, ⟨(.load none (.t 7)), (some 8), (some (6, true))⟩, ⟨(.fieldAddr 0 (.t 1)), (some 9), (some (6, true))⟩, ⟨(.load none (.t 9)), (some 10), (some (6, true))⟩, ⟨(.call 102 [(.t 10)]), (some 11), (some (6, true))⟩, ⟨(.bin .sub (.t 11) (.k (.int .i64 1))), (some 12), (some (6, true))⟩, ⟨(.callw 101 [(.t 8), (.k (.int .i64 0)), (.t 12)]), (some 13), (some (6, true))⟩, ⟨(.pick (.t 6) (.t 13) (.k (.bool false))), (some 14), none⟩, ⟨(.mov (.t 14)), (some 2), none⟩] true) .ret))
theorem has74 : Has cx 74 15 m74 [(.tmp 2)] :=
  ⟨⟨Try.f74, Try.f74.body.getD .skip, by kernel_rfl, by kernel_rfl, by kernel_rfl, by kernel_rfl, by kernel_rfl, by kernel_rfl⟩⟩
theorem ev74 (p t : Int) : Ev cx 74 [.agg [.int .i64 p, .int .i64 t]] [] (.bool (isRel p t)) [] := by
  by_cases h1 : 1 ≤ p ∧ p ≤ 4
  · have h2 : decide (1 ≤ p ∧ p ≤ 4) = true := decide_eq_true h1
    obtain ⟨n, rfl⟩ := Int.eq_ofNat_of_zero_le (show 0 ≤ p by omega)
    have h3 : n ≤ 4 := by omega
    obtain ⟨h4, h5, h6, h7⟩ := shN h3
    refine has74.eev rfl rfl ?_
    unfold m74
    repeat' (first
      | (refine g_op ?_; first
        | refine ep_mov rfl ?_ | refine ep_load1 rfl rfl rfl rfl ?_ | refine ep_fieldAddr rfl ?_
        | refine ep_call0 rfl (by first | exact ev101 _ _ _ | exact ev102 _ h3) rfl rfl ?_
        | refine sp_call rfl rfl rfl rfl (by first | exact ev101 _ _ _ | exact ev102 _ h3) ⟨rfl, rfl, rfl, rfl⟩ rfl rfl rfl ?_
        | refine ep_callw0 rfl (by first | exact ev101 _ _ _ | exact ev102 _ h3) rfl rfl ?_
        | refine sp_callw rfl rfl rfl rfl (by first | exact ev101 _ _ _ | exact ev102 _ h3) ⟨rfl, rfl, rfl, rfl⟩ rfl rfl rfl (by first | exact WrP_refl _ _ | (repeat' (first | exact rfl | exact True.intro | refine And.intro ?_ ?_))) ?_
        | refine ep_bin rfl rfl (by first | exact b_add (by omega) (by omega) | exact b_sub (by omega) (by omega) | exact b_and (by omega) (by omega) | exact b_or (by omega) (by omega) | exact b_shr (by omega) | exact b_shl (by omega) (by omega) | exact b_lss | exact b_leq | exact b_gtr | exact b_geq | exact b_eql | exact b_neq) ?_
        | refine ep_pickT rfl rfl ?_ | refine ep_pickF rfl rfl ?_ | refine ep_pickTH rfl (by assumption) rfl ?_ | refine ep_pickFH rfl (by assumption) rfl ?_ | refine sp_box rfl rfl rfl rfl rfl ?_)
      | (refine g_ops ?_; first | refine eo_none ?_ | refine eo_nil ?_ | refine eo_yes rfl ?_ | refine eo_no rfl ?_ | refine eo_und rfl ?_ | refine eo_yesH rfl (by assumption) ?_ | refine eo_noH rfl (by assumption) ?_)
      | (refine g_dops ?_; first | refine ed_none ?_ | refine ed_nil ?_ | refine ed_yes rfl ?_ | refine ed_no rfl ?_ | refine ed_und rfl ?_ | refine ed_yesH rfl (by assumption) ?_ | refine ed_noH rfl (by assumption) ?_)
      | refine ed_same rfl ?_ | refine ed_one rfl rfl rfl rfl ?_ | refine ed_two rfl rfl rfl rfl rfl rfl rfl ?_ | refine ed_write rfl rfl ?_
      | (refine g_code ?_; first | refine ec_seq ?_ | refine ec_region ?_ | refine ec_draw ?_ | refine ec_ret ?_)
      | refine ek_seqN ?_ | refine ek_seqR ?_)
    refine sfin (.inr rfl) (by rfl) (by rfl) (by exact ⟨rfl, rfl, rfl⟩) (by rfl) (by rfl) (by exact congrArg V.bool (by simp [isRel, h1])) (by first | rfl | (simp; done) | (simp [ints, prs]; done))
  · have h2 : decide (1 ≤ p ∧ p ≤ 4) = false := decide_eq_false h1
    refine has74.eev rfl rfl ?_
    unfold m74
    repeat' (first
      | (refine g_op ?_; first
        | refine ep_mov rfl ?_ | refine ep_load1 rfl rfl rfl rfl ?_ | refine ep_fieldAddr rfl ?_
        | refine ep_call0 rfl (by first | exact ev101 _ _ _) rfl rfl ?_
        | refine sp_call rfl rfl rfl rfl (by first | exact ev101 _ _ _) ⟨rfl, rfl, rfl, rfl⟩ rfl rfl rfl ?_
        | refine ep_callw0 rfl (by first | exact ev101 _ _ _) rfl rfl ?_
        | refine sp_callw rfl rfl rfl rfl (by first | exact ev101 _ _ _) ⟨rfl, rfl, rfl, rfl⟩ rfl rfl rfl (by first | exact WrP_refl _ _ | (repeat' (first | exact rfl | exact True.intro | refine And.intro ?_ ?_))) ?_
        | refine ep_bin rfl rfl (by first | exact b_add (by omega) (by omega) | exact b_sub (by omega) (by omega) | exact b_and (by omega) (by omega) | exact b_or (by omega) (by omega) | exact b_shr (by omega) | exact b_shl (by omega) (by omega) | exact b_lss | exact b_leq | exact b_gtr | exact b_geq | exact b_eql | exact b_neq) ?_
        | refine ep_pickT rfl rfl ?_ | refine ep_pickF rfl rfl ?_ | refine ep_pickTH rfl (by assumption) rfl ?_ | refine ep_pickFH rfl (by assumption) rfl ?_ | refine sp_box rfl rfl rfl rfl rfl ?_)
      | (refine g_ops ?_; first | refine eo_none ?_ | refine eo_nil ?_ | refine eo_yes rfl ?_ | refine eo_no rfl ?_ | refine eo_und rfl ?_ | refine eo_yesH rfl (by assumption) ?_ | refine eo_noH rfl (by assumption) ?_)
      | (refine g_dops ?_; first | refine ed_none ?_ | refine ed_nil ?_ | refine ed_yes rfl ?_ | refine ed_no rfl ?_ | refine ed_und rfl ?_ | refine ed_yesH rfl (by assumption) ?_ | refine ed_noH rfl (by assumption) ?_)
      | refine ed_same rfl ?_ | refine ed_one rfl rfl rfl rfl ?_ | refine ed_two rfl rfl rfl rfl rfl rfl rfl ?_ | refine ed_write rfl rfl ?_
      | (refine g_code ?_; first | refine ec_seq ?_ | refine ec_region ?_ | refine ec_draw ?_ | refine ec_ret ?_)
      | refine ek_seqN ?_ | refine ek_seqR ?_)
    refine sfin (.inr rfl) (by rfl) (by rfl) (by exact ⟨rfl, rfl, rfl⟩) (by rfl) (by rfl) (by exact congrArg V.bool (by simp [isRel, h1])) (by first | rfl | (simp; done) | (simp [ints, prs]; done))
-- spec.l06Is
def m70 : MC := (.seq (.region [⟨(.box (.t 0)), (some 1), none⟩, ⟨(.mov (.k (.bool false))), (some 2), none⟩] false) (.seq (.region [⟨(.fieldAddr 0 (.t 1)), (some 3), none⟩, ⟨(.load none (.t 3)), (some 4), none⟩, ⟨(.callw 97 [(.t 4), (.k (.int .i64 1)), (.k (.int .i64 4))]), (some 5), none⟩, ⟨(.mov (.t 5)), (some 6), none⟩, ⟨(.fieldAddr 1 (.t 1)), (some 7), (some (6, true))⟩, ⟨(.load none (.t 7)), (some 8), (some (6, true))⟩, ⟨(.fieldAddr 0 (.t 1)), (some 9), (some (6, true))⟩, ⟨(.load none (.t 9)), (some 10), (some (6, true))⟩, ⟨(.call 98 [(.t 10)]), (some 11), (some (6, true))⟩, ⟨(.callw 97 [(.t 8), (.k (.int .i64 0)), (.t 11)]), (some 12), (some (6, true))⟩, ⟨(.pick (.t 6) (.t 12) (.k (.bool false))), (some 13), none⟩, ⟨(.mov (.t 13)), (some 2), none⟩] true) .ret))
theorem has70 : Has cx 70 14 m70 [(.tmp 2)] :=
  ⟨⟨Try.f70, Try.f70.body.getD .skip, by kernel_rfl, by kernel_rfl, by kernel_rfl, by kernel_rfl, by kernel_rfl, by kernel_rfl⟩⟩
theorem ev70 (p t : Int) : Ev cx 70 [.agg [.int .i64 p, .int .i64 t]] [] (.bool (isRel p t)) [] := by
  by_cases h1 : 1 ≤ p ∧ p ≤ 4
  · have h2 : decide (1 ≤ p ∧ p ≤ 4) = true := decide_eq_true h1
    obtain ⟨n, rfl⟩ := Int.eq_ofNat_of_zero_le (show 0 ≤ p by omega)
    have h3 : n ≤ 4 := by omega
    obtain ⟨h4, h5, h6, h7⟩ := shN h3
    refine has70.eev rfl rfl ?_
    unfold m70
    repeat' (first
      | (refine g_op ?_; first
        | refine ep_mov rfl ?_ | refine ep_load1 rfl rfl rfl rfl ?_ | refine ep_fieldAddr rfl ?_
        | refine ep_call0 rfl (by first | exact ev97 _ _ _ | exact ev98 _ h3) rfl rfl ?_
        | refine sp_call rfl rfl rfl rfl (by first | exact ev97 _ _ _ | exact ev98 _ h3) ⟨rfl, rfl, rfl, rfl⟩ rfl rfl rfl ?_
        | refine ep_callw0 rfl (by first | exact ev97 _ _ _ | exact ev98 _ h3) rfl rfl ?_
        | refine sp_callw rfl rfl rfl rfl (by first | exact ev97 _ _ _ | exact ev98 _ h3) ⟨rfl, rfl, rfl, rfl⟩ rfl rfl rfl (by first | exact WrP_refl _ _ | (repeat' (first | exact rfl | exact True.intro | refine And.intro ?_ ?_))) ?_
        | refine ep_pickT rfl rfl ?_ | refine ep_pickF rfl rfl ?_ | refine ep_pickTH rfl (by assumption) rfl ?_ | refine ep_pickFH rfl (by assumption) rfl ?_ | refine sp_box rfl rfl rfl rfl rfl ?_)
      | (refine g_ops ?_; first | refine eo_none ?_ | refine eo_nil ?_ | refine eo_yes rfl ?_ | refine eo_no rfl ?_ | refine eo_und rfl ?_ | refine eo_yesH rfl (by assumption) ?_ | refine eo_noH rfl (by assumption) ?_)
      | (refine g_dops ?_; first | refine ed_none ?_ | refine ed_nil ?_ | refine ed_yes rfl ?_ | refine ed_no rfl ?_ | refine ed_und rfl ?_ | refine ed_yesH rfl (by assumption) ?_ | refine ed_noH rfl (by assumption) ?_)
      | refine ed_same rfl ?_ | refine ed_one rfl rfl rfl rfl ?_ | refine ed_two rfl rfl rfl rfl rfl rfl rfl ?_ | refine ed_write rfl rfl ?_
      | (refine g_code ?_; first | refine ec_seq ?_ | refine ec_region ?_ | refine ec_draw ?_ | refine ec_ret ?_)
      | refine ek_seqN ?_ | refine ek_seqR ?_)
    refine sfin (.inr rfl) (by rfl) (by rfl) (by exact ⟨rfl, rfl, rfl⟩) (by rfl) (by rfl) (by exact congrArg V.bool (by simp [isRel, h1])) (by first | rfl | (simp; done) | (simp [ints, prs]; done))
  · have h2 : decide (1 ≤ p ∧ p ≤ 4) = false := decide_eq_false h1
    refine has70.eev rfl rfl ?_
    unfold m70
    repeat' (first
      | (refine g_op ?_; first
        | refine ep_mov rfl ?_ | refine ep_load1 rfl rfl rfl rfl ?_ | refine ep_fieldAddr rfl ?_
        | refine ep_call0 rfl (by first | exact ev97 _ _ _) rfl rfl ?_
        | refine sp_call rfl rfl rfl rfl (by first | exact ev97 _ _ _) ⟨rfl, rfl, rfl, rfl⟩ rfl rfl rfl ?_
        | refine ep_callw0 rfl (by first | exact ev97 _ _ _) rfl rfl ?_
        | refine sp_callw rfl rfl rfl rfl (by first | exact ev97 _ _ _) ⟨rfl, rfl, rfl, rfl⟩ rfl rfl rfl (by first | exact WrP_refl _ _ | (repeat' (first | exact rfl | exact True.intro | refine And.intro ?_ ?_))) ?_
        | refine ep_pickT rfl rfl ?_ | refine ep_pickF rfl rfl ?_ | refine ep_pickTH rfl (by assumption) rfl ?_ | refine ep_pickFH rfl (by assumption) rfl ?_ | refine sp_box rfl rfl rfl rfl rfl ?_)
      | (refine g_ops ?_; first | refine eo_none ?_ | refine eo_nil ?_ | refine eo_yes rfl ?_ | refine eo_no rfl ?_ | refine eo_und rfl ?_ | refine eo_yesH rfl (by assumption) ?_ | refine eo_noH rfl (by assumption) ?_)
      | (refine g_dops ?_; first | refine ed_none ?_ | refine ed_nil ?_ | refine ed_yes rfl ?_ | refine ed_no rfl ?_ | refine ed_und rfl ?_ | refine ed_yesH rfl (by assumption) ?_ | refine ed_noH rfl (by assumption) ?_)
      | refine ed_same rfl ?_ | refine ed_one rfl rfl rfl rfl ?_ | refine ed_two rfl rfl rfl rfl rfl rfl rfl ?_ | refine ed_write rfl rfl ?_
      | (refine g_code ?_; first | refine ec_seq ?_ | refine ec_region ?_ | refine ec_draw ?_ | refine ec_ret ?_)
      | refine ek_seqN ?_ | refine ek_seqR ?_)
    refine sfin (.inr rfl) (by rfl) (by rfl) (by exact ⟨rfl, rfl, rfl⟩) (by rfl) (by rfl) (by exact congrArg V.bool (by simp [isRel, h1])) (by first | rfl | (simp; done) | (simp [ints, prs]; done))
-- laws.toRelation
def m29 : MC := (.seq (.region [⟨(.box (.t 0)), (some 1), none⟩, ⟨(.alloc [(.int .i64 0), (.int .i64 0)]), (some 2), none⟩] false) (.seq (.region [⟨(.alloc [(.int .i64 0), (.int .i64 0)]), (some 3), none⟩] false) (.seq (.region [⟨(.fieldAddr 0 (.t 1)), (some 4), none⟩, ⟨(.load none (.t 4)), (some 5), none⟩, ⟨(.fieldAddr 0 (.t 3)), (some 6), none⟩, ⟨(.store 1 (.t 6) (.t 5)), none, none⟩] false) (.seq (.region [⟨(.fieldAddr 1 (.t 1)), (some 7), none⟩, ⟨(.load none (.t 7)), (some 8), none⟩, ⟨(.fieldAddr 1 (.t 3)), (some 9), none⟩, ⟨(.store 1 (.t 9) (.t 8)), none, none⟩] false) (.seq (.region [⟨(.load (some 2) (.t 3)), (some 10), none⟩, ⟨(.store 2 (.t 2) (.t 10)), none, none⟩] false) .ret)))))
theorem has29 : Has cx 29 11 m29 [(.cell 2 (some 2))] :=
  ⟨⟨Try.f29, Try.f29.body.getD .skip, by kernel_rfl, by kernel_rfl, by kernel_rfl, by kernel_rfl, by kernel_rfl, by kernel_rfl⟩⟩
theorem ev29 (a b : Int) : Ev cx 29 [.agg [.int .i64 a, .int .i64 b]] [] (.agg [.int .i64 a, .int .i64 b]) [] := by
  refine has29.eev rfl rfl ?_
  unfold m29
  repeat' (first
    | (refine g_op ?_; first
      | refine ep_load1 rfl rfl rfl rfl ?_ | refine ep_fieldAddr rfl ?_ | refine sp_loadN rfl rfl rfl rfl rfl ?_
      | refine sp_store rfl rfl rfl rfl rfl rfl rfl rfl rfl rfl ?_ | refine sp_box rfl rfl rfl rfl rfl ?_ | refine sp_alloc rfl rfl ?_)
    | (refine g_ops ?_; first | refine eo_none ?_ | refine eo_nil ?_)
    | (refine g_code ?_; first | refine ec_seq ?_ | refine ec_region ?_ | refine ec_ret ?_)
    | refine ek_seqN ?_ | refine ek_seqR ?_)
  refine sfin (.inr rfl) (by rfl) (by rfl) (by exact ⟨rfl, rfl, rfl⟩) (by rfl) (by rfl) (by rfl) (by first | rfl | (simp; done) | (simp [ints, prs]; done))
structure RR where
  a : Int
  b : Int
  c : Int
abbrev rr (x : RR) : V := .tup [.agg [.int .i64 x.a, .int .i64 x.b], .int .i64 x.c]
theorem isRel_nat {p t : Int} (h : isRel p t = true) : ∃ n b : Nat, p = n ∧ t = b ∧ 1 ≤ n ∧ n ≤ 4 ∧ b < R2 (R2 n) ∧ b < 65536 := by
  simp only [isRel, Bool.and_eq_true, decide_eq_true_eq] at h
  obtain ⟨⟨h1, h2⟩, h3, h4⟩ := h
  obtain ⟨n, rfl⟩ := Int.eq_ofNat_of_zero_le (show 0 ≤ p by omega)
  obtain ⟨b, rfl⟩ := Int.eq_ofNat_of_zero_le h3
  simp only [Int.toNat_natCast] at h4
  obtain ⟨_, q, _⟩ := shN (n := n) (by omega)
  exact ⟨n, b, rfl, rfl, by omega, by omega, by omega, by omega⟩
theorem isFn_nat {p t : Int} (h : isFn p t = true) : ∃ n b : Nat, p = n ∧ t = b ∧ n ≤ 4 ∧ b < R2 (R2 n) ∧ b < 65536 := by
  simp only [isFn, Bool.and_eq_true, decide_eq_true_eq] at h
  obtain ⟨⟨h1, h2⟩, h3, h4⟩ := h
  obtain ⟨n, rfl⟩ := Int.eq_ofNat_of_zero_le (show 0 ≤ p by omega)
  obtain ⟨b, rfl⟩ := Int.eq_ofNat_of_zero_le h3
  simp only [Int.toNat_natCast] at h4
  obtain ⟨_, q, _⟩ := shN (n := n) (by omega)
  exact ⟨n, b, rfl, rfl, by omega, by omega, by omega⟩
def meetR (p t q s : Int) : RR := if isRel p t = true ∧ isRel q s = true then (if p = q then ⟨p, (t.toNat &&& s.toNat : Nat), 0⟩ else ⟨0, 0, 2⟩) else ⟨0, 0, 1⟩
-- laws.eqRelation
def m31 : MC := (.seq (.region [⟨(.box (.t 0)), (some 2), none⟩, ⟨(.box (.t 1)), (some 3), none⟩, ⟨(.mov (.k (.bool false))), (some 4), none⟩] false) (.seq (.seq (.region [⟨(.fieldAddr 0 (.t 2)), (some 5), none⟩, ⟨(.load none (.t 5)), (some 6), none⟩, ⟨(.fieldAddr 0 (.t 3)), (some 7), none⟩, ⟨(.load none (.t 7)), (some 8), none⟩, ⟨(.bin .neq (.t 6) (.t 8)), (some 9), none⟩] false) (.cond (.t 9) (.seq (.region [⟨(.mov (.k (.bool false))), (some 4), none⟩] false) .ret) .skip)) (.seq (.seq (.region [⟨(.fieldAddr 1 (.t 2)), (some 10), none⟩, ⟨(.load none (.t 10)), (some 11), none⟩, ⟨(.fieldAddr 1 (.t 3)), (some 12), none⟩, ⟨(.load none (.t 12)), (some 13), none⟩, ⟨(.bin .neq (.t 11) (.t 13)), (some 14), none⟩] false) (.cond (.t 14) (.seq (.region [⟨(.mov (.k (.bool false))), (some 4), none⟩] false) .ret) .skip)) (.seq (.region [⟨(.mov (.k (.bool true))), (some 4), none⟩] false) .ret))))
theorem has31 : Has cx 31 15 m31 [(.tmp 4)] :=
  ⟨⟨Try.f31, Try.f31.body.getD .skip, by kernel_rfl, by kernel_rfl, by kernel_rfl, by kernel_rfl, by kernel_rfl, by kernel_rfl⟩⟩
theorem ev31 (a b : Int) : Ev cx 31 [.agg [.int .i64 a, .int .i64 b], .agg [.int .i64 a, .int .i64 b]] [] (.bool true) [] := by
  have h1 : (a != a) = false := by simp
  have h2 : (b != b) = false := by simp
  refine has31.eev rfl rfl ?_
  unfold m31
  repeat' (first
    | (refine g_op ?_; first
      | refine ep_mov rfl ?_ | refine ep_load1 rfl rfl rfl rfl ?_ | refine ep_fieldAddr rfl ?_
      | refine ep_bin rfl rfl (by first | exact b_add (by omega) (by omega) | exact b_sub (by omega) (by omega) | exact b_and (by omega) (by omega) | exact b_or (by omega) (by omega) | exact b_shr (by omega) | exact b_shl (by omega) (by omega) | exact b_lss | exact b_leq | exact b_gtr | exact b_geq | exact b_eql | exact b_neq) ?_
      | refine sp_box rfl rfl rfl rfl rfl ?_)
    | (refine g_ops ?_; first | refine eo_none ?_ | refine eo_nil ?_)
    | (refine g_code ?_; first | refine ec_seq ?_ | refine ec_region ?_ | refine ec_skip ?_ | refine ec_ret ?_ | refine ec_condT rfl ?_ | refine ec_condF rfl ?_ | refine ec_condTH rfl (by assumption) ?_ | refine ec_condFH rfl (by assumption) ?_)
    | refine ek_seqN ?_ | refine ek_seqR ?_)
  refine sfin (.inr rfl) (by rfl) (by rfl) (by exact ⟨rfl, rfl, rfl⟩) (by rfl) (by rfl) (by rfl) (by first | rfl | (simp; done) | (simp [ints, prs]; done))
def bt (b r : Nat) : Nat := (b >>> r) &&& 1
theorem bt_le (b r : Nat) : bt b r ≤ 1 := by unfold bt; exact Nat.and_le_right
theorem shr_lt {b r : Nat} (h : b < 9223372036854775808) : b >>> r < 9223372036854775808 := Nat.lt_of_le_of_lt (Nat.shiftRight_le b r) h
theorem b_bt {b r : Nat} (h : b < 9223372036854775808) : binV .and (.int .i64 (b >>> r : Nat)) (.int .i64 1) = some (.int .i64 (bt b r : Nat)) := b_and (y := 1) (shr_lt h) (by omega)
theorem R2_le {j n : Nat} (h : j < n) : 2 * R2 j ≤ R2 n := by
  unfold R2; rw [← Nat.pow_succ']; exact Nat.pow_le_pow_right (by omega) (by omega)
theorem or_lt {x y n : Nat} (hx : x < R2 n) (hy : y < R2 n) : x ||| y < R2 n := by unfold R2 at *; exact Nat.or_lt_two_pow hx hy
attribute [local irreducible] bt
-- impl.bit
def m137 : MC := (.seq (.region [⟨(.mov (.k (.int .i64 0))), (some 4), none⟩] false) (.seq (.region [⟨(.mov (.t 0)), (some 5), none⟩, ⟨(.mov (.t 1)), (some 6), none⟩, ⟨(.bin .shr (.t 5) (.t 6)), (some 7), none⟩, ⟨(.bin .and (.t 7) (.k (.int .i64 1))), (some 8), none⟩, ⟨(.mov (.t 8)), (some 4), none⟩] false) .ret))
theorem has137 : Has cx 137 9 m137 [(.tmp 4)] :=
  ⟨⟨Try.f137, Try.f137.body.getD .skip, by kernel_rfl, by kernel_rfl, by kernel_rfl, by kernel_rfl, by kernel_rfl, by kernel_rfl⟩⟩
theorem ev137 (b r : Nat) (hb : b < 9223372036854775808) (hr : r ≤ 64) : Ev cx 137 [.int .i64 b, .int .i64 r] [] (.int .i64 (bt b r : Nat)) [] := by
  refine has137.eev rfl rfl ?_
  unfold m137
  repeat' (first
    | (refine g_op ?_; first
      | refine ep_mov rfl ?_
      | refine ep_bin rfl rfl (by first | exact b_shr hr | exact b_bt hb | exact b_add (by omega) (by omega) | exact b_sub (by omega) (by omega) | exact b_and (by omega) (by omega) | exact b_or (by omega) (by omega) | exact b_shr (by omega) | exact b_shl (by omega) (by omega) | exact b_lss | exact b_leq | exact b_gtr | exact b_geq | exact b_eql | exact b_neq) ?_)
    | (refine g_ops ?_; first | refine eo_none ?_ | refine eo_nil ?_)
    | (refine g_code ?_; first | refine ec_seq ?_ | refine ec_region ?_ | refine ec_ret ?_)
    | refine ek_seqN ?_ | refine ek_seqR ?_)
  refine sfin (.inr rfl) (by rfl) (by rfl) (by exact ⟨rfl, rfl, rfl⟩) (by rfl) (by rfl) (by rfl) (by first | rfl | (simp; done) | (simp [ints, prs]; done))
-- (impl.Func).at
def m104 : MC := (.seq (.region [⟨(.box (.t 0)), (some 2), none⟩, ⟨(.mov (.k (.int .i64 0))), (some 4), none⟩] false) (.seq (.region [⟨(.fieldAddr 1 (.t 2)), (some 5), none⟩, ⟨(.load none (.t 5)), (some 6), none⟩, ⟨(.mov (.t 1)), (some 7), none⟩, ⟨(.call 137 [(.t 6), (.t 7)]), (some 8), none⟩, ⟨(.mov (.t 8)), (some 4), none⟩] false) .ret))
theorem has104 : Has cx 104 9 m104 [(.tmp 4)] :=
  ⟨⟨Try.f104, Try.f104.body.getD .skip, by kernel_rfl, by kernel_rfl, by kernel_rfl, by kernel_rfl, by kernel_rfl, by kernel_rfl⟩⟩
theorem ev104 (n : Int) (b r : Nat) (hb : b < 9223372036854775808) (hr : r ≤ 64) : Ev cx 104 [.agg [.int .i64 n, .int .i64 b], .int .i64 r] [] (.int .i64 (bt b r : Nat)) [] := by
  refine has104.eev rfl rfl ?_
  unfold m104
  repeat' (first
    | (refine g_op ?_; first
      | refine ep_mov rfl ?_ | refine ep_load1 rfl rfl rfl rfl ?_ | refine ep_fieldAddr rfl ?_
      | refine ep_call0 rfl (by first | exact ev137 _ _ hb hr) rfl rfl ?_
      | refine sp_call rfl rfl rfl rfl (by first | exact ev137 _ _ hb hr) ⟨rfl, rfl, rfl, rfl⟩ rfl rfl rfl ?_
      | refine sp_box rfl rfl rfl rfl rfl ?_)
    | (refine g_ops ?_; first | refine eo_none ?_ | refine eo_nil ?_)
    | (refine g_code ?_; first | refine ec_seq ?_ | refine ec_region ?_ | refine ec_ret ?_)
    | refine ek_seqN ?_ | refine ek_seqR ?_)
  refine sfin (.inr rfl) (by rfl) (by rfl) (by exact ⟨rfl, rfl, rfl⟩) (by rfl) (by rfl) (by rfl) (by first | rfl | (simp; done) | (simp [ints, prs]; done))
def monoP (b r i : Nat) : Bool := decide (¬ (bt b r > bt b (r ||| R2 i)))
def monoB (n b : Nat) : Bool := allF (fun r => allF (monoP b r) 0 n) 0 (R2 n)
-- impl.IsFunc
def m55 : MC := (.seq (.region [⟨(.box (.t 0)), (some 1), none⟩, ⟨(.mov (.k (.bool false))), (some 2), none⟩] false) (.seq (.region [⟨(.fieldAddr 0 (.t 1)), (some 3), none⟩, ⟨(.load none (.t 3)), (some 4), none⟩, ⟨(.callw 100 [(.t 4)]), (some 5), none⟩, ⟨(.mov (.t 5)), (some 6), none⟩, ⟨(.fieldAddr 1 (.t 1)), (some 7), (some (6, true))⟩, ⟨(.load none (.t 7)), (some 8), (some (6, true))⟩, ⟨(.fieldAddr 0 (.t 1)), (some 9), (some (6, true))⟩, ⟨(.load none (.t 9)), (some 10), (some (6, true))⟩, ⟨(.call 102 [(.t 10)]), (some 11), (some (6, true))⟩, ⟨(.bin .sub (.t 11) (.k (.int .i64 1))), (some 12), (some (6, true))⟩, ⟨(.callw 101 [(.t 8), (.k (.int .i64 0)), (.t 12)]), (some 13), (some (6, true))⟩, ⟨(.pick (.t 6) (.t 13) (.k (.bool false))), (some 14), none⟩, ⟨(.mov (.t 14)), (some 2), none⟩] true) .ret))
theorem has55 : Has cx 55 15 m55 [(.tmp 2)] :=
  ⟨⟨Try.f55, Try.f55.body.getD .skip, by kernel_rfl, by kernel_rfl, by kernel_rfl, by kernel_rfl, by kernel_rfl, by kernel_rfl⟩⟩
theorem ev55 (p t : Int) : Ev cx 55 [.agg [.int .i64 p, .int .i64 t]] [] (.bool (isFn p t)) [] := by
  by_cases h1 : 0 ≤ p ∧ p ≤ 4
  · have h2 : decide (0 ≤ p ∧ p ≤ 4) = true := decide_eq_true h1
    obtain ⟨n, rfl⟩ := Int.eq_ofNat_of_zero_le (show 0 ≤ p by omega)
    have h3 : n ≤ 4 := by omega
    obtain ⟨h4, h5, h6, h7⟩ := shN h3
    refine has55.eev rfl rfl ?_
    unfold m55
    repeat' (first
      | (refine g_op ?_; first
        | refine ep_mov rfl ?_ | refine ep_load1 rfl rfl rfl rfl ?_ | refine ep_fieldAddr rfl ?_
        | refine ep_call0 rfl (by first | exact ev100 _ | exact ev101 _ _ _ | exact ev102 _ h3) rfl rfl ?_
        | refine sp_call rfl rfl rfl rfl (by first | exact ev100 _ | exact ev101 _ _ _ | exact ev102 _ h3) ⟨rfl, rfl, rfl, rfl⟩ rfl rfl rfl ?_
        | refine ep_callw0 rfl (by first | exact ev100 _ | exact ev101 _ _ _ | exact ev102 _ h3) rfl rfl ?_
        | refine sp_callw rfl rfl rfl rfl (by first | exact ev100 _ | exact ev101 _ _ _ | exact ev102 _ h3) ⟨rfl, rfl, rfl, rfl⟩ rfl rfl rfl (by first | exact WrP_refl _ _ | (repeat' (first | exact rfl | exact True.intro | refine And.intro ?_ ?_))) ?_
        | refine ep_bin rfl rfl (by first | exact b_add (by omega) (by omega) | exact b_sub (by omega) (by omega) | exact b_and (by omega) (by omega) | exact b_or (by omega) (by omega) | exact b_shr (by omega) | exact b_shl (by omega) (by omega) | exact b_lss | exact b_leq | exact b_gtr | exact b_geq | exact b_eql | exact b_neq) ?_
        | refine ep_pickT rfl rfl ?_ | refine ep_pickF rfl rfl ?_ | refine ep_pickTH rfl (by assumption) rfl ?_ | refine ep_pickFH rfl (by assumption) rfl ?_ | refine sp_box rfl rfl rfl rfl rfl ?_)
      | (refine g_ops ?_; first | refine eo_none ?_ | refine eo_nil ?_ | refine eo_yes rfl ?_ | refine eo_no rfl ?_ | refine eo_und rfl ?_ | refine eo_yesH rfl (by assumption) ?_ | refine eo_noH rfl (by assumption) ?_)
      | (refine g_dops ?_; first | refine ed_none ?_ | refine ed_nil ?_ | refine ed_yes rfl ?_ | refine ed_no rfl ?_ | refine ed_und rfl ?_ | refine ed_yesH rfl (by assumption) ?_ | refine ed_noH rfl (by assumption) ?_)
      | refine ed_same rfl ?_ | refine ed_one rfl rfl rfl rfl ?_ | refine ed_two rfl rfl rfl rfl rfl rfl rfl ?_ | refine ed_write rfl rfl ?_
      | (refine g_code ?_; first | refine ec_seq ?_ | refine ec_region ?_ | refine ec_draw ?_ | refine ec_ret ?_)
      | refine ek_seqN ?_ | refine ek_seqR ?_)
    refine sfin (.inr rfl) (by rfl) (by rfl) (by exact ⟨rfl, rfl, rfl⟩) (by rfl) (by rfl) (by exact congrArg V.bool (by simp [isFn, h1])) (by first | rfl | (simp; done) | (simp [ints, prs]; done))
  · have h2 : decide (0 ≤ p ∧ p ≤ 4) = false := decide_eq_false h1
    refine has55.eev rfl rfl ?_
    unfold m55
    repeat' (first
      | (refine g_op ?_; first
        | refine ep_mov rfl ?_ | refine ep_load1 rfl rfl rfl rfl ?_ | refine ep_fieldAddr rfl ?_
        | refine ep_call0 rfl (by first | exact ev100 _ | exact ev101 _ _ _) rfl rfl ?_
        | refine sp_call rfl rfl rfl rfl (by first | exact ev100 _ | exact ev101 _ _ _) ⟨rfl, rfl, rfl, rfl⟩ rfl rfl rfl ?_
        | refine ep_callw0 rfl (by first | exact ev100 _ | exact ev101 _ _ _) rfl rfl ?_
        | refine sp_callw rfl rfl rfl rfl (by first | exact ev100 _ | exact ev101 _ _ _) ⟨rfl, rfl, rfl, rfl⟩ rfl rfl rfl (by first | exact WrP_refl _ _ | (repeat' (first | exact rfl | exact True.intro | refine And.intro ?_ ?_))) ?_
        | refine ep_bin rfl rfl (by first | exact b_add (by omega) (by omega) | exact b_sub (by omega) (by omega) | exact b_and (by omega) (by omega) | exact b_or (by omega) (by omega) | exact b_shr (by omega) | exact b_shl (by omega) (by omega) | exact b_lss | exact b_leq | exact b_gtr | exact b_geq | exact b_eql | exact b_neq) ?_
        | refine ep_pickT rfl rfl ?_ | refine ep_pickF rfl rfl ?_ | refine ep_pickTH rfl (by assumption) rfl ?_ | refine ep_pickFH rfl (by assumption) rfl ?_ | refine sp_box rfl rfl rfl rfl rfl ?_)
      | (refine g_ops ?_; first | refine eo_none ?_ | refine eo_nil ?_ | refine eo_yes rfl ?_ | refine eo_no rfl ?_ | refine eo_und rfl ?_ | refine eo_yesH rfl (by assumption) ?_ | refine eo_noH rfl (by assumption) ?_)
      | (refine g_dops ?_; first | refine ed_none ?_ | refine ed_nil ?_ | refine ed_yes rfl ?_ | refine ed_no rfl ?_ | refine ed_und rfl ?_ | refine ed_yesH rfl (by assumption) ?_ | refine ed_noH rfl (by assumption) ?_)
      | refine ed_same rfl ?_ | refine ed_one rfl rfl rfl rfl ?_ | refine ed_two rfl rfl rfl rfl rfl rfl rfl ?_ | refine ed_write rfl rfl ?_
      | (refine g_code ?_; first | refine ec_seq ?_ | refine ec_region ?_ | refine ec_draw ?_ | refine ec_ret ?_)
      | refine ek_seqN ?_ | refine ek_seqR ?_)
    refine sfin (.inr rfl) (by rfl) (by rfl) (by exact ⟨rfl, rfl, rfl⟩) (by rfl) (by rfl) (by exact congrArg V.bool (by simp [isFn, h1])) (by first | rfl | (simp; done) | (simp [ints, prs]; done))
-- spec.l01Is
def m53 : MC := (.seq (.region [⟨(.box (.t 0)), (some 1), none⟩, ⟨(.mov (.k (.bool false))), (some 2), none⟩] false) (.seq (.region [⟨(.fieldAddr 0 (.t 1)), (some 3), none⟩, ⟨(.load none (.t 3)), (some 4), none⟩, ⟨(.callw 97 [(.t 4), (.k (.int .i64 0)), (.k (.int .i64 4))]), (some 5), none⟩, ⟨(.mov (.t 5)), (some 6), none⟩, ⟨(.fieldAddr 1 (.t 1)), (some 7), (some (6, true))⟩, ⟨(.load none (.t 7)), (some 8), (some (6, true))⟩, ⟨(.fieldAddr 0 (.t 1)), (some 9), (some (6, true))⟩, ⟨(.load none (.t 9)), (some 10), (some (6, true))⟩, ⟨(.call 98 [(.t 10)]), (some 11), (some (6, true))⟩, ⟨(.callw 97 [(.t 8), (.k (.int .i64 0)), (.t 11)]), (some 12), (some (6, true))⟩, ⟨(.pick (.t 6) (.t 12) (.k (.bool false))), (some 13), none⟩, ⟨(.mov (.t 13)), (some 2), none⟩] true) .ret))
theorem has53 : Has cx 53 14 m53 [(.tmp 2)] :=
  ⟨⟨Try.f53, Try.f53.body.getD .skip, by kernel_rfl, by kernel_rfl, by kernel_rfl, by kernel_rfl, by kernel_rfl, by kernel_rfl⟩⟩
theorem ev53 (p t : Int) : Ev cx 53 [.agg [.int .i64 p, .int .i64 t]] [] (.bool (isFn p t)) [] := by
  by_cases h1 : 0 ≤ p ∧ p ≤ 4
  · have h2 : decide (0 ≤ p ∧ p ≤ 4) = true := decide_eq_true h1
    obtain ⟨n, rfl⟩ := Int.eq_ofNat_of_zero_le (show 0 ≤ p by omega)
    have h3 : n ≤ 4 := by omega
    obtain ⟨h4, h5, h6, h7⟩ := shN h3
    refine has53.eev rfl rfl ?_
    unfold m53
    repeat' (first
      | (refine g_op ?_; first
        | refine ep_mov rfl ?_ | refine ep_load1 rfl rfl rfl rfl ?_ | refine ep_fieldAddr rfl ?_
        | refine ep_call0 rfl (by first | exact ev97 _ _ _ | exact ev98 _ h3) rfl rfl ?_
        | refine sp_call rfl rfl rfl rfl (by first | exact ev97 _ _ _ | exact ev98 _ h3) ⟨rfl, rfl, rfl, rfl⟩ rfl rfl rfl ?_
        | refine ep_callw0 rfl (by first | exact ev97 _ _ _ | exact ev98 _ h3) rfl rfl ?_
        | refine sp_callw rfl rfl rfl rfl (by first | exact ev97 _ _ _ | exact ev98 _ h3) ⟨rfl, rfl, rfl, rfl⟩ rfl rfl rfl (by first | exact WrP_refl _ _ | (repeat' (first | exact rfl | exact True.intro | refine And.intro ?_ ?_))) ?_
        | refine ep_pickT rfl rfl ?_ | refine ep_pickF rfl rfl ?_ | refine ep_pickTH rfl (by assumption) rfl ?_ | refine ep_pickFH rfl (by assumption) rfl ?_ | refine sp_box rfl rfl rfl rfl rfl ?_)
      | (refine g_ops ?_; first | refine eo_none ?_ | refine eo_nil ?_ | refine eo_yes rfl ?_ | refine eo_no rfl ?_ | refine eo_und rfl ?_ | refine eo_yesH rfl (by assumption) ?_ | refine eo_noH rfl (by assumption) ?_)
      | (refine g_dops ?_; first | refine ed_none ?_ | refine ed_nil ?_ | refine ed_yes rfl ?_ | refine ed_no rfl ?_ | refine ed_und rfl ?_ | refine ed_yesH rfl (by assumption) ?_ | refine ed_noH rfl (by assumption) ?_)
      | refine ed_same rfl ?_ | refine ed_one rfl rfl rfl rfl ?_ | refine ed_two rfl rfl rfl rfl rfl rfl rfl ?_ | refine ed_write rfl rfl ?_
      | (refine g_code ?_; first | refine ec_seq ?_ | refine ec_region ?_ | refine ec_draw ?_ | refine ec_ret ?_)
      | refine ek_seqN ?_ | refine ek_seqR ?_)
    refine sfin (.inr rfl) (by rfl) (by rfl) (by exact ⟨rfl, rfl, rfl⟩) (by rfl) (by rfl) (by exact congrArg V.bool (by simp [isFn, h1])) (by first | rfl | (simp; done) | (simp [ints, prs]; done))
  · have h2 : decide (0 ≤ p ∧ p ≤ 4) = false := decide_eq_false h1
    refine has53.eev rfl rfl ?_
    unfold m53
    repeat' (first
      | (refine g_op ?_; first
        | refine ep_mov rfl ?_ | refine ep_load1 rfl rfl rfl rfl ?_ | refine ep_fieldAddr rfl ?_
        | refine ep_call0 rfl (by first | exact ev97 _ _ _) rfl rfl ?_
        | refine sp_call rfl rfl rfl rfl (by first | exact ev97 _ _ _) ⟨rfl, rfl, rfl, rfl⟩ rfl rfl rfl ?_
        | refine ep_callw0 rfl (by first | exact ev97 _ _ _) rfl rfl ?_
        | refine sp_callw rfl rfl rfl rfl (by first | exact ev97 _ _ _) ⟨rfl, rfl, rfl, rfl⟩ rfl rfl rfl (by first | exact WrP_refl _ _ | (repeat' (first | exact rfl | exact True.intro | refine And.intro ?_ ?_))) ?_
        | refine ep_pickT rfl rfl ?_ | refine ep_pickF rfl rfl ?_ | refine ep_pickTH rfl (by assumption) rfl ?_ | refine ep_pickFH rfl (by assumption) rfl ?_ | refine sp_box rfl rfl rfl rfl rfl ?_)
      | (refine g_ops ?_; first | refine eo_none ?_ | refine eo_nil ?_ | refine eo_yes rfl ?_ | refine eo_no rfl ?_ | refine eo_und rfl ?_ | refine eo_yesH rfl (by assumption) ?_ | refine eo_noH rfl (by assumption) ?_)
      | (refine g_dops ?_; first | refine ed_none ?_ | refine ed_nil ?_ | refine ed_yes rfl ?_ | refine ed_no rfl ?_ | refine ed_und rfl ?_ | refine ed_yesH rfl (by assumption) ?_ | refine ed_noH rfl (by assumption) ?_)
      | refine ed_same rfl ?_ | refine ed_one rfl rfl rfl rfl ?_ | refine ed_two rfl rfl rfl rfl rfl rfl rfl ?_ | refine ed_write rfl rfl ?_
      | (refine g_code ?_; first | refine ec_seq ?_ | refine ec_region ?_ | refine ec_draw ?_ | refine ec_ret ?_)
      | refine ek_seqN ?_ | refine ek_seqR ?_)
    refine sfin (.inr rfl) (by rfl) (by rfl) (by exact ⟨rfl, rfl, rfl⟩) (by rfl) (by rfl) (by exact congrArg V.bool (by simp [isFn, h1])) (by first | rfl | (simp; done) | (simp [ints, prs]; done))
-- laws.toFunc
def m17 : MC := (.seq (.region [⟨(.box (.t 0)), (some 1), none⟩, ⟨(.alloc [(.int .i64 0), (.int .i64 0)]), (some 2), none⟩] false) (.seq (.region [⟨(.alloc [(.int .i64 0), (.int .i64 0)]), (some 3), none⟩] false) (.seq (.region [⟨(.fieldAddr 0 (.t 1)), (some 4), none⟩, ⟨(.load none (.t 4)), (some 5), none⟩, ⟨(.fieldAddr 0 (.t 3)), (some 6), none⟩, ⟨(.store 1 (.t 6) (.t 5)), none, none⟩] false) (.seq (.region [⟨(.fieldAddr 1 (.t 1)), (some 7), none⟩, ⟨(.load none (.t 7)), (some 8), none⟩, ⟨(.fieldAddr 1 (.t 3)), (some 9), none⟩, ⟨(.store 1 (.t 9) (.t 8)), none, none⟩] false) (.seq (.region [⟨(.load (some 2) (.t 3)), (some 10), none⟩, ⟨(.store 2 (.t 2) (.t 10)), none, none⟩] false) .ret)))))
theorem has17 : Has cx 17 11 m17 [(.cell 2 (some 2))] :=
  ⟨⟨Try.f17, Try.f17.body.getD .skip, by kernel_rfl, by kernel_rfl, by kernel_rfl, by kernel_rfl, by kernel_rfl, by kernel_rfl⟩⟩
theorem ev17 (a b : Int) : Ev cx 17 [.agg [.int .i64 a, .int .i64 b]] [] (.agg [.int .i64 a, .int .i64 b]) [] := by
  refine has17.eev rfl rfl ?_
  unfold m17
  repeat' (first
    | (refine g_op ?_; first
      | refine ep_load1 rfl rfl rfl rfl ?_ | refine ep_fieldAddr rfl ?_ | refine sp_loadN rfl rfl rfl rfl rfl ?_
      | refine sp_store rfl rfl rfl rfl rfl rfl rfl rfl rfl rfl ?_ | refine sp_box rfl rfl rfl rfl rfl ?_ | refine sp_alloc rfl rfl ?_)
    | (refine g_ops ?_; first | refine eo_none ?_ | refine eo_nil ?_)
    | (refine g_code ?_; first | refine ec_seq ?_ | refine ec_region ?_ | refine ec_ret ?_)
    | refine ek_seqN ?_ | refine ek_seqR ?_)
  refine sfin (.inr rfl) (by rfl) (by rfl) (by exact ⟨rfl, rfl, rfl⟩) (by rfl) (by rfl) (by rfl) (by first | rfl | (simp; done) | (simp [ints, prs]; done))
-- spec.l01At
def m57 : MC := (.seq (.region [⟨(.box (.t 0)), (some 2), none⟩, ⟨(.mov (.k (.int .i64 0))), (some 4), none⟩] false) (.seq (.region [⟨(.fieldAddr 1 (.t 2)), (some 5), none⟩, ⟨(.load none (.t 5)), (some 6), none⟩, ⟨(.mov (.t 1)), (some 7), none⟩, ⟨(.conv .u64 (.t 7)), (some 8), none⟩, ⟨(.bin .shr (.t 6) (.t 8)), (some 9), none⟩, ⟨(.bin .and (.t 9) (.k (.int .i64 1))), (some 10), none⟩, ⟨(.mov (.t 10)), (some 4), none⟩] false) .ret))
theorem has57 : Has cx 57 11 m57 [(.tmp 4)] :=
  ⟨⟨Try.f57, Try.f57.body.getD .skip, by kernel_rfl, by kernel_rfl, by kernel_rfl, by kernel_rfl, by kernel_rfl, by kernel_rfl⟩⟩
theorem ev57 (n : Int) (b r : Nat) (hb : b < 9223372036854775808) (hr : r ≤ 64) : Ev cx 57 [.agg [.int .i64 n, .int .i64 b], .int .i64 r] [] (.int .i64 (bt b r : Nat)) [] := by
  refine has57.eev rfl rfl ?_
  unfold m57
  repeat' (first
    | (refine g_op ?_; first
      | refine ep_mov rfl ?_ | refine ep_load1 rfl rfl rfl rfl ?_ | refine ep_fieldAddr rfl ?_
      | refine ep_bin rfl rfl (by first | exact b_shr hr | exact b_bt hb | exact b_add (by omega) (by omega) | exact b_sub (by omega) (by omega) | exact b_and (by omega) (by omega) | exact b_or (by omega) (by omega) | exact b_shr (by omega) | exact b_shl (by omega) (by omega) | exact b_lss | exact b_leq | exact b_gtr | exact b_geq | exact b_eql | exact b_neq) ?_
      | refine ep_conv rfl (by first | exact w_u64 (by omega) (by omega) | exact wrap_id (by omega) (by omega) | rfl) ?_ | refine sp_box rfl rfl rfl rfl rfl ?_)
    | (refine g_ops ?_; first | refine eo_none ?_ | refine eo_nil ?_)
    | (refine g_code ?_; first | refine ec_seq ?_ | refine ec_region ?_ | refine ec_ret ?_)
    | refine ek_seqN ?_ | refine ek_seqR ?_)
  refine sfin (.inr rfl) (by rfl) (by rfl) (by exact ⟨rfl, rfl, rfl⟩) (by rfl) (by rfl) (by rfl) (by first | rfl | (simp; done) | (simp [ints, prs]; done))
def ints (l : List Nat) : List V := l.map fun (x : Nat) => .int .i64 (x : Int)
def zints (l : List Int) : List V := l.map fun x => .int .i64 x
def prs (n : Nat) (l : List Nat) : List V := l.flatMap fun (b : Nat) => [.int .i64 n, .int .i64 b]
theorem ints_len (l : List Nat) : (ints l).length = l.length * 1 := by simp [ints]
theorem zints_len (l : List Int) : (zints l).length = l.length * 1 := by simp [zints]
theorem prs_len (n : Nat) : ∀ (l : List Nat), (prs n l).length = l.length * 2
  | [] => rfl
  | x :: xs => by have := prs_len n xs; simp [prs] at this ⊢; omega
def selm (p : Nat → Bool) (g : Nat → Nat) (n : Nat) : List Nat := ((List.range n).filter p).map g
theorem selm_t {p : Nat → Bool} {g : Nat → Nat} {i : Nat} (h : p i = true) : selm p g (i + 1) = selm p g i ++ [g i] := by
  simp [selm, List.range_succ, List.filter_append, h]
theorem selm_f {p : Nat → Bool} {g : Nat → Nat} {i : Nat} (h : p i = false) : selm p g (i + 1) = selm p g i := by
  simp [selm, List.range_succ, List.filter_append, h]
theorem selm_len (p : Nat → Bool) (g : Nat → Nat) : ∀ n, (selm p g n).length ≤ n
  | 0 => by simp [selm]
  | n + 1 => by
    have := selm_len p g n
    cases h : p n with
    | true => rw [selm_t h]; simp; omega
    | false => rw [selm_f h]; omega
theorem selm_congr {p q : Nat → Bool} {g h : Nat → Nat} : ∀ (n : Nat), (∀ i, i < n → p i = q i ∧ (p i = true → g i = h i)) → selm p g n = selm q h n
  | 0, _ => rfl
  | n + 1, hh => by
    have ih := selm_congr n fun i hi => hh i (by omega)
    obtain ⟨h1, h2⟩ := hh n (by omega)
    cases hp : p n with
    | true => rw [selm_t hp, selm_t (by rw [← h1]; exact hp), ih, h2 hp]
    | false => rw [selm_f hp, selm_f (by rw [← h1]; exact hp), ih]
def slV (z : V) (k : Nat) (l : List Nat) : V := match l with | [] => z | x :: xs => .sl k 0 (x :: xs).length
def slH (k es : Nat) (c : List Nat → List V) (l : List Nat) : List Blk := match l with | [] => [] | x :: xs => [⟨c (x :: xs), es, k, some 0, false⟩]
abbrev idn : Nat → Nat := fun i => i
def monoL (n : Nat) : List Nat := selm (monoB n) idn (R2 (R2 n))
theorem bt_tb (b r : Nat) : bt b r = (b.testBit r).toNat := by
  unfold bt
  rw [Nat.testBit, Nat.and_comm]
  have : 1 &&& b >>> r = (b >>> r) % 2 := by rw [Nat.and_comm, Nat.and_one_is_mod]
  rw [this]
  have := Nat.mod_two_eq_zero_or_one (b >>> r)
  rcases this with h | h <;> rw [h] <;> rfl
def pk (g : Nat → Nat) : Nat → Nat
  | 0 => 0
  | n + 1 => pk g n ||| (g n <<< n)
theorem pk_tb {g : Nat → Nat} : ∀ {n : Nat}, (∀ r, r < n → g r ≤ 1) → ∀ r, (pk g n).testBit r = (decide (r < n) && decide (g r = 1))
  | 0, _, r => by simp [pk]
  | n + 1, h, r => by
    rw [pk, Nat.testBit_or, pk_tb (fun r hr => h r (by omega)), Nat.testBit_shiftLeft]
    have hn := h n (by omega)
    by_cases e : r = n
    · subst e
      have : g r = 0 ∨ g r = 1 := by omega
      rcases this with h | h <;> simp [h]
    · by_cases hl : r < n
      · have : ¬ n ≤ r := by omega
        have : r < n + 1 := by omega
        simp [*]
      · have h1 : n ≤ r := by omega
        have h2 : ¬ r < n + 1 := by omega
        simp only [hl, h1, h2, decide_false, Bool.false_and, Bool.false_or, ge_iff_le, decide_true, Bool.true_and]
        exact Nat.testBit_lt_two_pow (Nat.lt_of_le_of_lt hn (Nat.one_lt_two_pow (by omega)))
theorem lt_R2 {x n : Nat} (h : ∀ r, n ≤ r → x.testBit r = false) : x < R2 n := by
  unfold R2; exact Nat.lt_pow_two_of_testBit x fun i hi => h i hi
theorem pk_lt {g : Nat → Nat} {n : Nat} (h : ∀ r, r < n → g r ≤ 1) : pk g n < R2 n := by
  refine lt_R2 fun r hr => ?_
  rw [pk_tb h]; have : ¬ r < n := by omega
  simp [this]
theorem sl_lt {x i m : Nat} (hx : x ≤ 1) (hi : i < m) : x <<< i < R2 m := by
  rw [Nat.shiftLeft_eq]; unfold R2
  have h1 : 2 ^ i < 2 ^ m := Nat.pow_lt_pow_right (by omega) hi
  have h2 : x * 2 ^ i ≤ 1 * 2 ^ i := Nat.mul_le_mul_right _ hx
  omega
theorem R2_mono {i n : Nat} (h : i ≤ n) : R2 i ≤ R2 n := by unfold R2; exact Nat.pow_le_pow_right (by omega) h
theorem tb_ge {x n r : Nat} (h : x < R2 n) (hr : n ≤ r) : x.testBit r = false := by
  unfold R2 at h
  exact Nat.testBit_lt_two_pow (Nat.lt_of_lt_of_le h (Nat.pow_le_pow_right (by omega) hr))
theorem ext_bt {x y n : Nat} (hx : x < R2 n) (hy : y < R2 n) (h : ∀ r, r < n → bt x r = bt y r) : x = y := by
  apply Nat.eq_of_testBit_eq
  intro r
  by_cases hr : r < n
  · have := h r hr
    rw [bt_tb, bt_tb] at this
    revert this; cases x.testBit r <;> cases y.testBit r <;> simp
  · rw [tb_ge hx (by omega), tb_ge hy (by omega)]
theorem bt_pk {g : Nat → Nat} {n : Nat} (h : ∀ r, r < n → g r ≤ 1) {r : Nat} (hr : r < n) : bt (pk g n) r = g r := by
  rw [bt_tb, pk_tb h]
  have := h r hr
  have : g r = 0 ∨ g r = 1 := by omega
  rcases this with h | h <;> simp [h, hr]
theorem pk_add {g : Nat → Nat} {n : Nat} (h : ∀ r, r < n → g r ≤ 1) : pk g n + (g n <<< n) = pk g (n + 1) := by
  have hl := pk_lt h
  rw [pk, Nat.or_comm, Nat.shiftLeft_eq, Nat.add_comm]
  unfold R2 at hl
  rw [Nat.mul_comm (g n), Nat.two_pow_add_eq_or_of_lt hl]
theorem pk_congr {g h : Nat → Nat} : ∀ {n : Nat}, (∀ r, r < n → g r = h r) → pk g n = pk h n
  | 0, _ => rfl
  | n + 1, hh => by rw [pk, pk, pk_congr fun r hr => hh r (by omega), hh n (by omega)]
theorem pk_self {b n : Nat} (h : b < R2 n) : pk (bt b) n = b :=
  ext_bt (pk_lt fun r _ => bt_le b r) h fun r hr => bt_pk (fun r _ => bt_le b r) hr
def bn (P : Nat → Bool) (t : Nat) : Nat := if P t then 1 else 0
theorem bn_le (P : Nat → Bool) (t : Nat) : bn P t ≤ 1 := by unfold bn; split <;> omega
/-- A set of numbers as bits. -/
def orA (h : Nat → Nat) : Nat → Nat
  | 0 => 0
  | n + 1 => orA h n ||| R2 (h n)
theorem R2_tb (a t : Nat) : (R2 a).testBit t = decide (a = t) := by unfold R2; rw [Nat.testBit_two_pow]
theorem orA_tb (h : Nat → Nat) : ∀ (n t : Nat), (orA h n).testBit t = decide (∃ r, r < n ∧ h r = t)
  | 0, t => by simp [orA]
  | n + 1, t => by
    rw [orA, Nat.testBit_or, orA_tb h n, R2_tb, ← Bool.decide_or]
    apply decide_eq_decide.mpr
    constructor
    · rintro (⟨r, h1, h2⟩ | h)
      · exact ⟨r, by omega, h2⟩
      · exact ⟨n, by omega, h⟩
    · rintro ⟨r, h1, h2⟩
      by_cases e : r = n
      · subst e; exact .inr h2
      · exact .inl ⟨r, by omega, h2⟩
theorem orA_lt {h : Nat → Nat} {n m : Nat} (hh : ∀ r, r < n → h r < m) : orA h n < R2 m := by
  refine lt_R2 fun t ht => ?_
  rw [orA_tb]; simp only [decide_eq_false_iff_not]
  rintro ⟨r, h1, h2⟩
  have := hh r h1; omega
theorem orA_eq {h : Nat → Nat} {n m : Nat} {P : Nat → Bool} (hh : ∀ r, r < n → h r < m) (hp : ∀ t, t < m → (P t = true ↔ ∃ r, r < n ∧ h r = t)) : orA h n = pk (bn P) m := by
  apply Nat.eq_of_testBit_eq
  intro t
  rw [orA_tb, pk_tb fun r _ => bn_le P r]
  by_cases ht : t < m
  · simp only [ht, decide_true, Bool.true_and]
    apply decide_eq_decide.mpr
    rw [← hp t ht]; unfold bn
    cases P t <;> simp
  · simp only [ht, decide_false, Bool.false_and, decide_eq_false_iff_not]
    rintro ⟨r, h1, h2⟩
    have := hh r h1; omega

def graphP (n b t : Nat) : Bool := ((bt b (t &&& (R2 n - 1)) : Nat) : Int) == ((t >>> n : Nat) : Int)
theorem and_m1 {n : Nat} (t : Nat) : t &&& (R2 n - 1) = t % R2 n := by unfold R2; exact Nat.and_two_pow_sub_one_eq_mod t n
theorem R2_pos (n : Nat) : 1 ≤ R2 n := by unfold R2; exact Nat.one_le_two_pow
def pop (b : Nat) : Nat → Nat
  | 0 => 0
  | n + 1 => pop b n + bt b n
def swar (b : Nat) : Nat :=
  (fun x1 : Nat => (fun x2 => (fun x3 => (fun x4 => (fun x5 => (fun x6 => x6 &&& 127) (x5 + x5 >>> 32)) (x4 + x4 >>> 16)) (x3 + x3 >>> 8)) ((x2 >>> 4 + x2) &&& 1085102592571150095)) ((x1 >>> 2 &&& 3689348814741910323) + (x1 &&& 3689348814741910323))) ((b >>> 1 &&& 6148914691236517205) + (b &&& 6148914691236517205))
theorem pop_le (b : Nat) : ∀ n, pop b n ≤ n
  | 0 => by simp [pop]
  | n + 1 => by have := pop_le b n; have := bt_le b n; simp only [pop]; omega
theorem and_le_r (x y : Nat) : x &&& y ≤ y := Nat.and_le_right
theorem and_le_l (x y : Nat) : x &&& y ≤ x := Nat.and_le_left
theorem shr_le (x y : Nat) : x >>> y ≤ x := Nat.shiftRight_le x y
theorem pop_ge {b n : Nat} (h : b < R2 n) : ∀ m, n ≤ m → pop b m = pop b n
  | 0, hm => by have : n = 0 := by omega
                subst this; rfl
  | m + 1, hm => by
    by_cases e : n = m + 1
    · subst e; rfl
    · rw [pop, pop_ge h m (by omega), bt_tb, tb_ge h (by omega)]; rfl
theorem sel_pop (b : Nat) : ∀ n, (selm (fun r => bt b r == 1) idn n).length = pop b n
  | 0 => rfl
  | n + 1 => by
    have ih := sel_pop b n
    have := bt_le b n
    cases hp : (bt b n == 1) with
    | true => rw [selm_t (p := fun r => bt b r == 1) hp, List.length_append, ih, pop]; simp at hp; simp [hp]
    | false => rw [selm_f (p := fun r => bt b r == 1) hp, ih, pop]; simp at hp; omega
def tupL (n b : Nat) : List Nat := selm (fun r => bt b r == 1) idn (R2 n)
def cntR (p t : Int) : Int × Int := if isRel p t = true then (((pop t.toNat 16 : Nat) : Int), (0 : Int)) else (0, 1)
-- spec.l06List
def m72_0 : MC := (.seq (.seq (.region [⟨(.mov (.t 4)), (some 6), none⟩, ⟨(.fieldAddr 0 (.t 1)), (some 7), none⟩, ⟨(.load none (.t 7)), (some 8), none⟩, ⟨(.call 58 [(.t 8)]), (some 9), none⟩, ⟨(.bin .lss (.t 6) (.t 9)), (some 10), none⟩] false) (.cond (.t 10) .skip (.exit 0))) (.seq (.block 1 (.seq (.region [⟨(.fieldAddr 1 (.t 1)), (some 13), none⟩, ⟨(.load none (.t 13)), (some 14), none⟩, ⟨(.mov (.t 4)), (some 15), none⟩, ⟨(.conv .u64 (.t 15)), (some 16), none⟩, ⟨(.bin .shr (.t 14) (.t 16)), (some 17), none⟩, ⟨(.bin .and (.t 17) (.k (.int .i64 1))), (some 18), none⟩, ⟨(.bin .eql (.t 18) (.k (.int .i64 1))), (some 19), none⟩] false) (.cond (.t 19) (.region [⟨(.mov (.t 3)), (some 20), none⟩, ⟨(.mov (.t 4)), (some 21), none⟩, ⟨(.bslice 1 [(.int .i64 0)] 1 [(0, (1, (.t 21)))]), (some 22), none⟩, ⟨(.append 1 8 (.t 20) (.t 22)), (some 23), none⟩, ⟨(.mov (.t 23)), (some 3), none⟩] false) .skip))) (.region [⟨(.mov (.t 4)), (some 11), none⟩, ⟨(.bin .add (.t 11) (.k (.int .i64 1))), (some 12), none⟩, ⟨(.mov (.t 12)), (some 4), none⟩] false)))
def m72 : MC := (.seq (.region [⟨(.box (.t 0)), (some 1), none⟩, ⟨(.mov (.k .nils)), (some 2), none⟩] false) (.seq (.region [⟨.empt, (some 5), none⟩, ⟨(.mov (.t 5)), (some 3), none⟩] false) (.seq (.seq (.region [⟨(.mov (.k (.int .i64 0))), (some 4), none⟩] false) (.block 0 (.loop m72_0))) (.seq (.region [⟨(.mov (.t 3)), (some 24), none⟩, ⟨(.mov (.t 24)), (some 2), none⟩] false) .ret))))
theorem has72 : Has cx 72 25 m72 [(.tmp 2)] :=
  ⟨⟨Try.f72, Try.f72.body.getD .skip, by kernel_rfl, by kernel_rfl, by kernel_rfl, by kernel_rfl, by kernel_rfl, by kernel_rfl⟩⟩
theorem lp72_0 (n b : Nat) (hn : n ≤ 4) (hb : b < 65536) (o : Out) (ho : (match selm (fun r => bt b r == 1) (idn) (R2 n) with | [] => (⟨.exit 0, [(3, .emp)], []⟩ : Out) | x :: xs => ⟨.exit 0, [(3, .sl 0 0 (x :: xs).length)], [⟨ints (x :: xs), 1, 0, some 0, false⟩]⟩) = o) :
    LpS cx 25 0 m72_0 [(1, .ptr 0 0), (3, .emp), (4, .int .i64 (0 : Nat))] [⟨[.int .i64 n, .int .i64 b], 1, 0, some 0, true⟩] o.x o.e o.h := by
  obtain ⟨h1, h2, h3, h4⟩ := shN hn
  subst ho
  refine lp_st (R2 n) (selm (fun r => bt b r == 1) (idn)) (fun i s => match s with | [] => [(1, .ptr 0 0), (3, .emp), (4, .int .i64 (i : Nat))] | x :: xs => [(1, .ptr 0 0), (3, .sl 1 0 (x :: xs).length), (4, .int .i64 (i : Nat))]) (fun i s => match s with | [] => [⟨[.int .i64 n, .int .i64 b], 1, 0, some 0, true⟩] | x :: xs => [⟨[.int .i64 n, .int .i64 b], 1, 0, some 0, true⟩, ⟨ints (x :: xs), 1, 1, some 0, false⟩]) (fun s => match s with | [] => ⟨.exit 0, [(3, .emp)], []⟩ | x :: xs => ⟨.exit 0, [(3, .sl 0 0 (x :: xs).length)], [⟨ints (x :: xs), 1, 0, some 0, false⟩]⟩) ?_ ?_ (R2 n) 0 (by omega)
  · intro i s hi hs
    have hlt : decide ((i : Int) < (R2 n : Nat)) = true := decide_eq_true (by omega)
    have hle : decide ((i : Int) ≤ (R2 n : Nat) - 1) = true := decide_eq_true (by omega)
    have hlen : s.length ≤ 16 := by have := selm_len (fun r => bt b r == 1) (idn) i; rw [hs] at this; omega
    cases hp : (fun r => bt b r == 1) i with
    | true =>
      have hp' : (bt b i == 1) = true := hp
      have hq : (((bt b i : Nat) : Int) == 1) = (bt b i == 1) := by rw [Bool.eq_iff_iff]; simp only [beq_iff_eq]; omega
      rw [hp'] at hq
      cases s with
      | nil =>
        refine ⟨[(idn) i], by rw [selm_t (p := fun r => bt b r == 1) hp, hs]; try rfl, ?_⟩
        unfold m72_0
        repeat' (first
          | (refine g_op ?_; first
            | refine ep_mov rfl ?_ | refine ep_load1 rfl rfl rfl rfl ?_ | refine ep_fieldAddr rfl ?_
            | refine ep_call0 rfl (by first | exact ev58 _ hn) rfl rfl ?_
            | refine sp_call rfl rfl rfl rfl (by first | exact ev58 _ hn) ⟨rfl, rfl, rfl, rfl⟩ rfl rfl rfl ?_
            | refine ep_bin rfl rfl (by first | exact b_shr (by omega) | exact b_bt (by omega) | exact b_add (by omega) (by omega) | exact b_sub (by omega) (by omega) | exact b_and (by omega) (by omega) | exact b_or (by omega) (by omega) | exact b_shr (by omega) | exact b_shl (by omega) (by omega) | exact b_lss | exact b_leq | exact b_gtr | exact b_geq | exact b_eql | exact b_neq) ?_
            | refine ep_conv rfl (by first | exact w_u64 (by omega) (by omega) | exact wrap_id (by omega) (by omega) | rfl) ?_ | refine sp_bslice rfl rfl rfl rfl rfl ?_ | refine sp_push0 rfl (by first | exact .inl rfl | exact .inr rfl) rfl rfl rfl rfl rfl (by decide) rfl rfl rfl ?_
            | refine sp_push rfl rfl rfl rfl rfl rfl rfl (by first | exact ints_len _ | exact prs_len _ _ | exact zints_len _) (by omega) (Nat.zero_le _) rfl rfl rfl rfl rfl ?_)
          | (refine g_ops ?_; first | refine eo_none ?_ | refine eo_nil ?_)
          | (refine g_code ?_; first | refine ec_seq ?_ | refine ec_region ?_ | refine ec_block ?_ | refine ec_skip ?_ | refine ec_exit ?_ | refine ec_condT rfl ?_ | refine ec_condF rfl ?_ | refine ec_condTH rfl (by assumption) ?_ | refine ec_condFH rfl (by assumption) ?_)
          | refine ek_seqN ?_ | refine ek_seqX ?_ | refine ek_blkN ?_ | refine ek_blkR ?_ | refine ek_blkX ?_ | refine ek_blkY rfl ?_)
        exact rnd_on (by rfl) (scmp2 (by rfl) (by rfl) (by exact ⟨rfl, rfl, rfl⟩) (by rfl) (by first | rfl | (simp; done) | (simp [ints, prs]; done)) (by rfl) (by first | rfl | (simp; done) | (simp [ints, prs]; done)))
      | cons x xs =>
        refine ⟨(x :: xs) ++ [(idn) i], by rw [selm_t (p := fun r => bt b r == 1) hp, hs]; try rfl, ?_⟩
        unfold m72_0
        repeat' (first
          | (refine g_op ?_; first
            | refine ep_mov rfl ?_ | refine ep_load1 rfl rfl rfl rfl ?_ | refine ep_fieldAddr rfl ?_
            | refine ep_call0 rfl (by first | exact ev58 _ hn) rfl rfl ?_
            | refine sp_call rfl rfl rfl rfl (by first | exact ev58 _ hn) ⟨rfl, rfl, rfl, rfl⟩ rfl rfl rfl ?_
            | refine ep_bin rfl rfl (by first | exact b_shr (by omega) | exact b_bt (by omega) | exact b_add (by omega) (by omega) | exact b_sub (by omega) (by omega) | exact b_and (by omega) (by omega) | exact b_or (by omega) (by omega) | exact b_shr (by omega) | exact b_shl (by omega) (by omega) | exact b_lss | exact b_leq | exact b_gtr | exact b_geq | exact b_eql | exact b_neq) ?_
            | refine ep_conv rfl (by first | exact w_u64 (by omega) (by omega) | exact wrap_id (by omega) (by omega) | rfl) ?_ | refine sp_bslice rfl rfl rfl rfl rfl ?_ | refine sp_push0 rfl (by first | exact .inl rfl | exact .inr rfl) rfl rfl rfl rfl rfl (by decide) rfl rfl rfl ?_
            | refine sp_push rfl rfl rfl rfl rfl rfl rfl (by first | exact ints_len _ | exact prs_len _ _ | exact zints_len _) (by omega) (Nat.zero_le _) rfl rfl rfl rfl rfl ?_)
          | (refine g_ops ?_; first | refine eo_none ?_ | refine eo_nil ?_)
          | (refine g_code ?_; first | refine ec_seq ?_ | refine ec_region ?_ | refine ec_block ?_ | refine ec_skip ?_ | refine ec_exit ?_ | refine ec_condT rfl ?_ | refine ec_condF rfl ?_ | refine ec_condTH rfl (by assumption) ?_ | refine ec_condFH rfl (by assumption) ?_)
          | refine ek_seqN ?_ | refine ek_seqX ?_ | refine ek_blkN ?_ | refine ek_blkR ?_ | refine ek_blkX ?_ | refine ek_blkY rfl ?_)
        exact rnd_on (by rfl) (scmp2 (by rfl) (by rfl) (by exact ⟨rfl, rfl, rfl⟩) (by rfl) (by first | rfl | (simp; done) | (simp [ints, prs]; done)) (by rfl) (by first | rfl | (simp; done) | (simp [ints, prs]; done)))
    | false =>
      have hp' : (bt b i == 1) = false := hp
      have hq : (((bt b i : Nat) : Int) == 1) = (bt b i == 1) := by rw [Bool.eq_iff_iff]; simp only [beq_iff_eq]; omega
      rw [hp'] at hq
      cases s with
      | nil =>
        refine ⟨[], by rw [selm_f (p := fun r => bt b r == 1) hp, hs]; try rfl, ?_⟩
        unfold m72_0
        repeat' (first
          | (refine g_op ?_; first
            | refine ep_mov rfl ?_ | refine ep_load1 rfl rfl rfl rfl ?_ | refine ep_fieldAddr rfl ?_
            | refine ep_call0 rfl (by first | exact ev58 _ hn) rfl rfl ?_
            | refine sp_call rfl rfl rfl rfl (by first | exact ev58 _ hn) ⟨rfl, rfl, rfl, rfl⟩ rfl rfl rfl ?_
            | refine ep_bin rfl rfl (by first | exact b_shr (by omega) | exact b_bt (by omega) | exact b_add (by omega) (by omega) | exact b_sub (by omega) (by omega) | exact b_and (by omega) (by omega) | exact b_or (by omega) (by omega) | exact b_shr (by omega) | exact b_shl (by omega) (by omega) | exact b_lss | exact b_leq | exact b_gtr | exact b_geq | exact b_eql | exact b_neq) ?_
            | refine ep_conv rfl (by first | exact w_u64 (by omega) (by omega) | exact wrap_id (by omega) (by omega) | rfl) ?_ | refine sp_bslice rfl rfl rfl rfl rfl ?_ | refine sp_push0 rfl (by first | exact .inl rfl | exact .inr rfl) rfl rfl rfl rfl rfl (by decide) rfl rfl rfl ?_
            | refine sp_push rfl rfl rfl rfl rfl rfl rfl (by first | exact ints_len _ | exact prs_len _ _ | exact zints_len _) (by omega) (Nat.zero_le _) rfl rfl rfl rfl rfl ?_)
          | (refine g_ops ?_; first | refine eo_none ?_ | refine eo_nil ?_)
          | (refine g_code ?_; first | refine ec_seq ?_ | refine ec_region ?_ | refine ec_block ?_ | refine ec_skip ?_ | refine ec_exit ?_ | refine ec_condT rfl ?_ | refine ec_condF rfl ?_ | refine ec_condTH rfl (by assumption) ?_ | refine ec_condFH rfl (by assumption) ?_)
          | refine ek_seqN ?_ | refine ek_seqX ?_ | refine ek_blkN ?_ | refine ek_blkR ?_ | refine ek_blkX ?_ | refine ek_blkY rfl ?_)
        exact rnd_on (by rfl) (scmp2 (by rfl) (by rfl) (by exact ⟨rfl, rfl, rfl⟩) (by rfl) (by first | rfl | (simp; done) | (simp [ints, prs]; done)) (by rfl) (by first | rfl | (simp; done) | (simp [ints, prs]; done)))
      | cons x xs =>
        refine ⟨x :: xs, by rw [selm_f (p := fun r => bt b r == 1) hp, hs]; try rfl, ?_⟩
        unfold m72_0
        repeat' (first
          | (refine g_op ?_; first
            | refine ep_mov rfl ?_ | refine ep_load1 rfl rfl rfl rfl ?_ | refine ep_fieldAddr rfl ?_
            | refine ep_call0 rfl (by first | exact ev58 _ hn) rfl rfl ?_
            | refine sp_call rfl rfl rfl rfl (by first | exact ev58 _ hn) ⟨rfl, rfl, rfl, rfl⟩ rfl rfl rfl ?_
            | refine ep_bin rfl rfl (by first | exact b_shr (by omega) | exact b_bt (by omega) | exact b_add (by omega) (by omega) | exact b_sub (by omega) (by omega) | exact b_and (by omega) (by omega) | exact b_or (by omega) (by omega) | exact b_shr (by omega) | exact b_shl (by omega) (by omega) | exact b_lss | exact b_leq | exact b_gtr | exact b_geq | exact b_eql | exact b_neq) ?_
            | refine ep_conv rfl (by first | exact w_u64 (by omega) (by omega) | exact wrap_id (by omega) (by omega) | rfl) ?_ | refine sp_bslice rfl rfl rfl rfl rfl ?_ | refine sp_push0 rfl (by first | exact .inl rfl | exact .inr rfl) rfl rfl rfl rfl rfl (by decide) rfl rfl rfl ?_
            | refine sp_push rfl rfl rfl rfl rfl rfl rfl (by first | exact ints_len _ | exact prs_len _ _ | exact zints_len _) (by omega) (Nat.zero_le _) rfl rfl rfl rfl rfl ?_)
          | (refine g_ops ?_; first | refine eo_none ?_ | refine eo_nil ?_)
          | (refine g_code ?_; first | refine ec_seq ?_ | refine ec_region ?_ | refine ec_block ?_ | refine ec_skip ?_ | refine ec_exit ?_ | refine ec_condT rfl ?_ | refine ec_condF rfl ?_ | refine ec_condTH rfl (by assumption) ?_ | refine ec_condFH rfl (by assumption) ?_)
          | refine ek_seqN ?_ | refine ek_seqX ?_ | refine ek_blkN ?_ | refine ek_blkR ?_ | refine ek_blkX ?_ | refine ek_blkY rfl ?_)
        exact rnd_on (by rfl) (scmp2 (by rfl) (by rfl) (by exact ⟨rfl, rfl, rfl⟩) (by rfl) (by first | rfl | (simp; done) | (simp [ints, prs]; done)) (by rfl) (by first | rfl | (simp; done) | (simp [ints, prs]; done)))
  · intro s hs
    have hlt : decide (((R2 n : Nat) : Int) < (R2 n : Nat)) = false := decide_eq_false (by omega)
    have hle : decide (((R2 n : Nat) : Int) ≤ (R2 n : Nat) - 1) = false := decide_eq_false (by omega)
    cases s with
    | nil =>
      unfold m72_0
      repeat' (first
        | (refine g_op ?_; first
          | refine ep_mov rfl ?_ | refine ep_load1 rfl rfl rfl rfl ?_ | refine ep_fieldAddr rfl ?_
          | refine ep_call0 rfl (by first | exact ev58 _ hn) rfl rfl ?_
          | refine sp_call rfl rfl rfl rfl (by first | exact ev58 _ hn) ⟨rfl, rfl, rfl, rfl⟩ rfl rfl rfl ?_
          | refine ep_bin rfl rfl (by first | exact b_shr (by omega) | exact b_bt (by omega) | exact b_add (by omega) (by omega) | exact b_sub (by omega) (by omega) | exact b_and (by omega) (by omega) | exact b_or (by omega) (by omega) | exact b_shr (by omega) | exact b_shl (by omega) (by omega) | exact b_lss | exact b_leq | exact b_gtr | exact b_geq | exact b_eql | exact b_neq) ?_
          | refine ep_conv rfl (by first | exact w_u64 (by omega) (by omega) | exact wrap_id (by omega) (by omega) | rfl) ?_ | refine sp_bslice rfl rfl rfl rfl rfl ?_ | refine sp_push0 rfl (by first | exact .inl rfl | exact .inr rfl) rfl rfl rfl rfl rfl (by decide) rfl rfl rfl ?_
          | refine sp_push rfl rfl rfl rfl rfl rfl rfl (by first | exact ints_len _ | exact prs_len _ _ | exact zints_len _) (by omega) (Nat.zero_le _) rfl rfl rfl rfl rfl ?_)
        | (refine g_ops ?_; first | refine eo_none ?_ | refine eo_nil ?_)
        | (refine g_code ?_; first | refine ec_seq ?_ | refine ec_region ?_ | refine ec_block ?_ | refine ec_skip ?_ | refine ec_exit ?_ | refine ec_condT rfl ?_ | refine ec_condF rfl ?_ | refine ec_condTH rfl (by assumption) ?_ | refine ec_condFH rfl (by assumption) ?_)
        | refine ek_seqN ?_ | refine ek_seqX ?_ | refine ek_blkN ?_ | refine ek_blkR ?_ | refine ek_blkX ?_ | refine ek_blkY rfl ?_)
      exact rnd_out (by rfl) (by simp) (scmp2 (by rfl) (by rfl) (by exact ⟨rfl, rfl, rfl⟩) (by rfl) (by first | rfl | (simp; done) | (simp [ints, prs]; done)) (by rfl) (by first | rfl | (simp; done) | (simp [ints, prs]; done)))
    | cons x xs =>
      unfold m72_0
      repeat' (first
        | (refine g_op ?_; first
          | refine ep_mov rfl ?_ | refine ep_load1 rfl rfl rfl rfl ?_ | refine ep_fieldAddr rfl ?_
          | refine ep_call0 rfl (by first | exact ev58 _ hn) rfl rfl ?_
          | refine sp_call rfl rfl rfl rfl (by first | exact ev58 _ hn) ⟨rfl, rfl, rfl, rfl⟩ rfl rfl rfl ?_
          | refine ep_bin rfl rfl (by first | exact b_shr (by omega) | exact b_bt (by omega) | exact b_add (by omega) (by omega) | exact b_sub (by omega) (by omega) | exact b_and (by omega) (by omega) | exact b_or (by omega) (by omega) | exact b_shr (by omega) | exact b_shl (by omega) (by omega) | exact b_lss | exact b_leq | exact b_gtr | exact b_geq | exact b_eql | exact b_neq) ?_
          | refine ep_conv rfl (by first | exact w_u64 (by omega) (by omega) | exact wrap_id (by omega) (by omega) | rfl) ?_ | refine sp_bslice rfl rfl rfl rfl rfl ?_ | refine sp_push0 rfl (by first | exact .inl rfl | exact .inr rfl) rfl rfl rfl rfl rfl (by decide) rfl rfl rfl ?_
          | refine sp_push rfl rfl rfl rfl rfl rfl rfl (by first | exact ints_len _ | exact prs_len _ _ | exact zints_len _) (by omega) (Nat.zero_le _) rfl rfl rfl rfl rfl ?_)
        | (refine g_ops ?_; first | refine eo_none ?_ | refine eo_nil ?_)
        | (refine g_code ?_; first | refine ec_seq ?_ | refine ec_region ?_ | refine ec_block ?_ | refine ec_skip ?_ | refine ec_exit ?_ | refine ec_condT rfl ?_ | refine ec_condF rfl ?_ | refine ec_condTH rfl (by assumption) ?_ | refine ec_condFH rfl (by assumption) ?_)
        | refine ek_seqN ?_ | refine ek_seqX ?_ | refine ek_blkN ?_ | refine ek_blkR ?_ | refine ek_blkX ?_ | refine ek_blkY rfl ?_)
      exact rnd_out (by rfl) (by simp) (scmp2 (by rfl) (by rfl) (by exact ⟨rfl, rfl, rfl⟩) (by rfl) (by first | rfl | (simp; done) | (simp [ints, prs]; done)) (by rfl) (by first | rfl | (simp; done) | (simp [ints, prs]; done)))

theorem ev72 (n b : Nat) (hn : n ≤ 4) (hb : b < 65536) : Ev cx 72 [.agg [.int .i64 n, .int .i64 b]] [] (slV .emp 0 (tupL n b)) (slH 0 1 ints (tupL n b)) := by
  cases hs : tupL n b with
  | nil =>
    have lp := lp72_0 n b hn hb _ (by rw [show selm (fun r => bt b r == 1) idn (R2 n) = _ from hs])
    refine has72.eev rfl rfl ?_
    unfold m72
    repeat' (first
      | refine sc_loop lp rfl rfl ⟨rfl, rfl, rfl⟩ rfl rfl rfl ?_
      | (refine g_op ?_; first
        | refine ep_mov rfl ?_
        | refine sp_box rfl rfl rfl rfl rfl ?_ | refine ep_empt ?_)
      | (refine g_ops ?_; first | refine eo_none ?_ | refine eo_nil ?_)
      | (refine g_code ?_; first | refine ec_seq ?_ | refine ec_region ?_ | refine ec_block ?_ | refine ec_ret ?_)
      | refine ek_seqN ?_ | refine ek_seqX ?_ | refine ek_seqR ?_ | refine ek_blkN ?_ | refine ek_blkR ?_ | refine ek_blkX ?_ | refine ek_blkY rfl ?_)
    refine sfin (.inr rfl) (by rfl) (by rfl) (by exact ⟨rfl, rfl, rfl⟩) (by rfl) (by rfl) (by rfl) (by first | rfl | (simp; done) | (simp [ints, prs]; done))
  | cons x xs =>
    have lp := lp72_0 n b hn hb _ (by rw [show selm (fun r => bt b r == 1) idn (R2 n) = _ from hs])
    refine has72.eev rfl rfl ?_
    unfold m72
    repeat' (first
      | refine sc_loop lp rfl rfl ⟨rfl, rfl, rfl⟩ rfl rfl rfl ?_
      | (refine g_op ?_; first
        | refine ep_mov rfl ?_
        | refine sp_box rfl rfl rfl rfl rfl ?_ | refine ep_empt ?_)
      | (refine g_ops ?_; first | refine eo_none ?_ | refine eo_nil ?_)
      | (refine g_code ?_; first | refine ec_seq ?_ | refine ec_region ?_ | refine ec_block ?_ | refine ec_ret ?_)
      | refine ek_seqN ?_ | refine ek_seqX ?_ | refine ek_seqR ?_ | refine ek_blkN ?_ | refine ek_blkR ?_ | refine ek_blkX ?_ | refine ek_blkY rfl ?_)
    refine sfin (.inr rfl) (by rfl) (by rfl) (by exact ⟨rfl, rfl, rfl⟩) (by rfl) (by rfl) (by rfl) (by first | rfl | (simp; done) | (simp [ints, prs]; done))
theorem tup_len (n b : Nat) (hn : n ≤ 4) (hb : b < R2 (R2 n)) : (tupL n b).length = pop b 16 := by
  rw [tupL, sel_pop, ← pop_ge hb 16 (shN hn).1]
theorem wf64 {z : Int} (h : (Lit.int .i64 z).wf = true) : -9223372036854775808 ≤ z ∧ z < 9223372036854775808 := by
  simp only [Lit.wf, IntKind.min, IntKind.max, IntKind.signed, IntKind.bits, Bool.and_eq_true, decide_eq_true_eq] at h
  simp at h; omega
theorem ieq (x y : Nat) : (((x : Nat) : Int) == ((y : Nat) : Int)) = (x == y) := by rw [Bool.eq_iff_iff]; simp only [beq_iff_eq]; omega
theorem ine (x y : Nat) : (((x : Nat) : Int) != ((y : Nat) : Int)) = (x != y) := by rw [bne, bne, ieq]
theorem ieq1 (x : Nat) : (((x : Nat) : Int) == 1) = (x == 1) := ieq x 1
theorem ieq0 (x : Nat) : (((x : Nat) : Int) == 0) = (x == 0) := ieq x 0
theorem ints_get {l : List Nat} {j : Nat} (h : j < l.length) : (ints l)[0 + j * 1]? = some (.int .i64 (l.getD j 0 : Nat)) := by
  simp [ints, h]
theorem zints_get {l : List Int} {j : Nat} (h : j < l.length) : (zints l)[0 + j * 1]? = some (.int .i64 (l.getD j 0)) := by
  simp [zints, h]
theorem prs_get {n : Nat} : ∀ {l : List Nat} {j : Nat} (_ : j < l.length), [V.int .i64 (n : Nat), V.int .i64 (l.getD j 0 : Nat)].length = 2 ∧ (0 + j * 2) + 2 ≤ (prs n l).length ∧ ((prs n l).drop (0 + j * 2)).take 2 = [V.int .i64 (n : Nat), V.int .i64 (l.getD j 0 : Nat)]
  | [], j, h => by simp at h
  | x :: xs, 0, h => by simp [prs]
  | x :: xs, j + 1, h => by
    obtain ⟨_, h2, h3⟩ := prs_get (n := n) (l := xs) (j := j) (by simpa using h)
    have e : (0 + (j + 1) * 2) = (0 + j * 2) + 2 := by omega
    rw [e]
    have e2 : prs n (x :: xs) = .int .i64 (n : Nat) :: .int .i64 (x : Nat) :: prs n xs := by simp [prs]
    rw [e2]
    refine ⟨rfl, by simp; omega, ?_⟩
    rw [List.drop_succ_cons, List.drop_succ_cons, h3]; simp
def fns (l : List (Int × Int)) : List V := l.flatMap fun (f : Int × Int) => [.int .i64 f.1, .int .i64 f.2]
theorem fns_len : ∀ (l : List (Int × Int)), (fns l).length = l.length * 2
  | [] => rfl
  | x :: xs => by have := fns_len xs; simp [fns] at this ⊢; omega
theorem fns_get : ∀ {l : List (Int × Int)} {j : Nat} (_ : j < l.length), [V.int .i64 (l.getD j (0, 0)).1, V.int .i64 (l.getD j (0, 0)).2].length = 2 ∧ (0 + j * 2) + 2 ≤ (fns l).length ∧ ((fns l).drop (0 + j * 2)).take 2 = [V.int .i64 (l.getD j (0, 0)).1, V.int .i64 (l.getD j (0, 0)).2]
  | [], j, h => by simp at h
  | x :: xs, 0, h => by simp [fns]
  | x :: xs, j + 1, h => by
    obtain ⟨_, h2, h3⟩ := fns_get (l := xs) (j := j) (by simpa using h)
    have e : (0 + (j + 1) * 2) = (0 + j * 2) + 2 := by omega
    rw [e]
    have e2 : fns (x :: xs) = .int .i64 x.1 :: .int .i64 x.2 :: fns xs := by simp [fns]
    rw [e2]
    refine ⟨rfl, by simp; omega, ?_⟩
    rw [List.drop_succ_cons, List.drop_succ_cons, h3]; simp
theorem xor_lt {x y n : Nat} (hx : x < R2 n) (hy : y < R2 n) : x ^^^ y < R2 n := by unfold R2 at *; exact Nat.xor_lt_two_pow hx hy
theorem selm_all {g : Nat → Nat} (n : Nat) : (selm (fun _ => true) g n).length = n ∧ ∀ r, r < n → (selm (fun _ => true) g n).getD r 0 = g r := by
  have e : selm (fun _ => true) g n = (List.range n).map g := by unfold selm; rw [List.filter_eq_self.mpr (fun _ _ => rfl)]
  rw [e]; refine ⟨by simp, fun r hr => by simp [List.getD_eq_getElem?_getD, hr]⟩
def essP (b i r : Nat) : Bool := bt b r == bt b (r ^^^ R2 i)
def ess (n b i : Nat) : Bool := !allF (essP b i) 0 (R2 n)
def essL (n b : Nat) : List Nat := selm (ess n b) idn n
def prodP (n b c t : Nat) : Bool := (bt b (t &&& (R2 n - 1)) == 1) && (bt c (t >>> n) == 1)
-- (impl.Relation).has
def m141 : MC := (.seq (.region [⟨(.box (.t 0)), (some 2), none⟩, ⟨(.mov (.k (.bool false))), (some 4), none⟩] false) (.seq (.region [⟨(.fieldAddr 1 (.t 2)), (some 5), none⟩, ⟨(.load none (.t 5)), (some 6), none⟩, ⟨(.mov (.t 1)), (some 7), none⟩, ⟨(.call 137 [(.t 6), (.t 7)]), (some 8), none⟩, ⟨(.bin .eql (.t 8) (.k (.int .i64 1))), (some 9), none⟩, ⟨(.mov (.t 9)), (some 4), none⟩] false) .ret))
theorem has141 : Has cx 141 10 m141 [(.tmp 4)] :=
  ⟨⟨Try.f141, Try.f141.body.getD .skip, by kernel_rfl, by kernel_rfl, by kernel_rfl, by kernel_rfl, by kernel_rfl, by kernel_rfl⟩⟩
theorem ev141 (n : Int) (b r : Nat) (hb : b < 9223372036854775808) (hr : r ≤ 64) : Ev cx 141 [.agg [.int .i64 n, .int .i64 b], .int .i64 r] [] (.bool (bt b r == 1)) [] := by
  have hq := ieq1 (bt b r)
  refine has141.eev rfl rfl ?_
  unfold m141
  repeat' (first
    | (refine g_op ?_; first
      | refine ep_mov rfl ?_ | refine ep_load1 rfl rfl rfl rfl ?_ | refine ep_fieldAddr rfl ?_
      | refine ep_call0 rfl (by first | exact ev137 _ _ hb hr) rfl rfl ?_
      | refine sp_call rfl rfl rfl rfl (by first | exact ev137 _ _ hb hr) ⟨rfl, rfl, rfl, rfl⟩ rfl rfl rfl ?_
      | refine ep_bin rfl rfl (by first | exact b_add (by omega) (by omega) | exact b_sub (by omega) (by omega) | exact b_and (by omega) (by omega) | exact b_or (by omega) (by omega) | exact b_shr (by omega) | exact b_shl (by omega) (by omega) | exact b_lss | exact b_leq | exact b_gtr | exact b_geq | exact b_eql | exact b_neq) ?_
      | refine sp_box rfl rfl rfl rfl rfl ?_)
    | (refine g_ops ?_; first | refine eo_none ?_ | refine eo_nil ?_)
    | (refine g_code ?_; first | refine ec_seq ?_ | refine ec_region ?_ | refine ec_ret ?_)
    | refine ek_seqN ?_ | refine ek_seqR ?_)
  refine sfin (.inr rfl) (by rfl) (by rfl) (by exact ⟨rfl, rfl, rfl⟩) (by rfl) (by rfl) (by exact congrArg V.bool hq) (by first | rfl | (simp; done) | (simp [ints, prs]; done))
theorem tupL_mem {n b x : Nat} : x ∈ tupL n b ↔ x < R2 n ∧ bt b x = 1 := by
  simp [tupL, selm, List.mem_range, idn]
theorem getD_mem {l : List Nat} {i : Nat} (h : i < l.length) : l.getD i 0 ∈ l := by
  rw [List.getD_eq_getElem?_getD, List.getElem?_eq_getElem h]; exact List.getElem_mem h
theorem mem_getD {l : List Nat} {x : Nat} (h : x ∈ l) : ∃ i, i < l.length ∧ l.getD i 0 = x := by
  obtain ⟨i, hi, rfl⟩ := List.getElem_of_mem h
  exact ⟨i, hi, by rw [List.getD_eq_getElem?_getD, List.getElem?_eq_getElem hi]; rfl⟩
theorem tup_le {n b : Nat} : (tupL n b).length ≤ R2 n := selm_len _ _ _
def prH (n : Nat) (l1 l2 : List Nat) (i q : Nat) : Nat := l1.getD i 0 ||| (l2.getD q 0 <<< n)
def prO (n : Nat) (l1 l2 : List Nat) : Nat → Nat
  | 0 => 0
  | i + 1 => prO n l1 l2 i ||| orA (prH n l1 l2 i) l2.length
theorem prH_lt {n m : Nat} {l1 l2 : List Nat} (h1 : ∀ i, i < l1.length → l1.getD i 0 < R2 n) (h2 : ∀ i, i < l2.length → l2.getD i 0 < R2 m) {i q : Nat} (hi : i < l1.length) (hq : q < l2.length) :
    prH n l1 l2 i q = l2.getD q 0 * R2 n + l1.getD i 0 ∧ prH n l1 l2 i q < R2 (n + m) := by
  have a := h1 i hi
  have b := h2 q hq
  have e : prH n l1 l2 i q = l2.getD q 0 * R2 n + l1.getD i 0 := by
    unfold prH R2 at *
    rw [Nat.or_comm, Nat.shiftLeft_eq, Nat.mul_comm, ← Nat.two_pow_add_eq_or_of_lt a]
  refine ⟨e, ?_⟩
  rw [e, show R2 (n + m) = R2 m * R2 n by unfold R2; rw [Nat.pow_add, Nat.mul_comm]]
  have : (l2.getD q 0 + 1) * R2 n ≤ R2 m * R2 n := Nat.mul_le_mul_right _ b
  rw [Nat.add_mul] at this; omega
theorem prO_lt {n m : Nat} {l1 l2 : List Nat} (h1 : ∀ i, i < l1.length → l1.getD i 0 < R2 n) (h2 : ∀ i, i < l2.length → l2.getD i 0 < R2 m) : ∀ i, i ≤ l1.length → prO n l1 l2 i < R2 (R2 (n + m))
  | 0, _ => by rw [prO]; exact R2_pos _
  | i + 1, h => by rw [prO]; exact or_lt (prO_lt h1 h2 i (by omega)) (orA_lt fun q hq => (prH_lt h1 h2 (by omega) hq).2)
theorem prO_tb (n : Nat) (l1 l2 : List Nat) (t : Nat) : ∀ i, (prO n l1 l2 i).testBit t = true ↔ ∃ x q, x < i ∧ q < l2.length ∧ prH n l1 l2 x q = t
  | 0 => by simp [prO]
  | i + 1 => by
    rw [prO, Nat.testBit_or, Bool.or_eq_true, prO_tb n l1 l2 t i, orA_tb, decide_eq_true_eq]
    constructor
    · rintro (⟨x, q, h1, h2, h3⟩ | ⟨q, h2, h3⟩)
      · exact ⟨x, q, by omega, h2, h3⟩
      · exact ⟨i, q, by omega, h2, h3⟩
    · rintro ⟨x, q, h1, h2, h3⟩
      by_cases e : x = i
      · subst e; exact .inr ⟨q, h2, h3⟩
      · exact .inl ⟨x, q, by omega, h2, h3⟩
theorem tup_lt {n b : Nat} : ∀ i, i < (tupL n b).length → (tupL n b).getD i 0 < R2 n := fun i hi => (tupL_mem.mp (getD_mem hi)).1
theorem prod_eq (n b m c : Nat) : prO n (tupL n b) (tupL m c) (tupL n b).length = pk (bn (prodP n b c)) (R2 (n + m)) := by
  apply Nat.eq_of_testBit_eq
  intro t
  rw [Bool.eq_iff_iff, prO_tb, pk_tb fun r _ => bn_le _ r, Bool.and_eq_true, decide_eq_true_eq, decide_eq_true_eq]
  have hp := R2_pos n
  have e1 : t >>> n = t / R2 n := by unfold R2; exact Nat.shiftRight_eq_div_pow t n
  have e2 : R2 (n + m) = R2 n * R2 m := by unfold R2; rw [Nat.pow_add]
  have hb : bn (prodP n b c) t = 1 ↔ bt b (t % R2 n) = 1 ∧ bt c (t / R2 n) = 1 := by
    unfold bn prodP; rw [and_m1, e1]
    by_cases x : bt b (t % R2 n) = 1 <;> by_cases y : bt c (t / R2 n) = 1 <;> simp [x, y]
  rw [hb]
  constructor
  · rintro ⟨x, q, hx, hq, rfl⟩
    obtain ⟨p1, p2⟩ := prH_lt tup_lt tup_lt hx hq
    obtain ⟨q1, q2⟩ := tupL_mem.mp (getD_mem hx)
    obtain ⟨r1, r2⟩ := tupL_mem.mp (getD_mem hq)
    refine ⟨p2, ?_⟩
    rw [p1]
    generalize (tupL n b).getD x 0 = u at *
    generalize (tupL m c).getD q 0 = w at *
    rw [Nat.mul_comm, Nat.mul_add_mod, Nat.mod_eq_of_lt q1, Nat.mul_add_div hp, Nat.div_eq_of_lt q1, Nat.add_zero]
    exact ⟨q2, r2⟩
  · rintro ⟨h1, h2, h3⟩
    have hd : t / R2 n < R2 m := Nat.div_lt_of_lt_mul (by rw [← e2]; exact h1)
    obtain ⟨x, hx, ex⟩ := mem_getD (tupL_mem.mpr ⟨Nat.mod_lt t hp, h2⟩)
    obtain ⟨q, hq, eq⟩ := mem_getD (tupL_mem.mpr ⟨hd, h3⟩)
    refine ⟨x, q, hx, hq, ?_⟩
    rw [(prH_lt tup_lt tup_lt hx hq).1, ex, eq, Nat.mul_comm]
    exact Nat.div_add_mod t (R2 n)
def firstF (p : Nat → Bool) : Nat → Nat → Option Nat
  | _, 0 => none
  | i, j + 1 => if p i = true then firstF p (i + 1) j else some i
theorem firstF_none {p : Nat → Bool} : ∀ {j i : Nat}, (∀ x, i ≤ x → x < i + j → p x = true) → firstF p i j = none
  | 0, _, _ => rfl
  | j + 1, i, h => by
    rw [firstF, if_pos (h i (Nat.le_refl _) (by omega))]
    exact firstF_none fun x h1 h2 => h x (by omega) (by omega)
theorem firstF_some {p : Nat → Bool} : ∀ {j i x : Nat}, i ≤ x → x < i + j → p x = false → (∀ y, i ≤ y → y < x → p y = true) → firstF p i j = some x
  | 0, i, x, h1, h2, _, _ => by omega
  | j + 1, i, x, h1, h2, h3, h4 => by
    rw [firstF]
    by_cases e : i = x
    · subst e; rw [h3]; rfl
    · rw [if_pos (h4 i (Nat.le_refl _) (by omega))]
      exact firstF_some (by omega) (by omega) h3 fun y g1 g2 => h4 y (by omega) g2
theorem firstF_allT {p : Nat → Bool} : ∀ {j i : Nat}, firstF p i j = none → allF p i j = true
  | 0, _, _ => rfl
  | j + 1, i, h => by
    rw [firstF] at h
    by_cases e : p i = true
    · rw [if_pos e] at h; rw [allF, e, firstF_allT h]; rfl
    · rw [if_neg e] at h; simp at h
theorem firstF_allF {p : Nat → Bool} : ∀ {j i x : Nat}, firstF p i j = some x → allF p i j = false
  | 0, _, _, h => by simp [firstF] at h
  | j + 1, i, x, h => by
    rw [firstF] at h
    by_cases e : p i = true
    · rw [if_pos e] at h; rw [allF, e, firstF_allF h]; rfl
    · rw [allF]; simp [e]
theorem fget {o j : Nat} {l : List Int} (h : j < l.length) : (List.replicate o V.any ++ nums .i64 l)[o + j * 1]? = some (.int .i64 (l.getD j 0)) := by
  rw [List.getElem?_append_right (by simp)]
  simp [nums, h]
def zcp (c : List Int) (i : Nat) : List Int := c.take i ++ List.replicate (c.length - i) 0
theorem zcp_len {c : List Int} {i : Nat} (h : i ≤ c.length) : (zcp c i).length = c.length := by simp [zcp]; omega
theorem zcp_mk (c : List Int) : zints (zcp c 0) = (List.replicate c.length [V.int .i64 0]).flatten := by
  simp only [zcp, List.take_zero, List.nil_append, Nat.sub_zero]
  induction c.length with
  | zero => rfl
  | succ n ih => simp only [List.replicate_succ, zints, List.map_cons, List.flatten_cons, List.singleton_append] at ih ⊢; rw [ih]
theorem zcp_end (c : List Int) : zcp c c.length = c := by simp [zcp]
theorem zcp_set {c : List Int} {i : Nat} (h : i < c.length) : (zints (zcp c i)).take (0 + i * 1) ++ [V.int .i64 (c.getD i 0)] ++ (zints (zcp c i)).drop (0 + i * 1 + 1) = zints (zcp c (i + 1)) := by
  have e1 : List.replicate (c.length - i) (0 : Int) = 0 :: List.replicate (c.length - (i + 1)) 0 := by
    rw [show c.length - i = (c.length - (i + 1)) + 1 by omega, List.replicate_succ]
  have e2 : c.take (i + 1) = c.take i ++ [c.getD i 0] := by
    rw [List.take_add_one, List.getElem?_eq_getElem h, List.getD_eq_getElem?_getD, List.getElem?_eq_getElem h]; rfl
  have e3 : ((c.take i).map fun x => V.int .i64 x).length = i := by simp; omega
  simp only [zcp, zints, List.map_append, e1, e2, Nat.zero_add, Nat.mul_one, List.map_cons]
  rw [List.take_append_of_le_length (by omega), List.take_of_length_le (by omega)]
  rw [List.drop_append, e3, List.drop_eq_nil_of_le (by omega), show i + 1 - i = 1 by omega]
  simp
-- laws.eqFunc
def m76 : MC := (.seq (.region [⟨(.box (.t 0)), (some 2), none⟩, ⟨(.box (.t 1)), (some 3), none⟩, ⟨(.mov (.k (.bool false))), (some 4), none⟩] false) (.seq (.seq (.region [⟨(.fieldAddr 0 (.t 2)), (some 5), none⟩, ⟨(.load none (.t 5)), (some 6), none⟩, ⟨(.fieldAddr 0 (.t 3)), (some 7), none⟩, ⟨(.load none (.t 7)), (some 8), none⟩, ⟨(.bin .neq (.t 6) (.t 8)), (some 9), none⟩] false) (.cond (.t 9) (.seq (.region [⟨(.mov (.k (.bool false))), (some 4), none⟩] false) .ret) .skip)) (.seq (.seq (.region [⟨(.fieldAddr 1 (.t 2)), (some 10), none⟩, ⟨(.load none (.t 10)), (some 11), none⟩, ⟨(.fieldAddr 1 (.t 3)), (some 12), none⟩, ⟨(.load none (.t 12)), (some 13), none⟩, ⟨(.bin .neq (.t 11) (.t 13)), (some 14), none⟩] false) (.cond (.t 14) (.seq (.region [⟨(.mov (.k (.bool false))), (some 4), none⟩] false) .ret) .skip)) (.seq (.region [⟨(.mov (.k (.bool true))), (some 4), none⟩] false) .ret))))
theorem has76 : Has cx 76 15 m76 [(.tmp 4)] :=
  ⟨⟨Try.f76, Try.f76.body.getD .skip, by kernel_rfl, by kernel_rfl, by kernel_rfl, by kernel_rfl, by kernel_rfl, by kernel_rfl⟩⟩
theorem ev76 (a b : Int) : Ev cx 76 [.agg [.int .i64 a, .int .i64 b], .agg [.int .i64 a, .int .i64 b]] [] (.bool true) [] := by
  have h1 : (a != a) = false := by simp
  have h2 : (b != b) = false := by simp
  refine has76.eev rfl rfl ?_
  unfold m76
  repeat' (first
    | (refine g_op ?_; first
      | refine ep_mov rfl ?_ | refine ep_load1 rfl rfl rfl rfl ?_ | refine ep_fieldAddr rfl ?_
      | refine ep_bin rfl rfl (by first | exact b_add (by omega) (by omega) | exact b_sub (by omega) (by omega) | exact b_and (by omega) (by omega) | exact b_or (by omega) (by omega) | exact b_shr (by omega) | exact b_shl (by omega) (by omega) | exact b_lss | exact b_leq | exact b_gtr | exact b_geq | exact b_eql | exact b_neq) ?_
      | refine sp_box rfl rfl rfl rfl rfl ?_)
    | (refine g_ops ?_; first | refine eo_none ?_ | refine eo_nil ?_)
    | (refine g_code ?_; first | refine ec_seq ?_ | refine ec_region ?_ | refine ec_skip ?_ | refine ec_ret ?_ | refine ec_condT rfl ?_ | refine ec_condF rfl ?_ | refine ec_condTH rfl (by assumption) ?_ | refine ec_condFH rfl (by assumption) ?_)
    | refine ek_seqN ?_ | refine ek_seqR ?_)
  refine sfin (.inr rfl) (by rfl) (by rfl) (by exact ⟨rfl, rfl, rfl⟩) (by rfl) (by rfl) (by rfl) (by first | rfl | (simp; done) | (simp [ints, prs]; done))
def mkc (c : List V) (i : Nat) : List V := ints ((List.range i).map fun x => x + 1) ++ c.drop i
theorem mkc_len {c : List V} {i : Nat} (h : i ≤ c.length) : (mkc c i).length = c.length := by simp [mkc, ints]; omega
theorem mkc_get {c : List V} {i j : Nat} (h : j < i) : (mkc c i)[j]? = some (.int .i64 ((j + 1 : Nat) : Int)) := by
  rw [mkc, List.getElem?_append_left (by simp [ints]; omega)]
  simp [ints, h]
theorem mkc_set {c : List V} {i : Nat} (h : i < c.length) : (mkc c i).take i ++ [V.int .i64 ((i + 1 : Nat) : Int)] ++ (mkc c i).drop (i + 1) = mkc c (i + 1) := by
  have e1 : (ints ((List.range i).map fun x => x + 1)).length = i := by simp [ints]
  unfold mkc
  rw [List.take_append_of_le_length (by omega), List.take_of_length_le (by omega), List.drop_append, List.drop_eq_nil_of_le (by omega), e1, show i + 1 - i = 1 by omega, List.nil_append, List.drop_drop, List.range_succ, List.map_append]
  simp [ints]
theorem mkc_set1 {c : List V} {i : Nat} (h : i < c.length) : (mkc c i).take (0 + i * 1) ++ [V.int .i64 ((i + 1 : Nat) : Int)] ++ (mkc c i).drop (0 + i * 1 + 1) = mkc c (i + 1) := by
  rw [show 0 + i * 1 = i by omega]; exact mkc_set h
theorem mkc_set20 {c : List V} {i : Nat} (h : 2 * i < c.length) : (mkc c (2 * i)).take (0 + i * 2 + 0) ++ [V.int .i64 ((2 * i + 1 : Nat) : Int)] ++ (mkc c (2 * i)).drop (0 + i * 2 + 0 + 1) = mkc c (2 * i + 1) := by
  rw [show 0 + i * 2 + 0 = 2 * i by omega]; exact mkc_set h
theorem mkc_set21 {c : List V} {i : Nat} (h : 2 * i + 1 < c.length) : (mkc c (2 * i + 1)).take (0 + i * 2 + 1) ++ [V.int .i64 ((2 * i + 1 + 1 : Nat) : Int)] ++ (mkc c (2 * i + 1)).drop (0 + i * 2 + 1 + 1) = mkc c (2 * (i + 1)) := by
  rw [show 0 + i * 2 + 1 = 2 * i + 1 by omega, show 2 * (i + 1) = 2 * i + 1 + 1 by omega]; exact mkc_set h
theorem mkc_0 (c : List V) : mkc c 0 = c := by simp [mkc, ints]
def pairAt (c : List V) (j : Nat) (f : Int × Int) : Prop := [V.int .i64 f.1, V.int .i64 f.2].length = 2 ∧ (0 + j * 2) + 2 ≤ c.length ∧ (c.drop (0 + j * 2)).take 2 = [V.int .i64 f.1, V.int .i64 f.2]
-- laws.eqFuncS
def m32_0 : MC := (.seq (.seq (.region [⟨(.mov (.t 5)), (some 11), none⟩, ⟨(.mov (.t 0)), (some 12), none⟩, ⟨(.len (.t 12)), (some 13), none⟩, ⟨(.bin .lss (.t 11) (.t 13)), (some 14), none⟩] false) (.cond (.t 14) .skip (.exit 0))) (.seq (.block 1 (.seq (.region [⟨(.mov (.t 0)), (some 17), none⟩, ⟨(.mov (.t 5)), (some 18), none⟩, ⟨(.indexAddr 2 (.t 17) (.t 18)), (some 19), none⟩, ⟨(.load (some 2) (.t 19)), (some 20), none⟩, ⟨(.mov (.t 1)), (some 21), none⟩, ⟨(.mov (.t 5)), (some 22), none⟩, ⟨(.indexAddr 2 (.t 21) (.t 22)), (some 23), none⟩, ⟨(.load (some 2) (.t 23)), (some 24), none⟩, ⟨(.callw 76 [(.t 20), (.t 24)]), (some 25), none⟩, ⟨(.un .not (.t 25)), (some 26), none⟩] true) (.cond (.t 26) (.seq (.region [⟨(.mov (.k (.bool false))), (some 4), none⟩] false) .ret) .skip))) (.region [⟨(.mov (.t 5)), (some 15), none⟩, ⟨(.bin .add (.t 15) (.k (.int .i64 1))), (some 16), none⟩, ⟨(.mov (.t 16)), (some 5), none⟩] false)))
def m32 : MC := (.seq (.region [⟨(.mov (.k (.bool false))), (some 4), none⟩] false) (.seq (.seq (.region [⟨(.mov (.t 0)), (some 6), none⟩, ⟨(.len (.t 6)), (some 7), none⟩, ⟨(.mov (.t 1)), (some 8), none⟩, ⟨(.len (.t 8)), (some 9), none⟩, ⟨(.bin .neq (.t 7) (.t 9)), (some 10), none⟩] false) (.cond (.t 10) (.seq (.region [⟨(.mov (.k (.bool false))), (some 4), none⟩] false) .ret) .skip)) (.seq (.seq (.region [⟨(.mov (.k (.int .i64 0))), (some 5), none⟩] false) (.block 0 (.loop m32_0))) (.seq (.region [⟨(.mov (.k (.bool true))), (some 4), none⟩] false) .ret))))
theorem has32 : Has cx 32 27 m32 [(.tmp 4)] :=
  ⟨⟨Try.f32, Try.f32.body.getD .skip, by kernel_rfl, by kernel_rfl, by kernel_rfl, by kernel_rfl, by kernel_rfl, by kernel_rfl⟩⟩
theorem lp32_0 (n : Nat) (c d : List V) (f : Nat → Int × Int) (p q : Option Nat) (hn : n ≤ 1048576) (hc : ∀ j, j < n → pairAt c j (f j)) (hd : ∀ j, j < n → pairAt d j (f j)) :
    LpS cx 27 2 m32_0 [(0, .sl 0 0 n), (1, .sl 1 0 n), (5, .int .i64 (0 : Nat))] [⟨c, 2, 0, p, false⟩, ⟨d, 2, 1, q, false⟩] (⟨.exit 0, [], [⟨c, 2, 0, p, false⟩, ⟨d, 2, 1, q, false⟩]⟩ : Out).x (⟨.exit 0, [], [⟨c, 2, 0, p, false⟩, ⟨d, 2, 1, q, false⟩]⟩ : Out).e (⟨.exit 0, [], [⟨c, 2, 0, p, false⟩, ⟨d, 2, 1, q, false⟩]⟩ : Out).h := by
  refine lp_st (n) (fun _ => ()) (fun i _ => [(0, .sl 0 0 n), (1, .sl 1 0 n), (5, .int .i64 (i : Nat))]) (fun i _ => [⟨c, 2, 0, p, false⟩, ⟨d, 2, 1, q, false⟩]) (fun _ => (⟨.exit 0, [], [⟨c, 2, 0, p, false⟩, ⟨d, 2, 1, q, false⟩]⟩ : Out)) ?_ ?_ (n) 0 (by omega)
  · intro i u_ hi hu_
    refine ⟨(), rfl, ?_⟩
    have hlt : decide ((i : Int) < (n : Nat)) = true := decide_eq_true (by omega)
    have hc1 := hc i hi
    have hd1 := hd i hi
    unfold pairAt at hc1 hd1
    unfold m32_0
    repeat' (first
      | refine ep_loadSN rfl rfl rfl hc1 ?_
      | refine ep_loadSN rfl rfl rfl hd1 ?_
      | (refine g_op ?_; first
        | refine ep_mov rfl ?_ | refine sp_loadN rfl rfl rfl rfl rfl ?_
        | refine ep_callw0 rfl (by first | exact ev76 (f i).1 (f i).2) rfl rfl ?_
        | refine sp_callw rfl rfl rfl rfl (by first | exact ev76 (f i).1 (f i).2) ⟨rfl, rfl, rfl, rfl⟩ rfl rfl rfl (by first | exact WrP_refl _ _ | (repeat' (first | exact rfl | exact True.intro | refine And.intro ?_ ?_))) ?_
        | refine ep_bin rfl rfl (by first | exact b_add (by omega) (by omega) | exact b_sub (by omega) (by omega) | exact b_and (by omega) (by omega) | exact b_or (by omega) (by omega) | exact b_shr (by omega) | exact b_shl (by omega) (by omega) | exact b_lss | exact b_leq | exact b_gtr | exact b_geq | exact b_eql | exact b_neq) ?_
        | refine ep_not rfl ?_ | refine ep_lenS rfl ?_ | refine ep_lenN rfl ?_ | refine ep_lenE rfl ?_ | refine sp_idx rfl rfl rfl (by omega) rfl ?_ | refine ep_loadSN rfl rfl rfl (by first | exact prs_get (by omega) | exact fns_get (by omega)) ?_)
      | (refine g_ops ?_; first | refine eo_none ?_ | refine eo_nil ?_)
      | (refine g_dops ?_; first | refine ed_none ?_ | refine ed_nil ?_)
      | refine ed_same rfl ?_ | refine ed_one rfl rfl rfl rfl ?_ | refine ed_two rfl rfl rfl rfl rfl rfl rfl ?_ | refine ed_write rfl rfl ?_
      | (refine g_code ?_; first | refine ec_seq ?_ | refine ec_region ?_ | refine ec_draw ?_ | refine ec_block ?_ | refine ec_skip ?_ | refine ec_exit ?_ | refine ec_ret ?_ | refine ec_condT rfl ?_ | refine ec_condF rfl ?_ | refine ec_condTH rfl (by assumption) ?_ | refine ec_condFH rfl (by assumption) ?_)
      | refine ek_seqN ?_ | refine ek_seqX ?_ | refine ek_seqR ?_ | refine ek_blkN ?_ | refine ek_blkR ?_ | refine ek_blkX ?_ | refine ek_blkY rfl ?_)
    exact rnd_on (by rfl) (scmp2 (by rfl) (by rfl) (by exact ⟨rfl, rfl, rfl⟩) (by rfl) (by first | rfl | (simp; done) | (simp [ints, prs]; done)) (by rfl) (by first | rfl | (simp; done) | (simp [ints, prs]; done)))
  · intro u_ hu_
    have hlt : decide (((n : Nat) : Int) < (n : Nat)) = false := decide_eq_false (by omega)
    unfold m32_0
    repeat' (first
      | (refine g_op ?_; first
        | refine ep_mov rfl ?_ | refine sp_loadN rfl rfl rfl rfl rfl ?_
        | refine ep_bin rfl rfl (by first | exact b_add (by omega) (by omega) | exact b_sub (by omega) (by omega) | exact b_and (by omega) (by omega) | exact b_or (by omega) (by omega) | exact b_shr (by omega) | exact b_shl (by omega) (by omega) | exact b_lss | exact b_leq | exact b_gtr | exact b_geq | exact b_eql | exact b_neq) ?_
        | refine ep_not rfl ?_ | refine ep_lenS rfl ?_ | refine ep_lenN rfl ?_ | refine ep_lenE rfl ?_ | refine sp_idx rfl rfl rfl (by omega) rfl ?_ | refine ep_loadSN rfl rfl rfl (by first | exact prs_get (by omega) | exact fns_get (by omega)) ?_)
      | (refine g_ops ?_; first | refine eo_none ?_ | refine eo_nil ?_)
      | (refine g_dops ?_; first | refine ed_none ?_ | refine ed_nil ?_)
      | refine ed_same rfl ?_ | refine ed_one rfl rfl rfl rfl ?_ | refine ed_two rfl rfl rfl rfl rfl rfl rfl ?_ | refine ed_write rfl rfl ?_
      | (refine g_code ?_; first | refine ec_seq ?_ | refine ec_region ?_ | refine ec_draw ?_ | refine ec_block ?_ | refine ec_skip ?_ | refine ec_exit ?_ | refine ec_ret ?_ | refine ec_condT rfl ?_ | refine ec_condF rfl ?_ | refine ec_condTH rfl (by assumption) ?_ | refine ec_condFH rfl (by assumption) ?_)
      | refine ek_seqN ?_ | refine ek_seqX ?_ | refine ek_seqR ?_ | refine ek_blkN ?_ | refine ek_blkR ?_ | refine ek_blkX ?_ | refine ek_blkY rfl ?_)
    exact rnd_out (by rfl) (by simp) (scmp2 (by rfl) (by rfl) (by exact ⟨rfl, rfl, rfl⟩) (by rfl) (by first | rfl | (simp; done) | (simp [ints, prs]; done)) (by rfl) (by first | rfl | (simp; done) | (simp [ints, prs]; done)))

theorem ev32 (n : Nat) (c d : List V) (f : Nat → Int × Int) (p q : Option Nat) (hn : n ≤ 1048576) (hc : ∀ j, j < n → pairAt c j (f j)) (hd : ∀ j, j < n → pairAt d j (f j)) :
    Ev cx 32 [.sl 0 0 n, .sl 1 0 n] [⟨c, 2, 0, p, false⟩, ⟨d, 2, 1, q, false⟩] (.bool true) [⟨c, 2, 0, p, false⟩, ⟨d, 2, 1, q, false⟩] := by
  have lp := lp32_0 n c d f p q hn hc hd
  have hq : (((n : Nat) : Int) != (n : Nat)) = false := by simp
  refine has32.eev rfl rfl ?_
  unfold m32
  repeat' (first
    | refine sc_loop lp rfl rfl ⟨rfl, rfl, rfl⟩ rfl rfl rfl ?_
    | (refine g_op ?_; first
      | refine ep_mov rfl ?_
      | refine ep_bin rfl rfl (by first | exact b_add (by omega) (by omega) | exact b_sub (by omega) (by omega) | exact b_and (by omega) (by omega) | exact b_or (by omega) (by omega) | exact b_shr (by omega) | exact b_shl (by omega) (by omega) | exact b_lss | exact b_leq | exact b_gtr | exact b_geq | exact b_eql | exact b_neq) ?_
      | refine ep_lenS rfl ?_ | refine ep_lenN rfl ?_ | refine ep_lenE rfl ?_)
    | (refine g_ops ?_; first | refine eo_none ?_ | refine eo_nil ?_)
    | (refine g_code ?_; first | refine ec_seq ?_ | refine ec_region ?_ | refine ec_block ?_ | refine ec_skip ?_ | refine ec_ret ?_ | refine ec_condT rfl ?_ | refine ec_condF rfl ?_ | refine ec_condTH rfl (by assumption) ?_ | refine ec_condFH rfl (by assumption) ?_)
    | refine ek_seqN ?_ | refine ek_seqX ?_ | refine ek_seqR ?_ | refine ek_blkN ?_ | refine ek_blkR ?_ | refine ek_blkX ?_ | refine ek_blkY rfl ?_)
  refine sfin (.inr rfl) (by rfl) (by rfl) (by exact ⟨rfl, rfl, rfl⟩) (by rfl) (by rfl) (by rfl) (by first | rfl | (simp; done) | (simp [ints, prs]; done))
theorem lp32_0_nils_nils  :
    LpS cx 27 0 m32_0 [(0, .nils), (1, .nils), (5, .int .i64 (0 : Nat))] [] (⟨.exit 0, [], []⟩ : Out).x (⟨.exit 0, [], []⟩ : Out).e (⟨.exit 0, [], []⟩ : Out).h := by
  refine lp_st (0) (fun _ => ()) (fun i _ => [(0, .nils), (1, .nils), (5, .int .i64 (i : Nat))]) (fun i _ => []) (fun _ => (⟨.exit 0, [], []⟩ : Out)) ?_ ?_ (0) 0 (by omega)
  · intro i u_ hi hu_
    refine ⟨(), rfl, ?_⟩
    exact absurd hi (by simp)
  · intro u_ hu_
    have hlt : decide (((0 : Nat) : Int) < (0 : Nat)) = false := decide_eq_false (by omega)
    unfold m32_0
    repeat' (first
      | (refine g_op ?_; first
        | refine ep_mov rfl ?_ | refine sp_loadN rfl rfl rfl rfl rfl ?_
        | refine ep_bin rfl rfl (by first | exact b_add (by omega) (by omega) | exact b_sub (by omega) (by omega) | exact b_and (by omega) (by omega) | exact b_or (by omega) (by omega) | exact b_shr (by omega) | exact b_shl (by omega) (by omega) | exact b_lss | exact b_leq | exact b_gtr | exact b_geq | exact b_eql | exact b_neq) ?_
        | refine ep_not rfl ?_ | refine ep_lenS rfl ?_ | refine ep_lenN rfl ?_ | refine ep_lenE rfl ?_ | refine sp_idx rfl rfl rfl (by omega) rfl ?_ | refine ep_loadSN rfl rfl rfl (by first | exact prs_get (by omega) | exact fns_get (by omega)) ?_)
      | (refine g_ops ?_; first | refine eo_none ?_ | refine eo_nil ?_)
      | (refine g_dops ?_; first | refine ed_none ?_ | refine ed_nil ?_)
      | refine ed_same rfl ?_ | refine ed_one rfl rfl rfl rfl ?_ | refine ed_two rfl rfl rfl rfl rfl rfl rfl ?_ | refine ed_write rfl rfl ?_
      | (refine g_code ?_; first | refine ec_seq ?_ | refine ec_region ?_ | refine ec_draw ?_ | refine ec_block ?_ | refine ec_skip ?_ | refine ec_exit ?_ | refine ec_ret ?_ | refine ec_condT rfl ?_ | refine ec_condF rfl ?_ | refine ec_condTH rfl (by assumption) ?_ | refine ec_condFH rfl (by assumption) ?_)
      | refine ek_seqN ?_ | refine ek_seqX ?_ | refine ek_seqR ?_ | refine ek_blkN ?_ | refine ek_blkR ?_ | refine ek_blkX ?_ | refine ek_blkY rfl ?_)
    exact rnd_out (by rfl) (by simp) (scmp2 (by rfl) (by rfl) (by exact ⟨rfl, rfl, rfl⟩) (by rfl) (by first | rfl | (simp; done) | (simp [ints, prs]; done)) (by rfl) (by first | rfl | (simp; done) | (simp [ints, prs]; done)))

theorem ev32_nils_nils : Ev cx 32 [.nils, .nils] [] (.bool true) [] := by
  have lp := lp32_0_nils_nils
  refine has32.eev rfl rfl ?_
  unfold m32
  repeat' (first
    | refine sc_loop lp rfl rfl ⟨rfl, rfl, rfl⟩ rfl rfl rfl ?_
    | (refine g_op ?_; first
      | refine ep_mov rfl ?_
      | refine ep_bin rfl rfl (by first | exact b_add (by omega) (by omega) | exact b_sub (by omega) (by omega) | exact b_and (by omega) (by omega) | exact b_or (by omega) (by omega) | exact b_shr (by omega) | exact b_shl (by omega) (by omega) | exact b_lss | exact b_leq | exact b_gtr | exact b_geq | exact b_eql | exact b_neq) ?_
      | refine ep_lenS rfl ?_ | refine ep_lenN rfl ?_ | refine ep_lenE rfl ?_)
    | (refine g_ops ?_; first | refine eo_none ?_ | refine eo_nil ?_)
    | (refine g_code ?_; first | refine ec_seq ?_ | refine ec_region ?_ | refine ec_block ?_ | refine ec_skip ?_ | refine ec_ret ?_ | refine ec_condT rfl ?_ | refine ec_condF rfl ?_ | refine ec_condTH rfl (by assumption) ?_ | refine ec_condFH rfl (by assumption) ?_)
    | refine ek_seqN ?_ | refine ek_seqX ?_ | refine ek_seqR ?_ | refine ek_blkN ?_ | refine ek_blkR ?_ | refine ek_blkX ?_ | refine ek_blkY rfl ?_)
  refine sfin (.inr rfl) (by rfl) (by rfl) (by exact ⟨rfl, rfl, rfl⟩) (by rfl) (by rfl) (by rfl) (by first | rfl | (simp; done) | (simp [ints, prs]; done))
theorem lp32_0_nils_emp  :
    LpS cx 27 0 m32_0 [(0, .nils), (1, .emp), (5, .int .i64 (0 : Nat))] [] (⟨.exit 0, [], []⟩ : Out).x (⟨.exit 0, [], []⟩ : Out).e (⟨.exit 0, [], []⟩ : Out).h := by
  refine lp_st (0) (fun _ => ()) (fun i _ => [(0, .nils), (1, .emp), (5, .int .i64 (i : Nat))]) (fun i _ => []) (fun _ => (⟨.exit 0, [], []⟩ : Out)) ?_ ?_ (0) 0 (by omega)
  · intro i u_ hi hu_
    refine ⟨(), rfl, ?_⟩
    exact absurd hi (by simp)
  · intro u_ hu_
    have hlt : decide (((0 : Nat) : Int) < (0 : Nat)) = false := decide_eq_false (by omega)
    unfold m32_0
    repeat' (first
      | (refine g_op ?_; first
        | refine ep_mov rfl ?_ | refine sp_loadN rfl rfl rfl rfl rfl ?_
        | refine ep_bin rfl rfl (by first | exact b_add (by omega) (by omega) | exact b_sub (by omega) (by omega) | exact b_and (by omega) (by omega) | exact b_or (by omega) (by omega) | exact b_shr (by omega) | exact b_shl (by omega) (by omega) | exact b_lss | exact b_leq | exact b_gtr | exact b_geq | exact b_eql | exact b_neq) ?_
        | refine ep_not rfl ?_ | refine ep_lenS rfl ?_ | refine ep_lenN rfl ?_ | refine ep_lenE rfl ?_ | refine sp_idx rfl rfl rfl (by omega) rfl ?_ | refine ep_loadSN rfl rfl rfl (by first | exact prs_get (by omega) | exact fns_get (by omega)) ?_)
      | (refine g_ops ?_; first | refine eo_none ?_ | refine eo_nil ?_)
      | (refine g_dops ?_; first | refine ed_none ?_ | refine ed_nil ?_)
      | refine ed_same rfl ?_ | refine ed_one rfl rfl rfl rfl ?_ | refine ed_two rfl rfl rfl rfl rfl rfl rfl ?_ | refine ed_write rfl rfl ?_
      | (refine g_code ?_; first | refine ec_seq ?_ | refine ec_region ?_ | refine ec_draw ?_ | refine ec_block ?_ | refine ec_skip ?_ | refine ec_exit ?_ | refine ec_ret ?_ | refine ec_condT rfl ?_ | refine ec_condF rfl ?_ | refine ec_condTH rfl (by assumption) ?_ | refine ec_condFH rfl (by assumption) ?_)
      | refine ek_seqN ?_ | refine ek_seqX ?_ | refine ek_seqR ?_ | refine ek_blkN ?_ | refine ek_blkR ?_ | refine ek_blkX ?_ | refine ek_blkY rfl ?_)
    exact rnd_out (by rfl) (by simp) (scmp2 (by rfl) (by rfl) (by exact ⟨rfl, rfl, rfl⟩) (by rfl) (by first | rfl | (simp; done) | (simp [ints, prs]; done)) (by rfl) (by first | rfl | (simp; done) | (simp [ints, prs]; done)))

theorem ev32_nils_emp : Ev cx 32 [.nils, .emp] [] (.bool true) [] := by
  have lp := lp32_0_nils_emp
  refine has32.eev rfl rfl ?_
  unfold m32
  repeat' (first
    | refine sc_loop lp rfl rfl ⟨rfl, rfl, rfl⟩ rfl rfl rfl ?_
    | (refine g_op ?_; first
      | refine ep_mov rfl ?_
      | refine ep_bin rfl rfl (by first | exact b_add (by omega) (by omega) | exact b_sub (by omega) (by omega) | exact b_and (by omega) (by omega) | exact b_or (by omega) (by omega) | exact b_shr (by omega) | exact b_shl (by omega) (by omega) | exact b_lss | exact b_leq | exact b_gtr | exact b_geq | exact b_eql | exact b_neq) ?_
      | refine ep_lenS rfl ?_ | refine ep_lenN rfl ?_ | refine ep_lenE rfl ?_)
    | (refine g_ops ?_; first | refine eo_none ?_ | refine eo_nil ?_)
    | (refine g_code ?_; first | refine ec_seq ?_ | refine ec_region ?_ | refine ec_block ?_ | refine ec_skip ?_ | refine ec_ret ?_ | refine ec_condT rfl ?_ | refine ec_condF rfl ?_ | refine ec_condTH rfl (by assumption) ?_ | refine ec_condFH rfl (by assumption) ?_)
    | refine ek_seqN ?_ | refine ek_seqX ?_ | refine ek_seqR ?_ | refine ek_blkN ?_ | refine ek_blkR ?_ | refine ek_blkX ?_ | refine ek_blkY rfl ?_)
  refine sfin (.inr rfl) (by rfl) (by rfl) (by exact ⟨rfl, rfl, rfl⟩) (by rfl) (by rfl) (by rfl) (by first | rfl | (simp; done) | (simp [ints, prs]; done))
theorem lp32_0_emp_nils  :
    LpS cx 27 0 m32_0 [(0, .emp), (1, .nils), (5, .int .i64 (0 : Nat))] [] (⟨.exit 0, [], []⟩ : Out).x (⟨.exit 0, [], []⟩ : Out).e (⟨.exit 0, [], []⟩ : Out).h := by
  refine lp_st (0) (fun _ => ()) (fun i _ => [(0, .emp), (1, .nils), (5, .int .i64 (i : Nat))]) (fun i _ => []) (fun _ => (⟨.exit 0, [], []⟩ : Out)) ?_ ?_ (0) 0 (by omega)
  · intro i u_ hi hu_
    refine ⟨(), rfl, ?_⟩
    exact absurd hi (by simp)
  · intro u_ hu_
    have hlt : decide (((0 : Nat) : Int) < (0 : Nat)) = false := decide_eq_false (by omega)
    unfold m32_0
    repeat' (first
      | (refine g_op ?_; first
        | refine ep_mov rfl ?_ | refine sp_loadN rfl rfl rfl rfl rfl ?_
        | refine ep_bin rfl rfl (by first | exact b_add (by omega) (by omega) | exact b_sub (by omega) (by omega) | exact b_and (by omega) (by omega) | exact b_or (by omega) (by omega) | exact b_shr (by omega) | exact b_shl (by omega) (by omega) | exact b_lss | exact b_leq | exact b_gtr | exact b_geq | exact b_eql | exact b_neq) ?_
        | refine ep_not rfl ?_ | refine ep_lenS rfl ?_ | refine ep_lenN rfl ?_ | refine ep_lenE rfl ?_ | refine sp_idx rfl rfl rfl (by omega) rfl ?_ | refine ep_loadSN rfl rfl rfl (by first | exact prs_get (by omega) | exact fns_get (by omega)) ?_)
      | (refine g_ops ?_; first | refine eo_none ?_ | refine eo_nil ?_)
      | (refine g_dops ?_; first | refine ed_none ?_ | refine ed_nil ?_)
      | refine ed_same rfl ?_ | refine ed_one rfl rfl rfl rfl ?_ | refine ed_two rfl rfl rfl rfl rfl rfl rfl ?_ | refine ed_write rfl rfl ?_
      | (refine g_code ?_; first | refine ec_seq ?_ | refine ec_region ?_ | refine ec_draw ?_ | refine ec_block ?_ | refine ec_skip ?_ | refine ec_exit ?_ | refine ec_ret ?_ | refine ec_condT rfl ?_ | refine ec_condF rfl ?_ | refine ec_condTH rfl (by assumption) ?_ | refine ec_condFH rfl (by assumption) ?_)
      | refine ek_seqN ?_ | refine ek_seqX ?_ | refine ek_seqR ?_ | refine ek_blkN ?_ | refine ek_blkR ?_ | refine ek_blkX ?_ | refine ek_blkY rfl ?_)
    exact rnd_out (by rfl) (by simp) (scmp2 (by rfl) (by rfl) (by exact ⟨rfl, rfl, rfl⟩) (by rfl) (by first | rfl | (simp; done) | (simp [ints, prs]; done)) (by rfl) (by first | rfl | (simp; done) | (simp [ints, prs]; done)))

theorem ev32_emp_nils : Ev cx 32 [.emp, .nils] [] (.bool true) [] := by
  have lp := lp32_0_emp_nils
  refine has32.eev rfl rfl ?_
  unfold m32
  repeat' (first
    | refine sc_loop lp rfl rfl ⟨rfl, rfl, rfl⟩ rfl rfl rfl ?_
    | (refine g_op ?_; first
      | refine ep_mov rfl ?_
      | refine ep_bin rfl rfl (by first | exact b_add (by omega) (by omega) | exact b_sub (by omega) (by omega) | exact b_and (by omega) (by omega) | exact b_or (by omega) (by omega) | exact b_shr (by omega) | exact b_shl (by omega) (by omega) | exact b_lss | exact b_leq | exact b_gtr | exact b_geq | exact b_eql | exact b_neq) ?_
      | refine ep_lenS rfl ?_ | refine ep_lenN rfl ?_ | refine ep_lenE rfl ?_)
    | (refine g_ops ?_; first | refine eo_none ?_ | refine eo_nil ?_)
    | (refine g_code ?_; first | refine ec_seq ?_ | refine ec_region ?_ | refine ec_block ?_ | refine ec_skip ?_ | refine ec_ret ?_ | refine ec_condT rfl ?_ | refine ec_condF rfl ?_ | refine ec_condTH rfl (by assumption) ?_ | refine ec_condFH rfl (by assumption) ?_)
    | refine ek_seqN ?_ | refine ek_seqX ?_ | refine ek_seqR ?_ | refine ek_blkN ?_ | refine ek_blkR ?_ | refine ek_blkX ?_ | refine ek_blkY rfl ?_)
  refine sfin (.inr rfl) (by rfl) (by rfl) (by exact ⟨rfl, rfl, rfl⟩) (by rfl) (by rfl) (by rfl) (by first | rfl | (simp; done) | (simp [ints, prs]; done))
theorem lp32_0_emp_emp  :
    LpS cx 27 0 m32_0 [(0, .emp), (1, .emp), (5, .int .i64 (0 : Nat))] [] (⟨.exit 0, [], []⟩ : Out).x (⟨.exit 0, [], []⟩ : Out).e (⟨.exit 0, [], []⟩ : Out).h := by
  refine lp_st (0) (fun _ => ()) (fun i _ => [(0, .emp), (1, .emp), (5, .int .i64 (i : Nat))]) (fun i _ => []) (fun _ => (⟨.exit 0, [], []⟩ : Out)) ?_ ?_ (0) 0 (by omega)
  · intro i u_ hi hu_
    refine ⟨(), rfl, ?_⟩
    exact absurd hi (by simp)
  · intro u_ hu_
    have hlt : decide (((0 : Nat) : Int) < (0 : Nat)) = false := decide_eq_false (by omega)
    unfold m32_0
    repeat' (first
      | (refine g_op ?_; first
        | refine ep_mov rfl ?_ | refine sp_loadN rfl rfl rfl rfl rfl ?_
        | refine ep_bin rfl rfl (by first | exact b_add (by omega) (by omega) | exact b_sub (by omega) (by omega) | exact b_and (by omega) (by omega) | exact b_or (by omega) (by omega) | exact b_shr (by omega) | exact b_shl (by omega) (by omega) | exact b_lss | exact b_leq | exact b_gtr | exact b_geq | exact b_eql | exact b_neq) ?_
        | refine ep_not rfl ?_ | refine ep_lenS rfl ?_ | refine ep_lenN rfl ?_ | refine ep_lenE rfl ?_ | refine sp_idx rfl rfl rfl (by omega) rfl ?_ | refine ep_loadSN rfl rfl rfl (by first | exact prs_get (by omega) | exact fns_get (by omega)) ?_)
      | (refine g_ops ?_; first | refine eo_none ?_ | refine eo_nil ?_)
      | (refine g_dops ?_; first | refine ed_none ?_ | refine ed_nil ?_)
      | refine ed_same rfl ?_ | refine ed_one rfl rfl rfl rfl ?_ | refine ed_two rfl rfl rfl rfl rfl rfl rfl ?_ | refine ed_write rfl rfl ?_
      | (refine g_code ?_; first | refine ec_seq ?_ | refine ec_region ?_ | refine ec_draw ?_ | refine ec_block ?_ | refine ec_skip ?_ | refine ec_exit ?_ | refine ec_ret ?_ | refine ec_condT rfl ?_ | refine ec_condF rfl ?_ | refine ec_condTH rfl (by assumption) ?_ | refine ec_condFH rfl (by assumption) ?_)
      | refine ek_seqN ?_ | refine ek_seqX ?_ | refine ek_seqR ?_ | refine ek_blkN ?_ | refine ek_blkR ?_ | refine ek_blkX ?_ | refine ek_blkY rfl ?_)
    exact rnd_out (by rfl) (by simp) (scmp2 (by rfl) (by rfl) (by exact ⟨rfl, rfl, rfl⟩) (by rfl) (by first | rfl | (simp; done) | (simp [ints, prs]; done)) (by rfl) (by first | rfl | (simp; done) | (simp [ints, prs]; done)))

theorem ev32_emp_emp : Ev cx 32 [.emp, .emp] [] (.bool true) [] := by
  have lp := lp32_0_emp_emp
  refine has32.eev rfl rfl ?_
  unfold m32
  repeat' (first
    | refine sc_loop lp rfl rfl ⟨rfl, rfl, rfl⟩ rfl rfl rfl ?_
    | (refine g_op ?_; first
      | refine ep_mov rfl ?_
      | refine ep_bin rfl rfl (by first | exact b_add (by omega) (by omega) | exact b_sub (by omega) (by omega) | exact b_and (by omega) (by omega) | exact b_or (by omega) (by omega) | exact b_shr (by omega) | exact b_shl (by omega) (by omega) | exact b_lss | exact b_leq | exact b_gtr | exact b_geq | exact b_eql | exact b_neq) ?_
      | refine ep_lenS rfl ?_ | refine ep_lenN rfl ?_ | refine ep_lenE rfl ?_)
    | (refine g_ops ?_; first | refine eo_none ?_ | refine eo_nil ?_)
    | (refine g_code ?_; first | refine ec_seq ?_ | refine ec_region ?_ | refine ec_block ?_ | refine ec_skip ?_ | refine ec_ret ?_ | refine ec_condT rfl ?_ | refine ec_condF rfl ?_ | refine ec_condTH rfl (by assumption) ?_ | refine ec_condFH rfl (by assumption) ?_)
    | refine ek_seqN ?_ | refine ek_seqX ?_ | refine ek_seqR ?_ | refine ek_blkN ?_ | refine ek_blkR ?_ | refine ek_blkX ?_ | refine ek_blkY rfl ?_)
  refine sfin (.inr rfl) (by rfl) (by rfl) (by exact ⟨rfl, rfl, rfl⟩) (by rfl) (by rfl) (by rfl) (by first | rfl | (simp; done) | (simp [ints, prs]; done))
theorem prs_pair {n : Nat} {l : List Nat} {j : Nat} (h : j < l.length) : pairAt (prs n l) j ((n : Int), ((l.getD j 0 : Nat) : Int)) := prs_get h
theorem fns_pair {l : List (Int × Int)} {j : Nat} (h : j < l.length) : pairAt (fns l) j (l.getD j (0, 0)) := fns_get h
def rowS (s : List Nat) (q : Nat) : Nat := pk (fun i => bt (s.getD i 0) q) s.length
def valS (b p : Nat) (s : List Nat) : Nat := pk (fun q => bt b (rowS s q)) p
def updF (f g : Nat → Nat) (p i : Nat) : List Nat := (List.range p).map fun q => if q < i then g q else f q
def rowsL (p : Nat) (s : List Nat) : List Nat := (List.range p).map (rowS s)
theorem rowS_lt (s : List Nat) (q : Nat) : rowS s q < R2 s.length := pk_lt fun r _ => bt_le _ _
theorem valS_lt (b p : Nat) (s : List Nat) : valS b p s < R2 p := pk_lt fun r _ => bt_le _ _
theorem rowS_snoc (s : List Nat) (x q : Nat) : rowS (s ++ [x]) q = rowS s q ||| (bt x q <<< s.length) := by
  unfold rowS
  rw [List.length_append, List.length_singleton, pk]
  congr 1
  · refine pk_congr fun r hr => ?_
    rw [List.getD_eq_getElem?_getD, List.getElem?_append_left hr, List.getD_eq_getElem?_getD]
  · rw [List.getD_eq_getElem?_getD, List.getElem?_append_right (Nat.le_refl _)]; simp
theorem updF_0 (f g : Nat → Nat) (p : Nat) : updF f g p 0 = (List.range p).map f := by simp [updF]
theorem updF_p (f g : Nat → Nat) (p : Nat) : updF f g p p = (List.range p).map g := by
  unfold updF; apply List.map_congr_left; intro q hq; rw [if_pos (by simpa using hq)]
theorem updF_get {f g : Nat → Nat} {p i j : Nat} (h : j < p) : (ints (updF f g p i))[0 + j * 1]? = some (.int .i64 ((if j < i then g j else f j : Nat) : Int)) := by
  simp [ints, updF, h]
theorem updF_len (f g : Nat → Nat) (p i : Nat) : (ints (updF f g p i)).length = p := by simp [ints, updF]
theorem updF_set {f g : Nat → Nat} {p i : Nat} (h : i < p) : (ints (updF f g p i)).take (0 + i * 1) ++ [V.int .i64 (g i : Nat)] ++ (ints (updF f g p i)).drop (0 + i * 1 + 1) = ints (updF f g p (i + 1)) := by
  have hl := updF_len f g p i
  rw [show 0 + i * 1 = i by omega]
  apply List.ext_getElem?
  intro k
  have e2 : (ints (updF f g p (i + 1)))[k]? = if k < p then some (V.int .i64 ((if k < i + 1 then g k else f k : Nat) : Int)) else none := by
    by_cases hk : k < p
    · simp [ints, updF, hk]
    · simp [ints, updF, hk]
  have e1 : (ints (updF f g p i))[k]? = if k < p then some (V.int .i64 ((if k < i then g k else f k : Nat) : Int)) else none := by
    by_cases hk : k < p
    · simp [ints, updF, hk]
    · simp [ints, updF, hk]
  rw [e2]
  rcases Nat.lt_trichotomy k i with h1 | h1 | h1
  · rw [List.getElem?_append_left (by simp; omega), List.getElem?_append_left (by simp; omega), List.getElem?_take, if_pos h1, e1]; simp [show k < p by omega, h1, show k < i + 1 by omega]
  · subst h1
    rw [List.getElem?_append_left (by simp; omega), List.getElem?_append_right (by simp; omega), if_pos h, if_pos (by omega)]
    simp [Nat.min_eq_left (show k ≤ (ints (updF f g p k)).length by omega)]
  · rw [List.getElem?_append_right (by simp; omega), List.getElem?_drop]
    simp only [List.length_append, List.length_take, List.length_singleton, Nat.min_eq_left (show i ≤ (ints (updF f g p i)).length by omega)]
    rw [show i + 1 + (k - (i + 1)) = k by omega, e1]
    by_cases hk : k < p
    · simp [hk, show ¬ k < i by omega, show ¬ k < i + 1 by omega]
    · simp [hk]
def chkA (P : Nat → Bool) (l : List Nat) (b p : Nat) : Nat → List Nat → Bool
  | 0, s => P (valS b p s)
  | m + 1, s => allF (fun j => chkA P l b p m (s ++ [l.getD j 0])) 0 l.length
def orN (h : Nat → Nat) : Nat → Nat
  | 0 => 0
  | n + 1 => orN h n ||| h n
def mbA (l : List Nat) (b p : Nat) : Nat → List Nat → Nat
  | 0, s => R2 (valS b p s)
  | m + 1, s => orN (fun j => mbA l b p m (s ++ [l.getD j 0])) l.length
theorem orN_lt {h : Nat → Nat} {N : Nat} : ∀ n, (∀ j, j < n → h j < R2 N) → orN h n < R2 N
  | 0, _ => R2_pos _
  | n + 1, hh => or_lt (orN_lt n fun j hj => hh j (by omega)) (hh n (by omega))
theorem mbA_lt (l : List Nat) (b p : Nat) : ∀ m s, mbA l b p m s < R2 (R2 p)
  | 0, s => by
    have := valS_lt b p s
    rw [mbA]; unfold R2 at this ⊢; exact Nat.pow_lt_pow_right (by omega) this
  | m + 1, s => by rw [mbA]; exact orN_lt _ fun j _ => mbA_lt l b p m _
theorem sb_or (x y t : Nat) : (x ||| y) &&& t = x ||| y ↔ x &&& t = x ∧ y &&& t = y := by
  constructor
  · intro h
    refine ⟨Nat.eq_of_testBit_eq fun i => ?_, Nat.eq_of_testBit_eq fun i => ?_⟩
    all_goals
      have := congrArg (fun z => z.testBit i) h
      simp only [Nat.testBit_and, Nat.testBit_or] at this ⊢
      revert this
      cases x.testBit i <;> cases y.testBit i <;> cases t.testBit i <;> simp
  · rintro ⟨h1, h2⟩
    apply Nat.eq_of_testBit_eq
    intro i
    have e1 := congrArg (fun z => z.testBit i) h1
    have e2 := congrArg (fun z => z.testBit i) h2
    simp only [Nat.testBit_and, Nat.testBit_or] at e1 e2 ⊢
    revert e1 e2
    cases x.testBit i <;> cases y.testBit i <;> cases t.testBit i <;> simp
theorem sb_R2 (v t : Nat) : R2 v &&& t = R2 v ↔ bt t v = 1 := by
  rw [bt_tb]
  constructor
  · intro h
    have := congrArg (fun z => z.testBit v) h
    simp only [Nat.testBit_and, R2_tb, decide_true, Bool.true_and] at this
    rw [this]; rfl
  · intro h
    apply Nat.eq_of_testBit_eq
    intro i
    rw [Nat.testBit_and, R2_tb]
    by_cases e : v = i
    · subst e; revert h; cases t.testBit v <;> simp
    · simp [e]
theorem sb_orN (h : Nat → Nat) (t : Nat) : ∀ n, (orN h n &&& t = orN h n ↔ ∀ j, j < n → h j &&& t = h j)
  | 0 => by simp [orN]
  | n + 1 => by
    rw [orN, sb_or, sb_orN h t n]
    constructor
    · rintro ⟨h1, h2⟩ j hj
      by_cases e : j = n
      · subst e; exact h2
      · exact h1 j (by omega)
    · intro hh; exact ⟨fun j hj => hh j (by omega), hh n (by omega)⟩
theorem go_flat : ∀ q : Nat, ints (List.replicate q 0) = (List.replicate q [V.int .i64 0]).flatten
  | 0 => rfl
  | q + 1 => by
    have := go_flat q
    simp only [ints, List.replicate_succ, List.map_cons, List.flatten_cons, List.singleton_append] at this ⊢
    rw [this]; rfl
theorem keep_eq (l : List Nat) (b p t : Nat) : ∀ m s, (mbA l b p m s &&& t = mbA l b p m s ↔ chkA (fun v => bt t v == 1) l b p m s = true)
  | 0, s => by rw [mbA, chkA, sb_R2, beq_iff_eq]
  | m + 1, s => by
    rw [mbA, chkA, sb_orN, allF_iff]
    constructor
    · intro h j _ hj; exact (keep_eq l b p t m _).mp (h j (by omega))
    · intro h j hj; exact (keep_eq l b p t m _).mpr (h j (Nat.zero_le _) (by omega))
-- (impl.Relation).tuples
def m118_0 : MC := (.seq (.region [⟨(.bin .lss (.t 8) (.t 7)), (some 9), none⟩] false) (.seq (.cond (.t 9) .skip (.exit 0)) (.seq (.block 1 (.seq (.region [⟨(.mov (.t 8)), (some 10), none⟩, ⟨(.mov (.t 10)), (some 4), none⟩] false) (.seq (.region [⟨(.load (some 2) (.t 1)), (some 11), none⟩, ⟨(.mov (.t 4)), (some 12), none⟩, ⟨(.call 141 [(.t 11), (.t 12)]), (some 13), none⟩] false) (.cond (.t 13) (.region [⟨(.mov (.t 3)), (some 14), none⟩, ⟨(.mov (.t 4)), (some 15), none⟩, ⟨(.bslice 1 [(.int .i64 0)] 1 [(0, (1, (.t 15)))]), (some 16), none⟩, ⟨(.append 1 8 (.t 14) (.t 16)), (some 17), none⟩, ⟨(.mov (.t 17)), (some 3), none⟩] false) .skip)))) (.region [⟨(.bin .add (.t 8) (.k (.int .i64 1))), (some 18), none⟩, ⟨(.mov (.t 18)), (some 8), none⟩] false))))
def m118 : MC := (.seq (.region [⟨(.box (.t 0)), (some 1), none⟩, ⟨(.mov (.k .nils)), (some 2), none⟩] false) (.seq (.region [⟨(.mov (.k .nils)), (some 3), none⟩] false) (.seq (.seq (.region [⟨(.fieldAddr 0 (.t 1)), (some 5), none⟩, ⟨(.load none (.t 5)), (some 6), none⟩, ⟨(.call 136 [(.t 6)]), (some 7), none⟩, ⟨(.mov (.k (.int .i64 0))), (some 8), none⟩] false) (.block 0 (.loop m118_0))) (.seq (.region [⟨(.mov (.t 3)), (some 19), none⟩, ⟨(.mov (.t 19)), (some 2), none⟩] false) .ret))))
theorem has118 : Has cx 118 20 m118 [(.tmp 2)] :=
  ⟨⟨Try.f118, Try.f118.body.getD .skip, by kernel_rfl, by kernel_rfl, by kernel_rfl, by kernel_rfl, by kernel_rfl, by kernel_rfl⟩⟩
theorem lp118_0 (n b : Nat) (hn : n ≤ 4) (hb : b < 65536) (o : Out) (ho : (match selm (fun r => bt b r == 1) (idn) (R2 n) with | [] => (⟨.exit 0, [(3, .nils)], []⟩ : Out) | x :: xs => ⟨.exit 0, [(3, .sl 0 0 (x :: xs).length)], [⟨ints (x :: xs), 1, 0, some 0, false⟩]⟩) = o) :
    LpS cx 20 0 m118_0 [(1, .ptr 0 0), (3, .nils), (7, .int .i64 (R2 n : Nat)), (8, .int .i64 (0 : Nat))] [⟨[.int .i64 n, .int .i64 b], 1, 0, some 0, true⟩] o.x o.e o.h := by
  obtain ⟨h1, h2, h3, h4⟩ := shN hn
  subst ho
  refine lp_st (R2 n) (selm (fun r => bt b r == 1) (idn)) (fun i s => match s with | [] => [(1, .ptr 0 0), (3, .nils), (7, .int .i64 (R2 n : Nat)), (8, .int .i64 (i : Nat))] | x :: xs => [(1, .ptr 0 0), (3, .sl 1 0 (x :: xs).length), (7, .int .i64 (R2 n : Nat)), (8, .int .i64 (i : Nat))]) (fun i s => match s with | [] => [⟨[.int .i64 n, .int .i64 b], 1, 0, some 0, true⟩] | x :: xs => [⟨[.int .i64 n, .int .i64 b], 1, 0, some 0, true⟩, ⟨ints (x :: xs), 1, 1, some 0, false⟩]) (fun s => match s with | [] => ⟨.exit 0, [(3, .nils)], []⟩ | x :: xs => ⟨.exit 0, [(3, .sl 0 0 (x :: xs).length)], [⟨ints (x :: xs), 1, 0, some 0, false⟩]⟩) ?_ ?_ (R2 n) 0 (by omega)
  · intro i s hi hs
    have hlt : decide ((i : Int) < (R2 n : Nat)) = true := decide_eq_true (by omega)
    have hle : decide ((i : Int) ≤ (R2 n : Nat) - 1) = true := decide_eq_true (by omega)
    have hlen : s.length ≤ 16 := by have := selm_len (fun r => bt b r == 1) (idn) i; rw [hs] at this; omega
    have e1 := ev141 n b i (by omega) (by omega)
    cases hp : (fun r => bt b r == 1) i with
    | true =>
      have hp' : (bt b i == 1) = true := hp
      rw [hp'] at e1
      cases s with
      | nil =>
        refine ⟨[(idn) i], by rw [selm_t (p := fun r => bt b r == 1) hp, hs]; try rfl, ?_⟩
        unfold m118_0
        repeat' (first
          | (refine g_op ?_; first
            | refine ep_mov rfl ?_ | refine sp_loadN rfl rfl rfl rfl rfl ?_
            | refine ep_call0 rfl (by first | exact e1) rfl rfl ?_
            | refine sp_call rfl rfl rfl rfl (by first | exact e1) ⟨rfl, rfl, rfl, rfl⟩ rfl rfl rfl ?_
            | refine ep_bin rfl rfl (by first | exact b_add (by omega) (by omega) | exact b_sub (by omega) (by omega) | exact b_and (by omega) (by omega) | exact b_or (by omega) (by omega) | exact b_shr (by omega) | exact b_shl (by omega) (by omega) | exact b_lss | exact b_leq | exact b_gtr | exact b_geq | exact b_eql | exact b_neq) ?_
            | refine sp_bslice rfl rfl rfl rfl rfl ?_ | refine sp_push0 rfl (by first | exact .inl rfl | exact .inr rfl) rfl rfl rfl rfl rfl (by decide) rfl rfl rfl ?_ | refine sp_push rfl rfl rfl rfl rfl rfl rfl (by first | exact ints_len _ | exact prs_len _ _ | exact zints_len _) (by omega) (Nat.zero_le _) rfl rfl rfl rfl rfl ?_)
          | (refine g_ops ?_; first | refine eo_none ?_ | refine eo_nil ?_)
          | (refine g_code ?_; first | refine ec_seq ?_ | refine ec_region ?_ | refine ec_block ?_ | refine ec_skip ?_ | refine ec_exit ?_ | refine ec_condT rfl ?_ | refine ec_condF rfl ?_ | refine ec_condTH rfl (by assumption) ?_ | refine ec_condFH rfl (by assumption) ?_)
          | refine ek_seqN ?_ | refine ek_seqX ?_ | refine ek_blkN ?_ | refine ek_blkR ?_ | refine ek_blkX ?_ | refine ek_blkY rfl ?_)
        exact rnd_on (by rfl) (scmp2 (by rfl) (by rfl) (by exact ⟨rfl, rfl, rfl⟩) (by rfl) (by first | rfl | (simp; done) | (simp [ints, prs]; done)) (by rfl) (by first | rfl | (simp; done) | (simp [ints, prs]; done)))
      | cons x xs =>
        refine ⟨(x :: xs) ++ [(idn) i], by rw [selm_t (p := fun r => bt b r == 1) hp, hs]; try rfl, ?_⟩
        unfold m118_0
        repeat' (first
          | (refine g_op ?_; first
            | refine ep_mov rfl ?_ | refine sp_loadN rfl rfl rfl rfl rfl ?_
            | refine ep_call0 rfl (by first | exact e1) rfl rfl ?_
            | refine sp_call rfl rfl rfl rfl (by first | exact e1) ⟨rfl, rfl, rfl, rfl⟩ rfl rfl rfl ?_
            | refine ep_bin rfl rfl (by first | exact b_add (by omega) (by omega) | exact b_sub (by omega) (by omega) | exact b_and (by omega) (by omega) | exact b_or (by omega) (by omega) | exact b_shr (by omega) | exact b_shl (by omega) (by omega) | exact b_lss | exact b_leq | exact b_gtr | exact b_geq | exact b_eql | exact b_neq) ?_
            | refine sp_bslice rfl rfl rfl rfl rfl ?_ | refine sp_push0 rfl (by first | exact .inl rfl | exact .inr rfl) rfl rfl rfl rfl rfl (by decide) rfl rfl rfl ?_ | refine sp_push rfl rfl rfl rfl rfl rfl rfl (by first | exact ints_len _ | exact prs_len _ _ | exact zints_len _) (by omega) (Nat.zero_le _) rfl rfl rfl rfl rfl ?_)
          | (refine g_ops ?_; first | refine eo_none ?_ | refine eo_nil ?_)
          | (refine g_code ?_; first | refine ec_seq ?_ | refine ec_region ?_ | refine ec_block ?_ | refine ec_skip ?_ | refine ec_exit ?_ | refine ec_condT rfl ?_ | refine ec_condF rfl ?_ | refine ec_condTH rfl (by assumption) ?_ | refine ec_condFH rfl (by assumption) ?_)
          | refine ek_seqN ?_ | refine ek_seqX ?_ | refine ek_blkN ?_ | refine ek_blkR ?_ | refine ek_blkX ?_ | refine ek_blkY rfl ?_)
        exact rnd_on (by rfl) (scmp2 (by rfl) (by rfl) (by exact ⟨rfl, rfl, rfl⟩) (by rfl) (by first | rfl | (simp; done) | (simp [ints, prs]; done)) (by rfl) (by first | rfl | (simp; done) | (simp [ints, prs]; done)))
    | false =>
      have hp' : (bt b i == 1) = false := hp
      rw [hp'] at e1
      cases s with
      | nil =>
        refine ⟨[], by rw [selm_f (p := fun r => bt b r == 1) hp, hs]; try rfl, ?_⟩
        unfold m118_0
        repeat' (first
          | (refine g_op ?_; first
            | refine ep_mov rfl ?_ | refine sp_loadN rfl rfl rfl rfl rfl ?_
            | refine ep_call0 rfl (by first | exact e1) rfl rfl ?_
            | refine sp_call rfl rfl rfl rfl (by first | exact e1) ⟨rfl, rfl, rfl, rfl⟩ rfl rfl rfl ?_
            | refine ep_bin rfl rfl (by first | exact b_add (by omega) (by omega) | exact b_sub (by omega) (by omega) | exact b_and (by omega) (by omega) | exact b_or (by omega) (by omega) | exact b_shr (by omega) | exact b_shl (by omega) (by omega) | exact b_lss | exact b_leq | exact b_gtr | exact b_geq | exact b_eql | exact b_neq) ?_
            | refine sp_bslice rfl rfl rfl rfl rfl ?_ | refine sp_push0 rfl (by first | exact .inl rfl | exact .inr rfl) rfl rfl rfl rfl rfl (by decide) rfl rfl rfl ?_ | refine sp_push rfl rfl rfl rfl rfl rfl rfl (by first | exact ints_len _ | exact prs_len _ _ | exact zints_len _) (by omega) (Nat.zero_le _) rfl rfl rfl rfl rfl ?_)
          | (refine g_ops ?_; first | refine eo_none ?_ | refine eo_nil ?_)
          | (refine g_code ?_; first | refine ec_seq ?_ | refine ec_region ?_ | refine ec_block ?_ | refine ec_skip ?_ | refine ec_exit ?_ | refine ec_condT rfl ?_ | refine ec_condF rfl ?_ | refine ec_condTH rfl (by assumption) ?_ | refine ec_condFH rfl (by assumption) ?_)
          | refine ek_seqN ?_ | refine ek_seqX ?_ | refine ek_blkN ?_ | refine ek_blkR ?_ | refine ek_blkX ?_ | refine ek_blkY rfl ?_)
        exact rnd_on (by rfl) (scmp2 (by rfl) (by rfl) (by exact ⟨rfl, rfl, rfl⟩) (by rfl) (by first | rfl | (simp; done) | (simp [ints, prs]; done)) (by rfl) (by first | rfl | (simp; done) | (simp [ints, prs]; done)))
      | cons x xs =>
        refine ⟨x :: xs, by rw [selm_f (p := fun r => bt b r == 1) hp, hs]; try rfl, ?_⟩
        unfold m118_0
        repeat' (first
          | (refine g_op ?_; first
            | refine ep_mov rfl ?_ | refine sp_loadN rfl rfl rfl rfl rfl ?_
            | refine ep_call0 rfl (by first | exact e1) rfl rfl ?_
            | refine sp_call rfl rfl rfl rfl (by first | exact e1) ⟨rfl, rfl, rfl, rfl⟩ rfl rfl rfl ?_
            | refine ep_bin rfl rfl (by first | exact b_add (by omega) (by omega) | exact b_sub (by omega) (by omega) | exact b_and (by omega) (by omega) | exact b_or (by omega) (by omega) | exact b_shr (by omega) | exact b_shl (by omega) (by omega) | exact b_lss | exact b_leq | exact b_gtr | exact b_geq | exact b_eql | exact b_neq) ?_
            | refine sp_bslice rfl rfl rfl rfl rfl ?_ | refine sp_push0 rfl (by first | exact .inl rfl | exact .inr rfl) rfl rfl rfl rfl rfl (by decide) rfl rfl rfl ?_ | refine sp_push rfl rfl rfl rfl rfl rfl rfl (by first | exact ints_len _ | exact prs_len _ _ | exact zints_len _) (by omega) (Nat.zero_le _) rfl rfl rfl rfl rfl ?_)
          | (refine g_ops ?_; first | refine eo_none ?_ | refine eo_nil ?_)
          | (refine g_code ?_; first | refine ec_seq ?_ | refine ec_region ?_ | refine ec_block ?_ | refine ec_skip ?_ | refine ec_exit ?_ | refine ec_condT rfl ?_ | refine ec_condF rfl ?_ | refine ec_condTH rfl (by assumption) ?_ | refine ec_condFH rfl (by assumption) ?_)
          | refine ek_seqN ?_ | refine ek_seqX ?_ | refine ek_blkN ?_ | refine ek_blkR ?_ | refine ek_blkX ?_ | refine ek_blkY rfl ?_)
        exact rnd_on (by rfl) (scmp2 (by rfl) (by rfl) (by exact ⟨rfl, rfl, rfl⟩) (by rfl) (by first | rfl | (simp; done) | (simp [ints, prs]; done)) (by rfl) (by first | rfl | (simp; done) | (simp [ints, prs]; done)))
  · intro s hs
    have hlt : decide (((R2 n : Nat) : Int) < (R2 n : Nat)) = false := decide_eq_false (by omega)
    have hle : decide (((R2 n : Nat) : Int) ≤ (R2 n : Nat) - 1) = false := decide_eq_false (by omega)
    cases s with
    | nil =>
      unfold m118_0
      repeat' (first
        | (refine g_op ?_; first
          | refine ep_mov rfl ?_ | refine sp_loadN rfl rfl rfl rfl rfl ?_
          | refine ep_call0 rfl (by first | exact e1) rfl rfl ?_
          | refine sp_call rfl rfl rfl rfl (by first | exact e1) ⟨rfl, rfl, rfl, rfl⟩ rfl rfl rfl ?_
          | refine ep_bin rfl rfl (by first | exact b_add (by omega) (by omega) | exact b_sub (by omega) (by omega) | exact b_and (by omega) (by omega) | exact b_or (by omega) (by omega) | exact b_shr (by omega) | exact b_shl (by omega) (by omega) | exact b_lss | exact b_leq | exact b_gtr | exact b_geq | exact b_eql | exact b_neq) ?_
          | refine sp_bslice rfl rfl rfl rfl rfl ?_ | refine sp_push0 rfl (by first | exact .inl rfl | exact .inr rfl) rfl rfl rfl rfl rfl (by decide) rfl rfl rfl ?_ | refine sp_push rfl rfl rfl rfl rfl rfl rfl (by first | exact ints_len _ | exact prs_len _ _ | exact zints_len _) (by omega) (Nat.zero_le _) rfl rfl rfl rfl rfl ?_)
        | (refine g_ops ?_; first | refine eo_none ?_ | refine eo_nil ?_)
        | (refine g_code ?_; first | refine ec_seq ?_ | refine ec_region ?_ | refine ec_block ?_ | refine ec_skip ?_ | refine ec_exit ?_ | refine ec_condT rfl ?_ | refine ec_condF rfl ?_ | refine ec_condTH rfl (by assumption) ?_ | refine ec_condFH rfl (by assumption) ?_)
        | refine ek_seqN ?_ | refine ek_seqX ?_ | refine ek_blkN ?_ | refine ek_blkR ?_ | refine ek_blkX ?_ | refine ek_blkY rfl ?_)
      exact rnd_out (by rfl) (by simp) (scmp2 (by rfl) (by rfl) (by exact ⟨rfl, rfl, rfl⟩) (by rfl) (by first | rfl | (simp; done) | (simp [ints, prs]; done)) (by rfl) (by first | rfl | (simp; done) | (simp [ints, prs]; done)))
    | cons x xs =>
      unfold m118_0
      repeat' (first
        | (refine g_op ?_; first
          | refine ep_mov rfl ?_ | refine sp_loadN rfl rfl rfl rfl rfl ?_
          | refine ep_call0 rfl (by first | exact e1) rfl rfl ?_
          | refine sp_call rfl rfl rfl rfl (by first | exact e1) ⟨rfl, rfl, rfl, rfl⟩ rfl rfl rfl ?_
          | refine ep_bin rfl rfl (by first | exact b_add (by omega) (by omega) | exact b_sub (by omega) (by omega) | exact b_and (by omega) (by omega) | exact b_or (by omega) (by omega) | exact b_shr (by omega) | exact b_shl (by omega) (by omega) | exact b_lss | exact b_leq | exact b_gtr | exact b_geq | exact b_eql | exact b_neq) ?_
          | refine sp_bslice rfl rfl rfl rfl rfl ?_ | refine sp_push0 rfl (by first | exact .inl rfl | exact .inr rfl) rfl rfl rfl rfl rfl (by decide) rfl rfl rfl ?_ | refine sp_push rfl rfl rfl rfl rfl rfl rfl (by first | exact ints_len _ | exact prs_len _ _ | exact zints_len _) (by omega) (Nat.zero_le _) rfl rfl rfl rfl rfl ?_)
        | (refine g_ops ?_; first | refine eo_none ?_ | refine eo_nil ?_)
        | (refine g_code ?_; first | refine ec_seq ?_ | refine ec_region ?_ | refine ec_block ?_ | refine ec_skip ?_ | refine ec_exit ?_ | refine ec_condT rfl ?_ | refine ec_condF rfl ?_ | refine ec_condTH rfl (by assumption) ?_ | refine ec_condFH rfl (by assumption) ?_)
        | refine ek_seqN ?_ | refine ek_seqX ?_ | refine ek_blkN ?_ | refine ek_blkR ?_ | refine ek_blkX ?_ | refine ek_blkY rfl ?_)
      exact rnd_out (by rfl) (by simp) (scmp2 (by rfl) (by rfl) (by exact ⟨rfl, rfl, rfl⟩) (by rfl) (by first | rfl | (simp; done) | (simp [ints, prs]; done)) (by rfl) (by first | rfl | (simp; done) | (simp [ints, prs]; done)))

theorem ev118 (n b : Nat) (hn : n ≤ 4) (hb : b < 65536) : Ev cx 118 [.agg [.int .i64 n, .int .i64 b]] [] (slV .nils 0 (tupL n b)) (slH 0 1 ints (tupL n b)) := by
  cases hs : tupL n b with
  | nil =>
    have lp := lp118_0 n b hn hb _ (by rw [show selm (fun r => bt b r == 1) idn (R2 n) = _ from hs])
    refine has118.eev rfl rfl ?_
    unfold m118
    repeat' (first
      | refine sc_loop lp rfl rfl ⟨rfl, rfl, rfl⟩ rfl rfl rfl ?_
      | (refine g_op ?_; first
        | refine ep_mov rfl ?_ | refine ep_load1 rfl rfl rfl rfl ?_ | refine ep_fieldAddr rfl ?_
        | refine ep_call0 rfl (by first | exact ev136 _ hn) rfl rfl ?_
        | refine sp_call rfl rfl rfl rfl (by first | exact ev136 _ hn) ⟨rfl, rfl, rfl, rfl⟩ rfl rfl rfl ?_
        | refine sp_box rfl rfl rfl rfl rfl ?_)
      | (refine g_ops ?_; first | refine eo_none ?_ | refine eo_nil ?_)
      | (refine g_code ?_; first | refine ec_seq ?_ | refine ec_region ?_ | refine ec_block ?_ | refine ec_ret ?_)
      | refine ek_seqN ?_ | refine ek_seqX ?_ | refine ek_seqR ?_ | refine ek_blkN ?_ | refine ek_blkR ?_ | refine ek_blkX ?_ | refine ek_blkY rfl ?_)
    refine sfin (.inr rfl) (by rfl) (by rfl) (by exact ⟨rfl, rfl, rfl⟩) (by rfl) (by rfl) (by rfl) (by first | rfl | (simp; done) | (simp [ints, prs]; done))
  | cons x xs =>
    have lp := lp118_0 n b hn hb _ (by rw [show selm (fun r => bt b r == 1) idn (R2 n) = _ from hs])
    refine has118.eev rfl rfl ?_
    unfold m118
    repeat' (first
      | refine sc_loop lp rfl rfl ⟨rfl, rfl, rfl⟩ rfl rfl rfl ?_
      | (refine g_op ?_; first
        | refine ep_mov rfl ?_ | refine ep_load1 rfl rfl rfl rfl ?_ | refine ep_fieldAddr rfl ?_
        | refine ep_call0 rfl (by first | exact ev136 _ hn) rfl rfl ?_
        | refine sp_call rfl rfl rfl rfl (by first | exact ev136 _ hn) ⟨rfl, rfl, rfl, rfl⟩ rfl rfl rfl ?_
        | refine sp_box rfl rfl rfl rfl rfl ?_)
      | (refine g_ops ?_; first | refine eo_none ?_ | refine eo_nil ?_)
      | (refine g_code ?_; first | refine ec_seq ?_ | refine ec_region ?_ | refine ec_block ?_ | refine ec_ret ?_)
      | refine ek_seqN ?_ | refine ek_seqX ?_ | refine ek_seqR ?_ | refine ek_blkN ?_ | refine ek_blkR ?_ | refine ek_blkX ?_ | refine ek_blkY rfl ?_)
    refine sfin (.inr rfl) (by rfl) (by rfl) (by exact ⟨rfl, rfl, rfl⟩) (by rfl) (by rfl) (by rfl) (by first | rfl | (simp; done) | (simp [ints, prs]; done))

-- slices.Clone[[]int64,int64]
def m109 : MC := (.seq (.region [⟨(.mov (.k .nils)), (some 2), none⟩] false) (.seq (.seq (.region [⟨(.mov (.t 0)), (some 3), none⟩, ⟨(.isnil false (.t 3)), (some 4), none⟩] false) (.cond (.t 4) (.seq (.region [⟨(.mov (.k .nils)), (some 2), none⟩] false) .ret) .skip)) (.seq (.region [⟨.empt, (some 5), none⟩, ⟨(.mov (.t 0)), (some 6), none⟩, ⟨(.append 1 8 (.t 5) (.t 6)), (some 7), none⟩, ⟨(.mov (.t 7)), (some 2), none⟩] false) .ret)))
theorem has109 : Has cx 109 8 m109 [(.tmp 2)] :=
  ⟨⟨Try.f109, Try.f109.body.getD .skip, by kernel_rfl, by kernel_rfl, by kernel_rfl, by kernel_rfl, by kernel_rfl, by kernel_rfl⟩⟩
theorem ev109 (l : List Nat) (n : Nat) (hn : l.length = n) (h1 : 1 ≤ n) (h2 : n ≤ 65536) : Ev cx 109 [.sl 0 0 n] [⟨ints l, 1, 0, some 0, false⟩] (.sl 1 0 n) [⟨ints l, 1, 0, some 0, false⟩, ⟨ints l, 1, 1, some 0, false⟩] := by
  have hr : rowOf [⟨ints l, 1, 0, some 0, false⟩] 1 (.sl 0 0 n) = some (ints l, n) := by
    simp only [rowOf, List.getElem?_cons_zero, List.drop_zero, Nat.mul_one]; rw [List.take_of_length_le (by rw [ints_len]; omega)]
  refine has109.eev rfl rfl ?_
  unfold m109
  repeat' (first
    | refine sp_app0 (l := ints l) rfl (.inr rfl) rfl hr ⟨by rw [ints_len]; omega, by omega, by omega⟩ (.inr ⟨0, 0, _, rfl, rfl, rfl⟩) rfl rfl ?_
    | (refine g_op ?_; first
      | refine ep_mov rfl ?_
      | refine sp_push0 rfl (by first | exact .inl rfl | exact .inr rfl) rfl rfl rfl rfl rfl (by decide) rfl rfl rfl ?_ | refine sp_push rfl rfl rfl rfl rfl rfl rfl (by first | exact ints_len _ | exact prs_len _ _ | exact zints_len _) (by omega) (Nat.zero_le _) rfl rfl rfl rfl rfl ?_
      | refine ep_empt ?_ | refine ep_isnilN rfl ?_ | refine ep_isnilS rfl ?_ | refine ep_isnilE rfl ?_)
    | (refine g_ops ?_; first | refine eo_none ?_ | refine eo_nil ?_)
    | (refine g_code ?_; first | refine ec_seq ?_ | refine ec_region ?_ | refine ec_skip ?_ | refine ec_ret ?_ | refine ec_condT rfl ?_ | refine ec_condF rfl ?_ | refine ec_condTH rfl (by assumption) ?_ | refine ec_condFH rfl (by assumption) ?_)
    | refine ek_seqN ?_ | refine ek_seqR ?_)
  refine sfin (.inr rfl) (by rfl) (by rfl) (by exact ⟨rfl, rfl, rfl⟩) (by rfl) (by rfl) (by rfl) (by first | rfl | (simp; done) | (simp [ints, prs]; done))
-- (impl.Func).made
def m117_0 : MC := (.seq (.region [⟨(.bin .lss (.t 24) (.t 23)), (some 25), none⟩] false) (.seq (.cond (.t 25) .skip (.exit 0)) (.seq (.block 1 (.seq (.region [⟨(.mov (.t 24)), (some 26), none⟩, ⟨(.mov (.t 26)), (some 14), none⟩] false) (.region [⟨(.mov (.t 13)), (some 27), none⟩, ⟨(.load (some 2) (.t 6)), (some 28), none⟩, ⟨(.mov (.t 3)), (some 29), none⟩, ⟨(.mov (.t 14)), (some 30), none⟩, ⟨(.indexAddr 1 (.t 29) (.t 30)), (some 31), none⟩, ⟨(.load none (.t 31)), (some 32), none⟩, ⟨(.callw 104 [(.t 28), (.t 32)]), (some 33), none⟩, ⟨(.mov (.t 14)), (some 34), none⟩, ⟨(.bin .shl (.t 33) (.t 34)), (some 35), none⟩, ⟨(.bin .or (.t 27) (.t 35)), (some 36), none⟩, ⟨(.mov (.t 36)), (some 13), none⟩] true))) (.region [⟨(.bin .add (.t 24) (.k (.int .i64 1))), (some 37), none⟩, ⟨(.mov (.t 37)), (some 24), none⟩] false))))
def m117_2 : MC := (.seq (.region [⟨(.bin .lss (.t 50) (.t 49)), (some 51), none⟩] false) (.seq (.cond (.t 51) .skip (.exit 4)) (.seq (.block 5 (.seq (.region [⟨(.mov (.t 50)), (some 52), none⟩, ⟨(.mov (.t 52)), (some 18), none⟩] false) (.region [⟨(.mov (.t 17)), (some 53), none⟩, ⟨(.mov (.t 18)), (some 54), none⟩, ⟨(.indexAddr 1 (.t 53) (.t 54)), (some 55), none⟩, ⟨(.load none (.t 55)), (some 56), none⟩, ⟨(.mov (.t 16)), (some 57), none⟩, ⟨(.mov (.t 18)), (some 58), none⟩, ⟨(.call 137 [(.t 57), (.t 58)]), (some 59), none⟩, ⟨(.mov (.t 4)), (some 60), none⟩, ⟨(.bin .shl (.t 59) (.t 60)), (some 61), none⟩, ⟨(.bin .or (.t 56) (.t 61)), (some 62), none⟩, ⟨(.indexAddr 1 (.t 53) (.t 54)), (some 63), none⟩, ⟨(.store 1 (.t 63) (.t 62)), none, none⟩] true))) (.region [⟨(.bin .add (.t 50) (.k (.int .i64 1))), (some 64), none⟩, ⟨(.mov (.t 64)), (some 50), none⟩] false))))
def m117_1 : MC := (.seq (.region [⟨(.bin .lss (.t 43) (.t 42)), (some 44), none⟩] false) (.seq (.cond (.t 44) .skip (.exit 2)) (.seq (.block 3 (.seq (.region [⟨(.indexAddr 1 (.t 41) (.t 43)), (some 45), none⟩, ⟨(.load none (.t 45)), (some 46), none⟩, ⟨(.mov (.t 46)), (some 16), none⟩] false) (.seq (.region [⟨(.mov (.t 3)), (some 47), none⟩, ⟨(.call 109 [(.t 47)]), (some 48), none⟩, ⟨(.mov (.t 48)), (some 17), none⟩] false) (.seq (.seq (.region [⟨(.mov (.t 1)), (some 49), none⟩, ⟨(.mov (.k (.int .i64 0))), (some 50), none⟩] false) (.block 4 (.loop m117_2))) (.seq (.region [⟨(.load (some 2) (.t 6)), (some 65), none⟩, ⟨(.mov (.t 1)), (some 66), none⟩, ⟨(.mov (.t 2)), (some 67), none⟩, ⟨(.mov (.t 17)), (some 68), none⟩, ⟨(.mov (.t 4)), (some 69), none⟩, ⟨(.bin .add (.t 69) (.k (.int .i64 1))), (some 70), none⟩, ⟨(.mov (.t 5)), (some 71), none⟩, ⟨(.call 117 [(.t 65), (.t 66), (.t 67), (.t 68), (.t 70), (.t 71)]), (some 72), none⟩, ⟨(.un .not (.t 72)), (some 73), none⟩] false) (.cond (.t 73) (.seq (.region [⟨(.mov (.k (.bool false))), (some 12), none⟩] false) .ret) .skip)))))) (.region [⟨(.bin .add (.t 43) (.k (.int .i64 1))), (some 74), none⟩, ⟨(.mov (.t 74)), (some 43), none⟩] false))))
def m117 : MC := (.seq (.region [⟨(.box (.t 0)), (some 6), none⟩, ⟨(.mov (.k (.bool false))), (some 12), none⟩] false) (.seq (.seq (.region [⟨(.mov (.t 4)), (some 19), none⟩, ⟨(.fieldAddr 0 (.t 6)), (some 20), none⟩, ⟨(.load none (.t 20)), (some 21), none⟩, ⟨(.bin .eql (.t 19) (.t 21)), (some 22), none⟩] false) (.cond (.t 22) (.seq (.region [⟨(.mov (.k (.int .i64 0))), (some 13), none⟩] false) (.seq (.seq (.region [⟨(.mov (.t 1)), (some 23), none⟩, ⟨(.mov (.k (.int .i64 0))), (some 24), none⟩] false) (.block 0 (.loop m117_0))) (.seq (.region [⟨(.mov (.t 5)), (some 38), none⟩, ⟨(.mov (.t 13)), (some 39), none⟩, ⟨(.callv (.t 38) [(.t 39)]), (some 40), none⟩, ⟨(.mov (.t 40)), (some 12), none⟩] false) .ret))) .skip)) (.seq (.seq (.region [⟨(.mov (.t 2)), (some 41), none⟩, ⟨(.len (.t 41)), (some 42), none⟩, ⟨(.mov (.k (.int .i64 0))), (some 43), none⟩] false) (.block 2 (.loop m117_1))) (.seq (.region [⟨(.mov (.k (.bool true))), (some 12), none⟩] false) .ret))))
theorem has117 : Has cx 117 75 m117 [(.tmp 12)] :=
  ⟨⟨Try.f117, Try.f117.body.getD .skip, by kernel_rfl, by kernel_rfl, by kernel_rfl, by kernel_rfl, by kernel_rfl, by kernel_rfl⟩⟩
theorem lpmk0_e (n b p t : Nat) (s : List Nat) (hn : n ≤ 4) (hb : b < 65536) (hp : p ≤ 4) (ht : t < 65536) (hp1 : 1 ≤ p) (hl : ∀ j, j < ([] : List Nat).length → ([] : List Nat).getD j 0 < 65536) (hll : ([] : List Nat).length ≤ 65536) (hs0 : s.length = n) :
    LpS cx 75 1 m117_0 [(3, .sl 0 0 p), (5, .bfn 141 [.agg [.int .i64 p, .int .i64 t]]), (6, .ptr 1 0), (13, .int .i64 (pk (fun q => bt b (rowS s q)) (0) : Nat)), (23, .int .i64 (p : Nat)), (24, .int .i64 (0 : Nat))] [⟨ints (rowsL p (s)), 1, 0, some 0, false⟩, ⟨[.int .i64 n, .int .i64 b], 1, 1, some 0, true⟩] (⟨.exit 0, [(5, .bfn 141 [.agg [.int .i64 p, .int .i64 t]]), (13, .int .i64 (pk (fun q => bt b (rowS s q)) (p) : Nat))], [⟨ints (rowsL p (s)), 1, 0, some 0, false⟩]⟩ : Out).x (⟨.exit 0, [(5, .bfn 141 [.agg [.int .i64 p, .int .i64 t]]), (13, .int .i64 (pk (fun q => bt b (rowS s q)) (p) : Nat))], [⟨ints (rowsL p (s)), 1, 0, some 0, false⟩]⟩ : Out).e (⟨.exit 0, [(5, .bfn 141 [.agg [.int .i64 p, .int .i64 t]]), (13, .int .i64 (pk (fun q => bt b (rowS s q)) (p) : Nat))], [⟨ints (rowsL p (s)), 1, 0, some 0, false⟩]⟩ : Out).h := by
  obtain ⟨h1, h2, h3, h4⟩ := shN hn
  obtain ⟨g1, g2, g3, g4⟩ := shN hp
  refine lp_st (p) (fun _ => ()) (fun i _ => [(3, .sl 0 0 p), (5, .bfn 141 [.agg [.int .i64 p, .int .i64 t]]), (6, .ptr 1 0), (13, .int .i64 (pk (fun q => bt b (rowS s q)) (i) : Nat)), (23, .int .i64 (p : Nat)), (24, .int .i64 (i : Nat))]) (fun i _ => [⟨ints (rowsL p (s)), 1, 0, some 0, false⟩, ⟨[.int .i64 n, .int .i64 b], 1, 1, some 0, true⟩]) (fun _ => (⟨.exit 0, [(5, .bfn 141 [.agg [.int .i64 p, .int .i64 t]]), (13, .int .i64 (pk (fun q => bt b (rowS s q)) (p) : Nat))], [⟨ints (rowsL p (s)), 1, 0, some 0, false⟩]⟩ : Out)) ?_ ?_ (p) 0 (by omega)
  · intro i u_ hi hu_
    refine ⟨(), rfl, ?_⟩
    have hlt : decide ((i : Int) < (p : Nat)) = true := decide_eq_true (by omega)
    have hget : (ints (rowsL p s))[0 + i * 1]? = some (.int .i64 (rowS s i : Nat)) := by simp [ints, rowsL, hi]
    have hr := rowS_lt s i
    rw [hs0] at hr
    have hb1 := bt_le b (rowS s i)
    have hs1 := sl_lt hb1 hi
    have hp0 := pk_lt (g := fun q => bt b (rowS s q)) (n := i) fun r _ => bt_le _ _
    have hp2 := R2_mono (i := i) (n := p) (by omega)
    have hx := or_lt (n := p) (show pk (fun q => bt b (rowS s q)) i < R2 p by omega) hs1
    unfold m117_0
    repeat' (first
      | refine ep_loadS rfl rfl rfl hget ?_
      | (refine g_op ?_; first
        | refine ep_mov rfl ?_ | refine ep_load1 rfl rfl rfl rfl ?_ | refine sp_loadN rfl rfl rfl rfl rfl ?_
        | refine ep_callw0 rfl (by first | exact ev104 n b (rowS s i) (by omega) (by omega)) rfl rfl ?_
        | refine sp_callw rfl rfl rfl rfl (by first | exact ev104 n b (rowS s i) (by omega) (by omega)) ⟨rfl, rfl, rfl, rfl⟩ rfl rfl rfl (by first | exact WrP_refl _ _ | (repeat' (first | exact rfl | exact True.intro | refine And.intro ?_ ?_))) ?_
        | refine ep_bin rfl rfl (by first | exact b_shl (x := bt b (rowS s i)) (by omega) (by omega) | exact b_add (by omega) (by omega) | exact b_sub (by omega) (by omega) | exact b_and (by omega) (by omega) | exact b_or (by omega) (by omega) | exact b_shr (by omega) | exact b_shl (by omega) (by omega) | exact b_lss | exact b_leq | exact b_gtr | exact b_geq | exact b_eql | exact b_neq) ?_
        | refine sp_idx rfl rfl rfl (by omega) rfl ?_ | refine ep_loadS rfl rfl rfl (by first | exact ints_get (by omega) | exact zints_get (by omega) | exact fget (by omega) | assumption) ?_ | refine ep_loadSN rfl rfl rfl (by first | exact prs_get (by omega) | exact fns_get (by omega)) ?_)
      | (refine g_ops ?_; first | refine eo_none ?_ | refine eo_nil ?_)
      | (refine g_dops ?_; first | refine ed_none ?_ | refine ed_nil ?_)
      | refine ed_same rfl ?_ | refine ed_one rfl rfl rfl rfl ?_ | refine ed_two rfl rfl rfl rfl rfl rfl rfl ?_ | refine ed_write rfl rfl ?_
      | (refine g_code ?_; first | refine ec_seq ?_ | refine ec_region ?_ | refine ec_draw ?_ | refine ec_block ?_ | refine ec_skip ?_ | refine ec_exit ?_ | refine ec_condT rfl ?_ | refine ec_condF rfl ?_ | refine ec_condTH rfl (by assumption) ?_ | refine ec_condFH rfl (by assumption) ?_)
      | refine ek_seqN ?_ | refine ek_seqX ?_ | refine ek_blkN ?_ | refine ek_blkR ?_ | refine ek_blkX ?_ | refine ek_blkY rfl ?_)
    exact rnd_on (by rfl) (scmp2 (by rfl) (by rfl) (by exact ⟨rfl, rfl, rfl⟩) (by rfl) (by first | rfl | (simp; done) | (simp [ints, prs]; done)) (by rfl) (by first | rfl | (simp; done) | (simp [ints, prs]; done)))
  · intro u_ hu_
    have hlt : decide (((p : Nat) : Int) < (p : Nat)) = false := decide_eq_false (by omega)
    unfold m117_0
    repeat' (first
      | (refine g_op ?_; first
        | refine ep_mov rfl ?_ | refine ep_load1 rfl rfl rfl rfl ?_ | refine sp_loadN rfl rfl rfl rfl rfl ?_
        | refine ep_bin rfl rfl (by first | exact b_add (by omega) (by omega) | exact b_sub (by omega) (by omega) | exact b_and (by omega) (by omega) | exact b_or (by omega) (by omega) | exact b_shr (by omega) | exact b_shl (by omega) (by omega) | exact b_lss | exact b_leq | exact b_gtr | exact b_geq | exact b_eql | exact b_neq) ?_
        | refine sp_idx rfl rfl rfl (by omega) rfl ?_ | refine ep_loadS rfl rfl rfl (by first | exact ints_get (by omega) | exact zints_get (by omega) | exact fget (by omega) | assumption) ?_ | refine ep_loadSN rfl rfl rfl (by first | exact prs_get (by omega) | exact fns_get (by omega)) ?_)
      | (refine g_ops ?_; first | refine eo_none ?_ | refine eo_nil ?_)
      | (refine g_dops ?_; first | refine ed_none ?_ | refine ed_nil ?_)
      | refine ed_same rfl ?_ | refine ed_one rfl rfl rfl rfl ?_ | refine ed_two rfl rfl rfl rfl rfl rfl rfl ?_ | refine ed_write rfl rfl ?_
      | (refine g_code ?_; first | refine ec_seq ?_ | refine ec_region ?_ | refine ec_draw ?_ | refine ec_block ?_ | refine ec_skip ?_ | refine ec_exit ?_ | refine ec_condT rfl ?_ | refine ec_condF rfl ?_ | refine ec_condTH rfl (by assumption) ?_ | refine ec_condFH rfl (by assumption) ?_)
      | refine ek_seqN ?_ | refine ek_seqX ?_ | refine ek_blkN ?_ | refine ek_blkR ?_ | refine ek_blkX ?_ | refine ek_blkY rfl ?_)
    exact rnd_out (by rfl) (by simp) (scmp2 (by rfl) (by rfl) (by exact ⟨rfl, rfl, rfl⟩) (by rfl) (by first | rfl | (simp; done) | (simp [ints, prs]; done)) (by rfl) (by first | rfl | (simp; done) | (simp [ints, prs]; done)))

theorem lpmk0_c (n b p t : Nat) (y : Nat) (ys : List Nat) (s : List Nat) (hn : n ≤ 4) (hb : b < 65536) (hp : p ≤ 4) (ht : t < 65536) (hp1 : 1 ≤ p) (hl : ∀ j, j < (y :: ys).length → (y :: ys).getD j 0 < 65536) (hll : (y :: ys).length ≤ 65536) (hs0 : s.length = n) :
    LpS cx 75 2 m117_0 [(3, .sl 1 0 p), (5, .bfn 141 [.agg [.int .i64 p, .int .i64 t]]), (6, .ptr 2 0), (13, .int .i64 (pk (fun q => bt b (rowS s q)) (0) : Nat)), (23, .int .i64 (p : Nat)), (24, .int .i64 (0 : Nat))] [⟨ints (y :: ys), 1, 0, some 0, false⟩, ⟨ints (rowsL p (s)), 1, 1, some 0, false⟩, ⟨[.int .i64 n, .int .i64 b], 1, 2, some 0, true⟩] (⟨.exit 0, [(5, .bfn 141 [.agg [.int .i64 p, .int .i64 t]]), (13, .int .i64 (pk (fun q => bt b (rowS s q)) (p) : Nat))], [⟨ints (y :: ys), 1, 0, some 0, false⟩, ⟨ints (rowsL p (s)), 1, 1, some 0, false⟩]⟩ : Out).x (⟨.exit 0, [(5, .bfn 141 [.agg [.int .i64 p, .int .i64 t]]), (13, .int .i64 (pk (fun q => bt b (rowS s q)) (p) : Nat))], [⟨ints (y :: ys), 1, 0, some 0, false⟩, ⟨ints (rowsL p (s)), 1, 1, some 0, false⟩]⟩ : Out).e (⟨.exit 0, [(5, .bfn 141 [.agg [.int .i64 p, .int .i64 t]]), (13, .int .i64 (pk (fun q => bt b (rowS s q)) (p) : Nat))], [⟨ints (y :: ys), 1, 0, some 0, false⟩, ⟨ints (rowsL p (s)), 1, 1, some 0, false⟩]⟩ : Out).h := by
  obtain ⟨h1, h2, h3, h4⟩ := shN hn
  obtain ⟨g1, g2, g3, g4⟩ := shN hp
  refine lp_st (p) (fun _ => ()) (fun i _ => [(3, .sl 1 0 p), (5, .bfn 141 [.agg [.int .i64 p, .int .i64 t]]), (6, .ptr 2 0), (13, .int .i64 (pk (fun q => bt b (rowS s q)) (i) : Nat)), (23, .int .i64 (p : Nat)), (24, .int .i64 (i : Nat))]) (fun i _ => [⟨ints (y :: ys), 1, 0, some 0, false⟩, ⟨ints (rowsL p (s)), 1, 1, some 0, false⟩, ⟨[.int .i64 n, .int .i64 b], 1, 2, some 0, true⟩]) (fun _ => (⟨.exit 0, [(5, .bfn 141 [.agg [.int .i64 p, .int .i64 t]]), (13, .int .i64 (pk (fun q => bt b (rowS s q)) (p) : Nat))], [⟨ints (y :: ys), 1, 0, some 0, false⟩, ⟨ints (rowsL p (s)), 1, 1, some 0, false⟩]⟩ : Out)) ?_ ?_ (p) 0 (by omega)
  · intro i u_ hi hu_
    refine ⟨(), rfl, ?_⟩
    have hlt : decide ((i : Int) < (p : Nat)) = true := decide_eq_true (by omega)
    have hget : (ints (rowsL p s))[0 + i * 1]? = some (.int .i64 (rowS s i : Nat)) := by simp [ints, rowsL, hi]
    have hr := rowS_lt s i
    rw [hs0] at hr
    have hb1 := bt_le b (rowS s i)
    have hs1 := sl_lt hb1 hi
    have hp0 := pk_lt (g := fun q => bt b (rowS s q)) (n := i) fun r _ => bt_le _ _
    have hp2 := R2_mono (i := i) (n := p) (by omega)
    have hx := or_lt (n := p) (show pk (fun q => bt b (rowS s q)) i < R2 p by omega) hs1
    unfold m117_0
    repeat' (first
      | refine ep_loadS rfl rfl rfl hget ?_
      | (refine g_op ?_; first
        | refine ep_mov rfl ?_ | refine ep_load1 rfl rfl rfl rfl ?_ | refine sp_loadN rfl rfl rfl rfl rfl ?_
        | refine ep_callw0 rfl (by first | exact ev104 n b (rowS s i) (by omega) (by omega)) rfl rfl ?_
        | refine sp_callw rfl rfl rfl rfl (by first | exact ev104 n b (rowS s i) (by omega) (by omega)) ⟨rfl, rfl, rfl, rfl⟩ rfl rfl rfl (by first | exact WrP_refl _ _ | (repeat' (first | exact rfl | exact True.intro | refine And.intro ?_ ?_))) ?_
        | refine ep_bin rfl rfl (by first | exact b_shl (x := bt b (rowS s i)) (by omega) (by omega) | exact b_add (by omega) (by omega) | exact b_sub (by omega) (by omega) | exact b_and (by omega) (by omega) | exact b_or (by omega) (by omega) | exact b_shr (by omega) | exact b_shl (by omega) (by omega) | exact b_lss | exact b_leq | exact b_gtr | exact b_geq | exact b_eql | exact b_neq) ?_
        | refine sp_idx rfl rfl rfl (by omega) rfl ?_ | refine ep_loadS rfl rfl rfl (by first | exact ints_get (by omega) | exact zints_get (by omega) | exact fget (by omega) | assumption) ?_ | refine ep_loadSN rfl rfl rfl (by first | exact prs_get (by omega) | exact fns_get (by omega)) ?_)
      | (refine g_ops ?_; first | refine eo_none ?_ | refine eo_nil ?_)
      | (refine g_dops ?_; first | refine ed_none ?_ | refine ed_nil ?_)
      | refine ed_same rfl ?_ | refine ed_one rfl rfl rfl rfl ?_ | refine ed_two rfl rfl rfl rfl rfl rfl rfl ?_ | refine ed_write rfl rfl ?_
      | (refine g_code ?_; first | refine ec_seq ?_ | refine ec_region ?_ | refine ec_draw ?_ | refine ec_block ?_ | refine ec_skip ?_ | refine ec_exit ?_ | refine ec_condT rfl ?_ | refine ec_condF rfl ?_ | refine ec_condTH rfl (by assumption) ?_ | refine ec_condFH rfl (by assumption) ?_)
      | refine ek_seqN ?_ | refine ek_seqX ?_ | refine ek_blkN ?_ | refine ek_blkR ?_ | refine ek_blkX ?_ | refine ek_blkY rfl ?_)
    exact rnd_on (by rfl) (scmp2 (by rfl) (by rfl) (by exact ⟨rfl, rfl, rfl⟩) (by rfl) (by first | rfl | (simp; done) | (simp [ints, prs]; done)) (by rfl) (by first | rfl | (simp; done) | (simp [ints, prs]; done)))
  · intro u_ hu_
    have hlt : decide (((p : Nat) : Int) < (p : Nat)) = false := decide_eq_false (by omega)
    unfold m117_0
    repeat' (first
      | (refine g_op ?_; first
        | refine ep_mov rfl ?_ | refine ep_load1 rfl rfl rfl rfl ?_ | refine sp_loadN rfl rfl rfl rfl rfl ?_
        | refine ep_bin rfl rfl (by first | exact b_add (by omega) (by omega) | exact b_sub (by omega) (by omega) | exact b_and (by omega) (by omega) | exact b_or (by omega) (by omega) | exact b_shr (by omega) | exact b_shl (by omega) (by omega) | exact b_lss | exact b_leq | exact b_gtr | exact b_geq | exact b_eql | exact b_neq) ?_
        | refine sp_idx rfl rfl rfl (by omega) rfl ?_ | refine ep_loadS rfl rfl rfl (by first | exact ints_get (by omega) | exact zints_get (by omega) | exact fget (by omega) | assumption) ?_ | refine ep_loadSN rfl rfl rfl (by first | exact prs_get (by omega) | exact fns_get (by omega)) ?_)
      | (refine g_ops ?_; first | refine eo_none ?_ | refine eo_nil ?_)
      | (refine g_dops ?_; first | refine ed_none ?_ | refine ed_nil ?_)
      | refine ed_same rfl ?_ | refine ed_one rfl rfl rfl rfl ?_ | refine ed_two rfl rfl rfl rfl rfl rfl rfl ?_ | refine ed_write rfl rfl ?_
      | (refine g_code ?_; first | refine ec_seq ?_ | refine ec_region ?_ | refine ec_draw ?_ | refine ec_block ?_ | refine ec_skip ?_ | refine ec_exit ?_ | refine ec_condT rfl ?_ | refine ec_condF rfl ?_ | refine ec_condTH rfl (by assumption) ?_ | refine ec_condFH rfl (by assumption) ?_)
      | refine ek_seqN ?_ | refine ek_seqX ?_ | refine ek_blkN ?_ | refine ek_blkR ?_ | refine ek_blkX ?_ | refine ek_blkY rfl ?_)
    exact rnd_out (by rfl) (by simp) (scmp2 (by rfl) (by rfl) (by exact ⟨rfl, rfl, rfl⟩) (by rfl) (by first | rfl | (simp; done) | (simp [ints, prs]; done)) (by rfl) (by first | rfl | (simp; done) | (simp [ints, prs]; done)))
theorem lpmk2 (n b p t : Nat) (y : Nat) (ys : List Nat) (x : Nat) (u : Nat) (s : List Nat) (hn : n ≤ 4) (hb : b < 65536) (hp : p ≤ 4) (ht : t < 65536) (hp1 : 1 ≤ p) (hl : ∀ j, j < (y :: ys).length → (y :: ys).getD j 0 < 65536) (hll : (y :: ys).length ≤ 65536) (hs0 : s.length < n) (hx : x < 65536) :
    LpS cx 75 2 m117_2 [(1, .int .i64 (p : Nat)), (2, .sl 0 0 (y :: ys).length), (3, .sl 1 0 p), (4, .int .i64 (s.length : Nat)), (5, .bfn 141 [.agg [.int .i64 p, .int .i64 t]]), (6, .ptr 2 0), (16, .int .i64 (x : Nat)), (17, .sl 3 0 p), (41, .sl 0 0 (y :: ys).length), (42, .int .i64 ((y :: ys).length : Nat)), (43, .int .i64 (u : Nat)), (49, .int .i64 (p : Nat)), (50, .int .i64 (0 : Nat))] [⟨ints (y :: ys), 1, 0, some 0, false⟩, ⟨ints (rowsL p (s)), 1, 1, some 0, false⟩, ⟨[.int .i64 n, .int .i64 b], 1, 2, some 0, true⟩, ⟨ints (updF (rowS s) (rowS (s ++ [x])) p (0)), 1, 3, some 0, false⟩] (⟨.exit 4, [(1, .int .i64 (p : Nat)), (2, .sl 0 0 (y :: ys).length), (3, .sl 1 0 p), (4, .int .i64 (s.length : Nat)), (5, .bfn 141 [.agg [.int .i64 p, .int .i64 t]]), (6, .ptr 2 0), (17, .sl 3 0 p), (41, .sl 0 0 (y :: ys).length), (42, .int .i64 ((y :: ys).length : Nat)), (43, .int .i64 (u : Nat))], [⟨ints (y :: ys), 1, 0, some 0, false⟩, ⟨ints (rowsL p (s)), 1, 1, some 0, false⟩, ⟨[.int .i64 n, .int .i64 b], 1, 2, some 0, true⟩, ⟨ints (updF (rowS s) (rowS (s ++ [x])) p (p)), 1, 3, some 0, false⟩]⟩ : Out).x (⟨.exit 4, [(1, .int .i64 (p : Nat)), (2, .sl 0 0 (y :: ys).length), (3, .sl 1 0 p), (4, .int .i64 (s.length : Nat)), (5, .bfn 141 [.agg [.int .i64 p, .int .i64 t]]), (6, .ptr 2 0), (17, .sl 3 0 p), (41, .sl 0 0 (y :: ys).length), (42, .int .i64 ((y :: ys).length : Nat)), (43, .int .i64 (u : Nat))], [⟨ints (y :: ys), 1, 0, some 0, false⟩, ⟨ints (rowsL p (s)), 1, 1, some 0, false⟩, ⟨[.int .i64 n, .int .i64 b], 1, 2, some 0, true⟩, ⟨ints (updF (rowS s) (rowS (s ++ [x])) p (p)), 1, 3, some 0, false⟩]⟩ : Out).e (⟨.exit 4, [(1, .int .i64 (p : Nat)), (2, .sl 0 0 (y :: ys).length), (3, .sl 1 0 p), (4, .int .i64 (s.length : Nat)), (5, .bfn 141 [.agg [.int .i64 p, .int .i64 t]]), (6, .ptr 2 0), (17, .sl 3 0 p), (41, .sl 0 0 (y :: ys).length), (42, .int .i64 ((y :: ys).length : Nat)), (43, .int .i64 (u : Nat))], [⟨ints (y :: ys), 1, 0, some 0, false⟩, ⟨ints (rowsL p (s)), 1, 1, some 0, false⟩, ⟨[.int .i64 n, .int .i64 b], 1, 2, some 0, true⟩, ⟨ints (updF (rowS s) (rowS (s ++ [x])) p (p)), 1, 3, some 0, false⟩]⟩ : Out).h := by
  obtain ⟨h1, h2, h3, h4⟩ := shN hn
  refine lp_st (p) (fun _ => ()) (fun i _ => [(1, .int .i64 (p : Nat)), (2, .sl 0 0 (y :: ys).length), (3, .sl 1 0 p), (4, .int .i64 (s.length : Nat)), (5, .bfn 141 [.agg [.int .i64 p, .int .i64 t]]), (6, .ptr 2 0), (16, .int .i64 (x : Nat)), (17, .sl 3 0 p), (41, .sl 0 0 (y :: ys).length), (42, .int .i64 ((y :: ys).length : Nat)), (43, .int .i64 (u : Nat)), (49, .int .i64 (p : Nat)), (50, .int .i64 (i : Nat))]) (fun i _ => [⟨ints (y :: ys), 1, 0, some 0, false⟩, ⟨ints (rowsL p (s)), 1, 1, some 0, false⟩, ⟨[.int .i64 n, .int .i64 b], 1, 2, some 0, true⟩, ⟨ints (updF (rowS s) (rowS (s ++ [x])) p (i)), 1, 3, some 0, false⟩]) (fun _ => (⟨.exit 4, [(1, .int .i64 (p : Nat)), (2, .sl 0 0 (y :: ys).length), (3, .sl 1 0 p), (4, .int .i64 (s.length : Nat)), (5, .bfn 141 [.agg [.int .i64 p, .int .i64 t]]), (6, .ptr 2 0), (17, .sl 3 0 p), (41, .sl 0 0 (y :: ys).length), (42, .int .i64 ((y :: ys).length : Nat)), (43, .int .i64 (u : Nat))], [⟨ints (y :: ys), 1, 0, some 0, false⟩, ⟨ints (rowsL p (s)), 1, 1, some 0, false⟩, ⟨[.int .i64 n, .int .i64 b], 1, 2, some 0, true⟩, ⟨ints (updF (rowS s) (rowS (s ++ [x])) p (p)), 1, 3, some 0, false⟩]⟩ : Out)) ?_ ?_ (p) 0 (by omega)
  · intro i u_ hi hu_
    refine ⟨(), rfl, ?_⟩
    have hlt : decide ((i : Int) < (p : Nat)) = true := decide_eq_true (by omega)
    have hget := updF_get (f := rowS s) (g := rowS (s ++ [x])) (i := i) hi
    rw [if_neg (Nat.lt_irrefl i)] at hget
    have hset := updF_set (f := rowS s) (g := rowS (s ++ [x])) hi
    have hlen := updF_len (rowS s) (rowS (s ++ [x])) p i
    have hr := rowS_lt s i
    have hr2 := R2_mono (i := s.length) (n := n) (by omega)
    have hb1 := bt_le x i
    have hs1 := sl_lt hb1 hs0
    have hor : binV .or (.int .i64 (rowS s i : Nat)) (.int .i64 (bt x i <<< s.length : Nat)) = some (.int .i64 (rowS (s ++ [x]) i : Nat)) := by
      rw [rowS_snoc]; exact b_or (by omega) (by have : R2 n ≤ 16 := h1; have : bt x i <<< s.length < R2 n := hs1; omega)
    unfold m117_2
    repeat' (first
      | refine ep_loadS rfl rfl rfl hget ?_
      | refine sp_storeS rfl rfl rfl rfl rfl rfl rfl (Nat.zero_le _) (by omega) hset rfl ?_
      | (refine g_op ?_; first
        | refine ep_mov rfl ?_ | refine ep_load1 rfl rfl rfl rfl ?_
        | refine ep_call0 rfl (by first | exact ev137 x i (by omega) (by omega)) rfl rfl ?_
        | refine sp_call rfl rfl rfl rfl (by first | exact ev137 x i (by omega) (by omega)) ⟨rfl, rfl, rfl, rfl⟩ rfl rfl rfl ?_
        | refine ep_bin rfl rfl (by first | exact hor | exact b_shl (x := bt x i) (y := s.length) (by omega) (by omega) | exact b_add (by omega) (by omega) | exact b_sub (by omega) (by omega) | exact b_and (by omega) (by omega) | exact b_or (by omega) (by omega) | exact b_shr (by omega) | exact b_shl (by omega) (by omega) | exact b_lss | exact b_leq | exact b_gtr | exact b_geq | exact b_eql | exact b_neq) ?_
        | refine sp_store rfl rfl rfl rfl rfl rfl rfl rfl rfl rfl ?_ | refine sp_idx rfl rfl rfl (by omega) rfl ?_ | refine ep_loadS rfl rfl rfl (by first | exact ints_get (by omega) | exact zints_get (by omega) | exact fget (by omega) | assumption) ?_)
      | (refine g_ops ?_; first | refine eo_none ?_ | refine eo_nil ?_)
      | (refine g_dops ?_; first | refine ed_none ?_ | refine ed_nil ?_)
      | refine ed_same rfl ?_ | refine ed_one rfl rfl rfl rfl ?_ | refine ed_two rfl rfl rfl rfl rfl rfl rfl ?_ | refine ed_write rfl rfl ?_
      | (refine g_code ?_; first | refine ec_seq ?_ | refine ec_region ?_ | refine ec_draw ?_ | refine ec_block ?_ | refine ec_skip ?_ | refine ec_exit ?_ | refine ec_condT rfl ?_ | refine ec_condF rfl ?_ | refine ec_condTH rfl (by assumption) ?_ | refine ec_condFH rfl (by assumption) ?_)
      | refine ek_seqN ?_ | refine ek_seqX ?_ | refine ek_blkN ?_ | refine ek_blkR ?_ | refine ek_blkX ?_ | refine ek_blkY rfl ?_)
    exact rnd_on (by rfl) (scmp2 (by rfl) (by rfl) (by exact ⟨rfl, rfl, rfl⟩) (by rfl) (by first | rfl | (simp; done) | (simp [ints, prs]; done)) (by rfl) (by first | rfl | (simp; done) | (simp [ints, prs]; done)))
  · intro u_ hu_
    have hlt : decide (((p : Nat) : Int) < (p : Nat)) = false := decide_eq_false (by omega)
    unfold m117_2
    repeat' (first
      | (refine g_op ?_; first
        | refine ep_mov rfl ?_ | refine ep_load1 rfl rfl rfl rfl ?_
        | refine ep_bin rfl rfl (by first | exact b_add (by omega) (by omega) | exact b_sub (by omega) (by omega) | exact b_and (by omega) (by omega) | exact b_or (by omega) (by omega) | exact b_shr (by omega) | exact b_shl (by omega) (by omega) | exact b_lss | exact b_leq | exact b_gtr | exact b_geq | exact b_eql | exact b_neq) ?_
        | refine sp_store rfl rfl rfl rfl rfl rfl rfl rfl rfl rfl ?_ | refine sp_idx rfl rfl rfl (by omega) rfl ?_ | refine ep_loadS rfl rfl rfl (by first | exact ints_get (by omega) | exact zints_get (by omega) | exact fget (by omega) | assumption) ?_)
      | (refine g_ops ?_; first | refine eo_none ?_ | refine eo_nil ?_)
      | (refine g_dops ?_; first | refine ed_none ?_ | refine ed_nil ?_)
      | refine ed_same rfl ?_ | refine ed_one rfl rfl rfl rfl ?_ | refine ed_two rfl rfl rfl rfl rfl rfl rfl ?_ | refine ed_write rfl rfl ?_
      | (refine g_code ?_; first | refine ec_seq ?_ | refine ec_region ?_ | refine ec_draw ?_ | refine ec_block ?_ | refine ec_skip ?_ | refine ec_exit ?_ | refine ec_condT rfl ?_ | refine ec_condF rfl ?_ | refine ec_condTH rfl (by assumption) ?_ | refine ec_condFH rfl (by assumption) ?_)
      | refine ek_seqN ?_ | refine ek_seqX ?_ | refine ek_blkN ?_ | refine ek_blkR ?_ | refine ek_blkX ?_ | refine ek_blkY rfl ?_)
    exact rnd_out (by rfl) (by simp) (scmp2 (by rfl) (by rfl) (by exact ⟨rfl, rfl, rfl⟩) (by rfl) (by first | rfl | (simp; done) | (simp [ints, prs]; done)) (by rfl) (by first | rfl | (simp; done) | (simp [ints, prs]; done)))
theorem lpmk1 (n b p t : Nat) (y : Nat) (ys : List Nat) (m : Nat) (s : List Nat) (hn : n ≤ 4) (hb : b < 65536) (hp0 : p ≤ 4) (ht : t < 65536) (hp1 : 1 ≤ p) (hl : ∀ j, j < (y :: ys).length → (y :: ys).getD j 0 < 65536) (hll : (y :: ys).length ≤ 65536) (hs0 : s.length < n) (ih : ∀ x, x < 65536 → Ev cx 117 [.agg [.int .i64 n, .int .i64 b], .int .i64 p, .sl 0 0 (y :: ys).length, .sl 1 0 p, .int .i64 (s.length + 1 : Nat), .bfn 141 [.agg [.int .i64 p, .int .i64 t]]] [⟨ints (y :: ys), 1, 0, some 0, false⟩, ⟨ints (rowsL p (s ++ [x])), 1, 1, some 0, false⟩] (.bool (chkA (fun v => bt t v == 1) (y :: ys) b p m (s ++ [x]))) [⟨ints (y :: ys), 1, 0, some 0, false⟩, ⟨ints (rowsL p (s ++ [x])), 1, 1, some 0, false⟩]) (o : Out) (ho : (if allF (fun j => chkA (fun v => bt t v == 1) (y :: ys) b p m (s ++ [(y :: ys).getD j 0])) 0 ((y :: ys).length) = true then (⟨.exit 2, [], [⟨ints (y :: ys), 1, 0, some 0, false⟩, ⟨ints (rowsL p (s)), 1, 1, some 0, false⟩]⟩ : Out) else ⟨.ret, [(12, .bool false)], [⟨ints (y :: ys), 1, 0, some 0, false⟩, ⟨ints (rowsL p (s)), 1, 1, some 0, false⟩]⟩) = o) :
    LpS cx 75 2 m117_1 [(1, .int .i64 (p : Nat)), (2, .sl 0 0 (y :: ys).length), (3, .sl 1 0 p), (4, .int .i64 (s.length : Nat)), (5, .bfn 141 [.agg [.int .i64 p, .int .i64 t]]), (6, .ptr 2 0), (41, .sl 0 0 (y :: ys).length), (42, .int .i64 ((y :: ys).length : Nat)), (43, .int .i64 (0 : Nat))] [⟨ints (y :: ys), 1, 0, some 0, false⟩, ⟨ints (rowsL p (s)), 1, 1, some 0, false⟩, ⟨[.int .i64 n, .int .i64 b], 1, 2, some 0, true⟩] o.x o.e o.h := by
  refine lp_all ((y :: ys).length) (fun j => chkA (fun v => bt t v == 1) (y :: ys) b p m (s ++ [(y :: ys).getD j 0])) (fun i => [(1, .int .i64 (p : Nat)), (2, .sl 0 0 (y :: ys).length), (3, .sl 1 0 p), (4, .int .i64 (s.length : Nat)), (5, .bfn 141 [.agg [.int .i64 p, .int .i64 t]]), (6, .ptr 2 0), (41, .sl 0 0 (y :: ys).length), (42, .int .i64 ((y :: ys).length : Nat)), (43, .int .i64 (i : Nat))]) (fun i => [⟨ints (y :: ys), 1, 0, some 0, false⟩, ⟨ints (rowsL p (s)), 1, 1, some 0, false⟩, ⟨[.int .i64 n, .int .i64 b], 1, 2, some 0, true⟩]) _ _ ?_ ?_ ?_ ((y :: ys).length) 0 o (by omega) ho
  · intro i hi hp
    have hlt : decide ((i : Int) < ((y :: ys).length : Nat)) = true := decide_eq_true (by omega)
    have hp' : (chkA (fun v => bt t v == 1) (y :: ys) b p m (s ++ [(y :: ys).getD i 0])) = true := hp
    have hx := hl i hi
    have e1 := ih ((y :: ys).getD i 0) hx
    rw [show chkA (fun v => bt t v == 1) (y :: ys) b p m (s ++ [(y :: ys).getD i 0]) = _ from hp] at e1
    have e2 := ev109 (rowsL p s) p (by simp [rowsL]) hp1 (by omega)
    have lp := lpmk2 n b p t y ys ((y :: ys).getD i 0) i s hn hb hp0 ht hp1 hl hll hs0 hx
    rw [updF_0, updF_p, show (List.range p).map (rowS s) = rowsL p s from rfl, show (List.range p).map (rowS (s ++ [(y :: ys).getD i 0])) = rowsL p (s ++ [(y :: ys).getD i 0]) from rfl] at lp
    have hk := b_addN (a := s.length) (b := 1) (by omega)
    unfold m117_1
    repeat' (first
      | refine sc_loop lp rfl rfl ⟨rfl, rfl, rfl⟩ rfl rfl rfl ?_
      | (refine g_op ?_; first
        | refine ep_mov rfl ?_ | refine ep_load1 rfl rfl rfl rfl ?_ | refine sp_loadN rfl rfl rfl rfl rfl ?_
        | refine ep_call0 rfl (by first | exact e1 | exact e2) rfl rfl ?_
        | refine sp_call rfl rfl rfl rfl (by first | exact e1 | exact e2) ⟨rfl, rfl, rfl, rfl⟩ rfl rfl rfl ?_
        | refine ep_bin rfl rfl (by first | exact hk | exact b_add (by omega) (by omega) | exact b_sub (by omega) (by omega) | exact b_and (by omega) (by omega) | exact b_or (by omega) (by omega) | exact b_shr (by omega) | exact b_shl (by omega) (by omega) | exact b_lss | exact b_leq | exact b_gtr | exact b_geq | exact b_eql | exact b_neq) ?_
        | refine ep_not rfl ?_ | refine sp_idx rfl rfl rfl (by omega) rfl ?_ | refine ep_loadS rfl rfl rfl (by first | exact ints_get (by omega) | exact zints_get (by omega) | exact fget (by omega) | assumption) ?_
        | refine ep_loadSN rfl rfl rfl (by first | exact prs_get (by omega) | exact fns_get (by omega)) ?_)
      | (refine g_ops ?_; first | refine eo_none ?_ | refine eo_nil ?_)
      | (refine g_code ?_; first | refine ec_seq ?_ | refine ec_region ?_ | refine ec_block ?_ | refine ec_skip ?_ | refine ec_exit ?_ | refine ec_ret ?_ | refine ec_condT rfl ?_ | refine ec_condF rfl ?_ | refine ec_condTH rfl (by assumption) ?_ | refine ec_condFH rfl (by assumption) ?_)
      | refine ek_seqN ?_ | refine ek_seqX ?_ | refine ek_seqR ?_ | refine ek_blkN ?_ | refine ek_blkR ?_ | refine ek_blkX ?_ | refine ek_blkY rfl ?_)
    exact rnd_on (by rfl) (scmp2 (by rfl) (by rfl) (by exact ⟨rfl, rfl, rfl⟩) (by rfl) (by first | rfl | (simp; done) | (simp [ints, prs]; done)) (by rfl) (by first | rfl | (simp; done) | (simp [ints, prs]; done)))
  · intro i hi hp
    have hlt : decide ((i : Int) < ((y :: ys).length : Nat)) = true := decide_eq_true (by omega)
    have hp' : (chkA (fun v => bt t v == 1) (y :: ys) b p m (s ++ [(y :: ys).getD i 0])) = false := hp
    have hx := hl i hi
    have e1 := ih ((y :: ys).getD i 0) hx
    rw [show chkA (fun v => bt t v == 1) (y :: ys) b p m (s ++ [(y :: ys).getD i 0]) = _ from hp] at e1
    have e2 := ev109 (rowsL p s) p (by simp [rowsL]) hp1 (by omega)
    have lp := lpmk2 n b p t y ys ((y :: ys).getD i 0) i s hn hb hp0 ht hp1 hl hll hs0 hx
    rw [updF_0, updF_p, show (List.range p).map (rowS s) = rowsL p s from rfl, show (List.range p).map (rowS (s ++ [(y :: ys).getD i 0])) = rowsL p (s ++ [(y :: ys).getD i 0]) from rfl] at lp
    have hk := b_addN (a := s.length) (b := 1) (by omega)
    unfold m117_1
    repeat' (first
      | refine sc_loop lp rfl rfl ⟨rfl, rfl, rfl⟩ rfl rfl rfl ?_
      | (refine g_op ?_; first
        | refine ep_mov rfl ?_ | refine ep_load1 rfl rfl rfl rfl ?_ | refine sp_loadN rfl rfl rfl rfl rfl ?_
        | refine ep_call0 rfl (by first | exact e1 | exact e2) rfl rfl ?_
        | refine sp_call rfl rfl rfl rfl (by first | exact e1 | exact e2) ⟨rfl, rfl, rfl, rfl⟩ rfl rfl rfl ?_
        | refine ep_bin rfl rfl (by first | exact hk | exact b_add (by omega) (by omega) | exact b_sub (by omega) (by omega) | exact b_and (by omega) (by omega) | exact b_or (by omega) (by omega) | exact b_shr (by omega) | exact b_shl (by omega) (by omega) | exact b_lss | exact b_leq | exact b_gtr | exact b_geq | exact b_eql | exact b_neq) ?_
        | refine ep_not rfl ?_ | refine sp_idx rfl rfl rfl (by omega) rfl ?_ | refine ep_loadS rfl rfl rfl (by first | exact ints_get (by omega) | exact zints_get (by omega) | exact fget (by omega) | assumption) ?_
        | refine ep_loadSN rfl rfl rfl (by first | exact prs_get (by omega) | exact fns_get (by omega)) ?_)
      | (refine g_ops ?_; first | refine eo_none ?_ | refine eo_nil ?_)
      | (refine g_code ?_; first | refine ec_seq ?_ | refine ec_region ?_ | refine ec_block ?_ | refine ec_skip ?_ | refine ec_exit ?_ | refine ec_ret ?_ | refine ec_condT rfl ?_ | refine ec_condF rfl ?_ | refine ec_condTH rfl (by assumption) ?_ | refine ec_condFH rfl (by assumption) ?_)
      | refine ek_seqN ?_ | refine ek_seqX ?_ | refine ek_seqR ?_ | refine ek_blkN ?_ | refine ek_blkR ?_ | refine ek_blkX ?_ | refine ek_blkY rfl ?_)
    exact rnd_out (by rfl) (by simp) (scmp2 (by rfl) (by rfl) (by exact ⟨rfl, rfl, rfl⟩) (by rfl) (by first | rfl | (simp; done) | (simp [ints, prs]; done)) (by rfl) (by first | rfl | (simp; done) | (simp [ints, prs]; done)))
  · have hlt : decide ((((y :: ys).length : Nat) : Int) < ((y :: ys).length : Nat)) = false := decide_eq_false (by omega)
    unfold m117_1
    repeat' (first
      | (refine g_op ?_; first
        | refine ep_mov rfl ?_ | refine ep_load1 rfl rfl rfl rfl ?_ | refine sp_loadN rfl rfl rfl rfl rfl ?_
        | refine ep_bin rfl rfl (by first | exact b_add (by omega) (by omega) | exact b_sub (by omega) (by omega) | exact b_and (by omega) (by omega) | exact b_or (by omega) (by omega) | exact b_shr (by omega) | exact b_shl (by omega) (by omega) | exact b_lss | exact b_leq | exact b_gtr | exact b_geq | exact b_eql | exact b_neq) ?_
        | refine ep_not rfl ?_ | refine sp_idx rfl rfl rfl (by omega) rfl ?_ | refine ep_loadS rfl rfl rfl (by first | exact ints_get (by omega) | exact zints_get (by omega) | exact fget (by omega) | assumption) ?_
        | refine ep_loadSN rfl rfl rfl (by first | exact prs_get (by omega) | exact fns_get (by omega)) ?_)
      | (refine g_ops ?_; first | refine eo_none ?_ | refine eo_nil ?_)
      | (refine g_code ?_; first | refine ec_seq ?_ | refine ec_region ?_ | refine ec_block ?_ | refine ec_skip ?_ | refine ec_exit ?_ | refine ec_ret ?_ | refine ec_condT rfl ?_ | refine ec_condF rfl ?_ | refine ec_condTH rfl (by assumption) ?_ | refine ec_condFH rfl (by assumption) ?_)
      | refine ek_seqN ?_ | refine ek_seqX ?_ | refine ek_seqR ?_ | refine ek_blkN ?_ | refine ek_blkR ?_ | refine ek_blkX ?_ | refine ek_blkY rfl ?_)
    exact rnd_out (by rfl) (by simp) (scmp2 (by rfl) (by rfl) (by exact ⟨rfl, rfl, rfl⟩) (by rfl) (by first | rfl | (simp; done) | (simp [ints, prs]; done)) (by rfl) (by first | rfl | (simp; done) | (simp [ints, prs]; done)))

theorem lpmk1e (n b p t : Nat) (s : List Nat) :
    LpS cx 75 1 m117_1 [(1, .int .i64 (p : Nat)), (2, .nils), (3, .sl 0 0 p), (4, .int .i64 (s.length : Nat)), (5, .bfn 141 [.agg [.int .i64 p, .int .i64 t]]), (6, .ptr 1 0), (41, .nils), (42, .int .i64 0), (43, .int .i64 (0 : Nat))] [⟨ints (rowsL p s), 1, 0, some 0, false⟩, ⟨[.int .i64 n, .int .i64 b], 1, 1, some 0, true⟩] (⟨.exit 2, [], [⟨ints (rowsL p s), 1, 0, some 0, false⟩]⟩ : Out).x (⟨.exit 2, [], [⟨ints (rowsL p s), 1, 0, some 0, false⟩]⟩ : Out).e (⟨.exit 2, [], [⟨ints (rowsL p s), 1, 0, some 0, false⟩]⟩ : Out).h := by
  refine lp_st (0) (fun _ => ()) (fun i _ => [(1, .int .i64 (p : Nat)), (2, .nils), (3, .sl 0 0 p), (4, .int .i64 (s.length : Nat)), (5, .bfn 141 [.agg [.int .i64 p, .int .i64 t]]), (6, .ptr 1 0), (41, .nils), (42, .int .i64 0), (43, .int .i64 (i : Nat))]) (fun i _ => [⟨ints (rowsL p s), 1, 0, some 0, false⟩, ⟨[.int .i64 n, .int .i64 b], 1, 1, some 0, true⟩]) (fun _ => (⟨.exit 2, [], [⟨ints (rowsL p s), 1, 0, some 0, false⟩]⟩ : Out)) ?_ ?_ (0) 0 (by omega)
  · intro i u_ hi hu_
    refine ⟨(), rfl, ?_⟩
    exact absurd hi (by simp)
  · intro u_ hu_
    have hlt : decide (((0 : Nat) : Int) < (0 : Nat)) = false := decide_eq_false (by omega)
    unfold m117_1
    repeat' (first
      | (refine g_op ?_; first
        | refine ep_mov rfl ?_ | refine ep_load1 rfl rfl rfl rfl ?_ | refine sp_loadN rfl rfl rfl rfl rfl ?_
        | refine ep_bin rfl rfl (by first | exact b_add (by omega) (by omega) | exact b_sub (by omega) (by omega) | exact b_and (by omega) (by omega) | exact b_or (by omega) (by omega) | exact b_shr (by omega) | exact b_shl (by omega) (by omega) | exact b_lss | exact b_leq | exact b_gtr | exact b_geq | exact b_eql | exact b_neq) ?_
        | refine ep_not rfl ?_ | refine sp_idx rfl rfl rfl (by omega) rfl ?_ | refine ep_loadS rfl rfl rfl (by first | exact ints_get (by omega) | exact zints_get (by omega) | exact fget (by omega) | assumption) ?_
        | refine ep_loadSN rfl rfl rfl (by first | exact prs_get (by omega) | exact fns_get (by omega)) ?_)
      | (refine g_ops ?_; first | refine eo_none ?_ | refine eo_nil ?_)
      | (refine g_code ?_; first | refine ec_seq ?_ | refine ec_region ?_ | refine ec_block ?_ | refine ec_skip ?_ | refine ec_exit ?_ | refine ec_ret ?_ | refine ec_condT rfl ?_ | refine ec_condF rfl ?_ | refine ec_condTH rfl (by assumption) ?_ | refine ec_condFH rfl (by assumption) ?_)
      | refine ek_seqN ?_ | refine ek_seqX ?_ | refine ek_seqR ?_ | refine ek_blkN ?_ | refine ek_blkR ?_ | refine ek_blkX ?_ | refine ek_blkY rfl ?_)
    exact rnd_out (by rfl) (by simp) (scmp2 (by rfl) (by rfl) (by exact ⟨rfl, rfl, rfl⟩) (by rfl) (by first | rfl | (simp; done) | (simp [ints, prs]; done)) (by rfl) (by first | rfl | (simp; done) | (simp [ints, prs]; done)))

theorem evmk_e (n b p t : Nat) (hn : n ≤ 4) (hb : b < 65536) (hp : p ≤ 4) (ht : t < 65536) (hp1 : 1 ≤ p) (hl : ∀ j, j < ([] : List Nat).length → ([] : List Nat).getD j 0 < 65536) (hll : ([] : List Nat).length ≤ 65536) : ∀ (m : Nat) (s : List Nat), s.length + m = n →
    Ev cx 117 [.agg [.int .i64 n, .int .i64 b], .int .i64 p, .nils, .sl 0 0 p, .int .i64 (s.length : Nat), .bfn 141 [.agg [.int .i64 p, .int .i64 t]]] [⟨ints (rowsL p (s)), 1, 0, some 0, false⟩] (.bool (chkA (fun v => bt t v == 1) ([] : List Nat) b p m s)) [⟨ints (rowsL p (s)), 1, 0, some 0, false⟩]
  | 0, s, hs => by
    obtain ⟨g1, g2, g3, g4⟩ := shN hp
    have lp := lpmk0_e n b p t s hn hb hp ht hp1 hl hll (by omega)
    have hv := valS_lt b p s
    rw [show pk (fun q => bt b (rowS s q)) p = valS b p s from rfl] at lp
    have he := ev141 p t (valS b p s) (by omega) (by omega)
    have hq : (((s.length : Nat) : Int) == (n : Nat)) = true := by rw [ieq]; simp; omega
    refine has117.eev rfl rfl ?_
    unfold m117
    repeat' (first
      | refine sc_loop lp rfl rfl ⟨rfl, rfl, rfl⟩ rfl rfl rfl ?_
      | (refine g_op ?_; first
        | refine ep_mov rfl ?_ | refine ep_load1 rfl rfl rfl rfl ?_ | refine ep_fieldAddr rfl ?_
        | refine sp_callv rfl rfl rfl rfl rfl rfl (by first | exact he) ⟨rfl, rfl, rfl, rfl⟩ rfl rfl rfl ?_
        | refine sp_callb rfl rfl rfl rfl rfl rfl (by first | exact he) ⟨rfl, rfl, rfl, rfl⟩ rfl rfl rfl ?_
        | refine ep_bin rfl rfl (by first | exact b_add (by omega) (by omega) | exact b_sub (by omega) (by omega) | exact b_and (by omega) (by omega) | exact b_or (by omega) (by omega) | exact b_shr (by omega) | exact b_shl (by omega) (by omega) | exact b_lss | exact b_leq | exact b_gtr | exact b_geq | exact b_eql | exact b_neq) ?_
        | refine ep_lenS rfl ?_ | refine ep_lenN rfl ?_ | refine ep_lenE rfl ?_ | refine sp_box rfl rfl rfl rfl rfl ?_)
      | (refine g_ops ?_; first | refine eo_none ?_ | refine eo_nil ?_)
      | (refine g_code ?_; first | refine ec_seq ?_ | refine ec_region ?_ | refine ec_block ?_ | refine ec_skip ?_ | refine ec_ret ?_ | refine ec_condT rfl ?_ | refine ec_condF rfl ?_ | refine ec_condTH rfl (by assumption) ?_ | refine ec_condFH rfl (by assumption) ?_)
      | refine ek_seqN ?_ | refine ek_seqX ?_ | refine ek_seqR ?_ | refine ek_blkN ?_ | refine ek_blkR ?_ | refine ek_blkX ?_ | refine ek_blkY rfl ?_)
    refine sfin (.inr rfl) (by rfl) (by rfl) (by exact ⟨rfl, rfl, rfl⟩) (by rfl) (by rfl) (by rfl) (by first | rfl | (simp; done) | (simp [ints, prs]; done))
  | m + 1, s, hs => by
    have hq : (((s.length : Nat) : Int) == (n : Nat)) = false := by rw [ieq]; simp; omega
    rw [show chkA (fun v => bt t v == 1) ([] : List Nat) b p (m + 1) s = true from rfl]
    have lp := lpmk1e n b p t s
    refine has117.eev rfl rfl ?_
    unfold m117
    repeat' (first
      | refine sc_loop lp rfl rfl ⟨rfl, rfl, rfl⟩ rfl rfl rfl ?_
      | (refine g_op ?_; first
        | refine ep_mov rfl ?_ | refine ep_load1 rfl rfl rfl rfl ?_ | refine ep_fieldAddr rfl ?_
        | refine ep_bin rfl rfl (by first | exact b_add (by omega) (by omega) | exact b_sub (by omega) (by omega) | exact b_and (by omega) (by omega) | exact b_or (by omega) (by omega) | exact b_shr (by omega) | exact b_shl (by omega) (by omega) | exact b_lss | exact b_leq | exact b_gtr | exact b_geq | exact b_eql | exact b_neq) ?_
        | refine ep_lenS rfl ?_ | refine ep_lenN rfl ?_ | refine ep_lenE rfl ?_ | refine sp_box rfl rfl rfl rfl rfl ?_)
      | (refine g_ops ?_; first | refine eo_none ?_ | refine eo_nil ?_)
      | (refine g_code ?_; first | refine ec_seq ?_ | refine ec_region ?_ | refine ec_block ?_ | refine ec_skip ?_ | refine ec_ret ?_ | refine ec_condT rfl ?_ | refine ec_condF rfl ?_ | refine ec_condTH rfl (by assumption) ?_ | refine ec_condFH rfl (by assumption) ?_)
      | refine ek_seqN ?_ | refine ek_seqX ?_ | refine ek_seqR ?_ | refine ek_blkN ?_ | refine ek_blkR ?_ | refine ek_blkX ?_ | refine ek_blkY rfl ?_)
    refine sfin (.inr rfl) (by rfl) (by rfl) (by exact ⟨rfl, rfl, rfl⟩) (by rfl) (by rfl) (by rfl) (by first | rfl | (simp; done) | (simp [ints, prs]; done))

theorem evmk_c (n b p t : Nat) (y : Nat) (ys : List Nat) (hn : n ≤ 4) (hb : b < 65536) (hp : p ≤ 4) (ht : t < 65536) (hp1 : 1 ≤ p) (hl : ∀ j, j < (y :: ys).length → (y :: ys).getD j 0 < 65536) (hll : (y :: ys).length ≤ 65536) : ∀ (m : Nat) (s : List Nat), s.length + m = n →
    Ev cx 117 [.agg [.int .i64 n, .int .i64 b], .int .i64 p, .sl 0 0 (y :: ys).length, .sl 1 0 p, .int .i64 (s.length : Nat), .bfn 141 [.agg [.int .i64 p, .int .i64 t]]] [⟨ints (y :: ys), 1, 0, some 0, false⟩, ⟨ints (rowsL p (s)), 1, 1, some 0, false⟩] (.bool (chkA (fun v => bt t v == 1) (y :: ys) b p m s)) [⟨ints (y :: ys), 1, 0, some 0, false⟩, ⟨ints (rowsL p (s)), 1, 1, some 0, false⟩]
  | 0, s, hs => by
    obtain ⟨g1, g2, g3, g4⟩ := shN hp
    have lp := lpmk0_c n b p t y ys s hn hb hp ht hp1 hl hll (by omega)
    have hv := valS_lt b p s
    rw [show pk (fun q => bt b (rowS s q)) p = valS b p s from rfl] at lp
    have he := ev141 p t (valS b p s) (by omega) (by omega)
    have hq : (((s.length : Nat) : Int) == (n : Nat)) = true := by rw [ieq]; simp; omega
    refine has117.eev rfl rfl ?_
    unfold m117
    repeat' (first
      | refine sc_loop lp rfl rfl ⟨rfl, rfl, rfl⟩ rfl rfl rfl ?_
      | (refine g_op ?_; first
        | refine ep_mov rfl ?_ | refine ep_load1 rfl rfl rfl rfl ?_ | refine ep_fieldAddr rfl ?_
        | refine sp_callv rfl rfl rfl rfl rfl rfl (by first | exact he) ⟨rfl, rfl, rfl, rfl⟩ rfl rfl rfl ?_
        | refine sp_callb rfl rfl rfl rfl rfl rfl (by first | exact he) ⟨rfl, rfl, rfl, rfl⟩ rfl rfl rfl ?_
        | refine ep_bin rfl rfl (by first | exact b_add (by omega) (by omega) | exact b_sub (by omega) (by omega) | exact b_and (by omega) (by omega) | exact b_or (by omega) (by omega) | exact b_shr (by omega) | exact b_shl (by omega) (by omega) | exact b_lss | exact b_leq | exact b_gtr | exact b_geq | exact b_eql | exact b_neq) ?_
        | refine ep_lenS rfl ?_ | refine ep_lenN rfl ?_ | refine ep_lenE rfl ?_ | refine sp_box rfl rfl rfl rfl rfl ?_)
      | (refine g_ops ?_; first | refine eo_none ?_ | refine eo_nil ?_)
      | (refine g_code ?_; first | refine ec_seq ?_ | refine ec_region ?_ | refine ec_block ?_ | refine ec_skip ?_ | refine ec_ret ?_ | refine ec_condT rfl ?_ | refine ec_condF rfl ?_ | refine ec_condTH rfl (by assumption) ?_ | refine ec_condFH rfl (by assumption) ?_)
      | refine ek_seqN ?_ | refine ek_seqX ?_ | refine ek_seqR ?_ | refine ek_blkN ?_ | refine ek_blkR ?_ | refine ek_blkX ?_ | refine ek_blkY rfl ?_)
    refine sfin (.inr rfl) (by rfl) (by rfl) (by exact ⟨rfl, rfl, rfl⟩) (by rfl) (by rfl) (by rfl) (by first | rfl | (simp; done) | (simp [ints, prs]; done))
  | m + 1, s, hs => by
    have hq : (((s.length : Nat) : Int) == (n : Nat)) = false := by rw [ieq]; simp; omega
    have lp0 := fun o => lpmk1 n b p t y ys m s hn hb hp ht hp1 hl hll (by omega) (fun x hx => by have := evmk_c n b p t y ys hn hb hp ht hp1 hl hll m (s ++ [x]) (by simp; omega); rwa [List.length_append, List.length_singleton] at this) o
    cases h : chkA (fun v => bt t v == 1) (y :: ys) b p (m + 1) s
    · have lp := lp0 _ (if_neg (by rw [show allF (fun j => chkA (fun v => bt t v == 1) (y :: ys) b p m (s ++ [(y :: ys).getD j 0])) 0 (y :: ys).length = _ from h]; simp))
      refine has117.eev rfl rfl ?_
      unfold m117
      repeat' (first
        | refine sc_loop lp rfl rfl ⟨rfl, rfl, rfl⟩ rfl rfl rfl ?_
        | (refine g_op ?_; first
          | refine ep_mov rfl ?_ | refine ep_load1 rfl rfl rfl rfl ?_ | refine ep_fieldAddr rfl ?_
          | refine ep_bin rfl rfl (by first | exact b_add (by omega) (by omega) | exact b_sub (by omega) (by omega) | exact b_and (by omega) (by omega) | exact b_or (by omega) (by omega) | exact b_shr (by omega) | exact b_shl (by omega) (by omega) | exact b_lss | exact b_leq | exact b_gtr | exact b_geq | exact b_eql | exact b_neq) ?_
          | refine ep_lenS rfl ?_ | refine ep_lenN rfl ?_ | refine ep_lenE rfl ?_ | refine sp_box rfl rfl rfl rfl rfl ?_)
        | (refine g_ops ?_; first | refine eo_none ?_ | refine eo_nil ?_)
        | (refine g_code ?_; first | refine ec_seq ?_ | refine ec_region ?_ | refine ec_block ?_ | refine ec_skip ?_ | refine ec_ret ?_ | refine ec_condT rfl ?_ | refine ec_condF rfl ?_ | refine ec_condTH rfl (by assumption) ?_ | refine ec_condFH rfl (by assumption) ?_)
        | refine ek_seqN ?_ | refine ek_seqX ?_ | refine ek_seqR ?_ | refine ek_blkN ?_ | refine ek_blkR ?_ | refine ek_blkX ?_ | refine ek_blkY rfl ?_)
      refine sfin (.inr rfl) (by rfl) (by rfl) (by exact ⟨rfl, rfl, rfl⟩) (by rfl) (by rfl) (by rfl) (by first | rfl | (simp; done) | (simp [ints, prs]; done))
    · have lp := lp0 _ (if_pos h)
      refine has117.eev rfl rfl ?_
      unfold m117
      repeat' (first
        | refine sc_loop lp rfl rfl ⟨rfl, rfl, rfl⟩ rfl rfl rfl ?_
        | (refine g_op ?_; first
          | refine ep_mov rfl ?_ | refine ep_load1 rfl rfl rfl rfl ?_ | refine ep_fieldAddr rfl ?_
          | refine ep_bin rfl rfl (by first | exact b_add (by omega) (by omega) | exact b_sub (by omega) (by omega) | exact b_and (by omega) (by omega) | exact b_or (by omega) (by omega) | exact b_shr (by omega) | exact b_shl (by omega) (by omega) | exact b_lss | exact b_leq | exact b_gtr | exact b_geq | exact b_eql | exact b_neq) ?_
          | refine ep_lenS rfl ?_ | refine ep_lenN rfl ?_ | refine ep_lenE rfl ?_ | refine sp_box rfl rfl rfl rfl rfl ?_)
        | (refine g_ops ?_; first | refine eo_none ?_ | refine eo_nil ?_)
        | (refine g_code ?_; first | refine ec_seq ?_ | refine ec_region ?_ | refine ec_block ?_ | refine ec_skip ?_ | refine ec_ret ?_ | refine ec_condT rfl ?_ | refine ec_condF rfl ?_ | refine ec_condTH rfl (by assumption) ?_ | refine ec_condFH rfl (by assumption) ?_)
        | refine ek_seqN ?_ | refine ek_seqX ?_ | refine ek_seqR ?_ | refine ek_blkN ?_ | refine ek_blkR ?_ | refine ek_blkX ?_ | refine ek_blkY rfl ?_)
      refine sfin (.inr rfl) (by rfl) (by rfl) (by exact ⟨rfl, rfl, rfl⟩) (by rfl) (by rfl) (by rfl) (by first | rfl | (simp; done) | (simp [ints, prs]; done))

def keepB (n b p t : Nat) : Bool := chkA (fun v => bt t v == 1) (tupL p t) b p n []
-- spec.l06Value
def m113_1 : MC := (.seq (.seq (.region [⟨(.mov (.t 10)), (some 16), none⟩, ⟨(.mov (.t 1)), (some 17), none⟩, ⟨(.len (.t 17)), (some 18), none⟩, ⟨(.bin .lss (.t 16) (.t 18)), (some 19), none⟩] false) (.cond (.t 19) .skip (.exit 2))) (.seq (.block 3 (.region [⟨(.mov (.t 9)), (some 22), none⟩, ⟨(.mov (.t 1)), (some 23), none⟩, ⟨(.mov (.t 10)), (some 24), none⟩, ⟨(.indexAddr 1 (.t 23) (.t 24)), (some 25), none⟩, ⟨(.load none (.t 25)), (some 26), none⟩, ⟨(.mov (.t 8)), (some 27), none⟩, ⟨(.conv .u64 (.t 27)), (some 28), none⟩, ⟨(.bin .shr (.t 26) (.t 28)), (some 29), none⟩, ⟨(.bin .and (.t 29) (.k (.int .i64 1))), (some 30), none⟩, ⟨(.mov (.t 10)), (some 31), none⟩, ⟨(.conv .u64 (.t 31)), (some 32), none⟩, ⟨(.bin .shl (.t 30) (.t 32)), (some 33), none⟩, ⟨(.bin .or (.t 22) (.t 33)), (some 34), none⟩, ⟨(.mov (.t 34)), (some 9), none⟩] false)) (.region [⟨(.mov (.t 10)), (some 20), none⟩, ⟨(.bin .add (.t 20) (.k (.int .i64 1))), (some 21), none⟩, ⟨(.mov (.t 21)), (some 10), none⟩] false)))
def m113_0 : MC := (.seq (.seq (.region [⟨(.mov (.t 8)), (some 11), none⟩, ⟨(.mov (.t 2)), (some 12), none⟩, ⟨(.bin .lss (.t 11) (.t 12)), (some 13), none⟩] false) (.cond (.t 13) .skip (.exit 0))) (.seq (.block 1 (.seq (.region [⟨(.mov (.k (.int .i64 0))), (some 9), none⟩] false) (.seq (.seq (.region [⟨(.mov (.k (.int .i64 0))), (some 10), none⟩] false) (.block 2 (.loop m113_1))) (.region [⟨(.mov (.t 7)), (some 35), none⟩, ⟨(.load (some 2) (.t 3)), (some 36), none⟩, ⟨(.mov (.t 9)), (some 37), none⟩, ⟨(.call 57 [(.t 36), (.t 37)]), (some 38), none⟩, ⟨(.mov (.t 8)), (some 39), none⟩, ⟨(.conv .u64 (.t 39)), (some 40), none⟩, ⟨(.bin .shl (.t 38) (.t 40)), (some 41), none⟩, ⟨(.bin .or (.t 35) (.t 41)), (some 42), none⟩, ⟨(.mov (.t 42)), (some 7), none⟩] false)))) (.region [⟨(.mov (.t 8)), (some 14), none⟩, ⟨(.bin .add (.t 14) (.k (.int .i64 1))), (some 15), none⟩, ⟨(.mov (.t 15)), (some 8), none⟩] false)))
def m113 : MC := (.seq (.region [⟨(.box (.t 0)), (some 3), none⟩, ⟨(.mov (.k (.int .i64 0))), (some 6), none⟩] false) (.seq (.region [⟨(.mov (.k (.int .i64 0))), (some 7), none⟩] false) (.seq (.seq (.region [⟨(.mov (.k (.int .i64 0))), (some 8), none⟩] false) (.block 0 (.loop m113_0))) (.seq (.region [⟨(.mov (.t 7)), (some 43), none⟩, ⟨(.mov (.t 43)), (some 6), none⟩] false) .ret))))
theorem has113 : Has cx 113 44 m113 [(.tmp 6)] :=
  ⟨⟨Try.f113, Try.f113.body.getD .skip, by kernel_rfl, by kernel_rfl, by kernel_rfl, by kernel_rfl, by kernel_rfl, by kernel_rfl⟩⟩
theorem lpva1_e (n b p : Nat) (hn : n ≤ 4) (hb : b < 65536) (hp : p ≤ 4) (hs0 : ([] : List Nat).length = n) (u : Nat) (hu : u < p) :
    LpS cx 44 0 m113_1 [(1, .emp), (2, .int .i64 (p : Nat)), (3, .ptr 0 0), (7, .int .i64 (pk (fun q => bt b (rowS ([] : List Nat) q)) u : Nat)), (8, .int .i64 (u : Nat)), (9, .int .i64 (pk (fun i => bt (([] : List Nat).getD i 0) u) (0) : Nat)), (10, .int .i64 (0 : Nat))] [⟨[.int .i64 n, .int .i64 b], 1, 0, some 0, true⟩] (⟨.exit 2, [(1, .emp), (2, .int .i64 (p : Nat)), (3, .ptr 0 0), (7, .int .i64 (pk (fun q => bt b (rowS ([] : List Nat) q)) u : Nat)), (8, .int .i64 (u : Nat)), (9, .int .i64 (pk (fun i => bt (([] : List Nat).getD i 0) u) (([] : List Nat).length) : Nat))], [⟨[.int .i64 n, .int .i64 b], 1, 0, some 0, true⟩]⟩ : Out).x (⟨.exit 2, [(1, .emp), (2, .int .i64 (p : Nat)), (3, .ptr 0 0), (7, .int .i64 (pk (fun q => bt b (rowS ([] : List Nat) q)) u : Nat)), (8, .int .i64 (u : Nat)), (9, .int .i64 (pk (fun i => bt (([] : List Nat).getD i 0) u) (([] : List Nat).length) : Nat))], [⟨[.int .i64 n, .int .i64 b], 1, 0, some 0, true⟩]⟩ : Out).e (⟨.exit 2, [(1, .emp), (2, .int .i64 (p : Nat)), (3, .ptr 0 0), (7, .int .i64 (pk (fun q => bt b (rowS ([] : List Nat) q)) u : Nat)), (8, .int .i64 (u : Nat)), (9, .int .i64 (pk (fun i => bt (([] : List Nat).getD i 0) u) (([] : List Nat).length) : Nat))], [⟨[.int .i64 n, .int .i64 b], 1, 0, some 0, true⟩]⟩ : Out).h := by
  obtain ⟨h1, h2, h3, h4⟩ := shN hn
  refine lp_st (([] : List Nat).length) (fun _ => ()) (fun i _ => [(1, .emp), (2, .int .i64 (p : Nat)), (3, .ptr 0 0), (7, .int .i64 (pk (fun q => bt b (rowS ([] : List Nat) q)) u : Nat)), (8, .int .i64 (u : Nat)), (9, .int .i64 (pk (fun i => bt (([] : List Nat).getD i 0) u) (i) : Nat)), (10, .int .i64 (i : Nat))]) (fun i _ => [⟨[.int .i64 n, .int .i64 b], 1, 0, some 0, true⟩]) (fun _ => (⟨.exit 2, [(1, .emp), (2, .int .i64 (p : Nat)), (3, .ptr 0 0), (7, .int .i64 (pk (fun q => bt b (rowS ([] : List Nat) q)) u : Nat)), (8, .int .i64 (u : Nat)), (9, .int .i64 (pk (fun i => bt (([] : List Nat).getD i 0) u) (([] : List Nat).length) : Nat))], [⟨[.int .i64 n, .int .i64 b], 1, 0, some 0, true⟩]⟩ : Out)) ?_ ?_ (([] : List Nat).length) 0 (by omega)
  · intro i u_ hi hu_
    refine ⟨(), rfl, ?_⟩
    exact absurd hi (by simp)
  · intro u_ hu_
    have hlt : decide (((([] : List Nat).length : Nat) : Int) < (([] : List Nat).length : Nat)) = false := decide_eq_false (by omega)
    unfold m113_1
    repeat' (first
      | (refine g_op ?_; first
        | refine ep_mov rfl ?_ | refine ep_load1 rfl rfl rfl rfl ?_
        | refine ep_bin rfl rfl (by first | exact b_add (by omega) (by omega) | exact b_sub (by omega) (by omega) | exact b_and (by omega) (by omega) | exact b_or (by omega) (by omega) | exact b_shr (by omega) | exact b_shl (by omega) (by omega) | exact b_lss | exact b_leq | exact b_gtr | exact b_geq | exact b_eql | exact b_neq) ?_
        | refine ep_conv rfl (by first | exact w_u64 (by omega) (by omega) | exact wrap_id (by omega) (by omega) | rfl) ?_ | refine ep_lenS rfl ?_ | refine ep_lenN rfl ?_ | refine ep_lenE rfl ?_ | refine sp_idx rfl rfl rfl (by omega) rfl ?_
        | refine ep_loadS rfl rfl rfl (by first | exact ints_get (by omega) | exact zints_get (by omega) | exact fget (by omega) | assumption) ?_)
      | (refine g_ops ?_; first | refine eo_none ?_ | refine eo_nil ?_)
      | (refine g_code ?_; first | refine ec_seq ?_ | refine ec_region ?_ | refine ec_block ?_ | refine ec_skip ?_ | refine ec_exit ?_ | refine ec_condT rfl ?_ | refine ec_condF rfl ?_ | refine ec_condTH rfl (by assumption) ?_ | refine ec_condFH rfl (by assumption) ?_)
      | refine ek_seqN ?_ | refine ek_seqX ?_ | refine ek_blkN ?_ | refine ek_blkR ?_ | refine ek_blkX ?_ | refine ek_blkY rfl ?_)
    exact rnd_out (by rfl) (by simp) (scmp2 (by rfl) (by rfl) (by exact ⟨rfl, rfl, rfl⟩) (by rfl) (by first | rfl | (simp; done) | (simp [ints, prs]; done)) (by rfl) (by first | rfl | (simp; done) | (simp [ints, prs]; done)))
theorem lpva0_e (n b p : Nat) (hn : n ≤ 4) (hb : b < 65536) (hp : p ≤ 4) (hs0 : ([] : List Nat).length = n) :
    LpS cx 44 0 m113_0 [(1, .emp), (2, .int .i64 (p : Nat)), (3, .ptr 0 0), (7, .int .i64 (pk (fun q => bt b (rowS ([] : List Nat) q)) (0) : Nat)), (8, .int .i64 (0 : Nat))] [⟨[.int .i64 n, .int .i64 b], 1, 0, some 0, true⟩] (⟨.exit 0, [(7, .int .i64 (pk (fun q => bt b (rowS ([] : List Nat) q)) (p) : Nat))], []⟩ : Out).x (⟨.exit 0, [(7, .int .i64 (pk (fun q => bt b (rowS ([] : List Nat) q)) (p) : Nat))], []⟩ : Out).e (⟨.exit 0, [(7, .int .i64 (pk (fun q => bt b (rowS ([] : List Nat) q)) (p) : Nat))], []⟩ : Out).h := by
  obtain ⟨h1, h2, h3, h4⟩ := shN hn
  obtain ⟨g1, g2, g3, g4⟩ := shN hp
  refine lp_st (p) (fun _ => ()) (fun i _ => [(1, .emp), (2, .int .i64 (p : Nat)), (3, .ptr 0 0), (7, .int .i64 (pk (fun q => bt b (rowS ([] : List Nat) q)) (i) : Nat)), (8, .int .i64 (i : Nat))]) (fun i _ => [⟨[.int .i64 n, .int .i64 b], 1, 0, some 0, true⟩]) (fun _ => (⟨.exit 0, [(7, .int .i64 (pk (fun q => bt b (rowS ([] : List Nat) q)) (p) : Nat))], []⟩ : Out)) ?_ ?_ (p) 0 (by omega)
  · intro i u_ hi hu_
    refine ⟨(), rfl, ?_⟩
    have hlt : decide ((i : Int) < (p : Nat)) = true := decide_eq_true (by omega)
    have lp := lpva1_e n b p hn hb hp hs0 i hi
    rw [show pk (fun j => bt (([] : List Nat).getD j 0) i) ([] : List Nat).length = rowS ([] : List Nat) i from rfl, show pk (fun j => bt (([] : List Nat).getD j 0) i) 0 = 0 from rfl] at lp
    have hr := rowS_lt ([] : List Nat) i
    rw [hs0] at hr
    have hb1 := bt_le b (rowS ([] : List Nat) i)
    have hs1 := sl_lt hb1 hi
    have hp0 := pk_lt (g := fun q => bt b (rowS ([] : List Nat) q)) (n := i) fun r _ => bt_le _ _
    have hp2 := R2_mono (i := i) (n := p) (by omega)
    unfold m113_0
    repeat' (first
      | refine sc_loop lp rfl rfl ⟨rfl, rfl, rfl⟩ rfl rfl rfl ?_
      | (refine g_op ?_; first
        | refine ep_mov rfl ?_ | refine sp_loadN rfl rfl rfl rfl rfl ?_
        | refine ep_call0 rfl (by first | exact ev57 n b (rowS ([] : List Nat) i) (by omega) (by omega)) rfl rfl ?_
        | refine sp_call rfl rfl rfl rfl (by first | exact ev57 n b (rowS ([] : List Nat) i) (by omega) (by omega)) ⟨rfl, rfl, rfl, rfl⟩ rfl rfl rfl ?_
        | refine ep_bin rfl rfl (by first | exact b_shl (x := bt b (rowS ([] : List Nat) i)) (by omega) (by omega) | exact b_add (by omega) (by omega) | exact b_sub (by omega) (by omega) | exact b_and (by omega) (by omega) | exact b_or (by omega) (by omega) | exact b_shr (by omega) | exact b_shl (by omega) (by omega) | exact b_lss | exact b_leq | exact b_gtr | exact b_geq | exact b_eql | exact b_neq) ?_
        | refine ep_conv rfl (by first | exact w_u64 (by omega) (by omega) | exact wrap_id (by omega) (by omega) | rfl) ?_)
      | (refine g_ops ?_; first | refine eo_none ?_ | refine eo_nil ?_)
      | (refine g_code ?_; first | refine ec_seq ?_ | refine ec_region ?_ | refine ec_block ?_ | refine ec_skip ?_ | refine ec_exit ?_ | refine ec_condT rfl ?_ | refine ec_condF rfl ?_ | refine ec_condTH rfl (by assumption) ?_ | refine ec_condFH rfl (by assumption) ?_)
      | refine ek_seqN ?_ | refine ek_seqX ?_ | refine ek_seqR ?_ | refine ek_blkN ?_ | refine ek_blkR ?_ | refine ek_blkX ?_ | refine ek_blkY rfl ?_)
    exact rnd_on (by rfl) (scmp2 (by rfl) (by rfl) (by exact ⟨rfl, rfl, rfl⟩) (by rfl) (by first | rfl | (simp; done) | (simp [ints, prs]; done)) (by rfl) (by first | rfl | (simp; done) | (simp [ints, prs]; done)))
  · intro u_ hu_
    have hlt : decide (((p : Nat) : Int) < (p : Nat)) = false := decide_eq_false (by omega)
    unfold m113_0
    repeat' (first
      | (refine g_op ?_; first
        | refine ep_mov rfl ?_ | refine sp_loadN rfl rfl rfl rfl rfl ?_
        | refine ep_bin rfl rfl (by first | exact b_add (by omega) (by omega) | exact b_sub (by omega) (by omega) | exact b_and (by omega) (by omega) | exact b_or (by omega) (by omega) | exact b_shr (by omega) | exact b_shl (by omega) (by omega) | exact b_lss | exact b_leq | exact b_gtr | exact b_geq | exact b_eql | exact b_neq) ?_
        | refine ep_conv rfl (by first | exact w_u64 (by omega) (by omega) | exact wrap_id (by omega) (by omega) | rfl) ?_)
      | (refine g_ops ?_; first | refine eo_none ?_ | refine eo_nil ?_)
      | (refine g_code ?_; first | refine ec_seq ?_ | refine ec_region ?_ | refine ec_block ?_ | refine ec_skip ?_ | refine ec_exit ?_ | refine ec_condT rfl ?_ | refine ec_condF rfl ?_ | refine ec_condTH rfl (by assumption) ?_ | refine ec_condFH rfl (by assumption) ?_)
      | refine ek_seqN ?_ | refine ek_seqX ?_ | refine ek_seqR ?_ | refine ek_blkN ?_ | refine ek_blkR ?_ | refine ek_blkX ?_ | refine ek_blkY rfl ?_)
    exact rnd_out (by rfl) (by simp) (scmp2 (by rfl) (by rfl) (by exact ⟨rfl, rfl, rfl⟩) (by rfl) (by first | rfl | (simp; done) | (simp [ints, prs]; done)) (by rfl) (by first | rfl | (simp; done) | (simp [ints, prs]; done)))
theorem evva_e (n b p : Nat) (hn : n ≤ 4) (hb : b < 65536) (hp : p ≤ 4) (hs0 : ([] : List Nat).length = n) : Ev cx 113 [.agg [.int .i64 n, .int .i64 b], .emp, .int .i64 p] [] (.int .i64 (valS b p ([] : List Nat) : Nat)) [] := by
  have lp := lpva0_e n b p hn hb hp hs0
  refine has113.eev rfl rfl ?_
  unfold m113
  repeat' (first
    | refine sc_loop lp rfl rfl ⟨rfl, rfl, rfl⟩ rfl rfl rfl ?_
    | (refine g_op ?_; first
      | refine ep_mov rfl ?_
      | refine sp_box rfl rfl rfl rfl rfl ?_)
    | (refine g_ops ?_; first | refine eo_none ?_ | refine eo_nil ?_)
    | (refine g_code ?_; first | refine ec_seq ?_ | refine ec_region ?_ | refine ec_block ?_ | refine ec_ret ?_)
    | refine ek_seqN ?_ | refine ek_seqX ?_ | refine ek_seqR ?_ | refine ek_blkN ?_ | refine ek_blkR ?_ | refine ek_blkX ?_ | refine ek_blkY rfl ?_)
  refine sfin (.inr rfl) (by rfl) (by rfl) (by exact ⟨rfl, rfl, rfl⟩) (by rfl) (by rfl) (by rfl) (by first | rfl | (simp; done) | (simp [ints, prs]; done))

theorem lpva1_c (n b p q0 x : Nat) (xs : List Nat) (hs : ∀ j, j < (x :: xs).length → (x :: xs).getD j 0 < 65536) (hn : n ≤ 4) (hb : b < 65536) (hp : p ≤ 4) (hs0 : (x :: xs).length = n) (u : Nat) (hu : u < p) :
    LpS cx 44 1 m113_1 [(1, .sl 0 0 (x :: xs).length), (2, .int .i64 (p : Nat)), (3, .ptr 1 0), (7, .int .i64 (pk (fun q => bt b (rowS (x :: xs) q)) u : Nat)), (8, .int .i64 (u : Nat)), (9, .int .i64 (pk (fun i => bt ((x :: xs).getD i 0) u) (0) : Nat)), (10, .int .i64 (0 : Nat))] [⟨ints (x :: xs), 1, 0, some q0, false⟩, ⟨[.int .i64 n, .int .i64 b], 1, 1, some 0, true⟩] (⟨.exit 2, [(1, .sl 0 0 (x :: xs).length), (2, .int .i64 (p : Nat)), (3, .ptr 1 0), (7, .int .i64 (pk (fun q => bt b (rowS (x :: xs) q)) u : Nat)), (8, .int .i64 (u : Nat)), (9, .int .i64 (pk (fun i => bt ((x :: xs).getD i 0) u) ((x :: xs).length) : Nat))], [⟨ints (x :: xs), 1, 0, some q0, false⟩, ⟨[.int .i64 n, .int .i64 b], 1, 1, some 0, true⟩]⟩ : Out).x (⟨.exit 2, [(1, .sl 0 0 (x :: xs).length), (2, .int .i64 (p : Nat)), (3, .ptr 1 0), (7, .int .i64 (pk (fun q => bt b (rowS (x :: xs) q)) u : Nat)), (8, .int .i64 (u : Nat)), (9, .int .i64 (pk (fun i => bt ((x :: xs).getD i 0) u) ((x :: xs).length) : Nat))], [⟨ints (x :: xs), 1, 0, some q0, false⟩, ⟨[.int .i64 n, .int .i64 b], 1, 1, some 0, true⟩]⟩ : Out).e (⟨.exit 2, [(1, .sl 0 0 (x :: xs).length), (2, .int .i64 (p : Nat)), (3, .ptr 1 0), (7, .int .i64 (pk (fun q => bt b (rowS (x :: xs) q)) u : Nat)), (8, .int .i64 (u : Nat)), (9, .int .i64 (pk (fun i => bt ((x :: xs).getD i 0) u) ((x :: xs).length) : Nat))], [⟨ints (x :: xs), 1, 0, some q0, false⟩, ⟨[.int .i64 n, .int .i64 b], 1, 1, some 0, true⟩]⟩ : Out).h := by
  obtain ⟨h1, h2, h3, h4⟩ := shN hn
  refine lp_st ((x :: xs).length) (fun _ => ()) (fun i _ => [(1, .sl 0 0 (x :: xs).length), (2, .int .i64 (p : Nat)), (3, .ptr 1 0), (7, .int .i64 (pk (fun q => bt b (rowS (x :: xs) q)) u : Nat)), (8, .int .i64 (u : Nat)), (9, .int .i64 (pk (fun i => bt ((x :: xs).getD i 0) u) (i) : Nat)), (10, .int .i64 (i : Nat))]) (fun i _ => [⟨ints (x :: xs), 1, 0, some q0, false⟩, ⟨[.int .i64 n, .int .i64 b], 1, 1, some 0, true⟩]) (fun _ => (⟨.exit 2, [(1, .sl 0 0 (x :: xs).length), (2, .int .i64 (p : Nat)), (3, .ptr 1 0), (7, .int .i64 (pk (fun q => bt b (rowS (x :: xs) q)) u : Nat)), (8, .int .i64 (u : Nat)), (9, .int .i64 (pk (fun i => bt ((x :: xs).getD i 0) u) ((x :: xs).length) : Nat))], [⟨ints (x :: xs), 1, 0, some q0, false⟩, ⟨[.int .i64 n, .int .i64 b], 1, 1, some 0, true⟩]⟩ : Out)) ?_ ?_ ((x :: xs).length) 0 (by omega)
  · intro i u_ hi hu_
    refine ⟨(), rfl, ?_⟩
    have hlt : decide ((i : Int) < ((x :: xs).length : Nat)) = true := decide_eq_true (by omega)
    have hx := hs i hi
    have hb1 := bt_le ((x :: xs).getD i 0) u
    have hs1 := sl_lt (i := i) (m := n) hb1 (by omega)
    have hp0 := pk_lt (g := fun i => bt ((x :: xs).getD i 0) u) (n := i) fun r _ => bt_le _ _
    have hp2 := R2_mono (i := i) (n := n) (by omega)
    unfold m113_1
    repeat' (first
      | (refine g_op ?_; first
        | refine ep_mov rfl ?_ | refine ep_load1 rfl rfl rfl rfl ?_
        | refine ep_bin rfl rfl (by first | exact b_shr (x := (x :: xs).getD i 0) (y := u) (by omega) | exact b_bt (by omega) | exact b_shl (x := bt ((x :: xs).getD i 0) u) (by omega) (by omega) | exact b_add (by omega) (by omega) | exact b_sub (by omega) (by omega) | exact b_and (by omega) (by omega) | exact b_or (by omega) (by omega) | exact b_shr (by omega) | exact b_shl (by omega) (by omega) | exact b_lss | exact b_leq | exact b_gtr | exact b_geq | exact b_eql | exact b_neq) ?_
        | refine ep_conv rfl (by first | exact w_u64 (by omega) (by omega) | exact wrap_id (by omega) (by omega) | rfl) ?_ | refine ep_lenS rfl ?_ | refine ep_lenN rfl ?_ | refine ep_lenE rfl ?_ | refine sp_idx rfl rfl rfl (by omega) rfl ?_
        | refine ep_loadS rfl rfl rfl (by first | exact ints_get (by omega) | exact zints_get (by omega) | exact fget (by omega) | assumption) ?_)
      | (refine g_ops ?_; first | refine eo_none ?_ | refine eo_nil ?_)
      | (refine g_code ?_; first | refine ec_seq ?_ | refine ec_region ?_ | refine ec_block ?_ | refine ec_skip ?_ | refine ec_exit ?_ | refine ec_condT rfl ?_ | refine ec_condF rfl ?_ | refine ec_condTH rfl (by assumption) ?_ | refine ec_condFH rfl (by assumption) ?_)
      | refine ek_seqN ?_ | refine ek_seqX ?_ | refine ek_blkN ?_ | refine ek_blkR ?_ | refine ek_blkX ?_ | refine ek_blkY rfl ?_)
    exact rnd_on (by rfl) (scmp2 (by rfl) (by rfl) (by exact ⟨rfl, rfl, rfl⟩) (by rfl) (by first | rfl | (simp; done) | (simp [ints, prs]; done)) (by rfl) (by first | rfl | (simp; done) | (simp [ints, prs]; done)))
  · intro u_ hu_
    have hlt : decide ((((x :: xs).length : Nat) : Int) < ((x :: xs).length : Nat)) = false := decide_eq_false (by omega)
    unfold m113_1
    repeat' (first
      | (refine g_op ?_; first
        | refine ep_mov rfl ?_ | refine ep_load1 rfl rfl rfl rfl ?_
        | refine ep_bin rfl rfl (by first | exact b_add (by omega) (by omega) | exact b_sub (by omega) (by omega) | exact b_and (by omega) (by omega) | exact b_or (by omega) (by omega) | exact b_shr (by omega) | exact b_shl (by omega) (by omega) | exact b_lss | exact b_leq | exact b_gtr | exact b_geq | exact b_eql | exact b_neq) ?_
        | refine ep_conv rfl (by first | exact w_u64 (by omega) (by omega) | exact wrap_id (by omega) (by omega) | rfl) ?_ | refine ep_lenS rfl ?_ | refine ep_lenN rfl ?_ | refine ep_lenE rfl ?_ | refine sp_idx rfl rfl rfl (by omega) rfl ?_
        | refine ep_loadS rfl rfl rfl (by first | exact ints_get (by omega) | exact zints_get (by omega) | exact fget (by omega) | assumption) ?_)
      | (refine g_ops ?_; first | refine eo_none ?_ | refine eo_nil ?_)
      | (refine g_code ?_; first | refine ec_seq ?_ | refine ec_region ?_ | refine ec_block ?_ | refine ec_skip ?_ | refine ec_exit ?_ | refine ec_condT rfl ?_ | refine ec_condF rfl ?_ | refine ec_condTH rfl (by assumption) ?_ | refine ec_condFH rfl (by assumption) ?_)
      | refine ek_seqN ?_ | refine ek_seqX ?_ | refine ek_blkN ?_ | refine ek_blkR ?_ | refine ek_blkX ?_ | refine ek_blkY rfl ?_)
    exact rnd_out (by rfl) (by simp) (scmp2 (by rfl) (by rfl) (by exact ⟨rfl, rfl, rfl⟩) (by rfl) (by first | rfl | (simp; done) | (simp [ints, prs]; done)) (by rfl) (by first | rfl | (simp; done) | (simp [ints, prs]; done)))
theorem lpva0_c (n b p q0 x : Nat) (xs : List Nat) (hs : ∀ j, j < (x :: xs).length → (x :: xs).getD j 0 < 65536) (hn : n ≤ 4) (hb : b < 65536) (hp : p ≤ 4) (hs0 : (x :: xs).length = n) :
    LpS cx 44 1 m113_0 [(1, .sl 0 0 (x :: xs).length), (2, .int .i64 (p : Nat)), (3, .ptr 1 0), (7, .int .i64 (pk (fun q => bt b (rowS (x :: xs) q)) (0) : Nat)), (8, .int .i64 (0 : Nat))] [⟨ints (x :: xs), 1, 0, some q0, false⟩, ⟨[.int .i64 n, .int .i64 b], 1, 1, some 0, true⟩] (⟨.exit 0, [(7, .int .i64 (pk (fun q => bt b (rowS (x :: xs) q)) (p) : Nat))], [⟨ints (x :: xs), 1, 0, some q0, false⟩]⟩ : Out).x (⟨.exit 0, [(7, .int .i64 (pk (fun q => bt b (rowS (x :: xs) q)) (p) : Nat))], [⟨ints (x :: xs), 1, 0, some q0, false⟩]⟩ : Out).e (⟨.exit 0, [(7, .int .i64 (pk (fun q => bt b (rowS (x :: xs) q)) (p) : Nat))], [⟨ints (x :: xs), 1, 0, some q0, false⟩]⟩ : Out).h := by
  obtain ⟨h1, h2, h3, h4⟩ := shN hn
  obtain ⟨g1, g2, g3, g4⟩ := shN hp
  refine lp_st (p) (fun _ => ()) (fun i _ => [(1, .sl 0 0 (x :: xs).length), (2, .int .i64 (p : Nat)), (3, .ptr 1 0), (7, .int .i64 (pk (fun q => bt b (rowS (x :: xs) q)) (i) : Nat)), (8, .int .i64 (i : Nat))]) (fun i _ => [⟨ints (x :: xs), 1, 0, some q0, false⟩, ⟨[.int .i64 n, .int .i64 b], 1, 1, some 0, true⟩]) (fun _ => (⟨.exit 0, [(7, .int .i64 (pk (fun q => bt b (rowS (x :: xs) q)) (p) : Nat))], [⟨ints (x :: xs), 1, 0, some q0, false⟩]⟩ : Out)) ?_ ?_ (p) 0 (by omega)
  · intro i u_ hi hu_
    refine ⟨(), rfl, ?_⟩
    have hlt : decide ((i : Int) < (p : Nat)) = true := decide_eq_true (by omega)
    have lp := lpva1_c n b p q0 x xs hs hn hb hp hs0 i hi
    rw [show pk (fun j => bt ((x :: xs).getD j 0) i) (x :: xs).length = rowS (x :: xs) i from rfl, show pk (fun j => bt ((x :: xs).getD j 0) i) 0 = 0 from rfl] at lp
    have hr := rowS_lt (x :: xs) i
    rw [hs0] at hr
    have hb1 := bt_le b (rowS (x :: xs) i)
    have hs1 := sl_lt hb1 hi
    have hp0 := pk_lt (g := fun q => bt b (rowS (x :: xs) q)) (n := i) fun r _ => bt_le _ _
    have hp2 := R2_mono (i := i) (n := p) (by omega)
    unfold m113_0
    repeat' (first
      | refine sc_loop lp rfl rfl ⟨rfl, rfl, rfl⟩ rfl rfl rfl ?_
      | (refine g_op ?_; first
        | refine ep_mov rfl ?_ | refine sp_loadN rfl rfl rfl rfl rfl ?_
        | refine ep_call0 rfl (by first | exact ev57 n b (rowS (x :: xs) i) (by omega) (by omega)) rfl rfl ?_
        | refine sp_call rfl rfl rfl rfl (by first | exact ev57 n b (rowS (x :: xs) i) (by omega) (by omega)) ⟨rfl, rfl, rfl, rfl⟩ rfl rfl rfl ?_
        | refine ep_bin rfl rfl (by first | exact b_shl (x := bt b (rowS (x :: xs) i)) (by omega) (by omega) | exact b_add (by omega) (by omega) | exact b_sub (by omega) (by omega) | exact b_and (by omega) (by omega) | exact b_or (by omega) (by omega) | exact b_shr (by omega) | exact b_shl (by omega) (by omega) | exact b_lss | exact b_leq | exact b_gtr | exact b_geq | exact b_eql | exact b_neq) ?_
        | refine ep_conv rfl (by first | exact w_u64 (by omega) (by omega) | exact wrap_id (by omega) (by omega) | rfl) ?_)
      | (refine g_ops ?_; first | refine eo_none ?_ | refine eo_nil ?_)
      | (refine g_code ?_; first | refine ec_seq ?_ | refine ec_region ?_ | refine ec_block ?_ | refine ec_skip ?_ | refine ec_exit ?_ | refine ec_condT rfl ?_ | refine ec_condF rfl ?_ | refine ec_condTH rfl (by assumption) ?_ | refine ec_condFH rfl (by assumption) ?_)
      | refine ek_seqN ?_ | refine ek_seqX ?_ | refine ek_seqR ?_ | refine ek_blkN ?_ | refine ek_blkR ?_ | refine ek_blkX ?_ | refine ek_blkY rfl ?_)
    exact rnd_on (by rfl) (scmp2 (by rfl) (by rfl) (by exact ⟨rfl, rfl, rfl⟩) (by rfl) (by first | rfl | (simp; done) | (simp [ints, prs]; done)) (by rfl) (by first | rfl | (simp; done) | (simp [ints, prs]; done)))
  · intro u_ hu_
    have hlt : decide (((p : Nat) : Int) < (p : Nat)) = false := decide_eq_false (by omega)
    unfold m113_0
    repeat' (first
      | (refine g_op ?_; first
        | refine ep_mov rfl ?_ | refine sp_loadN rfl rfl rfl rfl rfl ?_
        | refine ep_bin rfl rfl (by first | exact b_add (by omega) (by omega) | exact b_sub (by omega) (by omega) | exact b_and (by omega) (by omega) | exact b_or (by omega) (by omega) | exact b_shr (by omega) | exact b_shl (by omega) (by omega) | exact b_lss | exact b_leq | exact b_gtr | exact b_geq | exact b_eql | exact b_neq) ?_
        | refine ep_conv rfl (by first | exact w_u64 (by omega) (by omega) | exact wrap_id (by omega) (by omega) | rfl) ?_)
      | (refine g_ops ?_; first | refine eo_none ?_ | refine eo_nil ?_)
      | (refine g_code ?_; first | refine ec_seq ?_ | refine ec_region ?_ | refine ec_block ?_ | refine ec_skip ?_ | refine ec_exit ?_ | refine ec_condT rfl ?_ | refine ec_condF rfl ?_ | refine ec_condTH rfl (by assumption) ?_ | refine ec_condFH rfl (by assumption) ?_)
      | refine ek_seqN ?_ | refine ek_seqX ?_ | refine ek_seqR ?_ | refine ek_blkN ?_ | refine ek_blkR ?_ | refine ek_blkX ?_ | refine ek_blkY rfl ?_)
    exact rnd_out (by rfl) (by simp) (scmp2 (by rfl) (by rfl) (by exact ⟨rfl, rfl, rfl⟩) (by rfl) (by first | rfl | (simp; done) | (simp [ints, prs]; done)) (by rfl) (by first | rfl | (simp; done) | (simp [ints, prs]; done)))
theorem evva_c (n b p q0 x : Nat) (xs : List Nat) (hs : ∀ j, j < (x :: xs).length → (x :: xs).getD j 0 < 65536) (hn : n ≤ 4) (hb : b < 65536) (hp : p ≤ 4) (hs0 : (x :: xs).length = n) : Ev cx 113 [.agg [.int .i64 n, .int .i64 b], .sl 0 0 (x :: xs).length, .int .i64 p] [⟨ints (x :: xs), 1, 0, some q0, false⟩] (.int .i64 (valS b p (x :: xs) : Nat)) [⟨ints (x :: xs), 1, 0, some q0, false⟩] := by
  have lp := lpva0_c n b p q0 x xs hs hn hb hp hs0
  refine has113.eev rfl rfl ?_
  unfold m113
  repeat' (first
    | refine sc_loop lp rfl rfl ⟨rfl, rfl, rfl⟩ rfl rfl rfl ?_
    | (refine g_op ?_; first
      | refine ep_mov rfl ?_
      | refine sp_box rfl rfl rfl rfl rfl ?_)
    | (refine g_ops ?_; first | refine eo_none ?_ | refine eo_nil ?_)
    | (refine g_code ?_; first | refine ec_seq ?_ | refine ec_region ?_ | refine ec_block ?_ | refine ec_ret ?_)
    | refine ek_seqN ?_ | refine ek_seqX ?_ | refine ek_seqR ?_ | refine ek_blkN ?_ | refine ek_blkR ?_ | refine ek_blkX ?_ | refine ek_blkY rfl ?_)
  refine sfin (.inr rfl) (by rfl) (by rfl) (by exact ⟨rfl, rfl, rfl⟩) (by rfl) (by rfl) (by rfl) (by first | rfl | (simp; done) | (simp [ints, prs]; done))

-- spec.l01Own
def m114 : MC := (.seq (.region [⟨(.mov (.k .nils)), (some 2), none⟩] false) (.seq (.region [⟨.empt, (some 3), none⟩, ⟨(.mov (.t 0)), (some 4), none⟩, ⟨(.append 1 8 (.t 3) (.t 4)), (some 5), none⟩, ⟨(.mov (.t 5)), (some 2), none⟩] false) .ret))
theorem has114 : Has cx 114 6 m114 [(.tmp 2)] :=
  ⟨⟨Try.f114, Try.f114.body.getD .skip, by kernel_rfl, by kernel_rfl, by kernel_rfl, by kernel_rfl, by kernel_rfl, by kernel_rfl⟩⟩
theorem evow_e : Ev cx 114 [.emp] [] .emp [] := by
  refine has114.eev rfl rfl ?_
  unfold m114
  repeat' (first
    | refine ep_appE rfl (.inr rfl) rfl rfl ?_
    | (refine g_op ?_; first
      | refine ep_mov rfl ?_
      | refine sp_push0 rfl (by first | exact .inl rfl | exact .inr rfl) rfl rfl rfl rfl rfl (by decide) rfl rfl rfl ?_ | refine sp_push rfl rfl rfl rfl rfl rfl rfl (by first | exact ints_len _ | exact prs_len _ _ | exact zints_len _) (by omega) (Nat.zero_le _) rfl rfl rfl rfl rfl ?_
      | refine ep_empt ?_)
    | (refine g_ops ?_; first | refine eo_none ?_ | refine eo_nil ?_)
    | (refine g_code ?_; first | refine ec_seq ?_ | refine ec_region ?_ | refine ec_ret ?_)
    | refine ek_seqN ?_ | refine ek_seqR ?_)
  refine sfin (.inr rfl) (by rfl) (by rfl) (by exact ⟨rfl, rfl, rfl⟩) (by rfl) (by rfl) (by rfl) (by first | rfl | (simp; done) | (simp [ints, prs]; done))
theorem evow_c (q0 : Nat) (l : List Nat) (n : Nat) (hn : l.length = n) (h1 : 1 ≤ n) (h2 : n ≤ 65536) : Ev cx 114 [.sl 0 0 n] [⟨ints l, 1, 0, some q0, false⟩] (.sl 1 0 n) [⟨ints l, 1, 0, some q0, false⟩, ⟨ints l, 1, 1, some 0, false⟩] := by
  have hr : rowOf [⟨ints l, 1, 0, some q0, false⟩] 1 (.sl 0 0 n) = some (ints l, n) := by
    simp only [rowOf, List.getElem?_cons_zero, List.drop_zero, Nat.mul_one]; rw [List.take_of_length_le (by rw [ints_len]; omega)]
  refine has114.eev rfl rfl ?_
  unfold m114
  repeat' (first
    | refine sp_app0 (l := ints l) rfl (.inr rfl) rfl hr ⟨by rw [ints_len]; omega, by omega, by omega⟩ (.inr ⟨0, 0, _, rfl, rfl, rfl⟩) rfl rfl ?_
    | (refine g_op ?_; first
      | refine ep_mov rfl ?_
      | refine sp_push0 rfl (by first | exact .inl rfl | exact .inr rfl) rfl rfl rfl rfl rfl (by decide) rfl rfl rfl ?_ | refine sp_push rfl rfl rfl rfl rfl rfl rfl (by first | exact ints_len _ | exact prs_len _ _ | exact zints_len _) (by omega) (Nat.zero_le _) rfl rfl rfl rfl rfl ?_
      | refine ep_empt ?_)
    | (refine g_ops ?_; first | refine eo_none ?_ | refine eo_nil ?_)
    | (refine g_code ?_; first | refine ec_seq ?_ | refine ec_region ?_ | refine ec_ret ?_)
    | refine ek_seqN ?_ | refine ek_seqR ?_)
  refine sfin (.inr rfl) (by rfl) (by rfl) (by exact ⟨rfl, rfl, rfl⟩) (by rfl) (by rfl) (by rfl) (by first | rfl | (simp; done) | (simp [ints, prs]; done))
-- spec.l06Made
def m71_0 : MC := (.seq (.seq (.region [⟨(.mov (.t 10)), (some 23), none⟩, ⟨(.mov (.t 2)), (some 24), none⟩, ⟨(.len (.t 24)), (some 25), none⟩, ⟨(.bin .lss (.t 23) (.t 25)), (some 26), none⟩] false) (.cond (.t 26) .skip (.exit 0))) (.seq (.block 1 (.regionL [⟨(.mov (.t 9)), (some 29), none⟩, ⟨(.load (some 2) (.t 4)), (some 30), none⟩, ⟨(.load (some 2) (.t 5)), (some 31), none⟩, ⟨(.mov (.t 2)), (some 32), none⟩, ⟨(.mov (.t 3)), (some 33), none⟩, ⟨(.call 114 [(.t 33)]), (some 34), none⟩, ⟨(.mov (.t 2)), (some 35), none⟩, ⟨(.mov (.t 10)), (some 36), none⟩, ⟨(.indexAddr 1 (.t 35) (.t 36)), (some 37), none⟩, ⟨(.load none (.t 37)), (some 38), none⟩, ⟨(.bslice 1 [(.int .i64 0)] 1 [(0, (1, (.t 38)))]), (some 39), none⟩, ⟨(.append 1 8 (.t 34) (.t 39)), (some 40), none⟩, ⟨(.callw 71 [(.t 30), (.t 31), (.t 32), (.t 40)]), (some 41), none⟩, ⟨(.bin .or (.t 29) (.t 41)), (some 42), none⟩, ⟨(.mov (.t 42)), (some 9), none⟩] [1, 2])) (.region [⟨(.mov (.t 10)), (some 27), none⟩, ⟨(.bin .add (.t 27) (.k (.int .i64 1))), (some 28), none⟩, ⟨(.mov (.t 28)), (some 10), none⟩] false)))
def m71 : MC := (.seq (.region [⟨(.box (.t 0)), (some 4), none⟩, ⟨(.box (.t 1)), (some 5), none⟩, ⟨(.mov (.k (.int .i64 0))), (some 8), none⟩] false) (.seq (.seq (.region [⟨(.mov (.t 3)), (some 11), none⟩, ⟨(.len (.t 11)), (some 12), none⟩, ⟨(.fieldAddr 0 (.t 4)), (some 13), none⟩, ⟨(.load none (.t 13)), (some 14), none⟩, ⟨(.bin .eql (.t 12) (.t 14)), (some 15), none⟩] false) (.cond (.t 15) (.seq (.region [⟨(.load (some 2) (.t 4)), (some 16), none⟩, ⟨(.mov (.t 3)), (some 17), none⟩, ⟨(.fieldAddr 0 (.t 5)), (some 18), none⟩, ⟨(.load none (.t 18)), (some 19), none⟩, ⟨(.call 113 [(.t 16), (.t 17), (.t 19)]), (some 20), none⟩, ⟨(.conv .u64 (.t 20)), (some 21), none⟩, ⟨(.bin .shl (.k (.int .i64 1)) (.t 21)), (some 22), none⟩, ⟨(.mov (.t 22)), (some 8), none⟩] false) .ret) .skip)) (.seq (.region [⟨(.mov (.k (.int .i64 0))), (some 9), none⟩] false) (.seq (.seq (.region [⟨(.mov (.k (.int .i64 0))), (some 10), none⟩] false) (.block 0 (.loop m71_0))) (.seq (.region [⟨(.mov (.t 9)), (some 43), none⟩, ⟨(.mov (.t 43)), (some 8), none⟩] false) .ret)))))
theorem has71 : Has cx 71 44 m71 [(.tmp 8)] :=
  ⟨⟨Try.f71, Try.f71.body.getD .skip, by kernel_rfl, by kernel_rfl, by kernel_rfl, by kernel_rfl, by kernel_rfl, by kernel_rfl⟩⟩
theorem lpmd0_e (n b p t m y : Nat) (ys : List Nat) (hn : n ≤ 4) (hp : p ≤ 4) (hll : (y :: ys).length ≤ 65536) (hl : ∀ j, j < (y :: ys).length → (y :: ys).getD j 0 < 65536) (ih : ∀ (q1 z : Nat), z < 65536 → Ev cx 71 [.agg [.int .i64 n, .int .i64 b], .agg [.int .i64 p, .int .i64 t], .sl 0 0 (y :: ys).length, .sl 1 0 (([] : List Nat).length + 1)] [⟨ints (y :: ys), 1, 0, some 0, false⟩, ⟨ints (([] : List Nat) ++ [z]), 1, 1, some q1, false⟩] (.int .i64 (mbA (y :: ys) b p m (([] : List Nat) ++ [z]) : Nat)) [⟨ints (y :: ys), 1, 0, some 0, false⟩, ⟨ints (([] : List Nat) ++ [z]), 1, 1, some q1, false⟩]) :
    LpS cx 44 1 m71_0 [(2, .sl 0 0 (y :: ys).length), (3, .emp), (4, .ptr 1 0), (5, .ptr 2 0), (9, .int .i64 (orN (fun j => mbA (y :: ys) b p m (([] : List Nat) ++ [(y :: ys).getD j 0])) (0) : Nat)), (10, .int .i64 (0 : Nat))] [⟨ints (y :: ys), 1, 0, some 0, false⟩, ⟨[.int .i64 n, .int .i64 b], 1, 1, some 0, true⟩, ⟨[.int .i64 p, .int .i64 t], 1, 2, some 0, true⟩] (⟨.exit 0, [(9, .int .i64 (orN (fun j => mbA (y :: ys) b p m (([] : List Nat) ++ [(y :: ys).getD j 0])) ((y :: ys).length) : Nat))], [⟨ints (y :: ys), 1, 0, some 0, false⟩]⟩ : Out).x (⟨.exit 0, [(9, .int .i64 (orN (fun j => mbA (y :: ys) b p m (([] : List Nat) ++ [(y :: ys).getD j 0])) ((y :: ys).length) : Nat))], [⟨ints (y :: ys), 1, 0, some 0, false⟩]⟩ : Out).e (⟨.exit 0, [(9, .int .i64 (orN (fun j => mbA (y :: ys) b p m (([] : List Nat) ++ [(y :: ys).getD j 0])) ((y :: ys).length) : Nat))], [⟨ints (y :: ys), 1, 0, some 0, false⟩]⟩ : Out).h := by
  refine lp_st ((y :: ys).length) (fun _ => ()) (fun i _ => [(2, .sl 0 0 (y :: ys).length), (3, .emp), (4, .ptr 1 0), (5, .ptr 2 0), (9, .int .i64 (orN (fun j => mbA (y :: ys) b p m (([] : List Nat) ++ [(y :: ys).getD j 0])) (i) : Nat)), (10, .int .i64 (i : Nat))]) (fun i _ => [⟨ints (y :: ys), 1, 0, some 0, false⟩, ⟨[.int .i64 n, .int .i64 b], 1, 1, some 0, true⟩, ⟨[.int .i64 p, .int .i64 t], 1, 2, some 0, true⟩]) (fun _ => (⟨.exit 0, [(9, .int .i64 (orN (fun j => mbA (y :: ys) b p m (([] : List Nat) ++ [(y :: ys).getD j 0])) ((y :: ys).length) : Nat))], [⟨ints (y :: ys), 1, 0, some 0, false⟩]⟩ : Out)) ?_ ?_ ((y :: ys).length) 0 (by omega)
  · intro i u_ hi hu_
    refine ⟨(), rfl, ?_⟩
    have hlt : decide ((i : Int) < ((y :: ys).length : Nat)) = true := decide_eq_true (by omega)
    have hx := hl i hi
    obtain ⟨g1, g2, g3, g4⟩ := shN hp
    have hm := mbA_lt (y :: ys) b p m (([] : List Nat) ++ [(y :: ys).getD i 0])
    have ho := orN_lt (h := fun j => mbA (y :: ys) b p m (([] : List Nat) ++ [(y :: ys).getD j 0])) (N := R2 p) i (fun j _ => mbA_lt _ _ _ _ _)
    have hor : binV .or (.int .i64 (orN (fun j => mbA (y :: ys) b p m (([] : List Nat) ++ [(y :: ys).getD j 0])) i : Nat)) (.int .i64 (mbA (y :: ys) b p m (([] : List Nat) ++ [(y :: ys).getD i 0]) : Nat)) = some (.int .i64 (orN (fun j => mbA (y :: ys) b p m (([] : List Nat) ++ [(y :: ys).getD j 0])) (i + 1) : Nat)) := b_or (by omega) (by omega)
    have ihx := fun q1 => ih q1 ((y :: ys).getD i 0) hx
    have e2 := evow_e
    have ihx : ∀ q1, Ev cx 71 [.agg [.int .i64 n, .int .i64 b], .agg [.int .i64 p, .int .i64 t], .sl 0 0 (y :: ys).length, .sl 1 0 1] [⟨ints (y :: ys), 1, 0, some 0, false⟩, ⟨[V.int .i64 ((y :: ys).getD i 0 : Nat)], 1, 1, some q1, false⟩] (.int .i64 (mbA (y :: ys) b p m ([] ++ [(y :: ys).getD i 0]) : Nat)) [⟨ints (y :: ys), 1, 0, some 0, false⟩, ⟨[V.int .i64 ((y :: ys).getD i 0 : Nat)], 1, 1, some q1, false⟩] := ihx
    unfold m71_0
    repeat' (first
      | (refine g_op ?_; first
        | refine ep_mov rfl ?_ | refine ep_load1 rfl rfl rfl rfl ?_ | refine sp_loadN rfl rfl rfl rfl rfl ?_
        | refine ep_call0 rfl (by first | exact e2 | exact ihx _) rfl rfl ?_
        | refine sp_call rfl rfl rfl rfl (by first | exact e2 | exact ihx _) ⟨rfl, rfl, rfl, rfl⟩ rfl rfl rfl ?_
        | refine ep_callw0 rfl (by first | exact e2 | exact ihx _) rfl rfl ?_
        | refine sp_callw rfl rfl rfl rfl (by first | exact e2 | exact ihx _) ⟨rfl, rfl, rfl, rfl⟩ rfl rfl rfl (by first | exact WrP_refl _ _ | (repeat' (first | exact rfl | exact True.intro | refine And.intro ?_ ?_))) ?_
        | refine ep_bin rfl rfl (by first | exact hor | exact b_add (by omega) (by omega) | exact b_sub (by omega) (by omega) | exact b_and (by omega) (by omega) | exact b_or (by omega) (by omega) | exact b_shr (by omega) | exact b_shl (by omega) (by omega) | exact b_lss | exact b_leq | exact b_gtr | exact b_geq | exact b_eql | exact b_neq) ?_
        | refine ep_lenS rfl ?_ | refine ep_lenN rfl ?_ | refine ep_lenE rfl ?_ | refine sp_bslice rfl rfl rfl rfl rfl ?_ | refine sp_push0 rfl (by first | exact .inl rfl | exact .inr rfl) rfl rfl rfl rfl rfl (by decide) rfl rfl rfl ?_
        | refine sp_push rfl rfl rfl rfl rfl rfl rfl (by first | exact ints_len _ | exact prs_len _ _ | exact zints_len _) (by omega) (Nat.zero_le _) rfl rfl rfl rfl rfl ?_ | refine sp_idx rfl rfl rfl (by omega) rfl ?_
        | refine ep_loadS rfl rfl rfl (by first | exact ints_get (by omega) | exact zints_get (by omega) | exact fget (by omega) | assumption) ?_ | refine ep_loadSN rfl rfl rfl (by first | exact prs_get (by omega) | exact fns_get (by omega)) ?_)
      | (refine g_ops ?_; first | refine eo_none ?_ | refine eo_nil ?_)
      | (refine g_lops ?_; first | refine el_none rfl ?_ | refine el_nil ?_)
      | refine el_same rfl ?_ | refine el_one rfl rfl rfl rfl rfl ?_ | refine el_write rfl rfl rfl ?_
      | (refine g_code ?_; first | refine ec_seq ?_ | refine ec_region ?_ | refine ec_drawL (X := [1, 2]) rfl ?_ | refine ec_block ?_ | refine ec_skip ?_ | refine ec_exit ?_ | refine ec_condT rfl ?_ | refine ec_condF rfl ?_ | refine ec_condTH rfl (by assumption) ?_ | refine ec_condFH rfl (by assumption) ?_)
      | refine ek_seqN ?_ | refine ek_seqX ?_ | refine ek_blkN ?_ | refine ek_blkR ?_ | refine ek_blkX ?_ | refine ek_blkY rfl ?_)
    exact rnd_on (by rfl) (scmp2 (by rfl) (by rfl) (by exact ⟨rfl, rfl, rfl⟩) (by rfl) (by first | rfl | (simp; done) | (simp [ints, prs]; done)) (by rfl) (by first | rfl | (simp; done) | (simp [ints, prs]; done)))
  · intro u_ hu_
    have hlt : decide ((((y :: ys).length : Nat) : Int) < ((y :: ys).length : Nat)) = false := decide_eq_false (by omega)
    unfold m71_0
    repeat' (first
      | (refine g_op ?_; first
        | refine ep_mov rfl ?_ | refine ep_load1 rfl rfl rfl rfl ?_ | refine sp_loadN rfl rfl rfl rfl rfl ?_
        | refine ep_bin rfl rfl (by first | exact b_add (by omega) (by omega) | exact b_sub (by omega) (by omega) | exact b_and (by omega) (by omega) | exact b_or (by omega) (by omega) | exact b_shr (by omega) | exact b_shl (by omega) (by omega) | exact b_lss | exact b_leq | exact b_gtr | exact b_geq | exact b_eql | exact b_neq) ?_
        | refine ep_lenS rfl ?_ | refine ep_lenN rfl ?_ | refine ep_lenE rfl ?_ | refine sp_bslice rfl rfl rfl rfl rfl ?_ | refine sp_push0 rfl (by first | exact .inl rfl | exact .inr rfl) rfl rfl rfl rfl rfl (by decide) rfl rfl rfl ?_
        | refine sp_push rfl rfl rfl rfl rfl rfl rfl (by first | exact ints_len _ | exact prs_len _ _ | exact zints_len _) (by omega) (Nat.zero_le _) rfl rfl rfl rfl rfl ?_ | refine sp_idx rfl rfl rfl (by omega) rfl ?_
        | refine ep_loadS rfl rfl rfl (by first | exact ints_get (by omega) | exact zints_get (by omega) | exact fget (by omega) | assumption) ?_ | refine ep_loadSN rfl rfl rfl (by first | exact prs_get (by omega) | exact fns_get (by omega)) ?_)
      | (refine g_ops ?_; first | refine eo_none ?_ | refine eo_nil ?_)
      | (refine g_lops ?_; first | refine el_none rfl ?_ | refine el_nil ?_)
      | refine el_same rfl ?_ | refine el_one rfl rfl rfl rfl rfl ?_ | refine el_write rfl rfl rfl ?_
      | (refine g_code ?_; first | refine ec_seq ?_ | refine ec_region ?_ | refine ec_drawL (X := []) rfl ?_ | refine ec_block ?_ | refine ec_skip ?_ | refine ec_exit ?_ | refine ec_condT rfl ?_ | refine ec_condF rfl ?_ | refine ec_condTH rfl (by assumption) ?_ | refine ec_condFH rfl (by assumption) ?_)
      | refine ek_seqN ?_ | refine ek_seqX ?_ | refine ek_blkN ?_ | refine ek_blkR ?_ | refine ek_blkX ?_ | refine ek_blkY rfl ?_)
    exact rnd_out (by rfl) (by simp) (scmp2 (by rfl) (by rfl) (by exact ⟨rfl, rfl, rfl⟩) (by rfl) (by first | rfl | (simp; done) | (simp [ints, prs]; done)) (by rfl) (by first | rfl | (simp; done) | (simp [ints, prs]; done)))

theorem lpmd0_c (n b p t m y : Nat) (ys : List Nat) (q0 x : Nat) (xs : List Nat) (hn : n ≤ 4) (hp : p ≤ 4) (hll : (y :: ys).length ≤ 65536) (hl : ∀ j, j < (y :: ys).length → (y :: ys).getD j 0 < 65536) (hs0 : (x :: xs).length ≤ 4) (ih : ∀ (q1 z : Nat), z < 65536 → Ev cx 71 [.agg [.int .i64 n, .int .i64 b], .agg [.int .i64 p, .int .i64 t], .sl 0 0 (y :: ys).length, .sl 1 0 ((x :: xs).length + 1)] [⟨ints (y :: ys), 1, 0, some 0, false⟩, ⟨ints ((x :: xs) ++ [z]), 1, 1, some q1, false⟩] (.int .i64 (mbA (y :: ys) b p m ((x :: xs) ++ [z]) : Nat)) [⟨ints (y :: ys), 1, 0, some 0, false⟩, ⟨ints ((x :: xs) ++ [z]), 1, 1, some q1, false⟩]) :
    LpS cx 44 2 m71_0 [(2, .sl 0 0 (y :: ys).length), (3, .sl 1 0 (x :: xs).length), (4, .ptr 2 0), (5, .ptr 3 0), (9, .int .i64 (orN (fun j => mbA (y :: ys) b p m ((x :: xs) ++ [(y :: ys).getD j 0])) (0) : Nat)), (10, .int .i64 (0 : Nat))] [⟨ints (y :: ys), 1, 0, some 0, false⟩, ⟨ints (x :: xs), 1, 1, some q0, false⟩, ⟨[.int .i64 n, .int .i64 b], 1, 2, some 0, true⟩, ⟨[.int .i64 p, .int .i64 t], 1, 3, some 0, true⟩] (⟨.exit 0, [(9, .int .i64 (orN (fun j => mbA (y :: ys) b p m ((x :: xs) ++ [(y :: ys).getD j 0])) ((y :: ys).length) : Nat))], [⟨ints (y :: ys), 1, 0, some 0, false⟩, ⟨ints (x :: xs), 1, 1, some q0, false⟩]⟩ : Out).x (⟨.exit 0, [(9, .int .i64 (orN (fun j => mbA (y :: ys) b p m ((x :: xs) ++ [(y :: ys).getD j 0])) ((y :: ys).length) : Nat))], [⟨ints (y :: ys), 1, 0, some 0, false⟩, ⟨ints (x :: xs), 1, 1, some q0, false⟩]⟩ : Out).e (⟨.exit 0, [(9, .int .i64 (orN (fun j => mbA (y :: ys) b p m ((x :: xs) ++ [(y :: ys).getD j 0])) ((y :: ys).length) : Nat))], [⟨ints (y :: ys), 1, 0, some 0, false⟩, ⟨ints (x :: xs), 1, 1, some q0, false⟩]⟩ : Out).h := by
  refine lp_st ((y :: ys).length) (fun _ => ()) (fun i _ => [(2, .sl 0 0 (y :: ys).length), (3, .sl 1 0 (x :: xs).length), (4, .ptr 2 0), (5, .ptr 3 0), (9, .int .i64 (orN (fun j => mbA (y :: ys) b p m ((x :: xs) ++ [(y :: ys).getD j 0])) (i) : Nat)), (10, .int .i64 (i : Nat))]) (fun i _ => [⟨ints (y :: ys), 1, 0, some 0, false⟩, ⟨ints (x :: xs), 1, 1, some q0, false⟩, ⟨[.int .i64 n, .int .i64 b], 1, 2, some 0, true⟩, ⟨[.int .i64 p, .int .i64 t], 1, 3, some 0, true⟩]) (fun _ => (⟨.exit 0, [(9, .int .i64 (orN (fun j => mbA (y :: ys) b p m ((x :: xs) ++ [(y :: ys).getD j 0])) ((y :: ys).length) : Nat))], [⟨ints (y :: ys), 1, 0, some 0, false⟩, ⟨ints (x :: xs), 1, 1, some q0, false⟩]⟩ : Out)) ?_ ?_ ((y :: ys).length) 0 (by omega)
  · intro i u_ hi hu_
    refine ⟨(), rfl, ?_⟩
    have hlt : decide ((i : Int) < ((y :: ys).length : Nat)) = true := decide_eq_true (by omega)
    have hx := hl i hi
    obtain ⟨g1, g2, g3, g4⟩ := shN hp
    have hm := mbA_lt (y :: ys) b p m ((x :: xs) ++ [(y :: ys).getD i 0])
    have ho := orN_lt (h := fun j => mbA (y :: ys) b p m ((x :: xs) ++ [(y :: ys).getD j 0])) (N := R2 p) i (fun j _ => mbA_lt _ _ _ _ _)
    have hor : binV .or (.int .i64 (orN (fun j => mbA (y :: ys) b p m ((x :: xs) ++ [(y :: ys).getD j 0])) i : Nat)) (.int .i64 (mbA (y :: ys) b p m ((x :: xs) ++ [(y :: ys).getD i 0]) : Nat)) = some (.int .i64 (orN (fun j => mbA (y :: ys) b p m ((x :: xs) ++ [(y :: ys).getD j 0])) (i + 1) : Nat)) := b_or (by omega) (by omega)
    have ihx := fun q1 => ih q1 ((y :: ys).getD i 0) hx
    have e2 := evow_c q0 (x :: xs) (x :: xs).length rfl (by simp) (by omega)
    have hap : ints (x :: xs) ++ [V.int .i64 ((y :: ys).getD i 0 : Nat)] = ints ((x :: xs) ++ [(y :: ys).getD i 0]) := by simp [ints]
    rw [← hap] at ihx
    unfold m71_0
    repeat' (first
      | (refine g_op ?_; first
        | refine ep_mov rfl ?_ | refine ep_load1 rfl rfl rfl rfl ?_ | refine sp_loadN rfl rfl rfl rfl rfl ?_
        | refine ep_call0 rfl (by first | exact e2 | exact ihx _) rfl rfl ?_
        | refine sp_call rfl rfl rfl rfl (by first | exact e2 | exact ihx _) ⟨rfl, rfl, rfl, rfl⟩ rfl rfl rfl ?_
        | refine ep_callw0 rfl (by first | exact e2 | exact ihx _) rfl rfl ?_
        | refine sp_callw rfl rfl rfl rfl (by first | exact e2 | exact ihx _) ⟨rfl, rfl, rfl, rfl⟩ rfl rfl rfl (by first | exact WrP_refl _ _ | (repeat' (first | exact rfl | exact True.intro | refine And.intro ?_ ?_))) ?_
        | refine ep_bin rfl rfl (by first | exact hor | exact b_add (by omega) (by omega) | exact b_sub (by omega) (by omega) | exact b_and (by omega) (by omega) | exact b_or (by omega) (by omega) | exact b_shr (by omega) | exact b_shl (by omega) (by omega) | exact b_lss | exact b_leq | exact b_gtr | exact b_geq | exact b_eql | exact b_neq) ?_
        | refine ep_lenS rfl ?_ | refine ep_lenN rfl ?_ | refine ep_lenE rfl ?_ | refine sp_bslice rfl rfl rfl rfl rfl ?_ | refine sp_push0 rfl (by first | exact .inl rfl | exact .inr rfl) rfl rfl rfl rfl rfl (by decide) rfl rfl rfl ?_
        | refine sp_push rfl rfl rfl rfl rfl rfl rfl (by first | exact ints_len _ | exact prs_len _ _ | exact zints_len _) (by omega) (Nat.zero_le _) rfl rfl rfl rfl rfl ?_ | refine sp_idx rfl rfl rfl (by omega) rfl ?_
        | refine ep_loadS rfl rfl rfl (by first | exact ints_get (by omega) | exact zints_get (by omega) | exact fget (by omega) | assumption) ?_ | refine ep_loadSN rfl rfl rfl (by first | exact prs_get (by omega) | exact fns_get (by omega)) ?_)
      | (refine g_ops ?_; first | refine eo_none ?_ | refine eo_nil ?_)
      | (refine g_lops ?_; first | refine el_none rfl ?_ | refine el_nil ?_)
      | refine el_same rfl ?_ | refine el_one rfl rfl rfl rfl rfl ?_ | refine el_write rfl rfl rfl ?_
      | (refine g_code ?_; first | refine ec_seq ?_ | refine ec_region ?_ | refine ec_drawL (X := [2, 3]) rfl ?_ | refine ec_block ?_ | refine ec_skip ?_ | refine ec_exit ?_ | refine ec_condT rfl ?_ | refine ec_condF rfl ?_ | refine ec_condTH rfl (by assumption) ?_ | refine ec_condFH rfl (by assumption) ?_)
      | refine ek_seqN ?_ | refine ek_seqX ?_ | refine ek_blkN ?_ | refine ek_blkR ?_ | refine ek_blkX ?_ | refine ek_blkY rfl ?_)
    exact rnd_on (by rfl) (scmp2 (by rfl) (by rfl) (by exact ⟨rfl, rfl, rfl⟩) (by rfl) (by first | rfl | (simp; done) | (simp [ints, prs]; done)) (by rfl) (by first | rfl | (simp; done) | (simp [ints, prs]; done)))
  · intro u_ hu_
    have hlt : decide ((((y :: ys).length : Nat) : Int) < ((y :: ys).length : Nat)) = false := decide_eq_false (by omega)
    unfold m71_0
    repeat' (first
      | (refine g_op ?_; first
        | refine ep_mov rfl ?_ | refine ep_load1 rfl rfl rfl rfl ?_ | refine sp_loadN rfl rfl rfl rfl rfl ?_
        | refine ep_bin rfl rfl (by first | exact b_add (by omega) (by omega) | exact b_sub (by omega) (by omega) | exact b_and (by omega) (by omega) | exact b_or (by omega) (by omega) | exact b_shr (by omega) | exact b_shl (by omega) (by omega) | exact b_lss | exact b_leq | exact b_gtr | exact b_geq | exact b_eql | exact b_neq) ?_
        | refine ep_lenS rfl ?_ | refine ep_lenN rfl ?_ | refine ep_lenE rfl ?_ | refine sp_bslice rfl rfl rfl rfl rfl ?_ | refine sp_push0 rfl (by first | exact .inl rfl | exact .inr rfl) rfl rfl rfl rfl rfl (by decide) rfl rfl rfl ?_
        | refine sp_push rfl rfl rfl rfl rfl rfl rfl (by first | exact ints_len _ | exact prs_len _ _ | exact zints_len _) (by omega) (Nat.zero_le _) rfl rfl rfl rfl rfl ?_ | refine sp_idx rfl rfl rfl (by omega) rfl ?_
        | refine ep_loadS rfl rfl rfl (by first | exact ints_get (by omega) | exact zints_get (by omega) | exact fget (by omega) | assumption) ?_ | refine ep_loadSN rfl rfl rfl (by first | exact prs_get (by omega) | exact fns_get (by omega)) ?_)
      | (refine g_ops ?_; first | refine eo_none ?_ | refine eo_nil ?_)
      | (refine g_lops ?_; first | refine el_none rfl ?_ | refine el_nil ?_)
      | refine el_same rfl ?_ | refine el_one rfl rfl rfl rfl rfl ?_ | refine el_write rfl rfl rfl ?_
      | (refine g_code ?_; first | refine ec_seq ?_ | refine ec_region ?_ | refine ec_drawL (X := []) rfl ?_ | refine ec_block ?_ | refine ec_skip ?_ | refine ec_exit ?_ | refine ec_condT rfl ?_ | refine ec_condF rfl ?_ | refine ec_condTH rfl (by assumption) ?_ | refine ec_condFH rfl (by assumption) ?_)
      | refine ek_seqN ?_ | refine ek_seqX ?_ | refine ek_blkN ?_ | refine ek_blkR ?_ | refine ek_blkX ?_ | refine ek_blkY rfl ?_)
    exact rnd_out (by rfl) (by simp) (scmp2 (by rfl) (by rfl) (by exact ⟨rfl, rfl, rfl⟩) (by rfl) (by first | rfl | (simp; done) | (simp [ints, prs]; done)) (by rfl) (by first | rfl | (simp; done) | (simp [ints, prs]; done)))

theorem evmd_c (n b p t y : Nat) (ys : List Nat) (hn : n ≤ 4) (hb : b < 65536) (hp : p ≤ 4) (hll : (y :: ys).length ≤ 65536) (hl : ∀ j, j < (y :: ys).length → (y :: ys).getD j 0 < 65536) : ∀ (m q0 x : Nat) (xs : List Nat), (x :: xs).length + m = n → (∀ j, j < (x :: xs).length → (x :: xs).getD j 0 < 65536) →
    Ev cx 71 [.agg [.int .i64 n, .int .i64 b], .agg [.int .i64 p, .int .i64 t], .sl 0 0 (y :: ys).length, .sl 1 0 (x :: xs).length] [⟨ints (y :: ys), 1, 0, some 0, false⟩, ⟨ints (x :: xs), 1, 1, some q0, false⟩] (.int .i64 (mbA (y :: ys) b p m (x :: xs) : Nat)) [⟨ints (y :: ys), 1, 0, some 0, false⟩, ⟨ints (x :: xs), 1, 1, some q0, false⟩]
  | 0, q0, x, xs, hm, hs => by
    obtain ⟨g1, g2, g3, g4⟩ := shN hp
    have hv := valS_lt b p (x :: xs)
    have e1 := evva_c n b p q0 x xs hs hn hb hp (by omega)
    have hq : ((((x :: xs).length : Nat) : Int) == (n : Nat)) = true := by rw [ieq]; simp at hm ⊢; omega
    have hm2 := R2_mono (i := valS b p (x :: xs)) (n := 16) (by omega)
    have h16 : R2 16 = 65536 := by unfold R2; rfl
    refine has71.eev rfl rfl ?_
    unfold m71
    repeat' (first
      | (refine g_op ?_; first
        | refine ep_mov rfl ?_ | refine ep_load1 rfl rfl rfl rfl ?_ | refine ep_fieldAddr rfl ?_ | refine sp_loadN rfl rfl rfl rfl rfl ?_
        | refine ep_call0 rfl (by first | exact e1) rfl rfl ?_
        | refine sp_call rfl rfl rfl rfl (by first | exact e1) ⟨rfl, rfl, rfl, rfl⟩ rfl rfl rfl ?_
        | refine ep_bin rfl rfl (by first | exact b_shl1 (y := valS b p (x :: xs)) (by omega) (by omega) | exact b_add (by omega) (by omega) | exact b_sub (by omega) (by omega) | exact b_and (by omega) (by omega) | exact b_or (by omega) (by omega) | exact b_shr (by omega) | exact b_shl (by omega) (by omega) | exact b_lss | exact b_leq | exact b_gtr | exact b_geq | exact b_eql | exact b_neq) ?_
        | refine ep_conv rfl (by first | exact w_u64 (by omega) (by omega) | exact wrap_id (by omega) (by omega) | rfl) ?_ | refine ep_lenS rfl ?_ | refine ep_lenN rfl ?_ | refine ep_lenE rfl ?_ | refine sp_box rfl rfl rfl rfl rfl ?_)
      | (refine g_ops ?_; first | refine eo_none ?_ | refine eo_nil ?_)
      | (refine g_code ?_; first | refine ec_seq ?_ | refine ec_region ?_ | refine ec_block ?_ | refine ec_skip ?_ | refine ec_ret ?_ | refine ec_condT rfl ?_ | refine ec_condF rfl ?_ | refine ec_condTH rfl (by assumption) ?_ | refine ec_condFH rfl (by assumption) ?_)
      | refine ek_seqN ?_ | refine ek_seqX ?_ | refine ek_seqR ?_ | refine ek_blkN ?_ | refine ek_blkR ?_ | refine ek_blkX ?_ | refine ek_blkY rfl ?_)
    refine sfin (.inr rfl) (by rfl) (by rfl) (by exact ⟨rfl, rfl, rfl⟩) (by rfl) (by rfl) (by rfl) (by first | rfl | (simp; done) | (simp [ints, prs]; done))
  | m + 1, q0, x, xs, hm, hs => by
    have hq : ((((x :: xs).length : Nat) : Int) == (n : Nat)) = false := by rw [ieq]; simp at hm ⊢; omega
    have lp := lpmd0_c n b p t m y ys q0 x xs hn hp hll hl (by omega) (fun q1 z hz => by
      have := evmd_c n b p t y ys hn hb hp hll hl m q1 x (xs ++ [z]) (by simp at hm ⊢; omega) (fun j hj => by
        rw [← List.cons_append] at hj ⊢
        by_cases hlt : j < (x :: xs).length
        · rw [List.getD_eq_getElem?_getD, List.getElem?_append_left hlt, ← List.getD_eq_getElem?_getD]; exact hs j hlt
        · rw [List.getD_eq_getElem?_getD, List.getElem?_append_right (by omega)]
          rw [List.length_append, List.length_singleton] at hj
          rw [show j - (x :: xs).length = 0 by omega]; exact hz)
      rw [← List.cons_append, List.length_append, List.length_singleton] at this
      exact this)
    rw [show orN (fun j => mbA (y :: ys) b p m ((x :: xs) ++ [(y :: ys).getD j 0])) 0 = 0 from rfl] at lp
    refine has71.eev rfl rfl ?_
    unfold m71
    repeat' (first
      | refine sc_loop lp rfl rfl ⟨rfl, rfl, rfl⟩ rfl rfl rfl ?_
      | (refine g_op ?_; first
        | refine ep_mov rfl ?_ | refine ep_load1 rfl rfl rfl rfl ?_ | refine ep_fieldAddr rfl ?_ | refine sp_loadN rfl rfl rfl rfl rfl ?_
        | refine ep_bin rfl rfl (by first | exact b_add (by omega) (by omega) | exact b_sub (by omega) (by omega) | exact b_and (by omega) (by omega) | exact b_or (by omega) (by omega) | exact b_shr (by omega) | exact b_shl (by omega) (by omega) | exact b_lss | exact b_leq | exact b_gtr | exact b_geq | exact b_eql | exact b_neq) ?_
        | refine ep_conv rfl (by first | exact w_u64 (by omega) (by omega) | exact wrap_id (by omega) (by omega) | rfl) ?_ | refine ep_lenS rfl ?_ | refine ep_lenN rfl ?_ | refine ep_lenE rfl ?_ | refine sp_box rfl rfl rfl rfl rfl ?_)
      | (refine g_ops ?_; first | refine eo_none ?_ | refine eo_nil ?_)
      | (refine g_code ?_; first | refine ec_seq ?_ | refine ec_region ?_ | refine ec_block ?_ | refine ec_skip ?_ | refine ec_ret ?_ | refine ec_condT rfl ?_ | refine ec_condF rfl ?_ | refine ec_condTH rfl (by assumption) ?_ | refine ec_condFH rfl (by assumption) ?_)
      | refine ek_seqN ?_ | refine ek_seqX ?_ | refine ek_seqR ?_ | refine ek_blkN ?_ | refine ek_blkR ?_ | refine ek_blkX ?_ | refine ek_blkY rfl ?_)
    refine sfin (.inr rfl) (by rfl) (by rfl) (by exact ⟨rfl, rfl, rfl⟩) (by rfl) (by rfl) (by rfl) (by first | rfl | (simp; done) | (simp [ints, prs]; done))
theorem evmd_e (n b p t y : Nat) (ys : List Nat) (hn : n ≤ 4) (hb : b < 65536) (hp : p ≤ 4) (hll : (y :: ys).length ≤ 65536) (hl : ∀ j, j < (y :: ys).length → (y :: ys).getD j 0 < 65536) :
    Ev cx 71 [.agg [.int .i64 n, .int .i64 b], .agg [.int .i64 p, .int .i64 t], .sl 0 0 (y :: ys).length, .emp] [⟨ints (y :: ys), 1, 0, some 0, false⟩] (.int .i64 (mbA (y :: ys) b p n [] : Nat)) [⟨ints (y :: ys), 1, 0, some 0, false⟩] := by
  cases n with
  | zero =>
    obtain ⟨g1, g2, g3, g4⟩ := shN hp
    have hv := valS_lt b p []
    have e1 := evva_e 0 b p hn hb hp rfl
    have hq : (((0 : Nat) : Int) == (0 : Nat)) = true := by simp
    have hm2 := R2_mono (i := valS b p []) (n := 16) (by omega)
    have h16 : R2 16 = 65536 := by unfold R2; rfl
    refine has71.eev rfl rfl ?_
    unfold m71
    repeat' (first
      | (refine g_op ?_; first
        | refine ep_mov rfl ?_ | refine ep_load1 rfl rfl rfl rfl ?_ | refine ep_fieldAddr rfl ?_ | refine sp_loadN rfl rfl rfl rfl rfl ?_
        | refine ep_call0 rfl (by first | exact e1) rfl rfl ?_
        | refine sp_call rfl rfl rfl rfl (by first | exact e1) ⟨rfl, rfl, rfl, rfl⟩ rfl rfl rfl ?_
        | refine ep_bin rfl rfl (by first | exact b_shl1 (y := valS b p []) (by omega) (by omega) | exact b_add (by omega) (by omega) | exact b_sub (by omega) (by omega) | exact b_and (by omega) (by omega) | exact b_or (by omega) (by omega) | exact b_shr (by omega) | exact b_shl (by omega) (by omega) | exact b_lss | exact b_leq | exact b_gtr | exact b_geq | exact b_eql | exact b_neq) ?_
        | refine ep_conv rfl (by first | exact w_u64 (by omega) (by omega) | exact wrap_id (by omega) (by omega) | rfl) ?_ | refine ep_lenS rfl ?_ | refine ep_lenN rfl ?_ | refine ep_lenE rfl ?_ | refine sp_box rfl rfl rfl rfl rfl ?_)
      | (refine g_ops ?_; first | refine eo_none ?_ | refine eo_nil ?_)
      | (refine g_code ?_; first | refine ec_seq ?_ | refine ec_region ?_ | refine ec_block ?_ | refine ec_skip ?_ | refine ec_ret ?_ | refine ec_condT rfl ?_ | refine ec_condF rfl ?_ | refine ec_condTH rfl (by assumption) ?_ | refine ec_condFH rfl (by assumption) ?_)
      | refine ek_seqN ?_ | refine ek_seqX ?_ | refine ek_seqR ?_ | refine ek_blkN ?_ | refine ek_blkR ?_ | refine ek_blkX ?_ | refine ek_blkY rfl ?_)
    refine sfin (.inr rfl) (by rfl) (by rfl) (by exact ⟨rfl, rfl, rfl⟩) (by rfl) (by rfl) (by rfl) (by first | rfl | (simp; done) | (simp [ints, prs]; done))
  | succ m =>
    have hq : ((0 : Int) == ((m + 1 : Nat) : Int)) = false := by simp; omega
    have lp := lpmd0_e (m + 1) b p t m y ys hn hp hll hl (fun q1 z hz => evmd_c (m + 1) b p t y ys hn hb hp hll hl m q1 z [] (by simp; omega) (fun j hj => by
      have : j = 0 := by simpa using hj
      subst this; exact hz))
    rw [show orN (fun j => mbA (y :: ys) b p m ([] ++ [(y :: ys).getD j 0])) 0 = 0 from rfl] at lp
    refine has71.eev rfl rfl ?_
    unfold m71
    repeat' (first
      | refine sc_loop lp rfl rfl ⟨rfl, rfl, rfl⟩ rfl rfl rfl ?_
      | (refine g_op ?_; first
        | refine ep_mov rfl ?_ | refine ep_load1 rfl rfl rfl rfl ?_ | refine ep_fieldAddr rfl ?_ | refine sp_loadN rfl rfl rfl rfl rfl ?_
        | refine ep_bin rfl rfl (by first | exact b_add (by omega) (by omega) | exact b_sub (by omega) (by omega) | exact b_and (by omega) (by omega) | exact b_or (by omega) (by omega) | exact b_shr (by omega) | exact b_shl (by omega) (by omega) | exact b_lss | exact b_leq | exact b_gtr | exact b_geq | exact b_eql | exact b_neq) ?_
        | refine ep_conv rfl (by first | exact w_u64 (by omega) (by omega) | exact wrap_id (by omega) (by omega) | rfl) ?_ | refine ep_lenS rfl ?_ | refine ep_lenN rfl ?_ | refine ep_lenE rfl ?_ | refine sp_box rfl rfl rfl rfl rfl ?_)
      | (refine g_ops ?_; first | refine eo_none ?_ | refine eo_nil ?_)
      | (refine g_code ?_; first | refine ec_seq ?_ | refine ec_region ?_ | refine ec_block ?_ | refine ec_skip ?_ | refine ec_ret ?_ | refine ec_condT rfl ?_ | refine ec_condF rfl ?_ | refine ec_condTH rfl (by assumption) ?_ | refine ec_condFH rfl (by assumption) ?_)
      | refine ek_seqN ?_ | refine ek_seqX ?_ | refine ek_seqR ?_ | refine ek_blkN ?_ | refine ek_blkR ?_ | refine ek_blkX ?_ | refine ek_blkY rfl ?_)
    refine sfin (.inr rfl) (by rfl) (by rfl) (by exact ⟨rfl, rfl, rfl⟩) (by rfl) (by rfl) (by rfl) (by first | rfl | (simp; done) | (simp [ints, prs]; done))
theorem lpmd0_z (n b p t : Nat) :
    LpS cx 44 0 m71_0 [(2, .emp), (3, .emp), (4, .ptr 0 0), (5, .ptr 1 0), (9, .int .i64 0), (10, .int .i64 (0 : Nat))] [⟨[.int .i64 n, .int .i64 b], 1, 0, some 0, true⟩, ⟨[.int .i64 p, .int .i64 t], 1, 1, some 0, true⟩] (⟨.exit 0, [(9, .int .i64 0)], []⟩ : Out).x (⟨.exit 0, [(9, .int .i64 0)], []⟩ : Out).e (⟨.exit 0, [(9, .int .i64 0)], []⟩ : Out).h := by
  refine lp_st (0) (fun _ => ()) (fun i _ => [(2, .emp), (3, .emp), (4, .ptr 0 0), (5, .ptr 1 0), (9, .int .i64 0), (10, .int .i64 (i : Nat))]) (fun i _ => [⟨[.int .i64 n, .int .i64 b], 1, 0, some 0, true⟩, ⟨[.int .i64 p, .int .i64 t], 1, 1, some 0, true⟩]) (fun _ => (⟨.exit 0, [(9, .int .i64 0)], []⟩ : Out)) ?_ ?_ (0) 0 (by omega)
  · intro i u_ hi hu_
    refine ⟨(), rfl, ?_⟩
    exact absurd hi (by simp)
  · intro u_ hu_
    have hlt : decide (((0 : Nat) : Int) < (0 : Nat)) = false := decide_eq_false (by omega)
    unfold m71_0
    repeat' (first
      | (refine g_op ?_; first
        | refine ep_mov rfl ?_ | refine ep_load1 rfl rfl rfl rfl ?_ | refine sp_loadN rfl rfl rfl rfl rfl ?_
        | refine ep_bin rfl rfl (by first | exact b_add (by omega) (by omega) | exact b_sub (by omega) (by omega) | exact b_and (by omega) (by omega) | exact b_or (by omega) (by omega) | exact b_shr (by omega) | exact b_shl (by omega) (by omega) | exact b_lss | exact b_leq | exact b_gtr | exact b_geq | exact b_eql | exact b_neq) ?_
        | refine ep_lenS rfl ?_ | refine ep_lenN rfl ?_ | refine ep_lenE rfl ?_ | refine sp_bslice rfl rfl rfl rfl rfl ?_ | refine sp_push0 rfl (by first | exact .inl rfl | exact .inr rfl) rfl rfl rfl rfl rfl (by decide) rfl rfl rfl ?_
        | refine sp_push rfl rfl rfl rfl rfl rfl rfl (by first | exact ints_len _ | exact prs_len _ _ | exact zints_len _) (by omega) (Nat.zero_le _) rfl rfl rfl rfl rfl ?_ | refine sp_idx rfl rfl rfl (by omega) rfl ?_
        | refine ep_loadS rfl rfl rfl (by first | exact ints_get (by omega) | exact zints_get (by omega) | exact fget (by omega) | assumption) ?_ | refine ep_loadSN rfl rfl rfl (by first | exact prs_get (by omega) | exact fns_get (by omega)) ?_)
      | (refine g_ops ?_; first | refine eo_none ?_ | refine eo_nil ?_)
      | (refine g_lops ?_; first | refine el_none rfl ?_ | refine el_nil ?_)
      | refine el_same rfl ?_ | refine el_one rfl rfl rfl rfl rfl ?_ | refine el_write rfl rfl rfl ?_
      | (refine g_code ?_; first | refine ec_seq ?_ | refine ec_region ?_ | refine ec_drawL (X := []) rfl ?_ | refine ec_block ?_ | refine ec_skip ?_ | refine ec_exit ?_ | refine ec_condT rfl ?_ | refine ec_condF rfl ?_ | refine ec_condTH rfl (by assumption) ?_ | refine ec_condFH rfl (by assumption) ?_)
      | refine ek_seqN ?_ | refine ek_seqX ?_ | refine ek_blkN ?_ | refine ek_blkR ?_ | refine ek_blkX ?_ | refine ek_blkY rfl ?_)
    exact rnd_out (by rfl) (by simp) (scmp2 (by rfl) (by rfl) (by exact ⟨rfl, rfl, rfl⟩) (by rfl) (by first | rfl | (simp; done) | (simp [ints, prs]; done)) (by rfl) (by first | rfl | (simp; done) | (simp [ints, prs]; done)))

theorem evmd_z (n b p t : Nat) (hn : n ≤ 4) (hb : b < 65536) (hp : p ≤ 4) : Ev cx 71 [.agg [.int .i64 n, .int .i64 b], .agg [.int .i64 p, .int .i64 t], .emp, .emp] [] (.int .i64 (mbA [] b p n [] : Nat)) [] := by
  cases n with
  | zero =>
    obtain ⟨g1, g2, g3, g4⟩ := shN hp
    have hv := valS_lt b p []
    have e1 := evva_e 0 b p hn hb hp rfl
    have hq : (((0 : Nat) : Int) == (0 : Nat)) = true := by simp
    have hm2 := R2_mono (i := valS b p []) (n := 16) (by omega)
    have h16 : R2 16 = 65536 := by unfold R2; rfl
    refine has71.eev rfl rfl ?_
    unfold m71
    repeat' (first
      | (refine g_op ?_; first
        | refine ep_mov rfl ?_ | refine ep_load1 rfl rfl rfl rfl ?_ | refine ep_fieldAddr rfl ?_ | refine sp_loadN rfl rfl rfl rfl rfl ?_
        | refine ep_call0 rfl (by first | exact e1) rfl rfl ?_
        | refine sp_call rfl rfl rfl rfl (by first | exact e1) ⟨rfl, rfl, rfl, rfl⟩ rfl rfl rfl ?_
        | refine ep_bin rfl rfl (by first | exact b_shl1 (y := valS b p []) (by omega) (by omega) | exact b_add (by omega) (by omega) | exact b_sub (by omega) (by omega) | exact b_and (by omega) (by omega) | exact b_or (by omega) (by omega) | exact b_shr (by omega) | exact b_shl (by omega) (by omega) | exact b_lss | exact b_leq | exact b_gtr | exact b_geq | exact b_eql | exact b_neq) ?_
        | refine ep_conv rfl (by first | exact w_u64 (by omega) (by omega) | exact wrap_id (by omega) (by omega) | rfl) ?_ | refine ep_lenS rfl ?_ | refine ep_lenN rfl ?_ | refine ep_lenE rfl ?_ | refine sp_box rfl rfl rfl rfl rfl ?_)
      | (refine g_ops ?_; first | refine eo_none ?_ | refine eo_nil ?_)
      | (refine g_code ?_; first | refine ec_seq ?_ | refine ec_region ?_ | refine ec_block ?_ | refine ec_skip ?_ | refine ec_ret ?_ | refine ec_condT rfl ?_ | refine ec_condF rfl ?_ | refine ec_condTH rfl (by assumption) ?_ | refine ec_condFH rfl (by assumption) ?_)
      | refine ek_seqN ?_ | refine ek_seqX ?_ | refine ek_seqR ?_ | refine ek_blkN ?_ | refine ek_blkR ?_ | refine ek_blkX ?_ | refine ek_blkY rfl ?_)
    refine sfin (.inr rfl) (by rfl) (by rfl) (by exact ⟨rfl, rfl, rfl⟩) (by rfl) (by rfl) (by rfl) (by first | rfl | (simp; done) | (simp [ints, prs]; done))
  | succ m =>
    have hq : ((0 : Int) == ((m + 1 : Nat) : Int)) = false := by simp; omega
    have lp := lpmd0_z (m + 1) b p t
    refine has71.eev rfl rfl ?_
    unfold m71
    repeat' (first
      | refine sc_loop lp rfl rfl ⟨rfl, rfl, rfl⟩ rfl rfl rfl ?_
      | (refine g_op ?_; first
        | refine ep_mov rfl ?_ | refine ep_load1 rfl rfl rfl rfl ?_ | refine ep_fieldAddr rfl ?_ | refine sp_loadN rfl rfl rfl rfl rfl ?_
        | refine ep_bin rfl rfl (by first | exact b_add (by omega) (by omega) | exact b_sub (by omega) (by omega) | exact b_and (by omega) (by omega) | exact b_or (by omega) (by omega) | exact b_shr (by omega) | exact b_shl (by omega) (by omega) | exact b_lss | exact b_leq | exact b_gtr | exact b_geq | exact b_eql | exact b_neq) ?_
        | refine ep_conv rfl (by first | exact w_u64 (by omega) (by omega) | exact wrap_id (by omega) (by omega) | rfl) ?_ | refine ep_lenS rfl ?_ | refine ep_lenN rfl ?_ | refine ep_lenE rfl ?_ | refine sp_box rfl rfl rfl rfl rfl ?_)
      | (refine g_ops ?_; first | refine eo_none ?_ | refine eo_nil ?_)
      | (refine g_code ?_; first | refine ec_seq ?_ | refine ec_region ?_ | refine ec_block ?_ | refine ec_skip ?_ | refine ec_ret ?_ | refine ec_condT rfl ?_ | refine ec_condF rfl ?_ | refine ec_condTH rfl (by assumption) ?_ | refine ec_condFH rfl (by assumption) ?_)
      | refine ek_seqN ?_ | refine ek_seqX ?_ | refine ek_seqR ?_ | refine ek_blkN ?_ | refine ek_blkR ?_ | refine ek_blkX ?_ | refine ek_blkY rfl ?_)
    refine sfin (.inr rfl) (by rfl) (by rfl) (by exact ⟨rfl, rfl, rfl⟩) (by rfl) (by rfl) (by rfl) (by first | rfl | (simp; done) | (simp [ints, prs]; done))
def prOf (c : List Int) (n : Nat) : List (Int × Int) := (List.range n).map fun i => (c.getD (2 * i) 0, c.getD (2 * i + 1) 0)
theorem prOf_len (c : List Int) (n : Nat) : (prOf c n).length = n := by simp [prOf]
theorem prOf_fns : ∀ (n : Nat) (c : List Int), c.length = n * 2 → zints c = fns (prOf c n)
  | 0, c, h => by
    have : c = [] := List.length_eq_zero_iff.mp (by omega)
    subst this; rfl
  | n + 1, c, h => by
    match c, h with
    | [], h => simp at h
    | [_], h => simp at h; omega
    | x :: y :: c, h =>
      have ih := prOf_fns n c (by simp at h; omega)
      have e : prOf (x :: y :: c) (n + 1) = (x, y) :: prOf c n := by
        simp only [prOf, List.range_succ_eq_map, List.map_cons, List.map_map, List.getD_eq_getElem?_getD]
        refine List.cons_eq_cons.mpr ⟨rfl, List.map_congr_left fun i _ => ?_⟩
        simp only [Function.comp, show 2 * (i + 1) = 2 * i + 1 + 1 by omega, show 2 * (i + 1) + 1 = 2 * i + 1 + 1 + 1 by omega, List.getElem?_cons_succ]
      rw [e]
      simp only [zints, fns, List.map_cons, List.flatMap_cons, List.cons_append, List.nil_append] at ih ⊢
      rw [ih]
theorem fget2 {o j n : Nat} {l : List Int} (hl : l.length = n * 2) (h : j < n) : [V.int .i64 (l.getD (2 * j) 0), V.int .i64 (l.getD (2 * j + 1) 0)].length = 2 ∧ (o + j * 2) + 2 ≤ (List.replicate o V.any ++ nums .i64 l).length ∧ ((List.replicate o V.any ++ nums .i64 l).drop (o + j * 2)).take 2 = [V.int .i64 (l.getD (2 * j) 0), V.int .i64 (l.getD (2 * j + 1) 0)] := by
  refine ⟨rfl, by simp [nums]; omega, ?_⟩
  rw [List.drop_append, List.drop_eq_nil_of_le (by simp), List.nil_append, List.length_replicate, show o + j * 2 - o = 2 * j by omega]
  have h1 : 2 * j < (nums .i64 l).length := by simp [nums]; omega
  have h2 : 2 * j + 1 < (nums .i64 l).length := by simp [nums]; omega
  rw [List.drop_eq_getElem_cons h1, List.drop_eq_getElem_cons h2]
  simp only [List.take_succ_cons, List.take_zero, nums, List.getElem_map, List.getD_eq_getElem?_getD, List.getElem?_eq_getElem (show 2 * j < l.length by omega), List.getElem?_eq_getElem (show 2 * j + 1 < l.length by omega), Option.getD_some]
theorem zcp_mk2 {c : List Int} {n : Nat} (h : c.length = n * 2) : zints (zcp c (2 * 0)) = (List.replicate n [V.int .i64 0, V.int .i64 0]).flatten := by
  simp only [zcp, Nat.mul_zero, List.take_zero, List.nil_append, Nat.sub_zero, h]
  clear h
  induction n with
  | zero => rfl
  | succ n ih =>
    rw [show (n + 1) * 2 = n * 2 + 1 + 1 by omega]
    simp only [List.replicate_succ, zints, List.map_cons, List.flatten_cons, List.cons_append, List.nil_append] at ih ⊢; rw [ih]
theorem zcp_set2 {c : List Int} {i n : Nat} (hl : c.length = n * 2) (h : i < n) : (zints (zcp c (2 * i))).take (0 + i * 2) ++ [V.int .i64 (c.getD (2 * i) 0), V.int .i64 (c.getD (2 * i + 1) 0)] ++ (zints (zcp c (2 * i))).drop (0 + i * 2 + 2) = zints (zcp c (2 * (i + 1))) := by
  have e1 : List.replicate (c.length - 2 * i) (0 : Int) = 0 :: 0 :: List.replicate (c.length - 2 * (i + 1)) 0 := by
    rw [show c.length - 2 * i = (c.length - 2 * (i + 1)) + 1 + 1 by omega, List.replicate_succ, List.replicate_succ]
  have e2 : c.take (2 * (i + 1)) = c.take (2 * i) ++ [c.getD (2 * i) 0, c.getD (2 * i + 1) 0] := by
    rw [show 2 * (i + 1) = 2 * i + 1 + 1 by omega, List.take_add_one, List.take_add_one, List.getElem?_eq_getElem (show 2 * i < c.length by omega), List.getElem?_eq_getElem (show 2 * i + 1 < c.length by omega), List.getD_eq_getElem?_getD, List.getD_eq_getElem?_getD, List.getElem?_eq_getElem (show 2 * i < c.length by omega), List.getElem?_eq_getElem (show 2 * i + 1 < c.length by omega), List.append_assoc]; rfl
  have e3 : ((c.take (2 * i)).map fun x => V.int .i64 x).length = 2 * i := by simp; omega
  simp only [zcp, zints, List.map_append, e1, e2, show 0 + i * 2 = 2 * i by omega, List.map_cons]
  rw [List.take_append_of_le_length (by omega), List.take_of_length_le (by omega)]
  rw [List.drop_append, e3, List.drop_eq_nil_of_le (by omega), show 2 * i + 2 - 2 * i = 2 by omega]
  simp
-- laws.szFuncS
def m26 : MC := (.seq (.region [⟨(.mov (.k (.int .i64 0))), (some 4), none⟩] false) (.seq (.region [⟨(.mov (.t 1)), (some 5), none⟩, ⟨(.mov (.t 0)), (some 6), none⟩, ⟨(.len (.t 6)), (some 7), none⟩, ⟨(.bin .sub (.t 5) (.t 7)), (some 8), none⟩, ⟨(.mov (.t 8)), (some 1), none⟩] false) (.seq (.seq (.region [⟨(.mov (.t 1)), (some 9), none⟩, ⟨(.bin .lss (.t 9) (.k (.int .i64 0))), (some 10), none⟩] false) (.cond (.t 10) (.seq (.region [⟨(.mov (.k (.int .i64 (-1)))), (some 4), none⟩] false) .ret) .skip)) (.seq (.region [⟨(.mov (.t 1)), (some 11), none⟩, ⟨(.mov (.t 11)), (some 4), none⟩] false) .ret))))
theorem has26 : Has cx 26 12 m26 [(.tmp 4)] :=
  ⟨⟨Try.f26, Try.f26.body.getD .skip, by kernel_rfl, by kernel_rfl, by kernel_rfl, by kernel_rfl, by kernel_rfl, by kernel_rfl⟩⟩
theorem ev26 (o n : Nat) (c : List Int) (hn : n ≤ 9223372036854775807) : Ev cx 26 [.sl 0 o n, .int .i64 1048576] [fblk o (nums .i64 c)] (.int .i64 (if n ≤ 1048576 then 1048576 - (n : Nat) else -1)) [fblk o (nums .i64 c)] := by
  have hs : binV .sub (.int .i64 1048576) (.int .i64 (n : Nat)) = some (.int .i64 (1048576 - (n : Nat) : Int)) := b_sub (by omega) (by omega)
  by_cases h : n ≤ 1048576
  · have h1 : decide ((1048576 - (n : Nat) : Int) < 0) = false := decide_eq_false (by omega)
    rw [if_pos h]
    refine has26.eev rfl rfl ?_
    unfold m26
    repeat' (first
      | (refine g_op ?_; first
        | refine ep_mov rfl ?_
        | refine ep_bin rfl rfl (by first | exact hs | exact b_add (by omega) (by omega) | exact b_sub (by omega) (by omega) | exact b_and (by omega) (by omega) | exact b_or (by omega) (by omega) | exact b_shr (by omega) | exact b_shl (by omega) (by omega) | exact b_lss | exact b_leq | exact b_gtr | exact b_geq | exact b_eql | exact b_neq) ?_
        | refine ep_lenS rfl ?_ | refine ep_lenN rfl ?_ | refine ep_lenE rfl ?_)
      | (refine g_ops ?_; first | refine eo_none ?_ | refine eo_nil ?_)
      | (refine g_code ?_; first | refine ec_seq ?_ | refine ec_region ?_ | refine ec_skip ?_ | refine ec_ret ?_ | refine ec_condT rfl ?_ | refine ec_condF rfl ?_ | refine ec_condTH rfl (by assumption) ?_ | refine ec_condFH rfl (by assumption) ?_)
      | refine ek_seqN ?_ | refine ek_seqR ?_)
    refine sfin (.inr rfl) (by rfl) (by rfl) (by exact ⟨rfl, rfl, rfl⟩) (by rfl) (by rfl) (by rfl) (by first | rfl | (simp; done) | (simp [ints, prs]; done))
  · have h1 : decide ((1048576 - (n : Nat) : Int) < 0) = true := decide_eq_true (by omega)
    rw [if_neg h]
    refine has26.eev rfl rfl ?_
    unfold m26
    repeat' (first
      | (refine g_op ?_; first
        | refine ep_mov rfl ?_
        | refine ep_bin rfl rfl (by first | exact hs | exact b_add (by omega) (by omega) | exact b_sub (by omega) (by omega) | exact b_and (by omega) (by omega) | exact b_or (by omega) (by omega) | exact b_shr (by omega) | exact b_shl (by omega) (by omega) | exact b_lss | exact b_leq | exact b_gtr | exact b_geq | exact b_eql | exact b_neq) ?_
        | refine ep_lenS rfl ?_ | refine ep_lenN rfl ?_ | refine ep_lenE rfl ?_)
      | (refine g_ops ?_; first | refine eo_none ?_ | refine eo_nil ?_)
      | (refine g_code ?_; first | refine ec_seq ?_ | refine ec_region ?_ | refine ec_skip ?_ | refine ec_ret ?_ | refine ec_condT rfl ?_ | refine ec_condF rfl ?_ | refine ec_condTH rfl (by assumption) ?_ | refine ec_condFH rfl (by assumption) ?_)
      | refine ek_seqN ?_ | refine ek_seqR ?_)
    refine sfin (.inr rfl) (by rfl) (by rfl) (by exact ⟨rfl, rfl, rfl⟩) (by rfl) (by rfl) (by rfl) (by first | rfl | (simp; done) | (simp [ints, prs]; done))
theorem ev26_nils : Ev cx 26 [.nils, .int .i64 1048576] [] (.int .i64 1048576) [] := by
  refine has26.eev rfl rfl ?_
  unfold m26
  repeat' (first
    | (refine g_op ?_; first
      | refine ep_mov rfl ?_
      | refine ep_bin rfl rfl (by first | exact b_add (by omega) (by omega) | exact b_sub (by omega) (by omega) | exact b_and (by omega) (by omega) | exact b_or (by omega) (by omega) | exact b_shr (by omega) | exact b_shl (by omega) (by omega) | exact b_lss | exact b_leq | exact b_gtr | exact b_geq | exact b_eql | exact b_neq) ?_
      | refine ep_lenS rfl ?_ | refine ep_lenN rfl ?_ | refine ep_lenE rfl ?_)
    | (refine g_ops ?_; first | refine eo_none ?_ | refine eo_nil ?_)
    | (refine g_code ?_; first | refine ec_seq ?_ | refine ec_region ?_ | refine ec_skip ?_ | refine ec_ret ?_ | refine ec_condT rfl ?_ | refine ec_condF rfl ?_ | refine ec_condTH rfl (by assumption) ?_ | refine ec_condFH rfl (by assumption) ?_)
    | refine ek_seqN ?_ | refine ek_seqR ?_)
  refine sfin (.inr rfl) (by rfl) (by rfl) (by exact ⟨rfl, rfl, rfl⟩) (by rfl) (by rfl) (by rfl) (by first | rfl | (simp; done) | (simp [ints, prs]; done))
theorem ev26_emp : Ev cx 26 [.emp, .int .i64 1048576] [] (.int .i64 1048576) [] := by
  refine has26.eev rfl rfl ?_
  unfold m26
  repeat' (first
    | (refine g_op ?_; first
      | refine ep_mov rfl ?_
      | refine ep_bin rfl rfl (by first | exact b_add (by omega) (by omega) | exact b_sub (by omega) (by omega) | exact b_and (by omega) (by omega) | exact b_or (by omega) (by omega) | exact b_shr (by omega) | exact b_shl (by omega) (by omega) | exact b_lss | exact b_leq | exact b_gtr | exact b_geq | exact b_eql | exact b_neq) ?_
      | refine ep_lenS rfl ?_ | refine ep_lenN rfl ?_ | refine ep_lenE rfl ?_)
    | (refine g_ops ?_; first | refine eo_none ?_ | refine eo_nil ?_)
    | (refine g_code ?_; first | refine ec_seq ?_ | refine ec_region ?_ | refine ec_skip ?_ | refine ec_ret ?_ | refine ec_condT rfl ?_ | refine ec_condF rfl ?_ | refine ec_condTH rfl (by assumption) ?_ | refine ec_condFH rfl (by assumption) ?_)
    | refine ek_seqN ?_ | refine ek_seqR ?_)
  refine sfin (.inr rfl) (by rfl) (by rfl) (by exact ⟨rfl, rfl, rfl⟩) (by rfl) (by rfl) (by rfl) (by first | rfl | (simp; done) | (simp [ints, prs]; done))

end Go.Proofs.Ytdmpajkcpdjfbaa
