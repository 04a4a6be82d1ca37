/- What each function that the statement reaches returns. -/
import Derived.Test.YtdmpajkcpdjfbaaMiD
import Derived.Test.YtdmpajkcpdjfbaaChecked
import Derived.KernelRfl
set_option linter.unusedVariables false
set_option linter.unusedSimpArgs false
set_option maxRecDepth 100000
set_option maxHeartbeats 4000000
namespace Go.Proofs.Ytdmpajkcpdjfbaa
open Go Go.Proofs.Ytdmpajkcpdjfbaa.Mi
noncomputable def cx : Cx := ⟨Try.prog, id, id, by kernel_rfl⟩
attribute [local irreducible] code opsK opsDK gopK opK seqK blockK callK binV
def R2 (n : Nat) : Nat := 2 ^ n
theorem shR (n : Nat) : 1 <<< n = R2 n := by simp [R2, Nat.shiftLeft_eq]
theorem shN {n : Nat} (h : n ≤ 4) : R2 n ≤ 16 ∧ R2 (R2 n) ≤ 65536 ∧ 1 ≤ R2 n ∧ 1 ≤ R2 (R2 n) := by
  have : n = 0 ∨ n = 1 ∨ n = 2 ∨ n = 3 ∨ n = 4 := by omega
  rcases this with rfl | rfl | rfl | rfl | rfl <;> decide
theorem b_shl1 {k' : IntKind} {y : Nat} (h : R2 y < 9223372036854775808) (hy : y ≤ 64) : binV .shl (.int .i64 1) (.int k' y) = some (.int .i64 (R2 y : Nat)) := by
  rw [← shR]; exact b_shl (x := 1) (by rw [shR]; exact h) hy
attribute [local irreducible] R2
def isRel (p t : Int) : Bool := decide (1 ≤ p ∧ p ≤ 4) && decide (0 ≤ t ∧ t ≤ (R2 (R2 p.toNat) : Nat) - 1)
def isFn (p t : Int) : Bool := decide (0 ≤ p ∧ p ≤ 4) && decide (0 ≤ t ∧ t ≤ (R2 (R2 p.toNat) : Nat) - 1)
-- impl.within
def m101 : MC := (.seq (.region [⟨(.mov (.k (.bool false))), (some 6), none⟩] false) (.seq (.region [⟨(.mov (.t 0)), (some 7), none⟩, ⟨(.mov (.t 1)), (some 8), none⟩, ⟨(.bin .geq (.t 7) (.t 8)), (some 9), none⟩, ⟨(.mov (.t 9)), (some 10), none⟩, ⟨(.mov (.t 0)), (some 11), (some (10, true))⟩, ⟨(.mov (.t 2)), (some 12), (some (10, true))⟩, ⟨(.bin .leq (.t 11) (.t 12)), (some 13), (some (10, true))⟩, ⟨(.pick (.t 10) (.t 13) (.k (.bool false))), (some 14), none⟩, ⟨(.mov (.t 14)), (some 6), none⟩] false) .ret))
theorem has101 : Has cx 101 15 m101 [(.tmp 6)] :=
  ⟨⟨Try.f101, Try.f101.body.getD .skip, by kernel_rfl, by kernel_rfl, by kernel_rfl, by kernel_rfl, by kernel_rfl, by kernel_rfl⟩⟩
theorem ev101 (z lo hi : Int) : Ev cx 101 [.int .i64 z, .int .i64 lo, .int .i64 hi] [] (.bool (decide (lo ≤ z ∧ z ≤ hi))) [] := by
  by_cases h1 : lo ≤ z
  · have h2 : decide (z ≥ lo) = true := decide_eq_true h1
    refine has101.eev rfl rfl ?_
    unfold m101
    repeat' (first
      | (refine g_op ?_; first
        | refine ep_mov rfl ?_
        | refine ep_bin rfl rfl (by first | exact b_add (by omega) (by omega) | exact b_sub (by omega) (by omega) | exact b_and (by omega) (by omega) | exact b_or (by omega) (by omega) | exact b_shr (by omega) | exact b_shl (by omega) (by omega) | exact b_lss | exact b_leq | exact b_gtr | exact b_geq | exact b_eql | exact b_neq) ?_
        | refine ep_pickT rfl rfl ?_ | refine ep_pickF rfl rfl ?_ | refine ep_pickTH rfl (by assumption) rfl ?_ | refine ep_pickFH rfl (by assumption) rfl ?_)
      | (refine g_ops ?_; first | refine eo_none ?_ | refine eo_nil ?_ | refine eo_yes rfl ?_ | refine eo_no rfl ?_ | refine eo_und rfl ?_ | refine eo_yesH rfl (by assumption) ?_ | refine eo_noH rfl (by assumption) ?_)
      | (refine g_code ?_; first | refine ec_seq ?_ | refine ec_region ?_ | refine ec_ret ?_)
      | refine ek_seqN ?_ | refine ek_seqR ?_)
    refine sfin (.inr rfl) (by rfl) (by rfl) (by exact ⟨rfl, rfl, rfl⟩) (by rfl) (by rfl) (by exact congrArg V.bool (by simp [h1])) (by first | rfl | (simp; done) | (simp [ints, prs]; done))
  · have h2 : decide (z ≥ lo) = false := decide_eq_false h1
    refine has101.eev rfl rfl ?_
    unfold m101
    repeat' (first
      | (refine g_op ?_; first
        | refine ep_mov rfl ?_
        | refine ep_bin rfl rfl (by first | exact b_add (by omega) (by omega) | exact b_sub (by omega) (by omega) | exact b_and (by omega) (by omega) | exact b_or (by omega) (by omega) | exact b_shr (by omega) | exact b_shl (by omega) (by omega) | exact b_lss | exact b_leq | exact b_gtr | exact b_geq | exact b_eql | exact b_neq) ?_
        | refine ep_pickT rfl rfl ?_ | refine ep_pickF rfl rfl ?_ | refine ep_pickTH rfl (by assumption) rfl ?_ | refine ep_pickFH rfl (by assumption) rfl ?_)
      | (refine g_ops ?_; first | refine eo_none ?_ | refine eo_nil ?_ | refine eo_yes rfl ?_ | refine eo_no rfl ?_ | refine eo_und rfl ?_ | refine eo_yesH rfl (by assumption) ?_ | refine eo_noH rfl (by assumption) ?_)
      | (refine g_code ?_; first | refine ec_seq ?_ | refine ec_region ?_ | refine ec_ret ?_)
      | refine ek_seqN ?_ | refine ek_seqR ?_)
    refine sfin (.inr rfl) (by rfl) (by rfl) (by exact ⟨rfl, rfl, rfl⟩) (by rfl) (by rfl) (by exact congrArg V.bool (by simp [h1])) (by first | rfl | (simp; done) | (simp [ints, prs]; done))
-- spec.l01In
def m97 : MC := (.seq (.region [⟨(.mov (.k (.bool false))), (some 6), none⟩] false) (.seq (.region [⟨(.mov (.t 0)), (some 7), none⟩, ⟨(.mov (.t 1)), (some 8), none⟩, ⟨(.bin .geq (.t 7) (.t 8)), (some 9), none⟩, ⟨(.mov (.t 9)), (some 10), none⟩, ⟨(.mov (.t 0)), (some 11), (some (10, true))⟩, ⟨(.mov (.t 2)), (some 12), (some (10, true))⟩, ⟨(.bin .leq (.t 11) (.t 12)), (some 13), (some (10, true))⟩, ⟨(.pick (.t 10) (.t 13) (.k (.bool false))), (some 14), none⟩, ⟨(.mov (.t 14)), (some 6), none⟩] false) .ret))
theorem has97 : Has cx 97 15 m97 [(.tmp 6)] :=
  ⟨⟨Try.f97, Try.f97.body.getD .skip, by kernel_rfl, by kernel_rfl, by kernel_rfl, by kernel_rfl, by kernel_rfl, by kernel_rfl⟩⟩
theorem ev97 (z lo hi : Int) : Ev cx 97 [.int .i64 z, .int .i64 lo, .int .i64 hi] [] (.bool (decide (lo ≤ z ∧ z ≤ hi))) [] := by
  by_cases h1 : lo ≤ z
  · have h2 : decide (z ≥ lo) = true := decide_eq_true h1
    refine has97.eev rfl rfl ?_
    unfold m97
    repeat' (first
      | (refine g_op ?_; first
        | refine ep_mov rfl ?_
        | refine ep_bin rfl rfl (by first | exact b_add (by omega) (by omega) | exact b_sub (by omega) (by omega) | exact b_and (by omega) (by omega) | exact b_or (by omega) (by omega) | exact b_shr (by omega) | exact b_shl (by omega) (by omega) | exact b_lss | exact b_leq | exact b_gtr | exact b_geq | exact b_eql | exact b_neq) ?_
        | refine ep_pickT rfl rfl ?_ | refine ep_pickF rfl rfl ?_ | refine ep_pickTH rfl (by assumption) rfl ?_ | refine ep_pickFH rfl (by assumption) rfl ?_)
      | (refine g_ops ?_; first | refine eo_none ?_ | refine eo_nil ?_ | refine eo_yes rfl ?_ | refine eo_no rfl ?_ | refine eo_und rfl ?_ | refine eo_yesH rfl (by assumption) ?_ | refine eo_noH rfl (by assumption) ?_)
      | (refine g_code ?_; first | refine ec_seq ?_ | refine ec_region ?_ | refine ec_ret ?_)
      | refine ek_seqN ?_ | refine ek_seqR ?_)
    refine sfin (.inr rfl) (by rfl) (by rfl) (by exact ⟨rfl, rfl, rfl⟩) (by rfl) (by rfl) (by exact congrArg V.bool (by simp [h1])) (by first | rfl | (simp; done) | (simp [ints, prs]; done))
  · have h2 : decide (z ≥ lo) = false := decide_eq_false h1
    refine has97.eev rfl rfl ?_
    unfold m97
    repeat' (first
      | (refine g_op ?_; first
        | refine ep_mov rfl ?_
        | refine ep_bin rfl rfl (by first | exact b_add (by omega) (by omega) | exact b_sub (by omega) (by omega) | exact b_and (by omega) (by omega) | exact b_or (by omega) (by omega) | exact b_shr (by omega) | exact b_shl (by omega) (by omega) | exact b_lss | exact b_leq | exact b_gtr | exact b_geq | exact b_eql | exact b_neq) ?_
        | refine ep_pickT rfl rfl ?_ | refine ep_pickF rfl rfl ?_ | refine ep_pickTH rfl (by assumption) rfl ?_ | refine ep_pickFH rfl (by assumption) rfl ?_)
      | (refine g_ops ?_; first | refine eo_none ?_ | refine eo_nil ?_ | refine eo_yes rfl ?_ | refine eo_no rfl ?_ | refine eo_und rfl ?_ | refine eo_yesH rfl (by assumption) ?_ | refine eo_noH rfl (by assumption) ?_)
      | (refine g_code ?_; first | refine ec_seq ?_ | refine ec_region ?_ | refine ec_ret ?_)
      | refine ek_seqN ?_ | refine ek_seqR ?_)
    refine sfin (.inr rfl) (by rfl) (by rfl) (by exact ⟨rfl, rfl, rfl⟩) (by rfl) (by rfl) (by exact congrArg V.bool (by simp [h1])) (by first | rfl | (simp; done) | (simp [ints, prs]; done))
-- impl.rowsOf
def m136 : MC := (.seq (.region [⟨(.mov (.k (.int .i64 0))), (some 2), none⟩] false) (.seq (.region [⟨(.mov (.t 0)), (some 3), none⟩, ⟨(.bin .shl (.k (.int .i64 1)) (.t 3)), (some 4), none⟩, ⟨(.mov (.t 4)), (some 2), none⟩] false) .ret))
theorem has136 : Has cx 136 5 m136 [(.tmp 2)] :=
  ⟨⟨Try.f136, Try.f136.body.getD .skip, by kernel_rfl, by kernel_rfl, by kernel_rfl, by kernel_rfl, by kernel_rfl, by kernel_rfl⟩⟩
theorem ev136 (n : Nat) (h : n ≤ 4) : Ev cx 136 [.int .i64 n] [] (.int .i64 (R2 n : Nat)) [] := by
  obtain ⟨h1, h2, h3, h4⟩ := shN h
  refine has136.eev rfl rfl ?_
  unfold m136
  repeat' (first
    | (refine g_op ?_; first
      | refine ep_mov rfl ?_
      | refine ep_bin rfl rfl (by first | exact b_shl1 (by omega) (by omega) | exact b_add (by omega) (by omega) | exact b_sub (by omega) (by omega) | exact b_and (by omega) (by omega) | exact b_or (by omega) (by omega) | exact b_shr (by omega) | exact b_shl (by omega) (by omega) | exact b_lss | exact b_leq | exact b_gtr | exact b_geq | exact b_eql | exact b_neq) ?_)
    | (refine g_ops ?_; first | refine eo_none ?_ | refine eo_nil ?_)
    | (refine g_code ?_; first | refine ec_seq ?_ | refine ec_region ?_ | refine ec_ret ?_)
    | refine ek_seqN ?_ | refine ek_seqR ?_)
  refine sfin (.inr rfl) (by rfl) (by rfl) (by exact ⟨rfl, rfl, rfl⟩) (by rfl) (by rfl) (by rfl) (by first | rfl | (simp; done) | (simp [ints, prs]; done))
-- impl.funcsOf
def m102 : MC := (.seq (.region [⟨(.mov (.k (.int .i64 0))), (some 2), none⟩] false) (.seq (.region [⟨(.mov (.t 0)), (some 3), none⟩, ⟨(.call 136 [(.t 3)]), (some 4), none⟩, ⟨(.bin .shl (.k (.int .i64 1)) (.t 4)), (some 5), none⟩, ⟨(.mov (.t 5)), (some 2), none⟩] false) .ret))
theorem has102 : Has cx 102 6 m102 [(.tmp 2)] :=
  ⟨⟨Try.f102, Try.f102.body.getD .skip, by kernel_rfl, by kernel_rfl, by kernel_rfl, by kernel_rfl, by kernel_rfl, by kernel_rfl⟩⟩
theorem ev102 (n : Nat) (h : n ≤ 4) : Ev cx 102 [.int .i64 n] [] (.int .i64 (R2 (R2 n) : Nat)) [] := by
  obtain ⟨h1, h2, h3, h4⟩ := shN h
  refine has102.eev rfl rfl ?_
  unfold m102
  repeat' (first
    | (refine g_op ?_; first
      | refine ep_mov rfl ?_
      | refine ep_call0 rfl (by first | exact ev136 _ h) rfl rfl ?_
      | refine sp_call rfl rfl rfl rfl (by first | exact ev136 _ h) ⟨rfl, rfl, rfl, rfl⟩ rfl rfl rfl ?_
      | refine ep_bin rfl rfl (by first | exact b_shl1 (by omega) (by omega) | exact b_add (by omega) (by omega) | exact b_sub (by omega) (by omega) | exact b_and (by omega) (by omega) | exact b_or (by omega) (by omega) | exact b_shr (by omega) | exact b_shl (by omega) (by omega) | exact b_lss | exact b_leq | exact b_gtr | exact b_geq | exact b_eql | exact b_neq) ?_)
    | (refine g_ops ?_; first | refine eo_none ?_ | refine eo_nil ?_)
    | (refine g_code ?_; first | refine ec_seq ?_ | refine ec_region ?_ | refine ec_ret ?_)
    | refine ek_seqN ?_ | refine ek_seqR ?_)
  refine sfin (.inr rfl) (by rfl) (by rfl) (by exact ⟨rfl, rfl, rfl⟩) (by rfl) (by rfl) (by rfl) (by first | rfl | (simp; done) | (simp [ints, prs]; done))
-- spec.l01Rows
def m58 : MC := (.seq (.region [⟨(.mov (.k (.int .i64 0))), (some 2), none⟩] false) (.seq (.region [⟨(.mov (.t 0)), (some 3), none⟩, ⟨(.conv .u64 (.t 3)), (some 4), none⟩, ⟨(.bin .shl (.k (.int .i64 1)) (.t 4)), (some 5), none⟩, ⟨(.mov (.t 5)), (some 2), none⟩] false) .ret))
theorem has58 : Has cx 58 6 m58 [(.tmp 2)] :=
  ⟨⟨Try.f58, Try.f58.body.getD .skip, by kernel_rfl, by kernel_rfl, by kernel_rfl, by kernel_rfl, by kernel_rfl, by kernel_rfl⟩⟩
theorem ev58 (n : Nat) (h : n ≤ 4) : Ev cx 58 [.int .i64 n] [] (.int .i64 (R2 n : Nat)) [] := by
  obtain ⟨h1, h2, h3, h4⟩ := shN h
  refine has58.eev rfl rfl ?_
  unfold m58
  repeat' (first
    | (refine g_op ?_; first
      | refine ep_mov rfl ?_
      | refine ep_bin rfl rfl (by first | exact b_shl1 (by omega) (by omega) | exact b_add (by omega) (by omega) | exact b_sub (by omega) (by omega) | exact b_and (by omega) (by omega) | exact b_or (by omega) (by omega) | exact b_shr (by omega) | exact b_shl (by omega) (by omega) | exact b_lss | exact b_leq | exact b_gtr | exact b_geq | exact b_eql | exact b_neq) ?_
      | refine ep_conv rfl (by first | exact w_u64 (by omega) (by omega) | exact wrap_id (by omega) (by omega) | rfl) ?_)
    | (refine g_ops ?_; first | refine eo_none ?_ | refine eo_nil ?_)
    | (refine g_code ?_; first | refine ec_seq ?_ | refine ec_region ?_ | refine ec_ret ?_)
    | refine ek_seqN ?_ | refine ek_seqR ?_)
  refine sfin (.inr rfl) (by rfl) (by rfl) (by exact ⟨rfl, rfl, rfl⟩) (by rfl) (by rfl) (by rfl) (by first | rfl | (simp; done) | (simp [ints, prs]; done))
-- spec.l01All
def m98 : MC := (.seq (.region [⟨(.mov (.k (.int .i64 0))), (some 2), none⟩] false) (.seq (.region [⟨(.mov (.t 0)), (some 3), none⟩, ⟨(.call 58 [(.t 3)]), (some 4), none⟩, ⟨(.conv .u64 (.t 4)), (some 5), none⟩, ⟨(.bin .shl (.k (.int .i64 1)) (.t 5)), (some 6), none⟩, ⟨(.bin .sub (.t 6) (.k (.int .i64 1))), (some 7), none⟩, ⟨(.mov (.t 7)), (some 2), none⟩] false) .ret))
theorem has98 : Has cx 98 8 m98 [(.tmp 2)] :=
  ⟨⟨Try.f98, Try.f98.body.getD .skip, by kernel_rfl, by kernel_rfl, by kernel_rfl, by kernel_rfl, by kernel_rfl, by kernel_rfl⟩⟩
theorem ev98 (n : Nat) (h : n ≤ 4) : Ev cx 98 [.int .i64 n] [] (.int .i64 ((R2 (R2 n) : Nat) - 1)) [] := by
  obtain ⟨h1, h2, h3, h4⟩ := shN h
  refine has98.eev rfl rfl ?_
  unfold m98
  repeat' (first
    | (refine g_op ?_; first
      | refine ep_mov rfl ?_
      | refine ep_call0 rfl (by first | exact ev58 _ h) rfl rfl ?_
      | refine sp_call rfl rfl rfl rfl (by first | exact ev58 _ h) ⟨rfl, rfl, rfl, rfl⟩ rfl rfl rfl ?_
      | refine ep_bin rfl rfl (by first | exact b_shl1 (by omega) (by omega) | exact b_add (by omega) (by omega) | exact b_sub (by omega) (by omega) | exact b_and (by omega) (by omega) | exact b_or (by omega) (by omega) | exact b_shr (by omega) | exact b_shl (by omega) (by omega) | exact b_lss | exact b_leq | exact b_gtr | exact b_geq | exact b_eql | exact b_neq) ?_
      | refine ep_conv rfl (by first | exact w_u64 (by omega) (by omega) | exact wrap_id (by omega) (by omega) | rfl) ?_)
    | (refine g_ops ?_; first | refine eo_none ?_ | refine eo_nil ?_)
    | (refine g_code ?_; first | refine ec_seq ?_ | refine ec_region ?_ | refine ec_ret ?_)
    | refine ek_seqN ?_ | refine ek_seqR ?_)
  refine sfin (.inr rfl) (by rfl) (by rfl) (by exact ⟨rfl, rfl, rfl⟩) (by rfl) (by rfl) (by rfl) (by first | rfl | (simp; done) | (simp [ints, prs]; done))
-- impl.isArity
def m100 : MC := (.seq (.region [⟨(.mov (.k (.bool false))), (some 2), none⟩] false) (.seq (.region [⟨(.mov (.t 0)), (some 3), none⟩, ⟨(.call 101 [(.t 3), (.k (.int .i64 0)), (.k (.int .i64 4))]), (some 4), none⟩, ⟨(.mov (.t 4)), (some 2), none⟩] false) .ret))
theorem has100 : Has cx 100 5 m100 [(.tmp 2)] :=
  ⟨⟨Try.f100, Try.f100.body.getD .skip, by kernel_rfl, by kernel_rfl, by kernel_rfl, by kernel_rfl, by kernel_rfl, by kernel_rfl⟩⟩
theorem ev100 (z : Int) : Ev cx 100 [.int .i64 z] [] (.bool (decide (0 ≤ z ∧ z ≤ 4))) [] := by
  refine has100.eev rfl rfl ?_
  unfold m100
  repeat' (first
    | (refine g_op ?_; first
      | refine ep_mov rfl ?_
      | refine ep_call0 rfl (by first | exact ev101 _ _ _) rfl rfl ?_
      | refine sp_call rfl rfl rfl rfl (by first | exact ev101 _ _ _) ⟨rfl, rfl, rfl, rfl⟩ rfl rfl rfl ?_)
    | (refine g_ops ?_; first | refine eo_none ?_ | refine eo_nil ?_)
    | (refine g_code ?_; first | refine ec_seq ?_ | refine ec_region ?_ | refine ec_ret ?_)
    | refine ek_seqN ?_ | refine ek_seqR ?_)
  refine sfin (.inr rfl) (by rfl) (by rfl) (by exact ⟨rfl, rfl, rfl⟩) (by rfl) (by rfl) (by rfl) (by first | rfl | (simp; done) | (simp [ints, prs]; done))
structure RR where
  a : Int
  b : Int
  c : Int
abbrev rr (x : RR) : V := .tup [.agg [.int .i64 x.a, .int .i64 x.b], .int .i64 x.c]
theorem isRel_nat {p t : Int} (h : isRel p t = true) : ∃ n b : Nat, p = n ∧ t = b ∧ 1 ≤ n ∧ n ≤ 4 ∧ b < R2 (R2 n) ∧ b < 65536 := by
  simp only [isRel, Bool.and_eq_true, decide_eq_true_eq] at h
  obtain ⟨⟨h1, h2⟩, h3, h4⟩ := h
  obtain ⟨n, rfl⟩ := Int.eq_ofNat_of_zero_le (show 0 ≤ p by omega)
  obtain ⟨b, rfl⟩ := Int.eq_ofNat_of_zero_le h3
  simp only [Int.toNat_natCast] at h4
  obtain ⟨_, q, _⟩ := shN (n := n) (by omega)
  exact ⟨n, b, rfl, rfl, by omega, by omega, by omega, by omega⟩
theorem isFn_nat {p t : Int} (h : isFn p t = true) : ∃ n b : Nat, p = n ∧ t = b ∧ n ≤ 4 ∧ b < R2 (R2 n) ∧ b < 65536 := by
  simp only [isFn, Bool.and_eq_true, decide_eq_true_eq] at h
  obtain ⟨⟨h1, h2⟩, h3, h4⟩ := h
  obtain ⟨n, rfl⟩ := Int.eq_ofNat_of_zero_le (show 0 ≤ p by omega)
  obtain ⟨b, rfl⟩ := Int.eq_ofNat_of_zero_le h3
  simp only [Int.toNat_natCast] at h4
  obtain ⟨_, q, _⟩ := shN (n := n) (by omega)
  exact ⟨n, b, rfl, rfl, by omega, by omega, by omega⟩
def meetR (p t q s : Int) : RR := if isRel p t = true ∧ isRel q s = true then (if p = q then ⟨p, (t.toNat &&& s.toNat : Nat), 0⟩ else ⟨0, 0, 2⟩) else ⟨0, 0, 1⟩
def bt (b r : Nat) : Nat := (b >>> r) &&& 1
theorem bt_le (b r : Nat) : bt b r ≤ 1 := by unfold bt; exact Nat.and_le_right
theorem shr_lt {b r : Nat} (h : b < 9223372036854775808) : b >>> r < 9223372036854775808 := Nat.lt_of_le_of_lt (Nat.shiftRight_le b r) h
theorem b_bt {b r : Nat} (h : b < 9223372036854775808) : binV .and (.int .i64 (b >>> r : Nat)) (.int .i64 1) = some (.int .i64 (bt b r : Nat)) := b_and (y := 1) (shr_lt h) (by omega)
theorem R2_le {j n : Nat} (h : j < n) : 2 * R2 j ≤ R2 n := by
  unfold R2; rw [← Nat.pow_succ']; exact Nat.pow_le_pow_right (by omega) (by omega)
theorem or_lt {x y n : Nat} (hx : x < R2 n) (hy : y < R2 n) : x ||| y < R2 n := by unfold R2 at *; exact Nat.or_lt_two_pow hx hy
attribute [local irreducible] bt
-- impl.bit
def m137 : MC := (.seq (.region [⟨(.mov (.k (.int .i64 0))), (some 4), none⟩] false) (.seq (.region [⟨(.mov (.t 0)), (some 5), none⟩, ⟨(.mov (.t 1)), (some 6), none⟩, ⟨(.bin .shr (.t 5) (.t 6)), (some 7), none⟩, ⟨(.bin .and (.t 7) (.k (.int .i64 1))), (some 8), none⟩, ⟨(.mov (.t 8)), (some 4), none⟩] false) .ret))
theorem has137 : Has cx 137 9 m137 [(.tmp 4)] :=
  ⟨⟨Try.f137, Try.f137.body.getD .skip, by kernel_rfl, by kernel_rfl, by kernel_rfl, by kernel_rfl, by kernel_rfl, by kernel_rfl⟩⟩
theorem ev137 (b r : Nat) (hb : b < 9223372036854775808) (hr : r ≤ 64) : Ev cx 137 [.int .i64 b, .int .i64 r] [] (.int .i64 (bt b r : Nat)) [] := by
  refine has137.eev rfl rfl ?_
  unfold m137
  repeat' (first
    | (refine g_op ?_; first
      | refine ep_mov rfl ?_
      | refine ep_bin rfl rfl (by first | exact b_shr hr | exact b_bt hb | exact b_add (by omega) (by omega) | exact b_sub (by omega) (by omega) | exact b_and (by omega) (by omega) | exact b_or (by omega) (by omega) | exact b_shr (by omega) | exact b_shl (by omega) (by omega) | exact b_lss | exact b_leq | exact b_gtr | exact b_geq | exact b_eql | exact b_neq) ?_)
    | (refine g_ops ?_; first | refine eo_none ?_ | refine eo_nil ?_)
    | (refine g_code ?_; first | refine ec_seq ?_ | refine ec_region ?_ | refine ec_ret ?_)
    | refine ek_seqN ?_ | refine ek_seqR ?_)
  refine sfin (.inr rfl) (by rfl) (by rfl) (by exact ⟨rfl, rfl, rfl⟩) (by rfl) (by rfl) (by rfl) (by first | rfl | (simp; done) | (simp [ints, prs]; done))
-- (impl.Func).at
def m104 : MC := (.seq (.region [⟨(.box (.t 0)), (some 2), none⟩, ⟨(.mov (.k (.int .i64 0))), (some 4), none⟩] false) (.seq (.region [⟨(.fieldAddr 1 (.t 2)), (some 5), none⟩, ⟨(.load none (.t 5)), (some 6), none⟩, ⟨(.mov (.t 1)), (some 7), none⟩, ⟨(.call 137 [(.t 6), (.t 7)]), (some 8), none⟩, ⟨(.mov (.t 8)), (some 4), none⟩] false) .ret))
theorem has104 : Has cx 104 9 m104 [(.tmp 4)] :=
  ⟨⟨Try.f104, Try.f104.body.getD .skip, by kernel_rfl, by kernel_rfl, by kernel_rfl, by kernel_rfl, by kernel_rfl, by kernel_rfl⟩⟩
theorem ev104 (n : Int) (b r : Nat) (hb : b < 9223372036854775808) (hr : r ≤ 64) : Ev cx 104 [.agg [.int .i64 n, .int .i64 b], .int .i64 r] [] (.int .i64 (bt b r : Nat)) [] := by
  refine has104.eev rfl rfl ?_
  unfold m104
  repeat' (first
    | (refine g_op ?_; first
      | refine ep_mov rfl ?_ | refine ep_load1 rfl rfl rfl rfl ?_ | refine ep_fieldAddr rfl ?_
      | refine ep_call0 rfl (by first | exact ev137 _ _ hb hr) rfl rfl ?_
      | refine sp_call rfl rfl rfl rfl (by first | exact ev137 _ _ hb hr) ⟨rfl, rfl, rfl, rfl⟩ rfl rfl rfl ?_
      | refine sp_box rfl rfl rfl rfl rfl ?_)
    | (refine g_ops ?_; first | refine eo_none ?_ | refine eo_nil ?_)
    | (refine g_code ?_; first | refine ec_seq ?_ | refine ec_region ?_ | refine ec_ret ?_)
    | refine ek_seqN ?_ | refine ek_seqR ?_)
  refine sfin (.inr rfl) (by rfl) (by rfl) (by exact ⟨rfl, rfl, rfl⟩) (by rfl) (by rfl) (by rfl) (by first | rfl | (simp; done) | (simp [ints, prs]; done))
-- (impl.Func).rows
def m106 : MC := (.seq (.region [⟨(.box (.t 0)), (some 1), none⟩, ⟨(.mov (.k (.int .i64 0))), (some 2), none⟩] false) (.seq (.region [⟨(.fieldAddr 0 (.t 1)), (some 3), none⟩, ⟨(.load none (.t 3)), (some 4), none⟩, ⟨(.call 136 [(.t 4)]), (some 5), none⟩, ⟨(.mov (.t 5)), (some 2), none⟩] false) .ret))
theorem has106 : Has cx 106 6 m106 [(.tmp 2)] :=
  ⟨⟨Try.f106, Try.f106.body.getD .skip, by kernel_rfl, by kernel_rfl, by kernel_rfl, by kernel_rfl, by kernel_rfl, by kernel_rfl⟩⟩
theorem ev106 (n : Nat) (b : Int) (h : n ≤ 4) : Ev cx 106 [.agg [.int .i64 n, .int .i64 b]] [] (.int .i64 (R2 n : Nat)) [] := by
  refine has106.eev rfl rfl ?_
  unfold m106
  repeat' (first
    | (refine g_op ?_; first
      | refine ep_mov rfl ?_ | refine ep_load1 rfl rfl rfl rfl ?_ | refine ep_fieldAddr rfl ?_
      | refine ep_call0 rfl (by first | exact ev136 _ h) rfl rfl ?_
      | refine sp_call rfl rfl rfl rfl (by first | exact ev136 _ h) ⟨rfl, rfl, rfl, rfl⟩ rfl rfl rfl ?_
      | refine sp_box rfl rfl rfl rfl rfl ?_)
    | (refine g_ops ?_; first | refine eo_none ?_ | refine eo_nil ?_)
    | (refine g_code ?_; first | refine ec_seq ?_ | refine ec_region ?_ | refine ec_ret ?_)
    | refine ek_seqN ?_ | refine ek_seqR ?_)
  refine sfin (.inr rfl) (by rfl) (by rfl) (by exact ⟨rfl, rfl, rfl⟩) (by rfl) (by rfl) (by rfl) (by first | rfl | (simp; done) | (simp [ints, prs]; done))
def monoP (b r i : Nat) : Bool := decide (¬ (bt b r > bt b (r ||| R2 i)))
def monoB (n b : Nat) : Bool := allF (fun r => allF (monoP b r) 0 n) 0 (R2 n)
-- impl.IsFunc
def m55 : MC := (.seq (.region [⟨(.box (.t 0)), (some 1), none⟩, ⟨(.mov (.k (.bool false))), (some 2), none⟩] false) (.seq (.region [⟨(.fieldAddr 0 (.t 1)), (some 3), none⟩, ⟨(.load none (.t 3)), (some 4), none⟩, ⟨(.callw 100 [(.t 4)]), (some 5), none⟩, ⟨(.mov (.t 5)), (some 6), none⟩, ⟨(.fieldAddr 1 (.t 1)), (some 7), (some (6, true))⟩, ⟨(.load none (.t 7)), (some 8), (some (6, true))⟩, ⟨(.fieldAddr 0 (.t 1)), (some 9), (some (6, true))⟩, ⟨(.load none (.t 9)), (some 10), (some (6, true))⟩, ⟨(.call 102 [(.t 10)]), (some 11), (some (6, true))⟩, ⟨(.bin .sub (.t 11) (.k (.int .i64 1))), (some 12), (some (6, true))⟩, ⟨(.callw 101 [(.t 8), (.k (.int .i64 0)), (.t 12)]), (some 13), (some (6, true))⟩, ⟨(.pick (.t 6) (.t 13) (.k (.bool false))), (some 14), none⟩, ⟨(.mov (.t 14)), (some 2), none⟩] true) .ret))
theorem has55 : Has cx 55 15 m55 [(.tmp 2)] :=
  ⟨⟨Try.f55, Try.f55.body.getD .skip, by kernel_rfl, by kernel_rfl, by kernel_rfl, by kernel_rfl, by kernel_rfl, by kernel_rfl⟩⟩
theorem ev55 (p t : Int) : Ev cx 55 [.agg [.int .i64 p, .int .i64 t]] [] (.bool (isFn p t)) [] := by
  by_cases h1 : 0 ≤ p ∧ p ≤ 4
  · have h2 : decide (0 ≤ p ∧ p ≤ 4) = true := decide_eq_true h1
    obtain ⟨n, rfl⟩ := Int.eq_ofNat_of_zero_le (show 0 ≤ p by omega)
    have h3 : n ≤ 4 := by omega
    obtain ⟨h4, h5, h6, h7⟩ := shN h3
    refine has55.eev rfl rfl ?_
    unfold m55
    repeat' (first
      | (refine g_op ?_; first
        | refine ep_mov rfl ?_ | refine ep_load1 rfl rfl rfl rfl ?_ | refine ep_fieldAddr rfl ?_
        | refine ep_call0 rfl (by first | exact ev100 _ | exact ev101 _ _ _ | exact ev102 _ h3) rfl rfl ?_
        | refine sp_call rfl rfl rfl rfl (by first | exact ev100 _ | exact ev101 _ _ _ | exact ev102 _ h3) ⟨rfl, rfl, rfl, rfl⟩ rfl rfl rfl ?_
        | refine ep_callw0 rfl (by first | exact ev100 _ | exact ev101 _ _ _ | exact ev102 _ h3) rfl rfl ?_
        | refine sp_callw rfl rfl rfl rfl (by first | exact ev100 _ | exact ev101 _ _ _ | exact ev102 _ h3) ⟨rfl, rfl, rfl, rfl⟩ rfl rfl rfl (by first | exact WrP_refl _ _ | (repeat' (first | exact rfl | exact True.intro | refine And.intro ?_ ?_))) ?_
        | refine ep_bin rfl rfl (by first | exact b_add (by omega) (by omega) | exact b_sub (by omega) (by omega) | exact b_and (by omega) (by omega) | exact b_or (by omega) (by omega) | exact b_shr (by omega) | exact b_shl (by omega) (by omega) | exact b_lss | exact b_leq | exact b_gtr | exact b_geq | exact b_eql | exact b_neq) ?_
        | refine ep_pickT rfl rfl ?_ | refine ep_pickF rfl rfl ?_ | refine ep_pickTH rfl (by assumption) rfl ?_ | refine ep_pickFH rfl (by assumption) rfl ?_ | refine sp_box rfl rfl rfl rfl rfl ?_)
      | (refine g_ops ?_; first | refine eo_none ?_ | refine eo_nil ?_ | refine eo_yes rfl ?_ | refine eo_no rfl ?_ | refine eo_und rfl ?_ | refine eo_yesH rfl (by assumption) ?_ | refine eo_noH rfl (by assumption) ?_)
      | (refine g_dops ?_; first | refine ed_none ?_ | refine ed_nil ?_ | refine ed_yes rfl ?_ | refine ed_no rfl ?_ | refine ed_und rfl ?_ | refine ed_yesH rfl (by assumption) ?_ | refine ed_noH rfl (by assumption) ?_)
      | refine ed_same rfl ?_ | refine ed_one rfl rfl rfl rfl ?_ | refine ed_two rfl rfl rfl rfl rfl rfl rfl ?_ | refine ed_write rfl rfl ?_
      | (refine g_code ?_; first | refine ec_seq ?_ | refine ec_region ?_ | refine ec_draw ?_ | refine ec_ret ?_)
      | refine ek_seqN ?_ | refine ek_seqR ?_)
    refine sfin (.inr rfl) (by rfl) (by rfl) (by exact ⟨rfl, rfl, rfl⟩) (by rfl) (by rfl) (by exact congrArg V.bool (by simp [isFn, h1])) (by first | rfl | (simp; done) | (simp [ints, prs]; done))
  · have h2 : decide (0 ≤ p ∧ p ≤ 4) = false := decide_eq_false h1
    refine has55.eev rfl rfl ?_
    unfold m55
    repeat' (first
      | (refine g_op ?_; first
        | refine ep_mov rfl ?_ | refine ep_load1 rfl rfl rfl rfl ?_ | refine ep_fieldAddr rfl ?_
        | refine ep_call0 rfl (by first | exact ev100 _ | exact ev101 _ _ _) rfl rfl ?_
        | refine sp_call rfl rfl rfl rfl (by first | exact ev100 _ | exact ev101 _ _ _) ⟨rfl, rfl, rfl, rfl⟩ rfl rfl rfl ?_
        | refine ep_callw0 rfl (by first | exact ev100 _ | exact ev101 _ _ _) rfl rfl ?_
        | refine sp_callw rfl rfl rfl rfl (by first | exact ev100 _ | exact ev101 _ _ _) ⟨rfl, rfl, rfl, rfl⟩ rfl rfl rfl (by first | exact WrP_refl _ _ | (repeat' (first | exact rfl | exact True.intro | refine And.intro ?_ ?_))) ?_
        | refine ep_bin rfl rfl (by first | exact b_add (by omega) (by omega) | exact b_sub (by omega) (by omega) | exact b_and (by omega) (by omega) | exact b_or (by omega) (by omega) | exact b_shr (by omega) | exact b_shl (by omega) (by omega) | exact b_lss | exact b_leq | exact b_gtr | exact b_geq | exact b_eql | exact b_neq) ?_
        | refine ep_pickT rfl rfl ?_ | refine ep_pickF rfl rfl ?_ | refine ep_pickTH rfl (by assumption) rfl ?_ | refine ep_pickFH rfl (by assumption) rfl ?_ | refine sp_box rfl rfl rfl rfl rfl ?_)
      | (refine g_ops ?_; first | refine eo_none ?_ | refine eo_nil ?_ | refine eo_yes rfl ?_ | refine eo_no rfl ?_ | refine eo_und rfl ?_ | refine eo_yesH rfl (by assumption) ?_ | refine eo_noH rfl (by assumption) ?_)
      | (refine g_dops ?_; first | refine ed_none ?_ | refine ed_nil ?_ | refine ed_yes rfl ?_ | refine ed_no rfl ?_ | refine ed_und rfl ?_ | refine ed_yesH rfl (by assumption) ?_ | refine ed_noH rfl (by assumption) ?_)
      | refine ed_same rfl ?_ | refine ed_one rfl rfl rfl rfl ?_ | refine ed_two rfl rfl rfl rfl rfl rfl rfl ?_ | refine ed_write rfl rfl ?_
      | (refine g_code ?_; first | refine ec_seq ?_ | refine ec_region ?_ | refine ec_draw ?_ | refine ec_ret ?_)
      | refine ek_seqN ?_ | refine ek_seqR ?_)
    refine sfin (.inr rfl) (by rfl) (by rfl) (by exact ⟨rfl, rfl, rfl⟩) (by rfl) (by rfl) (by exact congrArg V.bool (by simp [isFn, h1])) (by first | rfl | (simp; done) | (simp [ints, prs]; done))
-- spec.l01Is
def m53 : MC := (.seq (.region [⟨(.box (.t 0)), (some 1), none⟩, ⟨(.mov (.k (.bool false))), (some 2), none⟩] false) (.seq (.region [⟨(.fieldAddr 0 (.t 1)), (some 3), none⟩, ⟨(.load none (.t 3)), (some 4), none⟩, ⟨(.callw 97 [(.t 4), (.k (.int .i64 0)), (.k (.int .i64 4))]), (some 5), none⟩, ⟨(.mov (.t 5)), (some 6), none⟩, ⟨(.fieldAddr 1 (.t 1)), (some 7), (some (6, true))⟩, ⟨(.load none (.t 7)), (some 8), (some (6, true))⟩, ⟨(.fieldAddr 0 (.t 1)), (some 9), (some (6, true))⟩, ⟨(.load none (.t 9)), (some 10), (some (6, true))⟩, ⟨(.call 98 [(.t 10)]), (some 11), (some (6, true))⟩, ⟨(.callw 97 [(.t 8), (.k (.int .i64 0)), (.t 11)]), (some 12), (some (6, true))⟩, ⟨(.pick (.t 6) (.t 12) (.k (.bool false))), (some 13), none⟩, ⟨(.mov (.t 13)), (some 2), none⟩] true) .ret))
theorem has53 : Has cx 53 14 m53 [(.tmp 2)] :=
  ⟨⟨Try.f53, Try.f53.body.getD .skip, by kernel_rfl, by kernel_rfl, by kernel_rfl, by kernel_rfl, by kernel_rfl, by kernel_rfl⟩⟩
theorem ev53 (p t : Int) : Ev cx 53 [.agg [.int .i64 p, .int .i64 t]] [] (.bool (isFn p t)) [] := by
  by_cases h1 : 0 ≤ p ∧ p ≤ 4
  · have h2 : decide (0 ≤ p ∧ p ≤ 4) = true := decide_eq_true h1
    obtain ⟨n, rfl⟩ := Int.eq_ofNat_of_zero_le (show 0 ≤ p by omega)
    have h3 : n ≤ 4 := by omega
    obtain ⟨h4, h5, h6, h7⟩ := shN h3
    refine has53.eev rfl rfl ?_
    unfold m53
    repeat' (first
      | (refine g_op ?_; first
        | refine ep_mov rfl ?_ | refine ep_load1 rfl rfl rfl rfl ?_ | refine ep_fieldAddr rfl ?_
        | refine ep_call0 rfl (by first | exact ev97 _ _ _ | exact ev98 _ h3) rfl rfl ?_
        | refine sp_call rfl rfl rfl rfl (by first | exact ev97 _ _ _ | exact ev98 _ h3) ⟨rfl, rfl, rfl, rfl⟩ rfl rfl rfl ?_
        | refine ep_callw0 rfl (by first | exact ev97 _ _ _ | exact ev98 _ h3) rfl rfl ?_
        | refine sp_callw rfl rfl rfl rfl (by first | exact ev97 _ _ _ | exact ev98 _ h3) ⟨rfl, rfl, rfl, rfl⟩ rfl rfl rfl (by first | exact WrP_refl _ _ | (repeat' (first | exact rfl | exact True.intro | refine And.intro ?_ ?_))) ?_
        | refine ep_pickT rfl rfl ?_ | refine ep_pickF rfl rfl ?_ | refine ep_pickTH rfl (by assumption) rfl ?_ | refine ep_pickFH rfl (by assumption) rfl ?_ | refine sp_box rfl rfl rfl rfl rfl ?_)
      | (refine g_ops ?_; first | refine eo_none ?_ | refine eo_nil ?_ | refine eo_yes rfl ?_ | refine eo_no rfl ?_ | refine eo_und rfl ?_ | refine eo_yesH rfl (by assumption) ?_ | refine eo_noH rfl (by assumption) ?_)
      | (refine g_dops ?_; first | refine ed_none ?_ | refine ed_nil ?_ | refine ed_yes rfl ?_ | refine ed_no rfl ?_ | refine ed_und rfl ?_ | refine ed_yesH rfl (by assumption) ?_ | refine ed_noH rfl (by assumption) ?_)
      | refine ed_same rfl ?_ | refine ed_one rfl rfl rfl rfl ?_ | refine ed_two rfl rfl rfl rfl rfl rfl rfl ?_ | refine ed_write rfl rfl ?_
      | (refine g_code ?_; first | refine ec_seq ?_ | refine ec_region ?_ | refine ec_draw ?_ | refine ec_ret ?_)
      | refine ek_seqN ?_ | refine ek_seqR ?_)
    refine sfin (.inr rfl) (by rfl) (by rfl) (by exact ⟨rfl, rfl, rfl⟩) (by rfl) (by rfl) (by exact congrArg V.bool (by simp [isFn, h1])) (by first | rfl | (simp; done) | (simp [ints, prs]; done))
  · have h2 : decide (0 ≤ p ∧ p ≤ 4) = false := decide_eq_false h1
    refine has53.eev rfl rfl ?_
    unfold m53
    repeat' (first
      | (refine g_op ?_; first
        | refine ep_mov rfl ?_ | refine ep_load1 rfl rfl rfl rfl ?_ | refine ep_fieldAddr rfl ?_
        | refine ep_call0 rfl (by first | exact ev97 _ _ _) rfl rfl ?_
        | refine sp_call rfl rfl rfl rfl (by first | exact ev97 _ _ _) ⟨rfl, rfl, rfl, rfl⟩ rfl rfl rfl ?_
        | refine ep_callw0 rfl (by first | exact ev97 _ _ _) rfl rfl ?_
        | refine sp_callw rfl rfl rfl rfl (by first | exact ev97 _ _ _) ⟨rfl, rfl, rfl, rfl⟩ rfl rfl rfl (by first | exact WrP_refl _ _ | (repeat' (first | exact rfl | exact True.intro | refine And.intro ?_ ?_))) ?_
        | refine ep_pickT rfl rfl ?_ | refine ep_pickF rfl rfl ?_ | refine ep_pickTH rfl (by assumption) rfl ?_ | refine ep_pickFH rfl (by assumption) rfl ?_ | refine sp_box rfl rfl rfl rfl rfl ?_)
      | (refine g_ops ?_; first | refine eo_none ?_ | refine eo_nil ?_ | refine eo_yes rfl ?_ | refine eo_no rfl ?_ | refine eo_und rfl ?_ | refine eo_yesH rfl (by assumption) ?_ | refine eo_noH rfl (by assumption) ?_)
      | (refine g_dops ?_; first | refine ed_none ?_ | refine ed_nil ?_ | refine ed_yes rfl ?_ | refine ed_no rfl ?_ | refine ed_und rfl ?_ | refine ed_yesH rfl (by assumption) ?_ | refine ed_noH rfl (by assumption) ?_)
      | refine ed_same rfl ?_ | refine ed_one rfl rfl rfl rfl ?_ | refine ed_two rfl rfl rfl rfl rfl rfl rfl ?_ | refine ed_write rfl rfl ?_
      | (refine g_code ?_; first | refine ec_seq ?_ | refine ec_region ?_ | refine ec_draw ?_ | refine ec_ret ?_)
      | refine ek_seqN ?_ | refine ek_seqR ?_)
    refine sfin (.inr rfl) (by rfl) (by rfl) (by exact ⟨rfl, rfl, rfl⟩) (by rfl) (by rfl) (by exact congrArg V.bool (by simp [isFn, h1])) (by first | rfl | (simp; done) | (simp [ints, prs]; done))
-- laws.toFunc
def m17 : MC := (.seq (.region [⟨(.box (.t 0)), (some 1), none⟩, ⟨(.alloc [(.int .i64 0), (.int .i64 0)]), (some 2), none⟩] false) (.seq (.region [⟨(.alloc [(.int .i64 0), (.int .i64 0)]), (some 3), none⟩] false) (.seq (.region [⟨(.fieldAddr 0 (.t 1)), (some 4), none⟩, ⟨(.load none (.t 4)), (some 5), none⟩, ⟨(.fieldAddr 0 (.t 3)), (some 6), none⟩, ⟨(.store 1 (.t 6) (.t 5)), none, none⟩] false) (.seq (.region [⟨(.fieldAddr 1 (.t 1)), (some 7), none⟩, ⟨(.load none (.t 7)), (some 8), none⟩, ⟨(.fieldAddr 1 (.t 3)), (some 9), none⟩, ⟨(.store 1 (.t 9) (.t 8)), none, none⟩] false) (.seq (.region [⟨(.load (some 2) (.t 3)), (some 10), none⟩, ⟨(.store 2 (.t 2) (.t 10)), none, none⟩] false) .ret)))))
theorem has17 : Has cx 17 11 m17 [(.cell 2 (some 2))] :=
  ⟨⟨Try.f17, Try.f17.body.getD .skip, by kernel_rfl, by kernel_rfl, by kernel_rfl, by kernel_rfl, by kernel_rfl, by kernel_rfl⟩⟩
theorem ev17 (a b : Int) : Ev cx 17 [.agg [.int .i64 a, .int .i64 b]] [] (.agg [.int .i64 a, .int .i64 b]) [] := by
  refine has17.eev rfl rfl ?_
  unfold m17
  repeat' (first
    | (refine g_op ?_; first
      | refine ep_load1 rfl rfl rfl rfl ?_ | refine ep_fieldAddr rfl ?_ | refine sp_loadN rfl rfl rfl rfl rfl ?_
      | refine sp_store rfl rfl rfl rfl rfl rfl rfl rfl rfl rfl ?_ | refine sp_box rfl rfl rfl rfl rfl ?_ | refine sp_alloc rfl rfl ?_)
    | (refine g_ops ?_; first | refine eo_none ?_ | refine eo_nil ?_)
    | (refine g_code ?_; first | refine ec_seq ?_ | refine ec_region ?_ | refine ec_ret ?_)
    | refine ek_seqN ?_ | refine ek_seqR ?_)
  refine sfin (.inr rfl) (by rfl) (by rfl) (by exact ⟨rfl, rfl, rfl⟩) (by rfl) (by rfl) (by rfl) (by first | rfl | (simp; done) | (simp [ints, prs]; done))
-- spec.l01At
def m57 : MC := (.seq (.region [⟨(.box (.t 0)), (some 2), none⟩, ⟨(.mov (.k (.int .i64 0))), (some 4), none⟩] false) (.seq (.region [⟨(.fieldAddr 1 (.t 2)), (some 5), none⟩, ⟨(.load none (.t 5)), (some 6), none⟩, ⟨(.mov (.t 1)), (some 7), none⟩, ⟨(.conv .u64 (.t 7)), (some 8), none⟩, ⟨(.bin .shr (.t 6) (.t 8)), (some 9), none⟩, ⟨(.bin .and (.t 9) (.k (.int .i64 1))), (some 10), none⟩, ⟨(.mov (.t 10)), (some 4), none⟩] false) .ret))
theorem has57 : Has cx 57 11 m57 [(.tmp 4)] :=
  ⟨⟨Try.f57, Try.f57.body.getD .skip, by kernel_rfl, by kernel_rfl, by kernel_rfl, by kernel_rfl, by kernel_rfl, by kernel_rfl⟩⟩
theorem ev57 (n : Int) (b r : Nat) (hb : b < 9223372036854775808) (hr : r ≤ 64) : Ev cx 57 [.agg [.int .i64 n, .int .i64 b], .int .i64 r] [] (.int .i64 (bt b r : Nat)) [] := by
  refine has57.eev rfl rfl ?_
  unfold m57
  repeat' (first
    | (refine g_op ?_; first
      | refine ep_mov rfl ?_ | refine ep_load1 rfl rfl rfl rfl ?_ | refine ep_fieldAddr rfl ?_
      | refine ep_bin rfl rfl (by first | exact b_shr hr | exact b_bt hb | exact b_add (by omega) (by omega) | exact b_sub (by omega) (by omega) | exact b_and (by omega) (by omega) | exact b_or (by omega) (by omega) | exact b_shr (by omega) | exact b_shl (by omega) (by omega) | exact b_lss | exact b_leq | exact b_gtr | exact b_geq | exact b_eql | exact b_neq) ?_
      | refine ep_conv rfl (by first | exact w_u64 (by omega) (by omega) | exact wrap_id (by omega) (by omega) | rfl) ?_ | refine sp_box rfl rfl rfl rfl rfl ?_)
    | (refine g_ops ?_; first | refine eo_none ?_ | refine eo_nil ?_)
    | (refine g_code ?_; first | refine ec_seq ?_ | refine ec_region ?_ | refine ec_ret ?_)
    | refine ek_seqN ?_ | refine ek_seqR ?_)
  refine sfin (.inr rfl) (by rfl) (by rfl) (by exact ⟨rfl, rfl, rfl⟩) (by rfl) (by rfl) (by rfl) (by first | rfl | (simp; done) | (simp [ints, prs]; done))
def ints (l : List Nat) : List V := l.map fun (x : Nat) => .int .i64 (x : Int)
def zints (l : List Int) : List V := l.map fun x => .int .i64 x
def prs (n : Nat) (l : List Nat) : List V := l.flatMap fun (b : Nat) => [.int .i64 n, .int .i64 b]
theorem ints_len (l : List Nat) : (ints l).length = l.length * 1 := by simp [ints]
theorem zints_len (l : List Int) : (zints l).length = l.length * 1 := by simp [zints]
theorem prs_len (n : Nat) : ∀ (l : List Nat), (prs n l).length = l.length * 2
  | [] => rfl
  | x :: xs => by have := prs_len n xs; simp [prs] at this ⊢; omega
def selm (p : Nat → Bool) (g : Nat → Nat) (n : Nat) : List Nat := ((List.range n).filter p).map g
theorem selm_t {p : Nat → Bool} {g : Nat → Nat} {i : Nat} (h : p i = true) : selm p g (i + 1) = selm p g i ++ [g i] := by
  simp [selm, List.range_succ, List.filter_append, h]
theorem selm_f {p : Nat → Bool} {g : Nat → Nat} {i : Nat} (h : p i = false) : selm p g (i + 1) = selm p g i := by
  simp [selm, List.range_succ, List.filter_append, h]
theorem selm_len (p : Nat → Bool) (g : Nat → Nat) : ∀ n, (selm p g n).length ≤ n
  | 0 => by simp [selm]
  | n + 1 => by
    have := selm_len p g n
    cases h : p n with
    | true => rw [selm_t h]; simp; omega
    | false => rw [selm_f h]; omega
theorem selm_congr {p q : Nat → Bool} {g h : Nat → Nat} : ∀ (n : Nat), (∀ i, i < n → p i = q i ∧ (p i = true → g i = h i)) → selm p g n = selm q h n
  | 0, _ => rfl
  | n + 1, hh => by
    have ih := selm_congr n fun i hi => hh i (by omega)
    obtain ⟨h1, h2⟩ := hh n (by omega)
    cases hp : p n with
    | true => rw [selm_t hp, selm_t (by rw [← h1]; exact hp), ih, h2 hp]
    | false => rw [selm_f hp, selm_f (by rw [← h1]; exact hp), ih]
def slV (z : V) (k : Nat) (l : List Nat) : V := match l with | [] => z | x :: xs => .sl k 0 (x :: xs).length
def slH (k es : Nat) (c : List Nat → List V) (l : List Nat) : List Blk := match l with | [] => [] | x :: xs => [⟨c (x :: xs), es, k, some 0, false⟩]
abbrev idn : Nat → Nat := fun i => i
def monoL (n : Nat) : List Nat := selm (monoB n) idn (R2 (R2 n))
theorem bt_tb (b r : Nat) : bt b r = (b.testBit r).toNat := by
  unfold bt
  rw [Nat.testBit, Nat.and_comm]
  have : 1 &&& b >>> r = (b >>> r) % 2 := by rw [Nat.and_comm, Nat.and_one_is_mod]
  rw [this]
  have := Nat.mod_two_eq_zero_or_one (b >>> r)
  rcases this with h | h <;> rw [h] <;> rfl
def pk (g : Nat → Nat) : Nat → Nat
  | 0 => 0
  | n + 1 => pk g n ||| (g n <<< n)
theorem pk_tb {g : Nat → Nat} : ∀ {n : Nat}, (∀ r, r < n → g r ≤ 1) → ∀ r, (pk g n).testBit r = (decide (r < n) && decide (g r = 1))
  | 0, _, r => by simp [pk]
  | n + 1, h, r => by
    rw [pk, Nat.testBit_or, pk_tb (fun r hr => h r (by omega)), Nat.testBit_shiftLeft]
    have hn := h n (by omega)
    by_cases e : r = n
    · subst e
      have : g r = 0 ∨ g r = 1 := by omega
      rcases this with h | h <;> simp [h]
    · by_cases hl : r < n
      · have : ¬ n ≤ r := by omega
        have : r < n + 1 := by omega
        simp [*]
      · have h1 : n ≤ r := by omega
        have h2 : ¬ r < n + 1 := by omega
        simp only [hl, h1, h2, decide_false, Bool.false_and, Bool.false_or, ge_iff_le, decide_true, Bool.true_and]
        exact Nat.testBit_lt_two_pow (Nat.lt_of_le_of_lt hn (Nat.one_lt_two_pow (by omega)))
theorem lt_R2 {x n : Nat} (h : ∀ r, n ≤ r → x.testBit r = false) : x < R2 n := by
  unfold R2; exact Nat.lt_pow_two_of_testBit x fun i hi => h i hi
theorem pk_lt {g : Nat → Nat} {n : Nat} (h : ∀ r, r < n → g r ≤ 1) : pk g n < R2 n := by
  refine lt_R2 fun r hr => ?_
  rw [pk_tb h]; have : ¬ r < n := by omega
  simp [this]
theorem sl_lt {x i m : Nat} (hx : x ≤ 1) (hi : i < m) : x <<< i < R2 m := by
  rw [Nat.shiftLeft_eq]; unfold R2
  have h1 : 2 ^ i < 2 ^ m := Nat.pow_lt_pow_right (by omega) hi
  have h2 : x * 2 ^ i ≤ 1 * 2 ^ i := Nat.mul_le_mul_right _ hx
  omega
theorem R2_mono {i n : Nat} (h : i ≤ n) : R2 i ≤ R2 n := by unfold R2; exact Nat.pow_le_pow_right (by omega) h
theorem tb_ge {x n r : Nat} (h : x < R2 n) (hr : n ≤ r) : x.testBit r = false := by
  unfold R2 at h
  exact Nat.testBit_lt_two_pow (Nat.lt_of_lt_of_le h (Nat.pow_le_pow_right (by omega) hr))
theorem ext_bt {x y n : Nat} (hx : x < R2 n) (hy : y < R2 n) (h : ∀ r, r < n → bt x r = bt y r) : x = y := by
  apply Nat.eq_of_testBit_eq
  intro r
  by_cases hr : r < n
  · have := h r hr
    rw [bt_tb, bt_tb] at this
    revert this; cases x.testBit r <;> cases y.testBit r <;> simp
  · rw [tb_ge hx (by omega), tb_ge hy (by omega)]
theorem bt_pk {g : Nat → Nat} {n : Nat} (h : ∀ r, r < n → g r ≤ 1) {r : Nat} (hr : r < n) : bt (pk g n) r = g r := by
  rw [bt_tb, pk_tb h]
  have := h r hr
  have : g r = 0 ∨ g r = 1 := by omega
  rcases this with h | h <;> simp [h, hr]
theorem pk_add {g : Nat → Nat} {n : Nat} (h : ∀ r, r < n → g r ≤ 1) : pk g n + (g n <<< n) = pk g (n + 1) := by
  have hl := pk_lt h
  rw [pk, Nat.or_comm, Nat.shiftLeft_eq, Nat.add_comm]
  unfold R2 at hl
  rw [Nat.mul_comm (g n), Nat.two_pow_add_eq_or_of_lt hl]
theorem pk_congr {g h : Nat → Nat} : ∀ {n : Nat}, (∀ r, r < n → g r = h r) → pk g n = pk h n
  | 0, _ => rfl
  | n + 1, hh => by rw [pk, pk, pk_congr fun r hr => hh r (by omega), hh n (by omega)]
theorem pk_self {b n : Nat} (h : b < R2 n) : pk (bt b) n = b :=
  ext_bt (pk_lt fun r _ => bt_le b r) h fun r hr => bt_pk (fun r _ => bt_le b r) hr
def bn (P : Nat → Bool) (t : Nat) : Nat := if P t then 1 else 0
theorem bn_le (P : Nat → Bool) (t : Nat) : bn P t ≤ 1 := by unfold bn; split <;> omega
/-- A set of numbers as bits. -/
def orA (h : Nat → Nat) : Nat → Nat
  | 0 => 0
  | n + 1 => orA h n ||| R2 (h n)
theorem R2_tb (a t : Nat) : (R2 a).testBit t = decide (a = t) := by unfold R2; rw [Nat.testBit_two_pow]
theorem orA_tb (h : Nat → Nat) : ∀ (n t : Nat), (orA h n).testBit t = decide (∃ r, r < n ∧ h r = t)
  | 0, t => by simp [orA]
  | n + 1, t => by
    rw [orA, Nat.testBit_or, orA_tb h n, R2_tb, ← Bool.decide_or]
    apply decide_eq_decide.mpr
    constructor
    · rintro (⟨r, h1, h2⟩ | h)
      · exact ⟨r, by omega, h2⟩
      · exact ⟨n, by omega, h⟩
    · rintro ⟨r, h1, h2⟩
      by_cases e : r = n
      · subst e; exact .inr h2
      · exact .inl ⟨r, by omega, h2⟩
theorem orA_lt {h : Nat → Nat} {n m : Nat} (hh : ∀ r, r < n → h r < m) : orA h n < R2 m := by
  refine lt_R2 fun t ht => ?_
  rw [orA_tb]; simp only [decide_eq_false_iff_not]
  rintro ⟨r, h1, h2⟩
  have := hh r h1; omega
theorem orA_eq {h : Nat → Nat} {n m : Nat} {P : Nat → Bool} (hh : ∀ r, r < n → h r < m) (hp : ∀ t, t < m → (P t = true ↔ ∃ r, r < n ∧ h r = t)) : orA h n = pk (bn P) m := by
  apply Nat.eq_of_testBit_eq
  intro t
  rw [orA_tb, pk_tb fun r _ => bn_le P r]
  by_cases ht : t < m
  · simp only [ht, decide_true, Bool.true_and]
    apply decide_eq_decide.mpr
    rw [← hp t ht]; unfold bn
    cases P t <;> simp
  · simp only [ht, decide_false, Bool.false_and, decide_eq_false_iff_not]
    rintro ⟨r, h1, h2⟩
    have := hh r h1; omega

def graphP (n b t : Nat) : Bool := ((bt b (t &&& (R2 n - 1)) : Nat) : Int) == ((t >>> n : Nat) : Int)
theorem and_m1 {n : Nat} (t : Nat) : t &&& (R2 n - 1) = t % R2 n := by unfold R2; exact Nat.and_two_pow_sub_one_eq_mod t n
theorem R2_pos (n : Nat) : 1 ≤ R2 n := by unfold R2; exact Nat.one_le_two_pow
def graphH (n b r : Nat) : Nat := r ||| (bt b r <<< n)
theorem graphH_eq {n b r : Nat} (hr : r < R2 n) : graphH n b r = bt b r * R2 n + r := by
  unfold graphH R2 at *
  rw [Nat.or_comm, Nat.shiftLeft_eq, Nat.mul_comm, ← Nat.two_pow_add_eq_or_of_lt hr]
theorem R2_succ (n : Nat) : R2 (n + 1) = 2 * R2 n := by unfold R2; rw [Nat.pow_succ]; omega
theorem graph_eq (n b : Nat) : orA (graphH n b) (R2 n) = pk (bn (graphP n b)) (R2 (n + 1)) := by
  refine orA_eq (fun r hr => ?_) fun t ht => ?_
  · rw [graphH_eq hr, R2_succ]
    have := bt_le b r
    have : bt b r = 0 ∨ bt b r = 1 := by omega
    rcases this with h | h <;> rw [h] <;> omega
  · have hp := R2_pos n
    have e1 : t >>> n = t / R2 n := by unfold R2; exact Nat.shiftRight_eq_div_pow t n
    simp only [graphP, and_m1, e1, beq_iff_eq, Int.natCast_inj]
    constructor
    · intro h
      refine ⟨t % R2 n, Nat.mod_lt _ hp, ?_⟩
      rw [graphH_eq (Nat.mod_lt _ hp), h, Nat.mul_comm]
      exact Nat.div_add_mod t (R2 n)
    · rintro ⟨r, hr, rfl⟩
      rw [graphH_eq hr]
      rw [Nat.mul_comm, Nat.mul_add_mod, Nat.mod_eq_of_lt hr, Nat.mul_add_div hp, Nat.div_eq_of_lt hr, Nat.add_zero]
def pop (b : Nat) : Nat → Nat
  | 0 => 0
  | n + 1 => pop b n + bt b n
def swar (b : Nat) : Nat :=
  (fun x1 : Nat => (fun x2 => (fun x3 => (fun x4 => (fun x5 => (fun x6 => x6 &&& 127) (x5 + x5 >>> 32)) (x4 + x4 >>> 16)) (x3 + x3 >>> 8)) ((x2 >>> 4 + x2) &&& 1085102592571150095)) ((x1 >>> 2 &&& 3689348814741910323) + (x1 &&& 3689348814741910323))) ((b >>> 1 &&& 6148914691236517205) + (b &&& 6148914691236517205))
theorem pop_le (b : Nat) : ∀ n, pop b n ≤ n
  | 0 => by simp [pop]
  | n + 1 => by have := pop_le b n; have := bt_le b n; simp only [pop]; omega
theorem and_le_r (x y : Nat) : x &&& y ≤ y := Nat.and_le_right
theorem and_le_l (x y : Nat) : x &&& y ≤ x := Nat.and_le_left
theorem shr_le (x y : Nat) : x >>> y ≤ x := Nat.shiftRight_le x y
-- math/bits.OnesCount64
def m139 : MC := (.seq (.region [⟨(.mov (.k (.int .i64 0))), (some 2), none⟩] false) (.seq (.region [⟨(.mov (.t 0)), (some 3), none⟩, ⟨(.bin .shr (.t 3) (.k (.int .u64 1))), (some 4), none⟩, ⟨(.bin .and (.t 4) (.k (.int .u64 6148914691236517205))), (some 5), none⟩, ⟨(.mov (.t 0)), (some 6), none⟩, ⟨(.bin .and (.t 6) (.k (.int .u64 6148914691236517205))), (some 7), none⟩, ⟨(.bin .add (.t 5) (.t 7)), (some 8), none⟩, ⟨(.mov (.t 8)), (some 0), none⟩] false) (.seq (.region [⟨(.mov (.t 0)), (some 9), none⟩, ⟨(.bin .shr (.t 9) (.k (.int .u64 2))), (some 10), none⟩, ⟨(.bin .and (.t 10) (.k (.int .u64 3689348814741910323))), (some 11), none⟩, ⟨(.mov (.t 0)), (some 12), none⟩, ⟨(.bin .and (.t 12) (.k (.int .u64 3689348814741910323))), (some 13), none⟩, ⟨(.bin .add (.t 11) (.t 13)), (some 14), none⟩, ⟨(.mov (.t 14)), (some 0), none⟩] false) (.seq (.region [⟨(.mov (.t 0)), (some 15), none⟩, ⟨(.bin .shr (.t 15) (.k (.int .u64 4))), (some 16), none⟩, ⟨(.mov (.t 0)), (some 17), none⟩, ⟨(.bin .add (.t 16) (.t 17)), (some 18), none⟩, ⟨(.bin .and (.t 18) (.k (.int .u64 1085102592571150095))), (some 19), none⟩, ⟨(.mov (.t 19)), (some 0), none⟩] false) (.seq (.region [⟨(.mov (.t 0)), (some 20), none⟩, ⟨(.mov (.t 0)), (some 21), none⟩, ⟨(.bin .shr (.t 21) (.k (.int .u64 8))), (some 22), none⟩, ⟨(.bin .add (.t 20) (.t 22)), (some 23), none⟩, ⟨(.mov (.t 23)), (some 0), none⟩] false) (.seq (.region [⟨(.mov (.t 0)), (some 24), none⟩, ⟨(.mov (.t 0)), (some 25), none⟩, ⟨(.bin .shr (.t 25) (.k (.int .u64 16))), (some 26), none⟩, ⟨(.bin .add (.t 24) (.t 26)), (some 27), none⟩, ⟨(.mov (.t 27)), (some 0), none⟩] false) (.seq (.region [⟨(.mov (.t 0)), (some 28), none⟩, ⟨(.mov (.t 0)), (some 29), none⟩, ⟨(.bin .shr (.t 29) (.k (.int .u64 32))), (some 30), none⟩, ⟨(.bin .add (.t 28) (.t 30)), (some 31), none⟩, ⟨(.mov (.t 31)), (some 0), none⟩] false) (.seq (.region [⟨(.mov (.t 0)), (some 32), none⟩, ⟨(.conv .i64 (.t 32)), (some 33), none⟩, ⟨(.bin .and (.t 33) (.k (.int .i64 127))), (some 34), none⟩, ⟨(.mov (.t 34)), (some 2), none⟩] false) .ret))))))))
theorem has139 : Has cx 139 35 m139 [(.tmp 2)] :=
  ⟨⟨Try.f139, Try.f139.body.getD .skip, by kernel_rfl, by kernel_rfl, by kernel_rfl, by kernel_rfl, by kernel_rfl, by kernel_rfl⟩⟩
theorem ev139 (b : Nat) (h : b < 65536) (hsw : swar b = pop b 16) : Ev cx 139 [.int .u64 b] [] (.int .i64 (pop b 16 : Nat)) [] := by
  rw [← hsw]
  unfold swar
  have a1 := shr_le b 1
  have a2 := and_le_l (b >>> 1) 6148914691236517205
  have a3 := and_le_l b 6148914691236517205
  generalize hx1 : (b >>> 1 &&& 6148914691236517205) + (b &&& 6148914691236517205) = x1
  have b1 := shr_le x1 2
  have b2 := and_le_l (x1 >>> 2) 3689348814741910323
  have b3 := and_le_l x1 3689348814741910323
  generalize hx2 : (x1 >>> 2 &&& 3689348814741910323) + (x1 &&& 3689348814741910323) = x2
  have c1 := shr_le x2 4
  have c2 := and_le_l (x2 >>> 4 + x2) 1085102592571150095
  generalize hx3 : (x2 >>> 4 + x2) &&& 1085102592571150095 = x3
  have d1 := shr_le x3 8
  generalize hx4 : x3 + x3 >>> 8 = x4
  have d2 := shr_le x4 16
  generalize hx5 : x4 + x4 >>> 16 = x5
  have d3 := shr_le x5 32
  generalize hx6 : x5 + x5 >>> 32 = x6
  have d4 := and_le_r x6 127
  have s1 : binV .add (.int .u64 (b >>> 1 &&& 6148914691236517205 : Nat)) (.int .u64 (b &&& 6148914691236517205 : Nat)) = some (.int .u64 (x1 : Nat)) := by rw [← hx1]; exact b_addU (by omega)
  have s2 : binV .add (.int .u64 (x1 >>> 2 &&& 3689348814741910323 : Nat)) (.int .u64 (x1 &&& 3689348814741910323 : Nat)) = some (.int .u64 (x2 : Nat)) := by rw [← hx2]; exact b_addU (by omega)
  have s3 : binV .and (.int .u64 (x2 >>> 4 + x2 : Nat)) (.int .u64 1085102592571150095) = some (.int .u64 (x3 : Nat)) := by rw [← hx3]; exact b_andU (y := 1085102592571150095) (by omega) (by omega)
  have s4 : binV .add (.int .u64 (x3 : Nat)) (.int .u64 (x3 >>> 8 : Nat)) = some (.int .u64 (x4 : Nat)) := by rw [← hx4]; exact b_addU (by omega)
  have s5 : binV .add (.int .u64 (x4 : Nat)) (.int .u64 (x4 >>> 16 : Nat)) = some (.int .u64 (x5 : Nat)) := by rw [← hx5]; exact b_addU (by omega)
  have s6 : binV .add (.int .u64 (x5 : Nat)) (.int .u64 (x5 >>> 32 : Nat)) = some (.int .u64 (x6 : Nat)) := by rw [← hx6]; exact b_addU (by omega)
  have hc : IntKind.i64.wrap (x6 : Nat) = (x6 : Nat) := wrap_id (by omega) (by omega)
  refine has139.eev rfl rfl ?_
  unfold m139
  repeat' (first
    | (refine g_op ?_; first
      | refine ep_mov rfl ?_
      | refine ep_bin rfl rfl (by first | exact s1 | exact s2 | exact s3 | exact s4 | exact s5 | exact s6 | exact b_shrU (y := 1) (by omega) | exact b_shrU (y := 2) (by omega) | exact b_shrU (y := 4) (by omega) | exact b_shrU (y := 8) (by omega) | exact b_shrU (y := 16) (by omega) | exact b_shrU (y := 32) (by omega) | exact b_andU (y := 6148914691236517205) (by omega) (by omega) | exact b_andU (y := 3689348814741910323) (by omega) (by omega) | exact b_addU (by omega) | exact b_and (y := 127) (by omega) (by omega) | exact b_add (by omega) (by omega) | exact b_sub (by omega) (by omega) | exact b_and (by omega) (by omega) | exact b_or (by omega) (by omega) | exact b_shr (by omega) | exact b_shl (by omega) (by omega) | exact b_lss | exact b_leq | exact b_gtr | exact b_geq | exact b_eql | exact b_neq) ?_
      | refine ep_conv rfl (by first | exact w_u64 (by omega) (by omega) | exact wrap_id (by omega) (by omega) | rfl) ?_)
    | (refine g_ops ?_; first | refine eo_none ?_ | refine eo_nil ?_)
    | (refine g_code ?_; first | refine ec_seq ?_ | refine ec_region ?_ | refine ec_ret ?_)
    | refine ek_seqN ?_ | refine ek_seqR ?_)
  refine sfin (.inr rfl) (by rfl) (by rfl) (by exact ⟨rfl, rfl, rfl⟩) (by rfl) (by rfl) (by (subst hx6; subst hx5; subst hx4; subst hx3; subst hx2; rfl)) (by first | rfl | (simp; done) | (simp [ints, prs]; done))
-- impl.ones
def m107 : MC := (.seq (.region [⟨(.mov (.k (.int .i64 0))), (some 2), none⟩] false) (.seq (.region [⟨(.mov (.t 0)), (some 3), none⟩, ⟨(.conv .u64 (.t 3)), (some 4), none⟩, ⟨(.call 139 [(.t 4)]), (some 5), none⟩, ⟨(.mov (.t 5)), (some 2), none⟩] false) .ret))
theorem has107 : Has cx 107 6 m107 [(.tmp 2)] :=
  ⟨⟨Try.f107, Try.f107.body.getD .skip, by kernel_rfl, by kernel_rfl, by kernel_rfl, by kernel_rfl, by kernel_rfl, by kernel_rfl⟩⟩
theorem swar16 : ∀ b : Nat, b < 16 → swar b = pop b 16 := by decide +kernel
theorem ev107 (b : Nat) (h : b < 65536) (hsw : swar b = pop b 16) : Ev cx 107 [.int .i64 b] [] (.int .i64 (pop b 16 : Nat)) [] := by
  refine has107.eev rfl rfl ?_
  unfold m107
  repeat' (first
    | (refine g_op ?_; first
      | refine ep_mov rfl ?_
      | refine ep_call0 rfl (by first | exact ev139 _ h hsw) rfl rfl ?_
      | refine sp_call rfl rfl rfl rfl (by first | exact ev139 _ h hsw) ⟨rfl, rfl, rfl, rfl⟩ rfl rfl rfl ?_
      | refine ep_conv rfl (by first | exact w_u64 (by omega) (by omega) | exact wrap_id (by omega) (by omega) | rfl) ?_)
    | (refine g_ops ?_; first | refine eo_none ?_ | refine eo_nil ?_)
    | (refine g_code ?_; first | refine ec_seq ?_ | refine ec_region ?_ | refine ec_ret ?_)
    | refine ek_seqN ?_ | refine ek_seqR ?_)
  refine sfin (.inr rfl) (by rfl) (by rfl) (by exact ⟨rfl, rfl, rfl⟩) (by rfl) (by rfl) (by rfl) (by first | rfl | (simp; done) | (simp [ints, prs]; done))
theorem pop_ge {b n : Nat} (h : b < R2 n) : ∀ m, n ≤ m → pop b m = pop b n
  | 0, hm => by have : n = 0 := by omega
                subst this; rfl
  | m + 1, hm => by
    by_cases e : n = m + 1
    · subst e; rfl
    · rw [pop, pop_ge h m (by omega), bt_tb, tb_ge h (by omega)]; rfl
theorem sel_pop (b : Nat) : ∀ n, (selm (fun r => bt b r == 1) idn n).length = pop b n
  | 0 => rfl
  | n + 1 => by
    have ih := sel_pop b n
    have := bt_le b n
    cases hp : (bt b n == 1) with
    | true => rw [selm_t (p := fun r => bt b r == 1) hp, List.length_append, ih, pop]; simp at hp; simp [hp]
    | false => rw [selm_f (p := fun r => bt b r == 1) hp, ih, pop]; simp at hp; omega
def tupL (n b : Nat) : List Nat := selm (fun r => bt b r == 1) idn (R2 n)
def cntR (p t : Int) : Int × Int := if isRel p t = true then (((pop t.toNat 16 : Nat) : Int), (0 : Int)) else (0, 1)
theorem wf64 {z : Int} (h : (Lit.int .i64 z).wf = true) : -9223372036854775808 ≤ z ∧ z < 9223372036854775808 := by
  simp only [Lit.wf, IntKind.min, IntKind.max, IntKind.signed, IntKind.bits, Bool.and_eq_true, decide_eq_true_eq] at h
  simp at h; omega
theorem ieq (x y : Nat) : (((x : Nat) : Int) == ((y : Nat) : Int)) = (x == y) := by rw [Bool.eq_iff_iff]; simp only [beq_iff_eq]; omega
theorem ine (x y : Nat) : (((x : Nat) : Int) != ((y : Nat) : Int)) = (x != y) := by rw [bne, bne, ieq]
theorem ieq1 (x : Nat) : (((x : Nat) : Int) == 1) = (x == 1) := ieq x 1
theorem ieq0 (x : Nat) : (((x : Nat) : Int) == 0) = (x == 0) := ieq x 0
theorem ints_get {l : List Nat} {j : Nat} (h : j < l.length) : (ints l)[0 + j * 1]? = some (.int .i64 (l.getD j 0 : Nat)) := by
  simp [ints, h]
theorem zints_get {l : List Int} {j : Nat} (h : j < l.length) : (zints l)[0 + j * 1]? = some (.int .i64 (l.getD j 0)) := by
  simp [zints, h]
theorem prs_get {n : Nat} : ∀ {l : List Nat} {j : Nat} (_ : j < l.length), [V.int .i64 (n : Nat), V.int .i64 (l.getD j 0 : Nat)].length = 2 ∧ (0 + j * 2) + 2 ≤ (prs n l).length ∧ ((prs n l).drop (0 + j * 2)).take 2 = [V.int .i64 (n : Nat), V.int .i64 (l.getD j 0 : Nat)]
  | [], j, h => by simp at h
  | x :: xs, 0, h => by simp [prs]
  | x :: xs, j + 1, h => by
    obtain ⟨_, h2, h3⟩ := prs_get (n := n) (l := xs) (j := j) (by simpa using h)
    have e : (0 + (j + 1) * 2) = (0 + j * 2) + 2 := by omega
    rw [e]
    have e2 : prs n (x :: xs) = .int .i64 (n : Nat) :: .int .i64 (x : Nat) :: prs n xs := by simp [prs]
    rw [e2]
    refine ⟨rfl, by simp; omega, ?_⟩
    rw [List.drop_succ_cons, List.drop_succ_cons, h3]; simp
def fns (l : List (Int × Int)) : List V := l.flatMap fun (f : Int × Int) => [.int .i64 f.1, .int .i64 f.2]
theorem fns_len : ∀ (l : List (Int × Int)), (fns l).length = l.length * 2
  | [] => rfl
  | x :: xs => by have := fns_len xs; simp [fns] at this ⊢; omega
theorem fns_get : ∀ {l : List (Int × Int)} {j : Nat} (_ : j < l.length), [V.int .i64 (l.getD j (0, 0)).1, V.int .i64 (l.getD j (0, 0)).2].length = 2 ∧ (0 + j * 2) + 2 ≤ (fns l).length ∧ ((fns l).drop (0 + j * 2)).take 2 = [V.int .i64 (l.getD j (0, 0)).1, V.int .i64 (l.getD j (0, 0)).2]
  | [], j, h => by simp at h
  | x :: xs, 0, h => by simp [fns]
  | x :: xs, j + 1, h => by
    obtain ⟨_, h2, h3⟩ := fns_get (l := xs) (j := j) (by simpa using h)
    have e : (0 + (j + 1) * 2) = (0 + j * 2) + 2 := by omega
    rw [e]
    have e2 : fns (x :: xs) = .int .i64 x.1 :: .int .i64 x.2 :: fns xs := by simp [fns]
    rw [e2]
    refine ⟨rfl, by simp; omega, ?_⟩
    rw [List.drop_succ_cons, List.drop_succ_cons, h3]; simp
theorem xor_lt {x y n : Nat} (hx : x < R2 n) (hy : y < R2 n) : x ^^^ y < R2 n := by unfold R2 at *; exact Nat.xor_lt_two_pow hx hy
theorem selm_all {g : Nat → Nat} (n : Nat) : (selm (fun _ => true) g n).length = n ∧ ∀ r, r < n → (selm (fun _ => true) g n).getD r 0 = g r := by
  have e : selm (fun _ => true) g n = (List.range n).map g := by unfold selm; rw [List.filter_eq_self.mpr (fun _ _ => rfl)]
  rw [e]; refine ⟨by simp, fun r hr => by simp [List.getD_eq_getElem?_getD, hr]⟩
def essP (b i r : Nat) : Bool := bt b r == bt b (r ^^^ R2 i)
def ess (n b i : Nat) : Bool := !allF (essP b i) 0 (R2 n)
def essL (n b : Nat) : List Nat := selm (ess n b) idn n
-- laws.eqInt64S
def m19_0 : MC := (.seq (.seq (.region [⟨(.mov (.t 5)), (some 11), none⟩, ⟨(.mov (.t 0)), (some 12), none⟩, ⟨(.len (.t 12)), (some 13), none⟩, ⟨(.bin .lss (.t 11) (.t 13)), (some 14), none⟩] false) (.cond (.t 14) .skip (.exit 0))) (.seq (.block 1 (.seq (.region [⟨(.mov (.t 0)), (some 17), none⟩, ⟨(.mov (.t 5)), (some 18), none⟩, ⟨(.indexAddr 1 (.t 17) (.t 18)), (some 19), none⟩, ⟨(.load none (.t 19)), (some 20), none⟩, ⟨(.mov (.t 1)), (some 21), none⟩, ⟨(.mov (.t 5)), (some 22), none⟩, ⟨(.indexAddr 1 (.t 21) (.t 22)), (some 23), none⟩, ⟨(.load none (.t 23)), (some 24), none⟩, ⟨(.bin .neq (.t 20) (.t 24)), (some 25), none⟩] true) (.cond (.t 25) (.seq (.region [⟨(.mov (.k (.bool false))), (some 4), none⟩] false) .ret) .skip))) (.region [⟨(.mov (.t 5)), (some 15), none⟩, ⟨(.bin .add (.t 15) (.k (.int .i64 1))), (some 16), none⟩, ⟨(.mov (.t 16)), (some 5), none⟩] false)))
def m19 : MC := (.seq (.region [⟨(.mov (.k (.bool false))), (some 4), none⟩] false) (.seq (.seq (.region [⟨(.mov (.t 0)), (some 6), none⟩, ⟨(.len (.t 6)), (some 7), none⟩, ⟨(.mov (.t 1)), (some 8), none⟩, ⟨(.len (.t 8)), (some 9), none⟩, ⟨(.bin .neq (.t 7) (.t 9)), (some 10), none⟩] false) (.cond (.t 10) (.seq (.region [⟨(.mov (.k (.bool false))), (some 4), none⟩] false) .ret) .skip)) (.seq (.seq (.region [⟨(.mov (.k (.int .i64 0))), (some 5), none⟩] false) (.block 0 (.loop m19_0))) (.seq (.region [⟨(.mov (.k (.bool true))), (some 4), none⟩] false) .ret))))
theorem has19 : Has cx 19 26 m19 [(.tmp 4)] :=
  ⟨⟨Try.f19, Try.f19.body.getD .skip, by kernel_rfl, by kernel_rfl, by kernel_rfl, by kernel_rfl, by kernel_rfl, by kernel_rfl⟩⟩
theorem lp19_0 (n : Nat) (c d : List V) (f : Nat → Int) (p q : Option Nat) (hn : n ≤ 1048576) (hc : ∀ j, j < n → c[0 + j * 1]? = some (.int .i64 (f j))) (hd : ∀ j, j < n → d[0 + j * 1]? = some (.int .i64 (f j))) :
    LpS cx 26 2 m19_0 [(0, .sl 0 0 n), (1, .sl 1 0 n), (5, .int .i64 (0 : Nat))] [⟨c, 1, 0, p, false⟩, ⟨d, 1, 1, q, false⟩] (⟨.exit 0, [], [⟨c, 1, 0, p, false⟩, ⟨d, 1, 1, q, false⟩]⟩ : Out).x (⟨.exit 0, [], [⟨c, 1, 0, p, false⟩, ⟨d, 1, 1, q, false⟩]⟩ : Out).e (⟨.exit 0, [], [⟨c, 1, 0, p, false⟩, ⟨d, 1, 1, q, false⟩]⟩ : Out).h := by
  refine lp_st (n) (fun _ => ()) (fun i _ => [(0, .sl 0 0 n), (1, .sl 1 0 n), (5, .int .i64 (i : Nat))]) (fun i _ => [⟨c, 1, 0, p, false⟩, ⟨d, 1, 1, q, false⟩]) (fun _ => (⟨.exit 0, [], [⟨c, 1, 0, p, false⟩, ⟨d, 1, 1, q, false⟩]⟩ : Out)) ?_ ?_ (n) 0 (by omega)
  · intro i u_ hi hu_
    refine ⟨(), rfl, ?_⟩
    have hlt : decide ((i : Int) < (n : Nat)) = true := decide_eq_true (by omega)
    have hc1 := hc i hi
    have hd1 := hd i hi
    have hq : (f i != f i) = false := by simp
    unfold m19_0
    repeat' (first
      | (refine g_op ?_; first
        | refine ep_mov rfl ?_ | refine ep_load1 rfl rfl rfl rfl ?_
        | refine ep_bin rfl rfl (by first | exact b_add (by omega) (by omega) | exact b_sub (by omega) (by omega) | exact b_and (by omega) (by omega) | exact b_or (by omega) (by omega) | exact b_shr (by omega) | exact b_shl (by omega) (by omega) | exact b_lss | exact b_leq | exact b_gtr | exact b_geq | exact b_eql | exact b_neq) ?_
        | refine ep_lenS rfl ?_ | refine ep_lenN rfl ?_ | refine ep_lenE rfl ?_ | refine sp_idx rfl rfl rfl (by omega) rfl ?_ | refine ep_loadS rfl rfl rfl (by first | exact ints_get (by omega) | exact zints_get (by omega) | exact fget (by omega) | assumption) ?_)
      | (refine g_ops ?_; first | refine eo_none ?_ | refine eo_nil ?_)
      | (refine g_dops ?_; first | refine ed_none ?_ | refine ed_nil ?_)
      | refine ed_same rfl ?_ | refine ed_one rfl rfl rfl rfl ?_ | refine ed_two rfl rfl rfl rfl rfl rfl rfl ?_ | refine ed_write rfl rfl ?_
      | (refine g_code ?_; first | refine ec_seq ?_ | refine ec_region ?_ | refine ec_draw ?_ | refine ec_block ?_ | refine ec_skip ?_ | refine ec_exit ?_ | refine ec_ret ?_ | refine ec_condT rfl ?_ | refine ec_condF rfl ?_ | refine ec_condTH rfl (by assumption) ?_ | refine ec_condFH rfl (by assumption) ?_)
      | refine ek_seqN ?_ | refine ek_seqX ?_ | refine ek_seqR ?_ | refine ek_blkN ?_ | refine ek_blkR ?_ | refine ek_blkX ?_ | refine ek_blkY rfl ?_)
    exact rnd_on (by rfl) (scmp2 (by rfl) (by rfl) (by exact ⟨rfl, rfl, rfl⟩) (by rfl) (by first | rfl | (simp; done) | (simp [ints, prs]; done)) (by rfl) (by first | rfl | (simp; done) | (simp [ints, prs]; done)))
  · intro u_ hu_
    have hlt : decide (((n : Nat) : Int) < (n : Nat)) = false := decide_eq_false (by omega)
    unfold m19_0
    repeat' (first
      | (refine g_op ?_; first
        | refine ep_mov rfl ?_ | refine ep_load1 rfl rfl rfl rfl ?_
        | refine ep_bin rfl rfl (by first | exact b_add (by omega) (by omega) | exact b_sub (by omega) (by omega) | exact b_and (by omega) (by omega) | exact b_or (by omega) (by omega) | exact b_shr (by omega) | exact b_shl (by omega) (by omega) | exact b_lss | exact b_leq | exact b_gtr | exact b_geq | exact b_eql | exact b_neq) ?_
        | refine ep_lenS rfl ?_ | refine ep_lenN rfl ?_ | refine ep_lenE rfl ?_ | refine sp_idx rfl rfl rfl (by omega) rfl ?_ | refine ep_loadS rfl rfl rfl (by first | exact ints_get (by omega) | exact zints_get (by omega) | exact fget (by omega) | assumption) ?_)
      | (refine g_ops ?_; first | refine eo_none ?_ | refine eo_nil ?_)
      | (refine g_dops ?_; first | refine ed_none ?_ | refine ed_nil ?_)
      | refine ed_same rfl ?_ | refine ed_one rfl rfl rfl rfl ?_ | refine ed_two rfl rfl rfl rfl rfl rfl rfl ?_ | refine ed_write rfl rfl ?_
      | (refine g_code ?_; first | refine ec_seq ?_ | refine ec_region ?_ | refine ec_draw ?_ | refine ec_block ?_ | refine ec_skip ?_ | refine ec_exit ?_ | refine ec_ret ?_ | refine ec_condT rfl ?_ | refine ec_condF rfl ?_ | refine ec_condTH rfl (by assumption) ?_ | refine ec_condFH rfl (by assumption) ?_)
      | refine ek_seqN ?_ | refine ek_seqX ?_ | refine ek_seqR ?_ | refine ek_blkN ?_ | refine ek_blkR ?_ | refine ek_blkX ?_ | refine ek_blkY rfl ?_)
    exact rnd_out (by rfl) (by simp) (scmp2 (by rfl) (by rfl) (by exact ⟨rfl, rfl, rfl⟩) (by rfl) (by first | rfl | (simp; done) | (simp [ints, prs]; done)) (by rfl) (by first | rfl | (simp; done) | (simp [ints, prs]; done)))

theorem ev19 (n : Nat) (c d : List V) (f : Nat → Int) (p q : Option Nat) (hn : n ≤ 1048576) (hc : ∀ j, j < n → c[0 + j * 1]? = some (.int .i64 (f j))) (hd : ∀ j, j < n → d[0 + j * 1]? = some (.int .i64 (f j))) :
    Ev cx 19 [.sl 0 0 n, .sl 1 0 n] [⟨c, 1, 0, p, false⟩, ⟨d, 1, 1, q, false⟩] (.bool true) [⟨c, 1, 0, p, false⟩, ⟨d, 1, 1, q, false⟩] := by
  have lp := lp19_0 n c d f p q hn hc hd
  have hq : (((n : Nat) : Int) != (n : Nat)) = false := by simp
  refine has19.eev rfl rfl ?_
  unfold m19
  repeat' (first
    | refine sc_loop lp rfl rfl ⟨rfl, rfl, rfl⟩ rfl rfl rfl ?_
    | (refine g_op ?_; first
      | refine ep_mov rfl ?_
      | refine ep_bin rfl rfl (by first | exact b_add (by omega) (by omega) | exact b_sub (by omega) (by omega) | exact b_and (by omega) (by omega) | exact b_or (by omega) (by omega) | exact b_shr (by omega) | exact b_shl (by omega) (by omega) | exact b_lss | exact b_leq | exact b_gtr | exact b_geq | exact b_eql | exact b_neq) ?_
      | refine ep_lenS rfl ?_ | refine ep_lenN rfl ?_ | refine ep_lenE rfl ?_)
    | (refine g_ops ?_; first | refine eo_none ?_ | refine eo_nil ?_)
    | (refine g_code ?_; first | refine ec_seq ?_ | refine ec_region ?_ | refine ec_block ?_ | refine ec_skip ?_ | refine ec_ret ?_ | refine ec_condT rfl ?_ | refine ec_condF rfl ?_ | refine ec_condTH rfl (by assumption) ?_ | refine ec_condFH rfl (by assumption) ?_)
    | refine ek_seqN ?_ | refine ek_seqX ?_ | refine ek_seqR ?_ | refine ek_blkN ?_ | refine ek_blkR ?_ | refine ek_blkX ?_ | refine ek_blkY rfl ?_)
  refine sfin (.inr rfl) (by rfl) (by rfl) (by exact ⟨rfl, rfl, rfl⟩) (by rfl) (by rfl) (by rfl) (by first | rfl | (simp; done) | (simp [ints, prs]; done))
theorem lp19_0_nils_nils  :
    LpS cx 26 0 m19_0 [(0, .nils), (1, .nils), (5, .int .i64 (0 : Nat))] [] (⟨.exit 0, [], []⟩ : Out).x (⟨.exit 0, [], []⟩ : Out).e (⟨.exit 0, [], []⟩ : Out).h := by
  refine lp_st (0) (fun _ => ()) (fun i _ => [(0, .nils), (1, .nils), (5, .int .i64 (i : Nat))]) (fun i _ => []) (fun _ => (⟨.exit 0, [], []⟩ : Out)) ?_ ?_ (0) 0 (by omega)
  · intro i u_ hi hu_
    refine ⟨(), rfl, ?_⟩
    exact absurd hi (by simp)
  · intro u_ hu_
    have hlt : decide (((0 : Nat) : Int) < (0 : Nat)) = false := decide_eq_false (by omega)
    unfold m19_0
    repeat' (first
      | (refine g_op ?_; first
        | refine ep_mov rfl ?_ | refine ep_load1 rfl rfl rfl rfl ?_
        | refine ep_bin rfl rfl (by first | exact b_add (by omega) (by omega) | exact b_sub (by omega) (by omega) | exact b_and (by omega) (by omega) | exact b_or (by omega) (by omega) | exact b_shr (by omega) | exact b_shl (by omega) (by omega) | exact b_lss | exact b_leq | exact b_gtr | exact b_geq | exact b_eql | exact b_neq) ?_
        | refine ep_lenS rfl ?_ | refine ep_lenN rfl ?_ | refine ep_lenE rfl ?_ | refine sp_idx rfl rfl rfl (by omega) rfl ?_ | refine ep_loadS rfl rfl rfl (by first | exact ints_get (by omega) | exact zints_get (by omega) | exact fget (by omega) | assumption) ?_)
      | (refine g_ops ?_; first | refine eo_none ?_ | refine eo_nil ?_)
      | (refine g_dops ?_; first | refine ed_none ?_ | refine ed_nil ?_)
      | refine ed_same rfl ?_ | refine ed_one rfl rfl rfl rfl ?_ | refine ed_two rfl rfl rfl rfl rfl rfl rfl ?_ | refine ed_write rfl rfl ?_
      | (refine g_code ?_; first | refine ec_seq ?_ | refine ec_region ?_ | refine ec_draw ?_ | refine ec_block ?_ | refine ec_skip ?_ | refine ec_exit ?_ | refine ec_ret ?_ | refine ec_condT rfl ?_ | refine ec_condF rfl ?_ | refine ec_condTH rfl (by assumption) ?_ | refine ec_condFH rfl (by assumption) ?_)
      | refine ek_seqN ?_ | refine ek_seqX ?_ | refine ek_seqR ?_ | refine ek_blkN ?_ | refine ek_blkR ?_ | refine ek_blkX ?_ | refine ek_blkY rfl ?_)
    exact rnd_out (by rfl) (by simp) (scmp2 (by rfl) (by rfl) (by exact ⟨rfl, rfl, rfl⟩) (by rfl) (by first | rfl | (simp; done) | (simp [ints, prs]; done)) (by rfl) (by first | rfl | (simp; done) | (simp [ints, prs]; done)))

theorem ev19_nils_nils : Ev cx 19 [.nils, .nils] [] (.bool true) [] := by
  have lp := lp19_0_nils_nils
  refine has19.eev rfl rfl ?_
  unfold m19
  repeat' (first
    | refine sc_loop lp rfl rfl ⟨rfl, rfl, rfl⟩ rfl rfl rfl ?_
    | (refine g_op ?_; first
      | refine ep_mov rfl ?_
      | refine ep_bin rfl rfl (by first | exact b_add (by omega) (by omega) | exact b_sub (by omega) (by omega) | exact b_and (by omega) (by omega) | exact b_or (by omega) (by omega) | exact b_shr (by omega) | exact b_shl (by omega) (by omega) | exact b_lss | exact b_leq | exact b_gtr | exact b_geq | exact b_eql | exact b_neq) ?_
      | refine ep_lenS rfl ?_ | refine ep_lenN rfl ?_ | refine ep_lenE rfl ?_)
    | (refine g_ops ?_; first | refine eo_none ?_ | refine eo_nil ?_)
    | (refine g_code ?_; first | refine ec_seq ?_ | refine ec_region ?_ | refine ec_block ?_ | refine ec_skip ?_ | refine ec_ret ?_ | refine ec_condT rfl ?_ | refine ec_condF rfl ?_ | refine ec_condTH rfl (by assumption) ?_ | refine ec_condFH rfl (by assumption) ?_)
    | refine ek_seqN ?_ | refine ek_seqX ?_ | refine ek_seqR ?_ | refine ek_blkN ?_ | refine ek_blkR ?_ | refine ek_blkX ?_ | refine ek_blkY rfl ?_)
  refine sfin (.inr rfl) (by rfl) (by rfl) (by exact ⟨rfl, rfl, rfl⟩) (by rfl) (by rfl) (by rfl) (by first | rfl | (simp; done) | (simp [ints, prs]; done))
theorem lp19_0_nils_emp  :
    LpS cx 26 0 m19_0 [(0, .nils), (1, .emp), (5, .int .i64 (0 : Nat))] [] (⟨.exit 0, [], []⟩ : Out).x (⟨.exit 0, [], []⟩ : Out).e (⟨.exit 0, [], []⟩ : Out).h := by
  refine lp_st (0) (fun _ => ()) (fun i _ => [(0, .nils), (1, .emp), (5, .int .i64 (i : Nat))]) (fun i _ => []) (fun _ => (⟨.exit 0, [], []⟩ : Out)) ?_ ?_ (0) 0 (by omega)
  · intro i u_ hi hu_
    refine ⟨(), rfl, ?_⟩
    exact absurd hi (by simp)
  · intro u_ hu_
    have hlt : decide (((0 : Nat) : Int) < (0 : Nat)) = false := decide_eq_false (by omega)
    unfold m19_0
    repeat' (first
      | (refine g_op ?_; first
        | refine ep_mov rfl ?_ | refine ep_load1 rfl rfl rfl rfl ?_
        | refine ep_bin rfl rfl (by first | exact b_add (by omega) (by omega) | exact b_sub (by omega) (by omega) | exact b_and (by omega) (by omega) | exact b_or (by omega) (by omega) | exact b_shr (by omega) | exact b_shl (by omega) (by omega) | exact b_lss | exact b_leq | exact b_gtr | exact b_geq | exact b_eql | exact b_neq) ?_
        | refine ep_lenS rfl ?_ | refine ep_lenN rfl ?_ | refine ep_lenE rfl ?_ | refine sp_idx rfl rfl rfl (by omega) rfl ?_ | refine ep_loadS rfl rfl rfl (by first | exact ints_get (by omega) | exact zints_get (by omega) | exact fget (by omega) | assumption) ?_)
      | (refine g_ops ?_; first | refine eo_none ?_ | refine eo_nil ?_)
      | (refine g_dops ?_; first | refine ed_none ?_ | refine ed_nil ?_)
      | refine ed_same rfl ?_ | refine ed_one rfl rfl rfl rfl ?_ | refine ed_two rfl rfl rfl rfl rfl rfl rfl ?_ | refine ed_write rfl rfl ?_
      | (refine g_code ?_; first | refine ec_seq ?_ | refine ec_region ?_ | refine ec_draw ?_ | refine ec_block ?_ | refine ec_skip ?_ | refine ec_exit ?_ | refine ec_ret ?_ | refine ec_condT rfl ?_ | refine ec_condF rfl ?_ | refine ec_condTH rfl (by assumption) ?_ | refine ec_condFH rfl (by assumption) ?_)
      | refine ek_seqN ?_ | refine ek_seqX ?_ | refine ek_seqR ?_ | refine ek_blkN ?_ | refine ek_blkR ?_ | refine ek_blkX ?_ | refine ek_blkY rfl ?_)
    exact rnd_out (by rfl) (by simp) (scmp2 (by rfl) (by rfl) (by exact ⟨rfl, rfl, rfl⟩) (by rfl) (by first | rfl | (simp; done) | (simp [ints, prs]; done)) (by rfl) (by first | rfl | (simp; done) | (simp [ints, prs]; done)))

theorem ev19_nils_emp : Ev cx 19 [.nils, .emp] [] (.bool true) [] := by
  have lp := lp19_0_nils_emp
  refine has19.eev rfl rfl ?_
  unfold m19
  repeat' (first
    | refine sc_loop lp rfl rfl ⟨rfl, rfl, rfl⟩ rfl rfl rfl ?_
    | (refine g_op ?_; first
      | refine ep_mov rfl ?_
      | refine ep_bin rfl rfl (by first | exact b_add (by omega) (by omega) | exact b_sub (by omega) (by omega) | exact b_and (by omega) (by omega) | exact b_or (by omega) (by omega) | exact b_shr (by omega) | exact b_shl (by omega) (by omega) | exact b_lss | exact b_leq | exact b_gtr | exact b_geq | exact b_eql | exact b_neq) ?_
      | refine ep_lenS rfl ?_ | refine ep_lenN rfl ?_ | refine ep_lenE rfl ?_)
    | (refine g_ops ?_; first | refine eo_none ?_ | refine eo_nil ?_)
    | (refine g_code ?_; first | refine ec_seq ?_ | refine ec_region ?_ | refine ec_block ?_ | refine ec_skip ?_ | refine ec_ret ?_ | refine ec_condT rfl ?_ | refine ec_condF rfl ?_ | refine ec_condTH rfl (by assumption) ?_ | refine ec_condFH rfl (by assumption) ?_)
    | refine ek_seqN ?_ | refine ek_seqX ?_ | refine ek_seqR ?_ | refine ek_blkN ?_ | refine ek_blkR ?_ | refine ek_blkX ?_ | refine ek_blkY rfl ?_)
  refine sfin (.inr rfl) (by rfl) (by rfl) (by exact ⟨rfl, rfl, rfl⟩) (by rfl) (by rfl) (by rfl) (by first | rfl | (simp; done) | (simp [ints, prs]; done))
theorem lp19_0_emp_nils  :
    LpS cx 26 0 m19_0 [(0, .emp), (1, .nils), (5, .int .i64 (0 : Nat))] [] (⟨.exit 0, [], []⟩ : Out).x (⟨.exit 0, [], []⟩ : Out).e (⟨.exit 0, [], []⟩ : Out).h := by
  refine lp_st (0) (fun _ => ()) (fun i _ => [(0, .emp), (1, .nils), (5, .int .i64 (i : Nat))]) (fun i _ => []) (fun _ => (⟨.exit 0, [], []⟩ : Out)) ?_ ?_ (0) 0 (by omega)
  · intro i u_ hi hu_
    refine ⟨(), rfl, ?_⟩
    exact absurd hi (by simp)
  · intro u_ hu_
    have hlt : decide (((0 : Nat) : Int) < (0 : Nat)) = false := decide_eq_false (by omega)
    unfold m19_0
    repeat' (first
      | (refine g_op ?_; first
        | refine ep_mov rfl ?_ | refine ep_load1 rfl rfl rfl rfl ?_
        | refine ep_bin rfl rfl (by first | exact b_add (by omega) (by omega) | exact b_sub (by omega) (by omega) | exact b_and (by omega) (by omega) | exact b_or (by omega) (by omega) | exact b_shr (by omega) | exact b_shl (by omega) (by omega) | exact b_lss | exact b_leq | exact b_gtr | exact b_geq | exact b_eql | exact b_neq) ?_
        | refine ep_lenS rfl ?_ | refine ep_lenN rfl ?_ | refine ep_lenE rfl ?_ | refine sp_idx rfl rfl rfl (by omega) rfl ?_ | refine ep_loadS rfl rfl rfl (by first | exact ints_get (by omega) | exact zints_get (by omega) | exact fget (by omega) | assumption) ?_)
      | (refine g_ops ?_; first | refine eo_none ?_ | refine eo_nil ?_)
      | (refine g_dops ?_; first | refine ed_none ?_ | refine ed_nil ?_)
      | refine ed_same rfl ?_ | refine ed_one rfl rfl rfl rfl ?_ | refine ed_two rfl rfl rfl rfl rfl rfl rfl ?_ | refine ed_write rfl rfl ?_
      | (refine g_code ?_; first | refine ec_seq ?_ | refine ec_region ?_ | refine ec_draw ?_ | refine ec_block ?_ | refine ec_skip ?_ | refine ec_exit ?_ | refine ec_ret ?_ | refine ec_condT rfl ?_ | refine ec_condF rfl ?_ | refine ec_condTH rfl (by assumption) ?_ | refine ec_condFH rfl (by assumption) ?_)
      | refine ek_seqN ?_ | refine ek_seqX ?_ | refine ek_seqR ?_ | refine ek_blkN ?_ | refine ek_blkR ?_ | refine ek_blkX ?_ | refine ek_blkY rfl ?_)
    exact rnd_out (by rfl) (by simp) (scmp2 (by rfl) (by rfl) (by exact ⟨rfl, rfl, rfl⟩) (by rfl) (by first | rfl | (simp; done) | (simp [ints, prs]; done)) (by rfl) (by first | rfl | (simp; done) | (simp [ints, prs]; done)))

theorem ev19_emp_nils : Ev cx 19 [.emp, .nils] [] (.bool true) [] := by
  have lp := lp19_0_emp_nils
  refine has19.eev rfl rfl ?_
  unfold m19
  repeat' (first
    | refine sc_loop lp rfl rfl ⟨rfl, rfl, rfl⟩ rfl rfl rfl ?_
    | (refine g_op ?_; first
      | refine ep_mov rfl ?_
      | refine ep_bin rfl rfl (by first | exact b_add (by omega) (by omega) | exact b_sub (by omega) (by omega) | exact b_and (by omega) (by omega) | exact b_or (by omega) (by omega) | exact b_shr (by omega) | exact b_shl (by omega) (by omega) | exact b_lss | exact b_leq | exact b_gtr | exact b_geq | exact b_eql | exact b_neq) ?_
      | refine ep_lenS rfl ?_ | refine ep_lenN rfl ?_ | refine ep_lenE rfl ?_)
    | (refine g_ops ?_; first | refine eo_none ?_ | refine eo_nil ?_)
    | (refine g_code ?_; first | refine ec_seq ?_ | refine ec_region ?_ | refine ec_block ?_ | refine ec_skip ?_ | refine ec_ret ?_ | refine ec_condT rfl ?_ | refine ec_condF rfl ?_ | refine ec_condTH rfl (by assumption) ?_ | refine ec_condFH rfl (by assumption) ?_)
    | refine ek_seqN ?_ | refine ek_seqX ?_ | refine ek_seqR ?_ | refine ek_blkN ?_ | refine ek_blkR ?_ | refine ek_blkX ?_ | refine ek_blkY rfl ?_)
  refine sfin (.inr rfl) (by rfl) (by rfl) (by exact ⟨rfl, rfl, rfl⟩) (by rfl) (by rfl) (by rfl) (by first | rfl | (simp; done) | (simp [ints, prs]; done))
theorem lp19_0_emp_emp  :
    LpS cx 26 0 m19_0 [(0, .emp), (1, .emp), (5, .int .i64 (0 : Nat))] [] (⟨.exit 0, [], []⟩ : Out).x (⟨.exit 0, [], []⟩ : Out).e (⟨.exit 0, [], []⟩ : Out).h := by
  refine lp_st (0) (fun _ => ()) (fun i _ => [(0, .emp), (1, .emp), (5, .int .i64 (i : Nat))]) (fun i _ => []) (fun _ => (⟨.exit 0, [], []⟩ : Out)) ?_ ?_ (0) 0 (by omega)
  · intro i u_ hi hu_
    refine ⟨(), rfl, ?_⟩
    exact absurd hi (by simp)
  · intro u_ hu_
    have hlt : decide (((0 : Nat) : Int) < (0 : Nat)) = false := decide_eq_false (by omega)
    unfold m19_0
    repeat' (first
      | (refine g_op ?_; first
        | refine ep_mov rfl ?_ | refine ep_load1 rfl rfl rfl rfl ?_
        | refine ep_bin rfl rfl (by first | exact b_add (by omega) (by omega) | exact b_sub (by omega) (by omega) | exact b_and (by omega) (by omega) | exact b_or (by omega) (by omega) | exact b_shr (by omega) | exact b_shl (by omega) (by omega) | exact b_lss | exact b_leq | exact b_gtr | exact b_geq | exact b_eql | exact b_neq) ?_
        | refine ep_lenS rfl ?_ | refine ep_lenN rfl ?_ | refine ep_lenE rfl ?_ | refine sp_idx rfl rfl rfl (by omega) rfl ?_ | refine ep_loadS rfl rfl rfl (by first | exact ints_get (by omega) | exact zints_get (by omega) | exact fget (by omega) | assumption) ?_)
      | (refine g_ops ?_; first | refine eo_none ?_ | refine eo_nil ?_)
      | (refine g_dops ?_; first | refine ed_none ?_ | refine ed_nil ?_)
      | refine ed_same rfl ?_ | refine ed_one rfl rfl rfl rfl ?_ | refine ed_two rfl rfl rfl rfl rfl rfl rfl ?_ | refine ed_write rfl rfl ?_
      | (refine g_code ?_; first | refine ec_seq ?_ | refine ec_region ?_ | refine ec_draw ?_ | refine ec_block ?_ | refine ec_skip ?_ | refine ec_exit ?_ | refine ec_ret ?_ | refine ec_condT rfl ?_ | refine ec_condF rfl ?_ | refine ec_condTH rfl (by assumption) ?_ | refine ec_condFH rfl (by assumption) ?_)
      | refine ek_seqN ?_ | refine ek_seqX ?_ | refine ek_seqR ?_ | refine ek_blkN ?_ | refine ek_blkR ?_ | refine ek_blkX ?_ | refine ek_blkY rfl ?_)
    exact rnd_out (by rfl) (by simp) (scmp2 (by rfl) (by rfl) (by exact ⟨rfl, rfl, rfl⟩) (by rfl) (by first | rfl | (simp; done) | (simp [ints, prs]; done)) (by rfl) (by first | rfl | (simp; done) | (simp [ints, prs]; done)))

theorem ev19_emp_emp : Ev cx 19 [.emp, .emp] [] (.bool true) [] := by
  have lp := lp19_0_emp_emp
  refine has19.eev rfl rfl ?_
  unfold m19
  repeat' (first
    | refine sc_loop lp rfl rfl ⟨rfl, rfl, rfl⟩ rfl rfl rfl ?_
    | (refine g_op ?_; first
      | refine ep_mov rfl ?_
      | refine ep_bin rfl rfl (by first | exact b_add (by omega) (by omega) | exact b_sub (by omega) (by omega) | exact b_and (by omega) (by omega) | exact b_or (by omega) (by omega) | exact b_shr (by omega) | exact b_shl (by omega) (by omega) | exact b_lss | exact b_leq | exact b_gtr | exact b_geq | exact b_eql | exact b_neq) ?_
      | refine ep_lenS rfl ?_ | refine ep_lenN rfl ?_ | refine ep_lenE rfl ?_)
    | (refine g_ops ?_; first | refine eo_none ?_ | refine eo_nil ?_)
    | (refine g_code ?_; first | refine ec_seq ?_ | refine ec_region ?_ | refine ec_block ?_ | refine ec_skip ?_ | refine ec_ret ?_ | refine ec_condT rfl ?_ | refine ec_condF rfl ?_ | refine ec_condTH rfl (by assumption) ?_ | refine ec_condFH rfl (by assumption) ?_)
    | refine ek_seqN ?_ | refine ek_seqX ?_ | refine ek_seqR ?_ | refine ek_blkN ?_ | refine ek_blkR ?_ | refine ek_blkX ?_ | refine ek_blkY rfl ?_)
  refine sfin (.inr rfl) (by rfl) (by rfl) (by exact ⟨rfl, rfl, rfl⟩) (by rfl) (by rfl) (by rfl) (by first | rfl | (simp; done) | (simp [ints, prs]; done))

def bsz (r : Nat) : Nat := if r = 0 then 0 else if r = 1 then 1 else if r < 4 then 2 else if r < 8 then 3 else 4
theorem bszF : ∀ r, r < 16 → (∀ i, i < bsz r → 1 ≤ r / R2 i) ∧ r / R2 (bsz r) = 0 ∧ pop r (bsz r) = pop r 16 ∧ bsz r ≤ 4 := by decide +kernel
theorem bt_div (r i : Nat) : bt r i = r / R2 i % 2 := by
  unfold bt R2; rw [Nat.shiftRight_eq_div_pow, Nat.and_one_is_mod]
theorem div_succ (r i : Nat) : r / R2 i / 2 = r / R2 (i + 1) := by rw [Nat.div_div_eq_div_mul, show R2 (i + 1) = R2 i * 2 by unfold R2; rw [Nat.pow_succ]]
-- spec.l03Size
def m59_0 : MC := (.seq (.seq (.region [⟨(.mov (.t 0)), (some 4), none⟩, ⟨(.bin .gtr (.t 4) (.k (.int .i64 0))), (some 5), none⟩] false) (.cond (.t 5) .skip (.exit 0))) (.seq (.block 1 (.region [⟨(.mov (.t 3)), (some 8), none⟩, ⟨(.mov (.t 0)), (some 9), none⟩, ⟨(.bin .rem (.t 9) (.k (.int .i64 2))), (some 10), none⟩, ⟨(.bin .add (.t 8) (.t 10)), (some 11), none⟩, ⟨(.mov (.t 11)), (some 3), none⟩] false)) (.region [⟨(.mov (.t 0)), (some 6), none⟩, ⟨(.bin .quo (.t 6) (.k (.int .i64 2))), (some 7), none⟩, ⟨(.mov (.t 7)), (some 0), none⟩] false)))
def m59 : MC := (.seq (.region [⟨(.mov (.k (.int .i64 0))), (some 2), none⟩] false) (.seq (.region [⟨(.mov (.k (.int .i64 0))), (some 3), none⟩] false) (.seq (.block 0 (.loop m59_0)) (.seq (.region [⟨(.mov (.t 3)), (some 12), none⟩, ⟨(.mov (.t 12)), (some 2), none⟩] false) .ret))))
theorem has59 : Has cx 59 13 m59 [(.tmp 2)] :=
  ⟨⟨Try.f59, Try.f59.body.getD .skip, by kernel_rfl, by kernel_rfl, by kernel_rfl, by kernel_rfl, by kernel_rfl, by kernel_rfl⟩⟩
theorem lp59_0 (r : Nat) (hr : r < 16) :
    LpS cx 13 0 m59_0 [(0, .int .i64 (r / R2 (0) : Nat)), (3, .int .i64 (pop r (0) : Nat))] [] (⟨.exit 0, [(3, .int .i64 (pop r (bsz r) : Nat))], []⟩ : Out).x (⟨.exit 0, [(3, .int .i64 (pop r (bsz r) : Nat))], []⟩ : Out).e (⟨.exit 0, [(3, .int .i64 (pop r (bsz r) : Nat))], []⟩ : Out).h := by
  obtain ⟨f1, f2, f3, f4⟩ := bszF r hr
  refine lp_st (bsz r) (fun _ => ()) (fun i _ => [(0, .int .i64 (r / R2 (i) : Nat)), (3, .int .i64 (pop r (i) : Nat))]) (fun i _ => []) (fun _ => (⟨.exit 0, [(3, .int .i64 (pop r (bsz r) : Nat))], []⟩ : Out)) ?_ ?_ (bsz r) 0 (by omega)
  · intro i u_ hi hu_
    refine ⟨(), rfl, ?_⟩
    have hlt : decide ((i : Int) < (bsz r : Nat)) = true := decide_eq_true (by omega)
    have g1 := f1 i hi
    have g2 : decide (((r / R2 i : Nat) : Int) > 0) = true := decide_eq_true (by omega)
    have g3 := Nat.div_le_self r (R2 i)
    have g4 := bt_div r i
    have g5 := pop_le r i
    have b1 : binV .rem (.int .i64 (r / R2 i : Nat)) (.int .i64 2) = some (.int .i64 (bt r i : Nat)) := by rw [g4]; exact b_remN (b := 2) (by omega)
    have b2 : binV .quo (.int .i64 (r / R2 i : Nat)) (.int .i64 2) = some (.int .i64 (r / R2 (i + 1) : Nat)) := by rw [← div_succ]; exact b_quoN (b := 2) (by omega) (by omega)
    have b3 : binV .add (.int .i64 (pop r i : Nat)) (.int .i64 (bt r i : Nat)) = some (.int .i64 (pop r (i + 1) : Nat)) := by rw [pop]; exact b_addN (by have := bt_le r i; omega)
    unfold m59_0
    repeat' (first
      | (refine g_op ?_; first
        | refine ep_mov rfl ?_
        | refine ep_bin rfl rfl (by first | exact b1 | exact b2 | exact b3 | exact b_add (by omega) (by omega) | exact b_sub (by omega) (by omega) | exact b_and (by omega) (by omega) | exact b_or (by omega) (by omega) | exact b_shr (by omega) | exact b_shl (by omega) (by omega) | exact b_lss | exact b_leq | exact b_gtr | exact b_geq | exact b_eql | exact b_neq) ?_)
      | (refine g_ops ?_; first | refine eo_none ?_ | refine eo_nil ?_)
      | (refine g_code ?_; first | refine ec_seq ?_ | refine ec_region ?_ | refine ec_block ?_ | refine ec_skip ?_ | refine ec_exit ?_ | refine ec_condT rfl ?_ | refine ec_condF rfl ?_ | refine ec_condTH rfl (by assumption) ?_ | refine ec_condFH rfl (by assumption) ?_)
      | refine ek_seqN ?_ | refine ek_seqX ?_ | refine ek_blkN ?_ | refine ek_blkR ?_ | refine ek_blkX ?_ | refine ek_blkY rfl ?_)
    exact rnd_on (by rfl) (scmp2 (by rfl) (by rfl) (by exact ⟨rfl, rfl, rfl⟩) (by rfl) (by first | rfl | (simp; done) | (simp [ints, prs]; done)) (by rfl) (by first | rfl | (simp; done) | (simp [ints, prs]; done)))
  · intro u_ hu_
    have hlt : decide (((bsz r : Nat) : Int) < (bsz r : Nat)) = false := decide_eq_false (by omega)
    have g2 : decide (((r / R2 (bsz r) : Nat) : Int) > 0) = false := decide_eq_false (by omega)
    unfold m59_0
    repeat' (first
      | (refine g_op ?_; first
        | refine ep_mov rfl ?_
        | refine ep_bin rfl rfl (by first | exact b_add (by omega) (by omega) | exact b_sub (by omega) (by omega) | exact b_and (by omega) (by omega) | exact b_or (by omega) (by omega) | exact b_shr (by omega) | exact b_shl (by omega) (by omega) | exact b_lss | exact b_leq | exact b_gtr | exact b_geq | exact b_eql | exact b_neq) ?_)
      | (refine g_ops ?_; first | refine eo_none ?_ | refine eo_nil ?_)
      | (refine g_code ?_; first | refine ec_seq ?_ | refine ec_region ?_ | refine ec_block ?_ | refine ec_skip ?_ | refine ec_exit ?_ | refine ec_condT rfl ?_ | refine ec_condF rfl ?_ | refine ec_condTH rfl (by assumption) ?_ | refine ec_condFH rfl (by assumption) ?_)
      | refine ek_seqN ?_ | refine ek_seqX ?_ | refine ek_blkN ?_ | refine ek_blkR ?_ | refine ek_blkX ?_ | refine ek_blkY rfl ?_)
    exact rnd_out (by rfl) (by simp) (scmp2 (by rfl) (by rfl) (by exact ⟨rfl, rfl, rfl⟩) (by rfl) (by first | rfl | (simp; done) | (simp [ints, prs]; done)) (by rfl) (by first | rfl | (simp; done) | (simp [ints, prs]; done)))

theorem ev59 (r : Nat) (hr : r < 16) : Ev cx 59 [.int .i64 r] [] (.int .i64 (pop r 16 : Nat)) [] := by
  obtain ⟨f1, f2, f3, f4⟩ := bszF r hr
  have lp := lp59_0 r hr
  rw [f3, show pop r 0 = 0 from rfl, show r / R2 0 = r by unfold R2; simp] at lp
  refine has59.eev rfl rfl ?_
  unfold m59
  repeat' (first
    | refine sc_loop lp rfl rfl ⟨rfl, rfl, rfl⟩ rfl rfl rfl ?_
    | (refine g_op ?_; first
      | refine ep_mov rfl ?_)
    | (refine g_ops ?_; first | refine eo_none ?_ | refine eo_nil ?_)
    | (refine g_code ?_; first | refine ec_seq ?_ | refine ec_region ?_ | refine ec_block ?_ | refine ec_ret ?_)
    | refine ek_seqN ?_ | refine ek_seqX ?_ | refine ek_seqR ?_ | refine ek_blkN ?_ | refine ek_blkR ?_ | refine ek_blkX ?_ | refine ek_blkY rfl ?_)
  refine sfin (.inr rfl) (by rfl) (by rfl) (by exact ⟨rfl, rfl, rfl⟩) (by rfl) (by rfl) (by rfl) (by first | rfl | (simp; done) | (simp [ints, prs]; done))
def mkc (c : List V) (i : Nat) : List V := ints ((List.range i).map fun x => x + 1) ++ c.drop i
theorem mkc_len {c : List V} {i : Nat} (h : i ≤ c.length) : (mkc c i).length = c.length := by simp [mkc, ints]; omega
theorem mkc_get {c : List V} {i j : Nat} (h : j < i) : (mkc c i)[j]? = some (.int .i64 ((j + 1 : Nat) : Int)) := by
  rw [mkc, List.getElem?_append_left (by simp [ints]; omega)]
  simp [ints, h]
theorem mkc_set {c : List V} {i : Nat} (h : i < c.length) : (mkc c i).take i ++ [V.int .i64 ((i + 1 : Nat) : Int)] ++ (mkc c i).drop (i + 1) = mkc c (i + 1) := by
  have e1 : (ints ((List.range i).map fun x => x + 1)).length = i := by simp [ints]
  unfold mkc
  rw [List.take_append_of_le_length (by omega), List.take_of_length_le (by omega), List.drop_append, List.drop_eq_nil_of_le (by omega), e1, show i + 1 - i = 1 by omega, List.nil_append, List.drop_drop, List.range_succ, List.map_append]
  simp [ints]
theorem mkc_set1 {c : List V} {i : Nat} (h : i < c.length) : (mkc c i).take (0 + i * 1) ++ [V.int .i64 ((i + 1 : Nat) : Int)] ++ (mkc c i).drop (0 + i * 1 + 1) = mkc c (i + 1) := by
  rw [show 0 + i * 1 = i by omega]; exact mkc_set h
theorem mkc_set20 {c : List V} {i : Nat} (h : 2 * i < c.length) : (mkc c (2 * i)).take (0 + i * 2 + 0) ++ [V.int .i64 ((2 * i + 1 : Nat) : Int)] ++ (mkc c (2 * i)).drop (0 + i * 2 + 0 + 1) = mkc c (2 * i + 1) := by
  rw [show 0 + i * 2 + 0 = 2 * i by omega]; exact mkc_set h
theorem mkc_set21 {c : List V} {i : Nat} (h : 2 * i + 1 < c.length) : (mkc c (2 * i + 1)).take (0 + i * 2 + 1) ++ [V.int .i64 ((2 * i + 1 + 1 : Nat) : Int)] ++ (mkc c (2 * i + 1)).drop (0 + i * 2 + 1 + 1) = mkc c (2 * (i + 1)) := by
  rw [show 0 + i * 2 + 1 = 2 * i + 1 by omega, show 2 * (i + 1) = 2 * i + 1 + 1 by omega]; exact mkc_set h
theorem mkc_0 (c : List V) : mkc c 0 = c := by simp [mkc, ints]
def pairAt (c : List V) (j : Nat) (f : Int × Int) : Prop := [V.int .i64 f.1, V.int .i64 f.2].length = 2 ∧ (0 + j * 2) + 2 ≤ c.length ∧ (c.drop (0 + j * 2)).take 2 = [V.int .i64 f.1, V.int .i64 f.2]
-- laws.markInt64S
def m20_0 : MC := (.seq (.seq (.region [⟨(.mov (.t 5)), (some 6), none⟩, ⟨(.mov (.t 0)), (some 7), none⟩, ⟨(.len (.t 7)), (some 8), none⟩, ⟨(.bin .lss (.t 6) (.t 8)), (some 9), none⟩] false) (.cond (.t 9) .skip (.exit 0))) (.seq (.block 1 (.seq (.region [⟨(.mov (.t 0)), (some 12), none⟩, ⟨(.mov (.t 5)), (some 13), none⟩, ⟨(.mov (.t 1)), (some 14), none⟩, ⟨(.indexAddr 1 (.t 12) (.t 13)), (some 15), none⟩, ⟨(.store 1 (.t 15) (.t 14)), none, none⟩] false) (.region [⟨(.mov (.t 1)), (some 16), none⟩, ⟨(.bin .add (.t 16) (.k (.int .i64 1))), (some 17), none⟩, ⟨(.mov (.t 17)), (some 1), none⟩] false))) (.region [⟨(.mov (.t 5)), (some 10), none⟩, ⟨(.bin .add (.t 10) (.k (.int .i64 1))), (some 11), none⟩, ⟨(.mov (.t 11)), (some 5), none⟩] false)))
def m20 : MC := (.seq (.region [⟨(.mov (.k (.int .i64 0))), (some 4), none⟩] false) (.seq (.seq (.region [⟨(.mov (.k (.int .i64 0))), (some 5), none⟩] false) (.block 0 (.loop m20_0))) (.seq (.region [⟨(.mov (.t 1)), (some 18), none⟩, ⟨(.mov (.t 18)), (some 4), none⟩] false) .ret)))
theorem has20 : Has cx 20 19 m20 [(.tmp 4)] :=
  ⟨⟨Try.f20, Try.f20.body.getD .skip, by kernel_rfl, by kernel_rfl, by kernel_rfl, by kernel_rfl, by kernel_rfl, by kernel_rfl⟩⟩
theorem lp20_0 (n : Nat) (c : List V) (hn : n ≤ 1048576) (hl : c.length = n * 1) :
    LpS cx 19 1 m20_0 [(0, .sl 0 0 n), (1, .int .i64 ((0) + 1 : Nat)), (5, .int .i64 (0 : Nat))] [⟨mkc c (0), 1, 0, some 0, false⟩] (⟨.exit 0, [(1, .int .i64 ((n) + 1 : Nat))], [⟨mkc c (n), 1, 0, some 0, false⟩]⟩ : Out).x (⟨.exit 0, [(1, .int .i64 ((n) + 1 : Nat))], [⟨mkc c (n), 1, 0, some 0, false⟩]⟩ : Out).e (⟨.exit 0, [(1, .int .i64 ((n) + 1 : Nat))], [⟨mkc c (n), 1, 0, some 0, false⟩]⟩ : Out).h := by
  refine lp_st (n) (fun _ => ()) (fun i _ => [(0, .sl 0 0 n), (1, .int .i64 ((i) + 1 : Nat)), (5, .int .i64 (i : Nat))]) (fun i _ => [⟨mkc c (i), 1, 0, some 0, false⟩]) (fun _ => (⟨.exit 0, [(1, .int .i64 ((n) + 1 : Nat))], [⟨mkc c (n), 1, 0, some 0, false⟩]⟩ : Out)) ?_ ?_ (n) 0 (by omega)
  · intro i u_ hi hu_
    refine ⟨(), rfl, ?_⟩
    have hlt : decide ((i : Int) < (n : Nat)) = true := decide_eq_true (by omega)
    have b1 : binV .add (.int .i64 (i + 1 : Nat)) (.int .i64 1) = some (.int .i64 ((i + 1) + 1 : Nat)) := b_addN (b := 1) (by omega)
    have l1 := mkc_len (c := c) (i := i) (by omega)
    unfold m20_0
    repeat' (first
      | refine sp_storeS rfl rfl rfl rfl rfl rfl rfl (Nat.zero_le _) (by omega) (mkc_set1 (by omega)) rfl ?_
      | (refine g_op ?_; first
        | refine ep_mov rfl ?_
        | refine ep_bin rfl rfl (by first | exact b1 | exact b_add (by omega) (by omega) | exact b_sub (by omega) (by omega) | exact b_and (by omega) (by omega) | exact b_or (by omega) (by omega) | exact b_shr (by omega) | exact b_shl (by omega) (by omega) | exact b_lss | exact b_leq | exact b_gtr | exact b_geq | exact b_eql | exact b_neq) ?_
        | refine sp_store rfl rfl rfl rfl rfl rfl rfl rfl rfl rfl ?_ | refine ep_lenS rfl ?_ | refine ep_lenN rfl ?_ | refine ep_lenE rfl ?_ | refine sp_idx rfl rfl rfl (by omega) rfl ?_)
      | (refine g_ops ?_; first | refine eo_none ?_ | refine eo_nil ?_)
      | (refine g_code ?_; first | refine ec_seq ?_ | refine ec_region ?_ | refine ec_block ?_ | refine ec_skip ?_ | refine ec_exit ?_ | refine ec_condT rfl ?_ | refine ec_condF rfl ?_ | refine ec_condTH rfl (by assumption) ?_ | refine ec_condFH rfl (by assumption) ?_)
      | refine ek_seqN ?_ | refine ek_seqX ?_ | refine ek_blkN ?_ | refine ek_blkR ?_ | refine ek_blkX ?_ | refine ek_blkY rfl ?_)
    exact rnd_on (by rfl) (scmp2 (by rfl) (by rfl) (by exact ⟨rfl, rfl, rfl⟩) (by rfl) (by first | rfl | (simp; done) | (simp [ints, prs]; done)) (by rfl) (by first | rfl | (simp; done) | (simp [ints, prs]; done)))
  · intro u_ hu_
    have hlt : decide (((n : Nat) : Int) < (n : Nat)) = false := decide_eq_false (by omega)
    unfold m20_0
    repeat' (first
      | (refine g_op ?_; first
        | refine ep_mov rfl ?_
        | refine ep_bin rfl rfl (by first | exact b_add (by omega) (by omega) | exact b_sub (by omega) (by omega) | exact b_and (by omega) (by omega) | exact b_or (by omega) (by omega) | exact b_shr (by omega) | exact b_shl (by omega) (by omega) | exact b_lss | exact b_leq | exact b_gtr | exact b_geq | exact b_eql | exact b_neq) ?_
        | refine sp_store rfl rfl rfl rfl rfl rfl rfl rfl rfl rfl ?_ | refine ep_lenS rfl ?_ | refine ep_lenN rfl ?_ | refine ep_lenE rfl ?_ | refine sp_idx rfl rfl rfl (by omega) rfl ?_)
      | (refine g_ops ?_; first | refine eo_none ?_ | refine eo_nil ?_)
      | (refine g_code ?_; first | refine ec_seq ?_ | refine ec_region ?_ | refine ec_block ?_ | refine ec_skip ?_ | refine ec_exit ?_ | refine ec_condT rfl ?_ | refine ec_condF rfl ?_ | refine ec_condTH rfl (by assumption) ?_ | refine ec_condFH rfl (by assumption) ?_)
      | refine ek_seqN ?_ | refine ek_seqX ?_ | refine ek_blkN ?_ | refine ek_blkR ?_ | refine ek_blkX ?_ | refine ek_blkY rfl ?_)
    exact rnd_out (by rfl) (by simp) (scmp2 (by rfl) (by rfl) (by exact ⟨rfl, rfl, rfl⟩) (by rfl) (by first | rfl | (simp; done) | (simp [ints, prs]; done)) (by rfl) (by first | rfl | (simp; done) | (simp [ints, prs]; done)))

theorem ev20 (n : Nat) (c : List V) (hn : n ≤ 1048576) (hl : c.length = n * 1) : Ev cx 20 [.sl 0 0 n, .int .i64 1] [⟨c, 1, 0, some 0, false⟩] (.int .i64 (n + 1 : Nat)) [⟨mkc c n, 1, 0, some 0, false⟩] := by
  have lp := lp20_0 n c hn hl
  rw [mkc_0] at lp
  refine has20.eev rfl rfl ?_
  unfold m20
  repeat' (first
    | refine sc_loop lp rfl rfl ⟨rfl, rfl, rfl⟩ rfl rfl rfl ?_
    | (refine g_op ?_; first
      | refine ep_mov rfl ?_)
    | (refine g_ops ?_; first | refine eo_none ?_ | refine eo_nil ?_)
    | (refine g_code ?_; first | refine ec_seq ?_ | refine ec_region ?_ | refine ec_block ?_ | refine ec_ret ?_)
    | refine ek_seqN ?_ | refine ek_seqX ?_ | refine ek_seqR ?_ | refine ek_blkN ?_ | refine ek_blkR ?_ | refine ek_blkX ?_ | refine ek_blkY rfl ?_)
  refine sfin (.inr rfl) (by rfl) (by rfl) (by exact ⟨rfl, rfl, rfl⟩) (by rfl) (by rfl) (by rfl) (by first | rfl | (simp; done) | (simp [ints, prs]; done))
theorem lp20_0_nils  :
    LpS cx 19 0 m20_0 [(0, .nils), (1, .int .i64 1), (5, .int .i64 (0 : Nat))] [] (⟨.exit 0, [(1, .int .i64 1)], []⟩ : Out).x (⟨.exit 0, [(1, .int .i64 1)], []⟩ : Out).e (⟨.exit 0, [(1, .int .i64 1)], []⟩ : Out).h := by
  refine lp_st (0) (fun _ => ()) (fun i _ => [(0, .nils), (1, .int .i64 1), (5, .int .i64 (i : Nat))]) (fun i _ => []) (fun _ => (⟨.exit 0, [(1, .int .i64 1)], []⟩ : Out)) ?_ ?_ (0) 0 (by omega)
  · intro i u_ hi hu_
    refine ⟨(), rfl, ?_⟩
    exact absurd hi (by simp)
  · intro u_ hu_
    have hlt : decide (((0 : Nat) : Int) < (0 : Nat)) = false := decide_eq_false (by omega)
    unfold m20_0
    repeat' (first
      | (refine g_op ?_; first
        | refine ep_mov rfl ?_
        | refine ep_bin rfl rfl (by first | exact b_add (by omega) (by omega) | exact b_sub (by omega) (by omega) | exact b_and (by omega) (by omega) | exact b_or (by omega) (by omega) | exact b_shr (by omega) | exact b_shl (by omega) (by omega) | exact b_lss | exact b_leq | exact b_gtr | exact b_geq | exact b_eql | exact b_neq) ?_
        | refine sp_store rfl rfl rfl rfl rfl rfl rfl rfl rfl rfl ?_ | refine ep_lenS rfl ?_ | refine ep_lenN rfl ?_ | refine ep_lenE rfl ?_ | refine sp_idx rfl rfl rfl (by omega) rfl ?_)
      | (refine g_ops ?_; first | refine eo_none ?_ | refine eo_nil ?_)
      | (refine g_code ?_; first | refine ec_seq ?_ | refine ec_region ?_ | refine ec_block ?_ | refine ec_skip ?_ | refine ec_exit ?_ | refine ec_condT rfl ?_ | refine ec_condF rfl ?_ | refine ec_condTH rfl (by assumption) ?_ | refine ec_condFH rfl (by assumption) ?_)
      | refine ek_seqN ?_ | refine ek_seqX ?_ | refine ek_blkN ?_ | refine ek_blkR ?_ | refine ek_blkX ?_ | refine ek_blkY rfl ?_)
    exact rnd_out (by rfl) (by simp) (scmp2 (by rfl) (by rfl) (by exact ⟨rfl, rfl, rfl⟩) (by rfl) (by first | rfl | (simp; done) | (simp [ints, prs]; done)) (by rfl) (by first | rfl | (simp; done) | (simp [ints, prs]; done)))

theorem ev20_nils : Ev cx 20 [.nils, .int .i64 1] [] (.int .i64 1) [] := by
  have lp := lp20_0_nils
  refine has20.eev rfl rfl ?_
  unfold m20
  repeat' (first
    | refine sc_loop lp rfl rfl ⟨rfl, rfl, rfl⟩ rfl rfl rfl ?_
    | (refine g_op ?_; first
      | refine ep_mov rfl ?_)
    | (refine g_ops ?_; first | refine eo_none ?_ | refine eo_nil ?_)
    | (refine g_code ?_; first | refine ec_seq ?_ | refine ec_region ?_ | refine ec_block ?_ | refine ec_ret ?_)
    | refine ek_seqN ?_ | refine ek_seqX ?_ | refine ek_seqR ?_ | refine ek_blkN ?_ | refine ek_blkR ?_ | refine ek_blkX ?_ | refine ek_blkY rfl ?_)
  refine sfin (.inr rfl) (by rfl) (by rfl) (by exact ⟨rfl, rfl, rfl⟩) (by rfl) (by rfl) (by rfl) (by first | rfl | (simp; done) | (simp [ints, prs]; done))
theorem lp20_0_emp  :
    LpS cx 19 0 m20_0 [(0, .emp), (1, .int .i64 1), (5, .int .i64 (0 : Nat))] [] (⟨.exit 0, [(1, .int .i64 1)], []⟩ : Out).x (⟨.exit 0, [(1, .int .i64 1)], []⟩ : Out).e (⟨.exit 0, [(1, .int .i64 1)], []⟩ : Out).h := by
  refine lp_st (0) (fun _ => ()) (fun i _ => [(0, .emp), (1, .int .i64 1), (5, .int .i64 (i : Nat))]) (fun i _ => []) (fun _ => (⟨.exit 0, [(1, .int .i64 1)], []⟩ : Out)) ?_ ?_ (0) 0 (by omega)
  · intro i u_ hi hu_
    refine ⟨(), rfl, ?_⟩
    exact absurd hi (by simp)
  · intro u_ hu_
    have hlt : decide (((0 : Nat) : Int) < (0 : Nat)) = false := decide_eq_false (by omega)
    unfold m20_0
    repeat' (first
      | (refine g_op ?_; first
        | refine ep_mov rfl ?_
        | refine ep_bin rfl rfl (by first | exact b_add (by omega) (by omega) | exact b_sub (by omega) (by omega) | exact b_and (by omega) (by omega) | exact b_or (by omega) (by omega) | exact b_shr (by omega) | exact b_shl (by omega) (by omega) | exact b_lss | exact b_leq | exact b_gtr | exact b_geq | exact b_eql | exact b_neq) ?_
        | refine sp_store rfl rfl rfl rfl rfl rfl rfl rfl rfl rfl ?_ | refine ep_lenS rfl ?_ | refine ep_lenN rfl ?_ | refine ep_lenE rfl ?_ | refine sp_idx rfl rfl rfl (by omega) rfl ?_)
      | (refine g_ops ?_; first | refine eo_none ?_ | refine eo_nil ?_)
      | (refine g_code ?_; first | refine ec_seq ?_ | refine ec_region ?_ | refine ec_block ?_ | refine ec_skip ?_ | refine ec_exit ?_ | refine ec_condT rfl ?_ | refine ec_condF rfl ?_ | refine ec_condTH rfl (by assumption) ?_ | refine ec_condFH rfl (by assumption) ?_)
      | refine ek_seqN ?_ | refine ek_seqX ?_ | refine ek_blkN ?_ | refine ek_blkR ?_ | refine ek_blkX ?_ | refine ek_blkY rfl ?_)
    exact rnd_out (by rfl) (by simp) (scmp2 (by rfl) (by rfl) (by exact ⟨rfl, rfl, rfl⟩) (by rfl) (by first | rfl | (simp; done) | (simp [ints, prs]; done)) (by rfl) (by first | rfl | (simp; done) | (simp [ints, prs]; done)))

theorem ev20_emp : Ev cx 20 [.emp, .int .i64 1] [] (.int .i64 1) [] := by
  have lp := lp20_0_emp
  refine has20.eev rfl rfl ?_
  unfold m20
  repeat' (first
    | refine sc_loop lp rfl rfl ⟨rfl, rfl, rfl⟩ rfl rfl rfl ?_
    | (refine g_op ?_; first
      | refine ep_mov rfl ?_)
    | (refine g_ops ?_; first | refine eo_none ?_ | refine eo_nil ?_)
    | (refine g_code ?_; first | refine ec_seq ?_ | refine ec_region ?_ | refine ec_block ?_ | refine ec_ret ?_)
    | refine ek_seqN ?_ | refine ek_seqX ?_ | refine ek_seqR ?_ | refine ek_blkN ?_ | refine ek_blkR ?_ | refine ek_blkX ?_ | refine ek_blkY rfl ?_)
  refine sfin (.inr rfl) (by rfl) (by rfl) (by exact ⟨rfl, rfl, rfl⟩) (by rfl) (by rfl) (by rfl) (by first | rfl | (simp; done) | (simp [ints, prs]; done))
-- laws.heldInt64S
def m21_0 : MC := (.seq (.seq (.region [⟨(.mov (.t 5)), (some 6), none⟩, ⟨(.mov (.t 0)), (some 7), none⟩, ⟨(.len (.t 7)), (some 8), none⟩, ⟨(.bin .lss (.t 6) (.t 8)), (some 9), none⟩] false) (.cond (.t 9) .skip (.exit 0))) (.seq (.block 1 (.seq (.seq (.region [⟨(.mov (.t 0)), (some 12), none⟩, ⟨(.mov (.t 5)), (some 13), none⟩, ⟨(.indexAddr 1 (.t 12) (.t 13)), (some 14), none⟩, ⟨(.load none (.t 14)), (some 15), none⟩, ⟨(.mov (.t 1)), (some 16), none⟩, ⟨(.bin .neq (.t 15) (.t 16)), (some 17), none⟩] false) (.cond (.t 17) (.seq (.region [⟨(.mov (.k (.int .i64 (-1)))), (some 4), none⟩] false) .ret) .skip)) (.region [⟨(.mov (.t 1)), (some 18), none⟩, ⟨(.bin .add (.t 18) (.k (.int .i64 1))), (some 19), none⟩, ⟨(.mov (.t 19)), (some 1), none⟩] false))) (.region [⟨(.mov (.t 5)), (some 10), none⟩, ⟨(.bin .add (.t 10) (.k (.int .i64 1))), (some 11), none⟩, ⟨(.mov (.t 11)), (some 5), none⟩] false)))
def m21 : MC := (.seq (.region [⟨(.mov (.k (.int .i64 0))), (some 4), none⟩] false) (.seq (.seq (.region [⟨(.mov (.k (.int .i64 0))), (some 5), none⟩] false) (.block 0 (.loop m21_0))) (.seq (.region [⟨(.mov (.t 1)), (some 20), none⟩, ⟨(.mov (.t 20)), (some 4), none⟩] false) .ret)))
theorem has21 : Has cx 21 21 m21 [(.tmp 4)] :=
  ⟨⟨Try.f21, Try.f21.body.getD .skip, by kernel_rfl, by kernel_rfl, by kernel_rfl, by kernel_rfl, by kernel_rfl, by kernel_rfl⟩⟩
theorem lp21_0 (n : Nat) (c : List V) (hn : n ≤ 1048576) :
    LpS cx 21 1 m21_0 [(0, .sl 0 0 n), (1, .int .i64 ((0) + 1 : Nat)), (5, .int .i64 (0 : Nat))] [⟨mkc c n, 1, 0, some 0, false⟩] (⟨.exit 0, [(1, .int .i64 ((n) + 1 : Nat))], [⟨mkc c n, 1, 0, some 0, false⟩]⟩ : Out).x (⟨.exit 0, [(1, .int .i64 ((n) + 1 : Nat))], [⟨mkc c n, 1, 0, some 0, false⟩]⟩ : Out).e (⟨.exit 0, [(1, .int .i64 ((n) + 1 : Nat))], [⟨mkc c n, 1, 0, some 0, false⟩]⟩ : Out).h := by
  refine lp_st (n) (fun _ => ()) (fun i _ => [(0, .sl 0 0 n), (1, .int .i64 ((i) + 1 : Nat)), (5, .int .i64 (i : Nat))]) (fun i _ => [⟨mkc c n, 1, 0, some 0, false⟩]) (fun _ => (⟨.exit 0, [(1, .int .i64 ((n) + 1 : Nat))], [⟨mkc c n, 1, 0, some 0, false⟩]⟩ : Out)) ?_ ?_ (n) 0 (by omega)
  · intro i u_ hi hu_
    refine ⟨(), rfl, ?_⟩
    have hlt : decide ((i : Int) < (n : Nat)) = true := decide_eq_true (by omega)
    have b1 : binV .add (.int .i64 (i + 1 : Nat)) (.int .i64 1) = some (.int .i64 ((i + 1) + 1 : Nat)) := b_addN (b := 1) (by omega)
    have m1 : (mkc c n)[0 + i * 1]? = some (.int .i64 (i + 1 : Nat)) := by rw [show 0 + i * 1 = i by omega, mkc_get (by omega)]
    have q1 : (((i + 1 : Nat) : Int) != (i + 1 : Nat)) = false := by simp
    unfold m21_0
    repeat' (first
      | refine ep_loadS rfl rfl rfl m1 ?_
      | (refine g_op ?_; first
        | refine ep_mov rfl ?_ | refine ep_load1 rfl rfl rfl rfl ?_
        | refine ep_bin rfl rfl (by first | exact b1 | exact b_add (by omega) (by omega) | exact b_sub (by omega) (by omega) | exact b_and (by omega) (by omega) | exact b_or (by omega) (by omega) | exact b_shr (by omega) | exact b_shl (by omega) (by omega) | exact b_lss | exact b_leq | exact b_gtr | exact b_geq | exact b_eql | exact b_neq) ?_
        | refine ep_lenS rfl ?_ | refine ep_lenN rfl ?_ | refine ep_lenE rfl ?_ | refine sp_idx rfl rfl rfl (by omega) rfl ?_ | refine ep_loadS rfl rfl rfl (by first | exact ints_get (by omega) | exact zints_get (by omega) | exact fget (by omega) | assumption) ?_)
      | (refine g_ops ?_; first | refine eo_none ?_ | refine eo_nil ?_)
      | (refine g_code ?_; first | refine ec_seq ?_ | refine ec_region ?_ | refine ec_block ?_ | refine ec_skip ?_ | refine ec_exit ?_ | refine ec_ret ?_ | refine ec_condT rfl ?_ | refine ec_condF rfl ?_ | refine ec_condTH rfl (by assumption) ?_ | refine ec_condFH rfl (by assumption) ?_)
      | refine ek_seqN ?_ | refine ek_seqX ?_ | refine ek_seqR ?_ | refine ek_blkN ?_ | refine ek_blkR ?_ | refine ek_blkX ?_ | refine ek_blkY rfl ?_)
    exact rnd_on (by rfl) (scmp2 (by rfl) (by rfl) (by exact ⟨rfl, rfl, rfl⟩) (by rfl) (by first | rfl | (simp; done) | (simp [ints, prs]; done)) (by rfl) (by first | rfl | (simp; done) | (simp [ints, prs]; done)))
  · intro u_ hu_
    have hlt : decide (((n : Nat) : Int) < (n : Nat)) = false := decide_eq_false (by omega)
    unfold m21_0
    repeat' (first
      | (refine g_op ?_; first
        | refine ep_mov rfl ?_ | refine ep_load1 rfl rfl rfl rfl ?_
        | refine ep_bin rfl rfl (by first | exact b_add (by omega) (by omega) | exact b_sub (by omega) (by omega) | exact b_and (by omega) (by omega) | exact b_or (by omega) (by omega) | exact b_shr (by omega) | exact b_shl (by omega) (by omega) | exact b_lss | exact b_leq | exact b_gtr | exact b_geq | exact b_eql | exact b_neq) ?_
        | refine ep_lenS rfl ?_ | refine ep_lenN rfl ?_ | refine ep_lenE rfl ?_ | refine sp_idx rfl rfl rfl (by omega) rfl ?_ | refine ep_loadS rfl rfl rfl (by first | exact ints_get (by omega) | exact zints_get (by omega) | exact fget (by omega) | assumption) ?_)
      | (refine g_ops ?_; first | refine eo_none ?_ | refine eo_nil ?_)
      | (refine g_code ?_; first | refine ec_seq ?_ | refine ec_region ?_ | refine ec_block ?_ | refine ec_skip ?_ | refine ec_exit ?_ | refine ec_ret ?_ | refine ec_condT rfl ?_ | refine ec_condF rfl ?_ | refine ec_condTH rfl (by assumption) ?_ | refine ec_condFH rfl (by assumption) ?_)
      | refine ek_seqN ?_ | refine ek_seqX ?_ | refine ek_seqR ?_ | refine ek_blkN ?_ | refine ek_blkR ?_ | refine ek_blkX ?_ | refine ek_blkY rfl ?_)
    exact rnd_out (by rfl) (by simp) (scmp2 (by rfl) (by rfl) (by exact ⟨rfl, rfl, rfl⟩) (by rfl) (by first | rfl | (simp; done) | (simp [ints, prs]; done)) (by rfl) (by first | rfl | (simp; done) | (simp [ints, prs]; done)))

theorem ev21 (n : Nat) (c : List V) (hn : n ≤ 1048576) : Ev cx 21 [.sl 0 0 n, .int .i64 1] [⟨mkc c n, 1, 0, some 0, false⟩] (.int .i64 (n + 1 : Nat)) [⟨mkc c n, 1, 0, some 0, false⟩] := by
  have lp := lp21_0 n c hn
  refine has21.eev rfl rfl ?_
  unfold m21
  repeat' (first
    | refine sc_loop lp rfl rfl ⟨rfl, rfl, rfl⟩ rfl rfl rfl ?_
    | (refine g_op ?_; first
      | refine ep_mov rfl ?_)
    | (refine g_ops ?_; first | refine eo_none ?_ | refine eo_nil ?_)
    | (refine g_code ?_; first | refine ec_seq ?_ | refine ec_region ?_ | refine ec_block ?_ | refine ec_ret ?_)
    | refine ek_seqN ?_ | refine ek_seqX ?_ | refine ek_seqR ?_ | refine ek_blkN ?_ | refine ek_blkR ?_ | refine ek_blkX ?_ | refine ek_blkY rfl ?_)
  refine sfin (.inr rfl) (by rfl) (by rfl) (by exact ⟨rfl, rfl, rfl⟩) (by rfl) (by rfl) (by rfl) (by first | rfl | (simp; done) | (simp [ints, prs]; done))
theorem lp21_0_nils  :
    LpS cx 21 0 m21_0 [(0, .nils), (1, .int .i64 1), (5, .int .i64 (0 : Nat))] [] (⟨.exit 0, [(1, .int .i64 1)], []⟩ : Out).x (⟨.exit 0, [(1, .int .i64 1)], []⟩ : Out).e (⟨.exit 0, [(1, .int .i64 1)], []⟩ : Out).h := by
  refine lp_st (0) (fun _ => ()) (fun i _ => [(0, .nils), (1, .int .i64 1), (5, .int .i64 (i : Nat))]) (fun i _ => []) (fun _ => (⟨.exit 0, [(1, .int .i64 1)], []⟩ : Out)) ?_ ?_ (0) 0 (by omega)
  · intro i u_ hi hu_
    refine ⟨(), rfl, ?_⟩
    exact absurd hi (by simp)
  · intro u_ hu_
    have hlt : decide (((0 : Nat) : Int) < (0 : Nat)) = false := decide_eq_false (by omega)
    unfold m21_0
    repeat' (first
      | (refine g_op ?_; first
        | refine ep_mov rfl ?_ | refine ep_load1 rfl rfl rfl rfl ?_
        | refine ep_bin rfl rfl (by first | exact b_add (by omega) (by omega) | exact b_sub (by omega) (by omega) | exact b_and (by omega) (by omega) | exact b_or (by omega) (by omega) | exact b_shr (by omega) | exact b_shl (by omega) (by omega) | exact b_lss | exact b_leq | exact b_gtr | exact b_geq | exact b_eql | exact b_neq) ?_
        | refine ep_lenS rfl ?_ | refine ep_lenN rfl ?_ | refine ep_lenE rfl ?_ | refine sp_idx rfl rfl rfl (by omega) rfl ?_ | refine ep_loadS rfl rfl rfl (by first | exact ints_get (by omega) | exact zints_get (by omega) | exact fget (by omega) | assumption) ?_)
      | (refine g_ops ?_; first | refine eo_none ?_ | refine eo_nil ?_)
      | (refine g_code ?_; first | refine ec_seq ?_ | refine ec_region ?_ | refine ec_block ?_ | refine ec_skip ?_ | refine ec_exit ?_ | refine ec_ret ?_ | refine ec_condT rfl ?_ | refine ec_condF rfl ?_ | refine ec_condTH rfl (by assumption) ?_ | refine ec_condFH rfl (by assumption) ?_)
      | refine ek_seqN ?_ | refine ek_seqX ?_ | refine ek_seqR ?_ | refine ek_blkN ?_ | refine ek_blkR ?_ | refine ek_blkX ?_ | refine ek_blkY rfl ?_)
    exact rnd_out (by rfl) (by simp) (scmp2 (by rfl) (by rfl) (by exact ⟨rfl, rfl, rfl⟩) (by rfl) (by first | rfl | (simp; done) | (simp [ints, prs]; done)) (by rfl) (by first | rfl | (simp; done) | (simp [ints, prs]; done)))

theorem ev21_nils : Ev cx 21 [.nils, .int .i64 1] [] (.int .i64 1) [] := by
  have lp := lp21_0_nils
  refine has21.eev rfl rfl ?_
  unfold m21
  repeat' (first
    | refine sc_loop lp rfl rfl ⟨rfl, rfl, rfl⟩ rfl rfl rfl ?_
    | (refine g_op ?_; first
      | refine ep_mov rfl ?_)
    | (refine g_ops ?_; first | refine eo_none ?_ | refine eo_nil ?_)
    | (refine g_code ?_; first | refine ec_seq ?_ | refine ec_region ?_ | refine ec_block ?_ | refine ec_ret ?_)
    | refine ek_seqN ?_ | refine ek_seqX ?_ | refine ek_seqR ?_ | refine ek_blkN ?_ | refine ek_blkR ?_ | refine ek_blkX ?_ | refine ek_blkY rfl ?_)
  refine sfin (.inr rfl) (by rfl) (by rfl) (by exact ⟨rfl, rfl, rfl⟩) (by rfl) (by rfl) (by rfl) (by first | rfl | (simp; done) | (simp [ints, prs]; done))
theorem lp21_0_emp  :
    LpS cx 21 0 m21_0 [(0, .emp), (1, .int .i64 1), (5, .int .i64 (0 : Nat))] [] (⟨.exit 0, [(1, .int .i64 1)], []⟩ : Out).x (⟨.exit 0, [(1, .int .i64 1)], []⟩ : Out).e (⟨.exit 0, [(1, .int .i64 1)], []⟩ : Out).h := by
  refine lp_st (0) (fun _ => ()) (fun i _ => [(0, .emp), (1, .int .i64 1), (5, .int .i64 (i : Nat))]) (fun i _ => []) (fun _ => (⟨.exit 0, [(1, .int .i64 1)], []⟩ : Out)) ?_ ?_ (0) 0 (by omega)
  · intro i u_ hi hu_
    refine ⟨(), rfl, ?_⟩
    exact absurd hi (by simp)
  · intro u_ hu_
    have hlt : decide (((0 : Nat) : Int) < (0 : Nat)) = false := decide_eq_false (by omega)
    unfold m21_0
    repeat' (first
      | (refine g_op ?_; first
        | refine ep_mov rfl ?_ | refine ep_load1 rfl rfl rfl rfl ?_
        | refine ep_bin rfl rfl (by first | exact b_add (by omega) (by omega) | exact b_sub (by omega) (by omega) | exact b_and (by omega) (by omega) | exact b_or (by omega) (by omega) | exact b_shr (by omega) | exact b_shl (by omega) (by omega) | exact b_lss | exact b_leq | exact b_gtr | exact b_geq | exact b_eql | exact b_neq) ?_
        | refine ep_lenS rfl ?_ | refine ep_lenN rfl ?_ | refine ep_lenE rfl ?_ | refine sp_idx rfl rfl rfl (by omega) rfl ?_ | refine ep_loadS rfl rfl rfl (by first | exact ints_get (by omega) | exact zints_get (by omega) | exact fget (by omega) | assumption) ?_)
      | (refine g_ops ?_; first | refine eo_none ?_ | refine eo_nil ?_)
      | (refine g_code ?_; first | refine ec_seq ?_ | refine ec_region ?_ | refine ec_block ?_ | refine ec_skip ?_ | refine ec_exit ?_ | refine ec_ret ?_ | refine ec_condT rfl ?_ | refine ec_condF rfl ?_ | refine ec_condTH rfl (by assumption) ?_ | refine ec_condFH rfl (by assumption) ?_)
      | refine ek_seqN ?_ | refine ek_seqX ?_ | refine ek_seqR ?_ | refine ek_blkN ?_ | refine ek_blkR ?_ | refine ek_blkX ?_ | refine ek_blkY rfl ?_)
    exact rnd_out (by rfl) (by simp) (scmp2 (by rfl) (by rfl) (by exact ⟨rfl, rfl, rfl⟩) (by rfl) (by first | rfl | (simp; done) | (simp [ints, prs]; done)) (by rfl) (by first | rfl | (simp; done) | (simp [ints, prs]; done)))

theorem ev21_emp : Ev cx 21 [.emp, .int .i64 1] [] (.int .i64 1) [] := by
  have lp := lp21_0_emp
  refine has21.eev rfl rfl ?_
  unfold m21
  repeat' (first
    | refine sc_loop lp rfl rfl ⟨rfl, rfl, rfl⟩ rfl rfl rfl ?_
    | (refine g_op ?_; first
      | refine ep_mov rfl ?_)
    | (refine g_ops ?_; first | refine eo_none ?_ | refine eo_nil ?_)
    | (refine g_code ?_; first | refine ec_seq ?_ | refine ec_region ?_ | refine ec_block ?_ | refine ec_ret ?_)
    | refine ek_seqN ?_ | refine ek_seqX ?_ | refine ek_seqR ?_ | refine ek_blkN ?_ | refine ek_blkR ?_ | refine ek_blkX ?_ | refine ek_blkY rfl ?_)
  refine sfin (.inr rfl) (by rfl) (by rfl) (by exact ⟨rfl, rfl, rfl⟩) (by rfl) (by rfl) (by rfl) (by first | rfl | (simp; done) | (simp [ints, prs]; done))
def rowS (s : List Nat) (q : Nat) : Nat := pk (fun i => bt (s.getD i 0) q) s.length
def valS (b p : Nat) (s : List Nat) : Nat := pk (fun q => bt b (rowS s q)) p
def updF (f g : Nat → Nat) (p i : Nat) : List Nat := (List.range p).map fun q => if q < i then g q else f q
def rowsL (p : Nat) (s : List Nat) : List Nat := (List.range p).map (rowS s)
theorem rowS_lt (s : List Nat) (q : Nat) : rowS s q < R2 s.length := pk_lt fun r _ => bt_le _ _
theorem valS_lt (b p : Nat) (s : List Nat) : valS b p s < R2 p := pk_lt fun r _ => bt_le _ _
theorem rowS_snoc (s : List Nat) (x q : Nat) : rowS (s ++ [x]) q = rowS s q ||| (bt x q <<< s.length) := by
  unfold rowS
  rw [List.length_append, List.length_singleton, pk]
  congr 1
  · refine pk_congr fun r hr => ?_
    rw [List.getD_eq_getElem?_getD, List.getElem?_append_left hr, List.getD_eq_getElem?_getD]
  · rw [List.getD_eq_getElem?_getD, List.getElem?_append_right (Nat.le_refl _)]; simp
theorem updF_0 (f g : Nat → Nat) (p : Nat) : updF f g p 0 = (List.range p).map f := by simp [updF]
theorem updF_p (f g : Nat → Nat) (p : Nat) : updF f g p p = (List.range p).map g := by
  unfold updF; apply List.map_congr_left; intro q hq; rw [if_pos (by simpa using hq)]
theorem updF_get {f g : Nat → Nat} {p i j : Nat} (h : j < p) : (ints (updF f g p i))[0 + j * 1]? = some (.int .i64 ((if j < i then g j else f j : Nat) : Int)) := by
  simp [ints, updF, h]
theorem updF_len (f g : Nat → Nat) (p i : Nat) : (ints (updF f g p i)).length = p := by simp [ints, updF]
theorem updF_set {f g : Nat → Nat} {p i : Nat} (h : i < p) : (ints (updF f g p i)).take (0 + i * 1) ++ [V.int .i64 (g i : Nat)] ++ (ints (updF f g p i)).drop (0 + i * 1 + 1) = ints (updF f g p (i + 1)) := by
  have hl := updF_len f g p i
  rw [show 0 + i * 1 = i by omega]
  apply List.ext_getElem?
  intro k
  have e2 : (ints (updF f g p (i + 1)))[k]? = if k < p then some (V.int .i64 ((if k < i + 1 then g k else f k : Nat) : Int)) else none := by
    by_cases hk : k < p
    · simp [ints, updF, hk]
    · simp [ints, updF, hk]
  have e1 : (ints (updF f g p i))[k]? = if k < p then some (V.int .i64 ((if k < i then g k else f k : Nat) : Int)) else none := by
    by_cases hk : k < p
    · simp [ints, updF, hk]
    · simp [ints, updF, hk]
  rw [e2]
  rcases Nat.lt_trichotomy k i with h1 | h1 | h1
  · rw [List.getElem?_append_left (by simp; omega), List.getElem?_append_left (by simp; omega), List.getElem?_take, if_pos h1, e1]; simp [show k < p by omega, h1, show k < i + 1 by omega]
  · subst h1
    rw [List.getElem?_append_left (by simp; omega), List.getElem?_append_right (by simp; omega), if_pos h, if_pos (by omega)]
    simp [Nat.min_eq_left (show k ≤ (ints (updF f g p k)).length by omega)]
  · rw [List.getElem?_append_right (by simp; omega), List.getElem?_drop]
    simp only [List.length_append, List.length_take, List.length_singleton, Nat.min_eq_left (show i ≤ (ints (updF f g p i)).length by omega)]
    rw [show i + 1 + (k - (i + 1)) = k by omega, e1]
    by_cases hk : k < p
    · simp [hk, show ¬ k < i by omega, show ¬ k < i + 1 by omega]
    · simp [hk]
def chkA (P : Nat → Bool) (l : List Nat) (b p : Nat) : Nat → List Nat → Bool
  | 0, s => P (valS b p s)
  | m + 1, s => allF (fun j => chkA P l b p m (s ++ [l.getD j 0])) 0 l.length
def orN (h : Nat → Nat) : Nat → Nat
  | 0 => 0
  | n + 1 => orN h n ||| h n
def mbA (l : List Nat) (b p : Nat) : Nat → List Nat → Nat
  | 0, s => R2 (valS b p s)
  | m + 1, s => orN (fun j => mbA l b p m (s ++ [l.getD j 0])) l.length
theorem orN_lt {h : Nat → Nat} {N : Nat} : ∀ n, (∀ j, j < n → h j < R2 N) → orN h n < R2 N
  | 0, _ => R2_pos _
  | n + 1, hh => or_lt (orN_lt n fun j hj => hh j (by omega)) (hh n (by omega))
theorem mbA_lt (l : List Nat) (b p : Nat) : ∀ m s, mbA l b p m s < R2 (R2 p)
  | 0, s => by
    have := valS_lt b p s
    rw [mbA]; unfold R2 at this ⊢; exact Nat.pow_lt_pow_right (by omega) this
  | m + 1, s => by rw [mbA]; exact orN_lt _ fun j _ => mbA_lt l b p m _
theorem sb_or (x y t : Nat) : (x ||| y) &&& t = x ||| y ↔ x &&& t = x ∧ y &&& t = y := by
  constructor
  · intro h
    refine ⟨Nat.eq_of_testBit_eq fun i => ?_, Nat.eq_of_testBit_eq fun i => ?_⟩
    all_goals
      have := congrArg (fun z => z.testBit i) h
      simp only [Nat.testBit_and, Nat.testBit_or] at this ⊢
      revert this
      cases x.testBit i <;> cases y.testBit i <;> cases t.testBit i <;> simp
  · rintro ⟨h1, h2⟩
    apply Nat.eq_of_testBit_eq
    intro i
    have e1 := congrArg (fun z => z.testBit i) h1
    have e2 := congrArg (fun z => z.testBit i) h2
    simp only [Nat.testBit_and, Nat.testBit_or] at e1 e2 ⊢
    revert e1 e2
    cases x.testBit i <;> cases y.testBit i <;> cases t.testBit i <;> simp
theorem sb_R2 (v t : Nat) : R2 v &&& t = R2 v ↔ bt t v = 1 := by
  rw [bt_tb]
  constructor
  · intro h
    have := congrArg (fun z => z.testBit v) h
    simp only [Nat.testBit_and, R2_tb, decide_true, Bool.true_and] at this
    rw [this]; rfl
  · intro h
    apply Nat.eq_of_testBit_eq
    intro i
    rw [Nat.testBit_and, R2_tb]
    by_cases e : v = i
    · subst e; revert h; cases t.testBit v <;> simp
    · simp [e]
theorem sb_orN (h : Nat → Nat) (t : Nat) : ∀ n, (orN h n &&& t = orN h n ↔ ∀ j, j < n → h j &&& t = h j)
  | 0 => by simp [orN]
  | n + 1 => by
    rw [orN, sb_or, sb_orN h t n]
    constructor
    · rintro ⟨h1, h2⟩ j hj
      by_cases e : j = n
      · subst e; exact h2
      · exact h1 j (by omega)
    · intro hh; exact ⟨fun j hj => hh j (by omega), hh n (by omega)⟩
theorem go_flat : ∀ q : Nat, ints (List.replicate q 0) = (List.replicate q [V.int .i64 0]).flatten
  | 0 => rfl
  | q + 1 => by
    have := go_flat q
    simp only [ints, List.replicate_succ, List.map_cons, List.flatten_cons, List.singleton_append] at this ⊢
    rw [this]; rfl
theorem keep_eq (l : List Nat) (b p t : Nat) : ∀ m s, (mbA l b p m s &&& t = mbA l b p m s ↔ chkA (fun v => bt t v == 1) l b p m s = true)
  | 0, s => by rw [mbA, chkA, sb_R2, beq_iff_eq]
  | m + 1, s => by
    rw [mbA, chkA, sb_orN, allF_iff]
    constructor
    · intro h j _ hj; exact (keep_eq l b p t m _).mp (h j (by omega))
    · intro h j hj; exact (keep_eq l b p t m _).mpr (h j (Nat.zero_le _) (by omega))
def allFunc (fs : List (Int × Int)) : Bool := allF (fun j => isFn (fs.getD j (0, 0)).1 (fs.getD j (0, 0)).2) 0 fs.length
def lcode (fs : List (Int × Int)) : Int := if allFunc fs = true then (if fs.length > 8 then 2 else 0) else 1
def foldN {S : Type} (f : Nat → S → S) : Nat → S → S
  | 0, s => s
  | n + 1, s => f n (foldN f n s)
theorem foldN_inv {S : Type} {f : Nat → S → S} {I : S → Prop} : ∀ (n : Nat) (s : S), (∀ j s, j < n → I s → I (f j s)) → I s → I (foldN f n s)
  | 0, s, _, h => h
  | n + 1, s, hf, h => hf n _ (by omega) (foldN_inv n s (fun j s hj => hf j s (by omega)) h)
theorem foldN_congr {S : Type} {f g : Nat → S → S} {I : S → Prop} : ∀ (n : Nat) (s : S), (∀ j s, j < n → I s → f j s = g j s ∧ I (f j s)) → I s → foldN f n s = foldN g n s ∧ I (foldN f n s)
  | 0, s, _, h => ⟨rfl, h⟩
  | n + 1, s, hf, h => by
    obtain ⟨h1, h2⟩ := foldN_congr n s (fun j s hj => hf j s (by omega)) h
    obtain ⟨h3, h4⟩ := hf n _ (by omega) h2
    refine ⟨?_, h4⟩
    show f n (foldN f n s) = g n (foldN g n s)
    rw [h3, h1]
abbrev GS := List Int × Bool
def upS (d : Int) (b : Nat) (s : GS) : GS := if s.1.getD b 0 < 0 then (s.1.set b d, true) else s
def isNw (d : Int) (D : List Int) (now : List Nat) : Bool := d == 1 || !(allF (fun j => !(D.getD (now.getD j 0) 0 == d - 1)) 0 now.length)
def leafS (d : Int) (n b : Nat) (now : List Nat) (s : GS) : GS := upS d (valS b (R2 n) now) s
def leafI (d : Int) (n b : Nat) (now : List Nat) (s : GS) : GS := if isNw d s.1 now = true then leafS d n b now s else s
def walkT (L : List Nat) (leaf : List Nat → GS → GS) : Nat → List Nat → GS → GS
  | 0, now, s => leaf now s
  | m + 1, now, s => foldN (fun j s => walkT L leaf m (now ++ [L.getD j 0]) s) L.length s
def ngs (D : List Int) : Nat := D.countP (fun x => decide (x < 0))
def leD (D D' : List Int) : Prop := D'.length = D.length ∧ ∀ b, 0 ≤ D.getD b 0 → D'.getD b 0 = D.getD b 0
theorem leD_refl (D : List Int) : leD D D := ⟨rfl, fun _ _ => rfl⟩
theorem leD_trans {A B C : List Int} (h1 : leD A B) (h2 : leD B C) : leD A C :=
  ⟨by rw [h2.1, h1.1], fun b h => by rw [h2.2 b (by rw [h1.2 b h]; exact h), h1.2 b h]⟩
theorem getD_set {D : List Int} {b c : Nat} {d : Int} : (D.set b d).getD c 0 = if b = c ∧ c < D.length then d else D.getD c 0 := by
  rw [List.getD_eq_getElem?_getD, List.getElem?_set, List.getD_eq_getElem?_getD]
  by_cases h : b = c
  · subst h
    by_cases h2 : b < D.length
    · simp [h2]
    · simp [h2]
  · simp [h]
theorem upS_le (d : Int) (b : Nat) (s : GS) : leD s.1 (upS d b s).1 := by
  unfold upS
  split
  · rename_i h
    refine ⟨by simp, fun c hc => ?_⟩
    simp only
    rw [getD_set, if_neg]
    rintro ⟨rfl, _⟩
    omega
  · exact leD_refl _
theorem ngs_set : ∀ {D : List Int} {b : Nat} {d : Int}, 0 ≤ d → D.getD b 0 < 0 → ngs (D.set b d) + 1 = ngs D
  | [], b, d, _, h => by simp at h
  | x :: D, 0, d, hd, h => by
    have h' : x < 0 := by simpa using h
    simp [ngs, List.countP_cons, h', show ¬ d < 0 by omega]
  | x :: D, b + 1, d, hd, h => by
    have h' : D.getD b 0 < 0 := by simpa using h
    have := ngs_set hd h'
    simp only [ngs, List.set_cons_succ, List.countP_cons] at this ⊢
    omega
def invG (D0 : List Int) (s : GS) : Prop := leD D0 s.1 ∧ ngs s.1 ≤ ngs D0 ∧ (s.2 = true → ngs s.1 < ngs D0)
theorem upS_inv {D0 : List Int} {d : Int} {b : Nat} {s : GS} (hd : 0 ≤ d) (h : invG D0 s) : invG D0 (upS d b s) := by
  refine ⟨leD_trans h.1 (upS_le d b s), ?_⟩
  unfold upS
  split
  · rename_i hb
    have := ngs_set (d := d) hd hb
    have := h.2.1
    exact ⟨by simp only; omega, fun _ => by simp only; omega⟩
  · exact h.2
theorem walkT_inv {L : List Nat} {leaf : List Nat → GS → GS} {I : GS → Prop} (hl : ∀ now s, I s → I (leaf now s)) : ∀ (m : Nat) (now : List Nat) (s : GS), I s → I (walkT L leaf m now s)
  | 0, now, s, h => hl now s h
  | m + 1, now, s, h => foldN_inv _ _ (fun j s _ hs => walkT_inv hl m _ s hs) h
theorem leafI_inv {D0 : List Int} {d : Int} {n b : Nat} (hd : 0 ≤ d) (now : List Nat) (s : GS) (h : invG D0 s) : invG D0 (leafI d n b now s) := by
  unfold leafI; split
  · exact upS_inv hd h
  · exact h
def inL (L now : List Nat) : Prop := ∀ j, j < now.length → ∃ k, k < L.length ∧ now.getD j 0 = L.getD k 0
theorem inL_snoc {L now : List Nat} {j : Nat} (h : inL L now) (hj : j < L.length) : inL L (now ++ [L.getD j 0]) := by
  intro i hi
  by_cases h1 : i < now.length
  · obtain ⟨k, hk, e⟩ := h i h1
    refine ⟨k, hk, ?_⟩
    rw [List.getD_eq_getElem?_getD, List.getElem?_append_left h1, ← List.getD_eq_getElem?_getD]; exact e
  · simp at hi
    refine ⟨j, hj, ?_⟩
    rw [List.getD_eq_getElem?_getD, List.getElem?_append_right (by omega), show i - now.length = 0 by omega]; rfl
theorem isNw_congr {d : Int} {D0 D : List Int} {L now : List Nat} (hle : leD D0 D) (hL : ∀ k, k < L.length → 0 ≤ D0.getD (L.getD k 0) 0) (hn : inL L now) : isNw d D now = isNw d D0 now := by
  unfold isNw
  congr 2
  refine allF_congr _ _ fun x _ hx => ?_
  obtain ⟨k, hk, e⟩ := hn x (by omega)
  rw [e, hle.2 _ (hL k hk)]
theorem walk_eq {d : Int} {n b a : Nat} {D0 : List Int} {L : List Nat} (hd : 0 ≤ d) (hL : ∀ k, k < L.length → 0 ≤ D0.getD (L.getD k 0) 0)
    (H : ∀ t : List Nat, t.length = a → inL L t → isNw d D0 t = false → 0 ≤ D0.getD (valS b (R2 n) t) 0) : ∀ (m : Nat) (now : List Nat) (s : GS), now.length + m = a → inL L now → invG D0 s →
    walkT L (leafI d n b) m now s = walkT L (leafS d n b) m now s ∧ invG D0 (walkT L (leafI d n b) m now s)
  | 0, now, s, hm, hn, hs => by
    refine ⟨?_, leafI_inv hd now s hs⟩
    show leafI d n b now s = leafS d n b now s
    unfold leafI
    split
    · rfl
    · rename_i hw
      rw [isNw_congr hs.1 hL hn] at hw
      have := H now (by omega) hn (by simpa using hw)
      unfold leafS upS
      rw [if_neg]
      rw [hs.1.2 _ this]; omega
  | m + 1, now, s, hm, hn, hs => by
    refine foldN_congr L.length s (fun j s hj hI => ?_) hs
    exact walk_eq hd hL H m _ s (by simp; omega) (inL_snoc hn hj) hI
theorem walk_cl {d : Int} {n b N : Nat} {L : List Nat} (hd : 0 ≤ d) (hN : ∀ t, valS b (R2 n) t < N) : ∀ (m : Nat) (now rest : List Nat) (s : GS), s.1.length = N → rest.length = m → inL L rest →
    0 ≤ (walkT L (leafS d n b) m now s).1.getD (valS b (R2 n) (now ++ rest)) 0
  | 0, now, rest, s, hs, hm, _ => by
    have hr : rest = [] := List.eq_nil_of_length_eq_zero hm
    subst hr
    rw [List.append_nil]
    show 0 ≤ (leafS d n b now s).1.getD _ 0
    unfold leafS upS
    split
    · simp only; rw [getD_set, if_pos ⟨rfl, by rw [hs]; exact hN now⟩]; exact hd
    · omega
  | m + 1, now, [], s, hs, hm, _ => by simp at hm
  | m + 1, now, x :: rest, s, hs, hm, hr => by
    obtain ⟨k, hk, e⟩ := hr 0 (by simp)
    have e' : x = L.getD k 0 := by simpa using e
    subst e'
    have hr' : inL L rest := fun j hj => by
      obtain ⟨k', h1, h2⟩ := hr (j + 1) (by simp; omega)
      exact ⟨k', h1, by simpa using h2⟩
    have step : ∀ q, q ≤ L.length → ((foldN (fun j s => walkT L (leafS d n b) m (now ++ [L.getD j 0]) s) q s).1.length = N ∧ (k < q → 0 ≤ (foldN (fun j s => walkT L (leafS d n b) m (now ++ [L.getD j 0]) s) q s).1.getD (valS b (R2 n) (now ++ L.getD k 0 :: rest)) 0)) := by
      intro q
      induction q with
      | zero => intro _; exact ⟨hs, by omega⟩
      | succ q ih =>
        intro hq
        obtain ⟨i1, i2⟩ := ih (by omega)
        have hle := walkT_inv (L := L) (leaf := leafS d n b) (I := fun u => leD (foldN (fun j s => walkT L (leafS d n b) m (now ++ [L.getD j 0]) s) q s).1 u.1) (fun nw u hu => leD_trans hu (upS_le d _ u)) m (now ++ [L.getD q 0]) _ (leD_refl _)
        refine ⟨by rw [foldN, hle.1, i1], fun hk2 => ?_⟩
        by_cases hkq : k = q
        · subst hkq
          have := walk_cl hd hN m (now ++ [L.getD k 0]) rest (foldN (fun j s => walkT L (leafS d n b) m (now ++ [L.getD j 0]) s) k s) i1 (by simpa using hm) hr'
          rw [List.append_assoc] at this
          exact this
        · have h0 := i2 (by omega)
          rw [foldN, hle.2 _ h0]; exact h0
    exact (step L.length (Nat.le_refl _)).2 hk
def rndG (leaf : Int → Nat → Nat → List Nat → GS → GS) (fs : List (Int × Int)) (n : Nat) (d : Int) (L : List Nat) (D : List Int) : GS :=
  foldN (fun k s => walkT L (leaf d n (fs.getD k (0, 0)).2.toNat) (fs.getD k (0, 0)).1.toNat [] s) fs.length (D, false)
def kwI (N : Nat) (d : Int) (D : List Int) : List Nat := selm (fun b => decide (0 ≤ D.getD b 0 ∧ D.getD b 0 ≤ d - 1)) idn N
def kwS (N : Nat) (D : List Int) : List Nat := selm (fun b => decide (0 ≤ D.getD b 0)) idn N
def genI (fs : List (Int × Int)) (n : Nat) : Nat → Nat → List Int → List Int
  | 0, _, D => D
  | k + 1, d, D => if (rndG leafI fs n d (kwI (R2 (R2 n)) d D) D).2 = true then genI fs n k (d + 1) (rndG leafI fs n d (kwI (R2 (R2 n)) d D) D).1 else (rndG leafI fs n d (kwI (R2 (R2 n)) d D) D).1
def genS (fs : List (Int × Int)) (n : Nat) : Nat → Nat → List Int → List Int
  | 0, _, D => D
  | k + 1, d, D => if (rndG leafS fs n d (kwS (R2 (R2 n)) D) D).2 = true then genS fs n k (d + 1) (rndG leafS fs n d (kwS (R2 (R2 n)) D) D).1 else (rndG leafS fs n d (kwS (R2 (R2 n)) D) D).1
def bndD (d : Int) (D : List Int) : Prop := ∀ b, -1 ≤ D.getD b 0 ∧ D.getD b 0 ≤ d
theorem upS_bnd {d : Int} {b : Nat} {s : GS} (hd : 0 ≤ d) (h : bndD d s.1) : bndD d (upS d b s).1 := by
  unfold upS; split
  · intro c; simp only; rw [getD_set]; split
    · omega
    · exact h c
  · exact h
def gClo (fs : List (Int × Int)) (n : Nat) (d : Int) (D : List Int) : Prop := d = 1 ∨ ∀ k, k < fs.length → ∀ t : List Nat, t.length = (fs.getD k (0, 0)).1.toNat → (∀ j, j < t.length → t.getD j 0 < R2 (R2 n) ∧ 0 ≤ D.getD (t.getD j 0) 0 ∧ D.getD (t.getD j 0) 0 ≤ d - 2) → 0 ≤ D.getD (valS (fs.getD k (0, 0)).2.toNat (R2 n) t) 0
theorem selm_mem {p : Nat → Bool} {n x : Nat} (hx : x < n) (hp : p x = true) : ∃ k, k < (selm p idn n).length ∧ x = (selm p idn n).getD k 0 := by
  induction n with
  | zero => omega
  | succ n ih =>
    by_cases hn : x = n
    · subst hn
      rw [selm_t hp]
      refine ⟨(selm p idn x).length, by simp, ?_⟩
      rw [List.getD_eq_getElem?_getD, List.getElem?_append_right (Nat.le_refl _)]; simp
    · obtain ⟨k, h1, h2⟩ := ih (by omega)
      cases hpn : p n
      · rw [selm_f hpn]; exact ⟨k, h1, h2⟩
      · rw [selm_t hpn]
        refine ⟨k, by simp; omega, ?_⟩
        rw [List.getD_eq_getElem?_getD, List.getElem?_append_left h1, ← List.getD_eq_getElem?_getD]; exact h2
theorem selm_lt0 {p : Nat → Bool} {n j : Nat} (h : j < (selm p idn n).length) : (selm p idn n).getD j 0 < n ∧ p ((selm p idn n).getD j 0) = true := by
  have hm : (selm p idn n).getD j 0 ∈ selm p idn n := by
    rw [List.getD_eq_getElem?_getD, List.getElem?_eq_getElem h]; simp
  generalize (selm p idn n).getD j 0 = x at hm
  clear h
  induction n with
  | zero => simp [selm] at hm
  | succ n ih =>
    cases hp : p n
    · rw [selm_f hp] at hm; have := ih hm; exact ⟨by omega, this.2⟩
    · rw [selm_t hp] at hm
      rcases List.mem_append.mp hm with h1 | h1
      · have := ih h1; exact ⟨by omega, this.2⟩
      · have : x = n := by simpa using h1
        subst this; exact ⟨by omega, hp⟩
theorem rnd_inv {fs : List (Int × Int)} {n : Nat} {d : Int} {L : List Nat} {D : List Int} (hd : 0 ≤ d) : invG D (rndG leafS fs n d L D) := by
  refine foldN_inv (I := invG D) _ _ (fun k s _ hs => walkT_inv (fun now s hs => upS_inv hd hs) _ _ s hs) ?_
  exact ⟨leD_refl _, Nat.le_refl _, by simp⟩
theorem rndI_inv {fs : List (Int × Int)} {n : Nat} {d : Int} {L : List Nat} {D : List Int} (hd : 0 ≤ d) : invG D (rndG leafI fs n d L D) := by
  refine foldN_inv (I := invG D) _ _ (fun k s _ hs => walkT_inv (fun now s hs => leafI_inv hd now s hs) _ _ s hs) ?_
  exact ⟨leD_refl _, Nat.le_refl _, by simp⟩
theorem rnd_bnd {fs : List (Int × Int)} {n : Nat} {d : Int} {L : List Nat} {D : List Int} (hd : 0 ≤ d) (h : bndD d D) : bndD d (rndG leafS fs n d L D).1 :=
  foldN_inv (I := fun s : GS => bndD d s.1) _ _ (fun k s _ hs => walkT_inv (I := fun s : GS => bndD d s.1) (fun now s hs => upS_bnd hd hs) _ _ s hs) h
theorem rndI_bnd {fs : List (Int × Int)} {n : Nat} {d : Int} {L : List Nat} {D : List Int} (hd : 0 ≤ d) (h : bndD d D) : bndD d (rndG leafI fs n d L D).1 :=
  foldN_inv (I := fun s : GS => bndD d s.1) _ _ (fun k s _ hs => walkT_inv (I := fun s : GS => bndD d s.1) (fun now s hs => by unfold leafI; split; exact upS_bnd hd hs; exact hs) _ _ s hs) h
theorem valS_R (b n : Nat) (t : List Nat) : valS b (R2 n) t < R2 (R2 n) := valS_lt b (R2 n) t
theorem rnd_eq {fs : List (Int × Int)} {n : Nat} {d : Int} {D : List Int} (hd : 1 ≤ d) (hl : D.length = R2 (R2 n)) (hb : bndD (d - 1) D) (hc : gClo fs n d D) :
    kwI (R2 (R2 n)) d D = kwS (R2 (R2 n)) D ∧ rndG leafI fs n d (kwS (R2 (R2 n)) D) D = rndG leafS fs n d (kwS (R2 (R2 n)) D) D ∧ gClo fs n (d + 1) (rndG leafS fs n d (kwS (R2 (R2 n)) D) D).1 := by
  have hL : ∀ k, k < (kwS (R2 (R2 n)) D).length → 0 ≤ D.getD ((kwS (R2 (R2 n)) D).getD k 0) 0 := fun k hk => by
    exact of_decide_eq_true (selm_lt0 hk).2
  refine ⟨?_, ?_, ?_⟩
  · refine selm_congr _ fun i _ => ⟨?_, fun _ => rfl⟩
    have := hb i
    rw [Bool.eq_iff_iff]; simp only [decide_eq_true_eq]; omega
  · refine (foldN_congr (I := invG D) _ _ (fun k s hk hs => ?_) ⟨leD_refl _, Nat.le_refl _, by simp⟩).1
    refine walk_eq (a := (fs.getD k (0, 0)).1.toNat) (by omega) hL ?_ _ _ s (by rw [List.length_nil, Nat.zero_add]) (fun j hj => by simp at hj) hs
    intro t ht hin hw
    unfold isNw at hw
    rw [Bool.or_eq_false_iff] at hw
    rcases hc with h1 | hc
    · rw [h1] at hw; simp at hw
    · refine hc k hk t ht fun j hj => ?_
      obtain ⟨k', h1, h2⟩ := hin j hj
      have h3 := selm_lt0 h1
      have h4 := hL k' h1
      have h5 := hb (t.getD j 0)
      have h6 : allF (fun j => !(D.getD (t.getD j 0) 0 == d - 1)) 0 t.length = true := by simpa using hw.2
      have h7 := (allF_iff _ _).mp h6 j (by omega) (by omega)
      have h8 : D.getD (t.getD j 0) 0 ≠ d - 1 := by simpa using h7
      rw [h2] at *
      exact ⟨h3.1, h4, by omega⟩
  · right
    intro k hk t ht hm
    have hinv := rnd_inv (fs := fs) (n := n) (d := d) (L := kwS (R2 (R2 n)) D) (D := D) (by omega)
    -- members of t were known
    have hin : inL (kwS (R2 (R2 n)) D) t := fun j hj => by
      obtain ⟨g1, g2, g3⟩ := hm j hj
      have : 0 ≤ D.getD (t.getD j 0) 0 := by
        have hcell : ∀ (c : Nat), 0 ≤ (rndG leafS fs n d (kwS (R2 (R2 n)) D) D).1.getD c 0 → (rndG leafS fs n d (kwS (R2 (R2 n)) D) D).1.getD c 0 ≤ d - 1 → 0 ≤ D.getD c 0 := by
          intro c
          refine foldN_inv (I := fun s : GS => 0 ≤ s.1.getD c 0 → s.1.getD c 0 ≤ d - 1 → 0 ≤ D.getD c 0) _ _ (fun k s _ hs => walkT_inv (I := fun s : GS => 0 ≤ s.1.getD c 0 → s.1.getD c 0 ≤ d - 1 → 0 ≤ D.getD c 0) (fun now s hs => ?_) _ _ s hs) (fun h _ => h)
          unfold leafS upS
          split
          · simp only; rw [getD_set]; split
            · intro _ h; omega
            · exact hs
          · exact hs
        exact hcell _ g2 (by omega)
      obtain ⟨k', e1, e2⟩ := selm_mem (p := fun b => decide (0 ≤ D.getD b 0)) g1 (by simpa using this)
      exact ⟨k', e1, e2⟩
    have step : ∀ q, q ≤ fs.length → ((foldN (fun k s => walkT (kwS (R2 (R2 n)) D) (leafS d n (fs.getD k (0, 0)).2.toNat) (fs.getD k (0, 0)).1.toNat [] s) q (D, false)).1.length = R2 (R2 n) ∧ (k < q → 0 ≤ (foldN (fun k s => walkT (kwS (R2 (R2 n)) D) (leafS d n (fs.getD k (0, 0)).2.toNat) (fs.getD k (0, 0)).1.toNat [] s) q (D, false)).1.getD (valS (fs.getD k (0, 0)).2.toNat (R2 n) t) 0)) := by
      intro q
      induction q with
      | zero => intro _; exact ⟨hl, by omega⟩
      | succ q ih =>
        intro hq
        obtain ⟨i1, i2⟩ := ih (by omega)
        have hle := walkT_inv (L := kwS (R2 (R2 n)) D) (leaf := leafS d n (fs.getD q (0, 0)).2.toNat) (I := fun u => leD (foldN (fun k s => walkT (kwS (R2 (R2 n)) D) (leafS d n (fs.getD k (0, 0)).2.toNat) (fs.getD k (0, 0)).1.toNat [] s) q (D, false)).1 u.1) (fun nw u hu => leD_trans hu (upS_le d _ u)) (fs.getD q (0, 0)).1.toNat [] _ (leD_refl _)
        refine ⟨by rw [foldN, hle.1, i1], fun hk2 => ?_⟩
        by_cases hkq : k = q
        · subst hkq
          have := walk_cl (d := d) (n := n) (b := (fs.getD k (0, 0)).2.toNat) (L := kwS (R2 (R2 n)) D) (by omega) (valS_R _ n) (fs.getD k (0, 0)).1.toNat [] t _ i1 ht hin
          rw [List.nil_append] at this
          exact this
        · have h0 := i2 (by omega)
          rw [foldN, hle.2 _ h0]; exact h0
    exact (step fs.length (Nat.le_refl _)).2 hk
theorem gen_eq {fs : List (Int × Int)} {n : Nat} : ∀ (k d : Nat) (D : List Int), 1 ≤ d → D.length = R2 (R2 n) → bndD (d - 1) D → gClo fs n d D → genI fs n k d D = genS fs n k d D
  | 0, d, D, _, _, _, _ => rfl
  | k + 1, d, D, hd, hl, hb, hc => by
    obtain ⟨e1, e2, e3⟩ := rnd_eq (d := d) (by omega) hl hb hc
    rw [genI, genS, e1, e2]
    have hi := rnd_inv (fs := fs) (n := n) (d := d) (L := kwS (R2 (R2 n)) D) (D := D) (by omega)
    have hb2 : bndD d D := fun b => ⟨(hb b).1, by have := (hb b).2; omega⟩
    have hb3 := rnd_bnd (fs := fs) (n := n) (d := d) (L := kwS (R2 (R2 n)) D) (by omega) hb2
    have := gen_eq (fs := fs) (n := n) k (d + 1) (rndG leafS fs n d (kwS (R2 (R2 n)) D) D).1 (by omega) (by rw [hi.1.1, hl]) (by rw [show ((d + 1 : Nat) : Int) - 1 = d by omega]; exact hb3) e3
    rw [this]
def projB (n i : Nat) : Nat := pk (fun r => bt r i) (R2 n)
def D0 (n : Nat) : Nat → List Int := fun j => foldN (fun i D => D.set (projB n i) 0) j (List.replicate (R2 (R2 n)) (-1))
def depL (fs : List (Int × Int)) (n : Nat) : List Int := genS fs n (R2 (R2 n) + 1) 1 (D0 n n)
theorem D0_len (n j : Nat) : (D0 n j).length = R2 (R2 n) := foldN_inv (I := fun D : List Int => D.length = R2 (R2 n)) _ _ (fun j D _ h => by simpa using h) (by simp)
theorem D0_bnd (n j : Nat) : bndD 0 (D0 n j) := by
  refine foldN_inv (I := bndD 0) _ _ (fun j D _ h c => ?_) (fun c => ?_)
  · rw [getD_set]; split
    · omega
    · exact h c
  · rw [List.getD_eq_getElem?_getD, List.getElem?_replicate]
    split <;> simp
theorem ngs_le (D : List Int) : ngs D ≤ D.length := List.countP_le_length
theorem depL_I (fs : List (Int × Int)) (n : Nat) : genI fs n (R2 (R2 n) + 1) 1 (D0 n n) = depL fs n :=
  gen_eq _ 1 _ (by omega) (D0_len n n) (by simpa using D0_bnd n n) (.inl rfl)
theorem genS_len {fs : List (Int × Int)} {n : Nat} : ∀ (k d : Nat) (D : List Int), (genS fs n k d D).length = D.length
  | 0, d, D => rfl
  | k + 1, d, D => by
    rw [genS]
    have h := (rnd_inv (fs := fs) (n := n) (d := d) (L := kwS (R2 (R2 n)) D) (D := D) (by omega)).1.1
    split
    · rw [genS_len k, h]
    · exact h
theorem genS_bnd {fs : List (Int × Int)} {n : Nat} : ∀ (k d : Nat) (D : List Int), bndD d D → bndD (d + k) (genS fs n k d D)
  | 0, d, D, h => by simpa [genS] using h
  | k + 1, d, D, h => by
    rw [genS]
    have h1 := rnd_bnd (fs := fs) (n := n) (d := d) (L := kwS (R2 (R2 n)) D) (by omega) h
    have h2 : bndD ((d + 1 : Nat) : Int) (rndG leafS fs n d (kwS (R2 (R2 n)) D) D).1 := fun b => ⟨(h1 b).1, by have := (h1 b).2; omega⟩
    split
    · have := genS_bnd (fs := fs) (n := n) k (d + 1) _ h2
      intro b; have := this b; omega
    · intro b; have := h1 b; omega
theorem depL_len (fs : List (Int × Int)) (n : Nat) : (depL fs n).length = R2 (R2 n) := by rw [depL, genS_len, D0_len]

theorem zints_set {D : List Int} {b : Nat} {d : Int} (h : b < D.length) : (zints D).take (0 + b * 1) ++ [V.int .i64 d] ++ (zints D).drop (0 + b * 1 + 1) = zints (D.set b d) := by
  simp only [zints, Nat.mul_one, Nat.zero_add]
  rw [List.set_eq_take_append_cons_drop, if_pos h]
  simp
theorem prs_snoc (n : Nat) (l : List Nat) (v : Nat) : prs n l ++ [V.int .i64 (n : Nat), V.int .i64 (v : Nat)] = prs n (l ++ [v]) := by simp [prs]
theorem R2_4 {k : Nat} (h : k ≤ 4) : R2 k ≤ 16 := (shN h).1
def pjG (i r : Nat) : Nat := bt r i
def puG (b : Nat) (s : List Nat) (r : Nat) : Nat := bt b (rowS s r)
theorem walk_len {d : Int} {n b : Nat} {L : List Nat} (hd : 0 ≤ d) (m : Nat) (l : List Nat) (s : GS) : (walkT L (leafI d n b) m l s).1.length = s.1.length :=
  walkT_inv (I := fun u : GS => u.1.length = s.1.length) (fun now u hu => by
    unfold leafI; split
    · unfold leafS; rw [(upS_le d _ u).1, hu]
    · exact hu) m l s rfl
theorem fold_len {d : Int} {n b : Nat} {L : List Nat} (hd : 0 ≤ d) (m : Nat) (l : List Nat) (s : GS) (i : Nat) : (foldN (fun j s => walkT L (leafI d n b) m (l ++ [L.getD j 0]) s) i s).1.length = s.1.length :=
  foldN_inv (I := fun u : GS => u.1.length = s.1.length) _ _ (fun j u _ hu => by rw [walk_len hd, hu]) rfl
-- math/bits.Mul32
def m149 : MC := (.seq (.region [⟨(.mov (.k (.int .u32 0))), (some 4), none⟩, ⟨(.mov (.k (.int .u32 0))), (some 5), none⟩] false) (.seq (.region [⟨(.mov (.t 0)), (some 7), none⟩, ⟨(.conv .u64 (.t 7)), (some 8), none⟩, ⟨(.mov (.t 1)), (some 9), none⟩, ⟨(.conv .u64 (.t 9)), (some 10), none⟩, ⟨(.bin .mul (.t 8) (.t 10)), (some 11), none⟩, ⟨(.mov (.t 11)), (some 6), none⟩] false) (.seq (.region [⟨(.mov (.t 6)), (some 12), none⟩, ⟨(.bin .shr (.t 12) (.k (.int .u64 32))), (some 13), none⟩, ⟨(.conv .u32 (.t 13)), (some 14), none⟩, ⟨(.mov (.t 6)), (some 15), none⟩, ⟨(.conv .u32 (.t 15)), (some 16), none⟩, ⟨(.mov (.t 14)), (some 4), none⟩, ⟨(.mov (.t 16)), (some 5), none⟩] false) .ret)))
theorem has149 : Has cx 149 17 m149 [(.tmp 4), (.tmp 5)] :=
  ⟨⟨Try.f149, Try.f149.body.getD .skip, by kernel_rfl, by kernel_rfl, by kernel_rfl, by kernel_rfl, by kernel_rfl, by kernel_rfl⟩⟩

-- math/bits.Mul64
def m150 : MC := (.seq (.region [⟨(.mov (.k (.int .u64 0))), (some 4), none⟩, ⟨(.mov (.k (.int .u64 0))), (some 5), none⟩] false) (.seq (.region [⟨(.mov (.t 0)), (some 14), none⟩, ⟨(.bin .and (.t 14) (.k (.int .u64 4294967295))), (some 15), none⟩, ⟨(.mov (.t 15)), (some 6), none⟩] false) (.seq (.region [⟨(.mov (.t 0)), (some 16), none⟩, ⟨(.bin .shr (.t 16) (.k (.int .u64 32))), (some 17), none⟩, ⟨(.mov (.t 17)), (some 7), none⟩] false) (.seq (.region [⟨(.mov (.t 1)), (some 18), none⟩, ⟨(.bin .and (.t 18) (.k (.int .u64 4294967295))), (some 19), none⟩, ⟨(.mov (.t 19)), (some 8), none⟩] false) (.seq (.region [⟨(.mov (.t 1)), (some 20), none⟩, ⟨(.bin .shr (.t 20) (.k (.int .u64 32))), (some 21), none⟩, ⟨(.mov (.t 21)), (some 9), none⟩] false) (.seq (.region [⟨(.mov (.t 6)), (some 22), none⟩, ⟨(.mov (.t 8)), (some 23), none⟩, ⟨(.bin .mul (.t 22) (.t 23)), (some 24), none⟩, ⟨(.mov (.t 24)), (some 10), none⟩] false) (.seq (.region [⟨(.mov (.t 7)), (some 25), none⟩, ⟨(.mov (.t 8)), (some 26), none⟩, ⟨(.bin .mul (.t 25) (.t 26)), (some 27), none⟩, ⟨(.mov (.t 10)), (some 28), none⟩, ⟨(.bin .shr (.t 28) (.k (.int .u64 32))), (some 29), none⟩, ⟨(.bin .add (.t 27) (.t 29)), (some 30), none⟩, ⟨(.mov (.t 30)), (some 11), none⟩] false) (.seq (.region [⟨(.mov (.t 11)), (some 31), none⟩, ⟨(.bin .and (.t 31) (.k (.int .u64 4294967295))), (some 32), none⟩, ⟨(.mov (.t 32)), (some 12), none⟩] false) (.seq (.region [⟨(.mov (.t 11)), (some 33), none⟩, ⟨(.bin .shr (.t 33) (.k (.int .u64 32))), (some 34), none⟩, ⟨(.mov (.t 34)), (some 13), none⟩] false) (.seq (.region [⟨(.mov (.t 12)), (some 35), none⟩, ⟨(.mov (.t 6)), (some 36), none⟩, ⟨(.mov (.t 9)), (some 37), none⟩, ⟨(.bin .mul (.t 36) (.t 37)), (some 38), none⟩, ⟨(.bin .add (.t 35) (.t 38)), (some 39), none⟩, ⟨(.mov (.t 39)), (some 12), none⟩] false) (.seq (.region [⟨(.mov (.t 7)), (some 40), none⟩, ⟨(.mov (.t 9)), (some 41), none⟩, ⟨(.bin .mul (.t 40) (.t 41)), (some 42), none⟩, ⟨(.mov (.t 13)), (some 43), none⟩, ⟨(.bin .add (.t 42) (.t 43)), (some 44), none⟩, ⟨(.mov (.t 12)), (some 45), none⟩, ⟨(.bin .shr (.t 45) (.k (.int .u64 32))), (some 46), none⟩, ⟨(.bin .add (.t 44) (.t 46)), (some 47), none⟩, ⟨(.mov (.t 47)), (some 4), none⟩] false) (.seq (.region [⟨(.mov (.t 0)), (some 48), none⟩, ⟨(.mov (.t 1)), (some 49), none⟩, ⟨(.bin .mul (.t 48) (.t 49)), (some 50), none⟩, ⟨(.mov (.t 50)), (some 5), none⟩] false) .ret))))))))))))
theorem has150 : Has cx 150 51 m150 [(.tmp 4), (.tmp 5)] :=
  ⟨⟨Try.f150, Try.f150.body.getD .skip, by kernel_rfl, by kernel_rfl, by kernel_rfl, by kernel_rfl, by kernel_rfl, by kernel_rfl⟩⟩
theorem ev150 (y : Nat) (hy : y < 4294967296) : Ev cx 150 [.int .u64 1, .int .u64 y] [] (.tup [.int .u64 0, .int .u64 y]) [] := by
  have m1 : y &&& 4294967295 = y := by
    rw [show (4294967295 : Nat) = 2 ^ 32 - 1 from rfl, Nat.and_two_pow_sub_one_eq_mod, Nat.mod_eq_of_lt hy]
  have s1 : y >>> 32 = 0 := by rw [Nat.shiftRight_eq_div_pow]; exact Nat.div_eq_of_lt (by simpa using hy)
  have b1 : binV .and (.int .u64 1) (.int .u64 4294967295) = some (.int .u64 1) := by simp only [binV, ne_eq, not_true, if_false]; rfl
  have b2 : binV .shr (.int .u64 1) (.int .u64 32) = some (.int .u64 0) := by simp only [binV]; rw [if_neg (by omega)]; rfl
  have b3 : binV .and (.int .u64 (y : Nat)) (.int .u64 4294967295) = some (.int .u64 (y : Nat)) := by
    have := b_andU (x := y) (y := 4294967295) (by omega) (by omega)
    rw [m1] at this; exact this
  have b4 : binV .shr (.int .u64 (y : Nat)) (.int .u64 32) = some (.int .u64 0) := by
    have := b_shrU (k' := .u64) (x := y) (y := 32) (by omega)
    rw [s1] at this; exact this
  have b5 : binV .mul (.int .u64 1) (.int .u64 (y : Nat)) = some (.int .u64 (y : Nat)) := by
    simp only [binV, ne_eq, not_true, if_false]; rw [w_u64 (by omega) (by omega), Int.one_mul]
  have b6 : binV .mul (.int .u64 0) (.int .u64 (y : Nat)) = some (.int .u64 0) := by
    simp only [binV, ne_eq, not_true, if_false]; rw [Int.zero_mul]; rfl
  have b7 : binV .add (.int .u64 0) (.int .u64 0) = some (.int .u64 0) := by simp only [binV, ne_eq, not_true, if_false]; rfl
  have b8 : binV .and (.int .u64 0) (.int .u64 4294967295) = some (.int .u64 0) := by simp only [binV, ne_eq, not_true, if_false]; rfl
  have b9 : binV .shr (.int .u64 0) (.int .u64 32) = some (.int .u64 0) := by simp only [binV]; rw [if_neg (by omega)]; rfl
  have b10 : binV .mul (.int .u64 1) (.int .u64 0) = some (.int .u64 0) := by simp only [binV, ne_eq, not_true, if_false]; rfl
  have b11 : binV .mul (.int .u64 0) (.int .u64 0) = some (.int .u64 0) := by simp only [binV, ne_eq, not_true, if_false]; rfl
  refine has150.eev rfl rfl ?_
  unfold m150
  repeat' (first
    | (refine g_op ?_; first
      | refine ep_mov rfl ?_
      | refine ep_bin rfl rfl (by first | exact b1 | exact b2 | exact b3 | exact b4 | exact b5 | exact b6 | exact b7 | exact b8 | exact b9 | exact b10 | exact b11 | exact b_add (by omega) (by omega) | exact b_sub (by omega) (by omega) | exact b_and (by omega) (by omega) | exact b_or (by omega) (by omega) | exact b_shr (by omega) | exact b_shl (by omega) (by omega) | exact b_lss | exact b_leq | exact b_gtr | exact b_geq | exact b_eql | exact b_neq) ?_)
    | (refine g_ops ?_; first | refine eo_none ?_ | refine eo_nil ?_)
    | (refine g_code ?_; first | refine ec_seq ?_ | refine ec_region ?_ | refine ec_ret ?_)
    | refine ek_seqN ?_ | refine ek_seqR ?_)
  refine sfin (.inr rfl) (by rfl) (by rfl) (by exact ⟨rfl, rfl, rfl⟩) (by rfl) (by rfl) (by rfl) (by first | rfl | (simp; done) | (simp [ints, prs]; done))
-- math/bits.Mul
def m138 : MC := (.seq (.region [⟨(.mov (.k (.int .u64 0))), (some 4), none⟩, ⟨(.mov (.k (.int .u64 0))), (some 5), none⟩] false) (.seq (.cond (.k (.bool false)) (.seq (.region [⟨(.mov (.t 0)), (some 11), none⟩, ⟨(.conv .u32 (.t 11)), (some 12), none⟩, ⟨(.mov (.t 1)), (some 13), none⟩, ⟨(.conv .u32 (.t 13)), (some 14), none⟩, ⟨(.call 149 [(.t 12), (.t 14)]), (some 15), none⟩, ⟨(.mov (.t 15)), (some 10), none⟩, ⟨(.extract (.t 10) 0), (some 16), none⟩, ⟨(.extract (.t 10) 1), (some 17), none⟩, ⟨(.mov (.t 16)), (some 6), none⟩, ⟨(.mov (.t 17)), (some 7), none⟩] false) (.seq (.region [⟨(.mov (.t 6)), (some 18), none⟩, ⟨(.conv .u64 (.t 18)), (some 19), none⟩, ⟨(.mov (.t 7)), (some 20), none⟩, ⟨(.conv .u64 (.t 20)), (some 21), none⟩, ⟨(.mov (.t 19)), (some 4), none⟩, ⟨(.mov (.t 21)), (some 5), none⟩] false) .ret)) .skip) (.seq (.region [⟨(.mov (.t 0)), (some 23), none⟩, ⟨(.mov (.t 1)), (some 24), none⟩, ⟨(.call 150 [(.t 23), (.t 24)]), (some 25), none⟩, ⟨(.mov (.t 25)), (some 22), none⟩, ⟨(.extract (.t 22) 0), (some 26), none⟩, ⟨(.extract (.t 22) 1), (some 27), none⟩, ⟨(.mov (.t 26)), (some 8), none⟩, ⟨(.mov (.t 27)), (some 9), none⟩] false) (.seq (.region [⟨(.mov (.t 8)), (some 28), none⟩, ⟨(.mov (.t 9)), (some 29), none⟩, ⟨(.mov (.t 28)), (some 4), none⟩, ⟨(.mov (.t 29)), (some 5), none⟩] false) .ret))))
theorem has138 : Has cx 138 30 m138 [(.tmp 4), (.tmp 5)] :=
  ⟨⟨Try.f138, Try.f138.body.getD .skip, by kernel_rfl, by kernel_rfl, by kernel_rfl, by kernel_rfl, by kernel_rfl, by kernel_rfl⟩⟩
theorem ev138 (y : Nat) (hy : y < 4294967296) : Ev cx 138 [.int .u64 1, .int .u64 y] [] (.tup [.int .u64 0, .int .u64 y]) [] := by
  have e := ev150 y hy
  refine has138.eev rfl rfl ?_
  unfold m138
  repeat' (first
    | (refine g_op ?_; first
      | refine ep_mov rfl ?_
      | refine ep_call0 rfl (by first | exact e) rfl rfl ?_
      | refine sp_call rfl rfl rfl rfl (by first | exact e) ⟨rfl, rfl, rfl, rfl⟩ rfl rfl rfl ?_
      | refine ep_extract rfl rfl ?_ | refine ep_conv rfl (by first | exact w_u64 (by omega) (by omega) | exact wrap_id (by omega) (by omega) | rfl) ?_)
    | (refine g_ops ?_; first | refine eo_none ?_ | refine eo_nil ?_)
    | (refine g_code ?_; first | refine ec_seq ?_ | refine ec_region ?_ | refine ec_skip ?_ | refine ec_ret ?_ | refine ec_condT rfl ?_ | refine ec_condF rfl ?_ | refine ec_condTH rfl (by assumption) ?_ | refine ec_condFH rfl (by assumption) ?_)
    | refine ek_seqN ?_ | refine ek_seqR ?_)
  refine sfin (.inr rfl) (by rfl) (by rfl) (by exact ⟨rfl, rfl, rfl⟩) (by rfl) (by rfl) (by rfl) (by first | rfl | (simp; done) | (simp [ints, prs]; done))
def rpL (M : Nat) (v : Int) (i : Nat) : List Int := List.replicate (R2 i) v ++ List.replicate (R2 M - R2 i) 0
theorem zrep (k : Nat) (v : Int) : zints (List.replicate k v) = List.replicate k (V.int .i64 v) := by simp [zints]
theorem zrep_flat (k : Nat) : zints (List.replicate k 0) = (List.replicate k [V.int .i64 0]).flatten := by
  induction k with
  | zero => rfl
  | succ k ih => rw [List.replicate_succ, List.replicate_succ, List.flatten_cons, ← ih]; rfl
theorem rpL_0 (M : Nat) (v : Int) : (zints (List.replicate (R2 M) 0)).take 0 ++ [V.int .i64 v].take (1 * 1) ++ (zints (List.replicate (R2 M) 0)).drop (0 + 1 * 1) = zints (rpL M v 0) := by
  have h0 : R2 0 = 1 := by unfold R2; rfl
  rw [rpL, h0]; simp [zints]
theorem rpL_row {M : Nat} {v : Int} {i : Nat} : ((zints (rpL M v i)).drop 0).take (R2 i * 1) = zints (List.replicate (R2 i) v) := by
  rw [rpL]; simp [zints]
theorem rpL_s {M : Nat} {v : Int} {i : Nat} (hi : i < M) : (zints (rpL M v i)).take (R2 i) ++ (zints (List.replicate (R2 i) v)).take (R2 i * 1) ++ (zints (rpL M v i)).drop (R2 i + R2 i * 1) = zints (rpL M v (i + 1)) := by
  have h1 := R2_succ i
  have h2 := R2_mono (i := i + 1) (n := M) (by omega)
  rw [rpL, rpL, h1]
  simp only [zints, List.map_append, List.map_replicate, Nat.mul_one]
  rw [List.take_left' (by simp), List.drop_append, List.drop_eq_nil_of_le (by simp)]
  simp only [List.take_replicate, Nat.min_self, List.length_replicate, List.drop_replicate, List.nil_append]
  rw [List.replicate_append_replicate, show R2 i + R2 i = 2 * R2 i by omega]
  try rw [show R2 M - R2 i - (2 * R2 i - R2 i) = R2 M - 2 * R2 i by omega]
theorem rpL_M (M : Nat) (v : Int) : rpL M v M = List.replicate (R2 M) v := by rw [rpL, Nat.sub_self]; simp
theorem rpL_len {M : Nat} {v : Int} {i : Nat} (hi : i ≤ M) : (zints (rpL M v i)).length = R2 M := by
  have := R2_mono hi
  rw [zints_len, rpL]; simp; omega
-- slices.Repeat[[]int64,int64]
def m105_0 : MC := (.seq (.seq (.region [⟨(.mov (.t 8)), (some 34), none⟩, ⟨(.mov (.t 7)), (some 35), none⟩, ⟨(.len (.t 35)), (some 36), none⟩, ⟨(.bin .lss (.t 34) (.t 36)), (some 37), none⟩] false) (.cond (.t 37) .skip (.exit 0))) (.block 1 (.region [⟨(.mov (.t 8)), (some 38), none⟩, ⟨(.mov (.t 7)), (some 39), none⟩, ⟨(.mov (.t 8)), (some 40), none⟩, ⟨(.slice 1 (.t 39) (some (.t 40)) none), (some 41), none⟩, ⟨(.mov (.t 7)), (some 42), none⟩, ⟨(.mov (.t 8)), (some 43), none⟩, ⟨(.slice 1 (.t 42) none (some (.t 43))), (some 44), none⟩, ⟨(.copy 1 (.t 41) (.t 44)), (some 45), none⟩, ⟨(.bin .add (.t 38) (.t 45)), (some 46), none⟩, ⟨(.mov (.t 46)), (some 8), none⟩] true)))
def m105 : MC := (.seq (.region [⟨(.mov (.k .nils)), (some 4), none⟩] false) (.seq (.seq (.region [⟨(.mov (.t 1)), (some 9), none⟩, ⟨(.bin .lss (.t 9) (.k (.int .i64 0))), (some 10), none⟩] false) (.cond (.t 10) (.region [⟨.bad, (some 11), none⟩, ⟨.bad, none, none⟩] false) .skip)) (.seq (.region [⟨(.mov (.t 0)), (some 13), none⟩, ⟨(.len (.t 13)), (some 14), none⟩, ⟨(.conv .u64 (.t 14)), (some 15), none⟩, ⟨(.mov (.t 1)), (some 16), none⟩, ⟨(.conv .u64 (.t 16)), (some 17), none⟩, ⟨(.call 138 [(.t 15), (.t 17)]), (some 18), none⟩, ⟨(.mov (.t 18)), (some 12), none⟩, ⟨(.extract (.t 12) 0), (some 19), none⟩, ⟨(.extract (.t 12) 1), (some 20), none⟩, ⟨(.mov (.t 19)), (some 5), none⟩, ⟨(.mov (.t 20)), (some 6), none⟩] false) (.seq (.seq (.region [⟨(.mov (.t 5)), (some 21), none⟩, ⟨(.bin .gtr (.t 21) (.k (.int .u64 0))), (some 22), none⟩, ⟨(.mov (.t 22)), (some 23), none⟩, ⟨(.mov (.t 6)), (some 24), (some (23, false))⟩, ⟨(.bin .gtr (.t 24) (.k (.int .u64 9223372036854775807))), (some 25), (some (23, false))⟩, ⟨(.pick (.t 23) (.k (.bool true)) (.t 25)), (some 26), none⟩] false) (.cond (.t 26) (.region [⟨.bad, (some 27), none⟩, ⟨.bad, none, none⟩] false) .skip)) (.seq (.region [⟨(.mov (.t 6)), (some 28), none⟩, ⟨(.conv .i64 (.t 28)), (some 29), none⟩, ⟨(.make 1 8 [(.int .i64 0)] (.t 29)), (some 30), none⟩, ⟨(.mov (.t 30)), (some 7), none⟩] false) (.seq (.region [⟨(.mov (.t 7)), (some 31), none⟩, ⟨(.mov (.t 0)), (some 32), none⟩, ⟨(.copy 1 (.t 31) (.t 32)), (some 33), none⟩, ⟨(.mov (.t 33)), (some 8), none⟩] false) (.seq (.block 0 (.loop m105_0)) (.seq (.region [⟨(.mov (.t 7)), (some 47), none⟩, ⟨(.mov (.t 47)), (some 4), none⟩] false) .ret))))))))
theorem has105 : Has cx 105 48 m105 [(.tmp 4)] :=
  ⟨⟨Try.f105, Try.f105.body.getD .skip, by kernel_rfl, by kernel_rfl, by kernel_rfl, by kernel_rfl, by kernel_rfl, by kernel_rfl⟩⟩
theorem lprp (M : Nat) (v : Int) (hM : M ≤ 16) :
    LpS cx 48 1 m105_0 [(7, .sl 1 0 (R2 M)), (8, .int .i64 (R2 (0) : Nat))] [⟨[.int .i64 v], 1, 0, some 0, true⟩, ⟨zints (rpL M v (0)), 1, 1, some 0, false⟩] (⟨.exit 0, [(7, .sl 1 0 (R2 M))], [⟨[.int .i64 v], 1, 0, some 0, true⟩, ⟨zints (rpL M v (M)), 1, 1, some 0, false⟩]⟩ : Out).x (⟨.exit 0, [(7, .sl 1 0 (R2 M))], [⟨[.int .i64 v], 1, 0, some 0, true⟩, ⟨zints (rpL M v (M)), 1, 1, some 0, false⟩]⟩ : Out).e (⟨.exit 0, [(7, .sl 1 0 (R2 M))], [⟨[.int .i64 v], 1, 0, some 0, true⟩, ⟨zints (rpL M v (M)), 1, 1, some 0, false⟩]⟩ : Out).h := by
  have h16 := R2_mono hM
  have h17 : R2 16 = 65536 := by unfold R2; rfl
  refine lp_st (M) (fun _ => ()) (fun i _ => [(7, .sl 1 0 (R2 M)), (8, .int .i64 (R2 (i) : Nat))]) (fun i _ => [⟨[.int .i64 v], 1, 0, some 0, true⟩, ⟨zints (rpL M v (i)), 1, 1, some 0, false⟩]) (fun _ => (⟨.exit 0, [(7, .sl 1 0 (R2 M))], [⟨[.int .i64 v], 1, 0, some 0, true⟩, ⟨zints (rpL M v (M)), 1, 1, some 0, false⟩]⟩ : Out)) ?_ ?_ (M) 0 (by omega)
  · intro i u_ hi hu_
    refine ⟨(), rfl, ?_⟩
    have hlt : decide ((i : Int) < (M : Nat)) = true := decide_eq_true (by omega)
    have h1 := R2_succ i
    have h2 := R2_mono (i := i + 1) (n := M) (by omega)
    have hq : decide (((R2 i : Nat) : Int) < (R2 M : Nat)) = true := decide_eq_true (by have := R2_pos i; omega)
    have hadd : binV .add (.int .i64 (R2 i : Nat)) (.int .i64 (R2 i : Nat)) = some (.int .i64 (R2 (i + 1) : Nat)) := by rw [b_addN (by omega)]; congr 2; omega
    have hl := rpL_len (M := M) (v := v) (i := i) (by omega)
    have hset := rpL_s (M := M) (v := v) hi
    have hrow : rowOf [⟨[.int .i64 v], 1, 0, some 0, true⟩, ⟨zints (rpL M v i), 1, 1, some 0, false⟩] 1 (.sl 1 0 (R2 i)) = some (zints (List.replicate (R2 i) v), R2 i) := by
      simp only [rowOf, List.getElem?_cons_succ, List.getElem?_cons_zero]; rw [rpL_row]
    unfold m105_0
    repeat' (first
      | refine ep_slice (p := (R2 i : Nat)) (q := (R2 M : Nat)) (o' := R2 i) (n' := R2 M - R2 i) rfl rfl rfl (.inr ⟨_, rfl⟩) (.inl ⟨rfl, rfl⟩) ⟨by omega, by omega, by omega, by simp, by omega⟩ rfl rfl ?_
      | refine ep_slice (p := 0) (q := (R2 i : Nat)) (o' := 0) (n' := R2 i) rfl rfl rfl (.inl ⟨rfl, rfl⟩) (.inr ⟨_, rfl⟩) ⟨by omega, by omega, by omega, rfl, by omega⟩ rfl rfl ?_
      | refine sp_copy (k := R2 i) rfl rfl hrow rfl ⟨_, rfl, .inl rfl⟩ (Nat.zero_le _) (by simp [zints]) (by omega) (by omega) hset rfl ?_
      | (refine g_op ?_; first
        | refine ep_mov rfl ?_
        | refine ep_bin rfl rfl (by first | exact hadd | exact b_add (by omega) (by omega) | exact b_sub (by omega) (by omega) | exact b_and (by omega) (by omega) | exact b_or (by omega) (by omega) | exact b_shr (by omega) | exact b_shl (by omega) (by omega) | exact b_lss | exact b_leq | exact b_gtr | exact b_geq | exact b_eql | exact b_neq) ?_
        | refine ep_lenS rfl ?_ | refine ep_lenN rfl ?_ | refine ep_lenE rfl ?_)
      | (refine g_ops ?_; first | refine eo_none ?_ | refine eo_nil ?_)
      | (refine g_dops ?_; first | refine ed_none ?_ | refine ed_nil ?_)
      | refine ed_same rfl ?_ | refine ed_one rfl rfl rfl rfl ?_ | refine ed_two rfl rfl rfl rfl rfl rfl rfl ?_ | refine ed_write rfl rfl ?_
      | (refine g_code ?_; first | refine ec_seq ?_ | refine ec_region ?_ | refine ec_draw ?_ | refine ec_block ?_ | refine ec_skip ?_ | refine ec_exit ?_ | refine ec_condT rfl ?_ | refine ec_condF rfl ?_ | refine ec_condTH rfl (by assumption) ?_ | refine ec_condFH rfl (by assumption) ?_)
      | refine ek_seqN ?_ | refine ek_seqX ?_ | refine ek_blkN ?_ | refine ek_blkR ?_ | refine ek_blkX ?_ | refine ek_blkY rfl ?_)
    exact rnd_on (by rfl) (scmp2 (by rfl) (by rfl) (by exact ⟨rfl, rfl, rfl⟩) (by rfl) (by first | rfl | (simp; done) | (simp [ints, prs]; done)) (by rfl) (by first | rfl | (simp; done) | (simp [ints, prs]; done)))
  · intro u_ hu_
    have hlt : decide (((M : Nat) : Int) < (M : Nat)) = false := decide_eq_false (by omega)
    have hq : decide (((R2 M : Nat) : Int) < (R2 M : Nat)) = false := decide_eq_false (by omega)
    unfold m105_0
    repeat' (first
      | (refine g_op ?_; first
        | refine ep_mov rfl ?_
        | refine ep_bin rfl rfl (by first | exact b_add (by omega) (by omega) | exact b_sub (by omega) (by omega) | exact b_and (by omega) (by omega) | exact b_or (by omega) (by omega) | exact b_shr (by omega) | exact b_shl (by omega) (by omega) | exact b_lss | exact b_leq | exact b_gtr | exact b_geq | exact b_eql | exact b_neq) ?_
        | refine ep_lenS rfl ?_ | refine ep_lenN rfl ?_ | refine ep_lenE rfl ?_)
      | (refine g_ops ?_; first | refine eo_none ?_ | refine eo_nil ?_)
      | (refine g_dops ?_; first | refine ed_none ?_ | refine ed_nil ?_)
      | refine ed_same rfl ?_ | refine ed_one rfl rfl rfl rfl ?_ | refine ed_two rfl rfl rfl rfl rfl rfl rfl ?_ | refine ed_write rfl rfl ?_
      | (refine g_code ?_; first | refine ec_seq ?_ | refine ec_region ?_ | refine ec_draw ?_ | refine ec_block ?_ | refine ec_skip ?_ | refine ec_exit ?_ | refine ec_condT rfl ?_ | refine ec_condF rfl ?_ | refine ec_condTH rfl (by assumption) ?_ | refine ec_condFH rfl (by assumption) ?_)
      | refine ek_seqN ?_ | refine ek_seqX ?_ | refine ek_blkN ?_ | refine ek_blkR ?_ | refine ek_blkX ?_ | refine ek_blkY rfl ?_)
    exact rnd_out (by rfl) (by simp) (scmp2 (by rfl) (by rfl) (by exact ⟨rfl, rfl, rfl⟩) (by rfl) (by first | rfl | (simp; done) | (simp [ints, prs]; done)) (by rfl) (by first | rfl | (simp; done) | (simp [ints, prs]; done)))

theorem ev105 (M : Nat) (v : Int) (hM : M ≤ 16) : Ev cx 105 [.sl 0 0 1, .int .i64 (R2 M : Nat)] [⟨[.int .i64 v], 1, 0, some 0, true⟩] (.sl 1 0 (R2 M)) [⟨[.int .i64 v], 1, 0, some 0, true⟩, ⟨zints (List.replicate (R2 M) v), 1, 1, some 0, false⟩] := by
  have h16 := R2_mono hM
  have h17 : R2 16 = 65536 := by unfold R2; rfl
  have h0 := R2_pos M
  have lp := lprp M v hM
  rw [rpL_M, show R2 0 = 1 by unfold R2; rfl] at lp
  have e := ev138 (R2 M) (by omega)
  have hq : decide (((R2 M : Nat) : Int) < 0) = false := decide_eq_false (by omega)
  have hq1 : decide (((R2 M : Nat) : Int) > 9223372036854775807) = false := decide_eq_false (by omega)
  have hz := zrep_flat (R2 M)
  have hl : (zints (List.replicate (R2 M) 0)).length = R2 M := by rw [zints_len]; simp
  have hset := rpL_0 M v
  refine has105.eev rfl rfl ?_
  unfold m105
  repeat' (first
    | refine sc_loop lp rfl rfl ⟨rfl, rfl, rfl⟩ rfl rfl rfl ?_
    | refine sp_make (mm := R2 M) (l := zints (List.replicate (R2 M) 0)) rfl rfl (by omega) hz rfl rfl ?_
    | refine sp_copy (k := 1) (l2 := [.int .i64 v]) rfl rfl rfl rfl ⟨_, rfl, .inr rfl⟩ (Nat.zero_le _) rfl (by omega) (by omega) hset rfl ?_
    | (refine g_op ?_; first
      | refine ep_mov rfl ?_
      | refine ep_call0 rfl (by first | exact e) rfl rfl ?_
      | refine sp_call rfl rfl rfl rfl (by first | exact e) ⟨rfl, rfl, rfl, rfl⟩ rfl rfl rfl ?_
      | refine ep_bin rfl rfl (by first | exact b_add (by omega) (by omega) | exact b_sub (by omega) (by omega) | exact b_and (by omega) (by omega) | exact b_or (by omega) (by omega) | exact b_shr (by omega) | exact b_shl (by omega) (by omega) | exact b_lss | exact b_leq | exact b_gtr | exact b_geq | exact b_eql | exact b_neq) ?_
      | refine ep_pickT rfl rfl ?_ | refine ep_pickF rfl rfl ?_ | refine ep_pickTH rfl (by assumption) rfl ?_ | refine ep_pickFH rfl (by assumption) rfl ?_ | refine ep_extract rfl rfl ?_ | refine ep_conv rfl (by first | exact w_u64 (by omega) (by omega) | exact wrap_id (by omega) (by omega) | rfl) ?_
      | refine ep_lenS rfl ?_ | refine ep_lenN rfl ?_ | refine ep_lenE rfl ?_)
    | (refine g_ops ?_; first | refine eo_none ?_ | refine eo_nil ?_ | refine eo_yes rfl ?_ | refine eo_no rfl ?_ | refine eo_und rfl ?_ | refine eo_yesH rfl (by assumption) ?_ | refine eo_noH rfl (by assumption) ?_)
    | (refine g_code ?_; first | refine ec_seq ?_ | refine ec_region ?_ | refine ec_block ?_ | refine ec_skip ?_ | refine ec_ret ?_ | refine ec_condT rfl ?_ | refine ec_condF rfl ?_ | refine ec_condTH rfl (by assumption) ?_ | refine ec_condFH rfl (by assumption) ?_)
    | refine ek_seqN ?_ | refine ek_seqX ?_ | refine ek_seqR ?_ | refine ek_blkN ?_ | refine ek_blkR ?_ | refine ek_blkX ?_ | refine ek_blkY rfl ?_)
  refine sfin (.inr rfl) (by rfl) (by rfl) (by exact ⟨rfl, rfl, rfl⟩) (by rfl) (by rfl) (by rfl) (by first | rfl | (simp; done) | (simp [ints, prs]; done))

theorem allF_at {P : Nat → Bool} {n i : Nat} (h : allF P 0 n = true) (hi : i < n) : P i = true := by
  rw [allF_iff] at h; exact h i (Nat.zero_le _) (by omega)
theorem projB_lt (n i : Nat) : projB n i < R2 (R2 n) := pk_lt fun r _ => bt_le _ _
theorem D0_s (n i : Nat) : D0 n (i + 1) = (D0 n i).set (projB n i) 0 := rfl
def rndT (fs : List (Int × Int)) (n : Nat) (d : Int) (L : List Nat) (D : List Int) (i : Nat) : GS := foldN (fun k s => walkT L (leafI d n (fs.getD k (0, 0)).2.toNat) (fs.getD k (0, 0)).1.toNat [] s) i (D, false)
theorem rndT_len {fs : List (Int × Int)} {n : Nat} {d : Int} {L : List Nat} {D : List Int} (hd : 0 ≤ d) (i : Nat) : (rndT fs n d L D i).1.length = D.length :=
  foldN_inv (I := fun u : GS => u.1.length = D.length) _ _ (fun j u _ hu => by rw [walk_len hd, hu]) rfl
def a3 (fs : List (Int × Int)) : Bool := allF (fun j => !decide ((fs.getD j (0, 0)).1 > 2)) 0 fs.length
def gcode (fs : List (Int × Int)) (z : Int) : Int := if lcode fs = 0 then (if 2 ≤ z ∧ z ≤ 3 then (if z = 3 ∧ a3 fs = false then 2 else 0) else 2) else lcode fs
theorem fns_at0 {l : List (Int × Int)} {j : Nat} (h : j < l.length) : (fns l)[0 + j * 2 + 0]? = some (.int .i64 (l.getD j (0, 0)).1) := by
  have h2 := congrArg (fun q : List V => q[0]?) (fns_get h).2.2
  simpa [List.getElem?_take, List.getElem?_drop] using h2
theorem gcode_0 {fs : List (Int × Int)} {z : Int} (h : gcode fs z = 0) : allFunc fs = true ∧ fs.length ≤ 8 ∧ 2 ≤ z ∧ z ≤ 3 := by
  unfold gcode at h
  split at h
  · rename_i h0
    split at h
    · rename_i h1
      unfold lcode at h0
      split at h0
      · rename_i ha
        split at h0
        · omega
        · exact ⟨ha, by omega, h1⟩
      · omega
    · omega
  · exact absurd h (by assumption)
theorem genS_le {fs : List (Int × Int)} {n : Nat} : ∀ (k d : Nat) (D : List Int), leD D (genS fs n k d D)
  | 0, d, D => leD_refl D
  | k + 1, d, D => by
    rw [genS]
    have h := (rnd_inv (fs := fs) (n := n) (d := d) (L := kwS (R2 (R2 n)) D) (D := D) (by omega)).1
    split
    · exact leD_trans h (genS_le k _ _)
    · exact h
theorem depL_pj {fs : List (Int × Int)} {n i : Nat} (hi : i < n) : (depL fs n).getD (projB n i) 0 = 0 := by
  have h0 : ∀ m, i < m → (D0 n m).getD (projB n i) 0 = 0 := by
    intro m
    induction m with
    | zero => intro h; omega
    | succ m ih =>
      intro h
      rw [D0_s, getD_set]
      split
      · rfl
      · by_cases e : i = m
        · subst e; rename_i hn; exact absurd ⟨rfl, by rw [D0_len]; exact projB_lt _ _⟩ hn
        · exact ih (by omega)
  have h1 := h0 n hi
  rw [depL, (genS_le _ _ _).2 _ (by omega), h1]
theorem kw_dep {fs : List (Int × Int)} {n : Nat} (hn : 1 ≤ n) : kwS (R2 (R2 n)) (depL fs n) ≠ [] := by
  obtain ⟨k, hk, _⟩ := selm_mem (p := fun b => decide (0 ≤ (depL fs n).getD b 0)) (n := R2 (R2 n)) (x := projB n 0) (projB_lt _ _) (by simp only [decide_eq_true_eq]; rw [depL_pj hn]; omega)
  intro he
  have he' : selm (fun b => decide (0 ≤ (depL fs n).getD b 0)) idn (R2 (R2 n)) = [] := he
  rw [he'] at hk; simp at hk
def gbL (fs : List (Int × Int)) (z : Int) : List Nat := if gcode fs z = 0 then kwS (R2 (R2 z.toNat)) (depL fs z.toNat) else []
abbrev gbC (fs : List (Int × Int)) (z : Int) : Int := gcode fs z
theorem gbL_len (fs : List (Int × Int)) (z : Int) : (gbL fs z).length ≤ 65536 := by
  unfold gbL
  split
  · rename_i h
    have hz := gcode_0 h
    have := selm_len (fun b => decide (0 ≤ (depL fs z.toNat).getD b 0)) idn (R2 (R2 z.toNat))
    have h2 := (shN (n := z.toNat) (by omega)).2.1
    unfold kwS; omega
  · simp
-- 60 105
def rpG (m : Nat) (v : Int) (q : Nat) : List Int := List.replicate q v ++ List.replicate (m - q) 0
theorem rpG_1 (m : Nat) (v : Int) (hm : 1 ≤ m) : (zints (List.replicate m 0)).take 0 ++ [V.int .i64 v].take (1 * 1) ++ (zints (List.replicate m 0)).drop (0 + 1 * 1) = zints (rpG m v 1) := by
  rw [rpG]; simp [zints]
theorem rpG_row {m : Nat} {v : Int} {q : Nat} : ((zints (rpG m v q)).drop 0).take (q * 1) = zints (List.replicate q v) := by
  rw [rpG]; simp [zints]
theorem rpG_s {m : Nat} {v : Int} {q k : Nat} (hk : k ≤ q) (hm : q + k ≤ m) : (zints (rpG m v q)).take q ++ (zints (List.replicate q v)).take (k * 1) ++ (zints (rpG m v q)).drop (q + k * 1) = zints (rpG m v (q + k)) := by
  rw [rpG, rpG]
  simp only [zints, List.map_append, List.map_replicate, Nat.mul_one]
  rw [List.take_left' (by simp), List.drop_append, List.drop_eq_nil_of_le (by simp)]
  simp only [List.take_replicate, List.length_replicate, List.drop_replicate, List.nil_append]
  rw [List.replicate_append_replicate, Nat.min_eq_left hk, show q + k - q = k by omega]
  try rw [show m - q - k = m - (q + k) by omega]
theorem rpG_len {m : Nat} {v : Int} {q : Nat} (hq : q ≤ m) : (zints (rpG m v q)).length = m := by
  rw [zints_len, rpG]; simp; omega
theorem lprpG (m K : Nat) (v : Int) (hm : m ≤ 65536) (hm1 : 1 ≤ m) (h1 : m ≤ R2 K) (h2 : ∀ i, i < K → R2 i < m) :
    LpS cx 48 1 m105_0 [(7, .sl 1 0 m), (8, .int .i64 (min (R2 (0)) m : Nat))] [⟨[.int .i64 v], 1, 0, some 0, true⟩, ⟨zints (rpG m v (min (R2 (0)) m)), 1, 1, some 0, false⟩] (⟨.exit 0, [(7, .sl 1 0 m)], [⟨[.int .i64 v], 1, 0, some 0, true⟩, ⟨zints (rpG m v (min (R2 (K)) m)), 1, 1, some 0, false⟩]⟩ : Out).x (⟨.exit 0, [(7, .sl 1 0 m)], [⟨[.int .i64 v], 1, 0, some 0, true⟩, ⟨zints (rpG m v (min (R2 (K)) m)), 1, 1, some 0, false⟩]⟩ : Out).e (⟨.exit 0, [(7, .sl 1 0 m)], [⟨[.int .i64 v], 1, 0, some 0, true⟩, ⟨zints (rpG m v (min (R2 (K)) m)), 1, 1, some 0, false⟩]⟩ : Out).h := by
  refine lp_st (K) (fun _ => ()) (fun i _ => [(7, .sl 1 0 m), (8, .int .i64 (min (R2 (i)) m : Nat))]) (fun i _ => [⟨[.int .i64 v], 1, 0, some 0, true⟩, ⟨zints (rpG m v (min (R2 (i)) m)), 1, 1, some 0, false⟩]) (fun _ => (⟨.exit 0, [(7, .sl 1 0 m)], [⟨[.int .i64 v], 1, 0, some 0, true⟩, ⟨zints (rpG m v (min (R2 (K)) m)), 1, 1, some 0, false⟩]⟩ : Out)) ?_ ?_ (K) 0 (by omega)
  · intro i u_ hi hu_
    refine ⟨(), rfl, ?_⟩
    have hlt : decide ((i : Int) < (K : Nat)) = true := decide_eq_true (by omega)
    have g1 := R2_succ i
    have g2 := h2 i hi
    have g3 := R2_pos i
    have hs : min (R2 (i + 1)) m = min (R2 i) m + min (min (R2 i) m) (m - min (R2 i) m) := by omega
    rw [hs]
    have hq1 : 1 ≤ min (R2 i) m := by omega
    have hq2 : min (R2 i) m < m := by omega
    generalize min (R2 i) m = q at *
    have hq : decide (((q : Nat) : Int) < (m : Nat)) = true := decide_eq_true (by omega)
    have hadd := b_addN (a := q) (b := min q (m - q)) (by omega)
    have hl := rpG_len (m := m) (v := v) (q := q) (by omega)
    have hset := rpG_s (m := m) (v := v) (q := q) (k := min q (m - q)) (by omega) (by omega)
    have hrow : rowOf [⟨[.int .i64 v], 1, 0, some 0, true⟩, ⟨zints (rpG m v q), 1, 1, some 0, false⟩] 1 (.sl 1 0 q) = some (zints (List.replicate q v), q) := by
      simp only [rowOf, List.getElem?_cons_succ, List.getElem?_cons_zero]; rw [rpG_row]
    unfold m105_0
    repeat' (first
      | refine ep_slice (p := (q : Nat)) (q := (m : Nat)) (o' := q) (n' := m - q) rfl rfl rfl (.inr ⟨_, rfl⟩) (.inl ⟨rfl, rfl⟩) ⟨by omega, by omega, by omega, by simp, by omega⟩ rfl rfl ?_
      | refine ep_slice (p := 0) (q := (q : Nat)) (o' := 0) (n' := q) rfl rfl rfl (.inl ⟨rfl, rfl⟩) (.inr ⟨_, rfl⟩) ⟨by omega, by omega, by omega, rfl, by omega⟩ rfl rfl ?_
      | refine sp_copy (k := min q (m - q)) rfl rfl hrow rfl ⟨_, rfl, .inl rfl⟩ (Nat.zero_le _) (by simp [zints]) (by omega) (by omega) hset rfl ?_
      | (refine g_op ?_; first
        | refine ep_mov rfl ?_
        | refine ep_bin rfl rfl (by first | exact hadd | exact b_add (by omega) (by omega) | exact b_sub (by omega) (by omega) | exact b_and (by omega) (by omega) | exact b_or (by omega) (by omega) | exact b_shr (by omega) | exact b_shl (by omega) (by omega) | exact b_lss | exact b_leq | exact b_gtr | exact b_geq | exact b_eql | exact b_neq) ?_
        | refine ep_lenS rfl ?_ | refine ep_lenN rfl ?_ | refine ep_lenE rfl ?_)
      | (refine g_ops ?_; first | refine eo_none ?_ | refine eo_nil ?_)
      | (refine g_dops ?_; first | refine ed_none ?_ | refine ed_nil ?_)
      | refine ed_same rfl ?_ | refine ed_one rfl rfl rfl rfl ?_ | refine ed_two rfl rfl rfl rfl rfl rfl rfl ?_ | refine ed_write rfl rfl ?_
      | (refine g_code ?_; first | refine ec_seq ?_ | refine ec_region ?_ | refine ec_draw ?_ | refine ec_block ?_ | refine ec_skip ?_ | refine ec_exit ?_ | refine ec_condT rfl ?_ | refine ec_condF rfl ?_ | refine ec_condTH rfl (by assumption) ?_ | refine ec_condFH rfl (by assumption) ?_)
      | refine ek_seqN ?_ | refine ek_seqX ?_ | refine ek_blkN ?_ | refine ek_blkR ?_ | refine ek_blkX ?_ | refine ek_blkY rfl ?_)
    exact rnd_on (by rfl) (scmp2 (by rfl) (by rfl) (by exact ⟨rfl, rfl, rfl⟩) (by rfl) (by first | rfl | (simp; done) | (simp [ints, prs]; done)) (by rfl) (by first | rfl | (simp; done) | (simp [ints, prs]; done)))
  · intro u_ hu_
    have hlt : decide (((K : Nat) : Int) < (K : Nat)) = false := decide_eq_false (by omega)
    have hkm : min (R2 K) m = m := by omega
    rw [hkm]
    have hq : decide (((m : Nat) : Int) < (m : Nat)) = false := decide_eq_false (by omega)
    unfold m105_0
    repeat' (first
      | (refine g_op ?_; first
        | refine ep_mov rfl ?_
        | refine ep_bin rfl rfl (by first | exact b_add (by omega) (by omega) | exact b_sub (by omega) (by omega) | exact b_and (by omega) (by omega) | exact b_or (by omega) (by omega) | exact b_shr (by omega) | exact b_shl (by omega) (by omega) | exact b_lss | exact b_leq | exact b_gtr | exact b_geq | exact b_eql | exact b_neq) ?_
        | refine ep_lenS rfl ?_ | refine ep_lenN rfl ?_ | refine ep_lenE rfl ?_)
      | (refine g_ops ?_; first | refine eo_none ?_ | refine eo_nil ?_)
      | (refine g_dops ?_; first | refine ed_none ?_ | refine ed_nil ?_)
      | refine ed_same rfl ?_ | refine ed_one rfl rfl rfl rfl ?_ | refine ed_two rfl rfl rfl rfl rfl rfl rfl ?_ | refine ed_write rfl rfl ?_
      | (refine g_code ?_; first | refine ec_seq ?_ | refine ec_region ?_ | refine ec_draw ?_ | refine ec_block ?_ | refine ec_skip ?_ | refine ec_exit ?_ | refine ec_condT rfl ?_ | refine ec_condF rfl ?_ | refine ec_condTH rfl (by assumption) ?_ | refine ec_condFH rfl (by assumption) ?_)
      | refine ek_seqN ?_ | refine ek_seqX ?_ | refine ek_blkN ?_ | refine ek_blkR ?_ | refine ek_blkX ?_ | refine ek_blkY rfl ?_)
    exact rnd_out (by rfl) (by simp) (scmp2 (by rfl) (by rfl) (by exact ⟨rfl, rfl, rfl⟩) (by rfl) (by first | rfl | (simp; done) | (simp [ints, prs]; done)) (by rfl) (by first | rfl | (simp; done) | (simp [ints, prs]; done)))

theorem evrepG (m K : Nat) (v : Int) (hm : m ≤ 65536) (hm1 : 1 ≤ m) (h1 : m ≤ R2 K) (h2 : ∀ i, i < K → R2 i < m) : Ev cx 105 [.sl 0 0 1, .int .i64 (m : Nat)] [⟨[.int .i64 v], 1, 0, some 0, true⟩] (.sl 1 0 m) [⟨[.int .i64 v], 1, 0, some 0, true⟩, ⟨zints (List.replicate m v), 1, 1, some 0, false⟩] := by
  have lp := lprpG m K v hm hm1 h1 h2
  rw [show min (R2 K) m = m by omega, show min (R2 0) m = 1 by { have h00 : R2 0 = 1 := (by unfold R2; rfl); omega }, show rpG m v m = List.replicate m v by rw [rpG, Nat.sub_self]; simp] at lp
  have e := ev138 m (by omega)
  have hq : decide (((m : Nat) : Int) < 0) = false := decide_eq_false (by omega)
  have hq1 : decide (((m : Nat) : Int) > 9223372036854775807) = false := decide_eq_false (by omega)
  have hz := zrep_flat m
  have hl : (zints (List.replicate m 0)).length = m := by rw [zints_len]; simp
  have hset := rpG_1 m v hm1
  refine has105.eev rfl rfl ?_
  unfold m105
  repeat' (first
    | refine sc_loop lp rfl rfl ⟨rfl, rfl, rfl⟩ rfl rfl rfl ?_
    | refine sp_make (mm := m) (l := zints (List.replicate m 0)) rfl rfl (by omega) hz rfl rfl ?_
    | refine sp_copy (k := 1) (l2 := [.int .i64 v]) rfl rfl rfl rfl ⟨_, rfl, .inr rfl⟩ (Nat.zero_le _) rfl (by omega) (by omega) hset rfl ?_
    | (refine g_op ?_; first
      | refine ep_mov rfl ?_
      | refine ep_call0 rfl (by first | exact e) rfl rfl ?_
      | refine sp_call rfl rfl rfl rfl (by first | exact e) ⟨rfl, rfl, rfl, rfl⟩ rfl rfl rfl ?_
      | refine ep_bin rfl rfl (by first | exact b_add (by omega) (by omega) | exact b_sub (by omega) (by omega) | exact b_and (by omega) (by omega) | exact b_or (by omega) (by omega) | exact b_shr (by omega) | exact b_shl (by omega) (by omega) | exact b_lss | exact b_leq | exact b_gtr | exact b_geq | exact b_eql | exact b_neq) ?_
      | refine ep_pickT rfl rfl ?_ | refine ep_pickF rfl rfl ?_ | refine ep_pickTH rfl (by assumption) rfl ?_ | refine ep_pickFH rfl (by assumption) rfl ?_ | refine ep_extract rfl rfl ?_ | refine ep_conv rfl (by first | exact w_u64 (by omega) (by omega) | exact wrap_id (by omega) (by omega) | rfl) ?_
      | refine ep_lenS rfl ?_ | refine ep_lenN rfl ?_ | refine ep_lenE rfl ?_)
    | (refine g_ops ?_; first | refine eo_none ?_ | refine eo_nil ?_ | refine eo_yes rfl ?_ | refine eo_no rfl ?_ | refine eo_und rfl ?_ | refine eo_yesH rfl (by assumption) ?_ | refine eo_noH rfl (by assumption) ?_)
    | (refine g_code ?_; first | refine ec_seq ?_ | refine ec_region ?_ | refine ec_block ?_ | refine ec_skip ?_ | refine ec_ret ?_ | refine ec_condT rfl ?_ | refine ec_condF rfl ?_ | refine ec_condTH rfl (by assumption) ?_ | refine ec_condFH rfl (by assumption) ?_)
    | refine ek_seqN ?_ | refine ek_seqX ?_ | refine ek_seqR ?_ | refine ek_blkN ?_ | refine ek_blkR ?_ | refine ek_blkX ?_ | refine ek_blkY rfl ?_)
  refine sfin (.inr rfl) (by rfl) (by rfl) (by exact ⟨rfl, rfl, rfl⟩) (by rfl) (by rfl) (by rfl) (by first | rfl | (simp; done) | (simp [ints, prs]; done))
theorem evrep5 (m : Nat) (v : Int) (hm : m ≤ 5) (hm1 : 1 ≤ m) : Ev cx 105 [.sl 0 0 1, .int .i64 (m : Nat)] [⟨[.int .i64 v], 1, 0, some 0, true⟩] (.sl 1 0 m) [⟨[.int .i64 v], 1, 0, some 0, true⟩, ⟨zints (List.replicate m v), 1, 1, some 0, false⟩] := by
  have r0 : R2 0 = 1 := by unfold R2; rfl
  have r1 : R2 1 = 2 := by unfold R2; rfl
  have r2 : R2 2 = 4 := by unfold R2; rfl
  have r3 : R2 3 = 8 := by unfold R2; rfl
  by_cases h1 : m = 1
  · exact evrepG m 0 v (by omega) hm1 (by omega) (fun i hi => by omega)
  · by_cases h2 : m = 2
    · exact evrepG m 1 v (by omega) hm1 (by omega) (fun i hi => by have h00 : i = 0 := (by omega); rw [h00]; omega)
    · by_cases h4 : m ≤ 4
      · exact evrepG m 2 v (by omega) hm1 (by omega) (fun i hi => by rcases (show i = 0 ∨ i = 1 by omega) with rfl | rfl <;> omega)
      · exact evrepG m 3 v (by omega) hm1 (by omega) (fun i hi => by rcases (show i = 0 ∨ i = 1 ∨ i = 2 by omega) with rfl | rfl | rfl <;> omega)
-- 60
def levL (n b i : Nat) : List Int := (List.range (n + 1)).map fun k => if R2 k - 1 < i then ((bt b (R2 k - 1) : Nat) : Int) else -1
def lvH (b k : Nat) : Nat := bt b (R2 k - 1)
def lvP (b i : Nat) : Bool := bt b i == bt b (R2 (pop i 16) - 1)
theorem lvF : ∀ i, i < 16 → R2 (pop i 16) - 1 ≤ i ∧ ∀ k, k < 5 → R2 k - 1 = i → pop i 16 = k := by decide +kernel
theorem levL_len (n b i : Nat) : (levL n b i).length = n + 1 := by simp [levL]
theorem levL_at {n b i k : Nat} (hk : k ≤ n) : (levL n b i).getD k 0 = if R2 k - 1 < i then ((bt b (R2 k - 1) : Nat) : Int) else -1 := by
  rw [List.getD_eq_getElem?_getD, levL, List.getElem?_map, List.getElem?_range (by omega)]; rfl
theorem pop_nn {i n : Nat} (hn : n ≤ 4) (hi : i < R2 n) : pop i 16 ≤ n := by rw [pop_ge hi 16 (by omega)]; exact pop_le i n
theorem levL_s {n b i : Nat} (hn : n ≤ 4) (hi : i < R2 n) (hp : lvP b i = true) : (levL n b i).set (pop i 16) ((bt b i : Nat) : Int) = levL n b (i + 1) := by
  have h16 := (shN hn).1
  obtain ⟨f1, f2⟩ := lvF i (by omega)
  have hpn := pop_nn hn hi
  have hp' : bt b i = bt b (R2 (pop i 16) - 1) := by simpa [lvP] using hp
  apply List.ext_getElem?
  intro k
  rw [List.getElem?_set, levL_len, levL, levL, List.getElem?_map, List.getElem?_map]
  by_cases hk : k < n + 1
  · rw [List.getElem?_range hk]
    by_cases e : pop i 16 = k
    · rw [if_pos e, if_pos (by omega)]
      simp only [Option.map_some]
      rw [if_pos (by rw [← e]; omega), hp', e]
    · rw [if_neg e]
      simp only [Option.map_some]
      have : R2 k - 1 ≠ i := fun h => e (f2 k (by omega) h)
      by_cases h1 : R2 k - 1 < i
      · rw [if_pos h1, if_pos (by omega)]
      · rw [if_neg h1, if_neg (by omega)]
  · have h0 : (List.range (n + 1))[k]? = none := by simp; omega
    rw [h0, if_neg (by omega)]; rfl
theorem levL_0 (n b : Nat) : levL n b 0 = List.replicate (n + 1) (-1) := by
  apply List.ext_getElem?
  intro k
  rw [levL, List.getElem?_map, List.getElem?_replicate]
  by_cases hk : k < n + 1
  · rw [List.getElem?_range hk, if_pos hk]; simp
  · rw [if_neg hk, show (List.range (n + 1))[k]? = none by simp; omega]; rfl
theorem levL_n {n b : Nat} : zints (levL n b (R2 n)) = ints (selm (fun _ => true) (lvH b) (n + 1)) := by
  have sa := selm_all (g := lvH b) (n + 1)
  have hz : levL n b (R2 n) = (selm (fun _ => true) (lvH b) (n + 1)).map fun x : Nat => (x : Int) := by
    apply List.ext_getElem?
    intro k
    rw [levL, List.getElem?_map, List.getElem?_map]
    by_cases hk : k < n + 1
    · have h2 := sa.2 k hk
      rw [List.getD_eq_getElem?_getD, List.getElem?_eq_getElem (by omega)] at h2
      rw [List.getElem?_range hk, List.getElem?_eq_getElem (by omega)]
      simp only [Option.map_some, Option.getD_some] at h2 ⊢
      have := R2_mono (i := k) (n := n) (by omega)
      have := R2_pos k
      rw [if_pos (by omega), h2]; rfl
    · rw [show (List.range (n + 1))[k]? = none by simp; omega, List.getElem?_eq_none (by omega)]; rfl
  rw [hz]; simp [zints, ints]
-- (impl.Func).levels
def m60_0 : MC := (.seq (.region [⟨(.bin .lss (.t 14) (.t 13)), (some 15), none⟩] false) (.seq (.cond (.t 15) .skip (.exit 0)) (.seq (.block 1 (.seq (.region [⟨(.mov (.t 14)), (some 16), none⟩, ⟨(.mov (.t 16)), (some 5), none⟩] false) (.seq (.region [⟨(.mov (.t 5)), (some 17), none⟩, ⟨(.call 107 [(.t 17)]), (some 18), none⟩, ⟨(.mov (.t 18)), (some 6), none⟩] false) (.seq (.seq (.region [⟨(.mov (.t 4)), (some 19), none⟩, ⟨(.mov (.t 6)), (some 20), none⟩, ⟨(.indexAddr 1 (.t 19) (.t 20)), (some 21), none⟩, ⟨(.load none (.t 21)), (some 22), none⟩, ⟨(.bin .geq (.t 22) (.k (.int .i64 0))), (some 23), none⟩, ⟨(.mov (.t 23)), (some 24), none⟩, ⟨(.mov (.t 4)), (some 25), (some (24, true))⟩, ⟨(.mov (.t 6)), (some 26), (some (24, true))⟩, ⟨(.indexAddr 1 (.t 25) (.t 26)), (some 27), (some (24, true))⟩, ⟨(.load none (.t 27)), (some 28), (some (24, true))⟩, ⟨(.load (some 2) (.t 1)), (some 29), (some (24, true))⟩, ⟨(.mov (.t 5)), (some 30), (some (24, true))⟩, ⟨(.call 104 [(.t 29), (.t 30)]), (some 31), (some (24, true))⟩, ⟨(.bin .neq (.t 28) (.t 31)), (some 32), (some (24, true))⟩, ⟨(.pick (.t 24) (.t 32) (.k (.bool false))), (some 33), none⟩] true) (.cond (.t 33) (.seq (.region [⟨(.mov (.k .nils)), (some 2), none⟩, ⟨(.mov (.k (.bool false))), (some 3), none⟩] false) .ret) .skip)) (.region [⟨(.mov (.t 4)), (some 34), none⟩, ⟨(.mov (.t 6)), (some 35), none⟩, ⟨(.load (some 2) (.t 1)), (some 36), none⟩, ⟨(.mov (.t 5)), (some 37), none⟩, ⟨(.call 104 [(.t 36), (.t 37)]), (some 38), none⟩, ⟨(.indexAddr 1 (.t 34) (.t 35)), (some 39), none⟩, ⟨(.store 1 (.t 39) (.t 38)), none, none⟩] false))))) (.region [⟨(.bin .add (.t 14) (.k (.int .i64 1))), (some 40), none⟩, ⟨(.mov (.t 40)), (some 14), none⟩] false))))
def m60 : MC := (.seq (.region [⟨(.box (.t 0)), (some 1), none⟩, ⟨(.mov (.k .nils)), (some 2), none⟩, ⟨(.mov (.k (.bool false))), (some 3), none⟩] false) (.seq (.region [⟨(.bslice 1 [(.int .i64 0)] 1 [(0, (1, (.k (.int .i64 (-1)))))]), (some 7), none⟩, ⟨(.fieldAddr 0 (.t 1)), (some 8), none⟩, ⟨(.load none (.t 8)), (some 9), none⟩, ⟨(.bin .add (.t 9) (.k (.int .i64 1))), (some 10), none⟩, ⟨(.call 105 [(.t 7), (.t 10)]), (some 11), none⟩, ⟨(.mov (.t 11)), (some 4), none⟩] false) (.seq (.seq (.region [⟨(.load (some 2) (.t 1)), (some 12), none⟩, ⟨(.call 106 [(.t 12)]), (some 13), none⟩, ⟨(.mov (.k (.int .i64 0))), (some 14), none⟩] false) (.block 0 (.loop m60_0))) (.seq (.region [⟨(.mov (.t 4)), (some 41), none⟩, ⟨(.mov (.t 41)), (some 2), none⟩, ⟨(.mov (.k (.bool true))), (some 3), none⟩] false) .ret))))
theorem has60 : Has cx 60 42 m60 [(.tmp 2), (.tmp 3)] :=
  ⟨⟨Try.f60, Try.f60.body.getD .skip, by kernel_rfl, by kernel_rfl, by kernel_rfl, by kernel_rfl, by kernel_rfl, by kernel_rfl⟩⟩
theorem lplv (n b : Nat) (hn : n ≤ 4) (hb : b < 65536) (o : Out) (ho : (if allF (lvP b) 0 (R2 n) = true then (⟨.exit 0, [(4, .sl 0 0 (n + 1))], [⟨zints (levL n b (R2 n)), 1, 0, some 0, false⟩]⟩ : Out) else ⟨.ret, [(2, .nils), (3, .bool false)], []⟩) = o) :
    LpS cx 42 0 m60_0 [(1, .ptr 0 0), (4, .sl 1 0 (n + 1)), (13, .int .i64 (R2 n : Nat)), (14, .int .i64 (0 : Nat))] [⟨[.int .i64 n, .int .i64 b], 1, 0, some 0, true⟩, ⟨zints (levL n b (0)), 1, 1, some 0, false⟩] o.x o.e o.h := by
  refine lp_all (R2 n) (lvP b) (fun i => [(1, .ptr 0 0), (4, .sl 1 0 (n + 1)), (13, .int .i64 (R2 n : Nat)), (14, .int .i64 (i : Nat))]) (fun i => [⟨[.int .i64 n, .int .i64 b], 1, 0, some 0, true⟩, ⟨zints (levL n b (i)), 1, 1, some 0, false⟩]) _ _ ?_ ?_ ?_ (R2 n) 0 o (by omega) ho
  · intro i hi hp
    have hlt : decide ((i : Int) < (R2 n : Nat)) = true := decide_eq_true (by omega)
    have hp' : ((lvP b) i) = true := hp
    obtain ⟨h1, h2, h3, h4⟩ := shN hn
    obtain ⟨f1, f2⟩ := lvF i (by omega)
    have hpn := pop_nn hn hi
    have hll := levL_len n b i
    have hzl := zints_len (levL n b i)
    have hget := zints_get (l := levL n b i) (j := pop i 16) (by omega)
    rw [levL_at hpn] at hget
    have hb1 := bt_le b i
    have e1 := ev107 i (by omega) (swar16 i (by omega))
    have hset := zints_set (D := levL n b i) (b := pop i 16) (d := ((bt b i : Nat) : Int)) (by omega)
    rw [levL_s hn hi hp] at hset
    have hv : bt b i = bt b (R2 (pop i 16) - 1) := by simpa [lvP] using hp
    rcases Nat.lt_or_ge (R2 (pop i 16) - 1) i with hs | hs
    · rw [if_pos hs] at hget
      have q1 : decide (((bt b (R2 (pop i 16) - 1) : Nat) : Int) ≥ 0) = true := decide_eq_true (by omega)
      have q2 : (((bt b (R2 (pop i 16) - 1) : Nat) : Int) != ((bt b i : Nat) : Int)) = false := by rw [hv]; simp
      unfold m60_0
      repeat' (first
        | refine ep_loadS rfl rfl rfl hget ?_
        | refine sp_storeS rfl rfl rfl rfl rfl rfl rfl (Nat.zero_le _) (by omega) hset rfl ?_
        | (refine g_op ?_; first
          | refine ep_mov rfl ?_ | refine ep_load1 rfl rfl rfl rfl ?_ | refine sp_loadN rfl rfl rfl rfl rfl ?_
          | refine ep_call0 rfl (by first | exact e1 | exact ev104 n b i (by omega) (by omega)) rfl rfl ?_
          | refine sp_call rfl rfl rfl rfl (by first | exact e1 | exact ev104 n b i (by omega) (by omega)) ⟨rfl, rfl, rfl, rfl⟩ rfl rfl rfl ?_
          | refine ep_bin rfl rfl (by first | exact b_add (by omega) (by omega) | exact b_sub (by omega) (by omega) | exact b_and (by omega) (by omega) | exact b_or (by omega) (by omega) | exact b_shr (by omega) | exact b_shl (by omega) (by omega) | exact b_lss | exact b_leq | exact b_gtr | exact b_geq | exact b_eql | exact b_neq) ?_
          | refine ep_pickT rfl rfl ?_ | refine ep_pickF rfl rfl ?_ | refine ep_pickTH rfl (by assumption) rfl ?_ | refine ep_pickFH rfl (by assumption) rfl ?_ | refine sp_store rfl rfl rfl rfl rfl rfl rfl rfl rfl rfl ?_
          | refine sp_idx rfl rfl rfl (by omega) rfl ?_ | refine ep_loadS rfl rfl rfl (by first | exact ints_get (by omega) | exact zints_get (by omega) | exact fget (by omega) | assumption) ?_ | refine ep_loadSN rfl rfl rfl (by first | exact prs_get (by omega) | exact fns_get (by omega)) ?_)
        | (refine g_ops ?_; first | refine eo_none ?_ | refine eo_nil ?_ | refine eo_yes rfl ?_ | refine eo_no rfl ?_ | refine eo_und rfl ?_ | refine eo_yesH rfl (by assumption) ?_ | refine eo_noH rfl (by assumption) ?_)
        | (refine g_dops ?_; first | refine ed_none ?_ | refine ed_nil ?_ | refine ed_yes rfl ?_ | refine ed_no rfl ?_ | refine ed_und rfl ?_ | refine ed_yesH rfl (by assumption) ?_ | refine ed_noH rfl (by assumption) ?_)
        | refine ed_same rfl ?_ | refine ed_one rfl rfl rfl rfl ?_ | refine ed_two rfl rfl rfl rfl rfl rfl rfl ?_ | refine ed_write rfl rfl ?_
        | (refine g_code ?_; first | refine ec_seq ?_ | refine ec_region ?_ | refine ec_draw ?_ | refine ec_block ?_ | refine ec_skip ?_ | refine ec_exit ?_ | refine ec_ret ?_ | refine ec_condT rfl ?_ | refine ec_condF rfl ?_ | refine ec_condTH rfl (by assumption) ?_ | refine ec_condFH rfl (by assumption) ?_)
        | refine ek_seqN ?_ | refine ek_seqX ?_ | refine ek_seqR ?_ | refine ek_blkN ?_ | refine ek_blkR ?_ | refine ek_blkX ?_ | refine ek_blkY rfl ?_)
      exact rnd_on (by rfl) (scmp2 (by rfl) (by rfl) (by exact ⟨rfl, rfl, rfl⟩) (by rfl) (by first | rfl | (simp; done) | (simp [ints, prs]; done)) (by rfl) (by first | rfl | (simp; done) | (simp [ints, prs]; done)))
    · rw [if_neg (by omega)] at hget
      have q1 : decide ((-1 : Int) ≥ 0) = false := by decide
      unfold m60_0
      repeat' (first
        | refine ep_loadS rfl rfl rfl hget ?_
        | refine sp_storeS rfl rfl rfl rfl rfl rfl rfl (Nat.zero_le _) (by omega) hset rfl ?_
        | (refine g_op ?_; first
          | refine ep_mov rfl ?_ | refine ep_load1 rfl rfl rfl rfl ?_ | refine sp_loadN rfl rfl rfl rfl rfl ?_
          | refine ep_call0 rfl (by first | exact e1 | exact ev104 n b i (by omega) (by omega)) rfl rfl ?_
          | refine sp_call rfl rfl rfl rfl (by first | exact e1 | exact ev104 n b i (by omega) (by omega)) ⟨rfl, rfl, rfl, rfl⟩ rfl rfl rfl ?_
          | refine ep_bin rfl rfl (by first | exact b_add (by omega) (by omega) | exact b_sub (by omega) (by omega) | exact b_and (by omega) (by omega) | exact b_or (by omega) (by omega) | exact b_shr (by omega) | exact b_shl (by omega) (by omega) | exact b_lss | exact b_leq | exact b_gtr | exact b_geq | exact b_eql | exact b_neq) ?_
          | refine ep_pickT rfl rfl ?_ | refine ep_pickF rfl rfl ?_ | refine ep_pickTH rfl (by assumption) rfl ?_ | refine ep_pickFH rfl (by assumption) rfl ?_ | refine sp_store rfl rfl rfl rfl rfl rfl rfl rfl rfl rfl ?_
          | refine sp_idx rfl rfl rfl (by omega) rfl ?_ | refine ep_loadS rfl rfl rfl (by first | exact ints_get (by omega) | exact zints_get (by omega) | exact fget (by omega) | assumption) ?_ | refine ep_loadSN rfl rfl rfl (by first | exact prs_get (by omega) | exact fns_get (by omega)) ?_)
        | (refine g_ops ?_; first | refine eo_none ?_ | refine eo_nil ?_ | refine eo_yes rfl ?_ | refine eo_no rfl ?_ | refine eo_und rfl ?_ | refine eo_yesH rfl (by assumption) ?_ | refine eo_noH rfl (by assumption) ?_)
        | (refine g_dops ?_; first | refine ed_none ?_ | refine ed_nil ?_ | refine ed_yes rfl ?_ | refine ed_no rfl ?_ | refine ed_und rfl ?_ | refine ed_yesH rfl (by assumption) ?_ | refine ed_noH rfl (by assumption) ?_)
        | refine ed_same rfl ?_ | refine ed_one rfl rfl rfl rfl ?_ | refine ed_two rfl rfl rfl rfl rfl rfl rfl ?_ | refine ed_write rfl rfl ?_
        | (refine g_code ?_; first | refine ec_seq ?_ | refine ec_region ?_ | refine ec_draw ?_ | refine ec_block ?_ | refine ec_skip ?_ | refine ec_exit ?_ | refine ec_ret ?_ | refine ec_condT rfl ?_ | refine ec_condF rfl ?_ | refine ec_condTH rfl (by assumption) ?_ | refine ec_condFH rfl (by assumption) ?_)
        | refine ek_seqN ?_ | refine ek_seqX ?_ | refine ek_seqR ?_ | refine ek_blkN ?_ | refine ek_blkR ?_ | refine ek_blkX ?_ | refine ek_blkY rfl ?_)
      exact rnd_on (by rfl) (scmp2 (by rfl) (by rfl) (by exact ⟨rfl, rfl, rfl⟩) (by rfl) (by first | rfl | (simp; done) | (simp [ints, prs]; done)) (by rfl) (by first | rfl | (simp; done) | (simp [ints, prs]; done)))
  · intro i hi hp
    have hlt : decide ((i : Int) < (R2 n : Nat)) = true := decide_eq_true (by omega)
    have hp' : ((lvP b) i) = false := hp
    obtain ⟨h1, h2, h3, h4⟩ := shN hn
    obtain ⟨f1, f2⟩ := lvF i (by omega)
    have hpn := pop_nn hn hi
    have hll := levL_len n b i
    have hzl := zints_len (levL n b i)
    have hget := zints_get (l := levL n b i) (j := pop i 16) (by omega)
    rw [levL_at hpn] at hget
    have hb1 := bt_le b i
    have e1 := ev107 i (by omega) (swar16 i (by omega))
    have hv : bt b i ≠ bt b (R2 (pop i 16) - 1) := by simpa [lvP] using hp
    have hs : R2 (pop i 16) - 1 < i := by
      rcases Nat.lt_or_ge (R2 (pop i 16) - 1) i with h | h
      · exact h
      · have : R2 (pop i 16) - 1 = i := by omega
        exact absurd (by rw [this]) hv
    rw [if_pos hs] at hget
    have q1 : decide (((bt b (R2 (pop i 16) - 1) : Nat) : Int) ≥ 0) = true := decide_eq_true (by omega)
    have q2 : (((bt b (R2 (pop i 16) - 1) : Nat) : Int) != ((bt b i : Nat) : Int)) = true := by simp; omega
    unfold m60_0
    repeat' (first
      | refine ep_loadS rfl rfl rfl hget ?_
      | refine sp_storeS rfl rfl rfl rfl rfl rfl rfl (Nat.zero_le _) (by omega) hset rfl ?_
      | (refine g_op ?_; first
        | refine ep_mov rfl ?_ | refine ep_load1 rfl rfl rfl rfl ?_ | refine sp_loadN rfl rfl rfl rfl rfl ?_
        | refine ep_call0 rfl (by first | exact e1 | exact ev104 n b i (by omega) (by omega)) rfl rfl ?_
        | refine sp_call rfl rfl rfl rfl (by first | exact e1 | exact ev104 n b i (by omega) (by omega)) ⟨rfl, rfl, rfl, rfl⟩ rfl rfl rfl ?_
        | refine ep_bin rfl rfl (by first | exact b_add (by omega) (by omega) | exact b_sub (by omega) (by omega) | exact b_and (by omega) (by omega) | exact b_or (by omega) (by omega) | exact b_shr (by omega) | exact b_shl (by omega) (by omega) | exact b_lss | exact b_leq | exact b_gtr | exact b_geq | exact b_eql | exact b_neq) ?_
        | refine ep_pickT rfl rfl ?_ | refine ep_pickF rfl rfl ?_ | refine ep_pickTH rfl (by assumption) rfl ?_ | refine ep_pickFH rfl (by assumption) rfl ?_ | refine sp_store rfl rfl rfl rfl rfl rfl rfl rfl rfl rfl ?_
        | refine sp_idx rfl rfl rfl (by omega) rfl ?_ | refine ep_loadS rfl rfl rfl (by first | exact ints_get (by omega) | exact zints_get (by omega) | exact fget (by omega) | assumption) ?_ | refine ep_loadSN rfl rfl rfl (by first | exact prs_get (by omega) | exact fns_get (by omega)) ?_)
      | (refine g_ops ?_; first | refine eo_none ?_ | refine eo_nil ?_ | refine eo_yes rfl ?_ | refine eo_no rfl ?_ | refine eo_und rfl ?_ | refine eo_yesH rfl (by assumption) ?_ | refine eo_noH rfl (by assumption) ?_)
      | (refine g_dops ?_; first | refine ed_none ?_ | refine ed_nil ?_ | refine ed_yes rfl ?_ | refine ed_no rfl ?_ | refine ed_und rfl ?_ | refine ed_yesH rfl (by assumption) ?_ | refine ed_noH rfl (by assumption) ?_)
      | refine ed_same rfl ?_ | refine ed_one rfl rfl rfl rfl ?_ | refine ed_two rfl rfl rfl rfl rfl rfl rfl ?_ | refine ed_write rfl rfl ?_
      | (refine g_code ?_; first | refine ec_seq ?_ | refine ec_region ?_ | refine ec_draw ?_ | refine ec_block ?_ | refine ec_skip ?_ | refine ec_exit ?_ | refine ec_ret ?_ | refine ec_condT rfl ?_ | refine ec_condF rfl ?_ | refine ec_condTH rfl (by assumption) ?_ | refine ec_condFH rfl (by assumption) ?_)
      | refine ek_seqN ?_ | refine ek_seqX ?_ | refine ek_seqR ?_ | refine ek_blkN ?_ | refine ek_blkR ?_ | refine ek_blkX ?_ | refine ek_blkY rfl ?_)
    exact rnd_out (by rfl) (by simp) (scmp2 (by rfl) (by rfl) (by exact ⟨rfl, rfl, rfl⟩) (by rfl) (by first | rfl | (simp; done) | (simp [ints, prs]; done)) (by rfl) (by first | rfl | (simp; done) | (simp [ints, prs]; done)))
  · have hlt : decide (((R2 n : Nat) : Int) < (R2 n : Nat)) = false := decide_eq_false (by omega)
    unfold m60_0
    repeat' (first
      | (refine g_op ?_; first
        | refine ep_mov rfl ?_ | refine ep_load1 rfl rfl rfl rfl ?_ | refine sp_loadN rfl rfl rfl rfl rfl ?_
        | refine ep_bin rfl rfl (by first | exact b_add (by omega) (by omega) | exact b_sub (by omega) (by omega) | exact b_and (by omega) (by omega) | exact b_or (by omega) (by omega) | exact b_shr (by omega) | exact b_shl (by omega) (by omega) | exact b_lss | exact b_leq | exact b_gtr | exact b_geq | exact b_eql | exact b_neq) ?_
        | refine ep_pickT rfl rfl ?_ | refine ep_pickF rfl rfl ?_ | refine ep_pickTH rfl (by assumption) rfl ?_ | refine ep_pickFH rfl (by assumption) rfl ?_ | refine sp_store rfl rfl rfl rfl rfl rfl rfl rfl rfl rfl ?_
        | refine sp_idx rfl rfl rfl (by omega) rfl ?_ | refine ep_loadS rfl rfl rfl (by first | exact ints_get (by omega) | exact zints_get (by omega) | exact fget (by omega) | assumption) ?_ | refine ep_loadSN rfl rfl rfl (by first | exact prs_get (by omega) | exact fns_get (by omega)) ?_)
      | (refine g_ops ?_; first | refine eo_none ?_ | refine eo_nil ?_ | refine eo_yes rfl ?_ | refine eo_no rfl ?_ | refine eo_und rfl ?_ | refine eo_yesH rfl (by assumption) ?_ | refine eo_noH rfl (by assumption) ?_)
      | (refine g_dops ?_; first | refine ed_none ?_ | refine ed_nil ?_ | refine ed_yes rfl ?_ | refine ed_no rfl ?_ | refine ed_und rfl ?_ | refine ed_yesH rfl (by assumption) ?_ | refine ed_noH rfl (by assumption) ?_)
      | refine ed_same rfl ?_ | refine ed_one rfl rfl rfl rfl ?_ | refine ed_two rfl rfl rfl rfl rfl rfl rfl ?_ | refine ed_write rfl rfl ?_
      | (refine g_code ?_; first | refine ec_seq ?_ | refine ec_region ?_ | refine ec_draw ?_ | refine ec_block ?_ | refine ec_skip ?_ | refine ec_exit ?_ | refine ec_ret ?_ | refine ec_condT rfl ?_ | refine ec_condF rfl ?_ | refine ec_condTH rfl (by assumption) ?_ | refine ec_condFH rfl (by assumption) ?_)
      | refine ek_seqN ?_ | refine ek_seqX ?_ | refine ek_seqR ?_ | refine ek_blkN ?_ | refine ek_blkR ?_ | refine ek_blkX ?_ | refine ek_blkY rfl ?_)
    exact rnd_out (by rfl) (by simp) (scmp2 (by rfl) (by rfl) (by exact ⟨rfl, rfl, rfl⟩) (by rfl) (by first | rfl | (simp; done) | (simp [ints, prs]; done)) (by rfl) (by first | rfl | (simp; done) | (simp [ints, prs]; done)))

theorem ev60 (n b : Nat) (hn : n ≤ 4) (hb : b < 65536) : Ev cx 60 [.agg [.int .i64 n, .int .i64 b]] [] (if allF (lvP b) 0 (R2 n) = true then .tup [.sl 0 0 (n + 1), .bool true] else .tup [.nils, .bool false]) (if allF (lvP b) 0 (R2 n) = true then [⟨zints (levL n b (R2 n)), 1, 0, some 0, false⟩] else []) := by
  have e1 := evrep5 (n + 1) (-1) (by omega) (by omega)
  rw [← levL_0 n b] at e1
  have hadd := b_addN (a := n) (b := 1) (by omega)
  cases hs : allF (lvP b) 0 (R2 n)
  · have lp := lplv n b hn hb _ (if_neg (by rw [hs]; simp))
    rw [if_neg (by simp), if_neg (by simp)]
    refine has60.eev rfl rfl ?_
    unfold m60
    repeat' (first
      | refine sc_loop lp rfl rfl ⟨rfl, rfl, rfl⟩ rfl rfl rfl ?_
      | (refine g_op ?_; first
        | refine ep_mov rfl ?_ | refine ep_load1 rfl rfl rfl rfl ?_ | refine ep_fieldAddr rfl ?_ | refine sp_loadN rfl rfl rfl rfl rfl ?_
        | refine ep_call0 rfl (by first | exact e1 | exact ev106 _ _ hn) rfl rfl ?_
        | refine sp_call rfl rfl rfl rfl (by first | exact e1 | exact ev106 _ _ hn) ⟨rfl, rfl, rfl, rfl⟩ rfl rfl rfl ?_
        | refine ep_bin rfl rfl (by first | exact hadd | exact b_add (by omega) (by omega) | exact b_sub (by omega) (by omega) | exact b_and (by omega) (by omega) | exact b_or (by omega) (by omega) | exact b_shr (by omega) | exact b_shl (by omega) (by omega) | exact b_lss | exact b_leq | exact b_gtr | exact b_geq | exact b_eql | exact b_neq) ?_
        | refine sp_box rfl rfl rfl rfl rfl ?_ | refine sp_bslice rfl rfl rfl rfl rfl ?_)
      | (refine g_ops ?_; first | refine eo_none ?_ | refine eo_nil ?_)
      | (refine g_code ?_; first | refine ec_seq ?_ | refine ec_region ?_ | refine ec_block ?_ | refine ec_ret ?_)
      | refine ek_seqN ?_ | refine ek_seqX ?_ | refine ek_seqR ?_ | refine ek_blkN ?_ | refine ek_blkR ?_ | refine ek_blkX ?_ | refine ek_blkY rfl ?_)
    refine sfin (.inr rfl) (by rfl) (by rfl) (by exact ⟨rfl, rfl, rfl⟩) (by rfl) (by rfl) (by rfl) (by first | rfl | (simp; done) | (simp [ints, prs]; done))
  · have lp := lplv n b hn hb _ (if_pos hs)
    rw [if_pos rfl, if_pos rfl]
    refine has60.eev rfl rfl ?_
    unfold m60
    repeat' (first
      | refine sc_loop lp rfl rfl ⟨rfl, rfl, rfl⟩ rfl rfl rfl ?_
      | (refine g_op ?_; first
        | refine ep_mov rfl ?_ | refine ep_load1 rfl rfl rfl rfl ?_ | refine ep_fieldAddr rfl ?_ | refine sp_loadN rfl rfl rfl rfl rfl ?_
        | refine ep_call0 rfl (by first | exact e1 | exact ev106 _ _ hn) rfl rfl ?_
        | refine sp_call rfl rfl rfl rfl (by first | exact e1 | exact ev106 _ _ hn) ⟨rfl, rfl, rfl, rfl⟩ rfl rfl rfl ?_
        | refine ep_bin rfl rfl (by first | exact hadd | exact b_add (by omega) (by omega) | exact b_sub (by omega) (by omega) | exact b_and (by omega) (by omega) | exact b_or (by omega) (by omega) | exact b_shr (by omega) | exact b_shl (by omega) (by omega) | exact b_lss | exact b_leq | exact b_gtr | exact b_geq | exact b_eql | exact b_neq) ?_
        | refine sp_box rfl rfl rfl rfl rfl ?_ | refine sp_bslice rfl rfl rfl rfl rfl ?_)
      | (refine g_ops ?_; first | refine eo_none ?_ | refine eo_nil ?_)
      | (refine g_code ?_; first | refine ec_seq ?_ | refine ec_region ?_ | refine ec_block ?_ | refine ec_ret ?_)
      | refine ek_seqN ?_ | refine ek_seqX ?_ | refine ek_seqR ?_ | refine ek_blkN ?_ | refine ek_blkR ?_ | refine ek_blkX ?_ | refine ek_blkY rfl ?_)
    refine sfin (.inr rfl) (by rfl) (by rfl) (by exact ⟨rfl, rfl, rfl⟩) (by rfl) (by rfl) (by rfl) (by first | rfl | (simp; done) | (simp [ints, prs]; done))
-- impl.LevelsOf
def m23 : MC := (.seq (.region [⟨(.box (.t 0)), (some 1), none⟩, ⟨(.mov (.k .nils)), (some 2), none⟩, ⟨(.mov (.k (.int .i64 0))), (some 3), none⟩] false) (.seq (.seq (.region [⟨(.load (some 2) (.t 1)), (some 6), none⟩, ⟨(.call 55 [(.t 6)]), (some 7), none⟩, ⟨(.un .not (.t 7)), (some 8), none⟩] false) (.cond (.t 8) (.seq (.region [⟨(.mov (.k .nils)), (some 2), none⟩, ⟨(.mov (.k (.int .i64 1))), (some 3), none⟩] false) .ret) .skip)) (.seq (.region [⟨(.load (some 2) (.t 1)), (some 10), none⟩, ⟨(.call 60 [(.t 10)]), (some 11), none⟩, ⟨(.mov (.t 11)), (some 9), none⟩, ⟨(.extract (.t 9) 0), (some 12), none⟩, ⟨(.extract (.t 9) 1), (some 13), none⟩, ⟨(.mov (.t 12)), (some 4), none⟩, ⟨(.mov (.t 13)), (some 5), none⟩] false) (.seq (.seq (.region [⟨(.mov (.t 5)), (some 14), none⟩, ⟨(.un .not (.t 14)), (some 15), none⟩] false) (.cond (.t 15) (.seq (.region [⟨(.mov (.k .nils)), (some 2), none⟩, ⟨(.mov (.k (.int .i64 5))), (some 3), none⟩] false) .ret) .skip)) (.seq (.region [⟨(.mov (.t 4)), (some 16), none⟩, ⟨(.mov (.t 16)), (some 2), none⟩, ⟨(.mov (.k (.int .i64 0))), (some 3), none⟩] false) .ret)))))
theorem has23 : Has cx 23 17 m23 [(.tmp 2), (.tmp 3)] :=
  ⟨⟨Try.f23, Try.f23.body.getD .skip, by kernel_rfl, by kernel_rfl, by kernel_rfl, by kernel_rfl, by kernel_rfl, by kernel_rfl⟩⟩
theorem ev23_bad (p t : Int) (h1 : isFn p t = false) : Ev cx 23 [.agg [.int .i64 p, .int .i64 t]] [] (.tup [.nils, .int .i64 1]) [] := by
  have e1 := ev55 p t
  rw [h1] at e1
  refine has23.eev rfl rfl ?_
  unfold m23
  repeat' (first
    | (refine g_op ?_; first
      | refine ep_mov rfl ?_ | refine sp_loadN rfl rfl rfl rfl rfl ?_
      | refine ep_call0 rfl (by first | exact e1) rfl rfl ?_
      | refine sp_call rfl rfl rfl rfl (by first | exact e1) ⟨rfl, rfl, rfl, rfl⟩ rfl rfl rfl ?_
      | refine ep_extract rfl rfl ?_ | refine ep_not rfl ?_ | refine sp_box rfl rfl rfl rfl rfl ?_)
    | (refine g_ops ?_; first | refine eo_none ?_ | refine eo_nil ?_)
    | (refine g_code ?_; first | refine ec_seq ?_ | refine ec_region ?_ | refine ec_skip ?_ | refine ec_ret ?_ | refine ec_condT rfl ?_ | refine ec_condF rfl ?_ | refine ec_condTH rfl (by assumption) ?_ | refine ec_condFH rfl (by assumption) ?_)
    | refine ek_seqN ?_ | refine ek_seqR ?_)
  refine sfin (.inr rfl) (by rfl) (by rfl) (by exact ⟨rfl, rfl, rfl⟩) (by rfl) (by rfl) (by rfl) (by first | rfl | (simp; done) | (simp [ints, prs]; done))
theorem ev23_no (n b : Nat) (h1 : isFn n b = true) (hn : n ≤ 4) (hb : b < 65536) (hs : allF (lvP b) 0 (R2 n) = false) : Ev cx 23 [.agg [.int .i64 n, .int .i64 b]] [] (.tup [.nils, .int .i64 5]) [] := by
  have e1 := ev55 n b
  have e2 := ev60 n b hn hb
  rw [h1] at e1
  rw [hs, if_neg (by simp), if_neg (by simp)] at e2
  refine has23.eev rfl rfl ?_
  unfold m23
  repeat' (first
    | (refine g_op ?_; first
      | refine ep_mov rfl ?_ | refine sp_loadN rfl rfl rfl rfl rfl ?_
      | refine ep_call0 rfl (by first | exact e1 | exact e2) rfl rfl ?_
      | refine sp_call rfl rfl rfl rfl (by first | exact e1 | exact e2) ⟨rfl, rfl, rfl, rfl⟩ rfl rfl rfl ?_
      | refine ep_extract rfl rfl ?_ | refine ep_not rfl ?_ | refine sp_box rfl rfl rfl rfl rfl ?_)
    | (refine g_ops ?_; first | refine eo_none ?_ | refine eo_nil ?_)
    | (refine g_code ?_; first | refine ec_seq ?_ | refine ec_region ?_ | refine ec_skip ?_ | refine ec_ret ?_ | refine ec_condT rfl ?_ | refine ec_condF rfl ?_ | refine ec_condTH rfl (by assumption) ?_ | refine ec_condFH rfl (by assumption) ?_)
    | refine ek_seqN ?_ | refine ek_seqR ?_)
  refine sfin (.inr rfl) (by rfl) (by rfl) (by exact ⟨rfl, rfl, rfl⟩) (by rfl) (by rfl) (by rfl) (by first | rfl | (simp; done) | (simp [ints, prs]; done))
theorem ev23_ok (n b x : Nat) (xs : List Nat) (h1 : isFn n b = true) (hn : n ≤ 4) (hb : b < 65536) (hs : allF (lvP b) 0 (R2 n) = true) (hL : selm (fun _ => true) (lvH b) (n + 1) = x :: xs) : Ev cx 23 [.agg [.int .i64 n, .int .i64 b]] [] (.tup [.sl 0 0 (x :: xs).length, .int .i64 0]) [⟨ints (x :: xs), 1, 0, some 0, false⟩] := by
  have e1 := ev55 n b
  have e2 := ev60 n b hn hb
  have sa := (selm_all (g := lvH b) (n + 1)).1
  rw [h1] at e1
  rw [hs, if_pos rfl, if_pos rfl, levL_n, hL] at e2
  rw [hL] at sa
  rw [← sa] at e2
  refine has23.eev rfl rfl ?_
  unfold m23
  repeat' (first
    | (refine g_op ?_; first
      | refine ep_mov rfl ?_ | refine sp_loadN rfl rfl rfl rfl rfl ?_
      | refine ep_call0 rfl (by first | exact e1 | exact e2) rfl rfl ?_
      | refine sp_call rfl rfl rfl rfl (by first | exact e1 | exact e2) ⟨rfl, rfl, rfl, rfl⟩ rfl rfl rfl ?_
      | refine ep_extract rfl rfl ?_ | refine ep_not rfl ?_ | refine sp_box rfl rfl rfl rfl rfl ?_)
    | (refine g_ops ?_; first | refine eo_none ?_ | refine eo_nil ?_)
    | (refine g_code ?_; first | refine ec_seq ?_ | refine ec_region ?_ | refine ec_skip ?_ | refine ec_ret ?_ | refine ec_condT rfl ?_ | refine ec_condF rfl ?_ | refine ec_condTH rfl (by assumption) ?_ | refine ec_condFH rfl (by assumption) ?_)
    | refine ek_seqN ?_ | refine ek_seqR ?_)
  refine sfin (.inr rfl) (by rfl) (by rfl) (by exact ⟨rfl, rfl, rfl⟩) (by rfl) (by rfl) (by rfl) (by first | rfl | (simp; done) | (simp [ints, prs]; done))
-- spec.LevelsOf
def m22_0 : MC := (.seq (.seq (.region [⟨(.mov (.t 5)), (some 11), none⟩, ⟨(.fieldAddr 0 (.t 1)), (some 12), none⟩, ⟨(.load none (.t 12)), (some 13), none⟩, ⟨(.bin .leq (.t 11) (.t 13)), (some 14), none⟩] false) (.cond (.t 14) .skip (.exit 0))) (.seq (.block 1 (.region [⟨(.mov (.t 4)), (some 17), none⟩, ⟨(.load (some 2) (.t 1)), (some 18), none⟩, ⟨(.mov (.t 5)), (some 19), none⟩, ⟨(.call 58 [(.t 19)]), (some 20), none⟩, ⟨(.bin .sub (.t 20) (.k (.int .i64 1))), (some 21), none⟩, ⟨(.callw 57 [(.t 18), (.t 21)]), (some 22), none⟩, ⟨(.bslice 1 [(.int .i64 0)] 1 [(0, (1, (.t 22)))]), (some 23), none⟩, ⟨(.append 1 8 (.t 17) (.t 23)), (some 24), none⟩, ⟨(.mov (.t 24)), (some 4), none⟩] true)) (.region [⟨(.mov (.t 5)), (some 15), none⟩, ⟨(.bin .add (.t 15) (.k (.int .i64 1))), (some 16), none⟩, ⟨(.mov (.t 16)), (some 5), none⟩] false)))
def m22_1 : MC := (.seq (.seq (.region [⟨(.mov (.t 6)), (some 25), none⟩, ⟨(.fieldAddr 0 (.t 1)), (some 26), none⟩, ⟨(.load none (.t 26)), (some 27), none⟩, ⟨(.call 58 [(.t 27)]), (some 28), none⟩, ⟨(.bin .lss (.t 25) (.t 28)), (some 29), none⟩] false) (.cond (.t 29) .skip (.exit 2))) (.seq (.block 3 (.seq (.region [⟨(.load (some 2) (.t 1)), (some 32), none⟩, ⟨(.mov (.t 6)), (some 33), none⟩, ⟨(.call 57 [(.t 32), (.t 33)]), (some 34), none⟩, ⟨(.mov (.t 4)), (some 35), none⟩, ⟨(.mov (.t 6)), (some 36), none⟩, ⟨(.call 59 [(.t 36)]), (some 37), none⟩, ⟨(.indexAddr 1 (.t 35) (.t 37)), (some 38), none⟩, ⟨(.load none (.t 38)), (some 39), none⟩, ⟨(.bin .neq (.t 34) (.t 39)), (some 40), none⟩] false) (.cond (.t 40) (.seq (.region [⟨(.mov (.k .nils)), (some 2), none⟩, ⟨(.mov (.k (.int .i64 5))), (some 3), none⟩] false) .ret) .skip))) (.region [⟨(.mov (.t 6)), (some 30), none⟩, ⟨(.bin .add (.t 30) (.k (.int .i64 1))), (some 31), none⟩, ⟨(.mov (.t 31)), (some 6), none⟩] false)))
def m22 : MC := (.seq (.region [⟨(.box (.t 0)), (some 1), none⟩, ⟨(.mov (.k .nils)), (some 2), none⟩, ⟨(.mov (.k (.int .i64 0))), (some 3), none⟩] false) (.seq (.seq (.region [⟨(.load (some 2) (.t 1)), (some 7), none⟩, ⟨(.call 53 [(.t 7)]), (some 8), none⟩, ⟨(.un .not (.t 8)), (some 9), none⟩] false) (.cond (.t 9) (.seq (.region [⟨(.mov (.k .nils)), (some 2), none⟩, ⟨(.mov (.k (.int .i64 1))), (some 3), none⟩] false) .ret) .skip)) (.seq (.region [⟨.empt, (some 10), none⟩, ⟨(.mov (.t 10)), (some 4), none⟩] false) (.seq (.seq (.region [⟨(.mov (.k (.int .i64 0))), (some 5), none⟩] false) (.block 0 (.loop m22_0))) (.seq (.seq (.region [⟨(.mov (.k (.int .i64 0))), (some 6), none⟩] false) (.block 2 (.loop m22_1))) (.seq (.region [⟨(.mov (.t 4)), (some 41), none⟩, ⟨(.mov (.t 41)), (some 2), none⟩, ⟨(.mov (.k (.int .i64 0))), (some 3), none⟩] false) .ret))))))
theorem has22 : Has cx 22 42 m22 [(.tmp 2), (.tmp 3)] :=
  ⟨⟨Try.f22, Try.f22.body.getD .skip, by kernel_rfl, by kernel_rfl, by kernel_rfl, by kernel_rfl, by kernel_rfl, by kernel_rfl⟩⟩
theorem lp22_0 (n b : Nat) (hn : n ≤ 4) (hb : b < 65536) (o : Out) (ho : (match selm (fun _ => true) (lvH b) (n + 1) with | [] => (⟨.exit 0, [(1, .ptr 0 0), (4, .emp)], [⟨[.int .i64 n, .int .i64 b], 1, 0, some 0, true⟩]⟩ : Out) | x :: xs => ⟨.exit 0, [(1, .ptr 0 0), (4, .sl 1 0 (x :: xs).length)], [⟨[.int .i64 n, .int .i64 b], 1, 0, some 0, true⟩, ⟨ints (x :: xs), 1, 1, some 0, false⟩]⟩) = o) :
    LpS cx 42 0 m22_0 [(1, .ptr 0 0), (4, .emp), (5, .int .i64 (0 : Nat))] [⟨[.int .i64 n, .int .i64 b], 1, 0, some 0, true⟩] o.x o.e o.h := by
  subst ho
  refine lp_st (n + 1) (selm (fun _ => true) (lvH b)) (fun i s => match s with | [] => [(1, .ptr 0 0), (4, .emp), (5, .int .i64 (i : Nat))] | x :: xs => [(1, .ptr 0 0), (4, .sl 1 0 (x :: xs).length), (5, .int .i64 (i : Nat))]) (fun i s => match s with | [] => [⟨[.int .i64 n, .int .i64 b], 1, 0, some 0, true⟩] | x :: xs => [⟨[.int .i64 n, .int .i64 b], 1, 0, some 0, true⟩, ⟨ints (x :: xs), 1, 1, some 0, false⟩]) (fun s => match s with | [] => ⟨.exit 0, [(1, .ptr 0 0), (4, .emp)], [⟨[.int .i64 n, .int .i64 b], 1, 0, some 0, true⟩]⟩ | x :: xs => ⟨.exit 0, [(1, .ptr 0 0), (4, .sl 1 0 (x :: xs).length)], [⟨[.int .i64 n, .int .i64 b], 1, 0, some 0, true⟩, ⟨ints (x :: xs), 1, 1, some 0, false⟩]⟩) ?_ ?_ (n + 1) 0 (by omega)
  · intro i s hi hs
    have hlt : decide ((i : Int) < (n + 1 : Nat)) = true := decide_eq_true (by omega)
    have hle : decide ((i : Int) ≤ (n + 1 : Nat) - 1) = true := decide_eq_true (by omega)
    have hlen : s.length ≤ 65536 := by have := selm_len (fun _ => true) (lvH b) i; rw [hs] at this; omega
    have r1 := R2_mono (i := i) (n := n) (by omega)
    have r2 := R2_pos i
    have h16 := (shN hn).1
    have hle2 : decide ((i : Int) ≤ (n : Nat)) = true := decide_eq_true (by omega)
    have hsub := b_sub1 (a := R2 i) (by omega) (by omega)
    have hp : (fun _ => true) i = true := rfl
    cases s with
    | nil =>
      refine ⟨[(lvH b) i], by rw [selm_t (p := fun _ => true) hp, hs]; try rfl, ?_⟩
      unfold m22_0
      repeat' (first
        | (refine g_op ?_; first
          | refine ep_mov rfl ?_ | refine ep_load1 rfl rfl rfl rfl ?_ | refine ep_fieldAddr rfl ?_ | refine sp_loadN rfl rfl rfl rfl rfl ?_
          | refine ep_call0 rfl (by first | exact ev58 i (by omega) | exact ev57 n b (R2 i - 1) (by omega) (by omega)) rfl rfl ?_
          | refine sp_call rfl rfl rfl rfl (by first | exact ev58 i (by omega) | exact ev57 n b (R2 i - 1) (by omega) (by omega)) ⟨rfl, rfl, rfl, rfl⟩ rfl rfl rfl ?_
          | refine ep_callw0 rfl (by first | exact ev58 i (by omega) | exact ev57 n b (R2 i - 1) (by omega) (by omega)) rfl rfl ?_
          | refine sp_callw rfl rfl rfl rfl (by first | exact ev58 i (by omega) | exact ev57 n b (R2 i - 1) (by omega) (by omega)) ⟨rfl, rfl, rfl, rfl⟩ rfl rfl rfl (by first | exact WrP_refl _ _ | (repeat' (first | exact rfl | exact True.intro | refine And.intro ?_ ?_))) ?_
          | refine ep_bin rfl rfl (by first | exact hsub | exact b_add (by omega) (by omega) | exact b_sub (by omega) (by omega) | exact b_and (by omega) (by omega) | exact b_or (by omega) (by omega) | exact b_shr (by omega) | exact b_shl (by omega) (by omega) | exact b_lss | exact b_leq | exact b_gtr | exact b_geq | exact b_eql | exact b_neq) ?_
          | refine sp_bslice rfl rfl rfl rfl rfl ?_ | refine sp_push0 rfl (by first | exact .inl rfl | exact .inr rfl) rfl rfl rfl rfl rfl (by decide) rfl rfl rfl ?_ | refine sp_push rfl rfl rfl rfl rfl rfl rfl (by first | exact ints_len _ | exact prs_len _ _ | exact zints_len _) (by omega) (Nat.zero_le _) rfl rfl rfl rfl rfl ?_)
        | (refine g_ops ?_; first | refine eo_none ?_ | refine eo_nil ?_)
        | (refine g_dops ?_; first | refine ed_none ?_ | refine ed_nil ?_)
        | refine ed_same rfl ?_ | refine ed_one rfl rfl rfl rfl ?_ | refine ed_two rfl rfl rfl rfl rfl rfl rfl ?_ | refine ed_write rfl rfl ?_
        | (refine g_code ?_; first | refine ec_seq ?_ | refine ec_region ?_ | refine ec_draw ?_ | refine ec_block ?_ | refine ec_skip ?_ | refine ec_exit ?_ | refine ec_condT rfl ?_ | refine ec_condF rfl ?_ | refine ec_condTH rfl (by assumption) ?_ | refine ec_condFH rfl (by assumption) ?_)
        | refine ek_seqN ?_ | refine ek_seqX ?_ | refine ek_blkN ?_ | refine ek_blkR ?_ | refine ek_blkX ?_ | refine ek_blkY rfl ?_)
      exact rnd_on (by rfl) (scmp2 (by rfl) (by rfl) (by exact ⟨rfl, rfl, rfl⟩) (by rfl) (by first | rfl | (simp; done) | (simp [ints, prs, lvH]; done)) (by rfl) (by first | rfl | (simp; done) | (simp [ints, prs, lvH]; done)))
    | cons x xs =>
      refine ⟨(x :: xs) ++ [(lvH b) i], by rw [selm_t (p := fun _ => true) hp, hs]; try rfl, ?_⟩
      unfold m22_0
      repeat' (first
        | (refine g_op ?_; first
          | refine ep_mov rfl ?_ | refine ep_load1 rfl rfl rfl rfl ?_ | refine ep_fieldAddr rfl ?_ | refine sp_loadN rfl rfl rfl rfl rfl ?_
          | refine ep_call0 rfl (by first | exact ev58 i (by omega) | exact ev57 n b (R2 i - 1) (by omega) (by omega)) rfl rfl ?_
          | refine sp_call rfl rfl rfl rfl (by first | exact ev58 i (by omega) | exact ev57 n b (R2 i - 1) (by omega) (by omega)) ⟨rfl, rfl, rfl, rfl⟩ rfl rfl rfl ?_
          | refine ep_callw0 rfl (by first | exact ev58 i (by omega) | exact ev57 n b (R2 i - 1) (by omega) (by omega)) rfl rfl ?_
          | refine sp_callw rfl rfl rfl rfl (by first | exact ev58 i (by omega) | exact ev57 n b (R2 i - 1) (by omega) (by omega)) ⟨rfl, rfl, rfl, rfl⟩ rfl rfl rfl (by first | exact WrP_refl _ _ | (repeat' (first | exact rfl | exact True.intro | refine And.intro ?_ ?_))) ?_
          | refine ep_bin rfl rfl (by first | exact hsub | exact b_add (by omega) (by omega) | exact b_sub (by omega) (by omega) | exact b_and (by omega) (by omega) | exact b_or (by omega) (by omega) | exact b_shr (by omega) | exact b_shl (by omega) (by omega) | exact b_lss | exact b_leq | exact b_gtr | exact b_geq | exact b_eql | exact b_neq) ?_
          | refine sp_bslice rfl rfl rfl rfl rfl ?_ | refine sp_push0 rfl (by first | exact .inl rfl | exact .inr rfl) rfl rfl rfl rfl rfl (by decide) rfl rfl rfl ?_ | refine sp_push rfl rfl rfl rfl rfl rfl rfl (by first | exact ints_len _ | exact prs_len _ _ | exact zints_len _) (by omega) (Nat.zero_le _) rfl rfl rfl rfl rfl ?_)
        | (refine g_ops ?_; first | refine eo_none ?_ | refine eo_nil ?_)
        | (refine g_dops ?_; first | refine ed_none ?_ | refine ed_nil ?_)
        | refine ed_same rfl ?_ | refine ed_one rfl rfl rfl rfl ?_ | refine ed_two rfl rfl rfl rfl rfl rfl rfl ?_ | refine ed_write rfl rfl ?_
        | (refine g_code ?_; first | refine ec_seq ?_ | refine ec_region ?_ | refine ec_draw ?_ | refine ec_block ?_ | refine ec_skip ?_ | refine ec_exit ?_ | refine ec_condT rfl ?_ | refine ec_condF rfl ?_ | refine ec_condTH rfl (by assumption) ?_ | refine ec_condFH rfl (by assumption) ?_)
        | refine ek_seqN ?_ | refine ek_seqX ?_ | refine ek_blkN ?_ | refine ek_blkR ?_ | refine ek_blkX ?_ | refine ek_blkY rfl ?_)
      exact rnd_on (by rfl) (scmp2 (by rfl) (by rfl) (by exact ⟨rfl, rfl, rfl⟩) (by rfl) (by first | rfl | (simp; done) | (simp [ints, prs, lvH]; done)) (by rfl) (by first | rfl | (simp; done) | (simp [ints, prs, lvH]; done)))
  · intro s hs
    have hlt : decide (((n + 1 : Nat) : Int) < (n + 1 : Nat)) = false := decide_eq_false (by omega)
    have hle : decide (((n + 1 : Nat) : Int) ≤ (n + 1 : Nat) - 1) = false := decide_eq_false (by omega)
    have hle2 : decide (((n + 1 : Nat) : Int) ≤ (n : Nat)) = false := decide_eq_false (by omega)
    cases s with
    | nil =>
      unfold m22_0
      repeat' (first
        | (refine g_op ?_; first
          | refine ep_mov rfl ?_ | refine ep_load1 rfl rfl rfl rfl ?_ | refine ep_fieldAddr rfl ?_ | refine sp_loadN rfl rfl rfl rfl rfl ?_
          | refine ep_bin rfl rfl (by first | exact b_add (by omega) (by omega) | exact b_sub (by omega) (by omega) | exact b_and (by omega) (by omega) | exact b_or (by omega) (by omega) | exact b_shr (by omega) | exact b_shl (by omega) (by omega) | exact b_lss | exact b_leq | exact b_gtr | exact b_geq | exact b_eql | exact b_neq) ?_
          | refine sp_bslice rfl rfl rfl rfl rfl ?_ | refine sp_push0 rfl (by first | exact .inl rfl | exact .inr rfl) rfl rfl rfl rfl rfl (by decide) rfl rfl rfl ?_ | refine sp_push rfl rfl rfl rfl rfl rfl rfl (by first | exact ints_len _ | exact prs_len _ _ | exact zints_len _) (by omega) (Nat.zero_le _) rfl rfl rfl rfl rfl ?_)
        | (refine g_ops ?_; first | refine eo_none ?_ | refine eo_nil ?_)
        | (refine g_dops ?_; first | refine ed_none ?_ | refine ed_nil ?_)
        | refine ed_same rfl ?_ | refine ed_one rfl rfl rfl rfl ?_ | refine ed_two rfl rfl rfl rfl rfl rfl rfl ?_ | refine ed_write rfl rfl ?_
        | (refine g_code ?_; first | refine ec_seq ?_ | refine ec_region ?_ | refine ec_draw ?_ | refine ec_block ?_ | refine ec_skip ?_ | refine ec_exit ?_ | refine ec_condT rfl ?_ | refine ec_condF rfl ?_ | refine ec_condTH rfl (by assumption) ?_ | refine ec_condFH rfl (by assumption) ?_)
        | refine ek_seqN ?_ | refine ek_seqX ?_ | refine ek_blkN ?_ | refine ek_blkR ?_ | refine ek_blkX ?_ | refine ek_blkY rfl ?_)
      exact rnd_out (by rfl) (by simp) (scmp2 (by rfl) (by rfl) (by exact ⟨rfl, rfl, rfl⟩) (by rfl) (by first | rfl | (simp; done) | (simp [ints, prs]; done)) (by rfl) (by first | rfl | (simp; done) | (simp [ints, prs]; done)))
    | cons x xs =>
      unfold m22_0
      repeat' (first
        | (refine g_op ?_; first
          | refine ep_mov rfl ?_ | refine ep_load1 rfl rfl rfl rfl ?_ | refine ep_fieldAddr rfl ?_ | refine sp_loadN rfl rfl rfl rfl rfl ?_
          | refine ep_bin rfl rfl (by first | exact b_add (by omega) (by omega) | exact b_sub (by omega) (by omega) | exact b_and (by omega) (by omega) | exact b_or (by omega) (by omega) | exact b_shr (by omega) | exact b_shl (by omega) (by omega) | exact b_lss | exact b_leq | exact b_gtr | exact b_geq | exact b_eql | exact b_neq) ?_
          | refine sp_bslice rfl rfl rfl rfl rfl ?_ | refine sp_push0 rfl (by first | exact .inl rfl | exact .inr rfl) rfl rfl rfl rfl rfl (by decide) rfl rfl rfl ?_ | refine sp_push rfl rfl rfl rfl rfl rfl rfl (by first | exact ints_len _ | exact prs_len _ _ | exact zints_len _) (by omega) (Nat.zero_le _) rfl rfl rfl rfl rfl ?_)
        | (refine g_ops ?_; first | refine eo_none ?_ | refine eo_nil ?_)
        | (refine g_dops ?_; first | refine ed_none ?_ | refine ed_nil ?_)
        | refine ed_same rfl ?_ | refine ed_one rfl rfl rfl rfl ?_ | refine ed_two rfl rfl rfl rfl rfl rfl rfl ?_ | refine ed_write rfl rfl ?_
        | (refine g_code ?_; first | refine ec_seq ?_ | refine ec_region ?_ | refine ec_draw ?_ | refine ec_block ?_ | refine ec_skip ?_ | refine ec_exit ?_ | refine ec_condT rfl ?_ | refine ec_condF rfl ?_ | refine ec_condTH rfl (by assumption) ?_ | refine ec_condFH rfl (by assumption) ?_)
        | refine ek_seqN ?_ | refine ek_seqX ?_ | refine ek_blkN ?_ | refine ek_blkR ?_ | refine ek_blkX ?_ | refine ek_blkY rfl ?_)
      exact rnd_out (by rfl) (by simp) (scmp2 (by rfl) (by rfl) (by exact ⟨rfl, rfl, rfl⟩) (by rfl) (by first | rfl | (simp; done) | (simp [ints, prs]; done)) (by rfl) (by first | rfl | (simp; done) | (simp [ints, prs]; done)))

theorem lpsl1 (n b x : Nat) (xs : List Nat) (hn : n ≤ 4) (hb : b < 65536) (hL : selm (fun _ => true) (lvH b) (n + 1) = x :: xs) (o : Out) (ho : (if allF (lvP b) 0 (R2 n) = true then (⟨.exit 2, [(4, .sl 0 0 (x :: xs).length)], [⟨ints (x :: xs), 1, 0, some 0, false⟩]⟩ : Out) else ⟨.ret, [(2, .nils), (3, .int .i64 5)], []⟩) = o) :
    LpS cx 42 0 m22_1 [(1, .ptr 0 0), (4, .sl 1 0 (x :: xs).length), (6, .int .i64 (0 : Nat))] [⟨[.int .i64 n, .int .i64 b], 1, 0, some 0, true⟩, ⟨ints (x :: xs), 1, 1, some 0, false⟩] o.x o.e o.h := by
  refine lp_all (R2 n) (lvP b) (fun i => [(1, .ptr 0 0), (4, .sl 1 0 (x :: xs).length), (6, .int .i64 (i : Nat))]) (fun i => [⟨[.int .i64 n, .int .i64 b], 1, 0, some 0, true⟩, ⟨ints (x :: xs), 1, 1, some 0, false⟩]) _ _ ?_ ?_ ?_ (R2 n) 0 o (by omega) ho
  · intro i hi hp
    have hlt : decide ((i : Int) < (R2 n : Nat)) = true := decide_eq_true (by omega)
    have hp' : ((lvP b) i) = true := hp
    obtain ⟨h1, h2, h3, h4⟩ := shN hn
    have hpn := pop_nn hn hi
    have sa := selm_all (g := lvH b) (n + 1)
    rw [hL] at sa
    have hget := ints_get (l := x :: xs) (j := pop i 16) (by omega)
    rw [sa.2 _ (by omega)] at hget
    have hv : bt b i = bt b (R2 (pop i 16) - 1) := by simpa [lvP] using hp
    have q2 : (((bt b i : Nat) : Int) != ((lvH b (pop i 16) : Nat) : Int)) = false := by rw [lvH, hv]; simp
    unfold m22_1
    repeat' (first
      | refine ep_loadS rfl rfl rfl hget ?_
      | (refine g_op ?_; first
        | refine ep_mov rfl ?_ | refine ep_load1 rfl rfl rfl rfl ?_ | refine ep_fieldAddr rfl ?_ | refine sp_loadN rfl rfl rfl rfl rfl ?_
        | refine ep_call0 rfl (by first | exact ev58 n hn | exact ev57 n b i (by omega) (by omega) | exact ev59 i (by omega)) rfl rfl ?_
        | refine sp_call rfl rfl rfl rfl (by first | exact ev58 n hn | exact ev57 n b i (by omega) (by omega) | exact ev59 i (by omega)) ⟨rfl, rfl, rfl, rfl⟩ rfl rfl rfl ?_
        | refine ep_bin rfl rfl (by first | exact b_add (by omega) (by omega) | exact b_sub (by omega) (by omega) | exact b_and (by omega) (by omega) | exact b_or (by omega) (by omega) | exact b_shr (by omega) | exact b_shl (by omega) (by omega) | exact b_lss | exact b_leq | exact b_gtr | exact b_geq | exact b_eql | exact b_neq) ?_
        | refine sp_idx rfl rfl rfl (by omega) rfl ?_ | refine ep_loadS rfl rfl rfl (by first | exact ints_get (by omega) | exact zints_get (by omega) | exact fget (by omega) | assumption) ?_ | refine ep_loadSN rfl rfl rfl (by first | exact prs_get (by omega) | exact fns_get (by omega)) ?_)
      | (refine g_ops ?_; first | refine eo_none ?_ | refine eo_nil ?_)
      | (refine g_code ?_; first | refine ec_seq ?_ | refine ec_region ?_ | refine ec_block ?_ | refine ec_skip ?_ | refine ec_exit ?_ | refine ec_ret ?_ | refine ec_condT rfl ?_ | refine ec_condF rfl ?_ | refine ec_condTH rfl (by assumption) ?_ | refine ec_condFH rfl (by assumption) ?_)
      | refine ek_seqN ?_ | refine ek_seqX ?_ | refine ek_seqR ?_ | refine ek_blkN ?_ | refine ek_blkR ?_ | refine ek_blkX ?_ | refine ek_blkY rfl ?_)
    exact rnd_on (by rfl) (scmp2 (by rfl) (by rfl) (by exact ⟨rfl, rfl, rfl⟩) (by rfl) (by first | rfl | (simp; done) | (simp [ints, prs]; done)) (by rfl) (by first | rfl | (simp; done) | (simp [ints, prs]; done)))
  · intro i hi hp
    have hlt : decide ((i : Int) < (R2 n : Nat)) = true := decide_eq_true (by omega)
    have hp' : ((lvP b) i) = false := hp
    obtain ⟨h1, h2, h3, h4⟩ := shN hn
    have hpn := pop_nn hn hi
    have sa := selm_all (g := lvH b) (n + 1)
    rw [hL] at sa
    have hget := ints_get (l := x :: xs) (j := pop i 16) (by omega)
    rw [sa.2 _ (by omega)] at hget
    have hv : bt b i ≠ bt b (R2 (pop i 16) - 1) := by simpa [lvP] using hp
    have q2 : (((bt b i : Nat) : Int) != ((lvH b (pop i 16) : Nat) : Int)) = true := by rw [lvH]; simp; omega
    unfold m22_1
    repeat' (first
      | refine ep_loadS rfl rfl rfl hget ?_
      | (refine g_op ?_; first
        | refine ep_mov rfl ?_ | refine ep_load1 rfl rfl rfl rfl ?_ | refine ep_fieldAddr rfl ?_ | refine sp_loadN rfl rfl rfl rfl rfl ?_
        | refine ep_call0 rfl (by first | exact ev58 n hn | exact ev57 n b i (by omega) (by omega) | exact ev59 i (by omega)) rfl rfl ?_
        | refine sp_call rfl rfl rfl rfl (by first | exact ev58 n hn | exact ev57 n b i (by omega) (by omega) | exact ev59 i (by omega)) ⟨rfl, rfl, rfl, rfl⟩ rfl rfl rfl ?_
        | refine ep_bin rfl rfl (by first | exact b_add (by omega) (by omega) | exact b_sub (by omega) (by omega) | exact b_and (by omega) (by omega) | exact b_or (by omega) (by omega) | exact b_shr (by omega) | exact b_shl (by omega) (by omega) | exact b_lss | exact b_leq | exact b_gtr | exact b_geq | exact b_eql | exact b_neq) ?_
        | refine sp_idx rfl rfl rfl (by omega) rfl ?_ | refine ep_loadS rfl rfl rfl (by first | exact ints_get (by omega) | exact zints_get (by omega) | exact fget (by omega) | assumption) ?_ | refine ep_loadSN rfl rfl rfl (by first | exact prs_get (by omega) | exact fns_get (by omega)) ?_)
      | (refine g_ops ?_; first | refine eo_none ?_ | refine eo_nil ?_)
      | (refine g_code ?_; first | refine ec_seq ?_ | refine ec_region ?_ | refine ec_block ?_ | refine ec_skip ?_ | refine ec_exit ?_ | refine ec_ret ?_ | refine ec_condT rfl ?_ | refine ec_condF rfl ?_ | refine ec_condTH rfl (by assumption) ?_ | refine ec_condFH rfl (by assumption) ?_)
      | refine ek_seqN ?_ | refine ek_seqX ?_ | refine ek_seqR ?_ | refine ek_blkN ?_ | refine ek_blkR ?_ | refine ek_blkX ?_ | refine ek_blkY rfl ?_)
    exact rnd_out (by rfl) (by simp) (scmp2 (by rfl) (by rfl) (by exact ⟨rfl, rfl, rfl⟩) (by rfl) (by first | rfl | (simp; done) | (simp [ints, prs]; done)) (by rfl) (by first | rfl | (simp; done) | (simp [ints, prs]; done)))
  · have hlt : decide (((R2 n : Nat) : Int) < (R2 n : Nat)) = false := decide_eq_false (by omega)
    have h16 := (shN hn).1
    unfold m22_1
    repeat' (first
      | (refine g_op ?_; first
        | refine ep_mov rfl ?_ | refine ep_load1 rfl rfl rfl rfl ?_ | refine ep_fieldAddr rfl ?_ | refine sp_loadN rfl rfl rfl rfl rfl ?_
        | refine ep_call0 rfl (by first | exact ev58 n hn) rfl rfl ?_
        | refine sp_call rfl rfl rfl rfl (by first | exact ev58 n hn) ⟨rfl, rfl, rfl, rfl⟩ rfl rfl rfl ?_
        | refine ep_bin rfl rfl (by first | exact b_add (by omega) (by omega) | exact b_sub (by omega) (by omega) | exact b_and (by omega) (by omega) | exact b_or (by omega) (by omega) | exact b_shr (by omega) | exact b_shl (by omega) (by omega) | exact b_lss | exact b_leq | exact b_gtr | exact b_geq | exact b_eql | exact b_neq) ?_
        | refine sp_idx rfl rfl rfl (by omega) rfl ?_ | refine ep_loadS rfl rfl rfl (by first | exact ints_get (by omega) | exact zints_get (by omega) | exact fget (by omega) | assumption) ?_ | refine ep_loadSN rfl rfl rfl (by first | exact prs_get (by omega) | exact fns_get (by omega)) ?_)
      | (refine g_ops ?_; first | refine eo_none ?_ | refine eo_nil ?_)
      | (refine g_code ?_; first | refine ec_seq ?_ | refine ec_region ?_ | refine ec_block ?_ | refine ec_skip ?_ | refine ec_exit ?_ | refine ec_ret ?_ | refine ec_condT rfl ?_ | refine ec_condF rfl ?_ | refine ec_condTH rfl (by assumption) ?_ | refine ec_condFH rfl (by assumption) ?_)
      | refine ek_seqN ?_ | refine ek_seqX ?_ | refine ek_seqR ?_ | refine ek_blkN ?_ | refine ek_blkR ?_ | refine ek_blkX ?_ | refine ek_blkY rfl ?_)
    exact rnd_out (by rfl) (by simp) (scmp2 (by rfl) (by rfl) (by exact ⟨rfl, rfl, rfl⟩) (by rfl) (by first | rfl | (simp; done) | (simp [ints, prs]; done)) (by rfl) (by first | rfl | (simp; done) | (simp [ints, prs]; done)))

theorem ev22_bad (p t : Int) (h1 : isFn p t = false) : Ev cx 22 [.agg [.int .i64 p, .int .i64 t]] [] (.tup [.nils, .int .i64 1]) [] := by
  have e1 := ev53 p t
  rw [h1] at e1
  refine has22.eev rfl rfl ?_
  unfold m22
  repeat' (first
    | (refine g_op ?_; first
      | refine ep_mov rfl ?_ | refine sp_loadN rfl rfl rfl rfl rfl ?_
      | refine ep_call0 rfl (by first | exact e1) rfl rfl ?_
      | refine sp_call rfl rfl rfl rfl (by first | exact e1) ⟨rfl, rfl, rfl, rfl⟩ rfl rfl rfl ?_
      | refine ep_not rfl ?_ | refine sp_box rfl rfl rfl rfl rfl ?_ | refine ep_empt ?_)
    | (refine g_ops ?_; first | refine eo_none ?_ | refine eo_nil ?_)
    | (refine g_code ?_; first | refine ec_seq ?_ | refine ec_region ?_ | refine ec_block ?_ | refine ec_skip ?_ | refine ec_ret ?_ | refine ec_condT rfl ?_ | refine ec_condF rfl ?_ | refine ec_condTH rfl (by assumption) ?_ | refine ec_condFH rfl (by assumption) ?_)
    | refine ek_seqN ?_ | refine ek_seqX ?_ | refine ek_seqR ?_ | refine ek_blkN ?_ | refine ek_blkR ?_ | refine ek_blkX ?_ | refine ek_blkY rfl ?_)
  refine sfin (.inr rfl) (by rfl) (by rfl) (by exact ⟨rfl, rfl, rfl⟩) (by rfl) (by rfl) (by rfl) (by first | rfl | (simp; done) | (simp [ints, prs]; done))
theorem ev22_no (n b : Nat) (h1 : isFn n b = true) (hn : n ≤ 4) (hb : b < 65536) (hs : allF (lvP b) 0 (R2 n) = false) : Ev cx 22 [.agg [.int .i64 n, .int .i64 b]] [] (.tup [.nils, .int .i64 5]) [] := by
  have e1 := ev53 n b
  rw [h1] at e1
  have sa := (selm_all (g := lvH b) (n + 1)).1
  cases hL : selm (fun _ => true) (lvH b) (n + 1) with
  | nil => rw [hL] at sa; simp at sa
  | cons x xs =>
    have lp0 := lp22_0 n b hn hb _ (by rw [hL])
    have lp1 := lpsl1 n b x xs hn hb hL _ (if_neg (by rw [hs]; simp))
    refine has22.eev rfl rfl ?_
    unfold m22
    repeat' (first
      | refine sc_loop lp0 rfl rfl ⟨rfl, rfl, rfl⟩ rfl rfl rfl ?_
      | refine sc_loop lp1 rfl rfl ⟨rfl, rfl, rfl⟩ rfl rfl rfl ?_
      | (refine g_op ?_; first
        | refine ep_mov rfl ?_ | refine sp_loadN rfl rfl rfl rfl rfl ?_
        | refine ep_call0 rfl (by first | exact e1) rfl rfl ?_
        | refine sp_call rfl rfl rfl rfl (by first | exact e1) ⟨rfl, rfl, rfl, rfl⟩ rfl rfl rfl ?_
        | refine ep_not rfl ?_ | refine sp_box rfl rfl rfl rfl rfl ?_ | refine ep_empt ?_)
      | (refine g_ops ?_; first | refine eo_none ?_ | refine eo_nil ?_)
      | (refine g_code ?_; first | refine ec_seq ?_ | refine ec_region ?_ | refine ec_block ?_ | refine ec_skip ?_ | refine ec_ret ?_ | refine ec_condT rfl ?_ | refine ec_condF rfl ?_ | refine ec_condTH rfl (by assumption) ?_ | refine ec_condFH rfl (by assumption) ?_)
      | refine ek_seqN ?_ | refine ek_seqX ?_ | refine ek_seqR ?_ | refine ek_blkN ?_ | refine ek_blkR ?_ | refine ek_blkX ?_ | refine ek_blkY rfl ?_)
    refine sfin (.inr rfl) (by rfl) (by rfl) (by exact ⟨rfl, rfl, rfl⟩) (by rfl) (by rfl) (by rfl) (by first | rfl | (simp; done) | (simp [ints, prs]; done))

theorem ev22_ok (n b x : Nat) (xs : List Nat) (h1 : isFn n b = true) (hn : n ≤ 4) (hb : b < 65536) (hs : allF (lvP b) 0 (R2 n) = true) (hL : selm (fun _ => true) (lvH b) (n + 1) = x :: xs) : Ev cx 22 [.agg [.int .i64 n, .int .i64 b]] [] (.tup [.sl 0 0 (x :: xs).length, .int .i64 0]) [⟨ints (x :: xs), 1, 0, some 0, false⟩] := by
  have e1 := ev53 n b
  rw [h1] at e1
  have sa := (selm_all (g := lvH b) (n + 1)).1
  have lp0 := lp22_0 n b hn hb _ (by rw [hL])
  have lp1 := lpsl1 n b x xs hn hb hL _ (if_pos hs)
  refine has22.eev rfl rfl ?_
  unfold m22
  repeat' (first
    | refine sc_loop lp0 rfl rfl ⟨rfl, rfl, rfl⟩ rfl rfl rfl ?_
    | refine sc_loop lp1 rfl rfl ⟨rfl, rfl, rfl⟩ rfl rfl rfl ?_
    | (refine g_op ?_; first
      | refine ep_mov rfl ?_ | refine sp_loadN rfl rfl rfl rfl rfl ?_
      | refine ep_call0 rfl (by first | exact e1) rfl rfl ?_
      | refine sp_call rfl rfl rfl rfl (by first | exact e1) ⟨rfl, rfl, rfl, rfl⟩ rfl rfl rfl ?_
      | refine ep_not rfl ?_ | refine sp_box rfl rfl rfl rfl rfl ?_ | refine ep_empt ?_)
    | (refine g_ops ?_; first | refine eo_none ?_ | refine eo_nil ?_)
    | (refine g_code ?_; first | refine ec_seq ?_ | refine ec_region ?_ | refine ec_block ?_ | refine ec_skip ?_ | refine ec_ret ?_ | refine ec_condT rfl ?_ | refine ec_condF rfl ?_ | refine ec_condTH rfl (by assumption) ?_ | refine ec_condFH rfl (by assumption) ?_)
    | refine ek_seqN ?_ | refine ek_seqX ?_ | refine ek_seqR ?_ | refine ek_blkN ?_ | refine ek_blkR ?_ | refine ek_blkX ?_ | refine ek_blkY rfl ?_)
  refine sfin (.inr rfl) (by rfl) (by rfl) (by exact ⟨rfl, rfl, rfl⟩) (by rfl) (by rfl) (by rfl) (by first | rfl | (simp; done) | (simp [ints, prs]; done))

-- laws.FnExactLevelsOf
def m4 : MC := (.seq (.region [⟨(.box (.t 0)), (some 1), none⟩, ⟨(.mov (.k (.bool false))), (some 2), none⟩] false) (.seq (.region [⟨(.load (some 2) (.t 1)), (some 12), none⟩, ⟨(.call 17 [(.t 12)]), (some 13), none⟩, ⟨(.call 22 [(.t 13)]), (some 14), none⟩, ⟨(.mov (.t 14)), (some 11), none⟩, ⟨(.extract (.t 11) 0), (some 15), none⟩, ⟨(.extract (.t 11) 1), (some 16), none⟩, ⟨(.mov (.t 15)), (some 3), none⟩, ⟨(.mov (.t 16)), (some 4), none⟩] false) (.seq (.region [⟨(.load (some 2) (.t 1)), (some 18), none⟩, ⟨(.call 17 [(.t 18)]), (some 19), none⟩, ⟨(.call 23 [(.t 19)]), (some 20), none⟩, ⟨(.mov (.t 20)), (some 17), none⟩, ⟨(.extract (.t 17) 0), (some 21), none⟩, ⟨(.extract (.t 17) 1), (some 22), none⟩, ⟨(.mov (.t 21)), (some 5), none⟩, ⟨(.mov (.t 22)), (some 6), none⟩] false) (.seq (.seq (.region [⟨(.mov (.t 5)), (some 23), none⟩, ⟨(.mov (.t 3)), (some 24), none⟩, ⟨(.call 19 [(.t 23), (.t 24)]), (some 25), none⟩, ⟨(.un .not (.t 25)), (some 26), none⟩, ⟨(.mov (.t 26)), (some 27), none⟩, ⟨(.mov (.t 6)), (some 28), (some (27, false))⟩, ⟨(.mov (.t 4)), (some 29), (some (27, false))⟩, ⟨(.bin .neq (.t 28) (.t 29)), (some 30), (some (27, false))⟩, ⟨(.pick (.t 27) (.k (.bool true)) (.t 30)), (some 31), none⟩] false) (.cond (.t 31) (.seq (.region [⟨(.mov (.k (.bool false))), (some 2), none⟩] false) .ret) .skip)) (.seq (.region [⟨(.mov (.k (.int .i64 1))), (some 7), none⟩] false) (.seq (.region [⟨(.mov (.t 5)), (some 32), none⟩, ⟨(.mov (.t 7)), (some 33), none⟩, ⟨(.call 20 [(.t 32), (.t 33)]), (some 34), none⟩, ⟨(.mov (.t 34)), (some 7), none⟩] false) (.seq (.region [⟨(.mov (.k (.int .i64 1))), (some 8), none⟩] false) (.seq (.region [⟨(.mov (.t 5)), (some 35), none⟩, ⟨(.mov (.t 8)), (some 36), none⟩, ⟨(.call 21 [(.t 35), (.t 36)]), (some 37), none⟩, ⟨(.mov (.t 37)), (some 8), none⟩] false) (.seq (.seq (.region [⟨(.mov (.t 8)), (some 38), none⟩, ⟨(.bin .lss (.t 38) (.k (.int .i64 0))), (some 39), none⟩] false) (.cond (.t 39) (.seq (.region [⟨(.mov (.k (.bool false))), (some 2), none⟩] false) .ret) .skip)) (.seq (.seq (.region [⟨(.mov (.t 8)), (some 40), none⟩, ⟨(.mov (.t 7)), (some 41), none⟩, ⟨(.bin .neq (.t 40) (.t 41)), (some 42), none⟩] false) (.cond (.t 42) (.seq (.region [⟨(.mov (.k (.bool false))), (some 2), none⟩] false) .ret) .skip)) (.seq (.region [⟨(.load (some 2) (.t 1)), (some 44), none⟩, ⟨(.call 17 [(.t 44)]), (some 45), none⟩, ⟨(.call 23 [(.t 45)]), (some 46), none⟩, ⟨(.mov (.t 46)), (some 43), none⟩, ⟨(.extract (.t 43) 0), (some 47), none⟩, ⟨(.extract (.t 43) 1), (some 48), none⟩, ⟨(.mov (.t 47)), (some 9), none⟩, ⟨(.mov (.t 48)), (some 10), none⟩] false) (.seq (.seq (.region [⟨(.mov (.t 9)), (some 49), none⟩, ⟨(.mov (.t 3)), (some 50), none⟩, ⟨(.call 19 [(.t 49), (.t 50)]), (some 51), none⟩, ⟨(.un .not (.t 51)), (some 52), none⟩, ⟨(.mov (.t 52)), (some 53), none⟩, ⟨(.mov (.t 10)), (some 54), (some (53, false))⟩, ⟨(.mov (.t 4)), (some 55), (some (53, false))⟩, ⟨(.bin .neq (.t 54) (.t 55)), (some 56), (some (53, false))⟩, ⟨(.pick (.t 53) (.k (.bool true)) (.t 56)), (some 57), none⟩] false) (.cond (.t 57) (.seq (.region [⟨(.mov (.k (.bool false))), (some 2), none⟩] false) .ret) .skip)) (.seq (.region [⟨(.mov (.k (.int .i64 1))), (some 8), none⟩] false) (.seq (.region [⟨(.mov (.t 5)), (some 58), none⟩, ⟨(.mov (.t 8)), (some 59), none⟩, ⟨(.call 21 [(.t 58), (.t 59)]), (some 60), none⟩, ⟨(.mov (.t 60)), (some 8), none⟩] false) (.seq (.seq (.region [⟨(.mov (.t 8)), (some 61), none⟩, ⟨(.bin .lss (.t 61) (.k (.int .i64 0))), (some 62), none⟩] false) (.cond (.t 62) (.seq (.region [⟨(.mov (.k (.bool false))), (some 2), none⟩] false) .ret) .skip)) (.seq (.seq (.region [⟨(.mov (.t 8)), (some 63), none⟩, ⟨(.mov (.t 7)), (some 64), none⟩, ⟨(.bin .neq (.t 63) (.t 64)), (some 65), none⟩] false) (.cond (.t 65) (.seq (.region [⟨(.mov (.k (.bool false))), (some 2), none⟩] false) .ret) .skip)) (.seq (.region [⟨(.mov (.k (.bool true))), (some 2), none⟩] false) .ret)))))))))))))))))
theorem has4 : Has cx 4 66 m4 [(.tmp 2)] :=
  ⟨⟨Try.f4, Try.f4.body.getD .skip, by kernel_rfl, by kernel_rfl, by kernel_rfl, by kernel_rfl, by kernel_rfl, by kernel_rfl⟩⟩
theorem ev4 (p t : Int) : Ev cx 4 [.agg [.int .i64 p, .int .i64 t]] [] (.bool true) [] := by
  cases h1 : isFn p t
  · refine has4.eev rfl rfl ?_
    unfold m4
    repeat' (first
      | (refine g_op ?_; first
        | refine ep_mov rfl ?_ | refine sp_loadN rfl rfl rfl rfl rfl ?_
        | refine ep_call0 rfl (by first | exact ev22_bad p t h1 | exact ev17 _ _ | exact ev23_bad p t h1 | exact ev19_nils_nils | exact ev20_nils | exact ev21_nils) rfl rfl ?_
        | refine sp_call rfl rfl rfl rfl (by first | exact ev22_bad p t h1 | exact ev17 _ _ | exact ev23_bad p t h1 | exact ev19_nils_nils | exact ev20_nils | exact ev21_nils) ⟨rfl, rfl, rfl, rfl⟩ rfl rfl rfl ?_
        | refine ep_bin rfl rfl (by first | exact b_add (by omega) (by omega) | exact b_sub (by omega) (by omega) | exact b_and (by omega) (by omega) | exact b_or (by omega) (by omega) | exact b_shr (by omega) | exact b_shl (by omega) (by omega) | exact b_lss | exact b_leq | exact b_gtr | exact b_geq | exact b_eql | exact b_neq) ?_
        | refine ep_pickT rfl rfl ?_ | refine ep_pickF rfl rfl ?_ | refine ep_pickTH rfl (by assumption) rfl ?_ | refine ep_pickFH rfl (by assumption) rfl ?_ | refine ep_extract rfl rfl ?_ | refine ep_not rfl ?_
        | refine sp_box rfl rfl rfl rfl rfl ?_)
      | (refine g_ops ?_; first | refine eo_none ?_ | refine eo_nil ?_ | refine eo_yes rfl ?_ | refine eo_no rfl ?_ | refine eo_und rfl ?_ | refine eo_yesH rfl (by assumption) ?_ | refine eo_noH rfl (by assumption) ?_)
      | (refine g_code ?_; first | refine ec_seq ?_ | refine ec_region ?_ | refine ec_skip ?_ | refine ec_ret ?_ | refine ec_condT rfl ?_ | refine ec_condF rfl ?_ | refine ec_condTH rfl (by assumption) ?_ | refine ec_condFH rfl (by assumption) ?_)
      | refine ek_seqN ?_ | refine ek_seqR ?_)
    refine sfin (.inr rfl) (by rfl) (by rfl) (by exact ⟨rfl, rfl, rfl⟩) (by rfl) (by rfl) (by rfl) (by first | rfl | (simp; done) | (simp [ints, prs]; done))
  obtain ⟨n, b, rfl, rfl, a1, a2, a3⟩ := isFn_nat h1
  cases hs : allF (lvP b) 0 (R2 n)
  · refine has4.eev rfl rfl ?_
    unfold m4
    repeat' (first
      | (refine g_op ?_; first
        | refine ep_mov rfl ?_ | refine sp_loadN rfl rfl rfl rfl rfl ?_
        | refine ep_call0 rfl (by first | exact ev22_no n b h1 a1 a3 hs | exact ev17 _ _ | exact ev23_no n b h1 a1 a3 hs | exact ev19_nils_nils | exact ev20_nils | exact ev21_nils) rfl rfl ?_
        | refine sp_call rfl rfl rfl rfl (by first | exact ev22_no n b h1 a1 a3 hs | exact ev17 _ _ | exact ev23_no n b h1 a1 a3 hs | exact ev19_nils_nils | exact ev20_nils | exact ev21_nils) ⟨rfl, rfl, rfl, rfl⟩ rfl rfl rfl ?_
        | refine ep_bin rfl rfl (by first | exact b_add (by omega) (by omega) | exact b_sub (by omega) (by omega) | exact b_and (by omega) (by omega) | exact b_or (by omega) (by omega) | exact b_shr (by omega) | exact b_shl (by omega) (by omega) | exact b_lss | exact b_leq | exact b_gtr | exact b_geq | exact b_eql | exact b_neq) ?_
        | refine ep_pickT rfl rfl ?_ | refine ep_pickF rfl rfl ?_ | refine ep_pickTH rfl (by assumption) rfl ?_ | refine ep_pickFH rfl (by assumption) rfl ?_ | refine ep_extract rfl rfl ?_ | refine ep_not rfl ?_
        | refine sp_box rfl rfl rfl rfl rfl ?_)
      | (refine g_ops ?_; first | refine eo_none ?_ | refine eo_nil ?_ | refine eo_yes rfl ?_ | refine eo_no rfl ?_ | refine eo_und rfl ?_ | refine eo_yesH rfl (by assumption) ?_ | refine eo_noH rfl (by assumption) ?_)
      | (refine g_code ?_; first | refine ec_seq ?_ | refine ec_region ?_ | refine ec_skip ?_ | refine ec_ret ?_ | refine ec_condT rfl ?_ | refine ec_condF rfl ?_ | refine ec_condTH rfl (by assumption) ?_ | refine ec_condFH rfl (by assumption) ?_)
      | refine ek_seqN ?_ | refine ek_seqR ?_)
    refine sfin (.inr rfl) (by rfl) (by rfl) (by exact ⟨rfl, rfl, rfl⟩) (by rfl) (by rfl) (by rfl) (by first | rfl | (simp; done) | (simp [ints, prs]; done))
  have sa := (selm_all (g := lvH b) (n + 1)).1
  cases hL : selm (fun _ => true) (lvH b) (n + 1) with
  | nil => rw [hL] at sa; simp at sa
  | cons x xs =>
    rw [hL] at sa
    have e1 := ev22_ok n b x xs h1 a1 a3 hs hL
    have e2 := ev23_ok n b x xs h1 a1 a3 hs hL
    have e3 := ev19 (x :: xs).length (ints (x :: xs)) (ints (x :: xs)) (fun j => (((x :: xs).getD j 0 : Nat) : Int)) (some 0) (some 0) (by omega) (fun j hj => ints_get hj) (fun j hj => ints_get hj)
    have e4 := ev20 (x :: xs).length (ints (x :: xs)) (by omega) (ints_len _)
    have e5 := ev21 (x :: xs).length (ints (x :: xs)) (by omega)
    have q2 : ((((x :: xs).length + 1 : Nat) : Int) != ((x :: xs).length + 1 : Nat)) = false := by simp
    have q1 : decide ((((x :: xs).length + 1 : Nat) : Int) < 0) = false := decide_eq_false (by omega)
    refine has4.eev rfl rfl ?_
    unfold m4
    repeat' (first
      | (refine g_op ?_; first
        | refine ep_mov rfl ?_ | refine sp_loadN rfl rfl rfl rfl rfl ?_
        | refine ep_call0 rfl (by first | exact e1 | exact ev17 _ _ | exact e2 | exact e3 | exact e4 | exact e5) rfl rfl ?_
        | refine sp_call rfl rfl rfl rfl (by first | exact e1 | exact ev17 _ _ | exact e2 | exact e3 | exact e4 | exact e5) ⟨rfl, rfl, rfl, rfl⟩ rfl rfl rfl ?_
        | refine ep_bin rfl rfl (by first | exact b_add (by omega) (by omega) | exact b_sub (by omega) (by omega) | exact b_and (by omega) (by omega) | exact b_or (by omega) (by omega) | exact b_shr (by omega) | exact b_shl (by omega) (by omega) | exact b_lss | exact b_leq | exact b_gtr | exact b_geq | exact b_eql | exact b_neq) ?_
        | refine ep_pickT rfl rfl ?_ | refine ep_pickF rfl rfl ?_ | refine ep_pickTH rfl (by assumption) rfl ?_ | refine ep_pickFH rfl (by assumption) rfl ?_ | refine ep_extract rfl rfl ?_ | refine ep_not rfl ?_
        | refine sp_box rfl rfl rfl rfl rfl ?_)
      | (refine g_ops ?_; first | refine eo_none ?_ | refine eo_nil ?_ | refine eo_yes rfl ?_ | refine eo_no rfl ?_ | refine eo_und rfl ?_ | refine eo_yesH rfl (by assumption) ?_ | refine eo_noH rfl (by assumption) ?_)
      | (refine g_code ?_; first | refine ec_seq ?_ | refine ec_region ?_ | refine ec_skip ?_ | refine ec_ret ?_ | refine ec_condT rfl ?_ | refine ec_condF rfl ?_ | refine ec_condTH rfl (by assumption) ?_ | refine ec_condFH rfl (by assumption) ?_)
      | refine ek_seqN ?_ | refine ek_seqR ?_)
    refine sfin (.inr rfl) (by rfl) (by rfl) (by exact ⟨rfl, rfl, rfl⟩) (by rfl) (by rfl) (by rfl) (by first | rfl | (simp; done) | (simp [ints, prs]; done))


end Go.Proofs.Ytdmpajkcpdjfbaa
