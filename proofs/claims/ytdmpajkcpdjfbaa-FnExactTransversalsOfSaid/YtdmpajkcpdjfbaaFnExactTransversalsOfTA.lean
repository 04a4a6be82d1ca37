/- What each function that the statement reaches returns. -/
import Derived.Test.YtdmpajkcpdjfbaaMiD
import Derived.Test.YtdmpajkcpdjfbaaChecked
import Derived.KernelRfl
set_option linter.unusedVariables false
set_option linter.unusedSimpArgs false
set_option maxRecDepth 100000
set_option maxHeartbeats 4000000
namespace Go.Proofs.Ytdmpajkcpdjfbaa
open Go Go.Proofs.Ytdmpajkcpdjfbaa.Mi
noncomputable def cx : Cx := ⟨Try.prog, id, id, by kernel_rfl⟩
attribute [local irreducible] code opsK opsDK gopK opK seqK blockK callK binV
def R2 (n : Nat) : Nat := 2 ^ n
theorem shR (n : Nat) : 1 <<< n = R2 n := by simp [R2, Nat.shiftLeft_eq]
theorem shN {n : Nat} (h : n ≤ 4) : R2 n ≤ 16 ∧ R2 (R2 n) ≤ 65536 ∧ 1 ≤ R2 n ∧ 1 ≤ R2 (R2 n) := by
  have : n = 0 ∨ n = 1 ∨ n = 2 ∨ n = 3 ∨ n = 4 := by omega
  rcases this with rfl | rfl | rfl | rfl | rfl <;> decide
theorem b_shl1 {k' : IntKind} {y : Nat} (h : R2 y < 9223372036854775808) (hy : y ≤ 64) : binV .shl (.int .i64 1) (.int k' y) = some (.int .i64 (R2 y : Nat)) := by
  rw [← shR]; exact b_shl (x := 1) (by rw [shR]; exact h) hy
attribute [local irreducible] R2
def isRel (p t : Int) : Bool := decide (1 ≤ p ∧ p ≤ 4) && decide (0 ≤ t ∧ t ≤ (R2 (R2 p.toNat) : Nat) - 1)
def isFn (p t : Int) : Bool := decide (0 ≤ p ∧ p ≤ 4) && decide (0 ≤ t ∧ t ≤ (R2 (R2 p.toNat) : Nat) - 1)
-- impl.within
def m101 : MC := (.seq (.region [⟨(.mov (.k (.bool false))), (some 6), none⟩] false) (.seq (.region [⟨(.mov (.t 0)), (some 7), none⟩, ⟨(.mov (.t 1)), (some 8), none⟩, ⟨(.bin .geq (.t 7) (.t 8)), (some 9), none⟩, ⟨(.mov (.t 9)), (some 10), none⟩, ⟨(.mov (.t 0)), (some 11), (some (10, true))⟩, ⟨(.mov (.t 2)), (some 12), (some (10, true))⟩, ⟨(.bin .leq (.t 11) (.t 12)), (some 13), (some (10, true))⟩, ⟨(.pick (.t 10) (.t 13) (.k (.bool false))), (some 14), none⟩, ⟨(.mov (.t 14)), (some 6), none⟩] false) .ret))
theorem has101 : Has cx 101 15 m101 [(.tmp 6)] :=
  ⟨⟨Try.f101, Try.f101.body.getD .skip, by kernel_rfl, by kernel_rfl, by kernel_rfl, by kernel_rfl, by kernel_rfl, by kernel_rfl⟩⟩
theorem ev101 (z lo hi : Int) : Ev cx 101 [.int .i64 z, .int .i64 lo, .int .i64 hi] [] (.bool (decide (lo ≤ z ∧ z ≤ hi))) [] := by
  by_cases h1 : lo ≤ z
  · have h2 : decide (z ≥ lo) = true := decide_eq_true h1
    refine has101.eev rfl rfl ?_
    unfold m101
    repeat' (first
      | (refine g_op ?_; first
        | refine ep_mov rfl ?_
        | refine ep_bin rfl rfl (by first | exact b_add (by omega) (by omega) | exact b_sub (by omega) (by omega) | exact b_and (by omega) (by omega) | exact b_or (by omega) (by omega) | exact b_shr (by omega) | exact b_shl (by omega) (by omega) | exact b_lss | exact b_leq | exact b_gtr | exact b_geq | exact b_eql | exact b_neq) ?_
        | refine ep_pickT rfl rfl ?_ | refine ep_pickF rfl rfl ?_ | refine ep_pickTH rfl (by assumption) rfl ?_ | refine ep_pickFH rfl (by assumption) rfl ?_)
      | (refine g_ops ?_; first | refine eo_none ?_ | refine eo_nil ?_ | refine eo_yes rfl ?_ | refine eo_no rfl ?_ | refine eo_und rfl ?_ | refine eo_yesH rfl (by assumption) ?_ | refine eo_noH rfl (by assumption) ?_)
      | (refine g_code ?_; first | refine ec_seq ?_ | refine ec_region ?_ | refine ec_ret ?_)
      | refine ek_seqN ?_ | refine ek_seqR ?_)
    refine sfin (.inr rfl) (by rfl) (by rfl) (by exact ⟨rfl, rfl, rfl⟩) (by rfl) (by rfl) (by exact congrArg V.bool (by simp [h1])) (by first | rfl | (simp; done) | (simp [ints, prs]; done))
  · have h2 : decide (z ≥ lo) = false := decide_eq_false h1
    refine has101.eev rfl rfl ?_
    unfold m101
    repeat' (first
      | (refine g_op ?_; first
        | refine ep_mov rfl ?_
        | refine ep_bin rfl rfl (by first | exact b_add (by omega) (by omega) | exact b_sub (by omega) (by omega) | exact b_and (by omega) (by omega) | exact b_or (by omega) (by omega) | exact b_shr (by omega) | exact b_shl (by omega) (by omega) | exact b_lss | exact b_leq | exact b_gtr | exact b_geq | exact b_eql | exact b_neq) ?_
        | refine ep_pickT rfl rfl ?_ | refine ep_pickF rfl rfl ?_ | refine ep_pickTH rfl (by assumption) rfl ?_ | refine ep_pickFH rfl (by assumption) rfl ?_)
      | (refine g_ops ?_; first | refine eo_none ?_ | refine eo_nil ?_ | refine eo_yes rfl ?_ | refine eo_no rfl ?_ | refine eo_und rfl ?_ | refine eo_yesH rfl (by assumption) ?_ | refine eo_noH rfl (by assumption) ?_)
      | (refine g_code ?_; first | refine ec_seq ?_ | refine ec_region ?_ | refine ec_ret ?_)
      | refine ek_seqN ?_ | refine ek_seqR ?_)
    refine sfin (.inr rfl) (by rfl) (by rfl) (by exact ⟨rfl, rfl, rfl⟩) (by rfl) (by rfl) (by exact congrArg V.bool (by simp [h1])) (by first | rfl | (simp; done) | (simp [ints, prs]; done))
-- spec.l01In
def m97 : MC := (.seq (.region [⟨(.mov (.k (.bool false))), (some 6), none⟩] false) (.seq (.region [⟨(.mov (.t 0)), (some 7), none⟩, ⟨(.mov (.t 1)), (some 8), none⟩, ⟨(.bin .geq (.t 7) (.t 8)), (some 9), none⟩, ⟨(.mov (.t 9)), (some 10), none⟩, ⟨(.mov (.t 0)), (some 11), (some (10, true))⟩, ⟨(.mov (.t 2)), (some 12), (some (10, true))⟩, ⟨(.bin .leq (.t 11) (.t 12)), (some 13), (some (10, true))⟩, ⟨(.pick (.t 10) (.t 13) (.k (.bool false))), (some 14), none⟩, ⟨(.mov (.t 14)), (some 6), none⟩] false) .ret))
theorem has97 : Has cx 97 15 m97 [(.tmp 6)] :=
  ⟨⟨Try.f97, Try.f97.body.getD .skip, by kernel_rfl, by kernel_rfl, by kernel_rfl, by kernel_rfl, by kernel_rfl, by kernel_rfl⟩⟩
theorem ev97 (z lo hi : Int) : Ev cx 97 [.int .i64 z, .int .i64 lo, .int .i64 hi] [] (.bool (decide (lo ≤ z ∧ z ≤ hi))) [] := by
  by_cases h1 : lo ≤ z
  · have h2 : decide (z ≥ lo) = true := decide_eq_true h1
    refine has97.eev rfl rfl ?_
    unfold m97
    repeat' (first
      | (refine g_op ?_; first
        | refine ep_mov rfl ?_
        | refine ep_bin rfl rfl (by first | exact b_add (by omega) (by omega) | exact b_sub (by omega) (by omega) | exact b_and (by omega) (by omega) | exact b_or (by omega) (by omega) | exact b_shr (by omega) | exact b_shl (by omega) (by omega) | exact b_lss | exact b_leq | exact b_gtr | exact b_geq | exact b_eql | exact b_neq) ?_
        | refine ep_pickT rfl rfl ?_ | refine ep_pickF rfl rfl ?_ | refine ep_pickTH rfl (by assumption) rfl ?_ | refine ep_pickFH rfl (by assumption) rfl ?_)
      | (refine g_ops ?_; first | refine eo_none ?_ | refine eo_nil ?_ | refine eo_yes rfl ?_ | refine eo_no rfl ?_ | refine eo_und rfl ?_ | refine eo_yesH rfl (by assumption) ?_ | refine eo_noH rfl (by assumption) ?_)
      | (refine g_code ?_; first | refine ec_seq ?_ | refine ec_region ?_ | refine ec_ret ?_)
      | refine ek_seqN ?_ | refine ek_seqR ?_)
    refine sfin (.inr rfl) (by rfl) (by rfl) (by exact ⟨rfl, rfl, rfl⟩) (by rfl) (by rfl) (by exact congrArg V.bool (by simp [h1])) (by first | rfl | (simp; done) | (simp [ints, prs]; done))
  · have h2 : decide (z ≥ lo) = false := decide_eq_false h1
    refine has97.eev rfl rfl ?_
    unfold m97
    repeat' (first
      | (refine g_op ?_; first
        | refine ep_mov rfl ?_
        | refine ep_bin rfl rfl (by first | exact b_add (by omega) (by omega) | exact b_sub (by omega) (by omega) | exact b_and (by omega) (by omega) | exact b_or (by omega) (by omega) | exact b_shr (by omega) | exact b_shl (by omega) (by omega) | exact b_lss | exact b_leq | exact b_gtr | exact b_geq | exact b_eql | exact b_neq) ?_
        | refine ep_pickT rfl rfl ?_ | refine ep_pickF rfl rfl ?_ | refine ep_pickTH rfl (by assumption) rfl ?_ | refine ep_pickFH rfl (by assumption) rfl ?_)
      | (refine g_ops ?_; first | refine eo_none ?_ | refine eo_nil ?_ | refine eo_yes rfl ?_ | refine eo_no rfl ?_ | refine eo_und rfl ?_ | refine eo_yesH rfl (by assumption) ?_ | refine eo_noH rfl (by assumption) ?_)
      | (refine g_code ?_; first | refine ec_seq ?_ | refine ec_region ?_ | refine ec_ret ?_)
      | refine ek_seqN ?_ | refine ek_seqR ?_)
    refine sfin (.inr rfl) (by rfl) (by rfl) (by exact ⟨rfl, rfl, rfl⟩) (by rfl) (by rfl) (by exact congrArg V.bool (by simp [h1])) (by first | rfl | (simp; done) | (simp [ints, prs]; done))
-- impl.rowsOf
def m136 : MC := (.seq (.region [⟨(.mov (.k (.int .i64 0))), (some 2), none⟩] false) (.seq (.region [⟨(.mov (.t 0)), (some 3), none⟩, ⟨(.bin .shl (.k (.int .i64 1)) (.t 3)), (some 4), none⟩, ⟨(.mov (.t 4)), (some 2), none⟩] false) .ret))
theorem has136 : Has cx 136 5 m136 [(.tmp 2)] :=
  ⟨⟨Try.f136, Try.f136.body.getD .skip, by kernel_rfl, by kernel_rfl, by kernel_rfl, by kernel_rfl, by kernel_rfl, by kernel_rfl⟩⟩
theorem ev136 (n : Nat) (h : n ≤ 4) : Ev cx 136 [.int .i64 n] [] (.int .i64 (R2 n : Nat)) [] := by
  obtain ⟨h1, h2, h3, h4⟩ := shN h
  refine has136.eev rfl rfl ?_
  unfold m136
  repeat' (first
    | (refine g_op ?_; first
      | refine ep_mov rfl ?_
      | refine ep_bin rfl rfl (by first | exact b_shl1 (by omega) (by omega) | exact b_add (by omega) (by omega) | exact b_sub (by omega) (by omega) | exact b_and (by omega) (by omega) | exact b_or (by omega) (by omega) | exact b_shr (by omega) | exact b_shl (by omega) (by omega) | exact b_lss | exact b_leq | exact b_gtr | exact b_geq | exact b_eql | exact b_neq) ?_)
    | (refine g_ops ?_; first | refine eo_none ?_ | refine eo_nil ?_)
    | (refine g_code ?_; first | refine ec_seq ?_ | refine ec_region ?_ | refine ec_ret ?_)
    | refine ek_seqN ?_ | refine ek_seqR ?_)
  refine sfin (.inr rfl) (by rfl) (by rfl) (by exact ⟨rfl, rfl, rfl⟩) (by rfl) (by rfl) (by rfl) (by first | rfl | (simp; done) | (simp [ints, prs]; done))
-- impl.funcsOf
def m102 : MC := (.seq (.region [⟨(.mov (.k (.int .i64 0))), (some 2), none⟩] false) (.seq (.region [⟨(.mov (.t 0)), (some 3), none⟩, ⟨(.call 136 [(.t 3)]), (some 4), none⟩, ⟨(.bin .shl (.k (.int .i64 1)) (.t 4)), (some 5), none⟩, ⟨(.mov (.t 5)), (some 2), none⟩] false) .ret))
theorem has102 : Has cx 102 6 m102 [(.tmp 2)] :=
  ⟨⟨Try.f102, Try.f102.body.getD .skip, by kernel_rfl, by kernel_rfl, by kernel_rfl, by kernel_rfl, by kernel_rfl, by kernel_rfl⟩⟩
theorem ev102 (n : Nat) (h : n ≤ 4) : Ev cx 102 [.int .i64 n] [] (.int .i64 (R2 (R2 n) : Nat)) [] := by
  obtain ⟨h1, h2, h3, h4⟩ := shN h
  refine has102.eev rfl rfl ?_
  unfold m102
  repeat' (first
    | (refine g_op ?_; first
      | refine ep_mov rfl ?_
      | refine ep_call0 rfl (by first | exact ev136 _ h) rfl rfl ?_
      | refine sp_call rfl rfl rfl rfl (by first | exact ev136 _ h) ⟨rfl, rfl, rfl, rfl⟩ rfl rfl rfl ?_
      | refine ep_bin rfl rfl (by first | exact b_shl1 (by omega) (by omega) | exact b_add (by omega) (by omega) | exact b_sub (by omega) (by omega) | exact b_and (by omega) (by omega) | exact b_or (by omega) (by omega) | exact b_shr (by omega) | exact b_shl (by omega) (by omega) | exact b_lss | exact b_leq | exact b_gtr | exact b_geq | exact b_eql | exact b_neq) ?_)
    | (refine g_ops ?_; first | refine eo_none ?_ | refine eo_nil ?_)
    | (refine g_code ?_; first | refine ec_seq ?_ | refine ec_region ?_ | refine ec_ret ?_)
    | refine ek_seqN ?_ | refine ek_seqR ?_)
  refine sfin (.inr rfl) (by rfl) (by rfl) (by exact ⟨rfl, rfl, rfl⟩) (by rfl) (by rfl) (by rfl) (by first | rfl | (simp; done) | (simp [ints, prs]; done))
-- spec.l01Rows
def m58 : MC := (.seq (.region [⟨(.mov (.k (.int .i64 0))), (some 2), none⟩] false) (.seq (.region [⟨(.mov (.t 0)), (some 3), none⟩, ⟨(.conv .u64 (.t 3)), (some 4), none⟩, ⟨(.bin .shl (.k (.int .i64 1)) (.t 4)), (some 5), none⟩, ⟨(.mov (.t 5)), (some 2), none⟩] false) .ret))
theorem has58 : Has cx 58 6 m58 [(.tmp 2)] :=
  ⟨⟨Try.f58, Try.f58.body.getD .skip, by kernel_rfl, by kernel_rfl, by kernel_rfl, by kernel_rfl, by kernel_rfl, by kernel_rfl⟩⟩
theorem ev58 (n : Nat) (h : n ≤ 4) : Ev cx 58 [.int .i64 n] [] (.int .i64 (R2 n : Nat)) [] := by
  obtain ⟨h1, h2, h3, h4⟩ := shN h
  refine has58.eev rfl rfl ?_
  unfold m58
  repeat' (first
    | (refine g_op ?_; first
      | refine ep_mov rfl ?_
      | refine ep_bin rfl rfl (by first | exact b_shl1 (by omega) (by omega) | exact b_add (by omega) (by omega) | exact b_sub (by omega) (by omega) | exact b_and (by omega) (by omega) | exact b_or (by omega) (by omega) | exact b_shr (by omega) | exact b_shl (by omega) (by omega) | exact b_lss | exact b_leq | exact b_gtr | exact b_geq | exact b_eql | exact b_neq) ?_
      | refine ep_conv rfl (by first | exact w_u64 (by omega) (by omega) | exact wrap_id (by omega) (by omega) | rfl) ?_)
    | (refine g_ops ?_; first | refine eo_none ?_ | refine eo_nil ?_)
    | (refine g_code ?_; first | refine ec_seq ?_ | refine ec_region ?_ | refine ec_ret ?_)
    | refine ek_seqN ?_ | refine ek_seqR ?_)
  refine sfin (.inr rfl) (by rfl) (by rfl) (by exact ⟨rfl, rfl, rfl⟩) (by rfl) (by rfl) (by rfl) (by first | rfl | (simp; done) | (simp [ints, prs]; done))
-- spec.l01All
def m98 : MC := (.seq (.region [⟨(.mov (.k (.int .i64 0))), (some 2), none⟩] false) (.seq (.region [⟨(.mov (.t 0)), (some 3), none⟩, ⟨(.call 58 [(.t 3)]), (some 4), none⟩, ⟨(.conv .u64 (.t 4)), (some 5), none⟩, ⟨(.bin .shl (.k (.int .i64 1)) (.t 5)), (some 6), none⟩, ⟨(.bin .sub (.t 6) (.k (.int .i64 1))), (some 7), none⟩, ⟨(.mov (.t 7)), (some 2), none⟩] false) .ret))
theorem has98 : Has cx 98 8 m98 [(.tmp 2)] :=
  ⟨⟨Try.f98, Try.f98.body.getD .skip, by kernel_rfl, by kernel_rfl, by kernel_rfl, by kernel_rfl, by kernel_rfl, by kernel_rfl⟩⟩
theorem ev98 (n : Nat) (h : n ≤ 4) : Ev cx 98 [.int .i64 n] [] (.int .i64 ((R2 (R2 n) : Nat) - 1)) [] := by
  obtain ⟨h1, h2, h3, h4⟩ := shN h
  refine has98.eev rfl rfl ?_
  unfold m98
  repeat' (first
    | (refine g_op ?_; first
      | refine ep_mov rfl ?_
      | refine ep_call0 rfl (by first | exact ev58 _ h) rfl rfl ?_
      | refine sp_call rfl rfl rfl rfl (by first | exact ev58 _ h) ⟨rfl, rfl, rfl, rfl⟩ rfl rfl rfl ?_
      | refine ep_bin rfl rfl (by first | exact b_shl1 (by omega) (by omega) | exact b_add (by omega) (by omega) | exact b_sub (by omega) (by omega) | exact b_and (by omega) (by omega) | exact b_or (by omega) (by omega) | exact b_shr (by omega) | exact b_shl (by omega) (by omega) | exact b_lss | exact b_leq | exact b_gtr | exact b_geq | exact b_eql | exact b_neq) ?_
      | refine ep_conv rfl (by first | exact w_u64 (by omega) (by omega) | exact wrap_id (by omega) (by omega) | rfl) ?_)
    | (refine g_ops ?_; first | refine eo_none ?_ | refine eo_nil ?_)
    | (refine g_code ?_; first | refine ec_seq ?_ | refine ec_region ?_ | refine ec_ret ?_)
    | refine ek_seqN ?_ | refine ek_seqR ?_)
  refine sfin (.inr rfl) (by rfl) (by rfl) (by exact ⟨rfl, rfl, rfl⟩) (by rfl) (by rfl) (by rfl) (by first | rfl | (simp; done) | (simp [ints, prs]; done))
-- impl.isArity
def m100 : MC := (.seq (.region [⟨(.mov (.k (.bool false))), (some 2), none⟩] false) (.seq (.region [⟨(.mov (.t 0)), (some 3), none⟩, ⟨(.call 101 [(.t 3), (.k (.int .i64 0)), (.k (.int .i64 4))]), (some 4), none⟩, ⟨(.mov (.t 4)), (some 2), none⟩] false) .ret))
theorem has100 : Has cx 100 5 m100 [(.tmp 2)] :=
  ⟨⟨Try.f100, Try.f100.body.getD .skip, by kernel_rfl, by kernel_rfl, by kernel_rfl, by kernel_rfl, by kernel_rfl, by kernel_rfl⟩⟩
theorem ev100 (z : Int) : Ev cx 100 [.int .i64 z] [] (.bool (decide (0 ≤ z ∧ z ≤ 4))) [] := by
  refine has100.eev rfl rfl ?_
  unfold m100
  repeat' (first
    | (refine g_op ?_; first
      | refine ep_mov rfl ?_
      | refine ep_call0 rfl (by first | exact ev101 _ _ _) rfl rfl ?_
      | refine sp_call rfl rfl rfl rfl (by first | exact ev101 _ _ _) ⟨rfl, rfl, rfl, rfl⟩ rfl rfl rfl ?_)
    | (refine g_ops ?_; first | refine eo_none ?_ | refine eo_nil ?_)
    | (refine g_code ?_; first | refine ec_seq ?_ | refine ec_region ?_ | refine ec_ret ?_)
    | refine ek_seqN ?_ | refine ek_seqR ?_)
  refine sfin (.inr rfl) (by rfl) (by rfl) (by exact ⟨rfl, rfl, rfl⟩) (by rfl) (by rfl) (by rfl) (by first | rfl | (simp; done) | (simp [ints, prs]; done))
structure RR where
  a : Int
  b : Int
  c : Int
abbrev rr (x : RR) : V := .tup [.agg [.int .i64 x.a, .int .i64 x.b], .int .i64 x.c]
theorem isRel_nat {p t : Int} (h : isRel p t = true) : ∃ n b : Nat, p = n ∧ t = b ∧ 1 ≤ n ∧ n ≤ 4 ∧ b < R2 (R2 n) ∧ b < 65536 := by
  simp only [isRel, Bool.and_eq_true, decide_eq_true_eq] at h
  obtain ⟨⟨h1, h2⟩, h3, h4⟩ := h
  obtain ⟨n, rfl⟩ := Int.eq_ofNat_of_zero_le (show 0 ≤ p by omega)
  obtain ⟨b, rfl⟩ := Int.eq_ofNat_of_zero_le h3
  simp only [Int.toNat_natCast] at h4
  obtain ⟨_, q, _⟩ := shN (n := n) (by omega)
  exact ⟨n, b, rfl, rfl, by omega, by omega, by omega, by omega⟩
theorem isFn_nat {p t : Int} (h : isFn p t = true) : ∃ n b : Nat, p = n ∧ t = b ∧ n ≤ 4 ∧ b < R2 (R2 n) ∧ b < 65536 := by
  simp only [isFn, Bool.and_eq_true, decide_eq_true_eq] at h
  obtain ⟨⟨h1, h2⟩, h3, h4⟩ := h
  obtain ⟨n, rfl⟩ := Int.eq_ofNat_of_zero_le (show 0 ≤ p by omega)
  obtain ⟨b, rfl⟩ := Int.eq_ofNat_of_zero_le h3
  simp only [Int.toNat_natCast] at h4
  obtain ⟨_, q, _⟩ := shN (n := n) (by omega)
  exact ⟨n, b, rfl, rfl, by omega, by omega, by omega⟩
def meetR (p t q s : Int) : RR := if isRel p t = true ∧ isRel q s = true then (if p = q then ⟨p, (t.toNat &&& s.toNat : Nat), 0⟩ else ⟨0, 0, 2⟩) else ⟨0, 0, 1⟩
def bt (b r : Nat) : Nat := (b >>> r) &&& 1
theorem bt_le (b r : Nat) : bt b r ≤ 1 := by unfold bt; exact Nat.and_le_right
theorem shr_lt {b r : Nat} (h : b < 9223372036854775808) : b >>> r < 9223372036854775808 := Nat.lt_of_le_of_lt (Nat.shiftRight_le b r) h
theorem b_bt {b r : Nat} (h : b < 9223372036854775808) : binV .and (.int .i64 (b >>> r : Nat)) (.int .i64 1) = some (.int .i64 (bt b r : Nat)) := b_and (y := 1) (shr_lt h) (by omega)
theorem R2_le {j n : Nat} (h : j < n) : 2 * R2 j ≤ R2 n := by
  unfold R2; rw [← Nat.pow_succ']; exact Nat.pow_le_pow_right (by omega) (by omega)
theorem or_lt {x y n : Nat} (hx : x < R2 n) (hy : y < R2 n) : x ||| y < R2 n := by unfold R2 at *; exact Nat.or_lt_two_pow hx hy
attribute [local irreducible] bt
-- impl.bit
def m137 : MC := (.seq (.region [⟨(.mov (.k (.int .i64 0))), (some 4), none⟩] false) (.seq (.region [⟨(.mov (.t 0)), (some 5), none⟩, ⟨(.mov (.t 1)), (some 6), none⟩, ⟨(.bin .shr (.t 5) (.t 6)), (some 7), none⟩, ⟨(.bin .and (.t 7) (.k (.int .i64 1))), (some 8), none⟩, ⟨(.mov (.t 8)), (some 4), none⟩] false) .ret))
theorem has137 : Has cx 137 9 m137 [(.tmp 4)] :=
  ⟨⟨Try.f137, Try.f137.body.getD .skip, by kernel_rfl, by kernel_rfl, by kernel_rfl, by kernel_rfl, by kernel_rfl, by kernel_rfl⟩⟩
theorem ev137 (b r : Nat) (hb : b < 9223372036854775808) (hr : r ≤ 64) : Ev cx 137 [.int .i64 b, .int .i64 r] [] (.int .i64 (bt b r : Nat)) [] := by
  refine has137.eev rfl rfl ?_
  unfold m137
  repeat' (first
    | (refine g_op ?_; first
      | refine ep_mov rfl ?_
      | refine ep_bin rfl rfl (by first | exact b_shr hr | exact b_bt hb | exact b_add (by omega) (by omega) | exact b_sub (by omega) (by omega) | exact b_and (by omega) (by omega) | exact b_or (by omega) (by omega) | exact b_shr (by omega) | exact b_shl (by omega) (by omega) | exact b_lss | exact b_leq | exact b_gtr | exact b_geq | exact b_eql | exact b_neq) ?_)
    | (refine g_ops ?_; first | refine eo_none ?_ | refine eo_nil ?_)
    | (refine g_code ?_; first | refine ec_seq ?_ | refine ec_region ?_ | refine ec_ret ?_)
    | refine ek_seqN ?_ | refine ek_seqR ?_)
  refine sfin (.inr rfl) (by rfl) (by rfl) (by exact ⟨rfl, rfl, rfl⟩) (by rfl) (by rfl) (by rfl) (by first | rfl | (simp; done) | (simp [ints, prs]; done))
-- (impl.Func).at
def m104 : MC := (.seq (.region [⟨(.box (.t 0)), (some 2), none⟩, ⟨(.mov (.k (.int .i64 0))), (some 4), none⟩] false) (.seq (.region [⟨(.fieldAddr 1 (.t 2)), (some 5), none⟩, ⟨(.load none (.t 5)), (some 6), none⟩, ⟨(.mov (.t 1)), (some 7), none⟩, ⟨(.call 137 [(.t 6), (.t 7)]), (some 8), none⟩, ⟨(.mov (.t 8)), (some 4), none⟩] false) .ret))
theorem has104 : Has cx 104 9 m104 [(.tmp 4)] :=
  ⟨⟨Try.f104, Try.f104.body.getD .skip, by kernel_rfl, by kernel_rfl, by kernel_rfl, by kernel_rfl, by kernel_rfl, by kernel_rfl⟩⟩
theorem ev104 (n : Int) (b r : Nat) (hb : b < 9223372036854775808) (hr : r ≤ 64) : Ev cx 104 [.agg [.int .i64 n, .int .i64 b], .int .i64 r] [] (.int .i64 (bt b r : Nat)) [] := by
  refine has104.eev rfl rfl ?_
  unfold m104
  repeat' (first
    | (refine g_op ?_; first
      | refine ep_mov rfl ?_ | refine ep_load1 rfl rfl rfl rfl ?_ | refine ep_fieldAddr rfl ?_
      | refine ep_call0 rfl (by first | exact ev137 _ _ hb hr) rfl rfl ?_
      | refine sp_call rfl rfl rfl rfl (by first | exact ev137 _ _ hb hr) ⟨rfl, rfl, rfl, rfl⟩ rfl rfl rfl ?_
      | refine sp_box rfl rfl rfl rfl rfl ?_)
    | (refine g_ops ?_; first | refine eo_none ?_ | refine eo_nil ?_)
    | (refine g_code ?_; first | refine ec_seq ?_ | refine ec_region ?_ | refine ec_ret ?_)
    | refine ek_seqN ?_ | refine ek_seqR ?_)
  refine sfin (.inr rfl) (by rfl) (by rfl) (by exact ⟨rfl, rfl, rfl⟩) (by rfl) (by rfl) (by rfl) (by first | rfl | (simp; done) | (simp [ints, prs]; done))
-- (impl.Func).rows
def m106 : MC := (.seq (.region [⟨(.box (.t 0)), (some 1), none⟩, ⟨(.mov (.k (.int .i64 0))), (some 2), none⟩] false) (.seq (.region [⟨(.fieldAddr 0 (.t 1)), (some 3), none⟩, ⟨(.load none (.t 3)), (some 4), none⟩, ⟨(.call 136 [(.t 4)]), (some 5), none⟩, ⟨(.mov (.t 5)), (some 2), none⟩] false) .ret))
theorem has106 : Has cx 106 6 m106 [(.tmp 2)] :=
  ⟨⟨Try.f106, Try.f106.body.getD .skip, by kernel_rfl, by kernel_rfl, by kernel_rfl, by kernel_rfl, by kernel_rfl, by kernel_rfl⟩⟩
theorem ev106 (n : Nat) (b : Int) (h : n ≤ 4) : Ev cx 106 [.agg [.int .i64 n, .int .i64 b]] [] (.int .i64 (R2 n : Nat)) [] := by
  refine has106.eev rfl rfl ?_
  unfold m106
  repeat' (first
    | (refine g_op ?_; first
      | refine ep_mov rfl ?_ | refine ep_load1 rfl rfl rfl rfl ?_ | refine ep_fieldAddr rfl ?_
      | refine ep_call0 rfl (by first | exact ev136 _ h) rfl rfl ?_
      | refine sp_call rfl rfl rfl rfl (by first | exact ev136 _ h) ⟨rfl, rfl, rfl, rfl⟩ rfl rfl rfl ?_
      | refine sp_box rfl rfl rfl rfl rfl ?_)
    | (refine g_ops ?_; first | refine eo_none ?_ | refine eo_nil ?_)
    | (refine g_code ?_; first | refine ec_seq ?_ | refine ec_region ?_ | refine ec_ret ?_)
    | refine ek_seqN ?_ | refine ek_seqR ?_)
  refine sfin (.inr rfl) (by rfl) (by rfl) (by exact ⟨rfl, rfl, rfl⟩) (by rfl) (by rfl) (by rfl) (by first | rfl | (simp; done) | (simp [ints, prs]; done))
def monoP (b r i : Nat) : Bool := decide (¬ (bt b r > bt b (r ||| R2 i)))
def monoB (n b : Nat) : Bool := allF (fun r => allF (monoP b r) 0 n) 0 (R2 n)
-- (impl.Func).isMonotone
def m63_1 : MC := (.seq (.region [⟨(.bin .lss (.t 12) (.t 11)), (some 13), none⟩] false) (.seq (.cond (.t 13) .skip (.exit 2)) (.seq (.block 3 (.seq (.region [⟨(.mov (.t 12)), (some 14), none⟩, ⟨(.mov (.t 14)), (some 4), none⟩] false) (.seq (.region [⟨(.load (some 2) (.t 1)), (some 15), none⟩, ⟨(.mov (.t 3)), (some 16), none⟩, ⟨(.call 104 [(.t 15), (.t 16)]), (some 17), none⟩, ⟨(.load (some 2) (.t 1)), (some 18), none⟩, ⟨(.mov (.t 3)), (some 19), none⟩, ⟨(.mov (.t 4)), (some 20), none⟩, ⟨(.bin .shl (.k (.int .i64 1)) (.t 20)), (some 21), none⟩, ⟨(.bin .or (.t 19) (.t 21)), (some 22), none⟩, ⟨(.call 104 [(.t 18), (.t 22)]), (some 23), none⟩, ⟨(.bin .gtr (.t 17) (.t 23)), (some 24), none⟩] true) (.cond (.t 24) (.seq (.region [⟨(.mov (.k (.bool false))), (some 2), none⟩] false) .ret) .skip)))) (.region [⟨(.bin .add (.t 12) (.k (.int .i64 1))), (some 25), none⟩, ⟨(.mov (.t 25)), (some 12), none⟩] false))))
def m63_0 : MC := (.seq (.region [⟨(.bin .lss (.t 7) (.t 6)), (some 8), none⟩] false) (.seq (.cond (.t 8) .skip (.exit 0)) (.seq (.block 1 (.seq (.region [⟨(.mov (.t 7)), (some 9), none⟩, ⟨(.mov (.t 9)), (some 3), none⟩] false) (.seq (.region [⟨(.fieldAddr 0 (.t 1)), (some 10), none⟩, ⟨(.load none (.t 10)), (some 11), none⟩, ⟨(.mov (.k (.int .i64 0))), (some 12), none⟩] false) (.block 2 (.loop m63_1))))) (.region [⟨(.bin .add (.t 7) (.k (.int .i64 1))), (some 26), none⟩, ⟨(.mov (.t 26)), (some 7), none⟩] false))))
def m63 : MC := (.seq (.region [⟨(.box (.t 0)), (some 1), none⟩, ⟨(.mov (.k (.bool false))), (some 2), none⟩] false) (.seq (.seq (.region [⟨(.load (some 2) (.t 1)), (some 5), none⟩, ⟨(.call 106 [(.t 5)]), (some 6), none⟩, ⟨(.mov (.k (.int .i64 0))), (some 7), none⟩] false) (.block 0 (.loop m63_0))) (.seq (.region [⟨(.mov (.k (.bool true))), (some 2), none⟩] false) .ret)))
theorem has63 : Has cx 63 27 m63 [(.tmp 2)] :=
  ⟨⟨Try.f63, Try.f63.body.getD .skip, by kernel_rfl, by kernel_rfl, by kernel_rfl, by kernel_rfl, by kernel_rfl, by kernel_rfl⟩⟩
theorem lp63_1 (n b r : Nat) (hn : n ≤ 4) (hb : b < 65536) (hr : r < R2 n) (o : Out)
    (ho : (if allF (monoP b r) 0 n = true then (⟨.exit 2, [(1, .ptr 0 0), (6, .int .i64 (R2 n : Nat)), (7, .int .i64 r)], [⟨[.int .i64 n, .int .i64 b], 1, 0, some 0, true⟩]⟩ : Out) else ⟨.ret, [(2, .bool false)], []⟩) = o) :
    LpS cx 27 0 m63_1 [(1, .ptr 0 0), (3, .int .i64 r), (6, .int .i64 (R2 n : Nat)), (7, .int .i64 r), (11, .int .i64 n), (12, .int .i64 (0 : Nat))] [⟨[.int .i64 n, .int .i64 b], 1, 0, some 0, true⟩] o.x o.e o.h := by
  obtain ⟨h1, h2, h3, h4⟩ := shN hn
  refine lp_all n (monoP b r) (fun j => [(1, .ptr 0 0), (3, .int .i64 r), (6, .int .i64 (R2 n : Nat)), (7, .int .i64 r), (11, .int .i64 n), (12, .int .i64 (j : Nat))]) (fun _ => [⟨[.int .i64 n, .int .i64 b], 1, 0, some 0, true⟩]) _ _ ?_ ?_ ?_ n 0 o (by omega) ho
  · intro j hj hp
    have h5 := R2_le hj
    have h6 := or_lt hr (show R2 j < R2 n by omega)
    have h7 : decide ((j : Int) < (n : Nat)) = true := decide_eq_true (by omega)
    have h8 : decide (((bt b r : Nat) : Int) > (bt b (r ||| R2 j) : Nat)) = false := by simp only [monoP, decide_eq_true_eq] at hp; exact decide_eq_false (by omega)
    unfold m63_1
    repeat' (first
      | (refine g_op ?_; first
        | refine ep_mov rfl ?_ | refine sp_loadN rfl rfl rfl rfl rfl ?_
        | refine ep_call0 rfl (by first | exact ev104 _ _ _ (by omega) (by omega)) rfl rfl ?_
        | refine sp_call rfl rfl rfl rfl (by first | exact ev104 _ _ _ (by omega) (by omega)) ⟨rfl, rfl, rfl, rfl⟩ rfl rfl rfl ?_
        | refine ep_bin rfl rfl (by first | exact b_shl1 (by omega) (by omega) | exact b_add (by omega) (by omega) | exact b_sub (by omega) (by omega) | exact b_and (by omega) (by omega) | exact b_or (by omega) (by omega) | exact b_shr (by omega) | exact b_shl (by omega) (by omega) | exact b_lss | exact b_leq | exact b_gtr | exact b_geq | exact b_eql | exact b_neq) ?_)
      | (refine g_ops ?_; first | refine eo_none ?_ | refine eo_nil ?_)
      | (refine g_dops ?_; first | refine ed_none ?_ | refine ed_nil ?_)
      | refine ed_same rfl ?_ | refine ed_one rfl rfl rfl rfl ?_ | refine ed_two rfl rfl rfl rfl rfl rfl rfl ?_ | refine ed_write rfl rfl ?_
      | (refine g_code ?_; first | refine ec_seq ?_ | refine ec_region ?_ | refine ec_draw ?_ | refine ec_block ?_ | refine ec_skip ?_ | refine ec_exit ?_ | refine ec_ret ?_ | refine ec_condT rfl ?_ | refine ec_condF rfl ?_ | refine ec_condTH rfl (by assumption) ?_ | refine ec_condFH rfl (by assumption) ?_)
      | refine ek_seqN ?_ | refine ek_seqX ?_ | refine ek_seqR ?_ | refine ek_blkN ?_ | refine ek_blkR ?_ | refine ek_blkX ?_ | refine ek_blkY rfl ?_)
    exact rnd_on (by rfl) (scmp (by rfl) (by rfl) (by exact ⟨rfl, rfl, rfl⟩) (by rfl) (by rfl) (by rfl))
  · intro j hj hp
    have h5 := R2_le hj
    have h6 := or_lt hr (show R2 j < R2 n by omega)
    have h7 : decide ((j : Int) < (n : Nat)) = true := decide_eq_true (by omega)
    have h8 : decide (((bt b r : Nat) : Int) > (bt b (r ||| R2 j) : Nat)) = true := by simp only [monoP, decide_eq_false_iff_not] at hp; exact decide_eq_true (by omega)
    unfold m63_1
    repeat' (first
      | (refine g_op ?_; first
        | refine ep_mov rfl ?_ | refine sp_loadN rfl rfl rfl rfl rfl ?_
        | refine ep_call0 rfl (by first | exact ev104 _ _ _ (by omega) (by omega)) rfl rfl ?_
        | refine sp_call rfl rfl rfl rfl (by first | exact ev104 _ _ _ (by omega) (by omega)) ⟨rfl, rfl, rfl, rfl⟩ rfl rfl rfl ?_
        | refine ep_bin rfl rfl (by first | exact b_shl1 (by omega) (by omega) | exact b_add (by omega) (by omega) | exact b_sub (by omega) (by omega) | exact b_and (by omega) (by omega) | exact b_or (by omega) (by omega) | exact b_shr (by omega) | exact b_shl (by omega) (by omega) | exact b_lss | exact b_leq | exact b_gtr | exact b_geq | exact b_eql | exact b_neq) ?_)
      | (refine g_ops ?_; first | refine eo_none ?_ | refine eo_nil ?_)
      | (refine g_dops ?_; first | refine ed_none ?_ | refine ed_nil ?_)
      | refine ed_same rfl ?_ | refine ed_one rfl rfl rfl rfl ?_ | refine ed_two rfl rfl rfl rfl rfl rfl rfl ?_ | refine ed_write rfl rfl ?_
      | (refine g_code ?_; first | refine ec_seq ?_ | refine ec_region ?_ | refine ec_draw ?_ | refine ec_block ?_ | refine ec_skip ?_ | refine ec_exit ?_ | refine ec_ret ?_ | refine ec_condT rfl ?_ | refine ec_condF rfl ?_ | refine ec_condTH rfl (by assumption) ?_ | refine ec_condFH rfl (by assumption) ?_)
      | refine ek_seqN ?_ | refine ek_seqX ?_ | refine ek_seqR ?_ | refine ek_blkN ?_ | refine ek_blkR ?_ | refine ek_blkX ?_ | refine ek_blkY rfl ?_)
    exact rnd_out (by rfl) (by simp) (scmp (by rfl) (by rfl) (by exact ⟨rfl, rfl, rfl⟩) (by rfl) (by rfl) (by rfl))
  · have h7 : decide ((n : Int) < (n : Nat)) = false := decide_eq_false (by omega)
    unfold m63_1
    repeat' (first
      | (refine g_op ?_; first
        | refine ep_mov rfl ?_ | refine sp_loadN rfl rfl rfl rfl rfl ?_
        | refine ep_bin rfl rfl (by first | exact b_add (by omega) (by omega) | exact b_sub (by omega) (by omega) | exact b_and (by omega) (by omega) | exact b_or (by omega) (by omega) | exact b_shr (by omega) | exact b_shl (by omega) (by omega) | exact b_lss | exact b_leq | exact b_gtr | exact b_geq | exact b_eql | exact b_neq) ?_)
      | (refine g_ops ?_; first | refine eo_none ?_ | refine eo_nil ?_)
      | (refine g_dops ?_; first | refine ed_none ?_ | refine ed_nil ?_)
      | refine ed_same rfl ?_ | refine ed_one rfl rfl rfl rfl ?_ | refine ed_two rfl rfl rfl rfl rfl rfl rfl ?_ | refine ed_write rfl rfl ?_
      | (refine g_code ?_; first | refine ec_seq ?_ | refine ec_region ?_ | refine ec_draw ?_ | refine ec_block ?_ | refine ec_skip ?_ | refine ec_exit ?_ | refine ec_ret ?_ | refine ec_condT rfl ?_ | refine ec_condF rfl ?_ | refine ec_condTH rfl (by assumption) ?_ | refine ec_condFH rfl (by assumption) ?_)
      | refine ek_seqN ?_ | refine ek_seqX ?_ | refine ek_seqR ?_ | refine ek_blkN ?_ | refine ek_blkR ?_ | refine ek_blkX ?_ | refine ek_blkY rfl ?_)
    exact rnd_out (by rfl) (by simp) (scmp (by rfl) (by rfl) (by exact ⟨rfl, rfl, rfl⟩) (by rfl) (by rfl) (by rfl))
theorem lp63_0 (n b : Nat) (hn : n ≤ 4) (hb : b < 65536) (o : Out) (ho : (if monoB n b = true then (⟨.exit 0, [], []⟩ : Out) else ⟨.ret, [(2, .bool false)], []⟩) = o) :
    LpS cx 27 0 m63_0 [(1, .ptr 0 0), (6, .int .i64 (R2 n : Nat)), (7, .int .i64 (0 : Nat))] [⟨[.int .i64 n, .int .i64 b], 1, 0, some 0, true⟩] o.x o.e o.h := by
  obtain ⟨h1, h2, h3, h4⟩ := shN hn
  refine lp_all (R2 n) (fun r => allF (monoP b r) 0 n) (fun r => [(1, .ptr 0 0), (6, .int .i64 (R2 n : Nat)), (7, .int .i64 (r : Nat))]) (fun _ => [⟨[.int .i64 n, .int .i64 b], 1, 0, some 0, true⟩]) _ _ ?_ ?_ ?_ (R2 n) 0 o (by omega) ho
  · intro r hr hp
    have h7 : decide ((r : Int) < (R2 n : Nat)) = true := decide_eq_true (by omega)
    have lp := lp63_1 n b r hn hb hr _ (if_pos hp)
    unfold m63_0
    repeat' (first
      | refine sc_loop lp rfl rfl ⟨rfl, rfl, rfl⟩ rfl rfl rfl ?_
      | (refine g_op ?_; first
        | refine ep_mov rfl ?_ | refine ep_load1 rfl rfl rfl rfl ?_ | refine ep_fieldAddr rfl ?_
        | refine ep_bin rfl rfl (by first | exact b_add (by omega) (by omega) | exact b_sub (by omega) (by omega) | exact b_and (by omega) (by omega) | exact b_or (by omega) (by omega) | exact b_shr (by omega) | exact b_shl (by omega) (by omega) | exact b_lss | exact b_leq | exact b_gtr | exact b_geq | exact b_eql | exact b_neq) ?_)
      | (refine g_ops ?_; first | refine eo_none ?_ | refine eo_nil ?_)
      | (refine g_code ?_; first | refine ec_seq ?_ | refine ec_region ?_ | refine ec_block ?_ | refine ec_skip ?_ | refine ec_exit ?_ | refine ec_condT rfl ?_ | refine ec_condF rfl ?_ | refine ec_condTH rfl (by assumption) ?_ | refine ec_condFH rfl (by assumption) ?_)
      | refine ek_seqN ?_ | refine ek_seqX ?_ | refine ek_seqR ?_ | refine ek_blkN ?_ | refine ek_blkR ?_ | refine ek_blkX ?_ | refine ek_blkY rfl ?_)
    exact rnd_on (by rfl) (scmp (by rfl) (by rfl) (by exact ⟨rfl, rfl, rfl⟩) (by rfl) (by rfl) (by rfl))
  · intro r hr hp
    have h7 : decide ((r : Int) < (R2 n : Nat)) = true := decide_eq_true (by omega)
    have lp := lp63_1 n b r hn hb hr _ (if_neg (by rw [hp]; simp))
    unfold m63_0
    repeat' (first
      | refine sc_loop lp rfl rfl ⟨rfl, rfl, rfl⟩ rfl rfl rfl ?_
      | (refine g_op ?_; first
        | refine ep_mov rfl ?_ | refine ep_load1 rfl rfl rfl rfl ?_ | refine ep_fieldAddr rfl ?_
        | refine ep_bin rfl rfl (by first | exact b_add (by omega) (by omega) | exact b_sub (by omega) (by omega) | exact b_and (by omega) (by omega) | exact b_or (by omega) (by omega) | exact b_shr (by omega) | exact b_shl (by omega) (by omega) | exact b_lss | exact b_leq | exact b_gtr | exact b_geq | exact b_eql | exact b_neq) ?_)
      | (refine g_ops ?_; first | refine eo_none ?_ | refine eo_nil ?_)
      | (refine g_code ?_; first | refine ec_seq ?_ | refine ec_region ?_ | refine ec_block ?_ | refine ec_skip ?_ | refine ec_exit ?_ | refine ec_condT rfl ?_ | refine ec_condF rfl ?_ | refine ec_condTH rfl (by assumption) ?_ | refine ec_condFH rfl (by assumption) ?_)
      | refine ek_seqN ?_ | refine ek_seqX ?_ | refine ek_seqR ?_ | refine ek_blkN ?_ | refine ek_blkR ?_ | refine ek_blkX ?_ | refine ek_blkY rfl ?_)
    exact rnd_out (by rfl) (by simp) (scmp (by rfl) (by rfl) (by exact ⟨rfl, rfl, rfl⟩) (by rfl) (by rfl) (by rfl))
  · have h7 : decide (((R2 n : Nat) : Int) < (R2 n : Nat)) = false := decide_eq_false (by omega)
    unfold m63_0
    repeat' (first
      | (refine g_op ?_; first
        | refine ep_mov rfl ?_ | refine ep_load1 rfl rfl rfl rfl ?_ | refine ep_fieldAddr rfl ?_
        | refine ep_bin rfl rfl (by first | exact b_add (by omega) (by omega) | exact b_sub (by omega) (by omega) | exact b_and (by omega) (by omega) | exact b_or (by omega) (by omega) | exact b_shr (by omega) | exact b_shl (by omega) (by omega) | exact b_lss | exact b_leq | exact b_gtr | exact b_geq | exact b_eql | exact b_neq) ?_)
      | (refine g_ops ?_; first | refine eo_none ?_ | refine eo_nil ?_)
      | (refine g_code ?_; first | refine ec_seq ?_ | refine ec_region ?_ | refine ec_block ?_ | refine ec_skip ?_ | refine ec_exit ?_ | refine ec_condT rfl ?_ | refine ec_condF rfl ?_ | refine ec_condTH rfl (by assumption) ?_ | refine ec_condFH rfl (by assumption) ?_)
      | refine ek_seqN ?_ | refine ek_seqX ?_ | refine ek_seqR ?_ | refine ek_blkN ?_ | refine ek_blkR ?_ | refine ek_blkX ?_ | refine ek_blkY rfl ?_)
    exact rnd_out (by rfl) (by simp) (scmp (by rfl) (by rfl) (by exact ⟨rfl, rfl, rfl⟩) (by rfl) (by rfl) (by rfl))
theorem ev63 (n b : Nat) (hn : n ≤ 4) (hb : b < 65536) : Ev cx 63 [.agg [.int .i64 n, .int .i64 b]] [] (.bool (monoB n b)) [] := by
  cases h : monoB n b
  · have lp := lp63_0 n b hn hb _ (if_neg (by rw [h]; simp))
    refine has63.eev rfl rfl ?_
    unfold m63
    repeat' (first
      | refine sc_loop lp rfl rfl ⟨rfl, rfl, rfl⟩ rfl rfl rfl ?_
      | (refine g_op ?_; first
        | refine ep_mov rfl ?_ | refine sp_loadN rfl rfl rfl rfl rfl ?_
        | refine ep_call0 rfl (by first | exact ev106 _ _ hn) rfl rfl ?_
        | refine sp_call rfl rfl rfl rfl (by first | exact ev106 _ _ hn) ⟨rfl, rfl, rfl, rfl⟩ rfl rfl rfl ?_
        | refine sp_box rfl rfl rfl rfl rfl ?_)
      | (refine g_ops ?_; first | refine eo_none ?_ | refine eo_nil ?_)
      | (refine g_code ?_; first | refine ec_seq ?_ | refine ec_region ?_ | refine ec_block ?_ | refine ec_ret ?_)
      | refine ek_seqN ?_ | refine ek_seqX ?_ | refine ek_seqR ?_ | refine ek_blkN ?_ | refine ek_blkR ?_ | refine ek_blkX ?_ | refine ek_blkY rfl ?_)
    refine sfin (.inr rfl) (by rfl) (by rfl) (by exact ⟨rfl, rfl, rfl⟩) (by rfl) (by rfl) (by rfl) (by first | rfl | (simp; done) | (simp [ints, prs]; done))
  · have lp := lp63_0 n b hn hb _ (if_pos h)
    refine has63.eev rfl rfl ?_
    unfold m63
    repeat' (first
      | refine sc_loop lp rfl rfl ⟨rfl, rfl, rfl⟩ rfl rfl rfl ?_
      | (refine g_op ?_; first
        | refine ep_mov rfl ?_ | refine sp_loadN rfl rfl rfl rfl rfl ?_
        | refine ep_call0 rfl (by first | exact ev106 _ _ hn) rfl rfl ?_
        | refine sp_call rfl rfl rfl rfl (by first | exact ev106 _ _ hn) ⟨rfl, rfl, rfl, rfl⟩ rfl rfl rfl ?_
        | refine sp_box rfl rfl rfl rfl rfl ?_)
      | (refine g_ops ?_; first | refine eo_none ?_ | refine eo_nil ?_)
      | (refine g_code ?_; first | refine ec_seq ?_ | refine ec_region ?_ | refine ec_block ?_ | refine ec_ret ?_)
      | refine ek_seqN ?_ | refine ek_seqX ?_ | refine ek_seqR ?_ | refine ek_blkN ?_ | refine ek_blkR ?_ | refine ek_blkX ?_ | refine ek_blkY rfl ?_)
    refine sfin (.inr rfl) (by rfl) (by rfl) (by exact ⟨rfl, rfl, rfl⟩) (by rfl) (by rfl) (by rfl) (by first | rfl | (simp; done) | (simp [ints, prs]; done))
-- impl.IsFunc
def m55 : MC := (.seq (.region [⟨(.box (.t 0)), (some 1), none⟩, ⟨(.mov (.k (.bool false))), (some 2), none⟩] false) (.seq (.region [⟨(.fieldAddr 0 (.t 1)), (some 3), none⟩, ⟨(.load none (.t 3)), (some 4), none⟩, ⟨(.call 100 [(.t 4)]), (some 5), none⟩, ⟨(.mov (.t 5)), (some 6), none⟩, ⟨(.fieldAddr 1 (.t 1)), (some 7), (some (6, true))⟩, ⟨(.load none (.t 7)), (some 8), (some (6, true))⟩, ⟨(.fieldAddr 0 (.t 1)), (some 9), (some (6, true))⟩, ⟨(.load none (.t 9)), (some 10), (some (6, true))⟩, ⟨(.call 102 [(.t 10)]), (some 11), (some (6, true))⟩, ⟨(.bin .sub (.t 11) (.k (.int .i64 1))), (some 12), (some (6, true))⟩, ⟨(.call 101 [(.t 8), (.k (.int .i64 0)), (.t 12)]), (some 13), (some (6, true))⟩, ⟨(.pick (.t 6) (.t 13) (.k (.bool false))), (some 14), none⟩, ⟨(.mov (.t 14)), (some 2), none⟩] true) .ret))
theorem has55 : Has cx 55 15 m55 [(.tmp 2)] :=
  ⟨⟨Try.f55, Try.f55.body.getD .skip, by kernel_rfl, by kernel_rfl, by kernel_rfl, by kernel_rfl, by kernel_rfl, by kernel_rfl⟩⟩
theorem ev55 (p t : Int) : Ev cx 55 [.agg [.int .i64 p, .int .i64 t]] [] (.bool (isFn p t)) [] := by
  by_cases h1 : 0 ≤ p ∧ p ≤ 4
  · have h2 : decide (0 ≤ p ∧ p ≤ 4) = true := decide_eq_true h1
    obtain ⟨n, rfl⟩ := Int.eq_ofNat_of_zero_le (show 0 ≤ p by omega)
    have h3 : n ≤ 4 := by omega
    obtain ⟨h4, h5, h6, h7⟩ := shN h3
    refine has55.eev rfl rfl ?_
    unfold m55
    repeat' (first
      | (refine g_op ?_; first
        | refine ep_mov rfl ?_ | refine ep_load1 rfl rfl rfl rfl ?_ | refine ep_fieldAddr rfl ?_
        | refine ep_call0 rfl (by first | exact ev100 _ | exact ev101 _ _ _ | exact ev102 _ h3) rfl rfl ?_
        | refine sp_call rfl rfl rfl rfl (by first | exact ev100 _ | exact ev101 _ _ _ | exact ev102 _ h3) ⟨rfl, rfl, rfl, rfl⟩ rfl rfl rfl ?_
        | refine ep_bin rfl rfl (by first | exact b_add (by omega) (by omega) | exact b_sub (by omega) (by omega) | exact b_and (by omega) (by omega) | exact b_or (by omega) (by omega) | exact b_shr (by omega) | exact b_shl (by omega) (by omega) | exact b_lss | exact b_leq | exact b_gtr | exact b_geq | exact b_eql | exact b_neq) ?_
        | refine ep_pickT rfl rfl ?_ | refine ep_pickF rfl rfl ?_ | refine ep_pickTH rfl (by assumption) rfl ?_ | refine ep_pickFH rfl (by assumption) rfl ?_ | refine sp_box rfl rfl rfl rfl rfl ?_)
      | (refine g_ops ?_; first | refine eo_none ?_ | refine eo_nil ?_ | refine eo_yes rfl ?_ | refine eo_no rfl ?_ | refine eo_und rfl ?_ | refine eo_yesH rfl (by assumption) ?_ | refine eo_noH rfl (by assumption) ?_)
      | (refine g_dops ?_; first | refine ed_none ?_ | refine ed_nil ?_ | refine ed_yes rfl ?_ | refine ed_no rfl ?_ | refine ed_und rfl ?_ | refine ed_yesH rfl (by assumption) ?_ | refine ed_noH rfl (by assumption) ?_)
      | refine ed_same rfl ?_ | refine ed_one rfl rfl rfl rfl ?_ | refine ed_two rfl rfl rfl rfl rfl rfl rfl ?_ | refine ed_write rfl rfl ?_
      | (refine g_code ?_; first | refine ec_seq ?_ | refine ec_region ?_ | refine ec_draw ?_ | refine ec_ret ?_)
      | refine ek_seqN ?_ | refine ek_seqR ?_)
    refine sfin (.inr rfl) (by rfl) (by rfl) (by exact ⟨rfl, rfl, rfl⟩) (by rfl) (by rfl) (by exact congrArg V.bool (by simp [isFn, h1])) (by first | rfl | (simp; done) | (simp [ints, prs]; done))
  · have h2 : decide (0 ≤ p ∧ p ≤ 4) = false := decide_eq_false h1
    refine has55.eev rfl rfl ?_
    unfold m55
    repeat' (first
      | (refine g_op ?_; first
        | refine ep_mov rfl ?_ | refine ep_load1 rfl rfl rfl rfl ?_ | refine ep_fieldAddr rfl ?_
        | refine ep_call0 rfl (by first | exact ev100 _ | exact ev101 _ _ _) rfl rfl ?_
        | refine sp_call rfl rfl rfl rfl (by first | exact ev100 _ | exact ev101 _ _ _) ⟨rfl, rfl, rfl, rfl⟩ rfl rfl rfl ?_
        | refine ep_bin rfl rfl (by first | exact b_add (by omega) (by omega) | exact b_sub (by omega) (by omega) | exact b_and (by omega) (by omega) | exact b_or (by omega) (by omega) | exact b_shr (by omega) | exact b_shl (by omega) (by omega) | exact b_lss | exact b_leq | exact b_gtr | exact b_geq | exact b_eql | exact b_neq) ?_
        | refine ep_pickT rfl rfl ?_ | refine ep_pickF rfl rfl ?_ | refine ep_pickTH rfl (by assumption) rfl ?_ | refine ep_pickFH rfl (by assumption) rfl ?_ | refine sp_box rfl rfl rfl rfl rfl ?_)
      | (refine g_ops ?_; first | refine eo_none ?_ | refine eo_nil ?_ | refine eo_yes rfl ?_ | refine eo_no rfl ?_ | refine eo_und rfl ?_ | refine eo_yesH rfl (by assumption) ?_ | refine eo_noH rfl (by assumption) ?_)
      | (refine g_dops ?_; first | refine ed_none ?_ | refine ed_nil ?_ | refine ed_yes rfl ?_ | refine ed_no rfl ?_ | refine ed_und rfl ?_ | refine ed_yesH rfl (by assumption) ?_ | refine ed_noH rfl (by assumption) ?_)
      | refine ed_same rfl ?_ | refine ed_one rfl rfl rfl rfl ?_ | refine ed_two rfl rfl rfl rfl rfl rfl rfl ?_ | refine ed_write rfl rfl ?_
      | (refine g_code ?_; first | refine ec_seq ?_ | refine ec_region ?_ | refine ec_draw ?_ | refine ec_ret ?_)
      | refine ek_seqN ?_ | refine ek_seqR ?_)
    refine sfin (.inr rfl) (by rfl) (by rfl) (by exact ⟨rfl, rfl, rfl⟩) (by rfl) (by rfl) (by exact congrArg V.bool (by simp [isFn, h1])) (by first | rfl | (simp; done) | (simp [ints, prs]; done))
-- spec.l01Is
def m53 : MC := (.seq (.region [⟨(.box (.t 0)), (some 1), none⟩, ⟨(.mov (.k (.bool false))), (some 2), none⟩] false) (.seq (.region [⟨(.fieldAddr 0 (.t 1)), (some 3), none⟩, ⟨(.load none (.t 3)), (some 4), none⟩, ⟨(.call 97 [(.t 4), (.k (.int .i64 0)), (.k (.int .i64 4))]), (some 5), none⟩, ⟨(.mov (.t 5)), (some 6), none⟩, ⟨(.fieldAddr 1 (.t 1)), (some 7), (some (6, true))⟩, ⟨(.load none (.t 7)), (some 8), (some (6, true))⟩, ⟨(.fieldAddr 0 (.t 1)), (some 9), (some (6, true))⟩, ⟨(.load none (.t 9)), (some 10), (some (6, true))⟩, ⟨(.call 98 [(.t 10)]), (some 11), (some (6, true))⟩, ⟨(.call 97 [(.t 8), (.k (.int .i64 0)), (.t 11)]), (some 12), (some (6, true))⟩, ⟨(.pick (.t 6) (.t 12) (.k (.bool false))), (some 13), none⟩, ⟨(.mov (.t 13)), (some 2), none⟩] true) .ret))
theorem has53 : Has cx 53 14 m53 [(.tmp 2)] :=
  ⟨⟨Try.f53, Try.f53.body.getD .skip, by kernel_rfl, by kernel_rfl, by kernel_rfl, by kernel_rfl, by kernel_rfl, by kernel_rfl⟩⟩
theorem ev53 (p t : Int) : Ev cx 53 [.agg [.int .i64 p, .int .i64 t]] [] (.bool (isFn p t)) [] := by
  by_cases h1 : 0 ≤ p ∧ p ≤ 4
  · have h2 : decide (0 ≤ p ∧ p ≤ 4) = true := decide_eq_true h1
    obtain ⟨n, rfl⟩ := Int.eq_ofNat_of_zero_le (show 0 ≤ p by omega)
    have h3 : n ≤ 4 := by omega
    obtain ⟨h4, h5, h6, h7⟩ := shN h3
    refine has53.eev rfl rfl ?_
    unfold m53
    repeat' (first
      | (refine g_op ?_; first
        | refine ep_mov rfl ?_ | refine ep_load1 rfl rfl rfl rfl ?_ | refine ep_fieldAddr rfl ?_
        | refine ep_call0 rfl (by first | exact ev97 _ _ _ | exact ev98 _ h3) rfl rfl ?_
        | refine sp_call rfl rfl rfl rfl (by first | exact ev97 _ _ _ | exact ev98 _ h3) ⟨rfl, rfl, rfl, rfl⟩ rfl rfl rfl ?_
        | refine ep_pickT rfl rfl ?_ | refine ep_pickF rfl rfl ?_ | refine ep_pickTH rfl (by assumption) rfl ?_ | refine ep_pickFH rfl (by assumption) rfl ?_ | refine sp_box rfl rfl rfl rfl rfl ?_)
      | (refine g_ops ?_; first | refine eo_none ?_ | refine eo_nil ?_ | refine eo_yes rfl ?_ | refine eo_no rfl ?_ | refine eo_und rfl ?_ | refine eo_yesH rfl (by assumption) ?_ | refine eo_noH rfl (by assumption) ?_)
      | (refine g_dops ?_; first | refine ed_none ?_ | refine ed_nil ?_ | refine ed_yes rfl ?_ | refine ed_no rfl ?_ | refine ed_und rfl ?_ | refine ed_yesH rfl (by assumption) ?_ | refine ed_noH rfl (by assumption) ?_)
      | refine ed_same rfl ?_ | refine ed_one rfl rfl rfl rfl ?_ | refine ed_two rfl rfl rfl rfl rfl rfl rfl ?_ | refine ed_write rfl rfl ?_
      | (refine g_code ?_; first | refine ec_seq ?_ | refine ec_region ?_ | refine ec_draw ?_ | refine ec_ret ?_)
      | refine ek_seqN ?_ | refine ek_seqR ?_)
    refine sfin (.inr rfl) (by rfl) (by rfl) (by exact ⟨rfl, rfl, rfl⟩) (by rfl) (by rfl) (by exact congrArg V.bool (by simp [isFn, h1])) (by first | rfl | (simp; done) | (simp [ints, prs]; done))
  · have h2 : decide (0 ≤ p ∧ p ≤ 4) = false := decide_eq_false h1
    refine has53.eev rfl rfl ?_
    unfold m53
    repeat' (first
      | (refine g_op ?_; first
        | refine ep_mov rfl ?_ | refine ep_load1 rfl rfl rfl rfl ?_ | refine ep_fieldAddr rfl ?_
        | refine ep_call0 rfl (by first | exact ev97 _ _ _) rfl rfl ?_
        | refine sp_call rfl rfl rfl rfl (by first | exact ev97 _ _ _) ⟨rfl, rfl, rfl, rfl⟩ rfl rfl rfl ?_
        | refine ep_pickT rfl rfl ?_ | refine ep_pickF rfl rfl ?_ | refine ep_pickTH rfl (by assumption) rfl ?_ | refine ep_pickFH rfl (by assumption) rfl ?_ | refine sp_box rfl rfl rfl rfl rfl ?_)
      | (refine g_ops ?_; first | refine eo_none ?_ | refine eo_nil ?_ | refine eo_yes rfl ?_ | refine eo_no rfl ?_ | refine eo_und rfl ?_ | refine eo_yesH rfl (by assumption) ?_ | refine eo_noH rfl (by assumption) ?_)
      | (refine g_dops ?_; first | refine ed_none ?_ | refine ed_nil ?_ | refine ed_yes rfl ?_ | refine ed_no rfl ?_ | refine ed_und rfl ?_ | refine ed_yesH rfl (by assumption) ?_ | refine ed_noH rfl (by assumption) ?_)
      | refine ed_same rfl ?_ | refine ed_one rfl rfl rfl rfl ?_ | refine ed_two rfl rfl rfl rfl rfl rfl rfl ?_ | refine ed_write rfl rfl ?_
      | (refine g_code ?_; first | refine ec_seq ?_ | refine ec_region ?_ | refine ec_draw ?_ | refine ec_ret ?_)
      | refine ek_seqN ?_ | refine ek_seqR ?_)
    refine sfin (.inr rfl) (by rfl) (by rfl) (by exact ⟨rfl, rfl, rfl⟩) (by rfl) (by rfl) (by exact congrArg V.bool (by simp [isFn, h1])) (by first | rfl | (simp; done) | (simp [ints, prs]; done))
-- laws.toFunc
def m17 : MC := (.seq (.region [⟨(.box (.t 0)), (some 1), none⟩, ⟨(.alloc [(.int .i64 0), (.int .i64 0)]), (some 2), none⟩] false) (.seq (.region [⟨(.alloc [(.int .i64 0), (.int .i64 0)]), (some 3), none⟩] false) (.seq (.region [⟨(.fieldAddr 0 (.t 1)), (some 4), none⟩, ⟨(.load none (.t 4)), (some 5), none⟩, ⟨(.fieldAddr 0 (.t 3)), (some 6), none⟩, ⟨(.store 1 (.t 6) (.t 5)), none, none⟩] false) (.seq (.region [⟨(.fieldAddr 1 (.t 1)), (some 7), none⟩, ⟨(.load none (.t 7)), (some 8), none⟩, ⟨(.fieldAddr 1 (.t 3)), (some 9), none⟩, ⟨(.store 1 (.t 9) (.t 8)), none, none⟩] false) (.seq (.region [⟨(.load (some 2) (.t 3)), (some 10), none⟩, ⟨(.store 2 (.t 2) (.t 10)), none, none⟩] false) .ret)))))
theorem has17 : Has cx 17 11 m17 [(.cell 2 (some 2))] :=
  ⟨⟨Try.f17, Try.f17.body.getD .skip, by kernel_rfl, by kernel_rfl, by kernel_rfl, by kernel_rfl, by kernel_rfl, by kernel_rfl⟩⟩
theorem ev17 (a b : Int) : Ev cx 17 [.agg [.int .i64 a, .int .i64 b]] [] (.agg [.int .i64 a, .int .i64 b]) [] := by
  refine has17.eev rfl rfl ?_
  unfold m17
  repeat' (first
    | (refine g_op ?_; first
      | refine ep_load1 rfl rfl rfl rfl ?_ | refine ep_fieldAddr rfl ?_ | refine sp_loadN rfl rfl rfl rfl rfl ?_
      | refine sp_store rfl rfl rfl rfl rfl rfl rfl rfl rfl rfl ?_ | refine sp_box rfl rfl rfl rfl rfl ?_ | refine sp_alloc rfl rfl ?_)
    | (refine g_ops ?_; first | refine eo_none ?_ | refine eo_nil ?_)
    | (refine g_code ?_; first | refine ec_seq ?_ | refine ec_region ?_ | refine ec_ret ?_)
    | refine ek_seqN ?_ | refine ek_seqR ?_)
  refine sfin (.inr rfl) (by rfl) (by rfl) (by exact ⟨rfl, rfl, rfl⟩) (by rfl) (by rfl) (by rfl) (by first | rfl | (simp; done) | (simp [ints, prs]; done))
-- spec.l01At
def m57 : MC := (.seq (.region [⟨(.box (.t 0)), (some 2), none⟩, ⟨(.mov (.k (.int .i64 0))), (some 4), none⟩] false) (.seq (.region [⟨(.fieldAddr 1 (.t 2)), (some 5), none⟩, ⟨(.load none (.t 5)), (some 6), none⟩, ⟨(.mov (.t 1)), (some 7), none⟩, ⟨(.conv .u64 (.t 7)), (some 8), none⟩, ⟨(.bin .shr (.t 6) (.t 8)), (some 9), none⟩, ⟨(.bin .and (.t 9) (.k (.int .i64 1))), (some 10), none⟩, ⟨(.mov (.t 10)), (some 4), none⟩] false) .ret))
theorem has57 : Has cx 57 11 m57 [(.tmp 4)] :=
  ⟨⟨Try.f57, Try.f57.body.getD .skip, by kernel_rfl, by kernel_rfl, by kernel_rfl, by kernel_rfl, by kernel_rfl, by kernel_rfl⟩⟩
theorem ev57 (n : Int) (b r : Nat) (hb : b < 9223372036854775808) (hr : r ≤ 64) : Ev cx 57 [.agg [.int .i64 n, .int .i64 b], .int .i64 r] [] (.int .i64 (bt b r : Nat)) [] := by
  refine has57.eev rfl rfl ?_
  unfold m57
  repeat' (first
    | (refine g_op ?_; first
      | refine ep_mov rfl ?_ | refine ep_load1 rfl rfl rfl rfl ?_ | refine ep_fieldAddr rfl ?_
      | refine ep_bin rfl rfl (by first | exact b_shr hr | exact b_bt hb | exact b_add (by omega) (by omega) | exact b_sub (by omega) (by omega) | exact b_and (by omega) (by omega) | exact b_or (by omega) (by omega) | exact b_shr (by omega) | exact b_shl (by omega) (by omega) | exact b_lss | exact b_leq | exact b_gtr | exact b_geq | exact b_eql | exact b_neq) ?_
      | refine ep_conv rfl (by first | exact w_u64 (by omega) (by omega) | exact wrap_id (by omega) (by omega) | rfl) ?_ | refine sp_box rfl rfl rfl rfl rfl ?_)
    | (refine g_ops ?_; first | refine eo_none ?_ | refine eo_nil ?_)
    | (refine g_code ?_; first | refine ec_seq ?_ | refine ec_region ?_ | refine ec_ret ?_)
    | refine ek_seqN ?_ | refine ek_seqR ?_)
  refine sfin (.inr rfl) (by rfl) (by rfl) (by exact ⟨rfl, rfl, rfl⟩) (by rfl) (by rfl) (by rfl) (by first | rfl | (simp; done) | (simp [ints, prs]; done))
-- spec.l07Monotone
def m61_1 : MC := (.seq (.seq (.region [⟨(.mov (.t 4)), (some 12), none⟩, ⟨(.fieldAddr 0 (.t 1)), (some 13), none⟩, ⟨(.load none (.t 13)), (some 14), none⟩, ⟨(.bin .lss (.t 12) (.t 14)), (some 15), none⟩] false) (.cond (.t 15) .skip (.exit 2))) (.seq (.block 3 (.seq (.region [⟨(.load (some 2) (.t 1)), (some 18), none⟩, ⟨(.mov (.t 3)), (some 19), none⟩, ⟨(.call 57 [(.t 18), (.t 19)]), (some 20), none⟩, ⟨(.bin .eql (.t 20) (.k (.int .i64 1))), (some 21), none⟩, ⟨(.mov (.t 21)), (some 22), none⟩, ⟨(.load (some 2) (.t 1)), (some 23), (some (22, true))⟩, ⟨(.mov (.t 3)), (some 24), (some (22, true))⟩, ⟨(.mov (.t 4)), (some 25), (some (22, true))⟩, ⟨(.conv .u64 (.t 25)), (some 26), (some (22, true))⟩, ⟨(.bin .shl (.k (.int .i64 1)) (.t 26)), (some 27), (some (22, true))⟩, ⟨(.bin .or (.t 24) (.t 27)), (some 28), (some (22, true))⟩, ⟨(.call 57 [(.t 23), (.t 28)]), (some 29), (some (22, true))⟩, ⟨(.bin .eql (.t 29) (.k (.int .i64 0))), (some 30), (some (22, true))⟩, ⟨(.pick (.t 22) (.t 30) (.k (.bool false))), (some 31), none⟩] false) (.cond (.t 31) (.seq (.region [⟨(.mov (.k (.bool false))), (some 2), none⟩] false) .ret) .skip))) (.region [⟨(.mov (.t 4)), (some 16), none⟩, ⟨(.bin .add (.t 16) (.k (.int .i64 1))), (some 17), none⟩, ⟨(.mov (.t 17)), (some 4), none⟩] false)))
def m61_0 : MC := (.seq (.seq (.region [⟨(.mov (.t 3)), (some 5), none⟩, ⟨(.fieldAddr 0 (.t 1)), (some 6), none⟩, ⟨(.load none (.t 6)), (some 7), none⟩, ⟨(.call 58 [(.t 7)]), (some 8), none⟩, ⟨(.bin .lss (.t 5) (.t 8)), (some 9), none⟩] false) (.cond (.t 9) .skip (.exit 0))) (.seq (.block 1 (.seq (.region [⟨(.mov (.k (.int .i64 0))), (some 4), none⟩] false) (.block 2 (.loop m61_1)))) (.region [⟨(.mov (.t 3)), (some 10), none⟩, ⟨(.bin .add (.t 10) (.k (.int .i64 1))), (some 11), none⟩, ⟨(.mov (.t 11)), (some 3), none⟩] false)))
def m61 : MC := (.seq (.region [⟨(.box (.t 0)), (some 1), none⟩, ⟨(.mov (.k (.bool false))), (some 2), none⟩] false) (.seq (.seq (.region [⟨(.mov (.k (.int .i64 0))), (some 3), none⟩] false) (.block 0 (.loop m61_0))) (.seq (.region [⟨(.mov (.k (.bool true))), (some 2), none⟩] false) .ret)))
theorem has61 : Has cx 61 32 m61 [(.tmp 2)] :=
  ⟨⟨Try.f61, Try.f61.body.getD .skip, by kernel_rfl, by kernel_rfl, by kernel_rfl, by kernel_rfl, by kernel_rfl, by kernel_rfl⟩⟩
theorem lp61_1 (n b r : Nat) (hn : n ≤ 4) (hb : b < 65536) (hr : r < R2 n) (o : Out)
    (ho : (if allF (monoP b r) 0 n = true then (⟨.exit 2, [(1, .ptr 0 0), (3, .int .i64 r)], [⟨[.int .i64 n, .int .i64 b], 1, 0, some 0, true⟩]⟩ : Out) else ⟨.ret, [(2, .bool false)], []⟩) = o) :
    LpS cx 32 0 m61_1 [(1, .ptr 0 0), (3, .int .i64 r), (4, .int .i64 (0 : Nat))] [⟨[.int .i64 n, .int .i64 b], 1, 0, some 0, true⟩] o.x o.e o.h := by
  obtain ⟨h1, h2, h3, h4⟩ := shN hn
  refine lp_all n (monoP b r) (fun j => [(1, .ptr 0 0), (3, .int .i64 r), (4, .int .i64 (j : Nat))]) (fun _ => [⟨[.int .i64 n, .int .i64 b], 1, 0, some 0, true⟩]) _ _ ?_ ?_ ?_ n 0 o (by omega) ho
  · intro j hj hp
    have h5 := R2_le hj
    have h6 := or_lt hr (show R2 j < R2 n by omega)
    have h7 : decide ((j : Int) < (n : Nat)) = true := decide_eq_true (by omega)
    simp only [monoP, decide_eq_true_eq] at hp
    by_cases hx : bt b r = 1
    · have h8 : (((bt b r : Nat) : Int) == 1) = true := by simp [hx]
      have h9 : (((bt b (r ||| R2 j) : Nat) : Int) == 0) = false := by
        have : bt b (r ||| R2 j) ≠ 0 := by omega
        simpa using this
      unfold m61_1
      repeat' (first
        | (refine g_op ?_; first
          | refine ep_mov rfl ?_ | refine ep_load1 rfl rfl rfl rfl ?_ | refine ep_fieldAddr rfl ?_ | refine sp_loadN rfl rfl rfl rfl rfl ?_
          | refine ep_call0 rfl (by first | exact ev57 _ _ _ (by omega) (by omega)) rfl rfl ?_
          | refine sp_call rfl rfl rfl rfl (by first | exact ev57 _ _ _ (by omega) (by omega)) ⟨rfl, rfl, rfl, rfl⟩ rfl rfl rfl ?_
          | refine ep_bin rfl rfl (by first | exact b_shl1 (by omega) (by omega) | exact b_add (by omega) (by omega) | exact b_sub (by omega) (by omega) | exact b_and (by omega) (by omega) | exact b_or (by omega) (by omega) | exact b_shr (by omega) | exact b_shl (by omega) (by omega) | exact b_lss | exact b_leq | exact b_gtr | exact b_geq | exact b_eql | exact b_neq) ?_
          | refine ep_pickT rfl rfl ?_ | refine ep_pickF rfl rfl ?_ | refine ep_pickTH rfl (by assumption) rfl ?_ | refine ep_pickFH rfl (by assumption) rfl ?_ | refine ep_conv rfl (by first | exact w_u64 (by omega) (by omega) | exact wrap_id (by omega) (by omega) | rfl) ?_)
        | (refine g_ops ?_; first | refine eo_none ?_ | refine eo_nil ?_ | refine eo_yes rfl ?_ | refine eo_no rfl ?_ | refine eo_und rfl ?_ | refine eo_yesH rfl (by assumption) ?_ | refine eo_noH rfl (by assumption) ?_)
        | (refine g_code ?_; first | refine ec_seq ?_ | refine ec_region ?_ | refine ec_block ?_ | refine ec_skip ?_ | refine ec_exit ?_ | refine ec_ret ?_ | refine ec_condT rfl ?_ | refine ec_condF rfl ?_ | refine ec_condTH rfl (by assumption) ?_ | refine ec_condFH rfl (by assumption) ?_)
        | refine ek_seqN ?_ | refine ek_seqX ?_ | refine ek_seqR ?_ | refine ek_blkN ?_ | refine ek_blkR ?_ | refine ek_blkX ?_ | refine ek_blkY rfl ?_)
      exact rnd_on (by rfl) (scmp (by rfl) (by rfl) (by exact ⟨rfl, rfl, rfl⟩) (by rfl) (by rfl) (by rfl))
    · have h8 : (((bt b r : Nat) : Int) == 1) = false := by
        simp only [beq_eq_false_iff_ne, ne_eq]; omega
      unfold m61_1
      repeat' (first
        | (refine g_op ?_; first
          | refine ep_mov rfl ?_ | refine ep_load1 rfl rfl rfl rfl ?_ | refine ep_fieldAddr rfl ?_ | refine sp_loadN rfl rfl rfl rfl rfl ?_
          | refine ep_call0 rfl (by first | exact ev57 _ _ _ (by omega) (by omega)) rfl rfl ?_
          | refine sp_call rfl rfl rfl rfl (by first | exact ev57 _ _ _ (by omega) (by omega)) ⟨rfl, rfl, rfl, rfl⟩ rfl rfl rfl ?_
          | refine ep_bin rfl rfl (by first | exact b_shl1 (by omega) (by omega) | exact b_add (by omega) (by omega) | exact b_sub (by omega) (by omega) | exact b_and (by omega) (by omega) | exact b_or (by omega) (by omega) | exact b_shr (by omega) | exact b_shl (by omega) (by omega) | exact b_lss | exact b_leq | exact b_gtr | exact b_geq | exact b_eql | exact b_neq) ?_
          | refine ep_pickT rfl rfl ?_ | refine ep_pickF rfl rfl ?_ | refine ep_pickTH rfl (by assumption) rfl ?_ | refine ep_pickFH rfl (by assumption) rfl ?_ | refine ep_conv rfl (by first | exact w_u64 (by omega) (by omega) | exact wrap_id (by omega) (by omega) | rfl) ?_)
        | (refine g_ops ?_; first | refine eo_none ?_ | refine eo_nil ?_ | refine eo_yes rfl ?_ | refine eo_no rfl ?_ | refine eo_und rfl ?_ | refine eo_yesH rfl (by assumption) ?_ | refine eo_noH rfl (by assumption) ?_)
        | (refine g_code ?_; first | refine ec_seq ?_ | refine ec_region ?_ | refine ec_block ?_ | refine ec_skip ?_ | refine ec_exit ?_ | refine ec_ret ?_ | refine ec_condT rfl ?_ | refine ec_condF rfl ?_ | refine ec_condTH rfl (by assumption) ?_ | refine ec_condFH rfl (by assumption) ?_)
        | refine ek_seqN ?_ | refine ek_seqX ?_ | refine ek_seqR ?_ | refine ek_blkN ?_ | refine ek_blkR ?_ | refine ek_blkX ?_ | refine ek_blkY rfl ?_)
      exact rnd_on (by rfl) (scmp (by rfl) (by rfl) (by exact ⟨rfl, rfl, rfl⟩) (by rfl) (by rfl) (by rfl))
  · intro j hj hp
    have h5 := R2_le hj
    have h6 := or_lt hr (show R2 j < R2 n by omega)
    have h7 : decide ((j : Int) < (n : Nat)) = true := decide_eq_true (by omega)
    simp only [monoP, decide_eq_false_iff_not, Classical.not_not] at hp
    have hx := bt_le b r
    have h8 : (((bt b r : Nat) : Int) == 1) = true := by simp only [beq_iff_eq]; omega
    have h9 : (((bt b (r ||| R2 j) : Nat) : Int) == 0) = true := by simp only [beq_iff_eq]; omega
    unfold m61_1
    repeat' (first
      | (refine g_op ?_; first
        | refine ep_mov rfl ?_ | refine ep_load1 rfl rfl rfl rfl ?_ | refine ep_fieldAddr rfl ?_ | refine sp_loadN rfl rfl rfl rfl rfl ?_
        | refine ep_call0 rfl (by first | exact ev57 _ _ _ (by omega) (by omega)) rfl rfl ?_
        | refine sp_call rfl rfl rfl rfl (by first | exact ev57 _ _ _ (by omega) (by omega)) ⟨rfl, rfl, rfl, rfl⟩ rfl rfl rfl ?_
        | refine ep_bin rfl rfl (by first | exact b_shl1 (by omega) (by omega) | exact b_add (by omega) (by omega) | exact b_sub (by omega) (by omega) | exact b_and (by omega) (by omega) | exact b_or (by omega) (by omega) | exact b_shr (by omega) | exact b_shl (by omega) (by omega) | exact b_lss | exact b_leq | exact b_gtr | exact b_geq | exact b_eql | exact b_neq) ?_
        | refine ep_pickT rfl rfl ?_ | refine ep_pickF rfl rfl ?_ | refine ep_pickTH rfl (by assumption) rfl ?_ | refine ep_pickFH rfl (by assumption) rfl ?_ | refine ep_conv rfl (by first | exact w_u64 (by omega) (by omega) | exact wrap_id (by omega) (by omega) | rfl) ?_)
      | (refine g_ops ?_; first | refine eo_none ?_ | refine eo_nil ?_ | refine eo_yes rfl ?_ | refine eo_no rfl ?_ | refine eo_und rfl ?_ | refine eo_yesH rfl (by assumption) ?_ | refine eo_noH rfl (by assumption) ?_)
      | (refine g_code ?_; first | refine ec_seq ?_ | refine ec_region ?_ | refine ec_block ?_ | refine ec_skip ?_ | refine ec_exit ?_ | refine ec_ret ?_ | refine ec_condT rfl ?_ | refine ec_condF rfl ?_ | refine ec_condTH rfl (by assumption) ?_ | refine ec_condFH rfl (by assumption) ?_)
      | refine ek_seqN ?_ | refine ek_seqX ?_ | refine ek_seqR ?_ | refine ek_blkN ?_ | refine ek_blkR ?_ | refine ek_blkX ?_ | refine ek_blkY rfl ?_)
    exact rnd_out (by rfl) (by simp) (scmp (by rfl) (by rfl) (by exact ⟨rfl, rfl, rfl⟩) (by rfl) (by rfl) (by rfl))
  · have h7 : decide ((n : Int) < (n : Nat)) = false := decide_eq_false (by omega)
    unfold m61_1
    repeat' (first
      | (refine g_op ?_; first
        | refine ep_mov rfl ?_ | refine ep_load1 rfl rfl rfl rfl ?_ | refine ep_fieldAddr rfl ?_ | refine sp_loadN rfl rfl rfl rfl rfl ?_
        | refine ep_bin rfl rfl (by first | exact b_add (by omega) (by omega) | exact b_sub (by omega) (by omega) | exact b_and (by omega) (by omega) | exact b_or (by omega) (by omega) | exact b_shr (by omega) | exact b_shl (by omega) (by omega) | exact b_lss | exact b_leq | exact b_gtr | exact b_geq | exact b_eql | exact b_neq) ?_
        | refine ep_pickT rfl rfl ?_ | refine ep_pickF rfl rfl ?_ | refine ep_pickTH rfl (by assumption) rfl ?_ | refine ep_pickFH rfl (by assumption) rfl ?_ | refine ep_conv rfl (by first | exact w_u64 (by omega) (by omega) | exact wrap_id (by omega) (by omega) | rfl) ?_)
      | (refine g_ops ?_; first | refine eo_none ?_ | refine eo_nil ?_ | refine eo_yes rfl ?_ | refine eo_no rfl ?_ | refine eo_und rfl ?_ | refine eo_yesH rfl (by assumption) ?_ | refine eo_noH rfl (by assumption) ?_)
      | (refine g_code ?_; first | refine ec_seq ?_ | refine ec_region ?_ | refine ec_block ?_ | refine ec_skip ?_ | refine ec_exit ?_ | refine ec_ret ?_ | refine ec_condT rfl ?_ | refine ec_condF rfl ?_ | refine ec_condTH rfl (by assumption) ?_ | refine ec_condFH rfl (by assumption) ?_)
      | refine ek_seqN ?_ | refine ek_seqX ?_ | refine ek_seqR ?_ | refine ek_blkN ?_ | refine ek_blkR ?_ | refine ek_blkX ?_ | refine ek_blkY rfl ?_)
    exact rnd_out (by rfl) (by simp) (scmp (by rfl) (by rfl) (by exact ⟨rfl, rfl, rfl⟩) (by rfl) (by rfl) (by rfl))
theorem lp61_0 (n b : Nat) (hn : n ≤ 4) (hb : b < 65536) (o : Out) (ho : (if monoB n b = true then (⟨.exit 0, [], []⟩ : Out) else ⟨.ret, [(2, .bool false)], []⟩) = o) :
    LpS cx 32 0 m61_0 [(1, .ptr 0 0), (3, .int .i64 (0 : Nat))] [⟨[.int .i64 n, .int .i64 b], 1, 0, some 0, true⟩] o.x o.e o.h := by
  obtain ⟨h1, h2, h3, h4⟩ := shN hn
  refine lp_all (R2 n) (fun r => allF (monoP b r) 0 n) (fun r => [(1, .ptr 0 0), (3, .int .i64 (r : Nat))]) (fun _ => [⟨[.int .i64 n, .int .i64 b], 1, 0, some 0, true⟩]) _ _ ?_ ?_ ?_ (R2 n) 0 o (by omega) ho
  · intro r hr hp
    have h7 : decide ((r : Int) < (R2 n : Nat)) = true := decide_eq_true (by omega)
    have lp := lp61_1 n b r hn hb hr _ (if_pos hp)
    unfold m61_0
    repeat' (first
      | refine sc_loop lp rfl rfl ⟨rfl, rfl, rfl⟩ rfl rfl rfl ?_
      | (refine g_op ?_; first
        | refine ep_mov rfl ?_ | refine ep_load1 rfl rfl rfl rfl ?_ | refine ep_fieldAddr rfl ?_
        | refine ep_call0 rfl (by first | exact ev58 _ hn) rfl rfl ?_
        | refine sp_call rfl rfl rfl rfl (by first | exact ev58 _ hn) ⟨rfl, rfl, rfl, rfl⟩ rfl rfl rfl ?_
        | refine ep_bin rfl rfl (by first | exact b_add (by omega) (by omega) | exact b_sub (by omega) (by omega) | exact b_and (by omega) (by omega) | exact b_or (by omega) (by omega) | exact b_shr (by omega) | exact b_shl (by omega) (by omega) | exact b_lss | exact b_leq | exact b_gtr | exact b_geq | exact b_eql | exact b_neq) ?_)
      | (refine g_ops ?_; first | refine eo_none ?_ | refine eo_nil ?_)
      | (refine g_code ?_; first | refine ec_seq ?_ | refine ec_region ?_ | refine ec_block ?_ | refine ec_skip ?_ | refine ec_exit ?_ | refine ec_condT rfl ?_ | refine ec_condF rfl ?_ | refine ec_condTH rfl (by assumption) ?_ | refine ec_condFH rfl (by assumption) ?_)
      | refine ek_seqN ?_ | refine ek_seqX ?_ | refine ek_seqR ?_ | refine ek_blkN ?_ | refine ek_blkR ?_ | refine ek_blkX ?_ | refine ek_blkY rfl ?_)
    exact rnd_on (by rfl) (scmp (by rfl) (by rfl) (by exact ⟨rfl, rfl, rfl⟩) (by rfl) (by rfl) (by rfl))
  · intro r hr hp
    have h7 : decide ((r : Int) < (R2 n : Nat)) = true := decide_eq_true (by omega)
    have lp := lp61_1 n b r hn hb hr _ (if_neg (by rw [hp]; simp))
    unfold m61_0
    repeat' (first
      | refine sc_loop lp rfl rfl ⟨rfl, rfl, rfl⟩ rfl rfl rfl ?_
      | (refine g_op ?_; first
        | refine ep_mov rfl ?_ | refine ep_load1 rfl rfl rfl rfl ?_ | refine ep_fieldAddr rfl ?_
        | refine ep_call0 rfl (by first | exact ev58 _ hn) rfl rfl ?_
        | refine sp_call rfl rfl rfl rfl (by first | exact ev58 _ hn) ⟨rfl, rfl, rfl, rfl⟩ rfl rfl rfl ?_
        | refine ep_bin rfl rfl (by first | exact b_add (by omega) (by omega) | exact b_sub (by omega) (by omega) | exact b_and (by omega) (by omega) | exact b_or (by omega) (by omega) | exact b_shr (by omega) | exact b_shl (by omega) (by omega) | exact b_lss | exact b_leq | exact b_gtr | exact b_geq | exact b_eql | exact b_neq) ?_)
      | (refine g_ops ?_; first | refine eo_none ?_ | refine eo_nil ?_)
      | (refine g_code ?_; first | refine ec_seq ?_ | refine ec_region ?_ | refine ec_block ?_ | refine ec_skip ?_ | refine ec_exit ?_ | refine ec_condT rfl ?_ | refine ec_condF rfl ?_ | refine ec_condTH rfl (by assumption) ?_ | refine ec_condFH rfl (by assumption) ?_)
      | refine ek_seqN ?_ | refine ek_seqX ?_ | refine ek_seqR ?_ | refine ek_blkN ?_ | refine ek_blkR ?_ | refine ek_blkX ?_ | refine ek_blkY rfl ?_)
    exact rnd_out (by rfl) (by simp) (scmp (by rfl) (by rfl) (by exact ⟨rfl, rfl, rfl⟩) (by rfl) (by rfl) (by rfl))
  · have h7 : decide (((R2 n : Nat) : Int) < (R2 n : Nat)) = false := decide_eq_false (by omega)
    unfold m61_0
    repeat' (first
      | (refine g_op ?_; first
        | refine ep_mov rfl ?_ | refine ep_load1 rfl rfl rfl rfl ?_ | refine ep_fieldAddr rfl ?_
        | refine ep_call0 rfl (by first | exact ev58 _ hn) rfl rfl ?_
        | refine sp_call rfl rfl rfl rfl (by first | exact ev58 _ hn) ⟨rfl, rfl, rfl, rfl⟩ rfl rfl rfl ?_
        | refine ep_bin rfl rfl (by first | exact b_add (by omega) (by omega) | exact b_sub (by omega) (by omega) | exact b_and (by omega) (by omega) | exact b_or (by omega) (by omega) | exact b_shr (by omega) | exact b_shl (by omega) (by omega) | exact b_lss | exact b_leq | exact b_gtr | exact b_geq | exact b_eql | exact b_neq) ?_)
      | (refine g_ops ?_; first | refine eo_none ?_ | refine eo_nil ?_)
      | (refine g_code ?_; first | refine ec_seq ?_ | refine ec_region ?_ | refine ec_block ?_ | refine ec_skip ?_ | refine ec_exit ?_ | refine ec_condT rfl ?_ | refine ec_condF rfl ?_ | refine ec_condTH rfl (by assumption) ?_ | refine ec_condFH rfl (by assumption) ?_)
      | refine ek_seqN ?_ | refine ek_seqX ?_ | refine ek_seqR ?_ | refine ek_blkN ?_ | refine ek_blkR ?_ | refine ek_blkX ?_ | refine ek_blkY rfl ?_)
    exact rnd_out (by rfl) (by simp) (scmp (by rfl) (by rfl) (by exact ⟨rfl, rfl, rfl⟩) (by rfl) (by rfl) (by rfl))
theorem ev61 (n b : Nat) (hn : n ≤ 4) (hb : b < 65536) : Ev cx 61 [.agg [.int .i64 n, .int .i64 b]] [] (.bool (monoB n b)) [] := by
  cases h : monoB n b
  · have lp := lp61_0 n b hn hb _ (if_neg (by rw [h]; simp))
    refine has61.eev rfl rfl ?_
    unfold m61
    repeat' (first
      | refine sc_loop lp rfl rfl ⟨rfl, rfl, rfl⟩ rfl rfl rfl ?_
      | (refine g_op ?_; first
        | refine ep_mov rfl ?_
        | refine sp_box rfl rfl rfl rfl rfl ?_)
      | (refine g_ops ?_; first | refine eo_none ?_ | refine eo_nil ?_)
      | (refine g_code ?_; first | refine ec_seq ?_ | refine ec_region ?_ | refine ec_block ?_ | refine ec_ret ?_)
      | refine ek_seqN ?_ | refine ek_seqX ?_ | refine ek_seqR ?_ | refine ek_blkN ?_ | refine ek_blkR ?_ | refine ek_blkX ?_ | refine ek_blkY rfl ?_)
    refine sfin (.inr rfl) (by rfl) (by rfl) (by exact ⟨rfl, rfl, rfl⟩) (by rfl) (by rfl) (by rfl) (by first | rfl | (simp; done) | (simp [ints, prs]; done))
  · have lp := lp61_0 n b hn hb _ (if_pos h)
    refine has61.eev rfl rfl ?_
    unfold m61
    repeat' (first
      | refine sc_loop lp rfl rfl ⟨rfl, rfl, rfl⟩ rfl rfl rfl ?_
      | (refine g_op ?_; first
        | refine ep_mov rfl ?_
        | refine sp_box rfl rfl rfl rfl rfl ?_)
      | (refine g_ops ?_; first | refine eo_none ?_ | refine eo_nil ?_)
      | (refine g_code ?_; first | refine ec_seq ?_ | refine ec_region ?_ | refine ec_block ?_ | refine ec_ret ?_)
      | refine ek_seqN ?_ | refine ek_seqX ?_ | refine ek_seqR ?_ | refine ek_blkN ?_ | refine ek_blkR ?_ | refine ek_blkX ?_ | refine ek_blkY rfl ?_)
    refine sfin (.inr rfl) (by rfl) (by rfl) (by exact ⟨rfl, rfl, rfl⟩) (by rfl) (by rfl) (by rfl) (by first | rfl | (simp; done) | (simp [ints, prs]; done))
def monoR (p t : Int) : Bool × Int := if isFn p t = true then (monoB p.toNat t.toNat, 0) else (false, 1)
def strP (b i j r : Nat) : Bool := !(decide (bt r i = 0) && decide (bt r j = 0) && decide (bt b (r ||| R2 i) < bt b (r ||| R2 j)))
def strB (n b i j : Nat) : Bool := allF (strP b i j) 0 (R2 n)
theorem and_R2 (r i : Nat) : (r &&& R2 i = 0) ↔ bt r i = 0 := by
  have h2 : bt r i = 0 ↔ r.testBit i = false := by
    unfold bt
    rw [Nat.testBit_eq_decide_div_mod_eq, Nat.shiftRight_eq_div_pow, Nat.and_one_is_mod]
    simp only [decide_eq_false_iff_not]
    omega
  rw [h2]
  unfold R2
  constructor
  · intro h
    have := congrArg (fun x => x.testBit i) h
    simpa [Nat.testBit_and, Nat.testBit_two_pow_self] using this
  · intro h
    apply Nat.eq_of_testBit_eq
    intro k
    rw [Nat.testBit_and, Nat.testBit_two_pow, Nat.zero_testBit]
    by_cases e : i = k
    · subst e; simp [h]
    · simp [e]
def strR (p t i j : Int) : Bool × Int := if isFn p t = true then (if (0 ≤ i ∧ i ≤ p - 1) ∧ (0 ≤ j ∧ j ≤ p - 1) then (strB p.toNat t.toNat i.toNat j.toNat, 0) else (false, 2)) else (false, 1)
def ints (l : List Nat) : List V := l.map fun (x : Nat) => .int .i64 (x : Int)
def zints (l : List Int) : List V := l.map fun x => .int .i64 x
def prs (n : Nat) (l : List Nat) : List V := l.flatMap fun (b : Nat) => [.int .i64 n, .int .i64 b]
theorem ints_len (l : List Nat) : (ints l).length = l.length * 1 := by simp [ints]
theorem zints_len (l : List Int) : (zints l).length = l.length * 1 := by simp [zints]
theorem prs_len (n : Nat) : ∀ (l : List Nat), (prs n l).length = l.length * 2
  | [] => rfl
  | x :: xs => by have := prs_len n xs; simp [prs] at this ⊢; omega
def selm (p : Nat → Bool) (g : Nat → Nat) (n : Nat) : List Nat := ((List.range n).filter p).map g
theorem selm_t {p : Nat → Bool} {g : Nat → Nat} {i : Nat} (h : p i = true) : selm p g (i + 1) = selm p g i ++ [g i] := by
  simp [selm, List.range_succ, List.filter_append, h]
theorem selm_f {p : Nat → Bool} {g : Nat → Nat} {i : Nat} (h : p i = false) : selm p g (i + 1) = selm p g i := by
  simp [selm, List.range_succ, List.filter_append, h]
theorem selm_len (p : Nat → Bool) (g : Nat → Nat) : ∀ n, (selm p g n).length ≤ n
  | 0 => by simp [selm]
  | n + 1 => by
    have := selm_len p g n
    cases h : p n with
    | true => rw [selm_t h]; simp; omega
    | false => rw [selm_f h]; omega
theorem selm_congr {p q : Nat → Bool} {g h : Nat → Nat} : ∀ (n : Nat), (∀ i, i < n → p i = q i ∧ (p i = true → g i = h i)) → selm p g n = selm q h n
  | 0, _ => rfl
  | n + 1, hh => by
    have ih := selm_congr n fun i hi => hh i (by omega)
    obtain ⟨h1, h2⟩ := hh n (by omega)
    cases hp : p n with
    | true => rw [selm_t hp, selm_t (by rw [← h1]; exact hp), ih, h2 hp]
    | false => rw [selm_f hp, selm_f (by rw [← h1]; exact hp), ih]
def slV (z : V) (k : Nat) (l : List Nat) : V := match l with | [] => z | x :: xs => .sl k 0 (x :: xs).length
def slH (k es : Nat) (c : List Nat → List V) (l : List Nat) : List Blk := match l with | [] => [] | x :: xs => [⟨c (x :: xs), es, k, some 0, false⟩]
abbrev idn : Nat → Nat := fun i => i
def monoL (n : Nat) : List Nat := selm (monoB n) idn (R2 (R2 n))
theorem bt_tb (b r : Nat) : bt b r = (b.testBit r).toNat := by
  unfold bt
  rw [Nat.testBit, Nat.and_comm]
  have : 1 &&& b >>> r = (b >>> r) % 2 := by rw [Nat.and_comm, Nat.and_one_is_mod]
  rw [this]
  have := Nat.mod_two_eq_zero_or_one (b >>> r)
  rcases this with h | h <;> rw [h] <;> rfl
def pk (g : Nat → Nat) : Nat → Nat
  | 0 => 0
  | n + 1 => pk g n ||| (g n <<< n)
theorem pk_tb {g : Nat → Nat} : ∀ {n : Nat}, (∀ r, r < n → g r ≤ 1) → ∀ r, (pk g n).testBit r = (decide (r < n) && decide (g r = 1))
  | 0, _, r => by simp [pk]
  | n + 1, h, r => by
    rw [pk, Nat.testBit_or, pk_tb (fun r hr => h r (by omega)), Nat.testBit_shiftLeft]
    have hn := h n (by omega)
    by_cases e : r = n
    · subst e
      have : g r = 0 ∨ g r = 1 := by omega
      rcases this with h | h <;> simp [h]
    · by_cases hl : r < n
      · have : ¬ n ≤ r := by omega
        have : r < n + 1 := by omega
        simp [*]
      · have h1 : n ≤ r := by omega
        have h2 : ¬ r < n + 1 := by omega
        simp only [hl, h1, h2, decide_false, Bool.false_and, Bool.false_or, ge_iff_le, decide_true, Bool.true_and]
        exact Nat.testBit_lt_two_pow (Nat.lt_of_le_of_lt hn (Nat.one_lt_two_pow (by omega)))
theorem lt_R2 {x n : Nat} (h : ∀ r, n ≤ r → x.testBit r = false) : x < R2 n := by
  unfold R2; exact Nat.lt_pow_two_of_testBit x fun i hi => h i hi
theorem pk_lt {g : Nat → Nat} {n : Nat} (h : ∀ r, r < n → g r ≤ 1) : pk g n < R2 n := by
  refine lt_R2 fun r hr => ?_
  rw [pk_tb h]; have : ¬ r < n := by omega
  simp [this]
theorem sl_lt {x i m : Nat} (hx : x ≤ 1) (hi : i < m) : x <<< i < R2 m := by
  rw [Nat.shiftLeft_eq]; unfold R2
  have h1 : 2 ^ i < 2 ^ m := Nat.pow_lt_pow_right (by omega) hi
  have h2 : x * 2 ^ i ≤ 1 * 2 ^ i := Nat.mul_le_mul_right _ hx
  omega
theorem R2_mono {i n : Nat} (h : i ≤ n) : R2 i ≤ R2 n := by unfold R2; exact Nat.pow_le_pow_right (by omega) h
theorem tb_ge {x n r : Nat} (h : x < R2 n) (hr : n ≤ r) : x.testBit r = false := by
  unfold R2 at h
  exact Nat.testBit_lt_two_pow (Nat.lt_of_lt_of_le h (Nat.pow_le_pow_right (by omega) hr))
theorem ext_bt {x y n : Nat} (hx : x < R2 n) (hy : y < R2 n) (h : ∀ r, r < n → bt x r = bt y r) : x = y := by
  apply Nat.eq_of_testBit_eq
  intro r
  by_cases hr : r < n
  · have := h r hr
    rw [bt_tb, bt_tb] at this
    revert this; cases x.testBit r <;> cases y.testBit r <;> simp
  · rw [tb_ge hx (by omega), tb_ge hy (by omega)]
theorem bt_pk {g : Nat → Nat} {n : Nat} (h : ∀ r, r < n → g r ≤ 1) {r : Nat} (hr : r < n) : bt (pk g n) r = g r := by
  rw [bt_tb, pk_tb h]
  have := h r hr
  have : g r = 0 ∨ g r = 1 := by omega
  rcases this with h | h <;> simp [h, hr]
theorem pk_add {g : Nat → Nat} {n : Nat} (h : ∀ r, r < n → g r ≤ 1) : pk g n + (g n <<< n) = pk g (n + 1) := by
  have hl := pk_lt h
  rw [pk, Nat.or_comm, Nat.shiftLeft_eq, Nat.add_comm]
  unfold R2 at hl
  rw [Nat.mul_comm (g n), Nat.two_pow_add_eq_or_of_lt hl]
theorem pk_congr {g h : Nat → Nat} : ∀ {n : Nat}, (∀ r, r < n → g r = h r) → pk g n = pk h n
  | 0, _ => rfl
  | n + 1, hh => by rw [pk, pk, pk_congr fun r hr => hh r (by omega), hh n (by omega)]
theorem pk_self {b n : Nat} (h : b < R2 n) : pk (bt b) n = b :=
  ext_bt (pk_lt fun r _ => bt_le b r) h fun r hr => bt_pk (fun r _ => bt_le b r) hr
def bn (P : Nat → Bool) (t : Nat) : Nat := if P t then 1 else 0
theorem bn_le (P : Nat → Bool) (t : Nat) : bn P t ≤ 1 := by unfold bn; split <;> omega
/-- A set of numbers as bits. -/
def orA (h : Nat → Nat) : Nat → Nat
  | 0 => 0
  | n + 1 => orA h n ||| R2 (h n)
theorem R2_tb (a t : Nat) : (R2 a).testBit t = decide (a = t) := by unfold R2; rw [Nat.testBit_two_pow]
theorem orA_tb (h : Nat → Nat) : ∀ (n t : Nat), (orA h n).testBit t = decide (∃ r, r < n ∧ h r = t)
  | 0, t => by simp [orA]
  | n + 1, t => by
    rw [orA, Nat.testBit_or, orA_tb h n, R2_tb, ← Bool.decide_or]
    apply decide_eq_decide.mpr
    constructor
    · rintro (⟨r, h1, h2⟩ | h)
      · exact ⟨r, by omega, h2⟩
      · exact ⟨n, by omega, h⟩
    · rintro ⟨r, h1, h2⟩
      by_cases e : r = n
      · subst e; exact .inr h2
      · exact .inl ⟨r, by omega, h2⟩
theorem orA_lt {h : Nat → Nat} {n m : Nat} (hh : ∀ r, r < n → h r < m) : orA h n < R2 m := by
  refine lt_R2 fun t ht => ?_
  rw [orA_tb]; simp only [decide_eq_false_iff_not]
  rintro ⟨r, h1, h2⟩
  have := hh r h1; omega
theorem orA_eq {h : Nat → Nat} {n m : Nat} {P : Nat → Bool} (hh : ∀ r, r < n → h r < m) (hp : ∀ t, t < m → (P t = true ↔ ∃ r, r < n ∧ h r = t)) : orA h n = pk (bn P) m := by
  apply Nat.eq_of_testBit_eq
  intro t
  rw [orA_tb, pk_tb fun r _ => bn_le P r]
  by_cases ht : t < m
  · simp only [ht, decide_true, Bool.true_and]
    apply decide_eq_decide.mpr
    rw [← hp t ht]; unfold bn
    cases P t <;> simp
  · simp only [ht, decide_false, Bool.false_and, decide_eq_false_iff_not]
    rintro ⟨r, h1, h2⟩
    have := hh r h1; omega

def graphP (n b t : Nat) : Bool := ((bt b (t &&& (R2 n - 1)) : Nat) : Int) == ((t >>> n : Nat) : Int)
theorem and_m1 {n : Nat} (t : Nat) : t &&& (R2 n - 1) = t % R2 n := by unfold R2; exact Nat.and_two_pow_sub_one_eq_mod t n
theorem R2_pos (n : Nat) : 1 ≤ R2 n := by unfold R2; exact Nat.one_le_two_pow
def graphH (n b r : Nat) : Nat := r ||| (bt b r <<< n)
theorem graphH_eq {n b r : Nat} (hr : r < R2 n) : graphH n b r = bt b r * R2 n + r := by
  unfold graphH R2 at *
  rw [Nat.or_comm, Nat.shiftLeft_eq, Nat.mul_comm, ← Nat.two_pow_add_eq_or_of_lt hr]
theorem R2_succ (n : Nat) : R2 (n + 1) = 2 * R2 n := by unfold R2; rw [Nat.pow_succ]; omega
theorem graph_eq (n b : Nat) : orA (graphH n b) (R2 n) = pk (bn (graphP n b)) (R2 (n + 1)) := by
  refine orA_eq (fun r hr => ?_) fun t ht => ?_
  · rw [graphH_eq hr, R2_succ]
    have := bt_le b r
    have : bt b r = 0 ∨ bt b r = 1 := by omega
    rcases this with h | h <;> rw [h] <;> omega
  · have hp := R2_pos n
    have e1 : t >>> n = t / R2 n := by unfold R2; exact Nat.shiftRight_eq_div_pow t n
    simp only [graphP, and_m1, e1, beq_iff_eq, Int.natCast_inj]
    constructor
    · intro h
      refine ⟨t % R2 n, Nat.mod_lt _ hp, ?_⟩
      rw [graphH_eq (Nat.mod_lt _ hp), h, Nat.mul_comm]
      exact Nat.div_add_mod t (R2 n)
    · rintro ⟨r, hr, rfl⟩
      rw [graphH_eq hr]
      rw [Nat.mul_comm, Nat.mul_add_mod, Nat.mod_eq_of_lt hr, Nat.mul_add_div hp, Nat.div_eq_of_lt hr, Nat.add_zero]
def pop (b : Nat) : Nat → Nat
  | 0 => 0
  | n + 1 => pop b n + bt b n
def swar (b : Nat) : Nat :=
  (fun x1 : Nat => (fun x2 => (fun x3 => (fun x4 => (fun x5 => (fun x6 => x6 &&& 127) (x5 + x5 >>> 32)) (x4 + x4 >>> 16)) (x3 + x3 >>> 8)) ((x2 >>> 4 + x2) &&& 1085102592571150095)) ((x1 >>> 2 &&& 3689348814741910323) + (x1 &&& 3689348814741910323))) ((b >>> 1 &&& 6148914691236517205) + (b &&& 6148914691236517205))
theorem pop_le (b : Nat) : ∀ n, pop b n ≤ n
  | 0 => by simp [pop]
  | n + 1 => by have := pop_le b n; have := bt_le b n; simp only [pop]; omega
theorem and_le_r (x y : Nat) : x &&& y ≤ y := Nat.and_le_right
theorem and_le_l (x y : Nat) : x &&& y ≤ x := Nat.and_le_left
theorem shr_le (x y : Nat) : x >>> y ≤ x := Nat.shiftRight_le x y
theorem pop_ge {b n : Nat} (h : b < R2 n) : ∀ m, n ≤ m → pop b m = pop b n
  | 0, hm => by have : n = 0 := by omega
                subst this; rfl
  | m + 1, hm => by
    by_cases e : n = m + 1
    · subst e; rfl
    · rw [pop, pop_ge h m (by omega), bt_tb, tb_ge h (by omega)]; rfl
theorem sel_pop (b : Nat) : ∀ n, (selm (fun r => bt b r == 1) idn n).length = pop b n
  | 0 => rfl
  | n + 1 => by
    have ih := sel_pop b n
    have := bt_le b n
    cases hp : (bt b n == 1) with
    | true => rw [selm_t (p := fun r => bt b r == 1) hp, List.length_append, ih, pop]; simp at hp; simp [hp]
    | false => rw [selm_f (p := fun r => bt b r == 1) hp, ih, pop]; simp at hp; omega
def tupL (n b : Nat) : List Nat := selm (fun r => bt b r == 1) idn (R2 n)
def cntR (p t : Int) : Int × Int := if isRel p t = true then (((pop t.toNat 16 : Nat) : Int), (0 : Int)) else (0, 1)
theorem wf64 {z : Int} (h : (Lit.int .i64 z).wf = true) : -9223372036854775808 ≤ z ∧ z < 9223372036854775808 := by
  simp only [Lit.wf, IntKind.min, IntKind.max, IntKind.signed, IntKind.bits, Bool.and_eq_true, decide_eq_true_eq] at h
  simp at h; omega
theorem ieq (x y : Nat) : (((x : Nat) : Int) == ((y : Nat) : Int)) = (x == y) := by rw [Bool.eq_iff_iff]; simp only [beq_iff_eq]; omega
theorem ine (x y : Nat) : (((x : Nat) : Int) != ((y : Nat) : Int)) = (x != y) := by rw [bne, bne, ieq]
theorem ieq1 (x : Nat) : (((x : Nat) : Int) == 1) = (x == 1) := ieq x 1
theorem ieq0 (x : Nat) : (((x : Nat) : Int) == 0) = (x == 0) := ieq x 0
theorem ints_get {l : List Nat} {j : Nat} (h : j < l.length) : (ints l)[0 + j * 1]? = some (.int .i64 (l.getD j 0 : Nat)) := by
  simp [ints, h]
theorem zints_get {l : List Int} {j : Nat} (h : j < l.length) : (zints l)[0 + j * 1]? = some (.int .i64 (l.getD j 0)) := by
  simp [zints, h]
theorem prs_get {n : Nat} : ∀ {l : List Nat} {j : Nat} (_ : j < l.length), [V.int .i64 (n : Nat), V.int .i64 (l.getD j 0 : Nat)].length = 2 ∧ (0 + j * 2) + 2 ≤ (prs n l).length ∧ ((prs n l).drop (0 + j * 2)).take 2 = [V.int .i64 (n : Nat), V.int .i64 (l.getD j 0 : Nat)]
  | [], j, h => by simp at h
  | x :: xs, 0, h => by simp [prs]
  | x :: xs, j + 1, h => by
    obtain ⟨_, h2, h3⟩ := prs_get (n := n) (l := xs) (j := j) (by simpa using h)
    have e : (0 + (j + 1) * 2) = (0 + j * 2) + 2 := by omega
    rw [e]
    have e2 : prs n (x :: xs) = .int .i64 (n : Nat) :: .int .i64 (x : Nat) :: prs n xs := by simp [prs]
    rw [e2]
    refine ⟨rfl, by simp; omega, ?_⟩
    rw [List.drop_succ_cons, List.drop_succ_cons, h3]; simp
def fns (l : List (Int × Int)) : List V := l.flatMap fun (f : Int × Int) => [.int .i64 f.1, .int .i64 f.2]
theorem fns_len : ∀ (l : List (Int × Int)), (fns l).length = l.length * 2
  | [] => rfl
  | x :: xs => by have := fns_len xs; simp [fns] at this ⊢; omega
theorem fns_get : ∀ {l : List (Int × Int)} {j : Nat} (_ : j < l.length), [V.int .i64 (l.getD j (0, 0)).1, V.int .i64 (l.getD j (0, 0)).2].length = 2 ∧ (0 + j * 2) + 2 ≤ (fns l).length ∧ ((fns l).drop (0 + j * 2)).take 2 = [V.int .i64 (l.getD j (0, 0)).1, V.int .i64 (l.getD j (0, 0)).2]
  | [], j, h => by simp at h
  | x :: xs, 0, h => by simp [fns]
  | x :: xs, j + 1, h => by
    obtain ⟨_, h2, h3⟩ := fns_get (l := xs) (j := j) (by simpa using h)
    have e : (0 + (j + 1) * 2) = (0 + j * 2) + 2 := by omega
    rw [e]
    have e2 : fns (x :: xs) = .int .i64 x.1 :: .int .i64 x.2 :: fns xs := by simp [fns]
    rw [e2]
    refine ⟨rfl, by simp; omega, ?_⟩
    rw [List.drop_succ_cons, List.drop_succ_cons, h3]; simp
theorem xor_lt {x y n : Nat} (hx : x < R2 n) (hy : y < R2 n) : x ^^^ y < R2 n := by unfold R2 at *; exact Nat.xor_lt_two_pow hx hy
theorem selm_all {g : Nat → Nat} (n : Nat) : (selm (fun _ => true) g n).length = n ∧ ∀ r, r < n → (selm (fun _ => true) g n).getD r 0 = g r := by
  have e : selm (fun _ => true) g n = (List.range n).map g := by unfold selm; rw [List.filter_eq_self.mpr (fun _ _ => rfl)]
  rw [e]; refine ⟨by simp, fun r hr => by simp [List.getD_eq_getElem?_getD, hr]⟩
def essP (b i r : Nat) : Bool := bt b r == bt b (r ^^^ R2 i)
def ess (n b i : Nat) : Bool := !allF (essP b i) 0 (R2 n)
def essL (n b : Nat) : List Nat := selm (ess n b) idn n
-- spec.l01Of
def m62_0 : MC := (.seq (.seq (.region [⟨(.mov (.t 6)), (some 9), none⟩, ⟨(.mov (.t 0)), (some 10), none⟩, ⟨(.call 58 [(.t 10)]), (some 11), none⟩, ⟨(.bin .lss (.t 9) (.t 11)), (some 12), none⟩] false) (.cond (.t 12) .skip (.exit 0))) (.seq (.block 1 (.region [⟨(.fieldAddr 1 (.t 5)), (some 15), none⟩, ⟨(.load none (.t 15)), (some 16), none⟩, ⟨(.mov (.t 1)), (some 17), none⟩, ⟨(.mov (.t 6)), (some 18), none⟩, ⟨(.indexAddr 1 (.t 17) (.t 18)), (some 19), none⟩, ⟨(.load none (.t 19)), (some 20), none⟩, ⟨(.mov (.t 6)), (some 21), none⟩, ⟨(.conv .u64 (.t 21)), (some 22), none⟩, ⟨(.bin .shl (.t 20) (.t 22)), (some 23), none⟩, ⟨(.bin .add (.t 16) (.t 23)), (some 24), none⟩, ⟨(.fieldAddr 1 (.t 5)), (some 25), none⟩, ⟨(.store 1 (.t 25) (.t 24)), none, none⟩] true)) (.region [⟨(.mov (.t 6)), (some 13), none⟩, ⟨(.bin .add (.t 13) (.k (.int .i64 1))), (some 14), none⟩, ⟨(.mov (.t 14)), (some 6), none⟩] false)))
def m62 : MC := (.seq (.region [⟨(.alloc [(.int .i64 0), (.int .i64 0)]), (some 4), none⟩] false) (.seq (.region [⟨(.mov (.t 0)), (some 7), none⟩, ⟨(.build [(.int .i64 0), (.int .i64 0)] [(0, (1, (.t 7)))]), (some 8), none⟩, ⟨(.alloc [(.int .i64 0), (.int .i64 0)]), (some 5), none⟩, ⟨(.store 2 (.t 5) (.t 8)), none, none⟩] false) (.seq (.seq (.region [⟨(.mov (.k (.int .i64 0))), (some 6), none⟩] false) (.block 0 (.loop m62_0))) (.seq (.region [⟨(.load (some 2) (.t 5)), (some 26), none⟩, ⟨(.store 2 (.t 4) (.t 26)), none, none⟩] false) .ret))))
theorem has62 : Has cx 62 27 m62 [(.cell 4 (some 2))] :=
  ⟨⟨Try.f62, Try.f62.body.getD .skip, by kernel_rfl, by kernel_rfl, by kernel_rfl, by kernel_rfl, by kernel_rfl, by kernel_rfl⟩⟩
theorem lp62_0 (n p : Nat) (l : List Nat) (hn : n ≤ 4) (hl : R2 n ≤ l.length) (h01 : ∀ r, r < R2 n → l.getD r 0 ≤ 1) :
    LpS cx 27 1 m62_0 [(0, .int .i64 (n : Nat)), (1, .sl 0 0 l.length), (4, .ptr 1 0), (5, .ptr 2 0), (6, .int .i64 (0 : Nat))] [⟨ints l, 1, 0, some p, false⟩, ⟨[.int .i64 0, .int .i64 0], 1, 1, some 0, true⟩, ⟨[.int .i64 (n : Nat), .int .i64 (pk (fun r => l.getD r 0) (0) : Nat)], 1, 2, some 0, true⟩] (⟨.exit 0, [(4, .ptr 1 0), (5, .ptr 2 0)], [⟨ints l, 1, 0, some p, false⟩, ⟨[.int .i64 0, .int .i64 0], 1, 1, some 0, true⟩, ⟨[.int .i64 (n : Nat), .int .i64 (pk (fun r => l.getD r 0) (R2 n) : Nat)], 1, 2, some 0, true⟩]⟩ : Out).x (⟨.exit 0, [(4, .ptr 1 0), (5, .ptr 2 0)], [⟨ints l, 1, 0, some p, false⟩, ⟨[.int .i64 0, .int .i64 0], 1, 1, some 0, true⟩, ⟨[.int .i64 (n : Nat), .int .i64 (pk (fun r => l.getD r 0) (R2 n) : Nat)], 1, 2, some 0, true⟩]⟩ : Out).e (⟨.exit 0, [(4, .ptr 1 0), (5, .ptr 2 0)], [⟨ints l, 1, 0, some p, false⟩, ⟨[.int .i64 0, .int .i64 0], 1, 1, some 0, true⟩, ⟨[.int .i64 (n : Nat), .int .i64 (pk (fun r => l.getD r 0) (R2 n) : Nat)], 1, 2, some 0, true⟩]⟩ : Out).h := by
  obtain ⟨h1, h2, h3, h4⟩ := shN hn
  refine lp_st (R2 n) (fun _ => ()) (fun i _ => [(0, .int .i64 (n : Nat)), (1, .sl 0 0 l.length), (4, .ptr 1 0), (5, .ptr 2 0), (6, .int .i64 (i : Nat))]) (fun i _ => [⟨ints l, 1, 0, some p, false⟩, ⟨[.int .i64 0, .int .i64 0], 1, 1, some 0, true⟩, ⟨[.int .i64 (n : Nat), .int .i64 (pk (fun r => l.getD r 0) (i) : Nat)], 1, 2, some 0, true⟩]) (fun _ => (⟨.exit 0, [(4, .ptr 1 0), (5, .ptr 2 0)], [⟨ints l, 1, 0, some p, false⟩, ⟨[.int .i64 0, .int .i64 0], 1, 1, some 0, true⟩, ⟨[.int .i64 (n : Nat), .int .i64 (pk (fun r => l.getD r 0) (R2 n) : Nat)], 1, 2, some 0, true⟩]⟩ : Out)) ?_ ?_ (R2 n) 0 (by omega)
  · intro i u_ hi hu_
    refine ⟨(), rfl, ?_⟩
    have hlt : decide ((i : Int) < (R2 n : Nat)) = true := decide_eq_true (by omega)
    have hg := h01 i hi
    have hp0 := pk_lt (g := fun r => l.getD r 0) (n := i + 1) fun r hr => h01 r (by omega)
    have hp3 := pk_add (g := fun r => l.getD r 0) (n := i) fun r hr => h01 r (by omega)
    have hp1 := R2_mono (i := i + 1) (n := R2 n) (by omega)
    have hs1 := sl_lt hg hi
    have hb0 : binV .add (.int .i64 (pk (fun r => l.getD r 0) i : Nat)) (.int .i64 (l.getD i 0 <<< i : Nat)) = some (.int .i64 (pk (fun r => l.getD r 0) (i + 1) : Nat)) := by
      rw [← hp3] at hp0 ⊢; exact b_addN (by omega)
    unfold m62_0
    repeat' (first
      | (refine g_op ?_; first
        | refine ep_mov rfl ?_ | refine ep_load1 rfl rfl rfl rfl ?_ | refine ep_fieldAddr rfl ?_
        | refine ep_call0 rfl (by first | exact ev58 _ hn) rfl rfl ?_
        | refine sp_call rfl rfl rfl rfl (by first | exact ev58 _ hn) ⟨rfl, rfl, rfl, rfl⟩ rfl rfl rfl ?_
        | refine ep_bin rfl rfl (by first | exact hb0 | exact b_shl (x := l.getD i 0) (by omega) (by omega) | exact b_add (by omega) (by omega) | exact b_sub (by omega) (by omega) | exact b_and (by omega) (by omega) | exact b_or (by omega) (by omega) | exact b_shr (by omega) | exact b_shl (by omega) (by omega) | exact b_lss | exact b_leq | exact b_gtr | exact b_geq | exact b_eql | exact b_neq) ?_
        | refine sp_store rfl rfl rfl rfl rfl rfl rfl rfl rfl rfl ?_ | refine ep_conv rfl (by first | exact w_u64 (by omega) (by omega) | exact wrap_id (by omega) (by omega) | rfl) ?_ | refine sp_idx rfl rfl rfl (by omega) rfl ?_
        | refine ep_loadS rfl rfl rfl (by first | exact ints_get (by omega) | exact zints_get (by omega) | exact fget (by omega) | assumption) ?_)
      | (refine g_ops ?_; first | refine eo_none ?_ | refine eo_nil ?_)
      | (refine g_dops ?_; first | refine ed_none ?_ | refine ed_nil ?_)
      | refine ed_same rfl ?_ | refine ed_one rfl rfl rfl rfl ?_ | refine ed_two rfl rfl rfl rfl rfl rfl rfl ?_ | refine ed_write rfl rfl ?_
      | (refine g_code ?_; first | refine ec_seq ?_ | refine ec_region ?_ | refine ec_draw ?_ | refine ec_block ?_ | refine ec_skip ?_ | refine ec_exit ?_ | refine ec_condT rfl ?_ | refine ec_condF rfl ?_ | refine ec_condTH rfl (by assumption) ?_ | refine ec_condFH rfl (by assumption) ?_)
      | refine ek_seqN ?_ | refine ek_seqX ?_ | refine ek_blkN ?_ | refine ek_blkR ?_ | refine ek_blkX ?_ | refine ek_blkY rfl ?_)
    exact rnd_on (by rfl) (scmp2 (by rfl) (by rfl) (by exact ⟨rfl, rfl, rfl⟩) (by rfl) (by first | rfl | (simp; done) | (simp [ints, prs]; done)) (by rfl) (by first | rfl | (simp; done) | (simp [ints, prs]; done)))
  · intro u_ hu_
    have hlt : decide (((R2 n : Nat) : Int) < (R2 n : Nat)) = false := decide_eq_false (by omega)
    unfold m62_0
    repeat' (first
      | (refine g_op ?_; first
        | refine ep_mov rfl ?_ | refine ep_load1 rfl rfl rfl rfl ?_ | refine ep_fieldAddr rfl ?_
        | refine ep_call0 rfl (by first | exact ev58 _ hn) rfl rfl ?_
        | refine sp_call rfl rfl rfl rfl (by first | exact ev58 _ hn) ⟨rfl, rfl, rfl, rfl⟩ rfl rfl rfl ?_
        | refine ep_bin rfl rfl (by first | exact hb0 | exact b_shl (x := l.getD i 0) (by omega) (by omega) | exact b_add (by omega) (by omega) | exact b_sub (by omega) (by omega) | exact b_and (by omega) (by omega) | exact b_or (by omega) (by omega) | exact b_shr (by omega) | exact b_shl (by omega) (by omega) | exact b_lss | exact b_leq | exact b_gtr | exact b_geq | exact b_eql | exact b_neq) ?_
        | refine sp_store rfl rfl rfl rfl rfl rfl rfl rfl rfl rfl ?_ | refine ep_conv rfl (by first | exact w_u64 (by omega) (by omega) | exact wrap_id (by omega) (by omega) | rfl) ?_ | refine sp_idx rfl rfl rfl (by omega) rfl ?_
        | refine ep_loadS rfl rfl rfl (by first | exact ints_get (by omega) | exact zints_get (by omega) | exact fget (by omega) | assumption) ?_)
      | (refine g_ops ?_; first | refine eo_none ?_ | refine eo_nil ?_)
      | (refine g_dops ?_; first | refine ed_none ?_ | refine ed_nil ?_)
      | refine ed_same rfl ?_ | refine ed_one rfl rfl rfl rfl ?_ | refine ed_two rfl rfl rfl rfl rfl rfl rfl ?_ | refine ed_write rfl rfl ?_
      | (refine g_code ?_; first | refine ec_seq ?_ | refine ec_region ?_ | refine ec_draw ?_ | refine ec_block ?_ | refine ec_skip ?_ | refine ec_exit ?_ | refine ec_condT rfl ?_ | refine ec_condF rfl ?_ | refine ec_condTH rfl (by assumption) ?_ | refine ec_condFH rfl (by assumption) ?_)
      | refine ek_seqN ?_ | refine ek_seqX ?_ | refine ek_blkN ?_ | refine ek_blkR ?_ | refine ek_blkX ?_ | refine ek_blkY rfl ?_)
    exact rnd_out (by rfl) (by simp) (scmp2 (by rfl) (by rfl) (by exact ⟨rfl, rfl, rfl⟩) (by rfl) (by first | rfl | (simp; done) | (simp [ints, prs]; done)) (by rfl) (by first | rfl | (simp; done) | (simp [ints, prs]; done)))

theorem ev62 (n p : Nat) (l : List Nat) (hn : n ≤ 4) (hl : R2 n ≤ l.length) (h01 : ∀ r, r < R2 n → l.getD r 0 ≤ 1) : Ev cx 62 [.int .i64 n, .sl 0 0 l.length] [⟨ints l, 1, 0, some p, false⟩] (.agg [.int .i64 n, .int .i64 (pk (fun r => l.getD r 0) (R2 n) : Nat)]) [⟨ints l, 1, 0, some p, false⟩] := by
  have lp := lp62_0 n p l hn hl h01
  refine has62.eev rfl rfl ?_
  unfold m62
  repeat' (first
    | refine sc_loop lp rfl rfl ⟨rfl, rfl, rfl⟩ rfl rfl rfl ?_
    | (refine g_op ?_; first
      | refine ep_mov rfl ?_ | refine sp_loadN rfl rfl rfl rfl rfl ?_
      | refine sp_store rfl rfl rfl rfl rfl rfl rfl rfl rfl rfl ?_ | refine sp_alloc rfl rfl ?_ | refine sp_build rfl rfl ?_)
    | (refine g_ops ?_; first | refine eo_none ?_ | refine eo_nil ?_)
    | (refine g_code ?_; first | refine ec_seq ?_ | refine ec_region ?_ | refine ec_block ?_ | refine ec_ret ?_)
    | refine ek_seqN ?_ | refine ek_seqX ?_ | refine ek_seqR ?_ | refine ek_blkN ?_ | refine ek_blkR ?_ | refine ek_blkX ?_ | refine ek_blkY rfl ?_)
  refine sfin (.inr rfl) (by rfl) (by rfl) (by exact ⟨rfl, rfl, rfl⟩) (by rfl) (by rfl) (by rfl) (by first | rfl | (simp; done) | (simp [ints, prs]; done))
def rowsIV (n i v : Nat) : List Nat := selm (fun r => bt r i == v) idn (R2 n)
def fixL (n b i v : Nat) : List Nat := selm (fun r => bt r i == v) (bt b) (R2 n)
def fixv (n b i v : Nat) : Nat := pk (fun r => (fixL n b i v).getD r 0) (R2 (n - 1))
theorem selm_map (p : Nat → Bool) (g : Nat → Nat) (n : Nat) : selm p g n = (selm p idn n).map g := by simp [selm, idn]
theorem fixL_map (n b i v : Nat) : fixL n b i v = (rowsIV n i v).map (bt b) := selm_map _ _ _
theorem rowsIV_len : ∀ n, n ≤ 4 → ∀ i, i < n → ∀ v, v ≤ 1 → (rowsIV n i v).length = R2 (n - 1) := by decide +kernel
theorem rowsIV_01 : ∀ n, n ≤ 4 → ∀ i, i < n → ∀ k, k < R2 (n - 1) → (rowsIV n i 1).getD k 0 = (rowsIV n i 0).getD k 0 ^^^ R2 i ∧ (rowsIV n i 0).getD k 0 < R2 n ∧ (rowsIV n i 1).getD k 0 < R2 n ∧ bt ((rowsIV n i 0).getD k 0) i = 0 ∧ bt ((rowsIV n i 1).getD k 0) i = 1 := by decide +kernel
theorem rowsIV_ex : ∀ n, n ≤ 4 → ∀ i, i < n → ∀ r, r < R2 n → ∃ k, k < R2 (n - 1) ∧ (r = (rowsIV n i 0).getD k 0 ∧ r ^^^ R2 i = (rowsIV n i 1).getD k 0 ∨ r = (rowsIV n i 1).getD k 0 ∧ r ^^^ R2 i = (rowsIV n i 0).getD k 0) := by decide +kernel
theorem fixL_len {n b i v : Nat} (hn : n ≤ 4) (hi : i < n) (hv : v ≤ 1) : (fixL n b i v).length = R2 (n - 1) := by rw [fixL_map, List.length_map, rowsIV_len n hn i hi v hv]
theorem fixL_get {n b i v k : Nat} (hn : n ≤ 4) (hi : i < n) (hv : v ≤ 1) (hk : k < R2 (n - 1)) : (fixL n b i v).getD k 0 = bt b ((rowsIV n i v).getD k 0) := by
  have hl := rowsIV_len n hn i hi v hv
  rw [fixL_map, List.getD_eq_getElem?_getD, List.getD_eq_getElem?_getD, List.getElem?_map, List.getElem?_eq_getElem (by omega)]; rfl
theorem fixL_le {n b i v : Nat} (hn : n ≤ 4) (hi : i < n) (hv : v ≤ 1) : ∀ r, r < R2 (n - 1) → (fixL n b i v).getD r 0 ≤ 1 := fun r hr => by rw [fixL_get hn hi hv hr]; exact bt_le _ _
theorem fix_ess {n b i : Nat} (hn : n ≤ 4) (hi : i < n) : fixv n b i 0 = fixv n b i 1 ↔ ess n b i = false := by
  have e1 : ess n b i = false ↔ ∀ r, r < R2 n → bt b r = bt b (r ^^^ R2 i) := by
    simp only [ess, Bool.not_eq_false', allF_iff, essP, beq_iff_eq]
    exact ⟨fun h r hr => h r (Nat.zero_le _) (by omega), fun h r _ hr => h r (by omega)⟩
  rw [e1]
  constructor
  · intro h r hr
    have key : ∀ k, k < R2 (n - 1) → bt b ((rowsIV n i 0).getD k 0) = bt b ((rowsIV n i 1).getD k 0) := by
      intro k hk
      have := congrArg (fun x => bt x k) h
      simp only [fixv] at this
      rw [bt_pk (fixL_le hn hi (by omega)) hk, bt_pk (fixL_le hn hi (by omega)) hk, fixL_get hn hi (by omega) hk, fixL_get hn hi (by omega) hk] at this
      exact this
    obtain ⟨k, hk, ⟨h1, h2⟩ | ⟨h1, h2⟩⟩ := rowsIV_ex n hn i hi r hr
    · rw [h2, h1]; exact key k hk
    · rw [h2, h1]; exact (key k hk).symm
  · intro h
    refine pk_congr fun k hk => ?_
    obtain ⟨h1, h2, _⟩ := rowsIV_01 n hn i hi k hk
    rw [fixL_get hn hi (by omega) hk, fixL_get hn hi (by omega) hk, h1]; exact h _ h2
def unR (p t : Int) : Bool × Int := if isFn p t = true then (decide (((essL p.toNat t.toNat).length : Int) ≤ 1), 0) else (false, 1)
theorem allF_succ (p : Nat → Bool) : ∀ (n i : Nat), allF p i (n + 1) = (allF p i n && p (i + n))
  | 0, i => by simp [allF]
  | n + 1, i => by
    rw [allF, allF_succ p n (i + 1), allF, Bool.and_assoc, show i + 1 + n = i + (n + 1) by omega]
theorem allF_s (p : Nat → Bool) (n : Nat) : allF p 0 (n + 1) = (allF p 0 n && p n) := by rw [allF_succ, Nat.zero_add]
def regI (n b i : Nat) : Bool := allF (fun j => strB n b i j || strB n b j i) 0 i
def regB (n b : Nat) : Bool := allF (regI n b) 0 n
def prodP (n b c t : Nat) : Bool := (bt b (t &&& (R2 n - 1)) == 1) && (bt c (t >>> n) == 1)
theorem tupL_mem {n b x : Nat} : x ∈ tupL n b ↔ x < R2 n ∧ bt b x = 1 := by
  simp [tupL, selm, List.mem_range, idn]
theorem getD_mem {l : List Nat} {i : Nat} (h : i < l.length) : l.getD i 0 ∈ l := by
  rw [List.getD_eq_getElem?_getD, List.getElem?_eq_getElem h]; exact List.getElem_mem h
theorem mem_getD {l : List Nat} {x : Nat} (h : x ∈ l) : ∃ i, i < l.length ∧ l.getD i 0 = x := by
  obtain ⟨i, hi, rfl⟩ := List.getElem_of_mem h
  exact ⟨i, hi, by rw [List.getD_eq_getElem?_getD, List.getElem?_eq_getElem hi]; rfl⟩
theorem tup_le {n b : Nat} : (tupL n b).length ≤ R2 n := selm_len _ _ _
def prH (n : Nat) (l1 l2 : List Nat) (i q : Nat) : Nat := l1.getD i 0 ||| (l2.getD q 0 <<< n)
def prO (n : Nat) (l1 l2 : List Nat) : Nat → Nat
  | 0 => 0
  | i + 1 => prO n l1 l2 i ||| orA (prH n l1 l2 i) l2.length
theorem prH_lt {n m : Nat} {l1 l2 : List Nat} (h1 : ∀ i, i < l1.length → l1.getD i 0 < R2 n) (h2 : ∀ i, i < l2.length → l2.getD i 0 < R2 m) {i q : Nat} (hi : i < l1.length) (hq : q < l2.length) :
    prH n l1 l2 i q = l2.getD q 0 * R2 n + l1.getD i 0 ∧ prH n l1 l2 i q < R2 (n + m) := by
  have a := h1 i hi
  have b := h2 q hq
  have e : prH n l1 l2 i q = l2.getD q 0 * R2 n + l1.getD i 0 := by
    unfold prH R2 at *
    rw [Nat.or_comm, Nat.shiftLeft_eq, Nat.mul_comm, ← Nat.two_pow_add_eq_or_of_lt a]
  refine ⟨e, ?_⟩
  rw [e, show R2 (n + m) = R2 m * R2 n by unfold R2; rw [Nat.pow_add, Nat.mul_comm]]
  have : (l2.getD q 0 + 1) * R2 n ≤ R2 m * R2 n := Nat.mul_le_mul_right _ b
  rw [Nat.add_mul] at this; omega
theorem prO_lt {n m : Nat} {l1 l2 : List Nat} (h1 : ∀ i, i < l1.length → l1.getD i 0 < R2 n) (h2 : ∀ i, i < l2.length → l2.getD i 0 < R2 m) : ∀ i, i ≤ l1.length → prO n l1 l2 i < R2 (R2 (n + m))
  | 0, _ => by rw [prO]; exact R2_pos _
  | i + 1, h => by rw [prO]; exact or_lt (prO_lt h1 h2 i (by omega)) (orA_lt fun q hq => (prH_lt h1 h2 (by omega) hq).2)
theorem prO_tb (n : Nat) (l1 l2 : List Nat) (t : Nat) : ∀ i, (prO n l1 l2 i).testBit t = true ↔ ∃ x q, x < i ∧ q < l2.length ∧ prH n l1 l2 x q = t
  | 0 => by simp [prO]
  | i + 1 => by
    rw [prO, Nat.testBit_or, Bool.or_eq_true, prO_tb n l1 l2 t i, orA_tb, decide_eq_true_eq]
    constructor
    · rintro (⟨x, q, h1, h2, h3⟩ | ⟨q, h2, h3⟩)
      · exact ⟨x, q, by omega, h2, h3⟩
      · exact ⟨i, q, by omega, h2, h3⟩
    · rintro ⟨x, q, h1, h2, h3⟩
      by_cases e : x = i
      · subst e; exact .inr ⟨q, h2, h3⟩
      · exact .inl ⟨x, q, by omega, h2, h3⟩
theorem tup_lt {n b : Nat} : ∀ i, i < (tupL n b).length → (tupL n b).getD i 0 < R2 n := fun i hi => (tupL_mem.mp (getD_mem hi)).1
theorem prod_eq (n b m c : Nat) : prO n (tupL n b) (tupL m c) (tupL n b).length = pk (bn (prodP n b c)) (R2 (n + m)) := by
  apply Nat.eq_of_testBit_eq
  intro t
  rw [Bool.eq_iff_iff, prO_tb, pk_tb fun r _ => bn_le _ r, Bool.and_eq_true, decide_eq_true_eq, decide_eq_true_eq]
  have hp := R2_pos n
  have e1 : t >>> n = t / R2 n := by unfold R2; exact Nat.shiftRight_eq_div_pow t n
  have e2 : R2 (n + m) = R2 n * R2 m := by unfold R2; rw [Nat.pow_add]
  have hb : bn (prodP n b c) t = 1 ↔ bt b (t % R2 n) = 1 ∧ bt c (t / R2 n) = 1 := by
    unfold bn prodP; rw [and_m1, e1]
    by_cases x : bt b (t % R2 n) = 1 <;> by_cases y : bt c (t / R2 n) = 1 <;> simp [x, y]
  rw [hb]
  constructor
  · rintro ⟨x, q, hx, hq, rfl⟩
    obtain ⟨p1, p2⟩ := prH_lt tup_lt tup_lt hx hq
    obtain ⟨q1, q2⟩ := tupL_mem.mp (getD_mem hx)
    obtain ⟨r1, r2⟩ := tupL_mem.mp (getD_mem hq)
    refine ⟨p2, ?_⟩
    rw [p1]
    generalize (tupL n b).getD x 0 = u at *
    generalize (tupL m c).getD q 0 = w at *
    rw [Nat.mul_comm, Nat.mul_add_mod, Nat.mod_eq_of_lt q1, Nat.mul_add_div hp, Nat.div_eq_of_lt q1, Nat.add_zero]
    exact ⟨q2, r2⟩
  · rintro ⟨h1, h2, h3⟩
    have hd : t / R2 n < R2 m := Nat.div_lt_of_lt_mul (by rw [← e2]; exact h1)
    obtain ⟨x, hx, ex⟩ := mem_getD (tupL_mem.mpr ⟨Nat.mod_lt t hp, h2⟩)
    obtain ⟨q, hq, eq⟩ := mem_getD (tupL_mem.mpr ⟨hd, h3⟩)
    refine ⟨x, q, hx, hq, ?_⟩
    rw [(prH_lt tup_lt tup_lt hx hq).1, ex, eq, Nat.mul_comm]
    exact Nat.div_add_mod t (R2 n)
def firstF (p : Nat → Bool) : Nat → Nat → Option Nat
  | _, 0 => none
  | i, j + 1 => if p i = true then firstF p (i + 1) j else some i
theorem firstF_none {p : Nat → Bool} : ∀ {j i : Nat}, (∀ x, i ≤ x → x < i + j → p x = true) → firstF p i j = none
  | 0, _, _ => rfl
  | j + 1, i, h => by
    rw [firstF, if_pos (h i (Nat.le_refl _) (by omega))]
    exact firstF_none fun x h1 h2 => h x (by omega) (by omega)
theorem firstF_some {p : Nat → Bool} : ∀ {j i x : Nat}, i ≤ x → x < i + j → p x = false → (∀ y, i ≤ y → y < x → p y = true) → firstF p i j = some x
  | 0, i, x, h1, h2, _, _ => by omega
  | j + 1, i, x, h1, h2, h3, h4 => by
    rw [firstF]
    by_cases e : i = x
    · subst e; rw [h3]; rfl
    · rw [if_pos (h4 i (Nat.le_refl _) (by omega))]
      exact firstF_some (by omega) (by omega) h3 fun y g1 g2 => h4 y (by omega) g2
theorem firstF_allT {p : Nat → Bool} : ∀ {j i : Nat}, firstF p i j = none → allF p i j = true
  | 0, _, _ => rfl
  | j + 1, i, h => by
    rw [firstF] at h
    by_cases e : p i = true
    · rw [if_pos e] at h; rw [allF, e, firstF_allT h]; rfl
    · rw [if_neg e] at h; simp at h
theorem firstF_allF {p : Nat → Bool} : ∀ {j i x : Nat}, firstF p i j = some x → allF p i j = false
  | 0, _, _, h => by simp [firstF] at h
  | j + 1, i, x, h => by
    rw [firstF] at h
    by_cases e : p i = true
    · rw [if_pos e] at h; rw [allF, e, firstF_allF h]; rfl
    · rw [allF]; simp [e]
theorem fget {o j : Nat} {l : List Int} (h : j < l.length) : (List.replicate o V.any ++ nums .i64 l)[o + j * 1]? = some (.int .i64 (l.getD j 0)) := by
  rw [List.getElem?_append_right (by simp)]
  simp [nums, h]
def zcp (c : List Int) (i : Nat) : List Int := c.take i ++ List.replicate (c.length - i) 0
theorem zcp_len {c : List Int} {i : Nat} (h : i ≤ c.length) : (zcp c i).length = c.length := by simp [zcp]; omega
theorem zcp_mk (c : List Int) : zints (zcp c 0) = (List.replicate c.length [V.int .i64 0]).flatten := by
  simp only [zcp, List.take_zero, List.nil_append, Nat.sub_zero]
  induction c.length with
  | zero => rfl
  | succ n ih => simp only [List.replicate_succ, zints, List.map_cons, List.flatten_cons, List.singleton_append] at ih ⊢; rw [ih]
theorem zcp_end (c : List Int) : zcp c c.length = c := by simp [zcp]
theorem zcp_set {c : List Int} {i : Nat} (h : i < c.length) : (zints (zcp c i)).take (0 + i * 1) ++ [V.int .i64 (c.getD i 0)] ++ (zints (zcp c i)).drop (0 + i * 1 + 1) = zints (zcp c (i + 1)) := by
  have e1 : List.replicate (c.length - i) (0 : Int) = 0 :: List.replicate (c.length - (i + 1)) 0 := by
    rw [show c.length - i = (c.length - (i + 1)) + 1 by omega, List.replicate_succ]
  have e2 : c.take (i + 1) = c.take i ++ [c.getD i 0] := by
    rw [List.take_add_one, List.getElem?_eq_getElem h, List.getD_eq_getElem?_getD, List.getElem?_eq_getElem h]; rfl
  have e3 : ((c.take i).map fun x => V.int .i64 x).length = i := by simp; omega
  simp only [zcp, zints, List.map_append, e1, e2, Nat.zero_add, Nat.mul_one, List.map_cons]
  rw [List.take_append_of_le_length (by omega), List.take_of_length_le (by omega)]
  rw [List.drop_append, e3, List.drop_eq_nil_of_le (by omega), show i + 1 - i = 1 by omega]
  simp
-- laws.eqInt64S
def m19_0 : MC := (.seq (.seq (.region [⟨(.mov (.t 5)), (some 11), none⟩, ⟨(.mov (.t 0)), (some 12), none⟩, ⟨(.len (.t 12)), (some 13), none⟩, ⟨(.bin .lss (.t 11) (.t 13)), (some 14), none⟩] false) (.cond (.t 14) .skip (.exit 0))) (.seq (.block 1 (.seq (.region [⟨(.mov (.t 0)), (some 17), none⟩, ⟨(.mov (.t 5)), (some 18), none⟩, ⟨(.indexAddr 1 (.t 17) (.t 18)), (some 19), none⟩, ⟨(.load none (.t 19)), (some 20), none⟩, ⟨(.mov (.t 1)), (some 21), none⟩, ⟨(.mov (.t 5)), (some 22), none⟩, ⟨(.indexAddr 1 (.t 21) (.t 22)), (some 23), none⟩, ⟨(.load none (.t 23)), (some 24), none⟩, ⟨(.bin .neq (.t 20) (.t 24)), (some 25), none⟩] true) (.cond (.t 25) (.seq (.region [⟨(.mov (.k (.bool false))), (some 4), none⟩] false) .ret) .skip))) (.region [⟨(.mov (.t 5)), (some 15), none⟩, ⟨(.bin .add (.t 15) (.k (.int .i64 1))), (some 16), none⟩, ⟨(.mov (.t 16)), (some 5), none⟩] false)))
def m19 : MC := (.seq (.region [⟨(.mov (.k (.bool false))), (some 4), none⟩] false) (.seq (.seq (.region [⟨(.mov (.t 0)), (some 6), none⟩, ⟨(.len (.t 6)), (some 7), none⟩, ⟨(.mov (.t 1)), (some 8), none⟩, ⟨(.len (.t 8)), (some 9), none⟩, ⟨(.bin .neq (.t 7) (.t 9)), (some 10), none⟩] false) (.cond (.t 10) (.seq (.region [⟨(.mov (.k (.bool false))), (some 4), none⟩] false) .ret) .skip)) (.seq (.seq (.region [⟨(.mov (.k (.int .i64 0))), (some 5), none⟩] false) (.block 0 (.loop m19_0))) (.seq (.region [⟨(.mov (.k (.bool true))), (some 4), none⟩] false) .ret))))
theorem has19 : Has cx 19 26 m19 [(.tmp 4)] :=
  ⟨⟨Try.f19, Try.f19.body.getD .skip, by kernel_rfl, by kernel_rfl, by kernel_rfl, by kernel_rfl, by kernel_rfl, by kernel_rfl⟩⟩
theorem lp19_0 (n : Nat) (c d : List V) (f : Nat → Int) (p q : Option Nat) (hn : n ≤ 1048576) (hc : ∀ j, j < n → c[0 + j * 1]? = some (.int .i64 (f j))) (hd : ∀ j, j < n → d[0 + j * 1]? = some (.int .i64 (f j))) :
    LpS cx 26 2 m19_0 [(0, .sl 0 0 n), (1, .sl 1 0 n), (5, .int .i64 (0 : Nat))] [⟨c, 1, 0, p, false⟩, ⟨d, 1, 1, q, false⟩] (⟨.exit 0, [], [⟨c, 1, 0, p, false⟩, ⟨d, 1, 1, q, false⟩]⟩ : Out).x (⟨.exit 0, [], [⟨c, 1, 0, p, false⟩, ⟨d, 1, 1, q, false⟩]⟩ : Out).e (⟨.exit 0, [], [⟨c, 1, 0, p, false⟩, ⟨d, 1, 1, q, false⟩]⟩ : Out).h := by
  refine lp_st (n) (fun _ => ()) (fun i _ => [(0, .sl 0 0 n), (1, .sl 1 0 n), (5, .int .i64 (i : Nat))]) (fun i _ => [⟨c, 1, 0, p, false⟩, ⟨d, 1, 1, q, false⟩]) (fun _ => (⟨.exit 0, [], [⟨c, 1, 0, p, false⟩, ⟨d, 1, 1, q, false⟩]⟩ : Out)) ?_ ?_ (n) 0 (by omega)
  · intro i u_ hi hu_
    refine ⟨(), rfl, ?_⟩
    have hlt : decide ((i : Int) < (n : Nat)) = true := decide_eq_true (by omega)
    have hc1 := hc i hi
    have hd1 := hd i hi
    have hq : (f i != f i) = false := by simp
    unfold m19_0
    repeat' (first
      | (refine g_op ?_; first
        | refine ep_mov rfl ?_ | refine ep_load1 rfl rfl rfl rfl ?_
        | refine ep_bin rfl rfl (by first | exact b_add (by omega) (by omega) | exact b_sub (by omega) (by omega) | exact b_and (by omega) (by omega) | exact b_or (by omega) (by omega) | exact b_shr (by omega) | exact b_shl (by omega) (by omega) | exact b_lss | exact b_leq | exact b_gtr | exact b_geq | exact b_eql | exact b_neq) ?_
        | refine ep_lenS rfl ?_ | refine ep_lenN rfl ?_ | refine ep_lenE rfl ?_ | refine sp_idx rfl rfl rfl (by omega) rfl ?_ | refine ep_loadS rfl rfl rfl (by first | exact ints_get (by omega) | exact zints_get (by omega) | exact fget (by omega) | assumption) ?_)
      | (refine g_ops ?_; first | refine eo_none ?_ | refine eo_nil ?_)
      | (refine g_dops ?_; first | refine ed_none ?_ | refine ed_nil ?_)
      | refine ed_same rfl ?_ | refine ed_one rfl rfl rfl rfl ?_ | refine ed_two rfl rfl rfl rfl rfl rfl rfl ?_ | refine ed_write rfl rfl ?_
      | (refine g_code ?_; first | refine ec_seq ?_ | refine ec_region ?_ | refine ec_draw ?_ | refine ec_block ?_ | refine ec_skip ?_ | refine ec_exit ?_ | refine ec_ret ?_ | refine ec_condT rfl ?_ | refine ec_condF rfl ?_ | refine ec_condTH rfl (by assumption) ?_ | refine ec_condFH rfl (by assumption) ?_)
      | refine ek_seqN ?_ | refine ek_seqX ?_ | refine ek_seqR ?_ | refine ek_blkN ?_ | refine ek_blkR ?_ | refine ek_blkX ?_ | refine ek_blkY rfl ?_)
    exact rnd_on (by rfl) (scmp2 (by rfl) (by rfl) (by exact ⟨rfl, rfl, rfl⟩) (by rfl) (by first | rfl | (simp; done) | (simp [ints, prs]; done)) (by rfl) (by first | rfl | (simp; done) | (simp [ints, prs]; done)))
  · intro u_ hu_
    have hlt : decide (((n : Nat) : Int) < (n : Nat)) = false := decide_eq_false (by omega)
    unfold m19_0
    repeat' (first
      | (refine g_op ?_; first
        | refine ep_mov rfl ?_ | refine ep_load1 rfl rfl rfl rfl ?_
        | refine ep_bin rfl rfl (by first | exact b_add (by omega) (by omega) | exact b_sub (by omega) (by omega) | exact b_and (by omega) (by omega) | exact b_or (by omega) (by omega) | exact b_shr (by omega) | exact b_shl (by omega) (by omega) | exact b_lss | exact b_leq | exact b_gtr | exact b_geq | exact b_eql | exact b_neq) ?_
        | refine ep_lenS rfl ?_ | refine ep_lenN rfl ?_ | refine ep_lenE rfl ?_ | refine sp_idx rfl rfl rfl (by omega) rfl ?_ | refine ep_loadS rfl rfl rfl (by first | exact ints_get (by omega) | exact zints_get (by omega) | exact fget (by omega) | assumption) ?_)
      | (refine g_ops ?_; first | refine eo_none ?_ | refine eo_nil ?_)
      | (refine g_dops ?_; first | refine ed_none ?_ | refine ed_nil ?_)
      | refine ed_same rfl ?_ | refine ed_one rfl rfl rfl rfl ?_ | refine ed_two rfl rfl rfl rfl rfl rfl rfl ?_ | refine ed_write rfl rfl ?_
      | (refine g_code ?_; first | refine ec_seq ?_ | refine ec_region ?_ | refine ec_draw ?_ | refine ec_block ?_ | refine ec_skip ?_ | refine ec_exit ?_ | refine ec_ret ?_ | refine ec_condT rfl ?_ | refine ec_condF rfl ?_ | refine ec_condTH rfl (by assumption) ?_ | refine ec_condFH rfl (by assumption) ?_)
      | refine ek_seqN ?_ | refine ek_seqX ?_ | refine ek_seqR ?_ | refine ek_blkN ?_ | refine ek_blkR ?_ | refine ek_blkX ?_ | refine ek_blkY rfl ?_)
    exact rnd_out (by rfl) (by simp) (scmp2 (by rfl) (by rfl) (by exact ⟨rfl, rfl, rfl⟩) (by rfl) (by first | rfl | (simp; done) | (simp [ints, prs]; done)) (by rfl) (by first | rfl | (simp; done) | (simp [ints, prs]; done)))

theorem ev19 (n : Nat) (c d : List V) (f : Nat → Int) (p q : Option Nat) (hn : n ≤ 1048576) (hc : ∀ j, j < n → c[0 + j * 1]? = some (.int .i64 (f j))) (hd : ∀ j, j < n → d[0 + j * 1]? = some (.int .i64 (f j))) :
    Ev cx 19 [.sl 0 0 n, .sl 1 0 n] [⟨c, 1, 0, p, false⟩, ⟨d, 1, 1, q, false⟩] (.bool true) [⟨c, 1, 0, p, false⟩, ⟨d, 1, 1, q, false⟩] := by
  have lp := lp19_0 n c d f p q hn hc hd
  have hq : (((n : Nat) : Int) != (n : Nat)) = false := by simp
  refine has19.eev rfl rfl ?_
  unfold m19
  repeat' (first
    | refine sc_loop lp rfl rfl ⟨rfl, rfl, rfl⟩ rfl rfl rfl ?_
    | (refine g_op ?_; first
      | refine ep_mov rfl ?_
      | refine ep_bin rfl rfl (by first | exact b_add (by omega) (by omega) | exact b_sub (by omega) (by omega) | exact b_and (by omega) (by omega) | exact b_or (by omega) (by omega) | exact b_shr (by omega) | exact b_shl (by omega) (by omega) | exact b_lss | exact b_leq | exact b_gtr | exact b_geq | exact b_eql | exact b_neq) ?_
      | refine ep_lenS rfl ?_ | refine ep_lenN rfl ?_ | refine ep_lenE rfl ?_)
    | (refine g_ops ?_; first | refine eo_none ?_ | refine eo_nil ?_)
    | (refine g_code ?_; first | refine ec_seq ?_ | refine ec_region ?_ | refine ec_block ?_ | refine ec_skip ?_ | refine ec_ret ?_ | refine ec_condT rfl ?_ | refine ec_condF rfl ?_ | refine ec_condTH rfl (by assumption) ?_ | refine ec_condFH rfl (by assumption) ?_)
    | refine ek_seqN ?_ | refine ek_seqX ?_ | refine ek_seqR ?_ | refine ek_blkN ?_ | refine ek_blkR ?_ | refine ek_blkX ?_ | refine ek_blkY rfl ?_)
  refine sfin (.inr rfl) (by rfl) (by rfl) (by exact ⟨rfl, rfl, rfl⟩) (by rfl) (by rfl) (by rfl) (by first | rfl | (simp; done) | (simp [ints, prs]; done))
theorem lp19_0_nils_nils  :
    LpS cx 26 0 m19_0 [(0, .nils), (1, .nils), (5, .int .i64 (0 : Nat))] [] (⟨.exit 0, [], []⟩ : Out).x (⟨.exit 0, [], []⟩ : Out).e (⟨.exit 0, [], []⟩ : Out).h := by
  refine lp_st (0) (fun _ => ()) (fun i _ => [(0, .nils), (1, .nils), (5, .int .i64 (i : Nat))]) (fun i _ => []) (fun _ => (⟨.exit 0, [], []⟩ : Out)) ?_ ?_ (0) 0 (by omega)
  · intro i u_ hi hu_
    refine ⟨(), rfl, ?_⟩
    exact absurd hi (by simp)
  · intro u_ hu_
    have hlt : decide (((0 : Nat) : Int) < (0 : Nat)) = false := decide_eq_false (by omega)
    unfold m19_0
    repeat' (first
      | (refine g_op ?_; first
        | refine ep_mov rfl ?_ | refine ep_load1 rfl rfl rfl rfl ?_
        | refine ep_bin rfl rfl (by first | exact b_add (by omega) (by omega) | exact b_sub (by omega) (by omega) | exact b_and (by omega) (by omega) | exact b_or (by omega) (by omega) | exact b_shr (by omega) | exact b_shl (by omega) (by omega) | exact b_lss | exact b_leq | exact b_gtr | exact b_geq | exact b_eql | exact b_neq) ?_
        | refine ep_lenS rfl ?_ | refine ep_lenN rfl ?_ | refine ep_lenE rfl ?_ | refine sp_idx rfl rfl rfl (by omega) rfl ?_ | refine ep_loadS rfl rfl rfl (by first | exact ints_get (by omega) | exact zints_get (by omega) | exact fget (by omega) | assumption) ?_)
      | (refine g_ops ?_; first | refine eo_none ?_ | refine eo_nil ?_)
      | (refine g_dops ?_; first | refine ed_none ?_ | refine ed_nil ?_)
      | refine ed_same rfl ?_ | refine ed_one rfl rfl rfl rfl ?_ | refine ed_two rfl rfl rfl rfl rfl rfl rfl ?_ | refine ed_write rfl rfl ?_
      | (refine g_code ?_; first | refine ec_seq ?_ | refine ec_region ?_ | refine ec_draw ?_ | refine ec_block ?_ | refine ec_skip ?_ | refine ec_exit ?_ | refine ec_ret ?_ | refine ec_condT rfl ?_ | refine ec_condF rfl ?_ | refine ec_condTH rfl (by assumption) ?_ | refine ec_condFH rfl (by assumption) ?_)
      | refine ek_seqN ?_ | refine ek_seqX ?_ | refine ek_seqR ?_ | refine ek_blkN ?_ | refine ek_blkR ?_ | refine ek_blkX ?_ | refine ek_blkY rfl ?_)
    exact rnd_out (by rfl) (by simp) (scmp2 (by rfl) (by rfl) (by exact ⟨rfl, rfl, rfl⟩) (by rfl) (by first | rfl | (simp; done) | (simp [ints, prs]; done)) (by rfl) (by first | rfl | (simp; done) | (simp [ints, prs]; done)))

theorem ev19_nils_nils : Ev cx 19 [.nils, .nils] [] (.bool true) [] := by
  have lp := lp19_0_nils_nils
  refine has19.eev rfl rfl ?_
  unfold m19
  repeat' (first
    | refine sc_loop lp rfl rfl ⟨rfl, rfl, rfl⟩ rfl rfl rfl ?_
    | (refine g_op ?_; first
      | refine ep_mov rfl ?_
      | refine ep_bin rfl rfl (by first | exact b_add (by omega) (by omega) | exact b_sub (by omega) (by omega) | exact b_and (by omega) (by omega) | exact b_or (by omega) (by omega) | exact b_shr (by omega) | exact b_shl (by omega) (by omega) | exact b_lss | exact b_leq | exact b_gtr | exact b_geq | exact b_eql | exact b_neq) ?_
      | refine ep_lenS rfl ?_ | refine ep_lenN rfl ?_ | refine ep_lenE rfl ?_)
    | (refine g_ops ?_; first | refine eo_none ?_ | refine eo_nil ?_)
    | (refine g_code ?_; first | refine ec_seq ?_ | refine ec_region ?_ | refine ec_block ?_ | refine ec_skip ?_ | refine ec_ret ?_ | refine ec_condT rfl ?_ | refine ec_condF rfl ?_ | refine ec_condTH rfl (by assumption) ?_ | refine ec_condFH rfl (by assumption) ?_)
    | refine ek_seqN ?_ | refine ek_seqX ?_ | refine ek_seqR ?_ | refine ek_blkN ?_ | refine ek_blkR ?_ | refine ek_blkX ?_ | refine ek_blkY rfl ?_)
  refine sfin (.inr rfl) (by rfl) (by rfl) (by exact ⟨rfl, rfl, rfl⟩) (by rfl) (by rfl) (by rfl) (by first | rfl | (simp; done) | (simp [ints, prs]; done))
theorem lp19_0_nils_emp  :
    LpS cx 26 0 m19_0 [(0, .nils), (1, .emp), (5, .int .i64 (0 : Nat))] [] (⟨.exit 0, [], []⟩ : Out).x (⟨.exit 0, [], []⟩ : Out).e (⟨.exit 0, [], []⟩ : Out).h := by
  refine lp_st (0) (fun _ => ()) (fun i _ => [(0, .nils), (1, .emp), (5, .int .i64 (i : Nat))]) (fun i _ => []) (fun _ => (⟨.exit 0, [], []⟩ : Out)) ?_ ?_ (0) 0 (by omega)
  · intro i u_ hi hu_
    refine ⟨(), rfl, ?_⟩
    exact absurd hi (by simp)
  · intro u_ hu_
    have hlt : decide (((0 : Nat) : Int) < (0 : Nat)) = false := decide_eq_false (by omega)
    unfold m19_0
    repeat' (first
      | (refine g_op ?_; first
        | refine ep_mov rfl ?_ | refine ep_load1 rfl rfl rfl rfl ?_
        | refine ep_bin rfl rfl (by first | exact b_add (by omega) (by omega) | exact b_sub (by omega) (by omega) | exact b_and (by omega) (by omega) | exact b_or (by omega) (by omega) | exact b_shr (by omega) | exact b_shl (by omega) (by omega) | exact b_lss | exact b_leq | exact b_gtr | exact b_geq | exact b_eql | exact b_neq) ?_
        | refine ep_lenS rfl ?_ | refine ep_lenN rfl ?_ | refine ep_lenE rfl ?_ | refine sp_idx rfl rfl rfl (by omega) rfl ?_ | refine ep_loadS rfl rfl rfl (by first | exact ints_get (by omega) | exact zints_get (by omega) | exact fget (by omega) | assumption) ?_)
      | (refine g_ops ?_; first | refine eo_none ?_ | refine eo_nil ?_)
      | (refine g_dops ?_; first | refine ed_none ?_ | refine ed_nil ?_)
      | refine ed_same rfl ?_ | refine ed_one rfl rfl rfl rfl ?_ | refine ed_two rfl rfl rfl rfl rfl rfl rfl ?_ | refine ed_write rfl rfl ?_
      | (refine g_code ?_; first | refine ec_seq ?_ | refine ec_region ?_ | refine ec_draw ?_ | refine ec_block ?_ | refine ec_skip ?_ | refine ec_exit ?_ | refine ec_ret ?_ | refine ec_condT rfl ?_ | refine ec_condF rfl ?_ | refine ec_condTH rfl (by assumption) ?_ | refine ec_condFH rfl (by assumption) ?_)
      | refine ek_seqN ?_ | refine ek_seqX ?_ | refine ek_seqR ?_ | refine ek_blkN ?_ | refine ek_blkR ?_ | refine ek_blkX ?_ | refine ek_blkY rfl ?_)
    exact rnd_out (by rfl) (by simp) (scmp2 (by rfl) (by rfl) (by exact ⟨rfl, rfl, rfl⟩) (by rfl) (by first | rfl | (simp; done) | (simp [ints, prs]; done)) (by rfl) (by first | rfl | (simp; done) | (simp [ints, prs]; done)))

theorem ev19_nils_emp : Ev cx 19 [.nils, .emp] [] (.bool true) [] := by
  have lp := lp19_0_nils_emp
  refine has19.eev rfl rfl ?_
  unfold m19
  repeat' (first
    | refine sc_loop lp rfl rfl ⟨rfl, rfl, rfl⟩ rfl rfl rfl ?_
    | (refine g_op ?_; first
      | refine ep_mov rfl ?_
      | refine ep_bin rfl rfl (by first | exact b_add (by omega) (by omega) | exact b_sub (by omega) (by omega) | exact b_and (by omega) (by omega) | exact b_or (by omega) (by omega) | exact b_shr (by omega) | exact b_shl (by omega) (by omega) | exact b_lss | exact b_leq | exact b_gtr | exact b_geq | exact b_eql | exact b_neq) ?_
      | refine ep_lenS rfl ?_ | refine ep_lenN rfl ?_ | refine ep_lenE rfl ?_)
    | (refine g_ops ?_; first | refine eo_none ?_ | refine eo_nil ?_)
    | (refine g_code ?_; first | refine ec_seq ?_ | refine ec_region ?_ | refine ec_block ?_ | refine ec_skip ?_ | refine ec_ret ?_ | refine ec_condT rfl ?_ | refine ec_condF rfl ?_ | refine ec_condTH rfl (by assumption) ?_ | refine ec_condFH rfl (by assumption) ?_)
    | refine ek_seqN ?_ | refine ek_seqX ?_ | refine ek_seqR ?_ | refine ek_blkN ?_ | refine ek_blkR ?_ | refine ek_blkX ?_ | refine ek_blkY rfl ?_)
  refine sfin (.inr rfl) (by rfl) (by rfl) (by exact ⟨rfl, rfl, rfl⟩) (by rfl) (by rfl) (by rfl) (by first | rfl | (simp; done) | (simp [ints, prs]; done))
theorem lp19_0_emp_nils  :
    LpS cx 26 0 m19_0 [(0, .emp), (1, .nils), (5, .int .i64 (0 : Nat))] [] (⟨.exit 0, [], []⟩ : Out).x (⟨.exit 0, [], []⟩ : Out).e (⟨.exit 0, [], []⟩ : Out).h := by
  refine lp_st (0) (fun _ => ()) (fun i _ => [(0, .emp), (1, .nils), (5, .int .i64 (i : Nat))]) (fun i _ => []) (fun _ => (⟨.exit 0, [], []⟩ : Out)) ?_ ?_ (0) 0 (by omega)
  · intro i u_ hi hu_
    refine ⟨(), rfl, ?_⟩
    exact absurd hi (by simp)
  · intro u_ hu_
    have hlt : decide (((0 : Nat) : Int) < (0 : Nat)) = false := decide_eq_false (by omega)
    unfold m19_0
    repeat' (first
      | (refine g_op ?_; first
        | refine ep_mov rfl ?_ | refine ep_load1 rfl rfl rfl rfl ?_
        | refine ep_bin rfl rfl (by first | exact b_add (by omega) (by omega) | exact b_sub (by omega) (by omega) | exact b_and (by omega) (by omega) | exact b_or (by omega) (by omega) | exact b_shr (by omega) | exact b_shl (by omega) (by omega) | exact b_lss | exact b_leq | exact b_gtr | exact b_geq | exact b_eql | exact b_neq) ?_
        | refine ep_lenS rfl ?_ | refine ep_lenN rfl ?_ | refine ep_lenE rfl ?_ | refine sp_idx rfl rfl rfl (by omega) rfl ?_ | refine ep_loadS rfl rfl rfl (by first | exact ints_get (by omega) | exact zints_get (by omega) | exact fget (by omega) | assumption) ?_)
      | (refine g_ops ?_; first | refine eo_none ?_ | refine eo_nil ?_)
      | (refine g_dops ?_; first | refine ed_none ?_ | refine ed_nil ?_)
      | refine ed_same rfl ?_ | refine ed_one rfl rfl rfl rfl ?_ | refine ed_two rfl rfl rfl rfl rfl rfl rfl ?_ | refine ed_write rfl rfl ?_
      | (refine g_code ?_; first | refine ec_seq ?_ | refine ec_region ?_ | refine ec_draw ?_ | refine ec_block ?_ | refine ec_skip ?_ | refine ec_exit ?_ | refine ec_ret ?_ | refine ec_condT rfl ?_ | refine ec_condF rfl ?_ | refine ec_condTH rfl (by assumption) ?_ | refine ec_condFH rfl (by assumption) ?_)
      | refine ek_seqN ?_ | refine ek_seqX ?_ | refine ek_seqR ?_ | refine ek_blkN ?_ | refine ek_blkR ?_ | refine ek_blkX ?_ | refine ek_blkY rfl ?_)
    exact rnd_out (by rfl) (by simp) (scmp2 (by rfl) (by rfl) (by exact ⟨rfl, rfl, rfl⟩) (by rfl) (by first | rfl | (simp; done) | (simp [ints, prs]; done)) (by rfl) (by first | rfl | (simp; done) | (simp [ints, prs]; done)))

theorem ev19_emp_nils : Ev cx 19 [.emp, .nils] [] (.bool true) [] := by
  have lp := lp19_0_emp_nils
  refine has19.eev rfl rfl ?_
  unfold m19
  repeat' (first
    | refine sc_loop lp rfl rfl ⟨rfl, rfl, rfl⟩ rfl rfl rfl ?_
    | (refine g_op ?_; first
      | refine ep_mov rfl ?_
      | refine ep_bin rfl rfl (by first | exact b_add (by omega) (by omega) | exact b_sub (by omega) (by omega) | exact b_and (by omega) (by omega) | exact b_or (by omega) (by omega) | exact b_shr (by omega) | exact b_shl (by omega) (by omega) | exact b_lss | exact b_leq | exact b_gtr | exact b_geq | exact b_eql | exact b_neq) ?_
      | refine ep_lenS rfl ?_ | refine ep_lenN rfl ?_ | refine ep_lenE rfl ?_)
    | (refine g_ops ?_; first | refine eo_none ?_ | refine eo_nil ?_)
    | (refine g_code ?_; first | refine ec_seq ?_ | refine ec_region ?_ | refine ec_block ?_ | refine ec_skip ?_ | refine ec_ret ?_ | refine ec_condT rfl ?_ | refine ec_condF rfl ?_ | refine ec_condTH rfl (by assumption) ?_ | refine ec_condFH rfl (by assumption) ?_)
    | refine ek_seqN ?_ | refine ek_seqX ?_ | refine ek_seqR ?_ | refine ek_blkN ?_ | refine ek_blkR ?_ | refine ek_blkX ?_ | refine ek_blkY rfl ?_)
  refine sfin (.inr rfl) (by rfl) (by rfl) (by exact ⟨rfl, rfl, rfl⟩) (by rfl) (by rfl) (by rfl) (by first | rfl | (simp; done) | (simp [ints, prs]; done))
theorem lp19_0_emp_emp  :
    LpS cx 26 0 m19_0 [(0, .emp), (1, .emp), (5, .int .i64 (0 : Nat))] [] (⟨.exit 0, [], []⟩ : Out).x (⟨.exit 0, [], []⟩ : Out).e (⟨.exit 0, [], []⟩ : Out).h := by
  refine lp_st (0) (fun _ => ()) (fun i _ => [(0, .emp), (1, .emp), (5, .int .i64 (i : Nat))]) (fun i _ => []) (fun _ => (⟨.exit 0, [], []⟩ : Out)) ?_ ?_ (0) 0 (by omega)
  · intro i u_ hi hu_
    refine ⟨(), rfl, ?_⟩
    exact absurd hi (by simp)
  · intro u_ hu_
    have hlt : decide (((0 : Nat) : Int) < (0 : Nat)) = false := decide_eq_false (by omega)
    unfold m19_0
    repeat' (first
      | (refine g_op ?_; first
        | refine ep_mov rfl ?_ | refine ep_load1 rfl rfl rfl rfl ?_
        | refine ep_bin rfl rfl (by first | exact b_add (by omega) (by omega) | exact b_sub (by omega) (by omega) | exact b_and (by omega) (by omega) | exact b_or (by omega) (by omega) | exact b_shr (by omega) | exact b_shl (by omega) (by omega) | exact b_lss | exact b_leq | exact b_gtr | exact b_geq | exact b_eql | exact b_neq) ?_
        | refine ep_lenS rfl ?_ | refine ep_lenN rfl ?_ | refine ep_lenE rfl ?_ | refine sp_idx rfl rfl rfl (by omega) rfl ?_ | refine ep_loadS rfl rfl rfl (by first | exact ints_get (by omega) | exact zints_get (by omega) | exact fget (by omega) | assumption) ?_)
      | (refine g_ops ?_; first | refine eo_none ?_ | refine eo_nil ?_)
      | (refine g_dops ?_; first | refine ed_none ?_ | refine ed_nil ?_)
      | refine ed_same rfl ?_ | refine ed_one rfl rfl rfl rfl ?_ | refine ed_two rfl rfl rfl rfl rfl rfl rfl ?_ | refine ed_write rfl rfl ?_
      | (refine g_code ?_; first | refine ec_seq ?_ | refine ec_region ?_ | refine ec_draw ?_ | refine ec_block ?_ | refine ec_skip ?_ | refine ec_exit ?_ | refine ec_ret ?_ | refine ec_condT rfl ?_ | refine ec_condF rfl ?_ | refine ec_condTH rfl (by assumption) ?_ | refine ec_condFH rfl (by assumption) ?_)
      | refine ek_seqN ?_ | refine ek_seqX ?_ | refine ek_seqR ?_ | refine ek_blkN ?_ | refine ek_blkR ?_ | refine ek_blkX ?_ | refine ek_blkY rfl ?_)
    exact rnd_out (by rfl) (by simp) (scmp2 (by rfl) (by rfl) (by exact ⟨rfl, rfl, rfl⟩) (by rfl) (by first | rfl | (simp; done) | (simp [ints, prs]; done)) (by rfl) (by first | rfl | (simp; done) | (simp [ints, prs]; done)))

theorem ev19_emp_emp : Ev cx 19 [.emp, .emp] [] (.bool true) [] := by
  have lp := lp19_0_emp_emp
  refine has19.eev rfl rfl ?_
  unfold m19
  repeat' (first
    | refine sc_loop lp rfl rfl ⟨rfl, rfl, rfl⟩ rfl rfl rfl ?_
    | (refine g_op ?_; first
      | refine ep_mov rfl ?_
      | refine ep_bin rfl rfl (by first | exact b_add (by omega) (by omega) | exact b_sub (by omega) (by omega) | exact b_and (by omega) (by omega) | exact b_or (by omega) (by omega) | exact b_shr (by omega) | exact b_shl (by omega) (by omega) | exact b_lss | exact b_leq | exact b_gtr | exact b_geq | exact b_eql | exact b_neq) ?_
      | refine ep_lenS rfl ?_ | refine ep_lenN rfl ?_ | refine ep_lenE rfl ?_)
    | (refine g_ops ?_; first | refine eo_none ?_ | refine eo_nil ?_)
    | (refine g_code ?_; first | refine ec_seq ?_ | refine ec_region ?_ | refine ec_block ?_ | refine ec_skip ?_ | refine ec_ret ?_ | refine ec_condT rfl ?_ | refine ec_condF rfl ?_ | refine ec_condTH rfl (by assumption) ?_ | refine ec_condFH rfl (by assumption) ?_)
    | refine ek_seqN ?_ | refine ek_seqX ?_ | refine ek_seqR ?_ | refine ek_blkN ?_ | refine ek_blkR ?_ | refine ek_blkX ?_ | refine ek_blkY rfl ?_)
  refine sfin (.inr rfl) (by rfl) (by rfl) (by exact ⟨rfl, rfl, rfl⟩) (by rfl) (by rfl) (by rfl) (by first | rfl | (simp; done) | (simp [ints, prs]; done))

def inR (n : Nat) (r : Int) : Bool := decide (0 ≤ r ∧ r ≤ (R2 n : Nat) - 1)
-- impl.isAbove
def m68 : MC := (.seq (.region [⟨(.mov (.k (.bool false))), (some 4), none⟩] false) (.seq (.region [⟨(.mov (.t 1)), (some 5), none⟩, ⟨(.mov (.t 0)), (some 6), none⟩, ⟨(.bin .andNot (.t 5) (.t 6)), (some 7), none⟩, ⟨(.bin .eql (.t 7) (.k (.int .i64 0))), (some 8), none⟩, ⟨(.mov (.t 8)), (some 4), none⟩] false) .ret))
theorem has68 : Has cx 68 9 m68 [(.tmp 4)] :=
  ⟨⟨Try.f68, Try.f68.body.getD .skip, by kernel_rfl, by kernel_rfl, by kernel_rfl, by kernel_rfl, by kernel_rfl, by kernel_rfl⟩⟩
theorem ev68 (r s : Nat) (hr : r < 65536) (hs : s < 65536) : Ev cx 68 [.int .i64 r, .int .i64 s] [] (.bool (r &&& s == s)) [] := by
  have h1 := and_le_l s r
  have hq : (((s - (s &&& r) : Nat) : Int) == 0) = (r &&& s == s) := by
    rw [Bool.eq_iff_iff]; simp only [beq_iff_eq]; rw [Nat.and_comm r s]; omega
  refine has68.eev rfl rfl ?_
  unfold m68
  repeat' (first
    | (refine g_op ?_; first
      | refine ep_mov rfl ?_
      | refine ep_bin rfl rfl (by first | exact b_andNot (by omega) (by omega) | exact b_add (by omega) (by omega) | exact b_sub (by omega) (by omega) | exact b_and (by omega) (by omega) | exact b_or (by omega) (by omega) | exact b_shr (by omega) | exact b_shl (by omega) (by omega) | exact b_lss | exact b_leq | exact b_gtr | exact b_geq | exact b_eql | exact b_neq) ?_)
    | (refine g_ops ?_; first | refine eo_none ?_ | refine eo_nil ?_)
    | (refine g_code ?_; first | refine ec_seq ?_ | refine ec_region ?_ | refine ec_ret ?_)
    | refine ek_seqN ?_ | refine ek_seqR ?_)
  refine sfin (.inr rfl) (by rfl) (by rfl) (by exact ⟨rfl, rfl, rfl⟩) (by rfl) (by rfl) (by exact congrArg V.bool hq) (by first | rfl | (simp; done) | (simp [ints, prs]; done))
-- spec.l03Has
def m99 : MC := (.seq (.region [⟨(.mov (.k (.bool false))), (some 4), none⟩] false) (.seq (.region [⟨(.mov (.t 0)), (some 5), none⟩, ⟨(.mov (.t 1)), (some 6), none⟩, ⟨(.bin .and (.t 5) (.t 6)), (some 7), none⟩, ⟨(.mov (.t 1)), (some 8), none⟩, ⟨(.bin .eql (.t 7) (.t 8)), (some 9), none⟩, ⟨(.mov (.t 9)), (some 4), none⟩] false) .ret))
theorem has99 : Has cx 99 10 m99 [(.tmp 4)] :=
  ⟨⟨Try.f99, Try.f99.body.getD .skip, by kernel_rfl, by kernel_rfl, by kernel_rfl, by kernel_rfl, by kernel_rfl, by kernel_rfl⟩⟩
theorem ev99 (r s : Nat) (hr : r < 65536) (hs : s < 65536) : Ev cx 99 [.int .i64 r, .int .i64 s] [] (.bool (r &&& s == s)) [] := by
  have hq := ieq (r &&& s) s
  refine has99.eev rfl rfl ?_
  unfold m99
  repeat' (first
    | (refine g_op ?_; first
      | refine ep_mov rfl ?_
      | refine ep_bin rfl rfl (by first | exact b_add (by omega) (by omega) | exact b_sub (by omega) (by omega) | exact b_and (by omega) (by omega) | exact b_or (by omega) (by omega) | exact b_shr (by omega) | exact b_shl (by omega) (by omega) | exact b_lss | exact b_leq | exact b_gtr | exact b_geq | exact b_eql | exact b_neq) ?_)
    | (refine g_ops ?_; first | refine eo_none ?_ | refine eo_nil ?_)
    | (refine g_code ?_; first | refine ec_seq ?_ | refine ec_region ?_ | refine ec_ret ?_)
    | refine ek_seqN ?_ | refine ek_seqR ?_)
  refine sfin (.inr rfl) (by rfl) (by rfl) (by exact ⟨rfl, rfl, rfl⟩) (by rfl) (by rfl) (by exact congrArg V.bool hq) (by first | rfl | (simp; done) | (simp [ints, prs]; done))
-- slices.IndexFunc[[]int64,int64]
def m112_0 : MC := (.seq (.region [⟨(.bin .lss (.t 8) (.t 7)), (some 9), none⟩] false) (.seq (.cond (.t 9) .skip (.exit 0)) (.seq (.block 1 (.seq (.region [⟨(.mov (.t 8)), (some 10), none⟩, ⟨(.mov (.t 10)), (some 5), none⟩] false) (.seq (.region [⟨(.mov (.t 1)), (some 11), none⟩, ⟨(.mov (.t 0)), (some 12), none⟩, ⟨(.mov (.t 5)), (some 13), none⟩, ⟨(.indexAddr 1 (.t 12) (.t 13)), (some 14), none⟩, ⟨(.load none (.t 14)), (some 15), none⟩, ⟨(.callv (.t 11) [(.t 15)]), (some 16), none⟩] false) (.cond (.t 16) (.seq (.region [⟨(.mov (.t 5)), (some 17), none⟩, ⟨(.mov (.t 17)), (some 4), none⟩] false) .ret) .skip)))) (.region [⟨(.bin .add (.t 8) (.k (.int .i64 1))), (some 18), none⟩, ⟨(.mov (.t 18)), (some 8), none⟩] false))))
def m112 : MC := (.seq (.region [⟨(.mov (.k (.int .i64 0))), (some 4), none⟩] false) (.seq (.seq (.region [⟨(.mov (.t 0)), (some 6), none⟩, ⟨(.len (.t 6)), (some 7), none⟩, ⟨(.mov (.k (.int .i64 0))), (some 8), none⟩] false) (.block 0 (.loop m112_0))) (.seq (.region [⟨(.mov (.k (.int .i64 (-1)))), (some 4), none⟩] false) .ret)))
theorem has112 : Has cx 112 19 m112 [(.tmp 4)] :=
  ⟨⟨Try.f112, Try.f112.body.getD .skip, by kernel_rfl, by kernel_rfl, by kernel_rfl, by kernel_rfl, by kernel_rfl, by kernel_rfl⟩⟩

-- slices.ContainsFunc[[]int64,int64]
def m66 : MC := (.seq (.region [⟨(.mov (.k (.bool false))), (some 4), none⟩] false) (.seq (.region [⟨(.mov (.t 0)), (some 5), none⟩, ⟨(.mov (.t 1)), (some 6), none⟩, ⟨(.call 112 [(.t 5), (.t 6)]), (some 7), none⟩, ⟨(.bin .geq (.t 7) (.k (.int .i64 0))), (some 8), none⟩, ⟨(.mov (.t 8)), (some 4), none⟩] false) .ret))
theorem has66 : Has cx 66 9 m66 [(.tmp 4)] :=
  ⟨⟨Try.f66, Try.f66.body.getD .skip, by kernel_rfl, by kernel_rfl, by kernel_rfl, by kernel_rfl, by kernel_rfl, by kernel_rfl⟩⟩

def d01 (z : Int) : Bool := decide (0 ≤ z ∧ z ≤ 1)
def digs (c : List Int) : Bool := allF (fun j => d01 (c.getD j 0)) 0 c.length
def lvG (l : List Nat) (r : Nat) : Nat := l.getD (pop r 16) 0
theorem pop_n {r n : Nat} (hn : n ≤ 4) (h : r < R2 n) : pop r 16 ≤ n := by
  have : R2 n ≤ R2 4 := R2_mono hn
  have h3 : n < R2 n := by unfold R2; exact Nat.lt_two_pow_self
  have e1 : pop r 16 = pop r n := by
    refine pop_ge (n := n) ?_ 16 (by omega)
    exact h
  rw [e1]; exact pop_le r n
def bsz (r : Nat) : Nat := if r = 0 then 0 else if r = 1 then 1 else if r < 4 then 2 else if r < 8 then 3 else 4
theorem bszF : ∀ r, r < 16 → (∀ i, i < bsz r → 1 ≤ r / R2 i) ∧ r / R2 (bsz r) = 0 ∧ pop r (bsz r) = pop r 16 ∧ bsz r ≤ 4 := by decide +kernel
theorem bt_div (r i : Nat) : bt r i = r / R2 i % 2 := by
  unfold bt R2; rw [Nat.shiftRight_eq_div_pow, Nat.and_one_is_mod]
theorem div_succ (r i : Nat) : r / R2 i / 2 = r / R2 (i + 1) := by rw [Nat.div_div_eq_div_mul, show R2 (i + 1) = R2 i * 2 by unfold R2; rw [Nat.pow_succ]]
def idG (i j t : Nat) : Nat := ((t - t % R2 j) <<< 1) ||| (bt t i <<< j) ||| (t % R2 j)
def idP (b i j t : Nat) : Bool := bt b (idG i j t) == 1
def idF (j t : Nat) : Nat := (t % R2 j) ||| ((t >>> (j + 1)) <<< j)
def chkId (q : Nat → Nat → Nat → Nat → Bool) : Bool := allF (fun n => allF (fun j => allF (fun i => allF (fun t => q n j i t) 0 16) 0 j) 0 n) 0 5
theorem chkId_ok {q : Nat → Nat → Nat → Nat → Bool} (h : chkId q = true) {n j i t : Nat} (hn : n ≤ 4) (hj : j < n) (hi : i < j) (ht : t < 16) : q n j i t = true := by
  have h1 := (allF_iff 5 0).mp h n (by omega) (by omega)
  have h2 := (allF_iff n 0).mp h1 j (by omega) (by omega)
  have h3 := (allF_iff j 0).mp h2 i (by omega) (by omega)
  exact (allF_iff 16 0).mp h3 t (by omega) (by omega)
theorem id_c1 : chkId (fun n j i t => !decide (t < R2 (n - 1)) || (decide (idG i j t < R2 n) && (bt (idG i j t) i == bt (idG i j t) j) && (idF j (idG i j t) == t))) = true := by decide +kernel
theorem id_f1 (n : Nat) (hn : n ≤ 4) (j : Nat) (hj : j < n) (i : Nat) (hi : i < j) (t : Nat) (ht : t < R2 (n - 1)) : idG i j t < R2 n ∧ bt (idG i j t) i = bt (idG i j t) j ∧ idF j (idG i j t) = t := by
  have := R2_mono (i := n - 1) (n := 4) (by omega)
  have h := chkId_ok id_c1 hn hj hi (t := t) (by have : R2 4 = 16 := (by unfold R2; rfl); omega)
  simp only [decide_eq_true ht, Bool.not_true, Bool.false_or, Bool.and_eq_true, decide_eq_true_eq, beq_iff_eq] at h
  exact ⟨h.1.1, h.1.2, h.2⟩
theorem id_f2 : ∀ n, n ≤ 4 → ∀ j, j < n → ∀ i, i < j → ∀ t, t < R2 (n - 1) → (t - t % R2 j) <<< 1 < 16 ∧ bt t i <<< j < 16 ∧ ((t - t % R2 j) <<< 1) ||| (bt t i <<< j) < 16 := by decide +kernel
theorem id_f3 : ∀ n, n ≤ 4 → ∀ j, j < n → ∀ t, t < R2 n → idF j t < 16 ∧ t >>> (j + 1) < 16 ∧ (t >>> (j + 1)) <<< j < 16 := by decide +kernel
theorem id_c4 : chkId (fun n j i t => !decide (t < R2 n) || !(bt t i == bt t j) || ((idG i j (idF j t) == t) && decide (idF j t < R2 (n - 1)))) = true := by decide +kernel
theorem id_f4 (n : Nat) (hn : n ≤ 4) (j : Nat) (hj : j < n) (i : Nat) (hi : i < j) (t : Nat) (ht : t < R2 n) (hb : bt t i = bt t j) : idG i j (idF j t) = t ∧ idF j t < R2 (n - 1) := by
  have := R2_mono (i := n) (n := 4) (by omega)
  have h := chkId_ok id_c4 hn hj hi (t := t) (by have : R2 4 = 16 := (by unfold R2; rfl); omega)
  simp only [decide_eq_true ht, hb, beq_self_eq_true, Bool.not_true, Bool.false_or, Bool.and_eq_true, decide_eq_true_eq, beq_iff_eq] at h
  exact h
theorem id_fin (n : Nat) (hn : n ≤ 4) (j : Nat) (hj : j < n) (i : Nat) (hi : i < j) : (∀ t, t < R2 (n - 1) → idG i j t < R2 n ∧ bt (idG i j t) i = bt (idG i j t) j ∧ idF j (idG i j t) = t ∧ (t - t % R2 j) <<< 1 < 16 ∧ bt t i <<< j < 16 ∧ ((t - t % R2 j) <<< 1) ||| (bt t i <<< j) < 16) ∧
    (∀ t, t < R2 n → idF j t < 16 ∧ t >>> (j + 1) < 16 ∧ (t >>> (j + 1)) <<< j < 16 ∧ (bt t i = bt t j → idG i j (idF j t) = t ∧ idF j t < R2 (n - 1))) := by
  refine ⟨fun t ht => ?_, fun t ht => ?_⟩
  · obtain ⟨a1, a2, a3⟩ := id_f1 n hn j hj i hi t ht
    exact ⟨a1, a2, a3, id_f2 n hn j hj i hi t ht⟩
  · obtain ⟨a1, a2, a3⟩ := id_f3 n hn j hj t ht
    exact ⟨a1, a2, a3, id_f4 n hn j hj i hi t ht⟩
def idA (l : List Nat) (i j : Nat) : Nat → Nat
  | 0 => 0
  | k + 1 => if bt (l.getD k 0) i = bt (l.getD k 0) j then idA l i j k ||| R2 (idF j (l.getD k 0)) else idA l i j k
theorem idA_tb (l : List Nat) (i j u : Nat) : ∀ k, (idA l i j k).testBit u = true ↔ ∃ q, q < k ∧ bt (l.getD q 0) i = bt (l.getD q 0) j ∧ idF j (l.getD q 0) = u
  | 0 => by simp [idA]
  | k + 1 => by
    rw [idA]
    constructor
    · intro h
      split at h
      · rename_i hc
        rw [Nat.testBit_or, Bool.or_eq_true, idA_tb l i j u k, R2_tb, decide_eq_true_eq] at h
        rcases h with ⟨q, h1, h2⟩ | h
        · exact ⟨q, by omega, h2⟩
        · exact ⟨k, by omega, hc, h⟩
      · obtain ⟨q, h1, h2⟩ := (idA_tb l i j u k).mp h
        exact ⟨q, by omega, h2⟩
    · rintro ⟨q, h1, h2, h3⟩
      by_cases e : q = k
      · subst e; rw [if_pos h2, Nat.testBit_or, R2_tb, h3]; simp
      · have := (idA_tb l i j u k).mpr ⟨q, by omega, h2, h3⟩
        split
        · rw [Nat.testBit_or, this]; rfl
        · exact this
theorem idA_lt {n i j : Nat} {l : List Nat} (hn : n ≤ 4) (hj : j < n) (hi : i < j) (hl : ∀ q, q < l.length → l.getD q 0 < R2 n) : ∀ k, k ≤ l.length → idA l i j k < R2 (R2 (n - 1))
  | 0, _ => R2_pos _
  | k + 1, h => by
    have ih := idA_lt hn hj hi hl k (by omega)
    rw [idA]; split
    · rename_i hc
      have := (((id_fin n hn j hj i hi).2 _ (hl k (by omega))).2.2.2 hc).2
      refine or_lt ih ?_
      unfold R2 at this ⊢; exact Nat.pow_lt_pow_right (by omega) this
    · exact ih
theorem idA_eq {n b i j : Nat} (hn : n ≤ 4) (hj : j < n) (hi : i < j) : idA (tupL n b) i j (tupL n b).length = pk (bn (idP b i j)) (R2 (n - 1)) := by
  apply Nat.eq_of_testBit_eq
  intro u
  rw [Bool.eq_iff_iff, idA_tb, pk_tb fun r _ => bn_le _ r, Bool.and_eq_true, decide_eq_true_eq, decide_eq_true_eq]
  obtain ⟨f1, f2⟩ := id_fin n hn j hj i hi
  have hb : bn (idP b i j) u = 1 ↔ bt b (idG i j u) = 1 := by unfold bn idP; by_cases x : bt b (idG i j u) = 1 <;> simp [x]
  rw [hb]
  constructor
  · rintro ⟨q, h1, h2, rfl⟩
    obtain ⟨g1, g2⟩ := tupL_mem.mp (getD_mem h1)
    obtain ⟨k1, k2⟩ := (f2 _ g1).2.2.2 h2
    exact ⟨k2, by rw [k1]; exact g2⟩
  · rintro ⟨h1, h2⟩
    obtain ⟨k1, k2, k3, _⟩ := f1 u h1
    obtain ⟨q, hq, eq⟩ := mem_getD (tupL_mem.mpr ⟨k1, h2⟩)
    exact ⟨q, hq, by rw [eq]; exact k2, by rw [eq]; exact k3⟩
def mkc (c : List V) (i : Nat) : List V := ints ((List.range i).map fun x => x + 1) ++ c.drop i
theorem mkc_len {c : List V} {i : Nat} (h : i ≤ c.length) : (mkc c i).length = c.length := by simp [mkc, ints]; omega
theorem mkc_get {c : List V} {i j : Nat} (h : j < i) : (mkc c i)[j]? = some (.int .i64 ((j + 1 : Nat) : Int)) := by
  rw [mkc, List.getElem?_append_left (by simp [ints]; omega)]
  simp [ints, h]
theorem mkc_set {c : List V} {i : Nat} (h : i < c.length) : (mkc c i).take i ++ [V.int .i64 ((i + 1 : Nat) : Int)] ++ (mkc c i).drop (i + 1) = mkc c (i + 1) := by
  have e1 : (ints ((List.range i).map fun x => x + 1)).length = i := by simp [ints]
  unfold mkc
  rw [List.take_append_of_le_length (by omega), List.take_of_length_le (by omega), List.drop_append, List.drop_eq_nil_of_le (by omega), e1, show i + 1 - i = 1 by omega, List.nil_append, List.drop_drop, List.range_succ, List.map_append]
  simp [ints]
theorem mkc_set1 {c : List V} {i : Nat} (h : i < c.length) : (mkc c i).take (0 + i * 1) ++ [V.int .i64 ((i + 1 : Nat) : Int)] ++ (mkc c i).drop (0 + i * 1 + 1) = mkc c (i + 1) := by
  rw [show 0 + i * 1 = i by omega]; exact mkc_set h
theorem mkc_set20 {c : List V} {i : Nat} (h : 2 * i < c.length) : (mkc c (2 * i)).take (0 + i * 2 + 0) ++ [V.int .i64 ((2 * i + 1 : Nat) : Int)] ++ (mkc c (2 * i)).drop (0 + i * 2 + 0 + 1) = mkc c (2 * i + 1) := by
  rw [show 0 + i * 2 + 0 = 2 * i by omega]; exact mkc_set h
theorem mkc_set21 {c : List V} {i : Nat} (h : 2 * i + 1 < c.length) : (mkc c (2 * i + 1)).take (0 + i * 2 + 1) ++ [V.int .i64 ((2 * i + 1 + 1 : Nat) : Int)] ++ (mkc c (2 * i + 1)).drop (0 + i * 2 + 1 + 1) = mkc c (2 * (i + 1)) := by
  rw [show 0 + i * 2 + 1 = 2 * i + 1 by omega, show 2 * (i + 1) = 2 * i + 1 + 1 by omega]; exact mkc_set h
theorem mkc_0 (c : List V) : mkc c 0 = c := by simp [mkc, ints]
def pairAt (c : List V) (j : Nat) (f : Int × Int) : Prop := [V.int .i64 f.1, V.int .i64 f.2].length = 2 ∧ (0 + j * 2) + 2 ≤ c.length ∧ (c.drop (0 + j * 2)).take 2 = [V.int .i64 f.1, V.int .i64 f.2]
-- laws.markInt64S
def m20_0 : MC := (.seq (.seq (.region [⟨(.mov (.t 5)), (some 6), none⟩, ⟨(.mov (.t 0)), (some 7), none⟩, ⟨(.len (.t 7)), (some 8), none⟩, ⟨(.bin .lss (.t 6) (.t 8)), (some 9), none⟩] false) (.cond (.t 9) .skip (.exit 0))) (.seq (.block 1 (.seq (.region [⟨(.mov (.t 0)), (some 12), none⟩, ⟨(.mov (.t 5)), (some 13), none⟩, ⟨(.mov (.t 1)), (some 14), none⟩, ⟨(.indexAddr 1 (.t 12) (.t 13)), (some 15), none⟩, ⟨(.store 1 (.t 15) (.t 14)), none, none⟩] false) (.region [⟨(.mov (.t 1)), (some 16), none⟩, ⟨(.bin .add (.t 16) (.k (.int .i64 1))), (some 17), none⟩, ⟨(.mov (.t 17)), (some 1), none⟩] false))) (.region [⟨(.mov (.t 5)), (some 10), none⟩, ⟨(.bin .add (.t 10) (.k (.int .i64 1))), (some 11), none⟩, ⟨(.mov (.t 11)), (some 5), none⟩] false)))
def m20 : MC := (.seq (.region [⟨(.mov (.k (.int .i64 0))), (some 4), none⟩] false) (.seq (.seq (.region [⟨(.mov (.k (.int .i64 0))), (some 5), none⟩] false) (.block 0 (.loop m20_0))) (.seq (.region [⟨(.mov (.t 1)), (some 18), none⟩, ⟨(.mov (.t 18)), (some 4), none⟩] false) .ret)))
theorem has20 : Has cx 20 19 m20 [(.tmp 4)] :=
  ⟨⟨Try.f20, Try.f20.body.getD .skip, by kernel_rfl, by kernel_rfl, by kernel_rfl, by kernel_rfl, by kernel_rfl, by kernel_rfl⟩⟩
theorem lp20_0 (n : Nat) (c : List V) (hn : n ≤ 1048576) (hl : c.length = n * 1) :
    LpS cx 19 1 m20_0 [(0, .sl 0 0 n), (1, .int .i64 ((0) + 1 : Nat)), (5, .int .i64 (0 : Nat))] [⟨mkc c (0), 1, 0, some 0, false⟩] (⟨.exit 0, [(1, .int .i64 ((n) + 1 : Nat))], [⟨mkc c (n), 1, 0, some 0, false⟩]⟩ : Out).x (⟨.exit 0, [(1, .int .i64 ((n) + 1 : Nat))], [⟨mkc c (n), 1, 0, some 0, false⟩]⟩ : Out).e (⟨.exit 0, [(1, .int .i64 ((n) + 1 : Nat))], [⟨mkc c (n), 1, 0, some 0, false⟩]⟩ : Out).h := by
  refine lp_st (n) (fun _ => ()) (fun i _ => [(0, .sl 0 0 n), (1, .int .i64 ((i) + 1 : Nat)), (5, .int .i64 (i : Nat))]) (fun i _ => [⟨mkc c (i), 1, 0, some 0, false⟩]) (fun _ => (⟨.exit 0, [(1, .int .i64 ((n) + 1 : Nat))], [⟨mkc c (n), 1, 0, some 0, false⟩]⟩ : Out)) ?_ ?_ (n) 0 (by omega)
  · intro i u_ hi hu_
    refine ⟨(), rfl, ?_⟩
    have hlt : decide ((i : Int) < (n : Nat)) = true := decide_eq_true (by omega)
    have b1 : binV .add (.int .i64 (i + 1 : Nat)) (.int .i64 1) = some (.int .i64 ((i + 1) + 1 : Nat)) := b_addN (b := 1) (by omega)
    have l1 := mkc_len (c := c) (i := i) (by omega)
    unfold m20_0
    repeat' (first
      | refine sp_storeS rfl rfl rfl rfl rfl rfl rfl (Nat.zero_le _) (by omega) (mkc_set1 (by omega)) rfl ?_
      | (refine g_op ?_; first
        | refine ep_mov rfl ?_
        | refine ep_bin rfl rfl (by first | exact b1 | exact b_add (by omega) (by omega) | exact b_sub (by omega) (by omega) | exact b_and (by omega) (by omega) | exact b_or (by omega) (by omega) | exact b_shr (by omega) | exact b_shl (by omega) (by omega) | exact b_lss | exact b_leq | exact b_gtr | exact b_geq | exact b_eql | exact b_neq) ?_
        | refine sp_store rfl rfl rfl rfl rfl rfl rfl rfl rfl rfl ?_ | refine ep_lenS rfl ?_ | refine ep_lenN rfl ?_ | refine ep_lenE rfl ?_ | refine sp_idx rfl rfl rfl (by omega) rfl ?_)
      | (refine g_ops ?_; first | refine eo_none ?_ | refine eo_nil ?_)
      | (refine g_code ?_; first | refine ec_seq ?_ | refine ec_region ?_ | refine ec_block ?_ | refine ec_skip ?_ | refine ec_exit ?_ | refine ec_condT rfl ?_ | refine ec_condF rfl ?_ | refine ec_condTH rfl (by assumption) ?_ | refine ec_condFH rfl (by assumption) ?_)
      | refine ek_seqN ?_ | refine ek_seqX ?_ | refine ek_blkN ?_ | refine ek_blkR ?_ | refine ek_blkX ?_ | refine ek_blkY rfl ?_)
    exact rnd_on (by rfl) (scmp2 (by rfl) (by rfl) (by exact ⟨rfl, rfl, rfl⟩) (by rfl) (by first | rfl | (simp; done) | (simp [ints, prs]; done)) (by rfl) (by first | rfl | (simp; done) | (simp [ints, prs]; done)))
  · intro u_ hu_
    have hlt : decide (((n : Nat) : Int) < (n : Nat)) = false := decide_eq_false (by omega)
    unfold m20_0
    repeat' (first
      | (refine g_op ?_; first
        | refine ep_mov rfl ?_
        | refine ep_bin rfl rfl (by first | exact b_add (by omega) (by omega) | exact b_sub (by omega) (by omega) | exact b_and (by omega) (by omega) | exact b_or (by omega) (by omega) | exact b_shr (by omega) | exact b_shl (by omega) (by omega) | exact b_lss | exact b_leq | exact b_gtr | exact b_geq | exact b_eql | exact b_neq) ?_
        | refine sp_store rfl rfl rfl rfl rfl rfl rfl rfl rfl rfl ?_ | refine ep_lenS rfl ?_ | refine ep_lenN rfl ?_ | refine ep_lenE rfl ?_ | refine sp_idx rfl rfl rfl (by omega) rfl ?_)
      | (refine g_ops ?_; first | refine eo_none ?_ | refine eo_nil ?_)
      | (refine g_code ?_; first | refine ec_seq ?_ | refine ec_region ?_ | refine ec_block ?_ | refine ec_skip ?_ | refine ec_exit ?_ | refine ec_condT rfl ?_ | refine ec_condF rfl ?_ | refine ec_condTH rfl (by assumption) ?_ | refine ec_condFH rfl (by assumption) ?_)
      | refine ek_seqN ?_ | refine ek_seqX ?_ | refine ek_blkN ?_ | refine ek_blkR ?_ | refine ek_blkX ?_ | refine ek_blkY rfl ?_)
    exact rnd_out (by rfl) (by simp) (scmp2 (by rfl) (by rfl) (by exact ⟨rfl, rfl, rfl⟩) (by rfl) (by first | rfl | (simp; done) | (simp [ints, prs]; done)) (by rfl) (by first | rfl | (simp; done) | (simp [ints, prs]; done)))

theorem ev20 (n : Nat) (c : List V) (hn : n ≤ 1048576) (hl : c.length = n * 1) : Ev cx 20 [.sl 0 0 n, .int .i64 1] [⟨c, 1, 0, some 0, false⟩] (.int .i64 (n + 1 : Nat)) [⟨mkc c n, 1, 0, some 0, false⟩] := by
  have lp := lp20_0 n c hn hl
  rw [mkc_0] at lp
  refine has20.eev rfl rfl ?_
  unfold m20
  repeat' (first
    | refine sc_loop lp rfl rfl ⟨rfl, rfl, rfl⟩ rfl rfl rfl ?_
    | (refine g_op ?_; first
      | refine ep_mov rfl ?_)
    | (refine g_ops ?_; first | refine eo_none ?_ | refine eo_nil ?_)
    | (refine g_code ?_; first | refine ec_seq ?_ | refine ec_region ?_ | refine ec_block ?_ | refine ec_ret ?_)
    | refine ek_seqN ?_ | refine ek_seqX ?_ | refine ek_seqR ?_ | refine ek_blkN ?_ | refine ek_blkR ?_ | refine ek_blkX ?_ | refine ek_blkY rfl ?_)
  refine sfin (.inr rfl) (by rfl) (by rfl) (by exact ⟨rfl, rfl, rfl⟩) (by rfl) (by rfl) (by rfl) (by first | rfl | (simp; done) | (simp [ints, prs]; done))
theorem lp20_0_nils  :
    LpS cx 19 0 m20_0 [(0, .nils), (1, .int .i64 1), (5, .int .i64 (0 : Nat))] [] (⟨.exit 0, [(1, .int .i64 1)], []⟩ : Out).x (⟨.exit 0, [(1, .int .i64 1)], []⟩ : Out).e (⟨.exit 0, [(1, .int .i64 1)], []⟩ : Out).h := by
  refine lp_st (0) (fun _ => ()) (fun i _ => [(0, .nils), (1, .int .i64 1), (5, .int .i64 (i : Nat))]) (fun i _ => []) (fun _ => (⟨.exit 0, [(1, .int .i64 1)], []⟩ : Out)) ?_ ?_ (0) 0 (by omega)
  · intro i u_ hi hu_
    refine ⟨(), rfl, ?_⟩
    exact absurd hi (by simp)
  · intro u_ hu_
    have hlt : decide (((0 : Nat) : Int) < (0 : Nat)) = false := decide_eq_false (by omega)
    unfold m20_0
    repeat' (first
      | (refine g_op ?_; first
        | refine ep_mov rfl ?_
        | refine ep_bin rfl rfl (by first | exact b_add (by omega) (by omega) | exact b_sub (by omega) (by omega) | exact b_and (by omega) (by omega) | exact b_or (by omega) (by omega) | exact b_shr (by omega) | exact b_shl (by omega) (by omega) | exact b_lss | exact b_leq | exact b_gtr | exact b_geq | exact b_eql | exact b_neq) ?_
        | refine sp_store rfl rfl rfl rfl rfl rfl rfl rfl rfl rfl ?_ | refine ep_lenS rfl ?_ | refine ep_lenN rfl ?_ | refine ep_lenE rfl ?_ | refine sp_idx rfl rfl rfl (by omega) rfl ?_)
      | (refine g_ops ?_; first | refine eo_none ?_ | refine eo_nil ?_)
      | (refine g_code ?_; first | refine ec_seq ?_ | refine ec_region ?_ | refine ec_block ?_ | refine ec_skip ?_ | refine ec_exit ?_ | refine ec_condT rfl ?_ | refine ec_condF rfl ?_ | refine ec_condTH rfl (by assumption) ?_ | refine ec_condFH rfl (by assumption) ?_)
      | refine ek_seqN ?_ | refine ek_seqX ?_ | refine ek_blkN ?_ | refine ek_blkR ?_ | refine ek_blkX ?_ | refine ek_blkY rfl ?_)
    exact rnd_out (by rfl) (by simp) (scmp2 (by rfl) (by rfl) (by exact ⟨rfl, rfl, rfl⟩) (by rfl) (by first | rfl | (simp; done) | (simp [ints, prs]; done)) (by rfl) (by first | rfl | (simp; done) | (simp [ints, prs]; done)))

theorem ev20_nils : Ev cx 20 [.nils, .int .i64 1] [] (.int .i64 1) [] := by
  have lp := lp20_0_nils
  refine has20.eev rfl rfl ?_
  unfold m20
  repeat' (first
    | refine sc_loop lp rfl rfl ⟨rfl, rfl, rfl⟩ rfl rfl rfl ?_
    | (refine g_op ?_; first
      | refine ep_mov rfl ?_)
    | (refine g_ops ?_; first | refine eo_none ?_ | refine eo_nil ?_)
    | (refine g_code ?_; first | refine ec_seq ?_ | refine ec_region ?_ | refine ec_block ?_ | refine ec_ret ?_)
    | refine ek_seqN ?_ | refine ek_seqX ?_ | refine ek_seqR ?_ | refine ek_blkN ?_ | refine ek_blkR ?_ | refine ek_blkX ?_ | refine ek_blkY rfl ?_)
  refine sfin (.inr rfl) (by rfl) (by rfl) (by exact ⟨rfl, rfl, rfl⟩) (by rfl) (by rfl) (by rfl) (by first | rfl | (simp; done) | (simp [ints, prs]; done))
theorem lp20_0_emp  :
    LpS cx 19 0 m20_0 [(0, .emp), (1, .int .i64 1), (5, .int .i64 (0 : Nat))] [] (⟨.exit 0, [(1, .int .i64 1)], []⟩ : Out).x (⟨.exit 0, [(1, .int .i64 1)], []⟩ : Out).e (⟨.exit 0, [(1, .int .i64 1)], []⟩ : Out).h := by
  refine lp_st (0) (fun _ => ()) (fun i _ => [(0, .emp), (1, .int .i64 1), (5, .int .i64 (i : Nat))]) (fun i _ => []) (fun _ => (⟨.exit 0, [(1, .int .i64 1)], []⟩ : Out)) ?_ ?_ (0) 0 (by omega)
  · intro i u_ hi hu_
    refine ⟨(), rfl, ?_⟩
    exact absurd hi (by simp)
  · intro u_ hu_
    have hlt : decide (((0 : Nat) : Int) < (0 : Nat)) = false := decide_eq_false (by omega)
    unfold m20_0
    repeat' (first
      | (refine g_op ?_; first
        | refine ep_mov rfl ?_
        | refine ep_bin rfl rfl (by first | exact b_add (by omega) (by omega) | exact b_sub (by omega) (by omega) | exact b_and (by omega) (by omega) | exact b_or (by omega) (by omega) | exact b_shr (by omega) | exact b_shl (by omega) (by omega) | exact b_lss | exact b_leq | exact b_gtr | exact b_geq | exact b_eql | exact b_neq) ?_
        | refine sp_store rfl rfl rfl rfl rfl rfl rfl rfl rfl rfl ?_ | refine ep_lenS rfl ?_ | refine ep_lenN rfl ?_ | refine ep_lenE rfl ?_ | refine sp_idx rfl rfl rfl (by omega) rfl ?_)
      | (refine g_ops ?_; first | refine eo_none ?_ | refine eo_nil ?_)
      | (refine g_code ?_; first | refine ec_seq ?_ | refine ec_region ?_ | refine ec_block ?_ | refine ec_skip ?_ | refine ec_exit ?_ | refine ec_condT rfl ?_ | refine ec_condF rfl ?_ | refine ec_condTH rfl (by assumption) ?_ | refine ec_condFH rfl (by assumption) ?_)
      | refine ek_seqN ?_ | refine ek_seqX ?_ | refine ek_blkN ?_ | refine ek_blkR ?_ | refine ek_blkX ?_ | refine ek_blkY rfl ?_)
    exact rnd_out (by rfl) (by simp) (scmp2 (by rfl) (by rfl) (by exact ⟨rfl, rfl, rfl⟩) (by rfl) (by first | rfl | (simp; done) | (simp [ints, prs]; done)) (by rfl) (by first | rfl | (simp; done) | (simp [ints, prs]; done)))

theorem ev20_emp : Ev cx 20 [.emp, .int .i64 1] [] (.int .i64 1) [] := by
  have lp := lp20_0_emp
  refine has20.eev rfl rfl ?_
  unfold m20
  repeat' (first
    | refine sc_loop lp rfl rfl ⟨rfl, rfl, rfl⟩ rfl rfl rfl ?_
    | (refine g_op ?_; first
      | refine ep_mov rfl ?_)
    | (refine g_ops ?_; first | refine eo_none ?_ | refine eo_nil ?_)
    | (refine g_code ?_; first | refine ec_seq ?_ | refine ec_region ?_ | refine ec_block ?_ | refine ec_ret ?_)
    | refine ek_seqN ?_ | refine ek_seqX ?_ | refine ek_seqR ?_ | refine ek_blkN ?_ | refine ek_blkR ?_ | refine ek_blkX ?_ | refine ek_blkY rfl ?_)
  refine sfin (.inr rfl) (by rfl) (by rfl) (by exact ⟨rfl, rfl, rfl⟩) (by rfl) (by rfl) (by rfl) (by first | rfl | (simp; done) | (simp [ints, prs]; done))
-- laws.heldInt64S
def m21_0 : MC := (.seq (.seq (.region [⟨(.mov (.t 5)), (some 6), none⟩, ⟨(.mov (.t 0)), (some 7), none⟩, ⟨(.len (.t 7)), (some 8), none⟩, ⟨(.bin .lss (.t 6) (.t 8)), (some 9), none⟩] false) (.cond (.t 9) .skip (.exit 0))) (.seq (.block 1 (.seq (.seq (.region [⟨(.mov (.t 0)), (some 12), none⟩, ⟨(.mov (.t 5)), (some 13), none⟩, ⟨(.indexAddr 1 (.t 12) (.t 13)), (some 14), none⟩, ⟨(.load none (.t 14)), (some 15), none⟩, ⟨(.mov (.t 1)), (some 16), none⟩, ⟨(.bin .neq (.t 15) (.t 16)), (some 17), none⟩] false) (.cond (.t 17) (.seq (.region [⟨(.mov (.k (.int .i64 (-1)))), (some 4), none⟩] false) .ret) .skip)) (.region [⟨(.mov (.t 1)), (some 18), none⟩, ⟨(.bin .add (.t 18) (.k (.int .i64 1))), (some 19), none⟩, ⟨(.mov (.t 19)), (some 1), none⟩] false))) (.region [⟨(.mov (.t 5)), (some 10), none⟩, ⟨(.bin .add (.t 10) (.k (.int .i64 1))), (some 11), none⟩, ⟨(.mov (.t 11)), (some 5), none⟩] false)))
def m21 : MC := (.seq (.region [⟨(.mov (.k (.int .i64 0))), (some 4), none⟩] false) (.seq (.seq (.region [⟨(.mov (.k (.int .i64 0))), (some 5), none⟩] false) (.block 0 (.loop m21_0))) (.seq (.region [⟨(.mov (.t 1)), (some 20), none⟩, ⟨(.mov (.t 20)), (some 4), none⟩] false) .ret)))
theorem has21 : Has cx 21 21 m21 [(.tmp 4)] :=
  ⟨⟨Try.f21, Try.f21.body.getD .skip, by kernel_rfl, by kernel_rfl, by kernel_rfl, by kernel_rfl, by kernel_rfl, by kernel_rfl⟩⟩
theorem lp21_0 (n : Nat) (c : List V) (hn : n ≤ 1048576) :
    LpS cx 21 1 m21_0 [(0, .sl 0 0 n), (1, .int .i64 ((0) + 1 : Nat)), (5, .int .i64 (0 : Nat))] [⟨mkc c n, 1, 0, some 0, false⟩] (⟨.exit 0, [(1, .int .i64 ((n) + 1 : Nat))], [⟨mkc c n, 1, 0, some 0, false⟩]⟩ : Out).x (⟨.exit 0, [(1, .int .i64 ((n) + 1 : Nat))], [⟨mkc c n, 1, 0, some 0, false⟩]⟩ : Out).e (⟨.exit 0, [(1, .int .i64 ((n) + 1 : Nat))], [⟨mkc c n, 1, 0, some 0, false⟩]⟩ : Out).h := by
  refine lp_st (n) (fun _ => ()) (fun i _ => [(0, .sl 0 0 n), (1, .int .i64 ((i) + 1 : Nat)), (5, .int .i64 (i : Nat))]) (fun i _ => [⟨mkc c n, 1, 0, some 0, false⟩]) (fun _ => (⟨.exit 0, [(1, .int .i64 ((n) + 1 : Nat))], [⟨mkc c n, 1, 0, some 0, false⟩]⟩ : Out)) ?_ ?_ (n) 0 (by omega)
  · intro i u_ hi hu_
    refine ⟨(), rfl, ?_⟩
    have hlt : decide ((i : Int) < (n : Nat)) = true := decide_eq_true (by omega)
    have b1 : binV .add (.int .i64 (i + 1 : Nat)) (.int .i64 1) = some (.int .i64 ((i + 1) + 1 : Nat)) := b_addN (b := 1) (by omega)
    have m1 : (mkc c n)[0 + i * 1]? = some (.int .i64 (i + 1 : Nat)) := by rw [show 0 + i * 1 = i by omega, mkc_get (by omega)]
    have q1 : (((i + 1 : Nat) : Int) != (i + 1 : Nat)) = false := by simp
    unfold m21_0
    repeat' (first
      | refine ep_loadS rfl rfl rfl m1 ?_
      | (refine g_op ?_; first
        | refine ep_mov rfl ?_ | refine ep_load1 rfl rfl rfl rfl ?_
        | refine ep_bin rfl rfl (by first | exact b1 | exact b_add (by omega) (by omega) | exact b_sub (by omega) (by omega) | exact b_and (by omega) (by omega) | exact b_or (by omega) (by omega) | exact b_shr (by omega) | exact b_shl (by omega) (by omega) | exact b_lss | exact b_leq | exact b_gtr | exact b_geq | exact b_eql | exact b_neq) ?_
        | refine ep_lenS rfl ?_ | refine ep_lenN rfl ?_ | refine ep_lenE rfl ?_ | refine sp_idx rfl rfl rfl (by omega) rfl ?_ | refine ep_loadS rfl rfl rfl (by first | exact ints_get (by omega) | exact zints_get (by omega) | exact fget (by omega) | assumption) ?_)
      | (refine g_ops ?_; first | refine eo_none ?_ | refine eo_nil ?_)
      | (refine g_code ?_; first | refine ec_seq ?_ | refine ec_region ?_ | refine ec_block ?_ | refine ec_skip ?_ | refine ec_exit ?_ | refine ec_ret ?_ | refine ec_condT rfl ?_ | refine ec_condF rfl ?_ | refine ec_condTH rfl (by assumption) ?_ | refine ec_condFH rfl (by assumption) ?_)
      | refine ek_seqN ?_ | refine ek_seqX ?_ | refine ek_seqR ?_ | refine ek_blkN ?_ | refine ek_blkR ?_ | refine ek_blkX ?_ | refine ek_blkY rfl ?_)
    exact rnd_on (by rfl) (scmp2 (by rfl) (by rfl) (by exact ⟨rfl, rfl, rfl⟩) (by rfl) (by first | rfl | (simp; done) | (simp [ints, prs]; done)) (by rfl) (by first | rfl | (simp; done) | (simp [ints, prs]; done)))
  · intro u_ hu_
    have hlt : decide (((n : Nat) : Int) < (n : Nat)) = false := decide_eq_false (by omega)
    unfold m21_0
    repeat' (first
      | (refine g_op ?_; first
        | refine ep_mov rfl ?_ | refine ep_load1 rfl rfl rfl rfl ?_
        | refine ep_bin rfl rfl (by first | exact b_add (by omega) (by omega) | exact b_sub (by omega) (by omega) | exact b_and (by omega) (by omega) | exact b_or (by omega) (by omega) | exact b_shr (by omega) | exact b_shl (by omega) (by omega) | exact b_lss | exact b_leq | exact b_gtr | exact b_geq | exact b_eql | exact b_neq) ?_
        | refine ep_lenS rfl ?_ | refine ep_lenN rfl ?_ | refine ep_lenE rfl ?_ | refine sp_idx rfl rfl rfl (by omega) rfl ?_ | refine ep_loadS rfl rfl rfl (by first | exact ints_get (by omega) | exact zints_get (by omega) | exact fget (by omega) | assumption) ?_)
      | (refine g_ops ?_; first | refine eo_none ?_ | refine eo_nil ?_)
      | (refine g_code ?_; first | refine ec_seq ?_ | refine ec_region ?_ | refine ec_block ?_ | refine ec_skip ?_ | refine ec_exit ?_ | refine ec_ret ?_ | refine ec_condT rfl ?_ | refine ec_condF rfl ?_ | refine ec_condTH rfl (by assumption) ?_ | refine ec_condFH rfl (by assumption) ?_)
      | refine ek_seqN ?_ | refine ek_seqX ?_ | refine ek_seqR ?_ | refine ek_blkN ?_ | refine ek_blkR ?_ | refine ek_blkX ?_ | refine ek_blkY rfl ?_)
    exact rnd_out (by rfl) (by simp) (scmp2 (by rfl) (by rfl) (by exact ⟨rfl, rfl, rfl⟩) (by rfl) (by first | rfl | (simp; done) | (simp [ints, prs]; done)) (by rfl) (by first | rfl | (simp; done) | (simp [ints, prs]; done)))

theorem ev21 (n : Nat) (c : List V) (hn : n ≤ 1048576) : Ev cx 21 [.sl 0 0 n, .int .i64 1] [⟨mkc c n, 1, 0, some 0, false⟩] (.int .i64 (n + 1 : Nat)) [⟨mkc c n, 1, 0, some 0, false⟩] := by
  have lp := lp21_0 n c hn
  refine has21.eev rfl rfl ?_
  unfold m21
  repeat' (first
    | refine sc_loop lp rfl rfl ⟨rfl, rfl, rfl⟩ rfl rfl rfl ?_
    | (refine g_op ?_; first
      | refine ep_mov rfl ?_)
    | (refine g_ops ?_; first | refine eo_none ?_ | refine eo_nil ?_)
    | (refine g_code ?_; first | refine ec_seq ?_ | refine ec_region ?_ | refine ec_block ?_ | refine ec_ret ?_)
    | refine ek_seqN ?_ | refine ek_seqX ?_ | refine ek_seqR ?_ | refine ek_blkN ?_ | refine ek_blkR ?_ | refine ek_blkX ?_ | refine ek_blkY rfl ?_)
  refine sfin (.inr rfl) (by rfl) (by rfl) (by exact ⟨rfl, rfl, rfl⟩) (by rfl) (by rfl) (by rfl) (by first | rfl | (simp; done) | (simp [ints, prs]; done))
theorem lp21_0_nils  :
    LpS cx 21 0 m21_0 [(0, .nils), (1, .int .i64 1), (5, .int .i64 (0 : Nat))] [] (⟨.exit 0, [(1, .int .i64 1)], []⟩ : Out).x (⟨.exit 0, [(1, .int .i64 1)], []⟩ : Out).e (⟨.exit 0, [(1, .int .i64 1)], []⟩ : Out).h := by
  refine lp_st (0) (fun _ => ()) (fun i _ => [(0, .nils), (1, .int .i64 1), (5, .int .i64 (i : Nat))]) (fun i _ => []) (fun _ => (⟨.exit 0, [(1, .int .i64 1)], []⟩ : Out)) ?_ ?_ (0) 0 (by omega)
  · intro i u_ hi hu_
    refine ⟨(), rfl, ?_⟩
    exact absurd hi (by simp)
  · intro u_ hu_
    have hlt : decide (((0 : Nat) : Int) < (0 : Nat)) = false := decide_eq_false (by omega)
    unfold m21_0
    repeat' (first
      | (refine g_op ?_; first
        | refine ep_mov rfl ?_ | refine ep_load1 rfl rfl rfl rfl ?_
        | refine ep_bin rfl rfl (by first | exact b_add (by omega) (by omega) | exact b_sub (by omega) (by omega) | exact b_and (by omega) (by omega) | exact b_or (by omega) (by omega) | exact b_shr (by omega) | exact b_shl (by omega) (by omega) | exact b_lss | exact b_leq | exact b_gtr | exact b_geq | exact b_eql | exact b_neq) ?_
        | refine ep_lenS rfl ?_ | refine ep_lenN rfl ?_ | refine ep_lenE rfl ?_ | refine sp_idx rfl rfl rfl (by omega) rfl ?_ | refine ep_loadS rfl rfl rfl (by first | exact ints_get (by omega) | exact zints_get (by omega) | exact fget (by omega) | assumption) ?_)
      | (refine g_ops ?_; first | refine eo_none ?_ | refine eo_nil ?_)
      | (refine g_code ?_; first | refine ec_seq ?_ | refine ec_region ?_ | refine ec_block ?_ | refine ec_skip ?_ | refine ec_exit ?_ | refine ec_ret ?_ | refine ec_condT rfl ?_ | refine ec_condF rfl ?_ | refine ec_condTH rfl (by assumption) ?_ | refine ec_condFH rfl (by assumption) ?_)
      | refine ek_seqN ?_ | refine ek_seqX ?_ | refine ek_seqR ?_ | refine ek_blkN ?_ | refine ek_blkR ?_ | refine ek_blkX ?_ | refine ek_blkY rfl ?_)
    exact rnd_out (by rfl) (by simp) (scmp2 (by rfl) (by rfl) (by exact ⟨rfl, rfl, rfl⟩) (by rfl) (by first | rfl | (simp; done) | (simp [ints, prs]; done)) (by rfl) (by first | rfl | (simp; done) | (simp [ints, prs]; done)))

theorem ev21_nils : Ev cx 21 [.nils, .int .i64 1] [] (.int .i64 1) [] := by
  have lp := lp21_0_nils
  refine has21.eev rfl rfl ?_
  unfold m21
  repeat' (first
    | refine sc_loop lp rfl rfl ⟨rfl, rfl, rfl⟩ rfl rfl rfl ?_
    | (refine g_op ?_; first
      | refine ep_mov rfl ?_)
    | (refine g_ops ?_; first | refine eo_none ?_ | refine eo_nil ?_)
    | (refine g_code ?_; first | refine ec_seq ?_ | refine ec_region ?_ | refine ec_block ?_ | refine ec_ret ?_)
    | refine ek_seqN ?_ | refine ek_seqX ?_ | refine ek_seqR ?_ | refine ek_blkN ?_ | refine ek_blkR ?_ | refine ek_blkX ?_ | refine ek_blkY rfl ?_)
  refine sfin (.inr rfl) (by rfl) (by rfl) (by exact ⟨rfl, rfl, rfl⟩) (by rfl) (by rfl) (by rfl) (by first | rfl | (simp; done) | (simp [ints, prs]; done))
theorem lp21_0_emp  :
    LpS cx 21 0 m21_0 [(0, .emp), (1, .int .i64 1), (5, .int .i64 (0 : Nat))] [] (⟨.exit 0, [(1, .int .i64 1)], []⟩ : Out).x (⟨.exit 0, [(1, .int .i64 1)], []⟩ : Out).e (⟨.exit 0, [(1, .int .i64 1)], []⟩ : Out).h := by
  refine lp_st (0) (fun _ => ()) (fun i _ => [(0, .emp), (1, .int .i64 1), (5, .int .i64 (i : Nat))]) (fun i _ => []) (fun _ => (⟨.exit 0, [(1, .int .i64 1)], []⟩ : Out)) ?_ ?_ (0) 0 (by omega)
  · intro i u_ hi hu_
    refine ⟨(), rfl, ?_⟩
    exact absurd hi (by simp)
  · intro u_ hu_
    have hlt : decide (((0 : Nat) : Int) < (0 : Nat)) = false := decide_eq_false (by omega)
    unfold m21_0
    repeat' (first
      | (refine g_op ?_; first
        | refine ep_mov rfl ?_ | refine ep_load1 rfl rfl rfl rfl ?_
        | refine ep_bin rfl rfl (by first | exact b_add (by omega) (by omega) | exact b_sub (by omega) (by omega) | exact b_and (by omega) (by omega) | exact b_or (by omega) (by omega) | exact b_shr (by omega) | exact b_shl (by omega) (by omega) | exact b_lss | exact b_leq | exact b_gtr | exact b_geq | exact b_eql | exact b_neq) ?_
        | refine ep_lenS rfl ?_ | refine ep_lenN rfl ?_ | refine ep_lenE rfl ?_ | refine sp_idx rfl rfl rfl (by omega) rfl ?_ | refine ep_loadS rfl rfl rfl (by first | exact ints_get (by omega) | exact zints_get (by omega) | exact fget (by omega) | assumption) ?_)
      | (refine g_ops ?_; first | refine eo_none ?_ | refine eo_nil ?_)
      | (refine g_code ?_; first | refine ec_seq ?_ | refine ec_region ?_ | refine ec_block ?_ | refine ec_skip ?_ | refine ec_exit ?_ | refine ec_ret ?_ | refine ec_condT rfl ?_ | refine ec_condF rfl ?_ | refine ec_condTH rfl (by assumption) ?_ | refine ec_condFH rfl (by assumption) ?_)
      | refine ek_seqN ?_ | refine ek_seqX ?_ | refine ek_seqR ?_ | refine ek_blkN ?_ | refine ek_blkR ?_ | refine ek_blkX ?_ | refine ek_blkY rfl ?_)
    exact rnd_out (by rfl) (by simp) (scmp2 (by rfl) (by rfl) (by exact ⟨rfl, rfl, rfl⟩) (by rfl) (by first | rfl | (simp; done) | (simp [ints, prs]; done)) (by rfl) (by first | rfl | (simp; done) | (simp [ints, prs]; done)))

theorem ev21_emp : Ev cx 21 [.emp, .int .i64 1] [] (.int .i64 1) [] := by
  have lp := lp21_0_emp
  refine has21.eev rfl rfl ?_
  unfold m21
  repeat' (first
    | refine sc_loop lp rfl rfl ⟨rfl, rfl, rfl⟩ rfl rfl rfl ?_
    | (refine g_op ?_; first
      | refine ep_mov rfl ?_)
    | (refine g_ops ?_; first | refine eo_none ?_ | refine eo_nil ?_)
    | (refine g_code ?_; first | refine ec_seq ?_ | refine ec_region ?_ | refine ec_block ?_ | refine ec_ret ?_)
    | refine ek_seqN ?_ | refine ek_seqX ?_ | refine ek_seqR ?_ | refine ek_blkN ?_ | refine ek_blkR ?_ | refine ek_blkX ?_ | refine ek_blkY rfl ?_)
  refine sfin (.inr rfl) (by rfl) (by rfl) (by exact ⟨rfl, rfl, rfl⟩) (by rfl) (by rfl) (by rfl) (by first | rfl | (simp; done) | (simp [ints, prs]; done))
theorem prs_pair {n : Nat} {l : List Nat} {j : Nat} (h : j < l.length) : pairAt (prs n l) j ((n : Int), ((l.getD j 0 : Nat) : Int)) := prs_get h
theorem fns_pair {l : List (Int × Int)} {j : Nat} (h : j < l.length) : pairAt (fns l) j (l.getD j (0, 0)) := fns_get h
def rowS (s : List Nat) (q : Nat) : Nat := pk (fun i => bt (s.getD i 0) q) s.length
def valS (b p : Nat) (s : List Nat) : Nat := pk (fun q => bt b (rowS s q)) p
def updF (f g : Nat → Nat) (p i : Nat) : List Nat := (List.range p).map fun q => if q < i then g q else f q
def rowsL (p : Nat) (s : List Nat) : List Nat := (List.range p).map (rowS s)
theorem rowS_lt (s : List Nat) (q : Nat) : rowS s q < R2 s.length := pk_lt fun r _ => bt_le _ _
theorem valS_lt (b p : Nat) (s : List Nat) : valS b p s < R2 p := pk_lt fun r _ => bt_le _ _
theorem rowS_snoc (s : List Nat) (x q : Nat) : rowS (s ++ [x]) q = rowS s q ||| (bt x q <<< s.length) := by
  unfold rowS
  rw [List.length_append, List.length_singleton, pk]
  congr 1
  · refine pk_congr fun r hr => ?_
    rw [List.getD_eq_getElem?_getD, List.getElem?_append_left hr, List.getD_eq_getElem?_getD]
  · rw [List.getD_eq_getElem?_getD, List.getElem?_append_right (Nat.le_refl _)]; simp
theorem updF_0 (f g : Nat → Nat) (p : Nat) : updF f g p 0 = (List.range p).map f := by simp [updF]
theorem updF_p (f g : Nat → Nat) (p : Nat) : updF f g p p = (List.range p).map g := by
  unfold updF; apply List.map_congr_left; intro q hq; rw [if_pos (by simpa using hq)]
theorem updF_get {f g : Nat → Nat} {p i j : Nat} (h : j < p) : (ints (updF f g p i))[0 + j * 1]? = some (.int .i64 ((if j < i then g j else f j : Nat) : Int)) := by
  simp [ints, updF, h]
theorem updF_len (f g : Nat → Nat) (p i : Nat) : (ints (updF f g p i)).length = p := by simp [ints, updF]
theorem updF_set {f g : Nat → Nat} {p i : Nat} (h : i < p) : (ints (updF f g p i)).take (0 + i * 1) ++ [V.int .i64 (g i : Nat)] ++ (ints (updF f g p i)).drop (0 + i * 1 + 1) = ints (updF f g p (i + 1)) := by
  have hl := updF_len f g p i
  rw [show 0 + i * 1 = i by omega]
  apply List.ext_getElem?
  intro k
  have e2 : (ints (updF f g p (i + 1)))[k]? = if k < p then some (V.int .i64 ((if k < i + 1 then g k else f k : Nat) : Int)) else none := by
    by_cases hk : k < p
    · simp [ints, updF, hk]
    · simp [ints, updF, hk]
  have e1 : (ints (updF f g p i))[k]? = if k < p then some (V.int .i64 ((if k < i then g k else f k : Nat) : Int)) else none := by
    by_cases hk : k < p
    · simp [ints, updF, hk]
    · simp [ints, updF, hk]
  rw [e2]
  rcases Nat.lt_trichotomy k i with h1 | h1 | h1
  · rw [List.getElem?_append_left (by simp; omega), List.getElem?_append_left (by simp; omega), List.getElem?_take, if_pos h1, e1]; simp [show k < p by omega, h1, show k < i + 1 by omega]
  · subst h1
    rw [List.getElem?_append_left (by simp; omega), List.getElem?_append_right (by simp; omega), if_pos h, if_pos (by omega)]
    simp [Nat.min_eq_left (show k ≤ (ints (updF f g p k)).length by omega)]
  · rw [List.getElem?_append_right (by simp; omega), List.getElem?_drop]
    simp only [List.length_append, List.length_take, List.length_singleton, Nat.min_eq_left (show i ≤ (ints (updF f g p i)).length by omega)]
    rw [show i + 1 + (k - (i + 1)) = k by omega, e1]
    by_cases hk : k < p
    · simp [hk, show ¬ k < i by omega, show ¬ k < i + 1 by omega]
    · simp [hk]
def chkA (P : Nat → Bool) (l : List Nat) (b p : Nat) : Nat → List Nat → Bool
  | 0, s => P (valS b p s)
  | m + 1, s => allF (fun j => chkA P l b p m (s ++ [l.getD j 0])) 0 l.length
def orN (h : Nat → Nat) : Nat → Nat
  | 0 => 0
  | n + 1 => orN h n ||| h n
def mbA (l : List Nat) (b p : Nat) : Nat → List Nat → Nat
  | 0, s => R2 (valS b p s)
  | m + 1, s => orN (fun j => mbA l b p m (s ++ [l.getD j 0])) l.length
theorem orN_lt {h : Nat → Nat} {N : Nat} : ∀ n, (∀ j, j < n → h j < R2 N) → orN h n < R2 N
  | 0, _ => R2_pos _
  | n + 1, hh => or_lt (orN_lt n fun j hj => hh j (by omega)) (hh n (by omega))
theorem mbA_lt (l : List Nat) (b p : Nat) : ∀ m s, mbA l b p m s < R2 (R2 p)
  | 0, s => by
    have := valS_lt b p s
    rw [mbA]; unfold R2 at this ⊢; exact Nat.pow_lt_pow_right (by omega) this
  | m + 1, s => by rw [mbA]; exact orN_lt _ fun j _ => mbA_lt l b p m _
theorem sb_or (x y t : Nat) : (x ||| y) &&& t = x ||| y ↔ x &&& t = x ∧ y &&& t = y := by
  constructor
  · intro h
    refine ⟨Nat.eq_of_testBit_eq fun i => ?_, Nat.eq_of_testBit_eq fun i => ?_⟩
    all_goals
      have := congrArg (fun z => z.testBit i) h
      simp only [Nat.testBit_and, Nat.testBit_or] at this ⊢
      revert this
      cases x.testBit i <;> cases y.testBit i <;> cases t.testBit i <;> simp
  · rintro ⟨h1, h2⟩
    apply Nat.eq_of_testBit_eq
    intro i
    have e1 := congrArg (fun z => z.testBit i) h1
    have e2 := congrArg (fun z => z.testBit i) h2
    simp only [Nat.testBit_and, Nat.testBit_or] at e1 e2 ⊢
    revert e1 e2
    cases x.testBit i <;> cases y.testBit i <;> cases t.testBit i <;> simp
theorem sb_R2 (v t : Nat) : R2 v &&& t = R2 v ↔ bt t v = 1 := by
  rw [bt_tb]
  constructor
  · intro h
    have := congrArg (fun z => z.testBit v) h
    simp only [Nat.testBit_and, R2_tb, decide_true, Bool.true_and] at this
    rw [this]; rfl
  · intro h
    apply Nat.eq_of_testBit_eq
    intro i
    rw [Nat.testBit_and, R2_tb]
    by_cases e : v = i
    · subst e; revert h; cases t.testBit v <;> simp
    · simp [e]
theorem sb_orN (h : Nat → Nat) (t : Nat) : ∀ n, (orN h n &&& t = orN h n ↔ ∀ j, j < n → h j &&& t = h j)
  | 0 => by simp [orN]
  | n + 1 => by
    rw [orN, sb_or, sb_orN h t n]
    constructor
    · rintro ⟨h1, h2⟩ j hj
      by_cases e : j = n
      · subst e; exact h2
      · exact h1 j (by omega)
    · intro hh; exact ⟨fun j hj => hh j (by omega), hh n (by omega)⟩
theorem go_flat : ∀ q : Nat, ints (List.replicate q 0) = (List.replicate q [V.int .i64 0]).flatten
  | 0 => rfl
  | q + 1 => by
    have := go_flat q
    simp only [ints, List.replicate_succ, List.map_cons, List.flatten_cons, List.singleton_append] at this ⊢
    rw [this]; rfl
theorem keep_eq (l : List Nat) (b p t : Nat) : ∀ m s, (mbA l b p m s &&& t = mbA l b p m s ↔ chkA (fun v => bt t v == 1) l b p m s = true)
  | 0, s => by rw [mbA, chkA, sb_R2, beq_iff_eq]
  | m + 1, s => by
    rw [mbA, chkA, sb_orN, allF_iff]
    constructor
    · intro h j _ hj; exact (keep_eq l b p t m _).mp (h j (by omega))
    · intro h j hj; exact (keep_eq l b p t m _).mpr (h j (Nat.zero_le _) (by omega))
-- slices.Clone[[]int64,int64]
def m109 : MC := (.seq (.region [⟨(.mov (.k .nils)), (some 2), none⟩] false) (.seq (.seq (.region [⟨(.mov (.t 0)), (some 3), none⟩, ⟨(.isnil false (.t 3)), (some 4), none⟩] false) (.cond (.t 4) (.seq (.region [⟨(.mov (.k .nils)), (some 2), none⟩] false) .ret) .skip)) (.seq (.region [⟨.empt, (some 5), none⟩, ⟨(.mov (.t 0)), (some 6), none⟩, ⟨(.append 1 8 (.t 5) (.t 6)), (some 7), none⟩, ⟨(.mov (.t 7)), (some 2), none⟩] false) .ret)))
theorem has109 : Has cx 109 8 m109 [(.tmp 2)] :=
  ⟨⟨Try.f109, Try.f109.body.getD .skip, by kernel_rfl, by kernel_rfl, by kernel_rfl, by kernel_rfl, by kernel_rfl, by kernel_rfl⟩⟩
theorem ev109 (l : List Nat) (n : Nat) (hn : l.length = n) (h1 : 1 ≤ n) (h2 : n ≤ 65536) : Ev cx 109 [.sl 0 0 n] [⟨ints l, 1, 0, some 0, false⟩] (.sl 1 0 n) [⟨ints l, 1, 0, some 0, false⟩, ⟨ints l, 1, 1, some 0, false⟩] := by
  have hr : rowOf [⟨ints l, 1, 0, some 0, false⟩] 1 (.sl 0 0 n) = some (ints l, n) := by
    simp only [rowOf, List.getElem?_cons_zero, List.drop_zero, Nat.mul_one]; rw [List.take_of_length_le (by rw [ints_len]; omega)]
  refine has109.eev rfl rfl ?_
  unfold m109
  repeat' (first
    | refine sp_app0 (l := ints l) rfl (.inr rfl) rfl hr ⟨by rw [ints_len]; omega, by omega, by omega⟩ (.inr ⟨0, 0, _, rfl, rfl, rfl⟩) rfl rfl ?_
    | (refine g_op ?_; first
      | refine ep_mov rfl ?_
      | refine sp_push0 rfl (by first | exact .inl rfl | exact .inr rfl) rfl rfl rfl rfl rfl (by decide) rfl rfl rfl ?_ | refine sp_push rfl rfl rfl rfl rfl rfl rfl (by first | exact ints_len _ | exact prs_len _ _ | exact zints_len _) (by omega) (Nat.zero_le _) rfl rfl rfl rfl rfl ?_
      | refine ep_empt ?_ | refine ep_isnilN rfl ?_ | refine ep_isnilS rfl ?_ | refine ep_isnilE rfl ?_)
    | (refine g_ops ?_; first | refine eo_none ?_ | refine eo_nil ?_)
    | (refine g_code ?_; first | refine ec_seq ?_ | refine ec_region ?_ | refine ec_skip ?_ | refine ec_ret ?_ | refine ec_condT rfl ?_ | refine ec_condF rfl ?_ | refine ec_condTH rfl (by assumption) ?_ | refine ec_condFH rfl (by assumption) ?_)
    | refine ek_seqN ?_ | refine ek_seqR ?_)
  refine sfin (.inr rfl) (by rfl) (by rfl) (by exact ⟨rfl, rfl, rfl⟩) (by rfl) (by rfl) (by rfl) (by first | rfl | (simp; done) | (simp [ints, prs]; done))
def prOf (c : List Int) (n : Nat) : List (Int × Int) := (List.range n).map fun i => (c.getD (2 * i) 0, c.getD (2 * i + 1) 0)
theorem prOf_len (c : List Int) (n : Nat) : (prOf c n).length = n := by simp [prOf]
theorem prOf_fns : ∀ (n : Nat) (c : List Int), c.length = n * 2 → zints c = fns (prOf c n)
  | 0, c, h => by
    have : c = [] := List.length_eq_zero_iff.mp (by omega)
    subst this; rfl
  | n + 1, c, h => by
    match c, h with
    | [], h => simp at h
    | [_], h => simp at h; omega
    | x :: y :: c, h =>
      have ih := prOf_fns n c (by simp at h; omega)
      have e : prOf (x :: y :: c) (n + 1) = (x, y) :: prOf c n := by
        simp only [prOf, List.range_succ_eq_map, List.map_cons, List.map_map, List.getD_eq_getElem?_getD]
        refine List.cons_eq_cons.mpr ⟨rfl, List.map_congr_left fun i _ => ?_⟩
        simp only [Function.comp, show 2 * (i + 1) = 2 * i + 1 + 1 by omega, show 2 * (i + 1) + 1 = 2 * i + 1 + 1 + 1 by omega, List.getElem?_cons_succ]
      rw [e]
      simp only [zints, fns, List.map_cons, List.flatMap_cons, List.cons_append, List.nil_append] at ih ⊢
      rw [ih]
theorem fget2 {o j n : Nat} {l : List Int} (hl : l.length = n * 2) (h : j < n) : [V.int .i64 (l.getD (2 * j) 0), V.int .i64 (l.getD (2 * j + 1) 0)].length = 2 ∧ (o + j * 2) + 2 ≤ (List.replicate o V.any ++ nums .i64 l).length ∧ ((List.replicate o V.any ++ nums .i64 l).drop (o + j * 2)).take 2 = [V.int .i64 (l.getD (2 * j) 0), V.int .i64 (l.getD (2 * j + 1) 0)] := by
  refine ⟨rfl, by simp [nums]; omega, ?_⟩
  rw [List.drop_append, List.drop_eq_nil_of_le (by simp), List.nil_append, List.length_replicate, show o + j * 2 - o = 2 * j by omega]
  have h1 : 2 * j < (nums .i64 l).length := by simp [nums]; omega
  have h2 : 2 * j + 1 < (nums .i64 l).length := by simp [nums]; omega
  rw [List.drop_eq_getElem_cons h1, List.drop_eq_getElem_cons h2]
  simp only [List.take_succ_cons, List.take_zero, nums, List.getElem_map, List.getD_eq_getElem?_getD, List.getElem?_eq_getElem (show 2 * j < l.length by omega), List.getElem?_eq_getElem (show 2 * j + 1 < l.length by omega), Option.getD_some]
theorem zcp_mk2 {c : List Int} {n : Nat} (h : c.length = n * 2) : zints (zcp c (2 * 0)) = (List.replicate n [V.int .i64 0, V.int .i64 0]).flatten := by
  simp only [zcp, Nat.mul_zero, List.take_zero, List.nil_append, Nat.sub_zero, h]
  clear h
  induction n with
  | zero => rfl
  | succ n ih =>
    rw [show (n + 1) * 2 = n * 2 + 1 + 1 by omega]
    simp only [List.replicate_succ, zints, List.map_cons, List.flatten_cons, List.cons_append, List.nil_append] at ih ⊢; rw [ih]
theorem zcp_set2 {c : List Int} {i n : Nat} (hl : c.length = n * 2) (h : i < n) : (zints (zcp c (2 * i))).take (0 + i * 2) ++ [V.int .i64 (c.getD (2 * i) 0), V.int .i64 (c.getD (2 * i + 1) 0)] ++ (zints (zcp c (2 * i))).drop (0 + i * 2 + 2) = zints (zcp c (2 * (i + 1))) := by
  have e1 : List.replicate (c.length - 2 * i) (0 : Int) = 0 :: 0 :: List.replicate (c.length - 2 * (i + 1)) 0 := by
    rw [show c.length - 2 * i = (c.length - 2 * (i + 1)) + 1 + 1 by omega, List.replicate_succ, List.replicate_succ]
  have e2 : c.take (2 * (i + 1)) = c.take (2 * i) ++ [c.getD (2 * i) 0, c.getD (2 * i + 1) 0] := by
    rw [show 2 * (i + 1) = 2 * i + 1 + 1 by omega, List.take_add_one, List.take_add_one, List.getElem?_eq_getElem (show 2 * i < c.length by omega), List.getElem?_eq_getElem (show 2 * i + 1 < c.length by omega), List.getD_eq_getElem?_getD, List.getD_eq_getElem?_getD, List.getElem?_eq_getElem (show 2 * i < c.length by omega), List.getElem?_eq_getElem (show 2 * i + 1 < c.length by omega), List.append_assoc]; rfl
  have e3 : ((c.take (2 * i)).map fun x => V.int .i64 x).length = 2 * i := by simp; omega
  simp only [zcp, zints, List.map_append, e1, e2, show 0 + i * 2 = 2 * i by omega, List.map_cons]
  rw [List.take_append_of_le_length (by omega), List.take_of_length_le (by omega)]
  rw [List.drop_append, e3, List.drop_eq_nil_of_le (by omega), show 2 * i + 2 - 2 * i = 2 by omega]
  simp
def allFunc (fs : List (Int × Int)) : Bool := allF (fun j => isFn (fs.getD j (0, 0)).1 (fs.getD j (0, 0)).2) 0 fs.length
def allRelation (fs : List (Int × Int)) : Bool := allF (fun j => isRel (fs.getD j (0, 0)).1 (fs.getD j (0, 0)).2) 0 fs.length
def lcode (fs : List (Int × Int)) : Int := if allFunc fs = true then (if fs.length > 8 then 2 else 0) else 1
theorem allF_z (p : Nat → Bool) (i : Nat) : allF p i 0 = true := rfl
theorem allF_pre {P : Nat → Bool} {n : Nat} (h : allF (fun j => allF P 0 j) 0 n = false) : allF P 0 n = false := by
  cases hh : allF P 0 n
  · rfl
  · have : allF (fun j => allF P 0 j) 0 n = true := by
      rw [allF_iff]; intro j _ hj
      rw [allF_iff] at hh ⊢
      intro k h1 h2; exact hh k h1 (by omega)
    rw [this] at h; simp at h
theorem ite_pre {P : Nat → Bool} {n : Nat} (A : Bool → Out) : (if allF (fun j => allF P 0 j) 0 n = true then A (allF P 0 n) else A false) = A (allF P 0 n) := by
  cases h : allF (fun j => allF P 0 j) 0 n
  · rw [allF_pre h]; rfl
  · rfl
theorem all_get {P : Nat → Bool} {n i : Nat} (h : allF P 0 n = true) (hi : i < n) : P i = true := by
  rw [allF_iff] at h; exact h i (Nat.zero_le _) (by omega)
def accX (b r : Nat) : Nat → Nat
  | 0 => bt b 0
  | i + 1 => accX b r i ^^^ (bt r i &&& (bt b 0 ^^^ bt b (R2 i)))
theorem xor_le1 {x y : Nat} (hx : x ≤ 1) (hy : y ≤ 1) : x ^^^ y ≤ 1 := by
  rcases (show x = 0 ∨ x = 1 by omega) with rfl | rfl <;> rcases (show y = 0 ∨ y = 1 by omega) with rfl | rfl <;> decide
theorem accX_le (b r : Nat) : ∀ i, accX b r i ≤ 1
  | 0 => bt_le b 0
  | i + 1 => xor_le1 (accX_le b r i) (Nat.le_trans Nat.and_le_left (bt_le r i))
def affP (b j r : Nat) : Bool := (((bt b r : Nat) : Int) != (bt b (r ^^^ R2 j) : Nat)) == (((bt b 0 : Nat) : Int) != (bt b (R2 j) : Nat))
def affB (n b : Nat) : Bool := allF (fun j => allF (affP b j) 0 (R2 n)) 0 n
def affI (n b : Nat) : Bool := allF (fun r => accX b r n == bt b r) 0 (R2 n)
theorem affP_iff (b j r : Nat) : affP b j r = true ↔ bt b r ^^^ bt b (r ^^^ R2 j) = bt b 0 ^^^ bt b (R2 j) := by
  have h1 := bt_le b r
  have h2 := bt_le b (r ^^^ R2 j)
  have h3 := bt_le b 0
  have h4 := bt_le b (R2 j)
  unfold affP
  generalize bt b r = x at *
  generalize bt b (r ^^^ R2 j) = y at *
  generalize bt b 0 = z at *
  generalize bt b (R2 j) = w at *
  rcases (show x = 0 ∨ x = 1 by omega) with rfl | rfl <;> rcases (show y = 0 ∨ y = 1 by omega) with rfl | rfl <;> rcases (show z = 0 ∨ z = 1 by omega) with rfl | rfl <;> rcases (show w = 0 ∨ w = 1 by omega) with rfl | rfl <;> decide
theorem xor_tb_R2 (r i k : Nat) : (r ^^^ R2 i).testBit k = (r.testBit k != decide (i = k)) := by
  rw [Nat.testBit_xor, R2_tb]
theorem mod_succ0 {r i : Nat} (h : bt r i = 0) : r % R2 (i + 1) = r % R2 i := by
  apply Nat.eq_of_testBit_eq
  intro k
  unfold R2
  rw [Nat.testBit_mod_two_pow, Nat.testBit_mod_two_pow]
  by_cases e : k = i
  · subst e
    rw [bt_tb] at h
    have : r.testBit k = false := by revert h; cases r.testBit k <;> simp
    simp [this]
  · by_cases g : k < i
    · simp [g, show k < i + 1 by omega]
    · simp [g, show ¬ k < i + 1 by omega]
theorem mod_succ1 {r i : Nat} (h : bt r i = 1) : (r % R2 i) ^^^ R2 i = r % R2 (i + 1) := by
  apply Nat.eq_of_testBit_eq
  intro k
  rw [xor_tb_R2]
  unfold R2
  rw [Nat.testBit_mod_two_pow, Nat.testBit_mod_two_pow]
  by_cases e : k = i
  · subst e
    rw [bt_tb] at h
    have : r.testBit k = true := by revert h; cases r.testBit k <;> simp
    rw [this]; simp
  · by_cases g : k < i
    · simp [g, show k < i + 1 by omega, show i ≠ k by omega]
    · simp [g, show ¬ k < i + 1 by omega, show i ≠ k by omega]
theorem accX_mod {n b r : Nat} (h : affB n b = true) (hr : r < R2 n) : ∀ i, i ≤ n → accX b r i = bt b (r % R2 i)
  | 0, _ => by rw [accX, show R2 0 = 1 by unfold R2; rfl, Nat.mod_one]
  | i + 1, hi => by
    have ih := accX_mod h hr i (by omega)
    have hb := bt_le r i
    rw [accX, ih]
    have hlt : r % R2 i < R2 n := Nat.lt_of_le_of_lt (Nat.mod_le _ _) hr
    have ha := all_get (P := affP b i) (all_get (P := fun j => allF (affP b j) 0 (R2 n)) h (show i < n by omega)) hlt
    rw [affP_iff] at ha
    rcases (show bt r i = 0 ∨ bt r i = 1 by omega) with e | e
    · rw [e, mod_succ0 e]; simp
    · rw [e, ← ha, mod_succ1 e]
      have h1 := bt_le b (r % R2 i)
      have h2 := bt_le b (r % R2 (i + 1))
      generalize bt b (r % R2 i) = x at *
      generalize bt b (r % R2 (i + 1)) = y at *
      rcases (show x = 0 ∨ x = 1 by omega) with rfl | rfl <;> rcases (show y = 0 ∨ y = 1 by omega) with rfl | rfl <;> decide
theorem accX_flip {b r i : Nat} : ∀ k, accX b (r ^^^ R2 i) k = if k ≤ i then accX b r k else accX b r k ^^^ (bt b 0 ^^^ bt b (R2 i))
  | 0 => by rw [if_pos (Nat.zero_le _)]; rfl
  | k + 1 => by
    rw [accX, accX, accX_flip k, show bt (r ^^^ R2 i) k = (r.testBit k != decide (i = k)).toNat by rw [bt_tb, xor_tb_R2], show bt r k = (r.testBit k).toNat from bt_tb r k]
    by_cases e : k = i
    · subst e
      rw [if_pos (Nat.le_refl _), if_neg (by omega)]
      have h1 := accX_le b r k
      have h2 := xor_le1 (bt_le b 0) (bt_le b (R2 k))
      generalize accX b r k = x at *
      generalize bt b 0 ^^^ bt b (R2 k) = y at *
      cases r.testBit k <;> rcases (show x = 0 ∨ x = 1 by omega) with rfl | rfl <;> rcases (show y = 0 ∨ y = 1 by omega) with rfl | rfl <;> simp
    · rw [show decide (i = k) = false from decide_eq_false (by omega), show (r.testBit k != false) = r.testBit k by simp]
      by_cases g : k ≤ i
      · rw [if_pos g, if_pos (by omega)]
      · rw [if_neg g, if_neg (by omega)]
        generalize bt b 0 ^^^ bt b (R2 i) = z
        generalize (r.testBit k).toNat &&& (bt b 0 ^^^ bt b (R2 k)) = y
        rw [Nat.xor_assoc, Nat.xor_comm z y, ← Nat.xor_assoc]
theorem aff_eq (n b : Nat) : affI n b = affB n b := by
  rw [Bool.eq_iff_iff]
  constructor
  · intro h
    unfold affB
    rw [allF_iff]
    intro j _ hj
    rw [allF_iff]
    intro r _ hr
    rw [affP_iff]
    have hr : r < R2 n := by omega
    have h6 := xor_lt hr (show R2 j < R2 n by have := R2_le (show j < n by omega); have := R2_pos j; omega)
    have e1 := all_get (P := fun r => accX b r n == bt b r) h hr
    have e2 := all_get (P := fun r => accX b r n == bt b r) h h6
    simp only [beq_iff_eq] at e1 e2
    rw [accX_flip, if_neg (by omega)] at e2
    rw [← e1, ← e2]
    have h1 := accX_le b r n
    have h2 := xor_le1 (bt_le b 0) (bt_le b (R2 j))
    generalize accX b r n = x at *
    generalize bt b 0 ^^^ bt b (R2 j) = y at *
    rcases (show x = 0 ∨ x = 1 by omega) with rfl | rfl <;> rcases (show y = 0 ∨ y = 1 by omega) with rfl | rfl <;> decide
  · intro h
    unfold affI
    rw [allF_iff]
    intro r _ hr
    have hr : r < R2 n := by omega
    rw [beq_iff_eq, accX_mod h hr n (Nat.le_refl _), Nat.mod_eq_of_lt hr]
def dualB (n b : Nat) : Bool := allF (fun r => bt b r != bt b (R2 n - 1 - r)) 0 (R2 n)
abbrev dualG (n b : Nat) : Nat → Nat := fun r => 1 - bt b (R2 n - 1 - r)
theorem dual_eq {n b : Nat} (hb : b < R2 (R2 n)) : (b = pk (dualG n b) (R2 n)) ↔ dualB n b = true := by
  unfold dualB
  rw [allF_iff]
  constructor
  · intro h r _ hr
    have e : bt b r = 1 - bt b (R2 n - 1 - r) := by
      conv => lhs; rw [h]
      exact bt_pk (g := dualG n b) (fun r _ => by simp only [dualG]; omega) (by omega)
    have := bt_le b (R2 n - 1 - r)
    rw [bne_iff_ne]; omega
  · intro h
    conv => lhs; rw [← pk_self hb]
    refine pk_congr fun r hr => ?_
    have := h r (Nat.zero_le _) (by omega)
    rw [bne_iff_ne] at this
    have := bt_le b (R2 n - 1 - r)
    have := bt_le b r
    simp only [dualG]; omega
def inC (n b c : Nat) : Bool := if c = 0 then bt b 0 == 0 else if c = 1 then bt b (R2 n - 1) == 1 else if c = 2 then dualB n b else if c = 3 then monoB n b else affB n b
theorem dual_0 (b : Nat) : dualB 0 b = false := by
  unfold dualB; rw [show R2 0 = 1 by unfold R2; rfl]; simp [allF]
theorem and_R2n {r i : Nat} (h : r &&& R2 i ≠ 0) : r ||| R2 i = r := by
  have ht : r.testBit i = true := by
    cases e : r.testBit i
    · exfalso; apply h
      apply Nat.eq_of_testBit_eq; intro k
      rw [Nat.testBit_and, R2_tb, Nat.zero_testBit]
      by_cases g : i = k
      · subst g; rw [e]; rfl
      · simp [g]
    · rfl
  apply Nat.eq_of_testBit_eq; intro k
  rw [Nat.testBit_or, R2_tb]
  by_cases g : i = k
  · subst g; rw [ht]; rfl
  · simp [g]
def inCI (f : Int × Int) (c : Nat) : Bool := inC f.1.toNat f.2.toNat c
def allIC (fs : List (Int × Int)) (c : Nat) : Bool := allF (fun j => inCI (fs.getD j (0, 0)) c) 0 fs.length
def clQ (fs : List (Int × Int)) (m c j : Nat) : Bool := bt m j == 0 || inCI (fs.getD j (0, 0)) c
def clP (fs : List (Int × Int)) (m c : Nat) : Bool := allF (clQ fs m c) 0 fs.length
def clL (fs : List (Int × Int)) : List Nat := selm (allIC fs) idn 5
theorem fget_is {fs : List (Int × Int)} {i : Nat} (h : allFunc fs = true) (hi : i < fs.length) : isFn (fs.getD i (0, 0)).1 (fs.getD i (0, 0)).2 = true := all_get (P := fun j => isFn (fs.getD j (0, 0)).1 (fs.getD j (0, 0)).2) h hi
theorem bt_whole {m j : Nat} (h : j < m) : bt (R2 m - 1) j = 1 := by
  rw [bt_tb]; unfold R2; rw [Nat.testBit_two_pow_sub_one]; simp [h]
theorem clP_whole (fs : List (Int × Int)) (c : Nat) : clP fs (R2 fs.length - 1) c = allIC fs c := by
  unfold clP allIC
  rw [Bool.eq_iff_iff, allF_iff, allF_iff]
  constructor
  · intro h j h1 h2
    have := h j h1 h2
    rw [clQ, bt_whole (by omega)] at this
    simpa using this
  · intro h j h1 h2
    rw [clQ, h j h1 h2]; simp
theorem pk5_lt (P : Nat → Bool) (i : Nat) (h : i ≤ 5) : pk (bn P) i < 32 := by
  have := pk_lt (g := bn P) (n := i) fun r _ => bn_le P r
  have := R2_mono h
  have : R2 5 = 32 := by unfold R2; rfl
  omega
theorem pk_t {P : Nat → Bool} {i : Nat} (h : P i = true) : pk (bn P) (i + 1) = pk (bn P) i ||| R2 i := by
  rw [pk, bn, if_pos h]; unfold R2; rw [Nat.shiftLeft_eq, Nat.one_mul]
theorem pk_f {P : Nat → Bool} {i : Nat} (h : P i = false) : pk (bn P) (i + 1) = pk (bn P) i := by
  rw [pk, bn, if_neg (by rw [h]; simp)]; simp
theorem clL_eq (fs : List (Int × Int)) : selm (fun c => bt (pk (bn (clP fs (R2 fs.length - 1))) 5) c == 1) idn 5 = clL fs := by
  refine selm_congr 5 fun c hc => ⟨?_, fun _ => rfl⟩
  rw [bt_pk (fun r _ => bn_le _ r) hc, ← clP_whole]
  unfold bn; cases clP fs (R2 fs.length - 1) c <;> rfl
def inRg (p : Nat) (x : Int) : Bool := decide (0 ≤ x ∧ x ≤ (p : Nat) - 1)
def neP (c : List Int) (i j : Nat) : Bool := c.getD i 0 != c.getD j 0
def okP (p : Nat) (c : List Int) (i : Nat) : Bool := inRg p (c.getD i 0) && allF (neP c i) 0 i
def prOK (p : Nat) (c : List Int) : Bool := allF (okP p c) 0 c.length
theorem pig4 : ∀ a, a < 4 → ∀ b, b < 4 → ∀ c, c < 4 → ∀ d, d < 4 → ∀ e, e < 4 → b ≠ a → c ≠ a → c ≠ b → d ≠ a → d ≠ b → d ≠ c → e ≠ a → e ≠ b → e ≠ c → e ≠ d → False := by omega
theorem prOK_len {p : Nat} {c : List Int} (hp : p ≤ 4) (hp1 : 1 ≤ p) (h : prOK p c = true) : c.length ≤ p := by
  apply Classical.byContradiction
  intro hlt
  have rg : ∀ i, i < c.length → 0 ≤ c.getD i 0 ∧ c.getD i 0 ≤ (p : Nat) - 1 := by
    intro i hi
    have := all_get h hi
    rw [okP, Bool.and_eq_true] at this
    exact of_decide_eq_true this.1
  have ne : ∀ i j, i < c.length → j < i → c.getD i 0 ≠ c.getD j 0 := by
    intro i j hi hj
    have := all_get h hi
    rw [okP, Bool.and_eq_true] at this
    have := all_get this.2 hj
    rw [neP, bne_iff_ne] at this
    exact this
  have r0 := rg 0 (by omega)
  have r1 := rg 1 (by omega)
  have n10 := ne 1 0 (by omega) (by omega)
  by_cases e1 : p = 1
  · omega
  have r2 := rg 2 (by omega)
  have n20 := ne 2 0 (by omega) (by omega)
  have n21 := ne 2 1 (by omega) (by omega)
  by_cases e2 : p = 2
  · omega
  have r3 := rg 3 (by omega)
  have n30 := ne 3 0 (by omega) (by omega)
  have n31 := ne 3 1 (by omega) (by omega)
  have n32 := ne 3 2 (by omega) (by omega)
  by_cases e3 : p = 3
  · have := pig4 (c.getD 0 0).toNat (by omega) (c.getD 1 0).toNat (by omega) (c.getD 2 0).toNat (by omega) (c.getD 3 0).toNat (by omega) 3 (by omega) (by omega) (by omega) (by omega) (by omega) (by omega) (by omega) (by omega) (by omega) (by omega) (by omega)
    exact this
  have r4 := rg 4 (by omega)
  have n40 := ne 4 0 (by omega) (by omega)
  have n41 := ne 4 1 (by omega) (by omega)
  have n42 := ne 4 2 (by omega) (by omega)
  have n43 := ne 4 3 (by omega) (by omega)
  have := pig4 (c.getD 0 0).toNat (by omega) (c.getD 1 0).toNat (by omega) (c.getD 2 0).toNat (by omega) (c.getD 3 0).toNat (by omega) (c.getD 4 0).toNat (by omega) (by omega) (by omega) (by omega) (by omega) (by omega) (by omega) (by omega) (by omega) (by omega) (by omega)
  exact this
theorem prOK_nat {p : Nat} {c : List Int} (h : prOK p c = true) : zints c = ints (c.map Int.toNat) ∧ ∀ j, j < (c.map Int.toNat).length → (c.map Int.toNat).getD j 0 < p := by
  have key : ∀ j (hj : j < c.length), 0 ≤ c[j] ∧ c[j] < (p : Nat) := by
    intro j hj
    have := all_get h hj
    rw [okP, Bool.and_eq_true] at this
    have := of_decide_eq_true this.1
    simp only [List.getD_eq_getElem?_getD, List.getElem?_eq_getElem hj, Option.getD_some] at this
    omega
  refine ⟨?_, fun j hj => ?_⟩
  · simp only [zints, ints, List.map_map]
    apply List.map_congr_left
    intro x hx
    obtain ⟨j, hj, rfl⟩ := List.getElem_of_mem hx
    have := key j hj
    simp only [Function.comp]; congr 1; omega
  · simp only [List.length_map] at hj
    have := key j hj
    rw [List.getD_eq_getElem?_getD, List.getElem?_map, List.getElem?_eq_getElem hj]
    simp only [Option.map_some, Option.getD_some]; omega
def prjG (cs : List Nat) (u : Nat) : Nat → Nat := fun k => bt u (cs.getD k 0)
def prjH (l cs : List Nat) : Nat → Nat := fun i => R2 (pk (prjG cs (l.getD i 0)) cs.length)
def prjB (l cs : List Nat) : Nat := orN (prjH l cs) l.length
def prjR (p t : Int) (c : List Int) : RR := if isRel p t = true then (if 1 ≤ c.length ∧ prOK p.toNat c = true then ⟨(c.length : Nat), (prjB (tupL p.toNat t.toNat) (c.map Int.toNat) : Nat), 0⟩ else ⟨0, 0, 2⟩) else ⟨0, 0, 1⟩
theorem prjH_lt (l cs : List Nat) (i : Nat) : prjH l cs i < R2 (R2 cs.length) := by
  have := pk_lt (g := prjG cs (l.getD i 0)) (n := cs.length) fun r _ => bt_le _ _
  unfold prjH; unfold R2 at this ⊢; exact Nat.pow_lt_pow_right (by omega) this
def kpt (q : Nat → Bool) (l : List Nat) (j : Nat) : List Nat := (l.take j).filter fun x => !q x
def dls (q : Nat → Bool) (l : List Nat) (j : Nat) : List Nat := kpt q l j ++ l.drop (kpt q l j).length
theorem kpt_len (q : Nat → Bool) (l : List Nat) (j : Nat) : (kpt q l j).length ≤ j := by
  have := List.length_filter_le (fun x => !q x) (l.take j)
  unfold kpt; rw [List.length_take] at this; omega
theorem kpt_t {q : Nat → Bool} {l : List Nat} {j : Nat} (hj : j < l.length) (h : q (l.getD j 0) = false) : kpt q l (j + 1) = kpt q l j ++ [l.getD j 0] := by
  unfold kpt
  rw [List.take_add_one, List.getElem?_eq_getElem hj, List.filter_append]
  rw [List.getD_eq_getElem?_getD, List.getElem?_eq_getElem hj] at *
  simp only [Option.getD_some] at *
  simp [h]
theorem kpt_f {q : Nat → Bool} {l : List Nat} {j : Nat} (hj : j < l.length) (h : q (l.getD j 0) = true) : kpt q l (j + 1) = kpt q l j := by
  unfold kpt
  rw [List.take_add_one, List.getElem?_eq_getElem hj, List.filter_append]
  rw [List.getD_eq_getElem?_getD, List.getElem?_eq_getElem hj] at h
  simp only [Option.getD_some] at h
  simp [h]
theorem dls_len {q : Nat → Bool} {l : List Nat} {j : Nat} (hj : j ≤ l.length) : (dls q l j).length = l.length := by
  have := kpt_len q l j
  unfold dls; rw [List.length_append, List.length_drop]; omega
theorem dls_get {q : Nat → Bool} {l : List Nat} {j : Nat} (hj : j < l.length) : (ints (dls q l j))[0 + j * 1]? = some (.int .i64 (l.getD j 0 : Nat)) := by
  have := kpt_len q l j
  rw [show 0 + j * 1 = j by omega]
  unfold ints dls
  rw [List.getElem?_map, List.getElem?_append_right this, List.getElem?_drop, show (kpt q l j).length + (j - (kpt q l j).length) = j by omega, List.getElem?_eq_getElem hj, List.getD_eq_getElem?_getD, List.getElem?_eq_getElem hj]
  rfl
theorem dls_set {q : Nat → Bool} {l : List Nat} {j : Nat} (hj : j < l.length) (h : q (l.getD j 0) = false) : (ints (dls q l j)).take (0 + (kpt q l j).length * 1) ++ [V.int .i64 (l.getD j 0 : Nat)] ++ (ints (dls q l j)).drop (0 + (kpt q l j).length * 1 + 1) = ints (dls q l (j + 1)) := by
  have := kpt_len q l j
  unfold dls
  rw [kpt_t hj h, show 0 + (kpt q l j).length * 1 = (kpt q l j).length by omega]
  unfold ints
  rw [List.map_append, List.take_append_of_le_length (by simp), List.take_of_length_le (by simp), List.drop_append, List.drop_eq_nil_of_le (by simp), List.length_map, show (kpt q l j).length + 1 - (kpt q l j).length = 1 by omega]
  simp [List.drop_drop]
theorem dls_f {q : Nat → Bool} {l : List Nat} {j : Nat} (hj : j < l.length) (h : q (l.getD j 0) = true) : dls q l (j + 1) = dls q l j := by
  unfold dls; rw [kpt_f hj h]
theorem dls_clear {q : Nat → Bool} {l : List Nat} {j : Nat} (hj : j = l.length) : (ints (dls q l j)).take (0 + (kpt q l j).length * 1) ++ (List.replicate (l.length - (kpt q l j).length) [V.int .i64 0]).flatten ++ (ints (dls q l j)).drop (0 + (kpt q l j).length * 1 + (l.length - (kpt q l j).length) * 1) = ints (kpt q l j ++ List.replicate (l.length - (kpt q l j).length) 0) := by
  have h1 := kpt_len q l j
  have h2 := dls_len (q := q) (l := l) (j := j) (by omega)
  rw [← go_flat, show 0 + (kpt q l j).length * 1 = (kpt q l j).length by omega, List.drop_eq_nil_of_le (by rw [ints_len, h2]; omega), List.append_nil]
  unfold dls ints
  rw [List.map_append, List.take_append_of_le_length (by simp), List.take_of_length_le (by simp), List.map_append]
-- slices.DeleteFunc[[]int64,int64]
def m108_0 : MC := (.seq (.seq (.region [⟨(.mov (.t 6)), (some 16), none⟩, ⟨(.mov (.t 0)), (some 17), none⟩, ⟨(.len (.t 17)), (some 18), none⟩, ⟨(.bin .lss (.t 16) (.t 18)), (some 19), none⟩] false) (.cond (.t 19) .skip (.exit 0))) (.seq (.block 1 (.seq (.region [⟨(.mov (.t 0)), (some 22), none⟩, ⟨(.mov (.t 6)), (some 23), none⟩, ⟨(.indexAddr 1 (.t 22) (.t 23)), (some 24), none⟩, ⟨(.load none (.t 24)), (some 25), none⟩, ⟨(.mov (.t 25)), (some 7), none⟩] false) (.seq (.region [⟨(.mov (.t 1)), (some 26), none⟩, ⟨(.mov (.t 7)), (some 27), none⟩, ⟨(.callv (.t 26) [(.t 27)]), (some 28), none⟩, ⟨(.un .not (.t 28)), (some 29), none⟩] false) (.cond (.t 29) (.seq (.region [⟨(.mov (.t 0)), (some 30), none⟩, ⟨(.mov (.t 5)), (some 31), none⟩, ⟨(.mov (.t 7)), (some 32), none⟩, ⟨(.indexAddr 1 (.t 30) (.t 31)), (some 33), none⟩, ⟨(.store 1 (.t 33) (.t 32)), none, none⟩] false) (.region [⟨(.mov (.t 5)), (some 34), none⟩, ⟨(.bin .add (.t 34) (.k (.int .i64 1))), (some 35), none⟩, ⟨(.mov (.t 35)), (some 5), none⟩] false)) .skip)))) (.region [⟨(.mov (.t 6)), (some 20), none⟩, ⟨(.bin .add (.t 20) (.k (.int .i64 1))), (some 21), none⟩, ⟨(.mov (.t 21)), (some 6), none⟩] false)))
def m108 : MC := (.seq (.region [⟨(.mov (.k .nils)), (some 4), none⟩] false) (.seq (.region [⟨(.mov (.t 0)), (some 8), none⟩, ⟨(.mov (.t 1)), (some 9), none⟩, ⟨(.call 112 [(.t 8), (.t 9)]), (some 10), none⟩, ⟨(.mov (.t 10)), (some 5), none⟩] false) (.seq (.seq (.region [⟨(.mov (.t 5)), (some 11), none⟩, ⟨(.bin .eql (.t 11) (.k (.int .i64 (-1)))), (some 12), none⟩] false) (.cond (.t 12) (.seq (.region [⟨(.mov (.t 0)), (some 13), none⟩, ⟨(.mov (.t 13)), (some 4), none⟩] false) .ret) .skip)) (.seq (.seq (.region [⟨(.mov (.t 5)), (some 14), none⟩, ⟨(.bin .add (.t 14) (.k (.int .i64 1))), (some 15), none⟩, ⟨(.mov (.t 15)), (some 6), none⟩] false) (.block 0 (.loop m108_0))) (.seq (.region [⟨(.mov (.t 0)), (some 36), none⟩, ⟨(.mov (.t 5)), (some 37), none⟩, ⟨(.slice 1 (.t 36) (some (.t 37)) none), (some 38), none⟩, ⟨(.clear 1 [(.int .i64 0)] (.t 38)), none, none⟩] false) (.seq (.region [⟨(.mov (.t 0)), (some 39), none⟩, ⟨(.mov (.t 5)), (some 40), none⟩, ⟨(.slice 1 (.t 39) none (some (.t 40))), (some 41), none⟩, ⟨(.mov (.t 41)), (some 4), none⟩] false) .ret))))))
theorem has108 : Has cx 108 42 m108 [(.tmp 4)] :=
  ⟨⟨Try.f108, Try.f108.body.getD .skip, by kernel_rfl, by kernel_rfl, by kernel_rfl, by kernel_rfl, by kernel_rfl, by kernel_rfl⟩⟩

def delQ (rs : List Nat) (bel : Nat → Nat → Bool) (r : Nat) : Bool := !allF (fun j => !(rs.getD j 0 != r && bel r (rs.getD j 0))) 0 rs.length
-- (impl.Func).ends$1$1
def m111 : MC := (.seq (.region [⟨(.mov (.k (.bool false))), (some 4), none⟩] false) (.seq (.region [⟨(.mov (.t 0)), (some 5), none⟩, ⟨(.load none (.t 1)), (some 6), none⟩, ⟨(.bin .neq (.t 5) (.t 6)), (some 7), none⟩, ⟨(.mov (.t 7)), (some 8), none⟩, ⟨(.load none (.t 2)), (some 9), (some (8, true))⟩, ⟨(.load none (.t 1)), (some 10), (some (8, true))⟩, ⟨(.mov (.t 0)), (some 11), (some (8, true))⟩, ⟨(.callv (.t 9) [(.t 10), (.t 11)]), (some 12), (some (8, true))⟩, ⟨(.pick (.t 8) (.t 12) (.k (.bool false))), (some 13), none⟩, ⟨(.mov (.t 13)), (some 4), none⟩] false) .ret))
theorem has111 : Has cx 111 14 m111 [(.tmp 4)] :=
  ⟨⟨Try.f111, Try.f111.body.getD .skip, by kernel_rfl, by kernel_rfl, by kernel_rfl, by kernel_rfl, by kernel_rfl, by kernel_rfl⟩⟩
theorem ev111 (fb : Nat) (bel : Nat → Nat → Bool) (r s : Nat) (hbel : Ev cx fb [.int .i64 r, .int .i64 s] [] (.bool (bel r s)) []) : Ev cx 111 [.int .i64 s, .ptr 0 0, .ptr 1 0] [⟨[.int .i64 r], 1, 0, some 0, true⟩, ⟨[.fn fb []], 1, 1, some 0, true⟩] (.bool (s != r && bel r s)) [⟨[.int .i64 r], 1, 0, some 0, true⟩, ⟨[.fn fb []], 1, 1, some 0, true⟩] := by
  have hq := ine s r
  cases h : (s != r)
  · rw [h] at hq
    refine has111.eev rfl rfl ?_
    unfold m111
    repeat' (first
      | (refine g_op ?_; first
        | refine ep_mov rfl ?_ | refine ep_load1 rfl rfl rfl rfl ?_
        | refine ep_bin rfl rfl (by first | exact b_add (by omega) (by omega) | exact b_sub (by omega) (by omega) | exact b_and (by omega) (by omega) | exact b_or (by omega) (by omega) | exact b_shr (by omega) | exact b_shl (by omega) (by omega) | exact b_lss | exact b_leq | exact b_gtr | exact b_geq | exact b_eql | exact b_neq) ?_
        | refine ep_pickT rfl rfl ?_ | refine ep_pickF rfl rfl ?_ | refine ep_pickTH rfl (by assumption) rfl ?_ | refine ep_pickFH rfl (by assumption) rfl ?_)
      | (refine g_ops ?_; first | refine eo_none ?_ | refine eo_nil ?_ | refine eo_yes rfl ?_ | refine eo_no rfl ?_ | refine eo_und rfl ?_ | refine eo_yesH rfl (by assumption) ?_ | refine eo_noH rfl (by assumption) ?_)
      | (refine g_code ?_; first | refine ec_seq ?_ | refine ec_region ?_ | refine ec_ret ?_)
      | refine ek_seqN ?_ | refine ek_seqR ?_)
    refine sfin (.inr rfl) (by rfl) (by rfl) (by exact ⟨rfl, rfl, rfl⟩) (by rfl) (by rfl) (by rfl) (by first | rfl | (simp; done) | (simp [ints, prs]; done))
  · rw [h] at hq
    refine has111.eev rfl rfl ?_
    unfold m111
    repeat' (first
      | (refine g_op ?_; first
        | refine ep_mov rfl ?_ | refine ep_load1 rfl rfl rfl rfl ?_
        | refine sp_callv rfl rfl rfl rfl rfl rfl (by first | exact hbel) ⟨rfl, rfl, rfl, rfl⟩ rfl rfl rfl ?_
        | refine sp_callb rfl rfl rfl rfl rfl rfl (by first | exact hbel) ⟨rfl, rfl, rfl, rfl⟩ rfl rfl rfl ?_
        | refine ep_bin rfl rfl (by first | exact b_add (by omega) (by omega) | exact b_sub (by omega) (by omega) | exact b_and (by omega) (by omega) | exact b_or (by omega) (by omega) | exact b_shr (by omega) | exact b_shl (by omega) (by omega) | exact b_lss | exact b_leq | exact b_gtr | exact b_geq | exact b_eql | exact b_neq) ?_
        | refine ep_pickT rfl rfl ?_ | refine ep_pickF rfl rfl ?_ | refine ep_pickTH rfl (by assumption) rfl ?_ | refine ep_pickFH rfl (by assumption) rfl ?_)
      | (refine g_ops ?_; first | refine eo_none ?_ | refine eo_nil ?_ | refine eo_yes rfl ?_ | refine eo_no rfl ?_ | refine eo_und rfl ?_ | refine eo_yesH rfl (by assumption) ?_ | refine eo_noH rfl (by assumption) ?_)
      | (refine g_code ?_; first | refine ec_seq ?_ | refine ec_region ?_ | refine ec_ret ?_)
      | refine ek_seqN ?_ | refine ek_seqR ?_)
    refine sfin (.inr rfl) (by rfl) (by rfl) (by exact ⟨rfl, rfl, rfl⟩) (by rfl) (by rfl) (by rfl) (by first | rfl | (simp; done) | (simp [ints, prs]; done))
-- (impl.Func).ends$1
def m110 : MC := (.seq (.region [⟨(.box (.t 0)), (some 3), none⟩, ⟨(.mov (.k (.bool false))), (some 4), none⟩] false) (.seq (.region [⟨(.load none (.t 1)), (some 5), none⟩, ⟨(.mkfn 111 [(.t 3), (.t 2)]), (some 6), none⟩, ⟨(.call 66 [(.t 5), (.t 6)]), (some 7), none⟩, ⟨(.mov (.t 7)), (some 4), none⟩] false) .ret))
theorem has110 : Has cx 110 8 m110 [(.tmp 4)] :=
  ⟨⟨Try.f110, Try.f110.body.getD .skip, by kernel_rfl, by kernel_rfl, by kernel_rfl, by kernel_rfl, by kernel_rfl, by kernel_rfl⟩⟩
theorem lpix_ends1 (fb : Nat) (bel : Nat → Nat → Bool) (hbel : ∀ r s : Nat, r < 65536 → s < 65536 → Ev cx fb [.int .i64 r, .int .i64 s] [] (.bool (bel r s)) []) (rs : List Nat) (hrn : rs.length ≤ 16) (hrl : ∀ j, j < rs.length → rs.getD j 0 < 65536) (r : Nat) (hr : r < 65536) (o : Out) (ho : (match firstF (fun i => !(fun j => (rs.getD j 0 != r && bel r (rs.getD j 0))) i) 0 (rs.length) with | none => (⟨.exit 0, [], [⟨ints rs, 1, 0, some 0, false⟩, ⟨[.int .i64 r], 1, 1, some 0, true⟩, ⟨[.fn fb []], 1, 2, some 0, true⟩]⟩ : Out) | some x => ⟨.ret, [(4, .int .i64 (x : Nat))], [⟨ints rs, 1, 0, some 0, false⟩, ⟨[.int .i64 r], 1, 1, some 0, true⟩, ⟨[.fn fb []], 1, 2, some 0, true⟩]⟩) = o) :
    LpS cx 19 3 m112_0 [(0, .sl 0 0 rs.length), (1, .fn 111 [.ptr 1 0, .ptr 2 0]), (7, .int .i64 (rs.length : Nat)), (8, .int .i64 (0 : Nat))] [⟨ints rs, 1, 0, some 0, false⟩, ⟨[.int .i64 r], 1, 1, some 0, true⟩, ⟨[.fn fb []], 1, 2, some 0, true⟩] o.x o.e o.h := by
  refine lp_brk (rs.length) (fun i => !(fun j => (rs.getD j 0 != r && bel r (rs.getD j 0))) i) (fun _ => ()) (fun i _ => [(0, .sl 0 0 rs.length), (1, .fn 111 [.ptr 1 0, .ptr 2 0]), (7, .int .i64 (rs.length : Nat)), (8, .int .i64 (i : Nat))]) (fun i _ => [⟨ints rs, 1, 0, some 0, false⟩, ⟨[.int .i64 r], 1, 1, some 0, true⟩, ⟨[.fn fb []], 1, 2, some 0, true⟩]) (fun _ => ⟨.exit 0, [], [⟨ints rs, 1, 0, some 0, false⟩, ⟨[.int .i64 r], 1, 1, some 0, true⟩, ⟨[.fn fb []], 1, 2, some 0, true⟩]⟩) (fun i _ => ⟨.ret, [(4, .int .i64 (i : Nat))], [⟨ints rs, 1, 0, some 0, false⟩, ⟨[.int .i64 r], 1, 1, some 0, true⟩, ⟨[.fn fb []], 1, 2, some 0, true⟩]⟩) ?_ ?_ ?_ (rs.length) 0 o (by omega) (fun h => by rw [← ho, firstF_none fun x h1 h2 => h x h1 (by omega)]) (fun x h1 h2 h3 h4 => by rw [← ho, firstF_some h1 (by omega) h3 h4])
  · intro i s hi hs hp
    have hlt : decide ((i : Int) < (rs.length : Nat)) = true := decide_eq_true (by omega)
    have hp' : (!(fun j => (rs.getD j 0 != r && bel r (rs.getD j 0))) i) = true := hp
    refine ⟨(), rfl, ?_⟩
    have e0 := ev111 fb bel r (rs.getD i 0) (hbel r _ hr (hrl i hi))
    have hq : ((rs.getD i 0 != r && bel r (rs.getD i 0))) = !((!(fun j => (rs.getD j 0 != r && bel r (rs.getD j 0))) i)) := by simp
    rw [hp'] at hq
    rw [hq] at e0
    unfold m112_0
    repeat' (first
      | (refine g_op ?_; first
        | refine ep_mov rfl ?_ | refine ep_load1 rfl rfl rfl rfl ?_
        | refine sp_callv rfl rfl rfl rfl rfl rfl (by first | exact e0) ⟨rfl, rfl, rfl, rfl⟩ rfl rfl rfl ?_
        | refine sp_callb rfl rfl rfl rfl rfl rfl (by first | exact e0) ⟨rfl, rfl, rfl, rfl⟩ rfl rfl rfl ?_
        | refine ep_bin rfl rfl (by first | exact b_add (by omega) (by omega) | exact b_sub (by omega) (by omega) | exact b_and (by omega) (by omega) | exact b_or (by omega) (by omega) | exact b_shr (by omega) | exact b_shl (by omega) (by omega) | exact b_lss | exact b_leq | exact b_gtr | exact b_geq | exact b_eql | exact b_neq) ?_
        | refine sp_idx rfl rfl rfl (by omega) rfl ?_ | refine ep_loadS rfl rfl rfl (by first | exact ints_get (by omega) | exact zints_get (by omega) | exact fget (by omega) | assumption) ?_)
      | (refine g_ops ?_; first | refine eo_none ?_ | refine eo_nil ?_)
      | (refine g_code ?_; first | refine ec_seq ?_ | refine ec_region ?_ | refine ec_block ?_ | refine ec_skip ?_ | refine ec_exit ?_ | refine ec_ret ?_ | refine ec_condT rfl ?_ | refine ec_condF rfl ?_ | refine ec_condTH rfl (by assumption) ?_ | refine ec_condFH rfl (by assumption) ?_)
      | refine ek_seqN ?_ | refine ek_seqX ?_ | refine ek_seqR ?_ | refine ek_blkN ?_ | refine ek_blkR ?_ | refine ek_blkX ?_ | refine ek_blkY rfl ?_)
    exact rnd_on (by rfl) (scmp2 (by rfl) (by rfl) (by exact ⟨rfl, rfl, rfl⟩) (by rfl) (by first | rfl | (simp; done) | (simp [ints, prs]; done)) (by rfl) (by first | rfl | (simp; done) | (simp [ints, prs]; done)))
  · intro i s hi hs hp
    have hlt : decide ((i : Int) < (rs.length : Nat)) = true := decide_eq_true (by omega)
    have hp' : (!(fun j => (rs.getD j 0 != r && bel r (rs.getD j 0))) i) = false := hp
    have e0 := ev111 fb bel r (rs.getD i 0) (hbel r _ hr (hrl i hi))
    have hq : ((rs.getD i 0 != r && bel r (rs.getD i 0))) = !((!(fun j => (rs.getD j 0 != r && bel r (rs.getD j 0))) i)) := by simp
    rw [hp'] at hq
    rw [hq] at e0
    unfold m112_0
    repeat' (first
      | (refine g_op ?_; first
        | refine ep_mov rfl ?_ | refine ep_load1 rfl rfl rfl rfl ?_
        | refine sp_callv rfl rfl rfl rfl rfl rfl (by first | exact e0) ⟨rfl, rfl, rfl, rfl⟩ rfl rfl rfl ?_
        | refine sp_callb rfl rfl rfl rfl rfl rfl (by first | exact e0) ⟨rfl, rfl, rfl, rfl⟩ rfl rfl rfl ?_
        | refine ep_bin rfl rfl (by first | exact b_add (by omega) (by omega) | exact b_sub (by omega) (by omega) | exact b_and (by omega) (by omega) | exact b_or (by omega) (by omega) | exact b_shr (by omega) | exact b_shl (by omega) (by omega) | exact b_lss | exact b_leq | exact b_gtr | exact b_geq | exact b_eql | exact b_neq) ?_
        | refine sp_idx rfl rfl rfl (by omega) rfl ?_ | refine ep_loadS rfl rfl rfl (by first | exact ints_get (by omega) | exact zints_get (by omega) | exact fget (by omega) | assumption) ?_)
      | (refine g_ops ?_; first | refine eo_none ?_ | refine eo_nil ?_)
      | (refine g_code ?_; first | refine ec_seq ?_ | refine ec_region ?_ | refine ec_block ?_ | refine ec_skip ?_ | refine ec_exit ?_ | refine ec_ret ?_ | refine ec_condT rfl ?_ | refine ec_condF rfl ?_ | refine ec_condTH rfl (by assumption) ?_ | refine ec_condFH rfl (by assumption) ?_)
      | refine ek_seqN ?_ | refine ek_seqX ?_ | refine ek_seqR ?_ | refine ek_blkN ?_ | refine ek_blkR ?_ | refine ek_blkX ?_ | refine ek_blkY rfl ?_)
    exact rnd_out (by rfl) (by simp) (scmp2 (by rfl) (by rfl) (by exact ⟨rfl, rfl, rfl⟩) (by rfl) (by first | rfl | (simp; done) | (simp [ints, prs]; done)) (by rfl) (by first | rfl | (simp; done) | (simp [ints, prs]; done)))
  · intro s hs
    have hlt : decide (((rs.length : Nat) : Int) < (rs.length : Nat)) = false := decide_eq_false (by omega)
    unfold m112_0
    repeat' (first
      | (refine g_op ?_; first
        | refine ep_mov rfl ?_ | refine ep_load1 rfl rfl rfl rfl ?_
        | refine sp_callv rfl rfl rfl rfl rfl rfl (by first | exact e0) ⟨rfl, rfl, rfl, rfl⟩ rfl rfl rfl ?_
        | refine sp_callb rfl rfl rfl rfl rfl rfl (by first | exact e0) ⟨rfl, rfl, rfl, rfl⟩ rfl rfl rfl ?_
        | refine ep_bin rfl rfl (by first | exact b_add (by omega) (by omega) | exact b_sub (by omega) (by omega) | exact b_and (by omega) (by omega) | exact b_or (by omega) (by omega) | exact b_shr (by omega) | exact b_shl (by omega) (by omega) | exact b_lss | exact b_leq | exact b_gtr | exact b_geq | exact b_eql | exact b_neq) ?_
        | refine sp_idx rfl rfl rfl (by omega) rfl ?_ | refine ep_loadS rfl rfl rfl (by first | exact ints_get (by omega) | exact zints_get (by omega) | exact fget (by omega) | assumption) ?_)
      | (refine g_ops ?_; first | refine eo_none ?_ | refine eo_nil ?_)
      | (refine g_code ?_; first | refine ec_seq ?_ | refine ec_region ?_ | refine ec_block ?_ | refine ec_skip ?_ | refine ec_exit ?_ | refine ec_ret ?_ | refine ec_condT rfl ?_ | refine ec_condF rfl ?_ | refine ec_condTH rfl (by assumption) ?_ | refine ec_condFH rfl (by assumption) ?_)
      | refine ek_seqN ?_ | refine ek_seqX ?_ | refine ek_seqR ?_ | refine ek_blkN ?_ | refine ek_blkR ?_ | refine ek_blkX ?_ | refine ek_blkY rfl ?_)
    exact rnd_out (by rfl) (by simp) (scmp2 (by rfl) (by rfl) (by exact ⟨rfl, rfl, rfl⟩) (by rfl) (by first | rfl | (simp; done) | (simp [ints, prs]; done)) (by rfl) (by first | rfl | (simp; done) | (simp [ints, prs]; done)))
theorem evix_ends1 (fb : Nat) (bel : Nat → Nat → Bool) (hbel : ∀ r s : Nat, r < 65536 → s < 65536 → Ev cx fb [.int .i64 r, .int .i64 s] [] (.bool (bel r s)) []) (rs : List Nat) (hrn : rs.length ≤ 16) (hrl : ∀ j, j < rs.length → rs.getD j 0 < 65536) (r : Nat) (hr : r < 65536) : Ev cx 112 [.sl 0 0 rs.length, .fn 111 [.ptr 1 0, .ptr 2 0]] [⟨ints rs, 1, 0, some 0, false⟩, ⟨[.int .i64 r], 1, 1, some 0, true⟩, ⟨[.fn fb []], 1, 2, some 0, true⟩] (.int .i64 (match firstF (fun i => !(fun j => (rs.getD j 0 != r && bel r (rs.getD j 0))) i) 0 (rs.length) with | none => -1 | some x => ((x : Nat) : Int))) [⟨ints rs, 1, 0, some 0, false⟩, ⟨[.int .i64 r], 1, 1, some 0, true⟩, ⟨[.fn fb []], 1, 2, some 0, true⟩] := by
  cases hs : firstF (fun i => !(fun j => (rs.getD j 0 != r && bel r (rs.getD j 0))) i) 0 (rs.length) with
  | none =>
    have lp := lpix_ends1 fb bel hbel rs hrn hrl r hr _ (by rw [hs])
    refine has112.eev rfl rfl ?_
    unfold m112
    repeat' (first
      | refine sc_loop lp rfl rfl ⟨rfl, rfl, rfl⟩ rfl rfl rfl ?_
      | (refine g_op ?_; first
        | refine ep_mov rfl ?_
        | refine ep_lenS rfl ?_ | refine ep_lenN rfl ?_ | refine ep_lenE rfl ?_)
      | (refine g_ops ?_; first | refine eo_none ?_ | refine eo_nil ?_)
      | (refine g_code ?_; first | refine ec_seq ?_ | refine ec_region ?_ | refine ec_block ?_ | refine ec_ret ?_)
      | refine ek_seqN ?_ | refine ek_seqX ?_ | refine ek_seqR ?_ | refine ek_blkN ?_ | refine ek_blkR ?_ | refine ek_blkX ?_ | refine ek_blkY rfl ?_)
    refine sfin (.inr rfl) (by rfl) (by rfl) (by exact ⟨rfl, rfl, rfl⟩) (by rfl) (by rfl) (by rfl) (by first | rfl | (simp; done) | (simp [ints, prs]; done))
  | some x =>
    have lp := lpix_ends1 fb bel hbel rs hrn hrl r hr _ (by rw [hs])
    refine has112.eev rfl rfl ?_
    unfold m112
    repeat' (first
      | refine sc_loop lp rfl rfl ⟨rfl, rfl, rfl⟩ rfl rfl rfl ?_
      | (refine g_op ?_; first
        | refine ep_mov rfl ?_
        | refine ep_lenS rfl ?_ | refine ep_lenN rfl ?_ | refine ep_lenE rfl ?_)
      | (refine g_ops ?_; first | refine eo_none ?_ | refine eo_nil ?_)
      | (refine g_code ?_; first | refine ec_seq ?_ | refine ec_region ?_ | refine ec_block ?_ | refine ec_ret ?_)
      | refine ek_seqN ?_ | refine ek_seqX ?_ | refine ek_seqR ?_ | refine ek_blkN ?_ | refine ek_blkR ?_ | refine ek_blkX ?_ | refine ek_blkY rfl ?_)
    refine sfin (.inr rfl) (by rfl) (by rfl) (by exact ⟨rfl, rfl, rfl⟩) (by rfl) (by rfl) (by rfl) (by first | rfl | (simp; done) | (simp [ints, prs]; done))
theorem evcf_ends1 (fb : Nat) (bel : Nat → Nat → Bool) (hbel : ∀ r s : Nat, r < 65536 → s < 65536 → Ev cx fb [.int .i64 r, .int .i64 s] [] (.bool (bel r s)) []) (rs : List Nat) (hrn : rs.length ≤ 16) (hrl : ∀ j, j < rs.length → rs.getD j 0 < 65536) (r : Nat) (hr : r < 65536) : Ev cx 66 [.sl 0 0 rs.length, .fn 111 [.ptr 1 0, .ptr 2 0]] [⟨ints rs, 1, 0, some 0, false⟩, ⟨[.int .i64 r], 1, 1, some 0, true⟩, ⟨[.fn fb []], 1, 2, some 0, true⟩] (.bool (!allF (fun i => !(fun j => (rs.getD j 0 != r && bel r (rs.getD j 0))) i) 0 (rs.length))) [⟨ints rs, 1, 0, some 0, false⟩, ⟨[.int .i64 r], 1, 1, some 0, true⟩, ⟨[.fn fb []], 1, 2, some 0, true⟩] := by
  have e1 := evix_ends1 fb bel hbel rs hrn hrl r hr
  cases hs : firstF (fun i => !(fun j => (rs.getD j 0 != r && bel r (rs.getD j 0))) i) 0 (rs.length) with
  | none =>
    rw [hs] at e1
    refine has66.eev rfl rfl ?_
    unfold m66
    repeat' (first
      | (refine g_op ?_; first
        | refine ep_mov rfl ?_
        | refine ep_call0 rfl (by first | exact e1) rfl rfl ?_
        | refine sp_call rfl rfl rfl rfl (by first | exact e1) ⟨rfl, rfl, rfl, rfl⟩ rfl rfl rfl ?_
        | refine ep_bin rfl rfl (by first | exact b_add (by omega) (by omega) | exact b_sub (by omega) (by omega) | exact b_and (by omega) (by omega) | exact b_or (by omega) (by omega) | exact b_shr (by omega) | exact b_shl (by omega) (by omega) | exact b_lss | exact b_leq | exact b_gtr | exact b_geq | exact b_eql | exact b_neq) ?_)
      | (refine g_ops ?_; first | refine eo_none ?_ | refine eo_nil ?_)
      | (refine g_code ?_; first | refine ec_seq ?_ | refine ec_region ?_ | refine ec_ret ?_)
      | refine ek_seqN ?_ | refine ek_seqR ?_)
    refine sfin (.inr rfl) (by rfl) (by rfl) (by exact ⟨rfl, rfl, rfl⟩) (by rfl) (by rfl) (by rw [firstF_allT hs]; rfl) (by first | rfl | (simp; done) | (simp [ints, prs]; done))
  | some x =>
    rw [hs] at e1
    have hge : decide (((x : Nat) : Int) ≥ 0) = true := decide_eq_true (by omega)
    refine has66.eev rfl rfl ?_
    unfold m66
    repeat' (first
      | (refine g_op ?_; first
        | refine ep_mov rfl ?_
        | refine ep_call0 rfl (by first | exact e1) rfl rfl ?_
        | refine sp_call rfl rfl rfl rfl (by first | exact e1) ⟨rfl, rfl, rfl, rfl⟩ rfl rfl rfl ?_
        | refine ep_bin rfl rfl (by first | exact b_add (by omega) (by omega) | exact b_sub (by omega) (by omega) | exact b_and (by omega) (by omega) | exact b_or (by omega) (by omega) | exact b_shr (by omega) | exact b_shl (by omega) (by omega) | exact b_lss | exact b_leq | exact b_gtr | exact b_geq | exact b_eql | exact b_neq) ?_)
      | (refine g_ops ?_; first | refine eo_none ?_ | refine eo_nil ?_)
      | (refine g_code ?_; first | refine ec_seq ?_ | refine ec_region ?_ | refine ec_ret ?_)
      | refine ek_seqN ?_ | refine ek_seqR ?_)
    refine sfin (.inr rfl) (by rfl) (by rfl) (by exact ⟨rfl, rfl, rfl⟩) (by rfl) (by rfl) (by rw [firstF_allF hs]; first | rfl | exact congrArg V.bool hge) (by first | rfl | (simp; done) | (simp [ints, prs]; done))

theorem ev110 (fb : Nat) (bel : Nat → Nat → Bool) (hbel : ∀ r s : Nat, r < 65536 → s < 65536 → Ev cx fb [.int .i64 r, .int .i64 s] [] (.bool (bel r s)) []) (rs : List Nat) (hrn : rs.length ≤ 16) (hrl : ∀ j, j < rs.length → rs.getD j 0 < 65536) (r : Nat) (hr : r < 65536) : Ev cx 110 [.int .i64 r, .ptr 0 0, .ptr 2 0] [⟨[.sl 1 0 rs.length], 1, 0, some 0, true⟩, ⟨ints rs, 1, 1, some 0, false⟩, ⟨[.fn fb []], 1, 2, some 0, true⟩] (.bool (delQ rs bel r)) [⟨[.sl 1 0 rs.length], 1, 0, some 0, true⟩, ⟨ints rs, 1, 1, some 0, false⟩, ⟨[.fn fb []], 1, 2, some 0, true⟩] := by
  have e1 := evcf_ends1 fb bel hbel rs hrn hrl r hr
  refine has110.eev rfl rfl ?_
  unfold m110
  repeat' (first
    | (refine g_op ?_; first
      | refine ep_mov rfl ?_ | refine ep_load1 rfl rfl rfl rfl ?_
      | refine ep_call0 rfl (by first | exact e1) rfl rfl ?_
      | refine sp_call rfl rfl rfl rfl (by first | exact e1) ⟨rfl, rfl, rfl, rfl⟩ rfl rfl rfl ?_
      | refine sp_box rfl rfl rfl rfl rfl ?_ | refine ep_mkfn rfl ?_)
    | (refine g_ops ?_; first | refine eo_none ?_ | refine eo_nil ?_)
    | (refine g_code ?_; first | refine ec_seq ?_ | refine ec_region ?_ | refine ec_ret ?_)
    | refine ek_seqN ?_ | refine ek_seqR ?_)
  refine sfin (.inr rfl) (by rfl) (by rfl) (by exact ⟨rfl, rfl, rfl⟩) (by rfl) (by rfl) (by rfl) (by first | rfl | (simp; done) | (simp [ints, prs]; done))
theorem lpix_endsix (fb : Nat) (bel : Nat → Nat → Bool) (hbel : ∀ r s : Nat, r < 65536 → s < 65536 → Ev cx fb [.int .i64 r, .int .i64 s] [] (.bool (bel r s)) []) (rs : List Nat) (hrn : rs.length ≤ 16) (hrl : ∀ j, j < rs.length → rs.getD j 0 < 65536) (l : List Nat) (hln : l.length ≤ 1048576) (hl : ∀ j, j < l.length → l.getD j 0 < 65536) (o : Out) (ho : (match firstF (fun i => !(fun j => (delQ rs bel) (l.getD j 0)) i) 0 (l.length) with | none => (⟨.exit 0, [], [⟨ints l, 1, 0, some 0, false⟩, ⟨[.sl 2 0 rs.length], 1, 1, some 0, true⟩, ⟨ints rs, 1, 2, some 0, false⟩, ⟨[.fn fb []], 1, 3, some 0, true⟩]⟩ : Out) | some x => ⟨.ret, [(4, .int .i64 (x : Nat))], [⟨ints l, 1, 0, some 0, false⟩, ⟨[.sl 2 0 rs.length], 1, 1, some 0, true⟩, ⟨ints rs, 1, 2, some 0, false⟩, ⟨[.fn fb []], 1, 3, some 0, true⟩]⟩) = o) :
    LpS cx 19 4 m112_0 [(0, .sl 0 0 l.length), (1, .fn 110 [.ptr 1 0, .ptr 3 0]), (7, .int .i64 (l.length : Nat)), (8, .int .i64 (0 : Nat))] [⟨ints l, 1, 0, some 0, false⟩, ⟨[.sl 2 0 rs.length], 1, 1, some 0, true⟩, ⟨ints rs, 1, 2, some 0, false⟩, ⟨[.fn fb []], 1, 3, some 0, true⟩] o.x o.e o.h := by
  refine lp_brk (l.length) (fun i => !(fun j => (delQ rs bel) (l.getD j 0)) i) (fun _ => ()) (fun i _ => [(0, .sl 0 0 l.length), (1, .fn 110 [.ptr 1 0, .ptr 3 0]), (7, .int .i64 (l.length : Nat)), (8, .int .i64 (i : Nat))]) (fun i _ => [⟨ints l, 1, 0, some 0, false⟩, ⟨[.sl 2 0 rs.length], 1, 1, some 0, true⟩, ⟨ints rs, 1, 2, some 0, false⟩, ⟨[.fn fb []], 1, 3, some 0, true⟩]) (fun _ => ⟨.exit 0, [], [⟨ints l, 1, 0, some 0, false⟩, ⟨[.sl 2 0 rs.length], 1, 1, some 0, true⟩, ⟨ints rs, 1, 2, some 0, false⟩, ⟨[.fn fb []], 1, 3, some 0, true⟩]⟩) (fun i _ => ⟨.ret, [(4, .int .i64 (i : Nat))], [⟨ints l, 1, 0, some 0, false⟩, ⟨[.sl 2 0 rs.length], 1, 1, some 0, true⟩, ⟨ints rs, 1, 2, some 0, false⟩, ⟨[.fn fb []], 1, 3, some 0, true⟩]⟩) ?_ ?_ ?_ (l.length) 0 o (by omega) (fun h => by rw [← ho, firstF_none fun x h1 h2 => h x h1 (by omega)]) (fun x h1 h2 h3 h4 => by rw [← ho, firstF_some h1 (by omega) h3 h4])
  · intro i s hi hs hp
    have hlt : decide ((i : Int) < (l.length : Nat)) = true := decide_eq_true (by omega)
    have hp' : (!(fun j => (delQ rs bel) (l.getD j 0)) i) = true := hp
    refine ⟨(), rfl, ?_⟩
    have e0 := ev110 fb bel hbel rs hrn hrl (l.getD i 0) (hl i hi)
    have hq : ((delQ rs bel) (l.getD i 0)) = !((!(fun j => (delQ rs bel) (l.getD j 0)) i)) := by simp
    rw [hp'] at hq
    rw [hq] at e0
    unfold m112_0
    repeat' (first
      | (refine g_op ?_; first
        | refine ep_mov rfl ?_ | refine ep_load1 rfl rfl rfl rfl ?_
        | refine sp_callv rfl rfl rfl rfl rfl rfl (by first | exact e0) ⟨rfl, rfl, rfl, rfl⟩ rfl rfl rfl ?_
        | refine sp_callb rfl rfl rfl rfl rfl rfl (by first | exact e0) ⟨rfl, rfl, rfl, rfl⟩ rfl rfl rfl ?_
        | refine ep_bin rfl rfl (by first | exact b_add (by omega) (by omega) | exact b_sub (by omega) (by omega) | exact b_and (by omega) (by omega) | exact b_or (by omega) (by omega) | exact b_shr (by omega) | exact b_shl (by omega) (by omega) | exact b_lss | exact b_leq | exact b_gtr | exact b_geq | exact b_eql | exact b_neq) ?_
        | refine sp_idx rfl rfl rfl (by omega) rfl ?_ | refine ep_loadS rfl rfl rfl (by first | exact ints_get (by omega) | exact zints_get (by omega) | exact fget (by omega) | assumption) ?_)
      | (refine g_ops ?_; first | refine eo_none ?_ | refine eo_nil ?_)
      | (refine g_code ?_; first | refine ec_seq ?_ | refine ec_region ?_ | refine ec_block ?_ | refine ec_skip ?_ | refine ec_exit ?_ | refine ec_ret ?_ | refine ec_condT rfl ?_ | refine ec_condF rfl ?_ | refine ec_condTH rfl (by assumption) ?_ | refine ec_condFH rfl (by assumption) ?_)
      | refine ek_seqN ?_ | refine ek_seqX ?_ | refine ek_seqR ?_ | refine ek_blkN ?_ | refine ek_blkR ?_ | refine ek_blkX ?_ | refine ek_blkY rfl ?_)
    exact rnd_on (by rfl) (scmp2 (by rfl) (by rfl) (by exact ⟨rfl, rfl, rfl⟩) (by rfl) (by first | rfl | (simp; done) | (simp [ints, prs]; done)) (by rfl) (by first | rfl | (simp; done) | (simp [ints, prs]; done)))
  · intro i s hi hs hp
    have hlt : decide ((i : Int) < (l.length : Nat)) = true := decide_eq_true (by omega)
    have hp' : (!(fun j => (delQ rs bel) (l.getD j 0)) i) = false := hp
    have e0 := ev110 fb bel hbel rs hrn hrl (l.getD i 0) (hl i hi)
    have hq : ((delQ rs bel) (l.getD i 0)) = !((!(fun j => (delQ rs bel) (l.getD j 0)) i)) := by simp
    rw [hp'] at hq
    rw [hq] at e0
    unfold m112_0
    repeat' (first
      | (refine g_op ?_; first
        | refine ep_mov rfl ?_ | refine ep_load1 rfl rfl rfl rfl ?_
        | refine sp_callv rfl rfl rfl rfl rfl rfl (by first | exact e0) ⟨rfl, rfl, rfl, rfl⟩ rfl rfl rfl ?_
        | refine sp_callb rfl rfl rfl rfl rfl rfl (by first | exact e0) ⟨rfl, rfl, rfl, rfl⟩ rfl rfl rfl ?_
        | refine ep_bin rfl rfl (by first | exact b_add (by omega) (by omega) | exact b_sub (by omega) (by omega) | exact b_and (by omega) (by omega) | exact b_or (by omega) (by omega) | exact b_shr (by omega) | exact b_shl (by omega) (by omega) | exact b_lss | exact b_leq | exact b_gtr | exact b_geq | exact b_eql | exact b_neq) ?_
        | refine sp_idx rfl rfl rfl (by omega) rfl ?_ | refine ep_loadS rfl rfl rfl (by first | exact ints_get (by omega) | exact zints_get (by omega) | exact fget (by omega) | assumption) ?_)
      | (refine g_ops ?_; first | refine eo_none ?_ | refine eo_nil ?_)
      | (refine g_code ?_; first | refine ec_seq ?_ | refine ec_region ?_ | refine ec_block ?_ | refine ec_skip ?_ | refine ec_exit ?_ | refine ec_ret ?_ | refine ec_condT rfl ?_ | refine ec_condF rfl ?_ | refine ec_condTH rfl (by assumption) ?_ | refine ec_condFH rfl (by assumption) ?_)
      | refine ek_seqN ?_ | refine ek_seqX ?_ | refine ek_seqR ?_ | refine ek_blkN ?_ | refine ek_blkR ?_ | refine ek_blkX ?_ | refine ek_blkY rfl ?_)
    exact rnd_out (by rfl) (by simp) (scmp2 (by rfl) (by rfl) (by exact ⟨rfl, rfl, rfl⟩) (by rfl) (by first | rfl | (simp; done) | (simp [ints, prs]; done)) (by rfl) (by first | rfl | (simp; done) | (simp [ints, prs]; done)))
  · intro s hs
    have hlt : decide (((l.length : Nat) : Int) < (l.length : Nat)) = false := decide_eq_false (by omega)
    unfold m112_0
    repeat' (first
      | (refine g_op ?_; first
        | refine ep_mov rfl ?_ | refine ep_load1 rfl rfl rfl rfl ?_
        | refine sp_callv rfl rfl rfl rfl rfl rfl (by first | exact e0) ⟨rfl, rfl, rfl, rfl⟩ rfl rfl rfl ?_
        | refine sp_callb rfl rfl rfl rfl rfl rfl (by first | exact e0) ⟨rfl, rfl, rfl, rfl⟩ rfl rfl rfl ?_
        | refine ep_bin rfl rfl (by first | exact b_add (by omega) (by omega) | exact b_sub (by omega) (by omega) | exact b_and (by omega) (by omega) | exact b_or (by omega) (by omega) | exact b_shr (by omega) | exact b_shl (by omega) (by omega) | exact b_lss | exact b_leq | exact b_gtr | exact b_geq | exact b_eql | exact b_neq) ?_
        | refine sp_idx rfl rfl rfl (by omega) rfl ?_ | refine ep_loadS rfl rfl rfl (by first | exact ints_get (by omega) | exact zints_get (by omega) | exact fget (by omega) | assumption) ?_)
      | (refine g_ops ?_; first | refine eo_none ?_ | refine eo_nil ?_)
      | (refine g_code ?_; first | refine ec_seq ?_ | refine ec_region ?_ | refine ec_block ?_ | refine ec_skip ?_ | refine ec_exit ?_ | refine ec_ret ?_ | refine ec_condT rfl ?_ | refine ec_condF rfl ?_ | refine ec_condTH rfl (by assumption) ?_ | refine ec_condFH rfl (by assumption) ?_)
      | refine ek_seqN ?_ | refine ek_seqX ?_ | refine ek_seqR ?_ | refine ek_blkN ?_ | refine ek_blkR ?_ | refine ek_blkX ?_ | refine ek_blkY rfl ?_)
    exact rnd_out (by rfl) (by simp) (scmp2 (by rfl) (by rfl) (by exact ⟨rfl, rfl, rfl⟩) (by rfl) (by first | rfl | (simp; done) | (simp [ints, prs]; done)) (by rfl) (by first | rfl | (simp; done) | (simp [ints, prs]; done)))
theorem evix_endsix (fb : Nat) (bel : Nat → Nat → Bool) (hbel : ∀ r s : Nat, r < 65536 → s < 65536 → Ev cx fb [.int .i64 r, .int .i64 s] [] (.bool (bel r s)) []) (rs : List Nat) (hrn : rs.length ≤ 16) (hrl : ∀ j, j < rs.length → rs.getD j 0 < 65536) (l : List Nat) (hln : l.length ≤ 1048576) (hl : ∀ j, j < l.length → l.getD j 0 < 65536) : Ev cx 112 [.sl 0 0 l.length, .fn 110 [.ptr 1 0, .ptr 3 0]] [⟨ints l, 1, 0, some 0, false⟩, ⟨[.sl 2 0 rs.length], 1, 1, some 0, true⟩, ⟨ints rs, 1, 2, some 0, false⟩, ⟨[.fn fb []], 1, 3, some 0, true⟩] (.int .i64 (match firstF (fun i => !(fun j => (delQ rs bel) (l.getD j 0)) i) 0 (l.length) with | none => -1 | some x => ((x : Nat) : Int))) [⟨ints l, 1, 0, some 0, false⟩, ⟨[.sl 2 0 rs.length], 1, 1, some 0, true⟩, ⟨ints rs, 1, 2, some 0, false⟩, ⟨[.fn fb []], 1, 3, some 0, true⟩] := by
  cases hs : firstF (fun i => !(fun j => (delQ rs bel) (l.getD j 0)) i) 0 (l.length) with
  | none =>
    have lp := lpix_endsix fb bel hbel rs hrn hrl l hln hl _ (by rw [hs])
    refine has112.eev rfl rfl ?_
    unfold m112
    repeat' (first
      | refine sc_loop lp rfl rfl ⟨rfl, rfl, rfl⟩ rfl rfl rfl ?_
      | (refine g_op ?_; first
        | refine ep_mov rfl ?_
        | refine ep_lenS rfl ?_ | refine ep_lenN rfl ?_ | refine ep_lenE rfl ?_)
      | (refine g_ops ?_; first | refine eo_none ?_ | refine eo_nil ?_)
      | (refine g_code ?_; first | refine ec_seq ?_ | refine ec_region ?_ | refine ec_block ?_ | refine ec_ret ?_)
      | refine ek_seqN ?_ | refine ek_seqX ?_ | refine ek_seqR ?_ | refine ek_blkN ?_ | refine ek_blkR ?_ | refine ek_blkX ?_ | refine ek_blkY rfl ?_)
    refine sfin (.inr rfl) (by rfl) (by rfl) (by exact ⟨rfl, rfl, rfl⟩) (by rfl) (by rfl) (by rfl) (by first | rfl | (simp; done) | (simp [ints, prs]; done))
  | some x =>
    have lp := lpix_endsix fb bel hbel rs hrn hrl l hln hl _ (by rw [hs])
    refine has112.eev rfl rfl ?_
    unfold m112
    repeat' (first
      | refine sc_loop lp rfl rfl ⟨rfl, rfl, rfl⟩ rfl rfl rfl ?_
      | (refine g_op ?_; first
        | refine ep_mov rfl ?_
        | refine ep_lenS rfl ?_ | refine ep_lenN rfl ?_ | refine ep_lenE rfl ?_)
      | (refine g_ops ?_; first | refine eo_none ?_ | refine eo_nil ?_)
      | (refine g_code ?_; first | refine ec_seq ?_ | refine ec_region ?_ | refine ec_block ?_ | refine ec_ret ?_)
      | refine ek_seqN ?_ | refine ek_seqX ?_ | refine ek_seqR ?_ | refine ek_blkN ?_ | refine ek_blkR ?_ | refine ek_blkX ?_ | refine ek_blkY rfl ?_)
    refine sfin (.inr rfl) (by rfl) (by rfl) (by exact ⟨rfl, rfl, rfl⟩) (by rfl) (by rfl) (by rfl) (by first | rfl | (simp; done) | (simp [ints, prs]; done))
theorem evcf_endsix (fb : Nat) (bel : Nat → Nat → Bool) (hbel : ∀ r s : Nat, r < 65536 → s < 65536 → Ev cx fb [.int .i64 r, .int .i64 s] [] (.bool (bel r s)) []) (rs : List Nat) (hrn : rs.length ≤ 16) (hrl : ∀ j, j < rs.length → rs.getD j 0 < 65536) (l : List Nat) (hln : l.length ≤ 1048576) (hl : ∀ j, j < l.length → l.getD j 0 < 65536) : Ev cx 66 [.sl 0 0 l.length, .fn 110 [.ptr 1 0, .ptr 3 0]] [⟨ints l, 1, 0, some 0, false⟩, ⟨[.sl 2 0 rs.length], 1, 1, some 0, true⟩, ⟨ints rs, 1, 2, some 0, false⟩, ⟨[.fn fb []], 1, 3, some 0, true⟩] (.bool (!allF (fun i => !(fun j => (delQ rs bel) (l.getD j 0)) i) 0 (l.length))) [⟨ints l, 1, 0, some 0, false⟩, ⟨[.sl 2 0 rs.length], 1, 1, some 0, true⟩, ⟨ints rs, 1, 2, some 0, false⟩, ⟨[.fn fb []], 1, 3, some 0, true⟩] := by
  have e1 := evix_endsix fb bel hbel rs hrn hrl l hln hl
  cases hs : firstF (fun i => !(fun j => (delQ rs bel) (l.getD j 0)) i) 0 (l.length) with
  | none =>
    rw [hs] at e1
    refine has66.eev rfl rfl ?_
    unfold m66
    repeat' (first
      | (refine g_op ?_; first
        | refine ep_mov rfl ?_
        | refine ep_call0 rfl (by first | exact e1) rfl rfl ?_
        | refine sp_call rfl rfl rfl rfl (by first | exact e1) ⟨rfl, rfl, rfl, rfl⟩ rfl rfl rfl ?_
        | refine ep_bin rfl rfl (by first | exact b_add (by omega) (by omega) | exact b_sub (by omega) (by omega) | exact b_and (by omega) (by omega) | exact b_or (by omega) (by omega) | exact b_shr (by omega) | exact b_shl (by omega) (by omega) | exact b_lss | exact b_leq | exact b_gtr | exact b_geq | exact b_eql | exact b_neq) ?_)
      | (refine g_ops ?_; first | refine eo_none ?_ | refine eo_nil ?_)
      | (refine g_code ?_; first | refine ec_seq ?_ | refine ec_region ?_ | refine ec_ret ?_)
      | refine ek_seqN ?_ | refine ek_seqR ?_)
    refine sfin (.inr rfl) (by rfl) (by rfl) (by exact ⟨rfl, rfl, rfl⟩) (by rfl) (by rfl) (by rw [firstF_allT hs]; rfl) (by first | rfl | (simp; done) | (simp [ints, prs]; done))
  | some x =>
    rw [hs] at e1
    have hge : decide (((x : Nat) : Int) ≥ 0) = true := decide_eq_true (by omega)
    refine has66.eev rfl rfl ?_
    unfold m66
    repeat' (first
      | (refine g_op ?_; first
        | refine ep_mov rfl ?_
        | refine ep_call0 rfl (by first | exact e1) rfl rfl ?_
        | refine sp_call rfl rfl rfl rfl (by first | exact e1) ⟨rfl, rfl, rfl, rfl⟩ rfl rfl rfl ?_
        | refine ep_bin rfl rfl (by first | exact b_add (by omega) (by omega) | exact b_sub (by omega) (by omega) | exact b_and (by omega) (by omega) | exact b_or (by omega) (by omega) | exact b_shr (by omega) | exact b_shl (by omega) (by omega) | exact b_lss | exact b_leq | exact b_gtr | exact b_geq | exact b_eql | exact b_neq) ?_)
      | (refine g_ops ?_; first | refine eo_none ?_ | refine eo_nil ?_)
      | (refine g_code ?_; first | refine ec_seq ?_ | refine ec_region ?_ | refine ec_ret ?_)
      | refine ek_seqN ?_ | refine ek_seqR ?_)
    refine sfin (.inr rfl) (by rfl) (by rfl) (by exact ⟨rfl, rfl, rfl⟩) (by rfl) (by rfl) (by rw [firstF_allF hs]; first | rfl | exact congrArg V.bool hge) (by first | rfl | (simp; done) | (simp [ints, prs]; done))
theorem lpdf_ends (fb : Nat) (bel : Nat → Nat → Bool) (hbel : ∀ r s : Nat, r < 65536 → s < 65536 → Ev cx fb [.int .i64 r, .int .i64 s] [] (.bool (bel r s)) []) (rs : List Nat) (hrn : rs.length ≤ 16) (hrl : ∀ j, j < rs.length → rs.getD j 0 < 65536) (l : List Nat) (hln : l.length ≤ 1048576) (hl : ∀ j, j < l.length → l.getD j 0 < 65536) (i0 : Nat) (hi0 : i0 < l.length) :
    LpS cx 42 4 m108_0 [(0, .sl 0 0 l.length), (1, .fn 110 [.ptr 1 0, .ptr 3 0]), (5, .int .i64 ((kpt (delQ rs bel) l (i0 + 1 + (0))).length : Nat)), (6, .int .i64 (i0 + 1 + (0) : Nat))] [⟨ints (dls (delQ rs bel) l (i0 + 1 + (0))), 1, 0, some 0, false⟩, ⟨[.sl 2 0 rs.length], 1, 1, some 0, true⟩, ⟨ints rs, 1, 2, some 0, false⟩, ⟨[.fn fb []], 1, 3, some 0, true⟩] (⟨.exit 0, [(0, .sl 0 0 l.length), (5, .int .i64 ((kpt (delQ rs bel) l (i0 + 1 + (l.length - (i0 + 1)))).length : Nat))], [⟨ints (dls (delQ rs bel) l (i0 + 1 + (l.length - (i0 + 1)))), 1, 0, some 0, false⟩, ⟨[.sl 2 0 rs.length], 1, 1, some 0, true⟩, ⟨ints rs, 1, 2, some 0, false⟩, ⟨[.fn fb []], 1, 3, some 0, true⟩]⟩ : Out).x (⟨.exit 0, [(0, .sl 0 0 l.length), (5, .int .i64 ((kpt (delQ rs bel) l (i0 + 1 + (l.length - (i0 + 1)))).length : Nat))], [⟨ints (dls (delQ rs bel) l (i0 + 1 + (l.length - (i0 + 1)))), 1, 0, some 0, false⟩, ⟨[.sl 2 0 rs.length], 1, 1, some 0, true⟩, ⟨ints rs, 1, 2, some 0, false⟩, ⟨[.fn fb []], 1, 3, some 0, true⟩]⟩ : Out).e (⟨.exit 0, [(0, .sl 0 0 l.length), (5, .int .i64 ((kpt (delQ rs bel) l (i0 + 1 + (l.length - (i0 + 1)))).length : Nat))], [⟨ints (dls (delQ rs bel) l (i0 + 1 + (l.length - (i0 + 1)))), 1, 0, some 0, false⟩, ⟨[.sl 2 0 rs.length], 1, 1, some 0, true⟩, ⟨ints rs, 1, 2, some 0, false⟩, ⟨[.fn fb []], 1, 3, some 0, true⟩]⟩ : Out).h := by
  refine lp_st (l.length - (i0 + 1)) (fun _ => ()) (fun i _ => [(0, .sl 0 0 l.length), (1, .fn 110 [.ptr 1 0, .ptr 3 0]), (5, .int .i64 ((kpt (delQ rs bel) l (i0 + 1 + (i))).length : Nat)), (6, .int .i64 (i0 + 1 + (i) : Nat))]) (fun i _ => [⟨ints (dls (delQ rs bel) l (i0 + 1 + (i))), 1, 0, some 0, false⟩, ⟨[.sl 2 0 rs.length], 1, 1, some 0, true⟩, ⟨ints rs, 1, 2, some 0, false⟩, ⟨[.fn fb []], 1, 3, some 0, true⟩]) (fun _ => (⟨.exit 0, [(0, .sl 0 0 l.length), (5, .int .i64 ((kpt (delQ rs bel) l (i0 + 1 + (l.length - (i0 + 1)))).length : Nat))], [⟨ints (dls (delQ rs bel) l (i0 + 1 + (l.length - (i0 + 1)))), 1, 0, some 0, false⟩, ⟨[.sl 2 0 rs.length], 1, 1, some 0, true⟩, ⟨ints rs, 1, 2, some 0, false⟩, ⟨[.fn fb []], 1, 3, some 0, true⟩]⟩ : Out)) ?_ ?_ (l.length - (i0 + 1)) 0 (by omega)
  · intro i u_ hi hu_
    refine ⟨(), rfl, ?_⟩
    have hlt : decide ((i : Int) < (l.length - (i0 + 1) : Nat)) = true := decide_eq_true (by omega)
    have hlt2 : decide (((i0 + 1 + i : Nat) : Int) < (l.length : Nat)) = true := decide_eq_true (by omega)
    have hj : i0 + 1 + i < l.length := by omega
    have hadd : binV .add (.int .i64 (i0 + 1 + i : Nat)) (.int .i64 1) = some (.int .i64 (i0 + 1 + (i + 1) : Nat)) := b_addN (b := 1) (by omega)
    have hk := kpt_len (delQ rs bel) l (i0 + 1 + i)
    have hg := dls_get (q := (delQ rs bel)) hj
    have hdl := dls_len (q := (delQ rs bel)) (l := l) (j := i0 + 1 + i) (by omega)
    have e1 := ev110 fb bel hbel rs hrn hrl (l.getD (i0 + 1 + i) 0) (hl _ hj)
    cases hq : (delQ rs bel) (l.getD (i0 + 1 + i) 0)
    · rw [hq] at e1
      have hset := dls_set hj hq
      have hkt := kpt_t hj hq
      have hk1 : binV .add (.int .i64 ((kpt (delQ rs bel) l (i0 + 1 + i)).length : Nat)) (.int .i64 1) = some (.int .i64 ((kpt (delQ rs bel) l (i0 + 1 + (i + 1))).length : Nat)) := by
        rw [show (kpt (delQ rs bel) l (i0 + 1 + (i + 1))).length = (kpt (delQ rs bel) l (i0 + 1 + i)).length + 1 by rw [show i0 + 1 + (i + 1) = i0 + 1 + i + 1 from rfl, hkt]; simp]
        exact b_addN (b := 1) (by omega)
      unfold m108_0
      repeat' (first
        | refine ep_loadS rfl rfl rfl hg ?_
        | refine sp_storeS rfl rfl rfl rfl rfl rfl rfl (Nat.zero_le _) (by rw [ints_len, hdl]; omega) hset rfl ?_
        | (refine g_op ?_; first
          | refine ep_mov rfl ?_ | refine ep_load1 rfl rfl rfl rfl ?_
          | refine sp_callv rfl rfl rfl rfl rfl rfl (by first | exact e1) ⟨rfl, rfl, rfl, rfl⟩ rfl rfl rfl ?_
          | refine sp_callb rfl rfl rfl rfl rfl rfl (by first | exact e1) ⟨rfl, rfl, rfl, rfl⟩ rfl rfl rfl ?_
          | refine ep_bin rfl rfl (by first | exact hk1 | exact hadd | exact b_add (by omega) (by omega) | exact b_sub (by omega) (by omega) | exact b_and (by omega) (by omega) | exact b_or (by omega) (by omega) | exact b_shr (by omega) | exact b_shl (by omega) (by omega) | exact b_lss | exact b_leq | exact b_gtr | exact b_geq | exact b_eql | exact b_neq) ?_
          | refine sp_store rfl rfl rfl rfl rfl rfl rfl rfl rfl rfl ?_ | refine ep_not rfl ?_ | refine ep_lenS rfl ?_ | refine ep_lenN rfl ?_ | refine ep_lenE rfl ?_ | refine sp_idx rfl rfl rfl (by omega) rfl ?_
          | refine ep_loadS rfl rfl rfl (by first | exact ints_get (by omega) | exact zints_get (by omega) | exact fget (by omega) | assumption) ?_)
        | (refine g_ops ?_; first | refine eo_none ?_ | refine eo_nil ?_)
        | (refine g_code ?_; first | refine ec_seq ?_ | refine ec_region ?_ | refine ec_block ?_ | refine ec_skip ?_ | refine ec_exit ?_ | refine ec_condT rfl ?_ | refine ec_condF rfl ?_ | refine ec_condTH rfl (by assumption) ?_ | refine ec_condFH rfl (by assumption) ?_)
        | refine ek_seqN ?_ | refine ek_seqX ?_ | refine ek_blkN ?_ | refine ek_blkR ?_ | refine ek_blkX ?_ | refine ek_blkY rfl ?_)
      exact rnd_on (by rfl) (scmp2 (by rfl) (by rfl) (by exact ⟨rfl, rfl, rfl⟩) (by rfl) (by first | rfl | (simp; done) | (simp [ints, prs]; done)) (by rfl) (by first | rfl | (simp; done) | (simp [ints, prs]; done)))
    rw [hq] at e1
    rw [show i0 + 1 + (i + 1) = i0 + 1 + i + 1 from rfl, kpt_f hj hq, dls_f hj hq] at *
    unfold m108_0
    repeat' (first
      | refine ep_loadS rfl rfl rfl hg ?_
      | (refine g_op ?_; first
        | refine ep_mov rfl ?_ | refine ep_load1 rfl rfl rfl rfl ?_
        | refine sp_callv rfl rfl rfl rfl rfl rfl (by first | exact e1) ⟨rfl, rfl, rfl, rfl⟩ rfl rfl rfl ?_
        | refine sp_callb rfl rfl rfl rfl rfl rfl (by first | exact e1) ⟨rfl, rfl, rfl, rfl⟩ rfl rfl rfl ?_
        | refine ep_bin rfl rfl (by first | exact hadd | exact b_add (by omega) (by omega) | exact b_sub (by omega) (by omega) | exact b_and (by omega) (by omega) | exact b_or (by omega) (by omega) | exact b_shr (by omega) | exact b_shl (by omega) (by omega) | exact b_lss | exact b_leq | exact b_gtr | exact b_geq | exact b_eql | exact b_neq) ?_
        | refine sp_store rfl rfl rfl rfl rfl rfl rfl rfl rfl rfl ?_ | refine ep_not rfl ?_ | refine ep_lenS rfl ?_ | refine ep_lenN rfl ?_ | refine ep_lenE rfl ?_ | refine sp_idx rfl rfl rfl (by omega) rfl ?_
        | refine ep_loadS rfl rfl rfl (by first | exact ints_get (by omega) | exact zints_get (by omega) | exact fget (by omega) | assumption) ?_)
      | (refine g_ops ?_; first | refine eo_none ?_ | refine eo_nil ?_)
      | (refine g_code ?_; first | refine ec_seq ?_ | refine ec_region ?_ | refine ec_block ?_ | refine ec_skip ?_ | refine ec_exit ?_ | refine ec_condT rfl ?_ | refine ec_condF rfl ?_ | refine ec_condTH rfl (by assumption) ?_ | refine ec_condFH rfl (by assumption) ?_)
      | refine ek_seqN ?_ | refine ek_seqX ?_ | refine ek_blkN ?_ | refine ek_blkR ?_ | refine ek_blkX ?_ | refine ek_blkY rfl ?_)
    exact rnd_on (by rfl) (scmp2 (by rfl) (by rfl) (by exact ⟨rfl, rfl, rfl⟩) (by rfl) (by first | rfl | (simp; done) | (simp [ints, prs]; done)) (by rfl) (by first | rfl | (simp; done) | (simp [ints, prs]; done)))
  · intro u_ hu_
    have hlt : decide (((l.length - (i0 + 1) : Nat) : Int) < (l.length - (i0 + 1) : Nat)) = false := decide_eq_false (by omega)
    have hlt2 : decide (((i0 + 1 + (l.length - (i0 + 1)) : Nat) : Int) < (l.length : Nat)) = false := decide_eq_false (by omega)
    unfold m108_0
    repeat' (first
      | (refine g_op ?_; first
        | refine ep_mov rfl ?_ | refine ep_load1 rfl rfl rfl rfl ?_
        | refine ep_bin rfl rfl (by first | exact b_add (by omega) (by omega) | exact b_sub (by omega) (by omega) | exact b_and (by omega) (by omega) | exact b_or (by omega) (by omega) | exact b_shr (by omega) | exact b_shl (by omega) (by omega) | exact b_lss | exact b_leq | exact b_gtr | exact b_geq | exact b_eql | exact b_neq) ?_
        | refine sp_store rfl rfl rfl rfl rfl rfl rfl rfl rfl rfl ?_ | refine ep_not rfl ?_ | refine ep_lenS rfl ?_ | refine ep_lenN rfl ?_ | refine ep_lenE rfl ?_ | refine sp_idx rfl rfl rfl (by omega) rfl ?_
        | refine ep_loadS rfl rfl rfl (by first | exact ints_get (by omega) | exact zints_get (by omega) | exact fget (by omega) | assumption) ?_)
      | (refine g_ops ?_; first | refine eo_none ?_ | refine eo_nil ?_)
      | (refine g_code ?_; first | refine ec_seq ?_ | refine ec_region ?_ | refine ec_block ?_ | refine ec_skip ?_ | refine ec_exit ?_ | refine ec_condT rfl ?_ | refine ec_condF rfl ?_ | refine ec_condTH rfl (by assumption) ?_ | refine ec_condFH rfl (by assumption) ?_)
      | refine ek_seqN ?_ | refine ek_seqX ?_ | refine ek_blkN ?_ | refine ek_blkR ?_ | refine ek_blkX ?_ | refine ek_blkY rfl ?_)
    exact rnd_out (by rfl) (by simp) (scmp2 (by rfl) (by rfl) (by exact ⟨rfl, rfl, rfl⟩) (by rfl) (by first | rfl | (simp; done) | (simp [ints, prs]; done)) (by rfl) (by first | rfl | (simp; done) | (simp [ints, prs]; done)))

theorem firstF_spec {p : Nat → Bool} : ∀ {j i : Nat}, (∀ x, firstF p i j = some x → i ≤ x ∧ x < i + j ∧ p x = false ∧ ∀ y, i ≤ y → y < x → p y = true) ∧ (firstF p i j = none → ∀ y, i ≤ y → y < i + j → p y = true)
  | 0, i => ⟨fun x h => by simp [firstF] at h, fun _ y h1 h2 => by omega⟩
  | j + 1, i => by
    obtain ⟨ih1, ih2⟩ := firstF_spec (p := p) (j := j) (i := i + 1)
    rw [firstF]
    by_cases e : p i = true
    · rw [if_pos e]
      refine ⟨fun x h => ?_, fun h y h1 h2 => ?_⟩
      · obtain ⟨a, b, c, d⟩ := ih1 x h
        refine ⟨by omega, by omega, c, fun y h1 h2 => ?_⟩
        by_cases g : y = i
        · rw [g]; exact e
        · exact d y (by omega) h2
      · by_cases g : y = i
        · rw [g]; exact e
        · exact ih2 h y (by omega) (by omega)
    · rw [if_neg e]
      refine ⟨fun x h => ?_, fun h => by simp at h⟩
      obtain rfl := Option.some.inj h
      exact ⟨Nat.le_refl _, by omega, by simpa using e, fun y h1 h2 => by omega⟩
theorem kpt_pre {q : Nat → Bool} {l : List Nat} : ∀ {m : Nat}, m ≤ l.length → (∀ j, j < m → q (l.getD j 0) = false) → kpt q l m = l.take m
  | 0, _, _ => by simp [kpt]
  | m + 1, h, hq => by
    rw [kpt_t (by omega) (hq m (by omega)), kpt_pre (by omega) fun j hj => hq j (by omega), List.take_add_one, List.getElem?_eq_getElem (by omega), List.getD_eq_getElem?_getD, List.getElem?_eq_getElem (by omega)]
    rfl
-- (impl.Func).ends
def m64_0 : MC := (.seq (.region [⟨(.bin .lss (.t 11) (.t 10)), (some 12), none⟩] false) (.seq (.cond (.t 12) .skip (.exit 0)) (.seq (.block 1 (.seq (.region [⟨(.mov (.t 11)), (some 13), none⟩, ⟨(.mov (.t 13)), (some 8), none⟩] false) (.seq (.region [⟨(.mov (.t 1)), (some 14), none⟩, ⟨(.mov (.t 8)), (some 15), none⟩, ⟨(.callv (.t 14) [(.t 15)]), (some 16), none⟩] false) (.cond (.t 16) (.region [⟨(.load none (.t 7)), (some 17), none⟩, ⟨(.mov (.t 8)), (some 18), none⟩, ⟨(.bslice 1 [(.int .i64 0)] 1 [(0, (1, (.t 18)))]), (some 19), none⟩, ⟨(.append 1 8 (.t 17) (.t 19)), (some 20), none⟩, ⟨(.store 1 (.t 7) (.t 20)), none, none⟩] false) .skip)))) (.region [⟨(.bin .add (.t 11) (.k (.int .i64 1))), (some 21), none⟩, ⟨(.mov (.t 21)), (some 11), none⟩] false))))
def m64 : MC := (.seq (.region [⟨(.box (.t 0)), (some 3), none⟩, ⟨(.box (.t 2)), (some 5), none⟩, ⟨(.mov (.k .nils)), (some 6), none⟩] false) (.seq (.region [⟨(.alloc [.nils]), (some 7), none⟩] false) (.seq (.seq (.region [⟨(.load (some 2) (.t 3)), (some 9), none⟩, ⟨(.call 106 [(.t 9)]), (some 10), none⟩, ⟨(.mov (.k (.int .i64 0))), (some 11), none⟩] false) (.block 0 (.loop m64_0))) (.seq (.region [⟨(.load none (.t 7)), (some 22), none⟩, ⟨(.call 109 [(.t 22)]), (some 23), none⟩, ⟨(.mkfn 110 [(.t 7), (.t 5)]), (some 24), none⟩, ⟨(.call 108 [(.t 23), (.t 24)]), (some 25), none⟩, ⟨(.mov (.t 25)), (some 6), none⟩] false) .ret))))
theorem has64 : Has cx 64 26 m64 [(.tmp 6)] :=
  ⟨⟨Try.f64, Try.f64.body.getD .skip, by kernel_rfl, by kernel_rfl, by kernel_rfl, by kernel_rfl, by kernel_rfl, by kernel_rfl⟩⟩
theorem evdf_ends (fb : Nat) (bel : Nat → Nat → Bool) (hbel : ∀ r s : Nat, r < 65536 → s < 65536 → Ev cx fb [.int .i64 r, .int .i64 s] [] (.bool (bel r s)) []) (rs : List Nat) (hrn : rs.length ≤ 16) (hrl : ∀ j, j < rs.length → rs.getD j 0 < 65536) (l : List Nat) (hln : l.length ≤ 1048576) (hl : ∀ j, j < l.length → l.getD j 0 < 65536) : Ev cx 108 [.sl 0 0 l.length, (.fn 110 [.ptr 1 0, .ptr 3 0])] [⟨ints l, 1, 0, some 0, false⟩, ⟨[.sl 2 0 rs.length], 1, 1, some 0, true⟩, ⟨ints rs, 1, 2, some 0, false⟩, ⟨[.fn fb []], 1, 3, some 0, true⟩] (.sl 0 0 (kpt (delQ rs bel) l l.length).length) [⟨ints (kpt (delQ rs bel) l l.length ++ List.replicate (l.length - (kpt (delQ rs bel) l l.length).length) 0), 1, 0, some 0, false⟩, ⟨[.sl 2 0 rs.length], 1, 1, some 0, true⟩, ⟨ints rs, 1, 2, some 0, false⟩, ⟨[.fn fb []], 1, 3, some 0, true⟩] := by
  have e1 := evix_endsix fb bel hbel rs hrn hrl l hln hl
  obtain ⟨f1, f2⟩ := firstF_spec (p := fun i => !(fun j => (delQ rs bel) (l.getD j 0)) i) (j := l.length) (i := 0)
  cases hs : firstF (fun i => !(fun j => (delQ rs bel) (l.getD j 0)) i) 0 l.length with
  | none =>
    rw [hs] at e1
    have hk := kpt_pre (q := (delQ rs bel)) (l := l) (Nat.le_refl _) (fun j hj => by have := f2 hs j (Nat.zero_le _) (by omega); simpa using this)
    rw [List.take_length] at hk
    rw [hk, Nat.sub_self, List.replicate_zero, List.append_nil]
    refine has108.eev rfl rfl ?_
    unfold m108
    repeat' (first
      | (refine g_op ?_; first
        | refine ep_mov rfl ?_
        | refine ep_call0 rfl (by first | exact e1) rfl rfl ?_
        | refine sp_call rfl rfl rfl rfl (by first | exact e1) ⟨rfl, rfl, rfl, rfl⟩ rfl rfl rfl ?_
        | refine ep_bin rfl rfl (by first | exact b_add (by omega) (by omega) | exact b_sub (by omega) (by omega) | exact b_and (by omega) (by omega) | exact b_or (by omega) (by omega) | exact b_shr (by omega) | exact b_shl (by omega) (by omega) | exact b_lss | exact b_leq | exact b_gtr | exact b_geq | exact b_eql | exact b_neq) ?_)
      | (refine g_ops ?_; first | refine eo_none ?_ | refine eo_nil ?_)
      | (refine g_code ?_; first | refine ec_seq ?_ | refine ec_region ?_ | refine ec_block ?_ | refine ec_skip ?_ | refine ec_ret ?_ | refine ec_condT rfl ?_ | refine ec_condF rfl ?_ | refine ec_condTH rfl (by assumption) ?_ | refine ec_condFH rfl (by assumption) ?_)
      | refine ek_seqN ?_ | refine ek_seqX ?_ | refine ek_seqR ?_ | refine ek_blkN ?_ | refine ek_blkR ?_ | refine ek_blkX ?_ | refine ek_blkY rfl ?_)
    refine sfin (.inr rfl) (by rfl) (by rfl) (by exact ⟨rfl, rfl, rfl⟩) (by rfl) (by rfl) (by rfl) (by first | rfl | (simp; done) | (simp [ints, prs]; done))
  | some i0 =>
    rw [hs] at e1
    obtain ⟨a1, a2, a3, a4⟩ := f1 i0 hs
    have hi0 : i0 < l.length := by omega
    have hq0 : (delQ rs bel) (l.getD i0 0) = true := by simpa using a3
    have hpre := kpt_pre (q := (delQ rs bel)) (l := l) (m := i0) (by omega) (fun j hj => by have := a4 j (Nat.zero_le _) hj; simpa using this)
    have hk1 : kpt (delQ rs bel) l (i0 + 1) = l.take i0 := by rw [kpt_f hi0 hq0, hpre]
    have hl1 : (l.take i0).length = i0 := by rw [List.length_take]; omega
    have hd1 : dls (delQ rs bel) l (i0 + 1) = l := by unfold dls; rw [hk1, hl1, List.take_append_drop]
    have lp := lpdf_ends fb bel hbel rs hrn hrl l hln hl i0 hi0
    rw [show i0 + 1 + 0 = i0 + 1 from rfl, hd1, hk1, hl1, show i0 + 1 + (l.length - (i0 + 1)) = l.length by omega] at lp
    have hm1 : (((i0 : Nat) : Int) == -1) = false := by simp only [beq_eq_false_iff_ne, ne_eq]; omega
    have hadd : binV .add (.int .i64 (i0 : Nat)) (.int .i64 1) = some (.int .i64 (i0 + 1 : Nat)) := b_addN (b := 1) (by omega)
    have hkl := kpt_len (delQ rs bel) l l.length
    have hcl := dls_clear (q := (delQ rs bel)) (l := l) (j := l.length) rfl
    have hdl := dls_len (q := (delQ rs bel)) (l := l) (j := l.length) (Nat.le_refl _)
    generalize kpt (delQ rs bel) l l.length = K at *
    refine has108.eev rfl rfl ?_
    unfold m108
    repeat' (first
      | refine sc_loop lp rfl rfl ⟨rfl, rfl, rfl⟩ rfl rfl rfl ?_
      | refine ep_slice (p := (K.length : Nat)) (q := (l.length : Nat)) (o' := 0 + K.length * 1) (n' := l.length - K.length) rfl rfl rfl (.inr ⟨_, rfl⟩) (.inl ⟨rfl, rfl⟩) ⟨by omega, by omega, by omega, rfl, by omega⟩ rfl rfl ?_
      | refine sp_clear rfl rfl (Nat.zero_le _) (by rw [ints_len, hdl]; omega) hcl rfl ?_
      | refine ep_slice (p := 0) (q := (K.length : Nat)) (o' := 0) (n' := K.length) rfl rfl rfl (.inl ⟨rfl, rfl⟩) (.inr ⟨_, rfl⟩) ⟨by omega, by omega, by omega, rfl, by omega⟩ rfl rfl ?_
      | (refine g_op ?_; first
        | refine ep_mov rfl ?_
        | refine ep_call0 rfl (by first | exact e1) rfl rfl ?_
        | refine sp_call rfl rfl rfl rfl (by first | exact e1) ⟨rfl, rfl, rfl, rfl⟩ rfl rfl rfl ?_
        | refine ep_bin rfl rfl (by first | exact hadd | exact b_add (by omega) (by omega) | exact b_sub (by omega) (by omega) | exact b_and (by omega) (by omega) | exact b_or (by omega) (by omega) | exact b_shr (by omega) | exact b_shl (by omega) (by omega) | exact b_lss | exact b_leq | exact b_gtr | exact b_geq | exact b_eql | exact b_neq) ?_)
      | (refine g_ops ?_; first | refine eo_none ?_ | refine eo_nil ?_)
      | (refine g_code ?_; first | refine ec_seq ?_ | refine ec_region ?_ | refine ec_block ?_ | refine ec_skip ?_ | refine ec_ret ?_ | refine ec_condT rfl ?_ | refine ec_condF rfl ?_ | refine ec_condTH rfl (by assumption) ?_ | refine ec_condFH rfl (by assumption) ?_)
      | refine ek_seqN ?_ | refine ek_seqX ?_ | refine ek_seqR ?_ | refine ek_blkN ?_ | refine ek_blkR ?_ | refine ek_blkX ?_ | refine ek_blkY rfl ?_)
    refine sfin (.inr rfl) (by rfl) (by rfl) (by exact ⟨rfl, rfl, rfl⟩) (by rfl) (by rfl) (by rfl) (by first | rfl | (simp; done) | (simp [ints, prs]; done))
theorem lp64_0 (fb fp n b : Nat) (pkp : Nat → Bool) (hn : n ≤ 4) (hpk : ∀ r : Nat, r < 16 → Ev cx fp [.int .i64 r, .ptr 0 0] [⟨[.int .i64 n, .int .i64 b], 1, 0, some 0, true⟩] (.bool (pkp r)) [⟨[.int .i64 n, .int .i64 b], 1, 0, some 0, true⟩]) (o : Out) (ho : (match selm (pkp) (idn) (R2 n) with | [] => (⟨.exit 0, [(5, .ptr 1 0), (7, .ptr 2 0)], [⟨[.int .i64 n, .int .i64 b], 1, 0, some 0, true⟩, ⟨[.fn fb []], 1, 1, some 0, true⟩, ⟨[.nils], 1, 2, some 0, true⟩]⟩ : Out) | x :: xs => ⟨.exit 0, [(5, .ptr 1 0), (7, .ptr 2 0)], [⟨[.int .i64 n, .int .i64 b], 1, 0, some 0, true⟩, ⟨[.fn fb []], 1, 1, some 0, true⟩, ⟨[.sl 3 0 (x :: xs).length], 1, 2, some 0, true⟩, ⟨ints (x :: xs), 1, 3, some 0, false⟩]⟩) = o) :
    LpS cx 26 1 m64_0 [(1, .fn fp [.ptr 0 0]), (5, .ptr 1 0), (7, .ptr 2 0), (10, .int .i64 (R2 n : Nat)), (11, .int .i64 (0 : Nat))] [⟨[.int .i64 n, .int .i64 b], 1, 0, some 0, true⟩, ⟨[.fn fb []], 1, 1, some 0, true⟩, ⟨[.nils], 1, 2, some 0, true⟩] o.x o.e o.h := by
  obtain ⟨h1, h2, h3, h4⟩ := shN hn
  subst ho
  refine lp_st (R2 n) (selm (pkp) (idn)) (fun i s => match s with | [] => [(1, .fn fp [.ptr 0 0]), (5, .ptr 1 0), (7, .ptr 2 0), (10, .int .i64 (R2 n : Nat)), (11, .int .i64 (i : Nat))] | x :: xs => [(1, .fn fp [.ptr 0 0]), (5, .ptr 1 0), (7, .ptr 2 0), (10, .int .i64 (R2 n : Nat)), (11, .int .i64 (i : Nat))]) (fun i s => match s with | [] => [⟨[.int .i64 n, .int .i64 b], 1, 0, some 0, true⟩, ⟨[.fn fb []], 1, 1, some 0, true⟩, ⟨[.nils], 1, 2, some 0, true⟩] | x :: xs => [⟨[.int .i64 n, .int .i64 b], 1, 0, some 0, true⟩, ⟨[.fn fb []], 1, 1, some 0, true⟩, ⟨[.sl 3 0 (x :: xs).length], 1, 2, some 0, true⟩, ⟨ints (x :: xs), 1, 3, some 0, false⟩]) (fun s => match s with | [] => ⟨.exit 0, [(5, .ptr 1 0), (7, .ptr 2 0)], [⟨[.int .i64 n, .int .i64 b], 1, 0, some 0, true⟩, ⟨[.fn fb []], 1, 1, some 0, true⟩, ⟨[.nils], 1, 2, some 0, true⟩]⟩ | x :: xs => ⟨.exit 0, [(5, .ptr 1 0), (7, .ptr 2 0)], [⟨[.int .i64 n, .int .i64 b], 1, 0, some 0, true⟩, ⟨[.fn fb []], 1, 1, some 0, true⟩, ⟨[.sl 3 0 (x :: xs).length], 1, 2, some 0, true⟩, ⟨ints (x :: xs), 1, 3, some 0, false⟩]⟩) ?_ ?_ (R2 n) 0 (by omega)
  · intro i s hi hs
    have hlt : decide ((i : Int) < (R2 n : Nat)) = true := decide_eq_true (by omega)
    have hle : decide ((i : Int) ≤ (R2 n : Nat) - 1) = true := decide_eq_true (by omega)
    have hlen : s.length ≤ 16 := by have := selm_len (pkp) (idn) i; rw [hs] at this; omega
    have e1 := hpk i (by omega)
    cases hp : (pkp) i with
    | true =>
      have hp' : ((pkp) i) = true := hp
      rw [hp'] at e1
      cases s with
      | nil =>
        refine ⟨[(idn) i], by rw [selm_t (p := pkp) hp, hs]; try rfl, ?_⟩
        unfold m64_0
        repeat' (first
          | (refine g_op ?_; first
            | refine ep_mov rfl ?_ | refine ep_load1 rfl rfl rfl rfl ?_
            | refine sp_callv rfl rfl rfl rfl rfl rfl (by first | exact e1) ⟨rfl, rfl, rfl, rfl⟩ rfl rfl rfl ?_
            | refine sp_callb rfl rfl rfl rfl rfl rfl (by first | exact e1) ⟨rfl, rfl, rfl, rfl⟩ rfl rfl rfl ?_
            | refine ep_bin rfl rfl (by first | exact b_add (by omega) (by omega) | exact b_sub (by omega) (by omega) | exact b_and (by omega) (by omega) | exact b_or (by omega) (by omega) | exact b_shr (by omega) | exact b_shl (by omega) (by omega) | exact b_lss | exact b_leq | exact b_gtr | exact b_geq | exact b_eql | exact b_neq) ?_
            | refine sp_store rfl rfl rfl rfl rfl rfl rfl rfl rfl rfl ?_ | refine sp_bslice rfl rfl rfl rfl rfl ?_ | refine sp_push0 rfl (by first | exact .inl rfl | exact .inr rfl) rfl rfl rfl rfl rfl (by decide) rfl rfl rfl ?_
            | refine sp_push rfl rfl rfl rfl rfl rfl rfl (by first | exact ints_len _ | exact prs_len _ _ | exact zints_len _) (by omega) (Nat.zero_le _) rfl rfl rfl rfl rfl ?_)
          | (refine g_ops ?_; first | refine eo_none ?_ | refine eo_nil ?_)
          | (refine g_code ?_; first | refine ec_seq ?_ | refine ec_region ?_ | refine ec_block ?_ | refine ec_skip ?_ | refine ec_exit ?_ | refine ec_condT rfl ?_ | refine ec_condF rfl ?_ | refine ec_condTH rfl (by assumption) ?_ | refine ec_condFH rfl (by assumption) ?_)
          | refine ek_seqN ?_ | refine ek_seqX ?_ | refine ek_blkN ?_ | refine ek_blkR ?_ | refine ek_blkX ?_ | refine ek_blkY rfl ?_)
        exact rnd_on (by rfl) (scmp2 (by rfl) (by rfl) (by exact ⟨rfl, rfl, rfl⟩) (by rfl) (by first | rfl | (simp; done) | (simp [ints, prs]; done)) (by rfl) (by first | rfl | (simp; done) | (simp [ints, prs]; done)))
      | cons x xs =>
        refine ⟨(x :: xs) ++ [(idn) i], by rw [selm_t (p := pkp) hp, hs]; try rfl, ?_⟩
        unfold m64_0
        repeat' (first
          | (refine g_op ?_; first
            | refine ep_mov rfl ?_ | refine ep_load1 rfl rfl rfl rfl ?_
            | refine sp_callv rfl rfl rfl rfl rfl rfl (by first | exact e1) ⟨rfl, rfl, rfl, rfl⟩ rfl rfl rfl ?_
            | refine sp_callb rfl rfl rfl rfl rfl rfl (by first | exact e1) ⟨rfl, rfl, rfl, rfl⟩ rfl rfl rfl ?_
            | refine ep_bin rfl rfl (by first | exact b_add (by omega) (by omega) | exact b_sub (by omega) (by omega) | exact b_and (by omega) (by omega) | exact b_or (by omega) (by omega) | exact b_shr (by omega) | exact b_shl (by omega) (by omega) | exact b_lss | exact b_leq | exact b_gtr | exact b_geq | exact b_eql | exact b_neq) ?_
            | refine sp_store rfl rfl rfl rfl rfl rfl rfl rfl rfl rfl ?_ | refine sp_bslice rfl rfl rfl rfl rfl ?_ | refine sp_push0 rfl (by first | exact .inl rfl | exact .inr rfl) rfl rfl rfl rfl rfl (by decide) rfl rfl rfl ?_
            | refine sp_push rfl rfl rfl rfl rfl rfl rfl (by first | exact ints_len _ | exact prs_len _ _ | exact zints_len _) (by omega) (Nat.zero_le _) rfl rfl rfl rfl rfl ?_)
          | (refine g_ops ?_; first | refine eo_none ?_ | refine eo_nil ?_)
          | (refine g_code ?_; first | refine ec_seq ?_ | refine ec_region ?_ | refine ec_block ?_ | refine ec_skip ?_ | refine ec_exit ?_ | refine ec_condT rfl ?_ | refine ec_condF rfl ?_ | refine ec_condTH rfl (by assumption) ?_ | refine ec_condFH rfl (by assumption) ?_)
          | refine ek_seqN ?_ | refine ek_seqX ?_ | refine ek_blkN ?_ | refine ek_blkR ?_ | refine ek_blkX ?_ | refine ek_blkY rfl ?_)
        exact rnd_on (by rfl) (scmp2 (by rfl) (by rfl) (by exact ⟨rfl, rfl, rfl⟩) (by rfl) (by first | rfl | (simp; done) | (simp [ints, prs]; done)) (by rfl) (by first | rfl | (simp; done) | (simp [ints, prs]; done)))
    | false =>
      have hp' : ((pkp) i) = false := hp
      rw [hp'] at e1
      cases s with
      | nil =>
        refine ⟨[], by rw [selm_f (p := pkp) hp, hs]; try rfl, ?_⟩
        unfold m64_0
        repeat' (first
          | (refine g_op ?_; first
            | refine ep_mov rfl ?_ | refine ep_load1 rfl rfl rfl rfl ?_
            | refine sp_callv rfl rfl rfl rfl rfl rfl (by first | exact e1) ⟨rfl, rfl, rfl, rfl⟩ rfl rfl rfl ?_
            | refine sp_callb rfl rfl rfl rfl rfl rfl (by first | exact e1) ⟨rfl, rfl, rfl, rfl⟩ rfl rfl rfl ?_
            | refine ep_bin rfl rfl (by first | exact b_add (by omega) (by omega) | exact b_sub (by omega) (by omega) | exact b_and (by omega) (by omega) | exact b_or (by omega) (by omega) | exact b_shr (by omega) | exact b_shl (by omega) (by omega) | exact b_lss | exact b_leq | exact b_gtr | exact b_geq | exact b_eql | exact b_neq) ?_
            | refine sp_store rfl rfl rfl rfl rfl rfl rfl rfl rfl rfl ?_ | refine sp_bslice rfl rfl rfl rfl rfl ?_ | refine sp_push0 rfl (by first | exact .inl rfl | exact .inr rfl) rfl rfl rfl rfl rfl (by decide) rfl rfl rfl ?_
            | refine sp_push rfl rfl rfl rfl rfl rfl rfl (by first | exact ints_len _ | exact prs_len _ _ | exact zints_len _) (by omega) (Nat.zero_le _) rfl rfl rfl rfl rfl ?_)
          | (refine g_ops ?_; first | refine eo_none ?_ | refine eo_nil ?_)
          | (refine g_code ?_; first | refine ec_seq ?_ | refine ec_region ?_ | refine ec_block ?_ | refine ec_skip ?_ | refine ec_exit ?_ | refine ec_condT rfl ?_ | refine ec_condF rfl ?_ | refine ec_condTH rfl (by assumption) ?_ | refine ec_condFH rfl (by assumption) ?_)
          | refine ek_seqN ?_ | refine ek_seqX ?_ | refine ek_blkN ?_ | refine ek_blkR ?_ | refine ek_blkX ?_ | refine ek_blkY rfl ?_)
        exact rnd_on (by rfl) (scmp2 (by rfl) (by rfl) (by exact ⟨rfl, rfl, rfl⟩) (by rfl) (by first | rfl | (simp; done) | (simp [ints, prs]; done)) (by rfl) (by first | rfl | (simp; done) | (simp [ints, prs]; done)))
      | cons x xs =>
        refine ⟨x :: xs, by rw [selm_f (p := pkp) hp, hs]; try rfl, ?_⟩
        unfold m64_0
        repeat' (first
          | (refine g_op ?_; first
            | refine ep_mov rfl ?_ | refine ep_load1 rfl rfl rfl rfl ?_
            | refine sp_callv rfl rfl rfl rfl rfl rfl (by first | exact e1) ⟨rfl, rfl, rfl, rfl⟩ rfl rfl rfl ?_
            | refine sp_callb rfl rfl rfl rfl rfl rfl (by first | exact e1) ⟨rfl, rfl, rfl, rfl⟩ rfl rfl rfl ?_
            | refine ep_bin rfl rfl (by first | exact b_add (by omega) (by omega) | exact b_sub (by omega) (by omega) | exact b_and (by omega) (by omega) | exact b_or (by omega) (by omega) | exact b_shr (by omega) | exact b_shl (by omega) (by omega) | exact b_lss | exact b_leq | exact b_gtr | exact b_geq | exact b_eql | exact b_neq) ?_
            | refine sp_store rfl rfl rfl rfl rfl rfl rfl rfl rfl rfl ?_ | refine sp_bslice rfl rfl rfl rfl rfl ?_ | refine sp_push0 rfl (by first | exact .inl rfl | exact .inr rfl) rfl rfl rfl rfl rfl (by decide) rfl rfl rfl ?_
            | refine sp_push rfl rfl rfl rfl rfl rfl rfl (by first | exact ints_len _ | exact prs_len _ _ | exact zints_len _) (by omega) (Nat.zero_le _) rfl rfl rfl rfl rfl ?_)
          | (refine g_ops ?_; first | refine eo_none ?_ | refine eo_nil ?_)
          | (refine g_code ?_; first | refine ec_seq ?_ | refine ec_region ?_ | refine ec_block ?_ | refine ec_skip ?_ | refine ec_exit ?_ | refine ec_condT rfl ?_ | refine ec_condF rfl ?_ | refine ec_condTH rfl (by assumption) ?_ | refine ec_condFH rfl (by assumption) ?_)
          | refine ek_seqN ?_ | refine ek_seqX ?_ | refine ek_blkN ?_ | refine ek_blkR ?_ | refine ek_blkX ?_ | refine ek_blkY rfl ?_)
        exact rnd_on (by rfl) (scmp2 (by rfl) (by rfl) (by exact ⟨rfl, rfl, rfl⟩) (by rfl) (by first | rfl | (simp; done) | (simp [ints, prs]; done)) (by rfl) (by first | rfl | (simp; done) | (simp [ints, prs]; done)))
  · intro s hs
    have hlt : decide (((R2 n : Nat) : Int) < (R2 n : Nat)) = false := decide_eq_false (by omega)
    have hle : decide (((R2 n : Nat) : Int) ≤ (R2 n : Nat) - 1) = false := decide_eq_false (by omega)
    cases s with
    | nil =>
      unfold m64_0
      repeat' (first
        | (refine g_op ?_; first
          | refine ep_mov rfl ?_ | refine ep_load1 rfl rfl rfl rfl ?_
          | refine ep_bin rfl rfl (by first | exact b_add (by omega) (by omega) | exact b_sub (by omega) (by omega) | exact b_and (by omega) (by omega) | exact b_or (by omega) (by omega) | exact b_shr (by omega) | exact b_shl (by omega) (by omega) | exact b_lss | exact b_leq | exact b_gtr | exact b_geq | exact b_eql | exact b_neq) ?_
          | refine sp_store rfl rfl rfl rfl rfl rfl rfl rfl rfl rfl ?_ | refine sp_bslice rfl rfl rfl rfl rfl ?_ | refine sp_push0 rfl (by first | exact .inl rfl | exact .inr rfl) rfl rfl rfl rfl rfl (by decide) rfl rfl rfl ?_
          | refine sp_push rfl rfl rfl rfl rfl rfl rfl (by first | exact ints_len _ | exact prs_len _ _ | exact zints_len _) (by omega) (Nat.zero_le _) rfl rfl rfl rfl rfl ?_)
        | (refine g_ops ?_; first | refine eo_none ?_ | refine eo_nil ?_)
        | (refine g_code ?_; first | refine ec_seq ?_ | refine ec_region ?_ | refine ec_block ?_ | refine ec_skip ?_ | refine ec_exit ?_ | refine ec_condT rfl ?_ | refine ec_condF rfl ?_ | refine ec_condTH rfl (by assumption) ?_ | refine ec_condFH rfl (by assumption) ?_)
        | refine ek_seqN ?_ | refine ek_seqX ?_ | refine ek_blkN ?_ | refine ek_blkR ?_ | refine ek_blkX ?_ | refine ek_blkY rfl ?_)
      exact rnd_out (by rfl) (by simp) (scmp2 (by rfl) (by rfl) (by exact ⟨rfl, rfl, rfl⟩) (by rfl) (by first | rfl | (simp; done) | (simp [ints, prs]; done)) (by rfl) (by first | rfl | (simp; done) | (simp [ints, prs]; done)))
    | cons x xs =>
      unfold m64_0
      repeat' (first
        | (refine g_op ?_; first
          | refine ep_mov rfl ?_ | refine ep_load1 rfl rfl rfl rfl ?_
          | refine ep_bin rfl rfl (by first | exact b_add (by omega) (by omega) | exact b_sub (by omega) (by omega) | exact b_and (by omega) (by omega) | exact b_or (by omega) (by omega) | exact b_shr (by omega) | exact b_shl (by omega) (by omega) | exact b_lss | exact b_leq | exact b_gtr | exact b_geq | exact b_eql | exact b_neq) ?_
          | refine sp_store rfl rfl rfl rfl rfl rfl rfl rfl rfl rfl ?_ | refine sp_bslice rfl rfl rfl rfl rfl ?_ | refine sp_push0 rfl (by first | exact .inl rfl | exact .inr rfl) rfl rfl rfl rfl rfl (by decide) rfl rfl rfl ?_
          | refine sp_push rfl rfl rfl rfl rfl rfl rfl (by first | exact ints_len _ | exact prs_len _ _ | exact zints_len _) (by omega) (Nat.zero_le _) rfl rfl rfl rfl rfl ?_)
        | (refine g_ops ?_; first | refine eo_none ?_ | refine eo_nil ?_)
        | (refine g_code ?_; first | refine ec_seq ?_ | refine ec_region ?_ | refine ec_block ?_ | refine ec_skip ?_ | refine ec_exit ?_ | refine ec_condT rfl ?_ | refine ec_condF rfl ?_ | refine ec_condTH rfl (by assumption) ?_ | refine ec_condFH rfl (by assumption) ?_)
        | refine ek_seqN ?_ | refine ek_seqX ?_ | refine ek_blkN ?_ | refine ek_blkR ?_ | refine ek_blkX ?_ | refine ek_blkY rfl ?_)
      exact rnd_out (by rfl) (by simp) (scmp2 (by rfl) (by rfl) (by exact ⟨rfl, rfl, rfl⟩) (by rfl) (by first | rfl | (simp; done) | (simp [ints, prs]; done)) (by rfl) (by first | rfl | (simp; done) | (simp [ints, prs]; done)))

theorem selm_lt {p : Nat → Bool} {n j : Nat} (h : j < (selm p idn n).length) : (selm p idn n).getD j 0 < n ∧ p ((selm p idn n).getD j 0) = true := by
  have e : selm p idn n = (List.range n).filter p := by unfold selm; exact List.map_id' _
  rw [e] at h ⊢
  rw [List.getD_eq_getElem?_getD, List.getElem?_eq_getElem h]
  have := List.getElem_mem h
  rw [List.mem_filter, List.mem_range] at this
  exact this
abbrev endL (rs : List Nat) (bel : Nat → Nat → Bool) : List Nat := kpt (delQ rs bel) rs rs.length

theorem lpix_endsn (fb : Nat) (o : Out) (ho : (match firstF (fun i => !(fun _ => false) i) 0 (0) with | none => (⟨.exit 0, [], [⟨[.nils], 1, 0, some 0, true⟩, ⟨[.fn fb []], 1, 1, some 0, true⟩]⟩ : Out) | some x => ⟨.ret, [(4, .int .i64 (x : Nat))], [⟨[.nils], 1, 0, some 0, true⟩, ⟨[.fn fb []], 1, 1, some 0, true⟩]⟩) = o) :
    LpS cx 19 2 m112_0 [(0, .nils), (1, .fn 110 [.ptr 0 0, .ptr 1 0]), (7, .int .i64 (0 : Nat)), (8, .int .i64 (0 : Nat))] [⟨[.nils], 1, 0, some 0, true⟩, ⟨[.fn fb []], 1, 1, some 0, true⟩] o.x o.e o.h := by
  refine lp_brk (0) (fun i => !(fun _ => false) i) (fun _ => ()) (fun i _ => [(0, .nils), (1, .fn 110 [.ptr 0 0, .ptr 1 0]), (7, .int .i64 (0 : Nat)), (8, .int .i64 (i : Nat))]) (fun i _ => [⟨[.nils], 1, 0, some 0, true⟩, ⟨[.fn fb []], 1, 1, some 0, true⟩]) (fun _ => ⟨.exit 0, [], [⟨[.nils], 1, 0, some 0, true⟩, ⟨[.fn fb []], 1, 1, some 0, true⟩]⟩) (fun i _ => ⟨.ret, [(4, .int .i64 (i : Nat))], [⟨[.nils], 1, 0, some 0, true⟩, ⟨[.fn fb []], 1, 1, some 0, true⟩]⟩) ?_ ?_ ?_ (0) 0 o (by omega) (fun h => by rw [← ho, firstF_none fun x h1 h2 => h x h1 (by omega)]) (fun x h1 h2 h3 h4 => by rw [← ho, firstF_some h1 (by omega) h3 h4])
  · intro i s hi hs hp
    exact absurd hi (by simp)
  · intro i s hi hs hp
    exact absurd hi (by simp)
  · intro s hs
    have hlt : decide (((0 : Nat) : Int) < (0 : Nat)) = false := decide_eq_false (by omega)
    unfold m112_0
    repeat' (first
      | (refine g_op ?_; first
        | refine ep_mov rfl ?_ | refine ep_load1 rfl rfl rfl rfl ?_
        | refine sp_callv rfl rfl rfl rfl rfl rfl (by first | exact e0) ⟨rfl, rfl, rfl, rfl⟩ rfl rfl rfl ?_
        | refine sp_callb rfl rfl rfl rfl rfl rfl (by first | exact e0) ⟨rfl, rfl, rfl, rfl⟩ rfl rfl rfl ?_
        | refine ep_bin rfl rfl (by first | exact b_add (by omega) (by omega) | exact b_sub (by omega) (by omega) | exact b_and (by omega) (by omega) | exact b_or (by omega) (by omega) | exact b_shr (by omega) | exact b_shl (by omega) (by omega) | exact b_lss | exact b_leq | exact b_gtr | exact b_geq | exact b_eql | exact b_neq) ?_
        | refine sp_idx rfl rfl rfl (by omega) rfl ?_ | refine ep_loadS rfl rfl rfl (by first | exact ints_get (by omega) | exact zints_get (by omega) | exact fget (by omega) | assumption) ?_)
      | (refine g_ops ?_; first | refine eo_none ?_ | refine eo_nil ?_)
      | (refine g_code ?_; first | refine ec_seq ?_ | refine ec_region ?_ | refine ec_block ?_ | refine ec_skip ?_ | refine ec_exit ?_ | refine ec_ret ?_ | refine ec_condT rfl ?_ | refine ec_condF rfl ?_ | refine ec_condTH rfl (by assumption) ?_ | refine ec_condFH rfl (by assumption) ?_)
      | refine ek_seqN ?_ | refine ek_seqX ?_ | refine ek_seqR ?_ | refine ek_blkN ?_ | refine ek_blkR ?_ | refine ek_blkX ?_ | refine ek_blkY rfl ?_)
    exact rnd_out (by rfl) (by simp) (scmp2 (by rfl) (by rfl) (by exact ⟨rfl, rfl, rfl⟩) (by rfl) (by first | rfl | (simp; done) | (simp [ints, prs]; done)) (by rfl) (by first | rfl | (simp; done) | (simp [ints, prs]; done)))
theorem evix_endsn (fb : Nat) : Ev cx 112 [.nils, .fn 110 [.ptr 0 0, .ptr 1 0]] [⟨[.nils], 1, 0, some 0, true⟩, ⟨[.fn fb []], 1, 1, some 0, true⟩] (.int .i64 (match firstF (fun i => !(fun _ => false) i) 0 (0) with | none => -1 | some x => ((x : Nat) : Int))) [⟨[.nils], 1, 0, some 0, true⟩, ⟨[.fn fb []], 1, 1, some 0, true⟩] := by
  cases hs : firstF (fun i => !(fun _ => false) i) 0 (0) with
  | none =>
    have lp := lpix_endsn fb _ (by rw [hs])
    refine has112.eev rfl rfl ?_
    unfold m112
    repeat' (first
      | refine sc_loop lp rfl rfl ⟨rfl, rfl, rfl⟩ rfl rfl rfl ?_
      | (refine g_op ?_; first
        | refine ep_mov rfl ?_
        | refine ep_lenS rfl ?_ | refine ep_lenN rfl ?_ | refine ep_lenE rfl ?_)
      | (refine g_ops ?_; first | refine eo_none ?_ | refine eo_nil ?_)
      | (refine g_code ?_; first | refine ec_seq ?_ | refine ec_region ?_ | refine ec_block ?_ | refine ec_ret ?_)
      | refine ek_seqN ?_ | refine ek_seqX ?_ | refine ek_seqR ?_ | refine ek_blkN ?_ | refine ek_blkR ?_ | refine ek_blkX ?_ | refine ek_blkY rfl ?_)
    refine sfin (.inr rfl) (by rfl) (by rfl) (by exact ⟨rfl, rfl, rfl⟩) (by rfl) (by rfl) (by rfl) (by first | rfl | (simp; done) | (simp [ints, prs]; done))
  | some x =>
    have lp := lpix_endsn fb _ (by rw [hs])
    refine has112.eev rfl rfl ?_
    unfold m112
    repeat' (first
      | refine sc_loop lp rfl rfl ⟨rfl, rfl, rfl⟩ rfl rfl rfl ?_
      | (refine g_op ?_; first
        | refine ep_mov rfl ?_
        | refine ep_lenS rfl ?_ | refine ep_lenN rfl ?_ | refine ep_lenE rfl ?_)
      | (refine g_ops ?_; first | refine eo_none ?_ | refine eo_nil ?_)
      | (refine g_code ?_; first | refine ec_seq ?_ | refine ec_region ?_ | refine ec_block ?_ | refine ec_ret ?_)
      | refine ek_seqN ?_ | refine ek_seqX ?_ | refine ek_seqR ?_ | refine ek_blkN ?_ | refine ek_blkR ?_ | refine ek_blkX ?_ | refine ek_blkY rfl ?_)
    refine sfin (.inr rfl) (by rfl) (by rfl) (by exact ⟨rfl, rfl, rfl⟩) (by rfl) (by rfl) (by rfl) (by first | rfl | (simp; done) | (simp [ints, prs]; done))
theorem evcf_endsn (fb : Nat) : Ev cx 66 [.nils, .fn 110 [.ptr 0 0, .ptr 1 0]] [⟨[.nils], 1, 0, some 0, true⟩, ⟨[.fn fb []], 1, 1, some 0, true⟩] (.bool (!allF (fun i => !(fun _ => false) i) 0 (0))) [⟨[.nils], 1, 0, some 0, true⟩, ⟨[.fn fb []], 1, 1, some 0, true⟩] := by
  have e1 := evix_endsn fb
  cases hs : firstF (fun i => !(fun _ => false) i) 0 (0) with
  | none =>
    rw [hs] at e1
    refine has66.eev rfl rfl ?_
    unfold m66
    repeat' (first
      | (refine g_op ?_; first
        | refine ep_mov rfl ?_
        | refine ep_call0 rfl (by first | exact e1) rfl rfl ?_
        | refine sp_call rfl rfl rfl rfl (by first | exact e1) ⟨rfl, rfl, rfl, rfl⟩ rfl rfl rfl ?_
        | refine ep_bin rfl rfl (by first | exact b_add (by omega) (by omega) | exact b_sub (by omega) (by omega) | exact b_and (by omega) (by omega) | exact b_or (by omega) (by omega) | exact b_shr (by omega) | exact b_shl (by omega) (by omega) | exact b_lss | exact b_leq | exact b_gtr | exact b_geq | exact b_eql | exact b_neq) ?_)
      | (refine g_ops ?_; first | refine eo_none ?_ | refine eo_nil ?_)
      | (refine g_code ?_; first | refine ec_seq ?_ | refine ec_region ?_ | refine ec_ret ?_)
      | refine ek_seqN ?_ | refine ek_seqR ?_)
    refine sfin (.inr rfl) (by rfl) (by rfl) (by exact ⟨rfl, rfl, rfl⟩) (by rfl) (by rfl) (by rw [firstF_allT hs]; rfl) (by first | rfl | (simp; done) | (simp [ints, prs]; done))
  | some x =>
    rw [hs] at e1
    have hge : decide (((x : Nat) : Int) ≥ 0) = true := decide_eq_true (by omega)
    refine has66.eev rfl rfl ?_
    unfold m66
    repeat' (first
      | (refine g_op ?_; first
        | refine ep_mov rfl ?_
        | refine ep_call0 rfl (by first | exact e1) rfl rfl ?_
        | refine sp_call rfl rfl rfl rfl (by first | exact e1) ⟨rfl, rfl, rfl, rfl⟩ rfl rfl rfl ?_
        | refine ep_bin rfl rfl (by first | exact b_add (by omega) (by omega) | exact b_sub (by omega) (by omega) | exact b_and (by omega) (by omega) | exact b_or (by omega) (by omega) | exact b_shr (by omega) | exact b_shl (by omega) (by omega) | exact b_lss | exact b_leq | exact b_gtr | exact b_geq | exact b_eql | exact b_neq) ?_)
      | (refine g_ops ?_; first | refine eo_none ?_ | refine eo_nil ?_)
      | (refine g_code ?_; first | refine ec_seq ?_ | refine ec_region ?_ | refine ec_ret ?_)
      | refine ek_seqN ?_ | refine ek_seqR ?_)
    refine sfin (.inr rfl) (by rfl) (by rfl) (by exact ⟨rfl, rfl, rfl⟩) (by rfl) (by rfl) (by rw [firstF_allF hs]; first | rfl | exact congrArg V.bool hge) (by first | rfl | (simp; done) | (simp [ints, prs]; done))

theorem evdf_nils (fb : Nat) : Ev cx 108 [.nils, .fn 110 [.ptr 0 0, .ptr 1 0]] [⟨[.nils], 1, 0, some 0, true⟩, ⟨[.fn fb []], 1, 1, some 0, true⟩] .nils [⟨[.nils], 1, 0, some 0, true⟩, ⟨[.fn fb []], 1, 1, some 0, true⟩] := by
  have e1 := evix_endsn fb
  rw [show firstF (fun i => !(fun _ => false) i) 0 0 = none from rfl] at e1
  refine has108.eev rfl rfl ?_
  unfold m108
  repeat' (first
    | (refine g_op ?_; first
      | refine ep_mov rfl ?_
      | refine ep_call0 rfl (by first | exact e1) rfl rfl ?_
      | refine sp_call rfl rfl rfl rfl (by first | exact e1) ⟨rfl, rfl, rfl, rfl⟩ rfl rfl rfl ?_
      | refine ep_bin rfl rfl (by first | exact b_add (by omega) (by omega) | exact b_sub (by omega) (by omega) | exact b_and (by omega) (by omega) | exact b_or (by omega) (by omega) | exact b_shr (by omega) | exact b_shl (by omega) (by omega) | exact b_lss | exact b_leq | exact b_gtr | exact b_geq | exact b_eql | exact b_neq) ?_)
    | (refine g_ops ?_; first | refine eo_none ?_ | refine eo_nil ?_)
    | (refine g_code ?_; first | refine ec_seq ?_ | refine ec_region ?_ | refine ec_block ?_ | refine ec_skip ?_ | refine ec_ret ?_ | refine ec_condT rfl ?_ | refine ec_condF rfl ?_ | refine ec_condTH rfl (by assumption) ?_ | refine ec_condFH rfl (by assumption) ?_)
    | refine ek_seqN ?_ | refine ek_seqX ?_ | refine ek_seqR ?_ | refine ek_blkN ?_ | refine ek_blkR ?_ | refine ek_blkX ?_ | refine ek_blkY rfl ?_)
  refine sfin (.inr rfl) (by rfl) (by rfl) (by exact ⟨rfl, rfl, rfl⟩) (by rfl) (by rfl) (by rfl) (by first | rfl | (simp; done) | (simp [ints, prs]; done))
theorem evcl_nils : Ev cx 109 [.nils] [] .nils [] := by
  refine has109.eev rfl rfl ?_
  unfold m109
  repeat' (first
    | refine ep_appE rfl (.inl rfl) rfl rfl ?_
    | (refine g_op ?_; first
      | refine ep_mov rfl ?_
      | refine sp_push0 rfl (by first | exact .inl rfl | exact .inr rfl) rfl rfl rfl rfl rfl (by decide) rfl rfl rfl ?_ | refine sp_push rfl rfl rfl rfl rfl rfl rfl (by first | exact ints_len _ | exact prs_len _ _ | exact zints_len _) (by omega) (Nat.zero_le _) rfl rfl rfl rfl rfl ?_
      | refine ep_empt ?_ | refine ep_isnilN rfl ?_ | refine ep_isnilS rfl ?_ | refine ep_isnilE rfl ?_)
    | (refine g_ops ?_; first | refine eo_none ?_ | refine eo_nil ?_)
    | (refine g_code ?_; first | refine ec_seq ?_ | refine ec_region ?_ | refine ec_skip ?_ | refine ec_ret ?_ | refine ec_condT rfl ?_ | refine ec_condF rfl ?_ | refine ec_condTH rfl (by assumption) ?_ | refine ec_condFH rfl (by assumption) ?_)
    | refine ek_seqN ?_ | refine ek_seqR ?_)
  refine sfin (.inr rfl) (by rfl) (by rfl) (by exact ⟨rfl, rfl, rfl⟩) (by rfl) (by rfl) (by rfl) (by first | rfl | (simp; done) | (simp [ints, prs]; done))
theorem ends_nil (fb fp n b : Nat) (pkp : Nat → Bool) (hn : n ≤ 4) (hpk : ∀ r : Nat, r < 16 → Ev cx fp [.int .i64 r, .ptr 0 0] [⟨[.int .i64 n, .int .i64 b], 1, 0, some 0, true⟩] (.bool (pkp r)) [⟨[.int .i64 n, .int .i64 b], 1, 0, some 0, true⟩]) (hs : selm pkp idn (R2 n) = []) : Ev cx 64 [.agg [.int .i64 n, .int .i64 b], .fn fp [.ptr 0 0], .fn fb []] [⟨[.int .i64 n, .int .i64 b], 1, 0, some 0, true⟩] .nils [⟨[.int .i64 n, .int .i64 b], 1, 0, some 0, true⟩] := by
  have lp := lp64_0 fb fp n b pkp hn hpk _ (by rw [hs])
  refine has64.eev rfl rfl ?_
  unfold m64
  repeat' (first
    | refine sc_loop lp rfl rfl ⟨rfl, rfl, rfl⟩ rfl rfl rfl ?_
    | (refine g_op ?_; first
      | refine ep_mov rfl ?_ | refine ep_load1 rfl rfl rfl rfl ?_ | refine sp_loadN rfl rfl rfl rfl rfl ?_
      | refine ep_call0 rfl (by first | exact ev106 _ _ hn | exact evcl_nils | exact evdf_nils fb) rfl rfl ?_
      | refine sp_call rfl rfl rfl rfl (by first | exact ev106 _ _ hn | exact evcl_nils | exact evdf_nils fb) ⟨rfl, rfl, rfl, rfl⟩ rfl rfl rfl ?_
      | refine sp_box rfl rfl rfl rfl rfl ?_ | refine sp_alloc rfl rfl ?_ | refine ep_mkfn rfl ?_)
    | (refine g_ops ?_; first | refine eo_none ?_ | refine eo_nil ?_)
    | (refine g_code ?_; first | refine ec_seq ?_ | refine ec_region ?_ | refine ec_block ?_ | refine ec_ret ?_)
    | refine ek_seqN ?_ | refine ek_seqX ?_ | refine ek_seqR ?_ | refine ek_blkN ?_ | refine ek_blkR ?_ | refine ek_blkX ?_ | refine ek_blkY rfl ?_)
  refine sfin (.inr rfl) (by rfl) (by rfl) (by exact ⟨rfl, rfl, rfl⟩) (by rfl) (by rfl) (by rfl) (by first | rfl | (simp; done) | (simp [ints, prs]; done))
theorem ends_cons (fb fp n b : Nat) (pkp : Nat → Bool) (hn : n ≤ 4) (hpk : ∀ r : Nat, r < 16 → Ev cx fp [.int .i64 r, .ptr 0 0] [⟨[.int .i64 n, .int .i64 b], 1, 0, some 0, true⟩] (.bool (pkp r)) [⟨[.int .i64 n, .int .i64 b], 1, 0, some 0, true⟩]) (bel : Nat → Nat → Bool) (hbel : ∀ r s : Nat, r < 65536 → s < 65536 → Ev cx fb [.int .i64 r, .int .i64 s] [] (.bool (bel r s)) []) (x : Nat) (xs : List Nat) (hs : selm pkp idn (R2 n) = x :: xs) :
    Ev cx 64 [.agg [.int .i64 n, .int .i64 b], .fn fp [.ptr 0 0], .fn fb []] [⟨[.int .i64 n, .int .i64 b], 1, 0, some 0, true⟩] (.sl 1 0 (endL (x :: xs) bel).length) [⟨[.int .i64 n, .int .i64 b], 1, 0, some 0, true⟩, ⟨ints (endL (x :: xs) bel ++ List.replicate ((x :: xs).length - (endL (x :: xs) bel).length) 0), 1, 1, some 0, false⟩] := by
  obtain ⟨h1, h2, h3, h4⟩ := shN hn
  have hle := selm_len pkp idn (R2 n)
  have hlt : ∀ j, j < (x :: xs).length → (x :: xs).getD j 0 < 65536 := fun j hj => by
    have := (selm_lt (p := pkp) (n := R2 n) (j := j) (by rw [hs]; exact hj)).1
    rw [hs] at this; omega
  rw [hs] at hle
  have lp := lp64_0 fb fp n b pkp hn hpk _ (by rw [hs])
  have e2 := ev109 (x :: xs) (x :: xs).length rfl (by simp) (by omega)
  have e3 := evdf_ends fb bel hbel (x :: xs) (by omega) hlt (x :: xs) (by omega) hlt
  refine has64.eev rfl rfl ?_
  unfold m64
  repeat' (first
    | refine sc_loop lp rfl rfl ⟨rfl, rfl, rfl⟩ rfl rfl rfl ?_
    | (refine g_op ?_; first
      | refine ep_mov rfl ?_ | refine ep_load1 rfl rfl rfl rfl ?_ | refine sp_loadN rfl rfl rfl rfl rfl ?_
      | refine ep_call0 rfl (by first | exact ev106 _ _ hn | exact e2 | exact e3) rfl rfl ?_
      | refine sp_call rfl rfl rfl rfl (by first | exact ev106 _ _ hn | exact e2 | exact e3) ⟨rfl, rfl, rfl, rfl⟩ rfl rfl rfl ?_
      | refine sp_box rfl rfl rfl rfl rfl ?_ | refine sp_alloc rfl rfl ?_ | refine ep_mkfn rfl ?_)
    | (refine g_ops ?_; first | refine eo_none ?_ | refine eo_nil ?_)
    | (refine g_code ?_; first | refine ec_seq ?_ | refine ec_region ?_ | refine ec_block ?_ | refine ec_ret ?_)
    | refine ek_seqN ?_ | refine ek_seqX ?_ | refine ek_seqR ?_ | refine ek_blkN ?_ | refine ek_blkR ?_ | refine ek_blkX ?_ | refine ek_blkY rfl ?_)
  refine sfin (.inr rfl) (by rfl) (by rfl) (by exact ⟨rfl, rfl, rfl⟩) (by rfl) (by rfl) (by rfl) (by first | rfl | (simp; done) | (simp [ints, prs]; done))

end Go.Proofs.Ytdmpajkcpdjfbaa
