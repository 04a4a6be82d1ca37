/- What each function that the statement reaches returns. -/
import Derived.Test.YtadmbjneagdfdaaMiD
import Derived.Test.YtadmbjneagdfdaaChecked
import Derived.KernelRfl
set_option linter.unusedVariables false
set_option linter.unusedSimpArgs false
set_option maxRecDepth 100000
set_option maxHeartbeats 4000000
namespace Go.Proofs.Ytadmbjneagdfdaa
open Go Go.Proofs.Ytadmbjneagdfdaa.Mi
noncomputable def cx : Cx := ⟨Try.prog, id, id, by kernel_rfl⟩
attribute [local irreducible] code opsK opsDK gopK opK seqK blockK callK
def R2 (n : Nat) : Nat := 2 ^ n
theorem shR (n : Nat) : 1 <<< n = R2 n := by simp [R2, Nat.shiftLeft_eq]
theorem shN {n : Nat} (h : n ≤ 4) : R2 n ≤ 16 ∧ R2 (R2 n) ≤ 65536 ∧ 1 ≤ R2 n ∧ 1 ≤ R2 (R2 n) := by
  have : n = 0 ∨ n = 1 ∨ n = 2 ∨ n = 3 ∨ n = 4 := by omega
  rcases this with rfl | rfl | rfl | rfl | rfl <;> decide
theorem b_shl1 {k' : IntKind} {y : Nat} (h : R2 y < 9223372036854775808) (hy : y ≤ 64) : binV .shl (.int .i64 1) (.int k' y) = some (.int .i64 (R2 y : Nat)) := by
  rw [← shR]; exact b_shl (x := 1) (by rw [shR]; exact h) hy
attribute [local irreducible] R2
def isRel (p t : Int) : Bool := decide (1 ≤ p ∧ p ≤ 4) && decide (0 ≤ t ∧ t ≤ (R2 (R2 p.toNat) : Nat) - 1)
def isFn (p t : Int) : Bool := decide (0 ≤ p ∧ p ≤ 4) && decide (0 ≤ t ∧ t ≤ (R2 (R2 p.toNat) : Nat) - 1)
-- impl.within
def m51 : MC := (.seq (.region [⟨(.mov (.k (.bool false))), (some 6), none⟩] false) (.seq (.region [⟨(.mov (.t 0)), (some 7), none⟩, ⟨(.mov (.t 1)), (some 8), none⟩, ⟨(.bin .geq (.t 7) (.t 8)), (some 9), none⟩, ⟨(.mov (.t 9)), (some 10), none⟩, ⟨(.mov (.t 0)), (some 11), (some (10, true))⟩, ⟨(.mov (.t 2)), (some 12), (some (10, true))⟩, ⟨(.bin .leq (.t 11) (.t 12)), (some 13), (some (10, true))⟩, ⟨(.pick (.t 10) (.t 13) (.k (.bool false))), (some 14), none⟩, ⟨(.mov (.t 14)), (some 6), none⟩] false) .ret))
theorem has51 : Has cx 51 15 m51 [(.tmp 6)] :=
  ⟨⟨Try.f51, Try.f51.body.getD .skip, by kernel_rfl, by kernel_rfl, by kernel_rfl, by kernel_rfl, by kernel_rfl, by kernel_rfl⟩⟩
theorem ev51 (z lo hi : Int) : Ev cx 51 [.int .i64 z, .int .i64 lo, .int .i64 hi] [] (.bool (decide (lo ≤ z ∧ z ≤ hi))) [] := by
  by_cases h1 : lo ≤ z
  · have h2 : decide (z ≥ lo) = true := decide_eq_true h1
    refine has51.eev rfl rfl ?_
    unfold m51
    repeat' (first
      | (refine g_op ?_; first
        | refine ep_mov rfl ?_
        | refine ep_bin rfl rfl (by first | exact b_add (by omega) (by omega) | exact b_sub (by omega) (by omega) | exact b_and (by omega) (by omega) | exact b_or (by omega) (by omega) | exact b_shr (by omega) | exact b_shl (by omega) (by omega) | rfl) ?_
        | refine ep_pickT rfl rfl ?_ | refine ep_pickF rfl rfl ?_ | refine ep_pickTH rfl (by assumption) rfl ?_ | refine ep_pickFH rfl (by assumption) rfl ?_)
      | (refine g_ops ?_; first | refine eo_none ?_ | refine eo_nil ?_ | refine eo_yes rfl ?_ | refine eo_no rfl ?_ | refine eo_und rfl ?_ | refine eo_yesH rfl (by assumption) ?_ | refine eo_noH rfl (by assumption) ?_)
      | (refine g_code ?_; first | refine ec_seq ?_ | refine ec_region ?_ | refine ec_ret ?_)
      | refine ek_seqN ?_ | refine ek_seqR ?_)
    refine sfin (.inr rfl) (by rfl) (by rfl) (by exact ⟨rfl, rfl, rfl⟩) (by rfl) (by rfl) (by exact congrArg V.bool (by simp [h1])) (by first | rfl | (simp; done) | (simp [ints, prs]; done))
  · have h2 : decide (z ≥ lo) = false := decide_eq_false h1
    refine has51.eev rfl rfl ?_
    unfold m51
    repeat' (first
      | (refine g_op ?_; first
        | refine ep_mov rfl ?_
        | refine ep_bin rfl rfl (by first | exact b_add (by omega) (by omega) | exact b_sub (by omega) (by omega) | exact b_and (by omega) (by omega) | exact b_or (by omega) (by omega) | exact b_shr (by omega) | exact b_shl (by omega) (by omega) | rfl) ?_
        | refine ep_pickT rfl rfl ?_ | refine ep_pickF rfl rfl ?_ | refine ep_pickTH rfl (by assumption) rfl ?_ | refine ep_pickFH rfl (by assumption) rfl ?_)
      | (refine g_ops ?_; first | refine eo_none ?_ | refine eo_nil ?_ | refine eo_yes rfl ?_ | refine eo_no rfl ?_ | refine eo_und rfl ?_ | refine eo_yesH rfl (by assumption) ?_ | refine eo_noH rfl (by assumption) ?_)
      | (refine g_code ?_; first | refine ec_seq ?_ | refine ec_region ?_ | refine ec_ret ?_)
      | refine ek_seqN ?_ | refine ek_seqR ?_)
    refine sfin (.inr rfl) (by rfl) (by rfl) (by exact ⟨rfl, rfl, rfl⟩) (by rfl) (by rfl) (by exact congrArg V.bool (by simp [h1])) (by first | rfl | (simp; done) | (simp [ints, prs]; done))
-- spec.l01In
def m24 : MC := (.seq (.region [⟨(.mov (.k (.bool false))), (some 6), none⟩] false) (.seq (.region [⟨(.mov (.t 0)), (some 7), none⟩, ⟨(.mov (.t 1)), (some 8), none⟩, ⟨(.bin .geq (.t 7) (.t 8)), (some 9), none⟩, ⟨(.mov (.t 9)), (some 10), none⟩, ⟨(.mov (.t 0)), (some 11), (some (10, true))⟩, ⟨(.mov (.t 2)), (some 12), (some (10, true))⟩, ⟨(.bin .leq (.t 11) (.t 12)), (some 13), (some (10, true))⟩, ⟨(.pick (.t 10) (.t 13) (.k (.bool false))), (some 14), none⟩, ⟨(.mov (.t 14)), (some 6), none⟩] false) .ret))
theorem has24 : Has cx 24 15 m24 [(.tmp 6)] :=
  ⟨⟨Try.f24, Try.f24.body.getD .skip, by kernel_rfl, by kernel_rfl, by kernel_rfl, by kernel_rfl, by kernel_rfl, by kernel_rfl⟩⟩
theorem ev24 (z lo hi : Int) : Ev cx 24 [.int .i64 z, .int .i64 lo, .int .i64 hi] [] (.bool (decide (lo ≤ z ∧ z ≤ hi))) [] := by
  by_cases h1 : lo ≤ z
  · have h2 : decide (z ≥ lo) = true := decide_eq_true h1
    refine has24.eev rfl rfl ?_
    unfold m24
    repeat' (first
      | (refine g_op ?_; first
        | refine ep_mov rfl ?_
        | refine ep_bin rfl rfl (by first | exact b_add (by omega) (by omega) | exact b_sub (by omega) (by omega) | exact b_and (by omega) (by omega) | exact b_or (by omega) (by omega) | exact b_shr (by omega) | exact b_shl (by omega) (by omega) | rfl) ?_
        | refine ep_pickT rfl rfl ?_ | refine ep_pickF rfl rfl ?_ | refine ep_pickTH rfl (by assumption) rfl ?_ | refine ep_pickFH rfl (by assumption) rfl ?_)
      | (refine g_ops ?_; first | refine eo_none ?_ | refine eo_nil ?_ | refine eo_yes rfl ?_ | refine eo_no rfl ?_ | refine eo_und rfl ?_ | refine eo_yesH rfl (by assumption) ?_ | refine eo_noH rfl (by assumption) ?_)
      | (refine g_code ?_; first | refine ec_seq ?_ | refine ec_region ?_ | refine ec_ret ?_)
      | refine ek_seqN ?_ | refine ek_seqR ?_)
    refine sfin (.inr rfl) (by rfl) (by rfl) (by exact ⟨rfl, rfl, rfl⟩) (by rfl) (by rfl) (by exact congrArg V.bool (by simp [h1])) (by first | rfl | (simp; done) | (simp [ints, prs]; done))
  · have h2 : decide (z ≥ lo) = false := decide_eq_false h1
    refine has24.eev rfl rfl ?_
    unfold m24
    repeat' (first
      | (refine g_op ?_; first
        | refine ep_mov rfl ?_
        | refine ep_bin rfl rfl (by first | exact b_add (by omega) (by omega) | exact b_sub (by omega) (by omega) | exact b_and (by omega) (by omega) | exact b_or (by omega) (by omega) | exact b_shr (by omega) | exact b_shl (by omega) (by omega) | rfl) ?_
        | refine ep_pickT rfl rfl ?_ | refine ep_pickF rfl rfl ?_ | refine ep_pickTH rfl (by assumption) rfl ?_ | refine ep_pickFH rfl (by assumption) rfl ?_)
      | (refine g_ops ?_; first | refine eo_none ?_ | refine eo_nil ?_ | refine eo_yes rfl ?_ | refine eo_no rfl ?_ | refine eo_und rfl ?_ | refine eo_yesH rfl (by assumption) ?_ | refine eo_noH rfl (by assumption) ?_)
      | (refine g_code ?_; first | refine ec_seq ?_ | refine ec_region ?_ | refine ec_ret ?_)
      | refine ek_seqN ?_ | refine ek_seqR ?_)
    refine sfin (.inr rfl) (by rfl) (by rfl) (by exact ⟨rfl, rfl, rfl⟩) (by rfl) (by rfl) (by exact congrArg V.bool (by simp [h1])) (by first | rfl | (simp; done) | (simp [ints, prs]; done))
-- impl.rowsOf
def m41 : MC := (.seq (.region [⟨(.mov (.k (.int .i64 0))), (some 2), none⟩] false) (.seq (.region [⟨(.mov (.t 0)), (some 3), none⟩, ⟨(.bin .shl (.k (.int .i64 1)) (.t 3)), (some 4), none⟩, ⟨(.mov (.t 4)), (some 2), none⟩] false) .ret))
theorem has41 : Has cx 41 5 m41 [(.tmp 2)] :=
  ⟨⟨Try.f41, Try.f41.body.getD .skip, by kernel_rfl, by kernel_rfl, by kernel_rfl, by kernel_rfl, by kernel_rfl, by kernel_rfl⟩⟩
theorem ev41 (n : Nat) (h : n ≤ 4) : Ev cx 41 [.int .i64 n] [] (.int .i64 (R2 n : Nat)) [] := by
  obtain ⟨h1, h2, h3, h4⟩ := shN h
  refine has41.eev rfl rfl ?_
  unfold m41
  repeat' (first
    | (refine g_op ?_; first
      | refine ep_mov rfl ?_
      | refine ep_bin rfl rfl (by first | exact b_shl1 (by omega) (by omega) | exact b_add (by omega) (by omega) | exact b_sub (by omega) (by omega) | exact b_and (by omega) (by omega) | exact b_or (by omega) (by omega) | exact b_shr (by omega) | exact b_shl (by omega) (by omega) | rfl) ?_)
    | (refine g_ops ?_; first | refine eo_none ?_ | refine eo_nil ?_)
    | (refine g_code ?_; first | refine ec_seq ?_ | refine ec_region ?_ | refine ec_ret ?_)
    | refine ek_seqN ?_ | refine ek_seqR ?_)
  refine sfin (.inr rfl) (by rfl) (by rfl) (by exact ⟨rfl, rfl, rfl⟩) (by rfl) (by rfl) (by rfl) (by first | rfl | (simp; done) | (simp [ints, prs]; done))
-- impl.funcsOf
def m52 : MC := (.seq (.region [⟨(.mov (.k (.int .i64 0))), (some 2), none⟩] false) (.seq (.region [⟨(.mov (.t 0)), (some 3), none⟩, ⟨(.call 41 [(.t 3)]), (some 4), none⟩, ⟨(.bin .shl (.k (.int .i64 1)) (.t 4)), (some 5), none⟩, ⟨(.mov (.t 5)), (some 2), none⟩] false) .ret))
theorem has52 : Has cx 52 6 m52 [(.tmp 2)] :=
  ⟨⟨Try.f52, Try.f52.body.getD .skip, by kernel_rfl, by kernel_rfl, by kernel_rfl, by kernel_rfl, by kernel_rfl, by kernel_rfl⟩⟩
theorem ev52 (n : Nat) (h : n ≤ 4) : Ev cx 52 [.int .i64 n] [] (.int .i64 (R2 (R2 n) : Nat)) [] := by
  obtain ⟨h1, h2, h3, h4⟩ := shN h
  refine has52.eev rfl rfl ?_
  unfold m52
  repeat' (first
    | (refine g_op ?_; first
      | refine ep_mov rfl ?_
      | refine ep_call0 rfl (by first | exact ev41 _ h) rfl rfl ?_
      | refine sp_call rfl rfl rfl rfl (by first | exact ev41 _ h) ⟨rfl, rfl, rfl, rfl⟩ rfl rfl rfl ?_
      | refine ep_bin rfl rfl (by first | exact b_shl1 (by omega) (by omega) | exact b_add (by omega) (by omega) | exact b_sub (by omega) (by omega) | exact b_and (by omega) (by omega) | exact b_or (by omega) (by omega) | exact b_shr (by omega) | exact b_shl (by omega) (by omega) | rfl) ?_)
    | (refine g_ops ?_; first | refine eo_none ?_ | refine eo_nil ?_)
    | (refine g_code ?_; first | refine ec_seq ?_ | refine ec_region ?_ | refine ec_ret ?_)
    | refine ek_seqN ?_ | refine ek_seqR ?_)
  refine sfin (.inr rfl) (by rfl) (by rfl) (by exact ⟨rfl, rfl, rfl⟩) (by rfl) (by rfl) (by rfl) (by first | rfl | (simp; done) | (simp [ints, prs]; done))
-- spec.l01Rows
def m28 : MC := (.seq (.region [⟨(.mov (.k (.int .i64 0))), (some 2), none⟩] false) (.seq (.region [⟨(.mov (.t 0)), (some 3), none⟩, ⟨(.conv .u64 (.t 3)), (some 4), none⟩, ⟨(.bin .shl (.k (.int .i64 1)) (.t 4)), (some 5), none⟩, ⟨(.mov (.t 5)), (some 2), none⟩] false) .ret))
theorem has28 : Has cx 28 6 m28 [(.tmp 2)] :=
  ⟨⟨Try.f28, Try.f28.body.getD .skip, by kernel_rfl, by kernel_rfl, by kernel_rfl, by kernel_rfl, by kernel_rfl, by kernel_rfl⟩⟩
theorem ev28 (n : Nat) (h : n ≤ 4) : Ev cx 28 [.int .i64 n] [] (.int .i64 (R2 n : Nat)) [] := by
  obtain ⟨h1, h2, h3, h4⟩ := shN h
  refine has28.eev rfl rfl ?_
  unfold m28
  repeat' (first
    | (refine g_op ?_; first
      | refine ep_mov rfl ?_
      | refine ep_bin rfl rfl (by first | exact b_shl1 (by omega) (by omega) | exact b_add (by omega) (by omega) | exact b_sub (by omega) (by omega) | exact b_and (by omega) (by omega) | exact b_or (by omega) (by omega) | exact b_shr (by omega) | exact b_shl (by omega) (by omega) | rfl) ?_
      | refine ep_conv rfl (by first | exact w_u64 (by omega) (by omega) | exact wrap_id (by omega) (by omega) | rfl) ?_)
    | (refine g_ops ?_; first | refine eo_none ?_ | refine eo_nil ?_)
    | (refine g_code ?_; first | refine ec_seq ?_ | refine ec_region ?_ | refine ec_ret ?_)
    | refine ek_seqN ?_ | refine ek_seqR ?_)
  refine sfin (.inr rfl) (by rfl) (by rfl) (by exact ⟨rfl, rfl, rfl⟩) (by rfl) (by rfl) (by rfl) (by first | rfl | (simp; done) | (simp [ints, prs]; done))
-- spec.l01All
def m48 : MC := (.seq (.region [⟨(.mov (.k (.int .i64 0))), (some 2), none⟩] false) (.seq (.region [⟨(.mov (.t 0)), (some 3), none⟩, ⟨(.call 28 [(.t 3)]), (some 4), none⟩, ⟨(.conv .u64 (.t 4)), (some 5), none⟩, ⟨(.bin .shl (.k (.int .i64 1)) (.t 5)), (some 6), none⟩, ⟨(.bin .sub (.t 6) (.k (.int .i64 1))), (some 7), none⟩, ⟨(.mov (.t 7)), (some 2), none⟩] false) .ret))
theorem has48 : Has cx 48 8 m48 [(.tmp 2)] :=
  ⟨⟨Try.f48, Try.f48.body.getD .skip, by kernel_rfl, by kernel_rfl, by kernel_rfl, by kernel_rfl, by kernel_rfl, by kernel_rfl⟩⟩
theorem ev48 (n : Nat) (h : n ≤ 4) : Ev cx 48 [.int .i64 n] [] (.int .i64 ((R2 (R2 n) : Nat) - 1)) [] := by
  obtain ⟨h1, h2, h3, h4⟩ := shN h
  refine has48.eev rfl rfl ?_
  unfold m48
  repeat' (first
    | (refine g_op ?_; first
      | refine ep_mov rfl ?_
      | refine ep_call0 rfl (by first | exact ev28 _ h) rfl rfl ?_
      | refine sp_call rfl rfl rfl rfl (by first | exact ev28 _ h) ⟨rfl, rfl, rfl, rfl⟩ rfl rfl rfl ?_
      | refine ep_bin rfl rfl (by first | exact b_shl1 (by omega) (by omega) | exact b_add (by omega) (by omega) | exact b_sub (by omega) (by omega) | exact b_and (by omega) (by omega) | exact b_or (by omega) (by omega) | exact b_shr (by omega) | exact b_shl (by omega) (by omega) | rfl) ?_
      | refine ep_conv rfl (by first | exact w_u64 (by omega) (by omega) | exact wrap_id (by omega) (by omega) | rfl) ?_)
    | (refine g_ops ?_; first | refine eo_none ?_ | refine eo_nil ?_)
    | (refine g_code ?_; first | refine ec_seq ?_ | refine ec_region ?_ | refine ec_ret ?_)
    | refine ek_seqN ?_ | refine ek_seqR ?_)
  refine sfin (.inr rfl) (by rfl) (by rfl) (by exact ⟨rfl, rfl, rfl⟩) (by rfl) (by rfl) (by rfl) (by first | rfl | (simp; done) | (simp [ints, prs]; done))
-- impl.isArity
def m49 : MC := (.seq (.region [⟨(.mov (.k (.bool false))), (some 2), none⟩] false) (.seq (.region [⟨(.mov (.t 0)), (some 3), none⟩, ⟨(.call 51 [(.t 3), (.k (.int .i64 0)), (.k (.int .i64 4))]), (some 4), none⟩, ⟨(.mov (.t 4)), (some 2), none⟩] false) .ret))
theorem has49 : Has cx 49 5 m49 [(.tmp 2)] :=
  ⟨⟨Try.f49, Try.f49.body.getD .skip, by kernel_rfl, by kernel_rfl, by kernel_rfl, by kernel_rfl, by kernel_rfl, by kernel_rfl⟩⟩
theorem ev49 (z : Int) : Ev cx 49 [.int .i64 z] [] (.bool (decide (0 ≤ z ∧ z ≤ 4))) [] := by
  refine has49.eev rfl rfl ?_
  unfold m49
  repeat' (first
    | (refine g_op ?_; first
      | refine ep_mov rfl ?_
      | refine ep_call0 rfl (by first | exact ev51 _ _ _) rfl rfl ?_
      | refine sp_call rfl rfl rfl rfl (by first | exact ev51 _ _ _) ⟨rfl, rfl, rfl, rfl⟩ rfl rfl rfl ?_)
    | (refine g_ops ?_; first | refine eo_none ?_ | refine eo_nil ?_)
    | (refine g_code ?_; first | refine ec_seq ?_ | refine ec_region ?_ | refine ec_ret ?_)
    | refine ek_seqN ?_ | refine ek_seqR ?_)
  refine sfin (.inr rfl) (by rfl) (by rfl) (by exact ⟨rfl, rfl, rfl⟩) (by rfl) (by rfl) (by rfl) (by first | rfl | (simp; done) | (simp [ints, prs]; done))
structure RR where
  a : Int
  b : Int
  c : Int
abbrev rr (x : RR) : V := .tup [.agg [.int .i64 x.a, .int .i64 x.b], .int .i64 x.c]
theorem isRel_nat {p t : Int} (h : isRel p t = true) : ∃ n b : Nat, p = n ∧ t = b ∧ 1 ≤ n ∧ n ≤ 4 ∧ b < R2 (R2 n) ∧ b < 65536 := by
  simp only [isRel, Bool.and_eq_true, decide_eq_true_eq] at h
  obtain ⟨⟨h1, h2⟩, h3, h4⟩ := h
  obtain ⟨n, rfl⟩ := Int.eq_ofNat_of_zero_le (show 0 ≤ p by omega)
  obtain ⟨b, rfl⟩ := Int.eq_ofNat_of_zero_le h3
  simp only [Int.toNat_natCast] at h4
  obtain ⟨_, q, _⟩ := shN (n := n) (by omega)
  exact ⟨n, b, rfl, rfl, by omega, by omega, by omega, by omega⟩
theorem isFn_nat {p t : Int} (h : isFn p t = true) : ∃ n b : Nat, p = n ∧ t = b ∧ n ≤ 4 ∧ b < R2 (R2 n) ∧ b < 65536 := by
  simp only [isFn, Bool.and_eq_true, decide_eq_true_eq] at h
  obtain ⟨⟨h1, h2⟩, h3, h4⟩ := h
  obtain ⟨n, rfl⟩ := Int.eq_ofNat_of_zero_le (show 0 ≤ p by omega)
  obtain ⟨b, rfl⟩ := Int.eq_ofNat_of_zero_le h3
  simp only [Int.toNat_natCast] at h4
  obtain ⟨_, q, _⟩ := shN (n := n) (by omega)
  exact ⟨n, b, rfl, rfl, by omega, by omega, by omega⟩
def meetR (p t q s : Int) : RR := if isRel p t = true ∧ isRel q s = true then (if p = q then ⟨p, (t.toNat &&& s.toNat : Nat), 0⟩ else ⟨0, 0, 2⟩) else ⟨0, 0, 1⟩
-- laws.eqRelation
def m14 : MC := (.seq (.region [⟨(.box (.t 0)), (some 2), none⟩, ⟨(.box (.t 1)), (some 3), none⟩, ⟨(.mov (.k (.bool false))), (some 4), none⟩] false) (.seq (.seq (.region [⟨(.fieldAddr 0 (.t 2)), (some 5), none⟩, ⟨(.load none (.t 5)), (some 6), none⟩, ⟨(.fieldAddr 0 (.t 3)), (some 7), none⟩, ⟨(.load none (.t 7)), (some 8), none⟩, ⟨(.bin .neq (.t 6) (.t 8)), (some 9), none⟩] false) (.cond (.t 9) (.seq (.region [⟨(.mov (.k (.bool false))), (some 4), none⟩] false) .ret) .skip)) (.seq (.seq (.region [⟨(.fieldAddr 1 (.t 2)), (some 10), none⟩, ⟨(.load none (.t 10)), (some 11), none⟩, ⟨(.fieldAddr 1 (.t 3)), (some 12), none⟩, ⟨(.load none (.t 12)), (some 13), none⟩, ⟨(.bin .neq (.t 11) (.t 13)), (some 14), none⟩] false) (.cond (.t 14) (.seq (.region [⟨(.mov (.k (.bool false))), (some 4), none⟩] false) .ret) .skip)) (.seq (.region [⟨(.mov (.k (.bool true))), (some 4), none⟩] false) .ret))))
theorem has14 : Has cx 14 15 m14 [(.tmp 4)] :=
  ⟨⟨Try.f14, Try.f14.body.getD .skip, by kernel_rfl, by kernel_rfl, by kernel_rfl, by kernel_rfl, by kernel_rfl, by kernel_rfl⟩⟩
theorem ev14 (a b : Int) : Ev cx 14 [.agg [.int .i64 a, .int .i64 b], .agg [.int .i64 a, .int .i64 b]] [] (.bool true) [] := by
  have h1 : (a != a) = false := by simp
  have h2 : (b != b) = false := by simp
  refine has14.eev rfl rfl ?_
  unfold m14
  repeat' (first
    | (refine g_op ?_; first
      | refine ep_mov rfl ?_ | refine ep_load1 rfl rfl rfl rfl ?_ | refine ep_fieldAddr rfl ?_
      | refine ep_bin rfl rfl (by first | exact b_add (by omega) (by omega) | exact b_sub (by omega) (by omega) | exact b_and (by omega) (by omega) | exact b_or (by omega) (by omega) | exact b_shr (by omega) | exact b_shl (by omega) (by omega) | rfl) ?_
      | refine sp_box rfl rfl rfl rfl rfl ?_)
    | (refine g_ops ?_; first | refine eo_none ?_ | refine eo_nil ?_)
    | (refine g_code ?_; first | refine ec_seq ?_ | refine ec_region ?_ | refine ec_skip ?_ | refine ec_ret ?_ | refine ec_condT rfl ?_ | refine ec_condF rfl ?_ | refine ec_condTH rfl (by assumption) ?_ | refine ec_condFH rfl (by assumption) ?_)
    | refine ek_seqN ?_ | refine ek_seqR ?_)
  refine sfin (.inr rfl) (by rfl) (by rfl) (by exact ⟨rfl, rfl, rfl⟩) (by rfl) (by rfl) (by rfl) (by first | rfl | (simp; done) | (simp [ints, prs]; done))
def bt (b r : Nat) : Nat := (b >>> r) &&& 1
theorem bt_le (b r : Nat) : bt b r ≤ 1 := by unfold bt; exact Nat.and_le_right
theorem shr_lt {b r : Nat} (h : b < 9223372036854775808) : b >>> r < 9223372036854775808 := Nat.lt_of_le_of_lt (Nat.shiftRight_le b r) h
theorem b_bt {b r : Nat} (h : b < 9223372036854775808) : binV .and (.int .i64 (b >>> r : Nat)) (.int .i64 1) = some (.int .i64 (bt b r : Nat)) := b_and (y := 1) (shr_lt h) (by omega)
theorem R2_le {j n : Nat} (h : j < n) : 2 * R2 j ≤ R2 n := by
  unfold R2; rw [← Nat.pow_succ']; exact Nat.pow_le_pow_right (by omega) (by omega)
theorem or_lt {x y n : Nat} (hx : x < R2 n) (hy : y < R2 n) : x ||| y < R2 n := by unfold R2 at *; exact Nat.or_lt_two_pow hx hy
attribute [local irreducible] bt
-- impl.bit
def m56 : MC := (.seq (.region [⟨(.mov (.k (.int .i64 0))), (some 4), none⟩] false) (.seq (.region [⟨(.mov (.t 0)), (some 5), none⟩, ⟨(.mov (.t 1)), (some 6), none⟩, ⟨(.bin .shr (.t 5) (.t 6)), (some 7), none⟩, ⟨(.bin .and (.t 7) (.k (.int .i64 1))), (some 8), none⟩, ⟨(.mov (.t 8)), (some 4), none⟩] false) .ret))
theorem has56 : Has cx 56 9 m56 [(.tmp 4)] :=
  ⟨⟨Try.f56, Try.f56.body.getD .skip, by kernel_rfl, by kernel_rfl, by kernel_rfl, by kernel_rfl, by kernel_rfl, by kernel_rfl⟩⟩
theorem ev56 (b r : Nat) (hb : b < 9223372036854775808) (hr : r ≤ 64) : Ev cx 56 [.int .i64 b, .int .i64 r] [] (.int .i64 (bt b r : Nat)) [] := by
  refine has56.eev rfl rfl ?_
  unfold m56
  repeat' (first
    | (refine g_op ?_; first
      | refine ep_mov rfl ?_
      | refine ep_bin rfl rfl (by first | exact b_shr hr | exact b_bt hb | exact b_add (by omega) (by omega) | exact b_sub (by omega) (by omega) | exact b_and (by omega) (by omega) | exact b_or (by omega) (by omega) | exact b_shr (by omega) | exact b_shl (by omega) (by omega) | rfl) ?_)
    | (refine g_ops ?_; first | refine eo_none ?_ | refine eo_nil ?_)
    | (refine g_code ?_; first | refine ec_seq ?_ | refine ec_region ?_ | refine ec_ret ?_)
    | refine ek_seqN ?_ | refine ek_seqR ?_)
  refine sfin (.inr rfl) (by rfl) (by rfl) (by exact ⟨rfl, rfl, rfl⟩) (by rfl) (by rfl) (by rfl) (by first | rfl | (simp; done) | (simp [ints, prs]; done))
-- (impl.Func).at
def m33 : MC := (.seq (.region [⟨(.box (.t 0)), (some 2), none⟩, ⟨(.mov (.k (.int .i64 0))), (some 4), none⟩] false) (.seq (.region [⟨(.fieldAddr 1 (.t 2)), (some 5), none⟩, ⟨(.load none (.t 5)), (some 6), none⟩, ⟨(.mov (.t 1)), (some 7), none⟩, ⟨(.call 56 [(.t 6), (.t 7)]), (some 8), none⟩, ⟨(.mov (.t 8)), (some 4), none⟩] false) .ret))
theorem has33 : Has cx 33 9 m33 [(.tmp 4)] :=
  ⟨⟨Try.f33, Try.f33.body.getD .skip, by kernel_rfl, by kernel_rfl, by kernel_rfl, by kernel_rfl, by kernel_rfl, by kernel_rfl⟩⟩
theorem ev33 (n : Int) (b r : Nat) (hb : b < 9223372036854775808) (hr : r ≤ 64) : Ev cx 33 [.agg [.int .i64 n, .int .i64 b], .int .i64 r] [] (.int .i64 (bt b r : Nat)) [] := by
  refine has33.eev rfl rfl ?_
  unfold m33
  repeat' (first
    | (refine g_op ?_; first
      | refine ep_mov rfl ?_ | refine ep_load1 rfl rfl rfl rfl ?_ | refine ep_fieldAddr rfl ?_
      | refine ep_call0 rfl (by first | exact ev56 _ _ hb hr) rfl rfl ?_
      | refine sp_call rfl rfl rfl rfl (by first | exact ev56 _ _ hb hr) ⟨rfl, rfl, rfl, rfl⟩ rfl rfl rfl ?_
      | refine sp_box rfl rfl rfl rfl rfl ?_)
    | (refine g_ops ?_; first | refine eo_none ?_ | refine eo_nil ?_)
    | (refine g_code ?_; first | refine ec_seq ?_ | refine ec_region ?_ | refine ec_ret ?_)
    | refine ek_seqN ?_ | refine ek_seqR ?_)
  refine sfin (.inr rfl) (by rfl) (by rfl) (by exact ⟨rfl, rfl, rfl⟩) (by rfl) (by rfl) (by rfl) (by first | rfl | (simp; done) | (simp [ints, prs]; done))
-- (impl.Func).rows
def m34 : MC := (.seq (.region [⟨(.box (.t 0)), (some 1), none⟩, ⟨(.mov (.k (.int .i64 0))), (some 2), none⟩] false) (.seq (.region [⟨(.fieldAddr 0 (.t 1)), (some 3), none⟩, ⟨(.load none (.t 3)), (some 4), none⟩, ⟨(.call 41 [(.t 4)]), (some 5), none⟩, ⟨(.mov (.t 5)), (some 2), none⟩] false) .ret))
theorem has34 : Has cx 34 6 m34 [(.tmp 2)] :=
  ⟨⟨Try.f34, Try.f34.body.getD .skip, by kernel_rfl, by kernel_rfl, by kernel_rfl, by kernel_rfl, by kernel_rfl, by kernel_rfl⟩⟩
theorem ev34 (n : Nat) (b : Int) (h : n ≤ 4) : Ev cx 34 [.agg [.int .i64 n, .int .i64 b]] [] (.int .i64 (R2 n : Nat)) [] := by
  refine has34.eev rfl rfl ?_
  unfold m34
  repeat' (first
    | (refine g_op ?_; first
      | refine ep_mov rfl ?_ | refine ep_load1 rfl rfl rfl rfl ?_ | refine ep_fieldAddr rfl ?_
      | refine ep_call0 rfl (by first | exact ev41 _ h) rfl rfl ?_
      | refine sp_call rfl rfl rfl rfl (by first | exact ev41 _ h) ⟨rfl, rfl, rfl, rfl⟩ rfl rfl rfl ?_
      | refine sp_box rfl rfl rfl rfl rfl ?_)
    | (refine g_ops ?_; first | refine eo_none ?_ | refine eo_nil ?_)
    | (refine g_code ?_; first | refine ec_seq ?_ | refine ec_region ?_ | refine ec_ret ?_)
    | refine ek_seqN ?_ | refine ek_seqR ?_)
  refine sfin (.inr rfl) (by rfl) (by rfl) (by exact ⟨rfl, rfl, rfl⟩) (by rfl) (by rfl) (by rfl) (by first | rfl | (simp; done) | (simp [ints, prs]; done))
def monoP (b r i : Nat) : Bool := decide (¬ (bt b r > bt b (r ||| R2 i)))
def monoB (n b : Nat) : Bool := allF (fun r => allF (monoP b r) 0 n) 0 (R2 n)
-- impl.IsFunc
def m30 : MC := (.seq (.region [⟨(.box (.t 0)), (some 1), none⟩, ⟨(.mov (.k (.bool false))), (some 2), none⟩] false) (.seq (.region [⟨(.fieldAddr 0 (.t 1)), (some 3), none⟩, ⟨(.load none (.t 3)), (some 4), none⟩, ⟨(.call 49 [(.t 4)]), (some 5), none⟩, ⟨(.mov (.t 5)), (some 6), none⟩, ⟨(.fieldAddr 1 (.t 1)), (some 7), (some (6, true))⟩, ⟨(.load none (.t 7)), (some 8), (some (6, true))⟩, ⟨(.fieldAddr 0 (.t 1)), (some 9), (some (6, true))⟩, ⟨(.load none (.t 9)), (some 10), (some (6, true))⟩, ⟨(.call 52 [(.t 10)]), (some 11), (some (6, true))⟩, ⟨(.bin .sub (.t 11) (.k (.int .i64 1))), (some 12), (some (6, true))⟩, ⟨(.call 51 [(.t 8), (.k (.int .i64 0)), (.t 12)]), (some 13), (some (6, true))⟩, ⟨(.pick (.t 6) (.t 13) (.k (.bool false))), (some 14), none⟩, ⟨(.mov (.t 14)), (some 2), none⟩] true) .ret))
theorem has30 : Has cx 30 15 m30 [(.tmp 2)] :=
  ⟨⟨Try.f30, Try.f30.body.getD .skip, by kernel_rfl, by kernel_rfl, by kernel_rfl, by kernel_rfl, by kernel_rfl, by kernel_rfl⟩⟩
theorem ev30 (p t : Int) : Ev cx 30 [.agg [.int .i64 p, .int .i64 t]] [] (.bool (isFn p t)) [] := by
  by_cases h1 : 0 ≤ p ∧ p ≤ 4
  · have h2 : decide (0 ≤ p ∧ p ≤ 4) = true := decide_eq_true h1
    obtain ⟨n, rfl⟩ := Int.eq_ofNat_of_zero_le (show 0 ≤ p by omega)
    have h3 : n ≤ 4 := by omega
    obtain ⟨h4, h5, h6, h7⟩ := shN h3
    refine has30.eev rfl rfl ?_
    unfold m30
    repeat' (first
      | (refine g_op ?_; first
        | refine ep_mov rfl ?_ | refine ep_load1 rfl rfl rfl rfl ?_ | refine ep_fieldAddr rfl ?_
        | refine ep_call0 rfl (by first | exact ev49 _ | exact ev51 _ _ _ | exact ev52 _ h3) rfl rfl ?_
        | refine sp_call rfl rfl rfl rfl (by first | exact ev49 _ | exact ev51 _ _ _ | exact ev52 _ h3) ⟨rfl, rfl, rfl, rfl⟩ rfl rfl rfl ?_
        | refine ep_bin rfl rfl (by first | exact b_add (by omega) (by omega) | exact b_sub (by omega) (by omega) | exact b_and (by omega) (by omega) | exact b_or (by omega) (by omega) | exact b_shr (by omega) | exact b_shl (by omega) (by omega) | rfl) ?_
        | refine ep_pickT rfl rfl ?_ | refine ep_pickF rfl rfl ?_ | refine ep_pickTH rfl (by assumption) rfl ?_ | refine ep_pickFH rfl (by assumption) rfl ?_ | refine sp_box rfl rfl rfl rfl rfl ?_)
      | (refine g_ops ?_; first | refine eo_none ?_ | refine eo_nil ?_ | refine eo_yes rfl ?_ | refine eo_no rfl ?_ | refine eo_und rfl ?_ | refine eo_yesH rfl (by assumption) ?_ | refine eo_noH rfl (by assumption) ?_)
      | (refine g_dops ?_; first | refine ed_none ?_ | refine ed_nil ?_ | refine ed_yes rfl ?_ | refine ed_no rfl ?_ | refine ed_und rfl ?_ | refine ed_yesH rfl (by assumption) ?_ | refine ed_noH rfl (by assumption) ?_)
      | refine ed_same rfl ?_ | refine ed_one rfl rfl rfl rfl ?_ | refine ed_two rfl rfl rfl rfl rfl rfl rfl ?_ | refine ed_write rfl rfl ?_
      | (refine g_code ?_; first | refine ec_seq ?_ | refine ec_region ?_ | refine ec_draw ?_ | refine ec_ret ?_)
      | refine ek_seqN ?_ | refine ek_seqR ?_)
    refine sfin (.inr rfl) (by rfl) (by rfl) (by exact ⟨rfl, rfl, rfl⟩) (by rfl) (by rfl) (by exact congrArg V.bool (by simp [isFn, h1])) (by first | rfl | (simp; done) | (simp [ints, prs]; done))
  · have h2 : decide (0 ≤ p ∧ p ≤ 4) = false := decide_eq_false h1
    refine has30.eev rfl rfl ?_
    unfold m30
    repeat' (first
      | (refine g_op ?_; first
        | refine ep_mov rfl ?_ | refine ep_load1 rfl rfl rfl rfl ?_ | refine ep_fieldAddr rfl ?_
        | refine ep_call0 rfl (by first | exact ev49 _ | exact ev51 _ _ _) rfl rfl ?_
        | refine sp_call rfl rfl rfl rfl (by first | exact ev49 _ | exact ev51 _ _ _) ⟨rfl, rfl, rfl, rfl⟩ rfl rfl rfl ?_
        | refine ep_bin rfl rfl (by first | exact b_add (by omega) (by omega) | exact b_sub (by omega) (by omega) | exact b_and (by omega) (by omega) | exact b_or (by omega) (by omega) | exact b_shr (by omega) | exact b_shl (by omega) (by omega) | rfl) ?_
        | refine ep_pickT rfl rfl ?_ | refine ep_pickF rfl rfl ?_ | refine ep_pickTH rfl (by assumption) rfl ?_ | refine ep_pickFH rfl (by assumption) rfl ?_ | refine sp_box rfl rfl rfl rfl rfl ?_)
      | (refine g_ops ?_; first | refine eo_none ?_ | refine eo_nil ?_ | refine eo_yes rfl ?_ | refine eo_no rfl ?_ | refine eo_und rfl ?_ | refine eo_yesH rfl (by assumption) ?_ | refine eo_noH rfl (by assumption) ?_)
      | (refine g_dops ?_; first | refine ed_none ?_ | refine ed_nil ?_ | refine ed_yes rfl ?_ | refine ed_no rfl ?_ | refine ed_und rfl ?_ | refine ed_yesH rfl (by assumption) ?_ | refine ed_noH rfl (by assumption) ?_)
      | refine ed_same rfl ?_ | refine ed_one rfl rfl rfl rfl ?_ | refine ed_two rfl rfl rfl rfl rfl rfl rfl ?_ | refine ed_write rfl rfl ?_
      | (refine g_code ?_; first | refine ec_seq ?_ | refine ec_region ?_ | refine ec_draw ?_ | refine ec_ret ?_)
      | refine ek_seqN ?_ | refine ek_seqR ?_)
    refine sfin (.inr rfl) (by rfl) (by rfl) (by exact ⟨rfl, rfl, rfl⟩) (by rfl) (by rfl) (by exact congrArg V.bool (by simp [isFn, h1])) (by first | rfl | (simp; done) | (simp [ints, prs]; done))
-- spec.l01Is
def m27 : MC := (.seq (.region [⟨(.box (.t 0)), (some 1), none⟩, ⟨(.mov (.k (.bool false))), (some 2), none⟩] false) (.seq (.region [⟨(.fieldAddr 0 (.t 1)), (some 3), none⟩, ⟨(.load none (.t 3)), (some 4), none⟩, ⟨(.call 24 [(.t 4), (.k (.int .i64 0)), (.k (.int .i64 4))]), (some 5), none⟩, ⟨(.mov (.t 5)), (some 6), none⟩, ⟨(.fieldAddr 1 (.t 1)), (some 7), (some (6, true))⟩, ⟨(.load none (.t 7)), (some 8), (some (6, true))⟩, ⟨(.fieldAddr 0 (.t 1)), (some 9), (some (6, true))⟩, ⟨(.load none (.t 9)), (some 10), (some (6, true))⟩, ⟨(.call 48 [(.t 10)]), (some 11), (some (6, true))⟩, ⟨(.call 24 [(.t 8), (.k (.int .i64 0)), (.t 11)]), (some 12), (some (6, true))⟩, ⟨(.pick (.t 6) (.t 12) (.k (.bool false))), (some 13), none⟩, ⟨(.mov (.t 13)), (some 2), none⟩] true) .ret))
theorem has27 : Has cx 27 14 m27 [(.tmp 2)] :=
  ⟨⟨Try.f27, Try.f27.body.getD .skip, by kernel_rfl, by kernel_rfl, by kernel_rfl, by kernel_rfl, by kernel_rfl, by kernel_rfl⟩⟩
theorem ev27 (p t : Int) : Ev cx 27 [.agg [.int .i64 p, .int .i64 t]] [] (.bool (isFn p t)) [] := by
  by_cases h1 : 0 ≤ p ∧ p ≤ 4
  · have h2 : decide (0 ≤ p ∧ p ≤ 4) = true := decide_eq_true h1
    obtain ⟨n, rfl⟩ := Int.eq_ofNat_of_zero_le (show 0 ≤ p by omega)
    have h3 : n ≤ 4 := by omega
    obtain ⟨h4, h5, h6, h7⟩ := shN h3
    refine has27.eev rfl rfl ?_
    unfold m27
    repeat' (first
      | (refine g_op ?_; first
        | refine ep_mov rfl ?_ | refine ep_load1 rfl rfl rfl rfl ?_ | refine ep_fieldAddr rfl ?_
        | refine ep_call0 rfl (by first | exact ev24 _ _ _ | exact ev48 _ h3) rfl rfl ?_
        | refine sp_call rfl rfl rfl rfl (by first | exact ev24 _ _ _ | exact ev48 _ h3) ⟨rfl, rfl, rfl, rfl⟩ rfl rfl rfl ?_
        | refine ep_pickT rfl rfl ?_ | refine ep_pickF rfl rfl ?_ | refine ep_pickTH rfl (by assumption) rfl ?_ | refine ep_pickFH rfl (by assumption) rfl ?_ | refine sp_box rfl rfl rfl rfl rfl ?_)
      | (refine g_ops ?_; first | refine eo_none ?_ | refine eo_nil ?_ | refine eo_yes rfl ?_ | refine eo_no rfl ?_ | refine eo_und rfl ?_ | refine eo_yesH rfl (by assumption) ?_ | refine eo_noH rfl (by assumption) ?_)
      | (refine g_dops ?_; first | refine ed_none ?_ | refine ed_nil ?_ | refine ed_yes rfl ?_ | refine ed_no rfl ?_ | refine ed_und rfl ?_ | refine ed_yesH rfl (by assumption) ?_ | refine ed_noH rfl (by assumption) ?_)
      | refine ed_same rfl ?_ | refine ed_one rfl rfl rfl rfl ?_ | refine ed_two rfl rfl rfl rfl rfl rfl rfl ?_ | refine ed_write rfl rfl ?_
      | (refine g_code ?_; first | refine ec_seq ?_ | refine ec_region ?_ | refine ec_draw ?_ | refine ec_ret ?_)
      | refine ek_seqN ?_ | refine ek_seqR ?_)
    refine sfin (.inr rfl) (by rfl) (by rfl) (by exact ⟨rfl, rfl, rfl⟩) (by rfl) (by rfl) (by exact congrArg V.bool (by simp [isFn, h1])) (by first | rfl | (simp; done) | (simp [ints, prs]; done))
  · have h2 : decide (0 ≤ p ∧ p ≤ 4) = false := decide_eq_false h1
    refine has27.eev rfl rfl ?_
    unfold m27
    repeat' (first
      | (refine g_op ?_; first
        | refine ep_mov rfl ?_ | refine ep_load1 rfl rfl rfl rfl ?_ | refine ep_fieldAddr rfl ?_
        | refine ep_call0 rfl (by first | exact ev24 _ _ _) rfl rfl ?_
        | refine sp_call rfl rfl rfl rfl (by first | exact ev24 _ _ _) ⟨rfl, rfl, rfl, rfl⟩ rfl rfl rfl ?_
        | refine ep_pickT rfl rfl ?_ | refine ep_pickF rfl rfl ?_ | refine ep_pickTH rfl (by assumption) rfl ?_ | refine ep_pickFH rfl (by assumption) rfl ?_ | refine sp_box rfl rfl rfl rfl rfl ?_)
      | (refine g_ops ?_; first | refine eo_none ?_ | refine eo_nil ?_ | refine eo_yes rfl ?_ | refine eo_no rfl ?_ | refine eo_und rfl ?_ | refine eo_yesH rfl (by assumption) ?_ | refine eo_noH rfl (by assumption) ?_)
      | (refine g_dops ?_; first | refine ed_none ?_ | refine ed_nil ?_ | refine ed_yes rfl ?_ | refine ed_no rfl ?_ | refine ed_und rfl ?_ | refine ed_yesH rfl (by assumption) ?_ | refine ed_noH rfl (by assumption) ?_)
      | refine ed_same rfl ?_ | refine ed_one rfl rfl rfl rfl ?_ | refine ed_two rfl rfl rfl rfl rfl rfl rfl ?_ | refine ed_write rfl rfl ?_
      | (refine g_code ?_; first | refine ec_seq ?_ | refine ec_region ?_ | refine ec_draw ?_ | refine ec_ret ?_)
      | refine ek_seqN ?_ | refine ek_seqR ?_)
    refine sfin (.inr rfl) (by rfl) (by rfl) (by exact ⟨rfl, rfl, rfl⟩) (by rfl) (by rfl) (by exact congrArg V.bool (by simp [isFn, h1])) (by first | rfl | (simp; done) | (simp [ints, prs]; done))
-- laws.toFunc
def m12 : MC := (.seq (.region [⟨(.box (.t 0)), (some 1), none⟩, ⟨(.alloc [(.int .i64 0), (.int .i64 0)]), (some 2), none⟩] false) (.seq (.region [⟨(.alloc [(.int .i64 0), (.int .i64 0)]), (some 3), none⟩] false) (.seq (.region [⟨(.fieldAddr 0 (.t 1)), (some 4), none⟩, ⟨(.load none (.t 4)), (some 5), none⟩, ⟨(.fieldAddr 0 (.t 3)), (some 6), none⟩, ⟨(.store 1 (.t 6) (.t 5)), none, none⟩] false) (.seq (.region [⟨(.fieldAddr 1 (.t 1)), (some 7), none⟩, ⟨(.load none (.t 7)), (some 8), none⟩, ⟨(.fieldAddr 1 (.t 3)), (some 9), none⟩, ⟨(.store 1 (.t 9) (.t 8)), none, none⟩] false) (.seq (.region [⟨(.load (some 2) (.t 3)), (some 10), none⟩, ⟨(.store 2 (.t 2) (.t 10)), none, none⟩] false) .ret)))))
theorem has12 : Has cx 12 11 m12 [(.cell 2 (some 2))] :=
  ⟨⟨Try.f12, Try.f12.body.getD .skip, by kernel_rfl, by kernel_rfl, by kernel_rfl, by kernel_rfl, by kernel_rfl, by kernel_rfl⟩⟩
theorem ev12 (a b : Int) : Ev cx 12 [.agg [.int .i64 a, .int .i64 b]] [] (.agg [.int .i64 a, .int .i64 b]) [] := by
  refine has12.eev rfl rfl ?_
  unfold m12
  repeat' (first
    | (refine g_op ?_; first
      | refine ep_load1 rfl rfl rfl rfl ?_ | refine ep_fieldAddr rfl ?_ | refine sp_loadN rfl rfl rfl rfl rfl ?_
      | refine sp_store rfl rfl rfl rfl rfl rfl rfl rfl rfl rfl ?_ | refine sp_box rfl rfl rfl rfl rfl ?_ | refine sp_alloc rfl rfl ?_)
    | (refine g_ops ?_; first | refine eo_none ?_ | refine eo_nil ?_)
    | (refine g_code ?_; first | refine ec_seq ?_ | refine ec_region ?_ | refine ec_ret ?_)
    | refine ek_seqN ?_ | refine ek_seqR ?_)
  refine sfin (.inr rfl) (by rfl) (by rfl) (by exact ⟨rfl, rfl, rfl⟩) (by rfl) (by rfl) (by rfl) (by first | rfl | (simp; done) | (simp [ints, prs]; done))
-- spec.l01At
def m29 : MC := (.seq (.region [⟨(.box (.t 0)), (some 2), none⟩, ⟨(.mov (.k (.int .i64 0))), (some 4), none⟩] false) (.seq (.region [⟨(.fieldAddr 1 (.t 2)), (some 5), none⟩, ⟨(.load none (.t 5)), (some 6), none⟩, ⟨(.mov (.t 1)), (some 7), none⟩, ⟨(.conv .u64 (.t 7)), (some 8), none⟩, ⟨(.bin .shr (.t 6) (.t 8)), (some 9), none⟩, ⟨(.bin .and (.t 9) (.k (.int .i64 1))), (some 10), none⟩, ⟨(.mov (.t 10)), (some 4), none⟩] false) .ret))
theorem has29 : Has cx 29 11 m29 [(.tmp 4)] :=
  ⟨⟨Try.f29, Try.f29.body.getD .skip, by kernel_rfl, by kernel_rfl, by kernel_rfl, by kernel_rfl, by kernel_rfl, by kernel_rfl⟩⟩
theorem ev29 (n : Int) (b r : Nat) (hb : b < 9223372036854775808) (hr : r ≤ 64) : Ev cx 29 [.agg [.int .i64 n, .int .i64 b], .int .i64 r] [] (.int .i64 (bt b r : Nat)) [] := by
  refine has29.eev rfl rfl ?_
  unfold m29
  repeat' (first
    | (refine g_op ?_; first
      | refine ep_mov rfl ?_ | refine ep_load1 rfl rfl rfl rfl ?_ | refine ep_fieldAddr rfl ?_
      | refine ep_bin rfl rfl (by first | exact b_shr hr | exact b_bt hb | exact b_add (by omega) (by omega) | exact b_sub (by omega) (by omega) | exact b_and (by omega) (by omega) | exact b_or (by omega) (by omega) | exact b_shr (by omega) | exact b_shl (by omega) (by omega) | rfl) ?_
      | refine ep_conv rfl (by first | exact w_u64 (by omega) (by omega) | exact wrap_id (by omega) (by omega) | rfl) ?_ | refine sp_box rfl rfl rfl rfl rfl ?_)
    | (refine g_ops ?_; first | refine eo_none ?_ | refine eo_nil ?_)
    | (refine g_code ?_; first | refine ec_seq ?_ | refine ec_region ?_ | refine ec_ret ?_)
    | refine ek_seqN ?_ | refine ek_seqR ?_)
  refine sfin (.inr rfl) (by rfl) (by rfl) (by exact ⟨rfl, rfl, rfl⟩) (by rfl) (by rfl) (by rfl) (by first | rfl | (simp; done) | (simp [ints, prs]; done))
def monoR (p t : Int) : Bool × Int := if isFn p t = true then (monoB p.toNat t.toNat, 0) else (false, 1)
def strP (b i j r : Nat) : Bool := !(decide (bt r i = 0) && decide (bt r j = 0) && decide (bt b (r ||| R2 i) < bt b (r ||| R2 j)))
def strB (n b i j : Nat) : Bool := allF (strP b i j) 0 (R2 n)
theorem and_R2 (r i : Nat) : (r &&& R2 i = 0) ↔ bt r i = 0 := by
  have h2 : bt r i = 0 ↔ r.testBit i = false := by
    unfold bt
    rw [Nat.testBit_eq_decide_div_mod_eq, Nat.shiftRight_eq_div_pow, Nat.and_one_is_mod]
    simp only [decide_eq_false_iff_not]
    omega
  rw [h2]
  unfold R2
  constructor
  · intro h
    have := congrArg (fun x => x.testBit i) h
    simpa [Nat.testBit_and, Nat.testBit_two_pow_self] using this
  · intro h
    apply Nat.eq_of_testBit_eq
    intro k
    rw [Nat.testBit_and, Nat.testBit_two_pow, Nat.zero_testBit]
    by_cases e : i = k
    · subst e; simp [h]
    · simp [e]
def strR (p t i j : Int) : Bool × Int := if isFn p t = true then (if (0 ≤ i ∧ i ≤ p - 1) ∧ (0 ≤ j ∧ j ≤ p - 1) then (strB p.toNat t.toNat i.toNat j.toNat, 0) else (false, 2)) else (false, 1)
def ints (l : List Nat) : List V := l.map fun (x : Nat) => .int .i64 (x : Int)
def zints (l : List Int) : List V := l.map fun x => .int .i64 x
def prs (n : Nat) (l : List Nat) : List V := l.flatMap fun (b : Nat) => [.int .i64 n, .int .i64 b]
theorem ints_len (l : List Nat) : (ints l).length = l.length * 1 := by simp [ints]
theorem zints_len (l : List Int) : (zints l).length = l.length * 1 := by simp [zints]
theorem prs_len (n : Nat) : ∀ (l : List Nat), (prs n l).length = l.length * 2
  | [] => rfl
  | x :: xs => by have := prs_len n xs; simp [prs] at this ⊢; omega
def selm (p : Nat → Bool) (g : Nat → Nat) (n : Nat) : List Nat := ((List.range n).filter p).map g
theorem selm_t {p : Nat → Bool} {g : Nat → Nat} {i : Nat} (h : p i = true) : selm p g (i + 1) = selm p g i ++ [g i] := by
  simp [selm, List.range_succ, List.filter_append, h]
theorem selm_f {p : Nat → Bool} {g : Nat → Nat} {i : Nat} (h : p i = false) : selm p g (i + 1) = selm p g i := by
  simp [selm, List.range_succ, List.filter_append, h]
theorem selm_len (p : Nat → Bool) (g : Nat → Nat) : ∀ n, (selm p g n).length ≤ n
  | 0 => by simp [selm]
  | n + 1 => by
    have := selm_len p g n
    cases h : p n with
    | true => rw [selm_t h]; simp; omega
    | false => rw [selm_f h]; omega
theorem selm_congr {p q : Nat → Bool} {g h : Nat → Nat} : ∀ (n : Nat), (∀ i, i < n → p i = q i ∧ (p i = true → g i = h i)) → selm p g n = selm q h n
  | 0, _ => rfl
  | n + 1, hh => by
    have ih := selm_congr n fun i hi => hh i (by omega)
    obtain ⟨h1, h2⟩ := hh n (by omega)
    cases hp : p n with
    | true => rw [selm_t hp, selm_t (by rw [← h1]; exact hp), ih, h2 hp]
    | false => rw [selm_f hp, selm_f (by rw [← h1]; exact hp), ih]
abbrev idn : Nat → Nat := fun i => i
def monoL (n : Nat) : List Nat := selm (monoB n) idn (R2 (R2 n))
theorem bt_tb (b r : Nat) : bt b r = (b.testBit r).toNat := by
  unfold bt
  rw [Nat.testBit, Nat.and_comm]
  have : 1 &&& b >>> r = (b >>> r) % 2 := by rw [Nat.and_comm, Nat.and_one_is_mod]
  rw [this]
  have := Nat.mod_two_eq_zero_or_one (b >>> r)
  rcases this with h | h <;> rw [h] <;> rfl
def pk (g : Nat → Nat) : Nat → Nat
  | 0 => 0
  | n + 1 => pk g n ||| (g n <<< n)
theorem pk_tb {g : Nat → Nat} : ∀ {n : Nat}, (∀ r, r < n → g r ≤ 1) → ∀ r, (pk g n).testBit r = (decide (r < n) && decide (g r = 1))
  | 0, _, r => by simp [pk]
  | n + 1, h, r => by
    rw [pk, Nat.testBit_or, pk_tb (fun r hr => h r (by omega)), Nat.testBit_shiftLeft]
    have hn := h n (by omega)
    by_cases e : r = n
    · subst e
      have : g r = 0 ∨ g r = 1 := by omega
      rcases this with h | h <;> simp [h]
    · by_cases hl : r < n
      · have : ¬ n ≤ r := by omega
        have : r < n + 1 := by omega
        simp [*]
      · have h1 : n ≤ r := by omega
        have h2 : ¬ r < n + 1 := by omega
        simp only [hl, h1, h2, decide_false, Bool.false_and, Bool.false_or, ge_iff_le, decide_true, Bool.true_and]
        exact Nat.testBit_lt_two_pow (Nat.lt_of_le_of_lt hn (Nat.one_lt_two_pow (by omega)))
theorem lt_R2 {x n : Nat} (h : ∀ r, n ≤ r → x.testBit r = false) : x < R2 n := by
  unfold R2; exact Nat.lt_pow_two_of_testBit x fun i hi => h i hi
theorem pk_lt {g : Nat → Nat} {n : Nat} (h : ∀ r, r < n → g r ≤ 1) : pk g n < R2 n := by
  refine lt_R2 fun r hr => ?_
  rw [pk_tb h]; have : ¬ r < n := by omega
  simp [this]
theorem sl_lt {x i m : Nat} (hx : x ≤ 1) (hi : i < m) : x <<< i < R2 m := by
  rw [Nat.shiftLeft_eq]; unfold R2
  have h1 : 2 ^ i < 2 ^ m := Nat.pow_lt_pow_right (by omega) hi
  have h2 : x * 2 ^ i ≤ 1 * 2 ^ i := Nat.mul_le_mul_right _ hx
  omega
theorem R2_mono {i n : Nat} (h : i ≤ n) : R2 i ≤ R2 n := by unfold R2; exact Nat.pow_le_pow_right (by omega) h
theorem tb_ge {x n r : Nat} (h : x < R2 n) (hr : n ≤ r) : x.testBit r = false := by
  unfold R2 at h
  exact Nat.testBit_lt_two_pow (Nat.lt_of_lt_of_le h (Nat.pow_le_pow_right (by omega) hr))
theorem ext_bt {x y n : Nat} (hx : x < R2 n) (hy : y < R2 n) (h : ∀ r, r < n → bt x r = bt y r) : x = y := by
  apply Nat.eq_of_testBit_eq
  intro r
  by_cases hr : r < n
  · have := h r hr
    rw [bt_tb, bt_tb] at this
    revert this; cases x.testBit r <;> cases y.testBit r <;> simp
  · rw [tb_ge hx (by omega), tb_ge hy (by omega)]
theorem bt_pk {g : Nat → Nat} {n : Nat} (h : ∀ r, r < n → g r ≤ 1) {r : Nat} (hr : r < n) : bt (pk g n) r = g r := by
  rw [bt_tb, pk_tb h]
  have := h r hr
  have : g r = 0 ∨ g r = 1 := by omega
  rcases this with h | h <;> simp [h, hr]
theorem pk_add {g : Nat → Nat} {n : Nat} (h : ∀ r, r < n → g r ≤ 1) : pk g n + (g n <<< n) = pk g (n + 1) := by
  have hl := pk_lt h
  rw [pk, Nat.or_comm, Nat.shiftLeft_eq, Nat.add_comm]
  unfold R2 at hl
  rw [Nat.mul_comm (g n), Nat.two_pow_add_eq_or_of_lt hl]
theorem pk_congr {g h : Nat → Nat} : ∀ {n : Nat}, (∀ r, r < n → g r = h r) → pk g n = pk h n
  | 0, _ => rfl
  | n + 1, hh => by rw [pk, pk, pk_congr fun r hr => hh r (by omega), hh n (by omega)]
theorem pk_self {b n : Nat} (h : b < R2 n) : pk (bt b) n = b :=
  ext_bt (pk_lt fun r _ => bt_le b r) h fun r hr => bt_pk (fun r _ => bt_le b r) hr
def bn (P : Nat → Bool) (t : Nat) : Nat := if P t then 1 else 0
theorem bn_le (P : Nat → Bool) (t : Nat) : bn P t ≤ 1 := by unfold bn; split <;> omega
/-- A set of numbers as bits. -/
def orA (h : Nat → Nat) : Nat → Nat
  | 0 => 0
  | n + 1 => orA h n ||| R2 (h n)
theorem R2_tb (a t : Nat) : (R2 a).testBit t = decide (a = t) := by unfold R2; rw [Nat.testBit_two_pow]
theorem orA_tb (h : Nat → Nat) : ∀ (n t : Nat), (orA h n).testBit t = decide (∃ r, r < n ∧ h r = t)
  | 0, t => by simp [orA]
  | n + 1, t => by
    rw [orA, Nat.testBit_or, orA_tb h n, R2_tb, ← Bool.decide_or]
    apply decide_eq_decide.mpr
    constructor
    · rintro (⟨r, h1, h2⟩ | h)
      · exact ⟨r, by omega, h2⟩
      · exact ⟨n, by omega, h⟩
    · rintro ⟨r, h1, h2⟩
      by_cases e : r = n
      · subst e; exact .inr h2
      · exact .inl ⟨r, by omega, h2⟩
theorem orA_lt {h : Nat → Nat} {n m : Nat} (hh : ∀ r, r < n → h r < m) : orA h n < R2 m := by
  refine lt_R2 fun t ht => ?_
  rw [orA_tb]; simp only [decide_eq_false_iff_not]
  rintro ⟨r, h1, h2⟩
  have := hh r h1; omega
theorem orA_eq {h : Nat → Nat} {n m : Nat} {P : Nat → Bool} (hh : ∀ r, r < n → h r < m) (hp : ∀ t, t < m → (P t = true ↔ ∃ r, r < n ∧ h r = t)) : orA h n = pk (bn P) m := by
  apply Nat.eq_of_testBit_eq
  intro t
  rw [orA_tb, pk_tb fun r _ => bn_le P r]
  by_cases ht : t < m
  · simp only [ht, decide_true, Bool.true_and]
    apply decide_eq_decide.mpr
    rw [← hp t ht]; unfold bn
    cases P t <;> simp
  · simp only [ht, decide_false, Bool.false_and, decide_eq_false_iff_not]
    rintro ⟨r, h1, h2⟩
    have := hh r h1; omega

-- impl.one
def m55 : MC := (.seq (.region [⟨(.mov (.k (.int .i64 0))), (some 2), none⟩] false) (.seq (.seq (.region [⟨(.mov (.t 0)), (some 3), none⟩] false) (.cond (.t 3) (.seq (.region [⟨(.mov (.k (.int .i64 1))), (some 2), none⟩] false) .ret) .skip)) (.seq (.region [⟨(.mov (.k (.int .i64 0))), (some 2), none⟩] false) .ret)))
theorem has55 : Has cx 55 4 m55 [(.tmp 2)] :=
  ⟨⟨Try.f55, Try.f55.body.getD .skip, by kernel_rfl, by kernel_rfl, by kernel_rfl, by kernel_rfl, by kernel_rfl, by kernel_rfl⟩⟩
theorem ev55 (b : Bool) : Ev cx 55 [.bool b] [] (.int .i64 ((if b then 1 else 0 : Nat) : Int)) [] := by
  cases b
  · refine has55.eev rfl rfl ?_
    unfold m55
    repeat' (first
      | (refine g_op ?_; first
        | refine ep_mov rfl ?_)
      | (refine g_ops ?_; first | refine eo_none ?_ | refine eo_nil ?_)
      | (refine g_code ?_; first | refine ec_seq ?_ | refine ec_region ?_ | refine ec_skip ?_ | refine ec_ret ?_ | refine ec_condT rfl ?_ | refine ec_condF rfl ?_ | refine ec_condTH rfl (by assumption) ?_ | refine ec_condFH rfl (by assumption) ?_)
      | refine ek_seqN ?_ | refine ek_seqR ?_)
    refine sfin (.inr rfl) (by rfl) (by rfl) (by exact ⟨rfl, rfl, rfl⟩) (by rfl) (by rfl) (by rfl) (by first | rfl | (simp; done) | (simp [ints, prs]; done))
  · refine has55.eev rfl rfl ?_
    unfold m55
    repeat' (first
      | (refine g_op ?_; first
        | refine ep_mov rfl ?_)
      | (refine g_ops ?_; first | refine eo_none ?_ | refine eo_nil ?_)
      | (refine g_code ?_; first | refine ec_seq ?_ | refine ec_region ?_ | refine ec_skip ?_ | refine ec_ret ?_ | refine ec_condT rfl ?_ | refine ec_condF rfl ?_ | refine ec_condTH rfl (by assumption) ?_ | refine ec_condFH rfl (by assumption) ?_)
      | refine ek_seqN ?_ | refine ek_seqR ?_)
    refine sfin (.inr rfl) (by rfl) (by rfl) (by exact ⟨rfl, rfl, rfl⟩) (by rfl) (by rfl) (by rfl) (by first | rfl | (simp; done) | (simp [ints, prs]; done))
-- impl.funcBy
def m53_0 : MC := (.seq (.region [⟨(.bin .lss (.t 11) (.t 10)), (some 12), none⟩] false) (.seq (.cond (.t 12) .skip (.exit 0)) (.seq (.block 1 (.seq (.region [⟨(.mov (.t 11)), (some 13), none⟩, ⟨(.mov (.t 13)), (some 6), none⟩] false) (.region [⟨(.fieldAddr 1 (.t 5)), (some 14), none⟩, ⟨(.load none (.t 14)), (some 15), none⟩, ⟨(.mov (.t 1)), (some 16), none⟩, ⟨(.mov (.t 6)), (some 17), none⟩, ⟨(.callv (.t 16) [(.t 17)]), (some 18), none⟩, ⟨(.mov (.t 6)), (some 19), none⟩, ⟨(.bin .shl (.t 18) (.t 19)), (some 20), none⟩, ⟨(.bin .or (.t 15) (.t 20)), (some 21), none⟩, ⟨(.fieldAddr 1 (.t 5)), (some 22), none⟩, ⟨(.store 1 (.t 22) (.t 21)), none, none⟩] true))) (.region [⟨(.bin .add (.t 11) (.k (.int .i64 1))), (some 23), none⟩, ⟨(.mov (.t 23)), (some 11), none⟩] false))))
def m53 : MC := (.seq (.region [⟨(.alloc [(.int .i64 0), (.int .i64 0)]), (some 4), none⟩] false) (.seq (.region [⟨(.mov (.t 0)), (some 7), none⟩, ⟨(.build [(.int .i64 0), (.int .i64 0)] [(0, (1, (.t 7)))]), (some 8), none⟩, ⟨(.alloc [(.int .i64 0), (.int .i64 0)]), (some 5), none⟩, ⟨(.store 2 (.t 5) (.t 8)), none, none⟩] false) (.seq (.seq (.region [⟨(.mov (.t 0)), (some 9), none⟩, ⟨(.call 41 [(.t 9)]), (some 10), none⟩, ⟨(.mov (.k (.int .i64 0))), (some 11), none⟩] false) (.block 0 (.loop m53_0))) (.seq (.region [⟨(.load (some 2) (.t 5)), (some 24), none⟩, ⟨(.store 2 (.t 4) (.t 24)), none, none⟩] false) .ret))))
theorem has53 : Has cx 53 25 m53 [(.cell 4 (some 2))] :=
  ⟨⟨Try.f53, Try.f53.body.getD .skip, by kernel_rfl, by kernel_rfl, by kernel_rfl, by kernel_rfl, by kernel_rfl, by kernel_rfl⟩⟩

-- impl.relationBy$1
def m54 : MC := (.seq (.region [⟨(.mov (.k (.int .i64 0))), (some 3), none⟩] false) (.seq (.region [⟨(.load none (.t 1)), (some 4), none⟩, ⟨(.mov (.t 0)), (some 5), none⟩, ⟨(.callv (.t 4) [(.t 5)]), (some 6), none⟩, ⟨(.call 55 [(.t 6)]), (some 7), none⟩, ⟨(.mov (.t 7)), (some 3), none⟩] false) .ret))
theorem has54 : Has cx 54 8 m54 [(.tmp 3)] :=
  ⟨⟨Try.f54, Try.f54.body.getD .skip, by kernel_rfl, by kernel_rfl, by kernel_rfl, by kernel_rfl, by kernel_rfl, by kernel_rfl⟩⟩

-- impl.relationBy
def m31 : MC := (.seq (.region [⟨(.box (.t 1)), (some 3), none⟩, ⟨(.alloc [(.int .i64 0), (.int .i64 0)]), (some 4), none⟩] false) (.seq (.region [⟨(.mov (.t 0)), (some 5), none⟩, ⟨(.mov (.t 0)), (some 6), none⟩, ⟨(.mkfn 54 [(.t 3)]), (some 7), none⟩, ⟨(.call 53 [(.t 6), (.t 7)]), (some 8), none⟩, ⟨(.field 1 none (.t 8)), (some 9), none⟩, ⟨(.build [(.int .i64 0), (.int .i64 0)] [(0, (1, (.t 5))), (1, (1, (.t 9)))]), (some 10), none⟩, ⟨(.store 2 (.t 4) (.t 10)), none, none⟩] false) .ret))
theorem has31 : Has cx 31 11 m31 [(.cell 4 (some 2))] :=
  ⟨⟨Try.f31, Try.f31.body.getD .skip, by kernel_rfl, by kernel_rfl, by kernel_rfl, by kernel_rfl, by kernel_rfl, by kernel_rfl⟩⟩

def graphP (n b t : Nat) : Bool := ((bt b (t &&& (R2 n - 1)) : Nat) : Int) == ((t >>> n : Nat) : Int)
theorem and_m1 {n : Nat} (t : Nat) : t &&& (R2 n - 1) = t % R2 n := by unfold R2; exact Nat.and_two_pow_sub_one_eq_mod t n
theorem R2_pos (n : Nat) : 1 ≤ R2 n := by unfold R2; exact Nat.one_le_two_pow
-- impl.GraphOf$1
def m32 : MC := (.seq (.region [⟨(.mov (.k (.bool false))), (some 3), none⟩] false) (.seq (.region [⟨(.load (some 2) (.t 1)), (some 4), none⟩, ⟨(.mov (.t 0)), (some 5), none⟩, ⟨(.load (some 2) (.t 1)), (some 6), none⟩, ⟨(.call 34 [(.t 6)]), (some 7), none⟩, ⟨(.bin .sub (.t 7) (.k (.int .i64 1))), (some 8), none⟩, ⟨(.bin .and (.t 5) (.t 8)), (some 9), none⟩, ⟨(.call 33 [(.t 4), (.t 9)]), (some 10), none⟩, ⟨(.mov (.t 0)), (some 11), none⟩, ⟨(.fieldAddr 0 (.t 1)), (some 12), none⟩, ⟨(.load none (.t 12)), (some 13), none⟩, ⟨(.bin .shr (.t 11) (.t 13)), (some 14), none⟩, ⟨(.bin .eql (.t 10) (.t 14)), (some 15), none⟩, ⟨(.mov (.t 15)), (some 3), none⟩] true) .ret))
theorem has32 : Has cx 32 16 m32 [(.tmp 3)] :=
  ⟨⟨Try.f32, Try.f32.body.getD .skip, by kernel_rfl, by kernel_rfl, by kernel_rfl, by kernel_rfl, by kernel_rfl, by kernel_rfl⟩⟩
theorem ev32 (n b t : Nat) (hn : n ≤ 4) (hb : b < 65536) (ht : t < 65536) : Ev cx 32 [.int .i64 t, .ptr 0 0] [⟨[.int .i64 n, .int .i64 b], 1, 0, some 0, true⟩] (.bool (graphP n b t)) [⟨[.int .i64 n, .int .i64 b], 1, 0, some 0, true⟩] := by
  obtain ⟨h1, h2, h3, h4⟩ := shN hn
  have h5 : t &&& (R2 n - 1) < R2 n := by rw [and_m1]; exact Nat.mod_lt _ h3
  refine has32.eev rfl rfl ?_
  unfold m32
  repeat' (first
    | (refine g_op ?_; first
      | refine ep_mov rfl ?_ | refine ep_load1 rfl rfl rfl rfl ?_ | refine ep_fieldAddr rfl ?_ | refine sp_loadN rfl rfl rfl rfl rfl ?_
      | refine ep_call0 rfl (by first | exact ev34 _ _ hn | exact ev33 _ _ _ (by omega) (by omega)) rfl rfl ?_
      | refine sp_call rfl rfl rfl rfl (by first | exact ev34 _ _ hn | exact ev33 _ _ _ (by omega) (by omega)) ⟨rfl, rfl, rfl, rfl⟩ rfl rfl rfl ?_
      | refine ep_bin rfl rfl (by first | exact b_sub1 (by omega) (by omega) | exact b_shr (by omega) | exact b_add (by omega) (by omega) | exact b_sub (by omega) (by omega) | exact b_and (by omega) (by omega) | exact b_or (by omega) (by omega) | exact b_shr (by omega) | exact b_shl (by omega) (by omega) | rfl) ?_)
    | (refine g_ops ?_; first | refine eo_none ?_ | refine eo_nil ?_)
    | (refine g_dops ?_; first | refine ed_none ?_ | refine ed_nil ?_)
    | refine ed_same rfl ?_ | refine ed_one rfl rfl rfl rfl ?_ | refine ed_two rfl rfl rfl rfl rfl rfl rfl ?_ | refine ed_write rfl rfl ?_
    | (refine g_code ?_; first | refine ec_seq ?_ | refine ec_region ?_ | refine ec_draw ?_ | refine ec_ret ?_)
    | refine ek_seqN ?_ | refine ek_seqR ?_)
  refine sfin (.inr rfl) (by rfl) (by rfl) (by exact ⟨rfl, rfl, rfl⟩) (by rfl) (by rfl) (by rfl) (by first | rfl | (simp; done) | (simp [ints, prs]; done))
theorem evr1_graph (n b : Nat) (hn0 : n ≤ 3) (hn : n + 1 ≤ 4) (hb : b < 65536) (i : Nat) (hi : i < R2 (n + 1)) : Ev cx 54 [.int .i64 i, .ptr 0 0] [⟨[.fn 32 [.ptr 1 0]], 1, 0, some 0, true⟩, ⟨[.int .i64 n, .int .i64 b], 1, 1, some 0, true⟩] (.int .i64 (bn (graphP n b) i : Nat)) [⟨[.fn 32 [.ptr 1 0]], 1, 0, some 0, true⟩, ⟨[.int .i64 n, .int .i64 b], 1, 1, some 0, true⟩] := by
  have e1 := ev32 n b i (by omega) hb (by obtain ⟨h1, h2, h3, h4⟩ := shN hn; omega)
  refine has54.eev rfl rfl ?_
  unfold m54
  repeat' (first
    | (refine g_op ?_; first
      | refine ep_mov rfl ?_ | refine ep_load1 rfl rfl rfl rfl ?_
      | refine ep_call0 rfl (by first | exact e1 | exact ev55 _) rfl rfl ?_
      | refine sp_call rfl rfl rfl rfl (by first | exact e1 | exact ev55 _) ⟨rfl, rfl, rfl, rfl⟩ rfl rfl rfl ?_
      | refine sp_callv rfl rfl rfl rfl rfl rfl (by first | exact e1 | exact ev55 _) ⟨rfl, rfl, rfl, rfl⟩ rfl rfl rfl ?_)
    | (refine g_ops ?_; first | refine eo_none ?_ | refine eo_nil ?_)
    | (refine g_code ?_; first | refine ec_seq ?_ | refine ec_region ?_ | refine ec_ret ?_)
    | refine ek_seqN ?_ | refine ek_seqR ?_)
  refine sfin (.inr rfl) (by rfl) (by rfl) (by exact ⟨rfl, rfl, rfl⟩) (by rfl) (by rfl) (by rfl) (by first | rfl | (simp; done) | (simp [ints, prs]; done))
theorem lpfb_rgraph (n b : Nat) (hn0 : n ≤ 3) (hn : n + 1 ≤ 4) (hb : b < 65536) :
    LpS cx 25 2 m53_0 [(1, .fn 54 [.ptr 0 0]), (4, .ptr 2 0), (5, .ptr 3 0), (10, .int .i64 (R2 (n + 1) : Nat)), (11, .int .i64 (0 : Nat))] [⟨[.fn 32 [.ptr 1 0]], 1, 0, some 0, true⟩, ⟨[.int .i64 n, .int .i64 b], 1, 1, some 0, true⟩, ⟨[.int .i64 0, .int .i64 0], 1, 2, some 0, true⟩, ⟨[.int .i64 (n + 1 : Nat), .int .i64 (pk (bn (graphP n b)) (0) : Nat)], 1, 3, some 0, true⟩] (⟨.exit 0, [(4, .ptr 2 0), (5, .ptr 3 0)], [⟨[.fn 32 [.ptr 1 0]], 1, 0, some 0, true⟩, ⟨[.int .i64 n, .int .i64 b], 1, 1, some 0, true⟩, ⟨[.int .i64 0, .int .i64 0], 1, 2, some 0, true⟩, ⟨[.int .i64 (n + 1 : Nat), .int .i64 (pk (bn (graphP n b)) (R2 (n + 1)) : Nat)], 1, 3, some 0, true⟩]⟩ : Out).x (⟨.exit 0, [(4, .ptr 2 0), (5, .ptr 3 0)], [⟨[.fn 32 [.ptr 1 0]], 1, 0, some 0, true⟩, ⟨[.int .i64 n, .int .i64 b], 1, 1, some 0, true⟩, ⟨[.int .i64 0, .int .i64 0], 1, 2, some 0, true⟩, ⟨[.int .i64 (n + 1 : Nat), .int .i64 (pk (bn (graphP n b)) (R2 (n + 1)) : Nat)], 1, 3, some 0, true⟩]⟩ : Out).e (⟨.exit 0, [(4, .ptr 2 0), (5, .ptr 3 0)], [⟨[.fn 32 [.ptr 1 0]], 1, 0, some 0, true⟩, ⟨[.int .i64 n, .int .i64 b], 1, 1, some 0, true⟩, ⟨[.int .i64 0, .int .i64 0], 1, 2, some 0, true⟩, ⟨[.int .i64 (n + 1 : Nat), .int .i64 (pk (bn (graphP n b)) (R2 (n + 1)) : Nat)], 1, 3, some 0, true⟩]⟩ : Out).h := by
  obtain ⟨h1, h2, h3, h4⟩ := shN hn
  have hgl : ∀ r, r < R2 (n + 1) → (bn (graphP n b)) r ≤ 1 := fun r _ => bn_le _ r
  refine lp_st (R2 (n + 1)) (fun _ => ()) (fun i _ => [(1, .fn 54 [.ptr 0 0]), (4, .ptr 2 0), (5, .ptr 3 0), (10, .int .i64 (R2 (n + 1) : Nat)), (11, .int .i64 (i : Nat))]) (fun i _ => [⟨[.fn 32 [.ptr 1 0]], 1, 0, some 0, true⟩, ⟨[.int .i64 n, .int .i64 b], 1, 1, some 0, true⟩, ⟨[.int .i64 0, .int .i64 0], 1, 2, some 0, true⟩, ⟨[.int .i64 (n + 1 : Nat), .int .i64 (pk (bn (graphP n b)) (i) : Nat)], 1, 3, some 0, true⟩]) (fun _ => (⟨.exit 0, [(4, .ptr 2 0), (5, .ptr 3 0)], [⟨[.fn 32 [.ptr 1 0]], 1, 0, some 0, true⟩, ⟨[.int .i64 n, .int .i64 b], 1, 1, some 0, true⟩, ⟨[.int .i64 0, .int .i64 0], 1, 2, some 0, true⟩, ⟨[.int .i64 (n + 1 : Nat), .int .i64 (pk (bn (graphP n b)) (R2 (n + 1)) : Nat)], 1, 3, some 0, true⟩]⟩ : Out)) ?_ ?_ (R2 (n + 1)) 0 (by omega)
  · intro i s hi hs
    refine ⟨(), rfl, ?_⟩
    have hlt : decide ((i : Int) < (R2 (n + 1) : Nat)) = true := decide_eq_true (by omega)
    have hg := hgl i hi
    have hp0 := pk_lt (g := bn (graphP n b)) (n := i) fun r hr => hgl r (by omega)
    have hp1 := R2_mono (i := i) (n := R2 (n + 1)) (by omega)
    have hs := sl_lt hg hi
    have hp2 := or_lt (n := R2 (n + 1)) (show pk (bn (graphP n b)) i < R2 (R2 (n + 1)) by omega) hs
    unfold m53_0
    repeat' (first
      | (refine g_op ?_; first
        | refine ep_mov rfl ?_ | refine ep_load1 rfl rfl rfl rfl ?_ | refine ep_fieldAddr rfl ?_
        | refine sp_callv rfl rfl rfl rfl rfl rfl (by first | exact evr1_graph n b hn0 hn hb i hi) ⟨rfl, rfl, rfl, rfl⟩ rfl rfl rfl ?_
        | refine ep_bin rfl rfl (by first | exact b_add (by omega) (by omega) | exact b_sub (by omega) (by omega) | exact b_and (by omega) (by omega) | exact b_or (by omega) (by omega) | exact b_shr (by omega) | exact b_shl (by omega) (by omega) | rfl) ?_
        | refine sp_store rfl rfl rfl rfl rfl rfl rfl rfl rfl rfl ?_)
      | (refine g_ops ?_; first | refine eo_none ?_ | refine eo_nil ?_)
      | (refine g_dops ?_; first | refine ed_none ?_ | refine ed_nil ?_)
      | refine ed_same rfl ?_ | refine ed_one rfl rfl rfl rfl ?_ | refine ed_two rfl rfl rfl rfl rfl rfl rfl ?_ | refine ed_write rfl rfl ?_
      | (refine g_code ?_; first | refine ec_seq ?_ | refine ec_region ?_ | refine ec_draw ?_ | refine ec_block ?_ | refine ec_skip ?_ | refine ec_exit ?_ | refine ec_condT rfl ?_ | refine ec_condF rfl ?_ | refine ec_condTH rfl (by assumption) ?_ | refine ec_condFH rfl (by assumption) ?_)
      | refine ek_seqN ?_ | refine ek_seqX ?_ | refine ek_blkN ?_ | refine ek_blkR ?_ | refine ek_blkX ?_ | refine ek_blkY rfl ?_)
    exact rnd_on (by rfl) (scmp2 (by rfl) (by rfl) (by exact ⟨rfl, rfl, rfl⟩) (by rfl) (by first | rfl | (simp; done) | (simp [ints, prs]; done)) (by rfl) (by first | rfl | (simp; done) | (simp [ints, prs]; done)))
  · intro s hs
    have hlt : decide (((R2 (n + 1) : Nat) : Int) < (R2 (n + 1) : Nat)) = false := decide_eq_false (by omega)
    unfold m53_0
    repeat' (first
      | (refine g_op ?_; first
        | refine ep_mov rfl ?_ | refine ep_load1 rfl rfl rfl rfl ?_ | refine ep_fieldAddr rfl ?_
        | refine sp_callv rfl rfl rfl rfl rfl rfl (by first | exact evr1_graph n b hn0 hn hb i hi) ⟨rfl, rfl, rfl, rfl⟩ rfl rfl rfl ?_
        | refine ep_bin rfl rfl (by first | exact b_add (by omega) (by omega) | exact b_sub (by omega) (by omega) | exact b_and (by omega) (by omega) | exact b_or (by omega) (by omega) | exact b_shr (by omega) | exact b_shl (by omega) (by omega) | rfl) ?_
        | refine sp_store rfl rfl rfl rfl rfl rfl rfl rfl rfl rfl ?_)
      | (refine g_ops ?_; first | refine eo_none ?_ | refine eo_nil ?_)
      | (refine g_dops ?_; first | refine ed_none ?_ | refine ed_nil ?_)
      | refine ed_same rfl ?_ | refine ed_one rfl rfl rfl rfl ?_ | refine ed_two rfl rfl rfl rfl rfl rfl rfl ?_ | refine ed_write rfl rfl ?_
      | (refine g_code ?_; first | refine ec_seq ?_ | refine ec_region ?_ | refine ec_draw ?_ | refine ec_block ?_ | refine ec_skip ?_ | refine ec_exit ?_ | refine ec_condT rfl ?_ | refine ec_condF rfl ?_ | refine ec_condTH rfl (by assumption) ?_ | refine ec_condFH rfl (by assumption) ?_)
      | refine ek_seqN ?_ | refine ek_seqX ?_ | refine ek_blkN ?_ | refine ek_blkR ?_ | refine ek_blkX ?_ | refine ek_blkY rfl ?_)
    exact rnd_out (by rfl) (by simp) (scmp2 (by rfl) (by rfl) (by exact ⟨rfl, rfl, rfl⟩) (by rfl) (by first | rfl | (simp; done) | (simp [ints, prs]; done)) (by rfl) (by first | rfl | (simp; done) | (simp [ints, prs]; done)))
theorem evfb_rgraph (n b : Nat) (hn0 : n ≤ 3) (hn : n + 1 ≤ 4) (hb : b < 65536) : Ev cx 53 [.int .i64 (n + 1 : Nat), .fn 54 [.ptr 0 0]] [⟨[.fn 32 [.ptr 1 0]], 1, 0, some 0, true⟩, ⟨[.int .i64 n, .int .i64 b], 1, 1, some 0, true⟩] (.agg [.int .i64 (n + 1 : Nat), .int .i64 (pk (bn (graphP n b)) (R2 (n + 1)) : Nat)]) [⟨[.fn 32 [.ptr 1 0]], 1, 0, some 0, true⟩, ⟨[.int .i64 n, .int .i64 b], 1, 1, some 0, true⟩] := by
  obtain ⟨h1, h2, h3, h4⟩ := shN hn
  have lp := lpfb_rgraph n b hn0 hn hb
  refine has53.eev rfl rfl ?_
  unfold m53
  repeat' (first
    | refine sc_loop lp rfl rfl ⟨rfl, rfl, rfl⟩ rfl rfl rfl ?_
    | (refine g_op ?_; first
      | refine ep_mov rfl ?_ | refine sp_loadN rfl rfl rfl rfl rfl ?_
      | refine ep_call0 rfl (by first | exact ev41 _ hn) rfl rfl ?_
      | refine sp_call rfl rfl rfl rfl (by first | exact ev41 _ hn) ⟨rfl, rfl, rfl, rfl⟩ rfl rfl rfl ?_
      | refine sp_store rfl rfl rfl rfl rfl rfl rfl rfl rfl rfl ?_ | refine sp_alloc rfl rfl ?_ | refine sp_build rfl rfl ?_)
    | (refine g_ops ?_; first | refine eo_none ?_ | refine eo_nil ?_)
    | (refine g_code ?_; first | refine ec_seq ?_ | refine ec_region ?_ | refine ec_block ?_ | refine ec_ret ?_)
    | refine ek_seqN ?_ | refine ek_seqX ?_ | refine ek_seqR ?_ | refine ek_blkN ?_ | refine ek_blkR ?_ | refine ek_blkX ?_ | refine ek_blkY rfl ?_)
  refine sfin (.inr rfl) (by rfl) (by rfl) (by exact ⟨rfl, rfl, rfl⟩) (by rfl) (by rfl) (by rfl) (by first | rfl | (simp; done) | (simp [ints, prs]; done))
theorem evr_graph (n b : Nat) (hn0 : n ≤ 3) (hn : n + 1 ≤ 4) (hb : b < 65536) : Ev cx 31 [.int .i64 (n + 1 : Nat), .fn 32 [.ptr 0 0]] [⟨[.int .i64 n, .int .i64 b], 1, 0, some 0, true⟩] (.agg [.int .i64 (n + 1 : Nat), .int .i64 (pk (bn (graphP n b)) (R2 (n + 1)) : Nat)]) [⟨[.int .i64 n, .int .i64 b], 1, 0, some 0, true⟩] := by
  have e1 := evfb_rgraph n b hn0 hn hb
  refine has31.eev rfl rfl ?_
  unfold m31
  repeat' (first
    | (refine g_op ?_; first
      | refine ep_mov rfl ?_
      | refine ep_call0 rfl (by first | exact e1) rfl rfl ?_
      | refine sp_call rfl rfl rfl rfl (by first | exact e1) ⟨rfl, rfl, rfl, rfl⟩ rfl rfl rfl ?_
      | refine sp_store rfl rfl rfl rfl rfl rfl rfl rfl rfl rfl ?_ | refine sp_box rfl rfl rfl rfl rfl ?_ | refine sp_alloc rfl rfl ?_ | refine sp_build rfl rfl ?_ | refine ep_field1 rfl rfl ?_ | refine ep_mkfn rfl ?_)
    | (refine g_ops ?_; first | refine eo_none ?_ | refine eo_nil ?_)
    | (refine g_code ?_; first | refine ec_seq ?_ | refine ec_region ?_ | refine ec_ret ?_)
    | refine ek_seqN ?_ | refine ek_seqR ?_)
  refine sfin (.inr rfl) (by rfl) (by rfl) (by exact ⟨rfl, rfl, rfl⟩) (by rfl) (by rfl) (by rfl) (by first | rfl | (simp; done) | (simp [ints, prs]; done))

def graphR (p t : Int) : RR := if isFn p t = true then (if p = 4 then ⟨0, 0, 3⟩ else ⟨p + 1, (pk (bn (graphP p.toNat t.toNat)) (R2 (p.toNat + 1)) : Nat), 0⟩) else ⟨0, 0, 1⟩
-- impl.GraphOf
def m13 : MC := (.seq (.region [⟨(.box (.t 0)), (some 1), none⟩, ⟨(.alloc [(.int .i64 0), (.int .i64 0)]), (some 2), none⟩, ⟨(.mov (.k (.int .i64 0))), (some 3), none⟩] false) (.seq (.block 0 (.seq (.region [⟨(.load (some 2) (.t 1)), (some 5), none⟩, ⟨(.call 30 [(.t 5)]), (some 6), none⟩, ⟨(.un .not (.t 6)), (some 7), none⟩, ⟨(.mov (.t 7)), (some 4), none⟩] false) (.cond (.t 4) (.seq (.region [⟨(.build [(.int .i64 0), (.int .i64 0)] []), (some 8), none⟩, ⟨(.store 2 (.t 2) (.t 8)), none, none⟩, ⟨(.mov (.k (.int .i64 1))), (some 3), none⟩] false) .ret) (.seq (.region [⟨(.fieldAddr 0 (.t 1)), (some 10), none⟩, ⟨(.load none (.t 10)), (some 11), none⟩, ⟨(.bin .eql (.t 11) (.k (.int .i64 4))), (some 12), none⟩, ⟨(.mov (.t 12)), (some 9), none⟩] false) (.cond (.t 9) (.seq (.region [⟨(.build [(.int .i64 0), (.int .i64 0)] []), (some 13), none⟩, ⟨(.store 2 (.t 2) (.t 13)), none, none⟩, ⟨(.mov (.k (.int .i64 3))), (some 3), none⟩] false) .ret) .skip))))) (.seq (.region [⟨(.fieldAddr 0 (.t 1)), (some 14), none⟩, ⟨(.load none (.t 14)), (some 15), none⟩, ⟨(.bin .add (.t 15) (.k (.int .i64 1))), (some 16), none⟩, ⟨(.mkfn 32 [(.t 1)]), (some 17), none⟩, ⟨(.call 31 [(.t 16), (.t 17)]), (some 18), none⟩, ⟨(.store 2 (.t 2) (.t 18)), none, none⟩, ⟨(.mov (.k (.int .i64 0))), (some 3), none⟩] false) .ret)))
theorem has13 : Has cx 13 19 m13 [(.cell 2 (some 2)), (.tmp 3)] :=
  ⟨⟨Try.f13, Try.f13.body.getD .skip, by kernel_rfl, by kernel_rfl, by kernel_rfl, by kernel_rfl, by kernel_rfl, by kernel_rfl⟩⟩
theorem ev13 (p t : Int) : Ev cx 13 [.agg [.int .i64 p, .int .i64 t]] [] (rr (graphR p t)) [] := by
  have e1 := ev30 p t
  cases h1 : isFn p t
  · rw [h1] at e1
    refine has13.eev rfl rfl ?_
    unfold m13
    repeat' (first
      | (refine g_op ?_; first
        | refine ep_mov rfl ?_ | refine ep_load1 rfl rfl rfl rfl ?_ | refine ep_fieldAddr rfl ?_ | refine sp_loadN rfl rfl rfl rfl rfl ?_
        | refine ep_call0 rfl (by first | exact e1) rfl rfl ?_
        | refine sp_call rfl rfl rfl rfl (by first | exact e1) ⟨rfl, rfl, rfl, rfl⟩ rfl rfl rfl ?_
        | refine ep_bin rfl rfl (by first | exact b_add (by omega) (by omega) | exact b_sub (by omega) (by omega) | exact b_and (by omega) (by omega) | exact b_or (by omega) (by omega) | exact b_shr (by omega) | exact b_shl (by omega) (by omega) | rfl) ?_
        | refine sp_store rfl rfl rfl rfl rfl rfl rfl rfl rfl rfl ?_ | refine ep_not rfl ?_ | refine sp_box rfl rfl rfl rfl rfl ?_ | refine sp_alloc rfl rfl ?_ | refine sp_build rfl rfl ?_ | refine ep_mkfn rfl ?_)
      | (refine g_ops ?_; first | refine eo_none ?_ | refine eo_nil ?_)
      | (refine g_code ?_; first | refine ec_seq ?_ | refine ec_region ?_ | refine ec_block ?_ | refine ec_skip ?_ | refine ec_ret ?_ | refine ec_condT rfl ?_ | refine ec_condF rfl ?_ | refine ec_condTH rfl (by assumption) ?_ | refine ec_condFH rfl (by assumption) ?_)
      | refine ek_seqN ?_ | refine ek_seqR ?_ | refine ek_blkN ?_ | refine ek_blkR ?_ | refine ek_blkX ?_ | refine ek_blkY rfl ?_)
    refine sfin (.inr rfl) (by rfl) (by rfl) (by exact ⟨rfl, rfl, rfl⟩) (by rfl) (by rfl) (by rw [graphR, if_neg (by rw [h1]; simp)]; try rfl) (by first | rfl | (simp; done) | (simp [ints, prs]; done))
  · rw [h1] at e1
    obtain ⟨n, b, rfl, rfl, h2, h3, h4⟩ := isFn_nat h1
    by_cases h5 : (n : Int) = 4
    · have h6 : ((n : Int) == 4) = true := by simp [h5]
      refine has13.eev rfl rfl ?_
      unfold m13
      repeat' (first
        | (refine g_op ?_; first
          | refine ep_mov rfl ?_ | refine ep_load1 rfl rfl rfl rfl ?_ | refine ep_fieldAddr rfl ?_ | refine sp_loadN rfl rfl rfl rfl rfl ?_
          | refine ep_call0 rfl (by first | exact e1) rfl rfl ?_
          | refine sp_call rfl rfl rfl rfl (by first | exact e1) ⟨rfl, rfl, rfl, rfl⟩ rfl rfl rfl ?_
          | refine ep_bin rfl rfl (by first | exact b_add (by omega) (by omega) | exact b_sub (by omega) (by omega) | exact b_and (by omega) (by omega) | exact b_or (by omega) (by omega) | exact b_shr (by omega) | exact b_shl (by omega) (by omega) | rfl) ?_
          | refine sp_store rfl rfl rfl rfl rfl rfl rfl rfl rfl rfl ?_ | refine ep_not rfl ?_ | refine sp_box rfl rfl rfl rfl rfl ?_ | refine sp_alloc rfl rfl ?_ | refine sp_build rfl rfl ?_ | refine ep_mkfn rfl ?_)
        | (refine g_ops ?_; first | refine eo_none ?_ | refine eo_nil ?_)
        | (refine g_code ?_; first | refine ec_seq ?_ | refine ec_region ?_ | refine ec_block ?_ | refine ec_skip ?_ | refine ec_ret ?_ | refine ec_condT rfl ?_ | refine ec_condF rfl ?_ | refine ec_condTH rfl (by assumption) ?_ | refine ec_condFH rfl (by assumption) ?_)
        | refine ek_seqN ?_ | refine ek_seqR ?_ | refine ek_blkN ?_ | refine ek_blkR ?_ | refine ek_blkX ?_ | refine ek_blkY rfl ?_)
      refine sfin (.inr rfl) (by rfl) (by rfl) (by exact ⟨rfl, rfl, rfl⟩) (by rfl) (by rfl) (by rw [graphR, if_pos h1, if_pos h5]; try rfl) (by first | rfl | (simp; done) | (simp [ints, prs]; done))
    · have h6 : ((n : Int) == 4) = false := by simp [h5]
      have e2 := evr_graph n b (by omega) (by omega) h4
      refine has13.eev rfl rfl ?_
      unfold m13
      repeat' (first
        | (refine g_op ?_; first
          | refine ep_mov rfl ?_ | refine ep_load1 rfl rfl rfl rfl ?_ | refine ep_fieldAddr rfl ?_ | refine sp_loadN rfl rfl rfl rfl rfl ?_
          | refine ep_call0 rfl (by first | exact e1 | exact e2) rfl rfl ?_
          | refine sp_call rfl rfl rfl rfl (by first | exact e1 | exact e2) ⟨rfl, rfl, rfl, rfl⟩ rfl rfl rfl ?_
          | refine ep_bin rfl rfl (by first | exact b_add (by omega) (by omega) | exact b_sub (by omega) (by omega) | exact b_and (by omega) (by omega) | exact b_or (by omega) (by omega) | exact b_shr (by omega) | exact b_shl (by omega) (by omega) | rfl) ?_
          | refine sp_store rfl rfl rfl rfl rfl rfl rfl rfl rfl rfl ?_ | refine ep_not rfl ?_ | refine sp_box rfl rfl rfl rfl rfl ?_ | refine sp_alloc rfl rfl ?_ | refine sp_build rfl rfl ?_ | refine ep_mkfn rfl ?_)
        | (refine g_ops ?_; first | refine eo_none ?_ | refine eo_nil ?_)
        | (refine g_code ?_; first | refine ec_seq ?_ | refine ec_region ?_ | refine ec_block ?_ | refine ec_skip ?_ | refine ec_ret ?_ | refine ec_condT rfl ?_ | refine ec_condF rfl ?_ | refine ec_condTH rfl (by assumption) ?_ | refine ec_condFH rfl (by assumption) ?_)
        | refine ek_seqN ?_ | refine ek_seqR ?_ | refine ek_blkN ?_ | refine ek_blkR ?_ | refine ek_blkX ?_ | refine ek_blkY rfl ?_)
      refine sfin (.inr rfl) (by rfl) (by rfl) (by exact ⟨rfl, rfl, rfl⟩) (by rfl) (by rfl) (by rw [graphR, if_pos h1, if_neg h5]; try rfl) (by first | rfl | (simp; done) | (simp [ints, prs]; done))
def graphH (n b r : Nat) : Nat := r ||| (bt b r <<< n)
theorem graphH_eq {n b r : Nat} (hr : r < R2 n) : graphH n b r = bt b r * R2 n + r := by
  unfold graphH R2 at *
  rw [Nat.or_comm, Nat.shiftLeft_eq, Nat.mul_comm, ← Nat.two_pow_add_eq_or_of_lt hr]
theorem R2_succ (n : Nat) : R2 (n + 1) = 2 * R2 n := by unfold R2; rw [Nat.pow_succ]; omega
theorem graph_eq (n b : Nat) : orA (graphH n b) (R2 n) = pk (bn (graphP n b)) (R2 (n + 1)) := by
  refine orA_eq (fun r hr => ?_) fun t ht => ?_
  · rw [graphH_eq hr, R2_succ]
    have := bt_le b r
    have : bt b r = 0 ∨ bt b r = 1 := by omega
    rcases this with h | h <;> rw [h] <;> omega
  · have hp := R2_pos n
    have e1 : t >>> n = t / R2 n := by unfold R2; exact Nat.shiftRight_eq_div_pow t n
    simp only [graphP, and_m1, e1, beq_iff_eq, Int.natCast_inj]
    constructor
    · intro h
      refine ⟨t % R2 n, Nat.mod_lt _ hp, ?_⟩
      rw [graphH_eq (Nat.mod_lt _ hp), h, Nat.mul_comm]
      exact Nat.div_add_mod t (R2 n)
    · rintro ⟨r, hr, rfl⟩
      rw [graphH_eq hr]
      rw [Nat.mul_comm, Nat.mul_add_mod, Nat.mod_eq_of_lt hr, Nat.mul_add_div hp, Nat.div_eq_of_lt hr, Nat.add_zero]
-- spec.GraphOf
def m11_0 : MC := (.seq (.seq (.region [⟨(.mov (.t 5)), (some 20), none⟩, ⟨(.fieldAddr 0 (.t 1)), (some 21), none⟩, ⟨(.load none (.t 21)), (some 22), none⟩, ⟨(.call 28 [(.t 22)]), (some 23), none⟩, ⟨(.bin .lss (.t 20) (.t 23)), (some 24), none⟩] false) (.cond (.t 24) .skip (.exit 1))) (.seq (.block 2 (.region [⟨(.fieldAddr 1 (.t 4)), (some 27), none⟩, ⟨(.load none (.t 27)), (some 28), none⟩, ⟨(.mov (.t 5)), (some 29), none⟩, ⟨(.load (some 2) (.t 1)), (some 30), none⟩, ⟨(.mov (.t 5)), (some 31), none⟩, ⟨(.call 29 [(.t 30), (.t 31)]), (some 32), none⟩, ⟨(.fieldAddr 0 (.t 1)), (some 33), none⟩, ⟨(.load none (.t 33)), (some 34), none⟩, ⟨(.conv .u64 (.t 34)), (some 35), none⟩, ⟨(.bin .shl (.t 32) (.t 35)), (some 36), none⟩, ⟨(.bin .or (.t 29) (.t 36)), (some 37), none⟩, ⟨(.conv .u64 (.t 37)), (some 38), none⟩, ⟨(.bin .shl (.k (.int .i64 1)) (.t 38)), (some 39), none⟩, ⟨(.bin .or (.t 28) (.t 39)), (some 40), none⟩, ⟨(.fieldAddr 1 (.t 4)), (some 41), none⟩, ⟨(.store 1 (.t 41) (.t 40)), none, none⟩] true)) (.region [⟨(.mov (.t 5)), (some 25), none⟩, ⟨(.bin .add (.t 25) (.k (.int .i64 1))), (some 26), none⟩, ⟨(.mov (.t 26)), (some 5), none⟩] false)))
def m11 : MC := (.seq (.region [⟨(.box (.t 0)), (some 1), none⟩, ⟨(.alloc [(.int .i64 0), (.int .i64 0)]), (some 2), none⟩, ⟨(.mov (.k (.int .i64 0))), (some 3), none⟩] false) (.seq (.block 0 (.seq (.region [⟨(.load (some 2) (.t 1)), (some 7), none⟩, ⟨(.call 27 [(.t 7)]), (some 8), none⟩, ⟨(.un .not (.t 8)), (some 9), none⟩, ⟨(.mov (.t 9)), (some 6), none⟩] false) (.cond (.t 6) (.seq (.region [⟨(.build [(.int .i64 0), (.int .i64 0)] []), (some 10), none⟩, ⟨(.store 2 (.t 2) (.t 10)), none, none⟩, ⟨(.mov (.k (.int .i64 1))), (some 3), none⟩] false) .ret) (.seq (.region [⟨(.fieldAddr 0 (.t 1)), (some 12), none⟩, ⟨(.load none (.t 12)), (some 13), none⟩, ⟨(.bin .geq (.t 13) (.k (.int .i64 4))), (some 14), none⟩, ⟨(.mov (.t 14)), (some 11), none⟩] false) (.cond (.t 11) (.seq (.region [⟨(.build [(.int .i64 0), (.int .i64 0)] []), (some 15), none⟩, ⟨(.store 2 (.t 2) (.t 15)), none, none⟩, ⟨(.mov (.k (.int .i64 3))), (some 3), none⟩] false) .ret) .skip))))) (.seq (.region [⟨(.fieldAddr 0 (.t 1)), (some 16), none⟩, ⟨(.load none (.t 16)), (some 17), none⟩, ⟨(.bin .add (.t 17) (.k (.int .i64 1))), (some 18), none⟩, ⟨(.build [(.int .i64 0), (.int .i64 0)] [(0, (1, (.t 18)))]), (some 19), none⟩, ⟨(.alloc [(.int .i64 0), (.int .i64 0)]), (some 4), none⟩, ⟨(.store 2 (.t 4) (.t 19)), none, none⟩] false) (.seq (.seq (.region [⟨(.mov (.k (.int .i64 0))), (some 5), none⟩] false) (.block 1 (.loop m11_0))) (.seq (.region [⟨(.load (some 2) (.t 4)), (some 42), none⟩, ⟨(.store 2 (.t 2) (.t 42)), none, none⟩, ⟨(.mov (.k (.int .i64 0))), (some 3), none⟩] false) .ret)))))
theorem has11 : Has cx 11 43 m11 [(.cell 2 (some 2)), (.tmp 3)] :=
  ⟨⟨Try.f11, Try.f11.body.getD .skip, by kernel_rfl, by kernel_rfl, by kernel_rfl, by kernel_rfl, by kernel_rfl, by kernel_rfl⟩⟩
theorem lp11_0 (n b : Nat) (hn : n ≤ 3) (hb : b < 65536) :
    LpS cx 43 0 m11_0 [(1, .ptr 0 0), (2, .ptr 1 0), (4, .ptr 2 0), (5, .int .i64 (0 : Nat))] [⟨[.int .i64 n, .int .i64 b], 1, 0, some 0, true⟩, ⟨[.int .i64 0, .int .i64 0], 1, 1, some 0, true⟩, ⟨[.int .i64 (n + 1 : Nat), .int .i64 (orA (graphH n b) (0) : Nat)], 1, 2, some 0, true⟩] (⟨.exit 1, [(2, .ptr 0 0), (4, .ptr 1 0)], [⟨[.int .i64 0, .int .i64 0], 1, 0, some 0, true⟩, ⟨[.int .i64 (n + 1 : Nat), .int .i64 (orA (graphH n b) (R2 n) : Nat)], 1, 1, some 0, true⟩]⟩ : Out).x (⟨.exit 1, [(2, .ptr 0 0), (4, .ptr 1 0)], [⟨[.int .i64 0, .int .i64 0], 1, 0, some 0, true⟩, ⟨[.int .i64 (n + 1 : Nat), .int .i64 (orA (graphH n b) (R2 n) : Nat)], 1, 1, some 0, true⟩]⟩ : Out).e (⟨.exit 1, [(2, .ptr 0 0), (4, .ptr 1 0)], [⟨[.int .i64 0, .int .i64 0], 1, 0, some 0, true⟩, ⟨[.int .i64 (n + 1 : Nat), .int .i64 (orA (graphH n b) (R2 n) : Nat)], 1, 1, some 0, true⟩]⟩ : Out).h := by
  obtain ⟨h1, h2, h3, h4⟩ := shN (n := n) (by omega)
  obtain ⟨g1, g2, g3, g4⟩ := shN (n := n + 1) (by omega)
  refine lp_st (R2 n) (fun _ => ()) (fun i _ => [(1, .ptr 0 0), (2, .ptr 1 0), (4, .ptr 2 0), (5, .int .i64 (i : Nat))]) (fun i _ => [⟨[.int .i64 n, .int .i64 b], 1, 0, some 0, true⟩, ⟨[.int .i64 0, .int .i64 0], 1, 1, some 0, true⟩, ⟨[.int .i64 (n + 1 : Nat), .int .i64 (orA (graphH n b) (i) : Nat)], 1, 2, some 0, true⟩]) (fun _ => (⟨.exit 1, [(2, .ptr 0 0), (4, .ptr 1 0)], [⟨[.int .i64 0, .int .i64 0], 1, 0, some 0, true⟩, ⟨[.int .i64 (n + 1 : Nat), .int .i64 (orA (graphH n b) (R2 n) : Nat)], 1, 1, some 0, true⟩]⟩ : Out)) ?_ ?_ (R2 n) 0 (by omega)
  · intro i s hi hs
    refine ⟨(), rfl, ?_⟩
    have hlt : decide ((i : Int) < (R2 n : Nat)) = true := decide_eq_true (by omega)
    have hb1 := bt_le b i
    have hg := graphH_eq (b := b) hi
    have hx : bt b i * R2 n ≤ 1 * R2 n := Nat.mul_le_mul_right _ hb1
    have hr := R2_succ n
    have hgl : graphH n b i < R2 (n + 1) := by omega
    have hs : bt b i <<< n < R2 (n + 1) := sl_lt hb1 (by omega)
    have ho : orA (graphH n b) i < R2 (R2 (n + 1)) := orA_lt fun r hr' => by
      have h5 := graphH_eq (n := n) (b := b) (r := r) (by omega)
      have h6 := bt_le b r
      have h7 : bt b r * R2 n ≤ 1 * R2 n := Nat.mul_le_mul_right _ h6
      omega
    have hg2 : R2 (graphH n b i) < R2 (R2 (n + 1)) := by unfold R2 at hgl ⊢; exact Nat.pow_lt_pow_right (by omega) hgl
    have hs1 : i ||| bt b i <<< n = graphH n b i := rfl
    unfold m11_0
    repeat' (first
      | (refine g_op ?_; first
        | refine ep_mov rfl ?_ | refine ep_load1 rfl rfl rfl rfl ?_ | refine ep_fieldAddr rfl ?_ | refine sp_loadN rfl rfl rfl rfl rfl ?_
        | refine ep_call0 rfl (by first | exact ev28 _ (by omega) | exact ev29 _ _ _ (by omega) (by omega)) rfl rfl ?_
        | refine sp_call rfl rfl rfl rfl (by first | exact ev28 _ (by omega) | exact ev29 _ _ _ (by omega) (by omega)) ⟨rfl, rfl, rfl, rfl⟩ rfl rfl rfl ?_
        | refine ep_bin rfl rfl (by first | exact b_shl (x := bt b i) (by omega) (by omega) | exact b_or (y := bt b i <<< n) (by omega) (by omega) | exact b_shl1 (y := graphH n b i) (by omega) (by omega) | exact b_or (y := R2 (graphH n b i)) (by omega) (by omega) | exact b_add (by omega) (by omega) | exact b_sub (by omega) (by omega) | exact b_and (by omega) (by omega) | exact b_or (by omega) (by omega) | exact b_shr (by omega) | exact b_shl (by omega) (by omega) | rfl) ?_
        | refine sp_store rfl rfl rfl rfl rfl rfl rfl rfl rfl rfl ?_ | refine ep_conv rfl (by first | exact w_u64 (by omega) (by omega) | exact wrap_id (by omega) (by omega) | rfl) ?_)
      | (refine g_ops ?_; first | refine eo_none ?_ | refine eo_nil ?_)
      | (refine g_dops ?_; first | refine ed_none ?_ | refine ed_nil ?_)
      | refine ed_same rfl ?_ | refine ed_one rfl rfl rfl rfl ?_ | refine ed_two rfl rfl rfl rfl rfl rfl rfl ?_ | refine ed_write rfl rfl ?_
      | (refine g_code ?_; first | refine ec_seq ?_ | refine ec_region ?_ | refine ec_draw ?_ | refine ec_block ?_ | refine ec_skip ?_ | refine ec_exit ?_ | refine ec_condT rfl ?_ | refine ec_condF rfl ?_ | refine ec_condTH rfl (by assumption) ?_ | refine ec_condFH rfl (by assumption) ?_)
      | refine ek_seqN ?_ | refine ek_seqX ?_ | refine ek_blkN ?_ | refine ek_blkR ?_ | refine ek_blkX ?_ | refine ek_blkY rfl ?_)
    exact rnd_on (by rfl) (scmp2 (by rfl) (by rfl) (by exact ⟨rfl, rfl, rfl⟩) (by rfl) (by first | rfl | (simp; done) | (simp [ints, prs]; done)) (by rfl) (by first | rfl | (simp; done) | (simp [ints, prs]; done)))
  · intro s hs
    have hlt : decide (((R2 n : Nat) : Int) < (R2 n : Nat)) = false := decide_eq_false (by omega)
    unfold m11_0
    repeat' (first
      | (refine g_op ?_; first
        | refine ep_mov rfl ?_ | refine ep_load1 rfl rfl rfl rfl ?_ | refine ep_fieldAddr rfl ?_ | refine sp_loadN rfl rfl rfl rfl rfl ?_
        | refine ep_call0 rfl (by first | exact ev28 _ (by omega) | exact ev29 _ _ _ (by omega) (by omega)) rfl rfl ?_
        | refine sp_call rfl rfl rfl rfl (by first | exact ev28 _ (by omega) | exact ev29 _ _ _ (by omega) (by omega)) ⟨rfl, rfl, rfl, rfl⟩ rfl rfl rfl ?_
        | refine ep_bin rfl rfl (by first | exact b_shl (x := bt b i) (by omega) (by omega) | exact b_or (y := bt b i <<< n) (by omega) (by omega) | exact b_shl1 (y := graphH n b i) (by omega) (by omega) | exact b_or (y := R2 (graphH n b i)) (by omega) (by omega) | exact b_add (by omega) (by omega) | exact b_sub (by omega) (by omega) | exact b_and (by omega) (by omega) | exact b_or (by omega) (by omega) | exact b_shr (by omega) | exact b_shl (by omega) (by omega) | rfl) ?_
        | refine sp_store rfl rfl rfl rfl rfl rfl rfl rfl rfl rfl ?_ | refine ep_conv rfl (by first | exact w_u64 (by omega) (by omega) | exact wrap_id (by omega) (by omega) | rfl) ?_)
      | (refine g_ops ?_; first | refine eo_none ?_ | refine eo_nil ?_)
      | (refine g_dops ?_; first | refine ed_none ?_ | refine ed_nil ?_)
      | refine ed_same rfl ?_ | refine ed_one rfl rfl rfl rfl ?_ | refine ed_two rfl rfl rfl rfl rfl rfl rfl ?_ | refine ed_write rfl rfl ?_
      | (refine g_code ?_; first | refine ec_seq ?_ | refine ec_region ?_ | refine ec_draw ?_ | refine ec_block ?_ | refine ec_skip ?_ | refine ec_exit ?_ | refine ec_condT rfl ?_ | refine ec_condF rfl ?_ | refine ec_condTH rfl (by assumption) ?_ | refine ec_condFH rfl (by assumption) ?_)
      | refine ek_seqN ?_ | refine ek_seqX ?_ | refine ek_blkN ?_ | refine ek_blkR ?_ | refine ek_blkX ?_ | refine ek_blkY rfl ?_)
    exact rnd_out (by rfl) (by simp) (scmp2 (by rfl) (by rfl) (by exact ⟨rfl, rfl, rfl⟩) (by rfl) (by first | rfl | (simp; done) | (simp [ints, prs]; done)) (by rfl) (by first | rfl | (simp; done) | (simp [ints, prs]; done)))

theorem ev11 (p t : Int) : Ev cx 11 [.agg [.int .i64 p, .int .i64 t]] [] (rr (graphR p t)) [] := by
  have e1 := ev27 p t
  cases h1 : isFn p t
  · rw [h1] at e1
    refine has11.eev rfl rfl ?_
    unfold m11
    repeat' (first
      | (refine g_op ?_; first
        | refine ep_mov rfl ?_ | refine ep_load1 rfl rfl rfl rfl ?_ | refine ep_fieldAddr rfl ?_ | refine sp_loadN rfl rfl rfl rfl rfl ?_
        | refine ep_call0 rfl (by first | exact e1) rfl rfl ?_
        | refine sp_call rfl rfl rfl rfl (by first | exact e1) ⟨rfl, rfl, rfl, rfl⟩ rfl rfl rfl ?_
        | refine ep_bin rfl rfl (by first | exact b_add (by omega) (by omega) | exact b_sub (by omega) (by omega) | exact b_and (by omega) (by omega) | exact b_or (by omega) (by omega) | exact b_shr (by omega) | exact b_shl (by omega) (by omega) | rfl) ?_
        | refine sp_store rfl rfl rfl rfl rfl rfl rfl rfl rfl rfl ?_ | refine ep_not rfl ?_ | refine sp_box rfl rfl rfl rfl rfl ?_ | refine sp_alloc rfl rfl ?_ | refine sp_build rfl rfl ?_)
      | (refine g_ops ?_; first | refine eo_none ?_ | refine eo_nil ?_)
      | (refine g_code ?_; first | refine ec_seq ?_ | refine ec_region ?_ | refine ec_block ?_ | refine ec_skip ?_ | refine ec_ret ?_ | refine ec_condT rfl ?_ | refine ec_condF rfl ?_ | refine ec_condTH rfl (by assumption) ?_ | refine ec_condFH rfl (by assumption) ?_)
      | refine ek_seqN ?_ | refine ek_seqX ?_ | refine ek_seqR ?_ | refine ek_blkN ?_ | refine ek_blkR ?_ | refine ek_blkX ?_ | refine ek_blkY rfl ?_)
    refine sfin (.inr rfl) (by rfl) (by rfl) (by exact ⟨rfl, rfl, rfl⟩) (by rfl) (by rfl) (by rw [graphR, if_neg (by rw [h1]; simp)]; try rfl) (by first | rfl | (simp; done) | (simp [ints, prs]; done))
  · rw [h1] at e1
    obtain ⟨n, b, rfl, rfl, h2, h3, h4⟩ := isFn_nat h1
    by_cases h5 : (n : Int) = 4
    · have h6 : decide ((n : Int) ≥ 4) = true := decide_eq_true (by omega)
      refine has11.eev rfl rfl ?_
      unfold m11
      repeat' (first
        | (refine g_op ?_; first
          | refine ep_mov rfl ?_ | refine ep_load1 rfl rfl rfl rfl ?_ | refine ep_fieldAddr rfl ?_ | refine sp_loadN rfl rfl rfl rfl rfl ?_
          | refine ep_call0 rfl (by first | exact e1) rfl rfl ?_
          | refine sp_call rfl rfl rfl rfl (by first | exact e1) ⟨rfl, rfl, rfl, rfl⟩ rfl rfl rfl ?_
          | refine ep_bin rfl rfl (by first | exact b_add (by omega) (by omega) | exact b_sub (by omega) (by omega) | exact b_and (by omega) (by omega) | exact b_or (by omega) (by omega) | exact b_shr (by omega) | exact b_shl (by omega) (by omega) | rfl) ?_
          | refine sp_store rfl rfl rfl rfl rfl rfl rfl rfl rfl rfl ?_ | refine ep_not rfl ?_ | refine sp_box rfl rfl rfl rfl rfl ?_ | refine sp_alloc rfl rfl ?_ | refine sp_build rfl rfl ?_)
        | (refine g_ops ?_; first | refine eo_none ?_ | refine eo_nil ?_)
        | (refine g_code ?_; first | refine ec_seq ?_ | refine ec_region ?_ | refine ec_block ?_ | refine ec_skip ?_ | refine ec_ret ?_ | refine ec_condT rfl ?_ | refine ec_condF rfl ?_ | refine ec_condTH rfl (by assumption) ?_ | refine ec_condFH rfl (by assumption) ?_)
        | refine ek_seqN ?_ | refine ek_seqX ?_ | refine ek_seqR ?_ | refine ek_blkN ?_ | refine ek_blkR ?_ | refine ek_blkX ?_ | refine ek_blkY rfl ?_)
      refine sfin (.inr rfl) (by rfl) (by rfl) (by exact ⟨rfl, rfl, rfl⟩) (by rfl) (by rfl) (by rw [graphR, if_pos h1, if_pos h5]; try rfl) (by first | rfl | (simp; done) | (simp [ints, prs]; done))
    · have h6 : decide ((n : Int) ≥ 4) = false := decide_eq_false (by omega)
      have lp := lp11_0 n b (by omega) h4
      refine has11.eev rfl rfl ?_
      unfold m11
      repeat' (first
        | refine sc_loop lp rfl rfl ⟨rfl, rfl, rfl⟩ rfl rfl rfl ?_
        | (refine g_op ?_; first
          | refine ep_mov rfl ?_ | refine ep_load1 rfl rfl rfl rfl ?_ | refine ep_fieldAddr rfl ?_ | refine sp_loadN rfl rfl rfl rfl rfl ?_
          | refine ep_call0 rfl (by first | exact e1) rfl rfl ?_
          | refine sp_call rfl rfl rfl rfl (by first | exact e1) ⟨rfl, rfl, rfl, rfl⟩ rfl rfl rfl ?_
          | refine ep_bin rfl rfl (by first | exact b_add (by omega) (by omega) | exact b_sub (by omega) (by omega) | exact b_and (by omega) (by omega) | exact b_or (by omega) (by omega) | exact b_shr (by omega) | exact b_shl (by omega) (by omega) | rfl) ?_
          | refine sp_store rfl rfl rfl rfl rfl rfl rfl rfl rfl rfl ?_ | refine ep_not rfl ?_ | refine sp_box rfl rfl rfl rfl rfl ?_ | refine sp_alloc rfl rfl ?_ | refine sp_build rfl rfl ?_)
        | (refine g_ops ?_; first | refine eo_none ?_ | refine eo_nil ?_)
        | (refine g_code ?_; first | refine ec_seq ?_ | refine ec_region ?_ | refine ec_block ?_ | refine ec_skip ?_ | refine ec_ret ?_ | refine ec_condT rfl ?_ | refine ec_condF rfl ?_ | refine ec_condTH rfl (by assumption) ?_ | refine ec_condFH rfl (by assumption) ?_)
        | refine ek_seqN ?_ | refine ek_seqX ?_ | refine ek_seqR ?_ | refine ek_blkN ?_ | refine ek_blkR ?_ | refine ek_blkX ?_ | refine ek_blkY rfl ?_)
      refine sfin (.inr rfl) (by rfl) (by rfl) (by exact ⟨rfl, rfl, rfl⟩) (by rfl) (by rfl) (by rw [graphR, if_pos h1, if_neg h5, Int.toNat_natCast, Int.toNat_natCast, ← graph_eq]; try rfl) (by first | rfl | (simp; done) | (simp [ints, prs]; done))
-- laws.FnExactGraphOf
def m4 : MC := (.seq (.region [⟨(.box (.t 0)), (some 1), none⟩, ⟨(.mov (.k (.bool false))), (some 2), none⟩] false) (.seq (.region [⟨(.load (some 2) (.t 1)), (some 8), none⟩, ⟨(.call 12 [(.t 8)]), (some 9), none⟩, ⟨(.call 11 [(.t 9)]), (some 10), none⟩, ⟨(.mov (.t 10)), (some 7), none⟩, ⟨(.extract (.t 7) 0), (some 11), none⟩, ⟨(.extract (.t 7) 1), (some 12), none⟩, ⟨(.alloc [(.int .i64 0), (.int .i64 0)]), (some 3), none⟩, ⟨(.store 2 (.t 3) (.t 11)), none, none⟩, ⟨(.mov (.t 12)), (some 4), none⟩] false) (.seq (.region [⟨(.load (some 2) (.t 1)), (some 14), none⟩, ⟨(.call 12 [(.t 14)]), (some 15), none⟩, ⟨(.call 13 [(.t 15)]), (some 16), none⟩, ⟨(.mov (.t 16)), (some 13), none⟩, ⟨(.extract (.t 13) 0), (some 17), none⟩, ⟨(.extract (.t 13) 1), (some 18), none⟩, ⟨(.alloc [(.int .i64 0), (.int .i64 0)]), (some 5), none⟩, ⟨(.store 2 (.t 5) (.t 17)), none, none⟩, ⟨(.mov (.t 18)), (some 6), none⟩] false) (.seq (.seq (.region [⟨(.load (some 2) (.t 5)), (some 19), none⟩, ⟨(.load (some 2) (.t 3)), (some 20), none⟩, ⟨(.call 14 [(.t 19), (.t 20)]), (some 21), none⟩, ⟨(.un .not (.t 21)), (some 22), none⟩, ⟨(.mov (.t 22)), (some 23), none⟩, ⟨(.mov (.t 6)), (some 24), (some (23, false))⟩, ⟨(.mov (.t 4)), (some 25), (some (23, false))⟩, ⟨(.bin .neq (.t 24) (.t 25)), (some 26), (some (23, false))⟩, ⟨(.pick (.t 23) (.k (.bool true)) (.t 26)), (some 27), none⟩] false) (.cond (.t 27) (.seq (.region [⟨(.mov (.k (.bool false))), (some 2), none⟩] false) .ret) .skip)) (.seq (.region [⟨(.mov (.k (.bool true))), (some 2), none⟩] false) .ret)))))
theorem has4 : Has cx 4 28 m4 [(.tmp 2)] :=
  ⟨⟨Try.f4, Try.f4.body.getD .skip, by kernel_rfl, by kernel_rfl, by kernel_rfl, by kernel_rfl, by kernel_rfl, by kernel_rfl⟩⟩
theorem ev4 (p t : Int) : Ev cx 4 [.agg [.int .i64 p, .int .i64 t]] [] (.bool true) [] := by
  have h1 : ((graphR p t).c != (graphR p t).c) = false := by simp
  refine has4.eev rfl rfl ?_
  unfold m4
  repeat' (first
    | (refine g_op ?_; first
      | refine ep_mov rfl ?_ | refine sp_loadN rfl rfl rfl rfl rfl ?_
      | refine ep_call0 rfl (by first | exact ev11 _ _ | exact ev12 _ _ | exact ev13 _ _ | exact ev14 _ _) rfl rfl ?_
      | refine sp_call rfl rfl rfl rfl (by first | exact ev11 _ _ | exact ev12 _ _ | exact ev13 _ _ | exact ev14 _ _) ⟨rfl, rfl, rfl, rfl⟩ rfl rfl rfl ?_
      | refine ep_bin rfl rfl (by first | exact b_add (by omega) (by omega) | exact b_sub (by omega) (by omega) | exact b_and (by omega) (by omega) | exact b_or (by omega) (by omega) | exact b_shr (by omega) | exact b_shl (by omega) (by omega) | rfl) ?_
      | refine ep_pickT rfl rfl ?_ | refine ep_pickF rfl rfl ?_ | refine ep_pickTH rfl (by assumption) rfl ?_ | refine ep_pickFH rfl (by assumption) rfl ?_ | refine ep_extract rfl rfl ?_ | refine sp_store rfl rfl rfl rfl rfl rfl rfl rfl rfl rfl ?_
      | refine ep_not rfl ?_ | refine sp_box rfl rfl rfl rfl rfl ?_ | refine sp_alloc rfl rfl ?_)
    | (refine g_ops ?_; first | refine eo_none ?_ | refine eo_nil ?_ | refine eo_yes rfl ?_ | refine eo_no rfl ?_ | refine eo_und rfl ?_ | refine eo_yesH rfl (by assumption) ?_ | refine eo_noH rfl (by assumption) ?_)
    | (refine g_code ?_; first | refine ec_seq ?_ | refine ec_region ?_ | refine ec_skip ?_ | refine ec_ret ?_ | refine ec_condT rfl ?_ | refine ec_condF rfl ?_ | refine ec_condTH rfl (by assumption) ?_ | refine ec_condFH rfl (by assumption) ?_)
    | refine ek_seqN ?_ | refine ek_seqR ?_)
  refine sfin (.inr rfl) (by rfl) (by rfl) (by exact ⟨rfl, rfl, rfl⟩) (by rfl) (by rfl) (by rfl) (by first | rfl | (simp; done) | (simp [ints, prs]; done))


end Go.Proofs.Ytadmbjneagdfdaa
