/- What each function that the statement reaches returns. -/
import Derived.Test.YtdmpajkcpdjfbaaMiD
import Derived.Test.YtdmpajkcpdjfbaaChecked
import Derived.KernelRfl
set_option linter.unusedVariables false
set_option linter.unusedSimpArgs false
set_option maxRecDepth 100000
set_option maxHeartbeats 4000000
namespace Go.Proofs.Ytdmpajkcpdjfbaa
open Go Go.Proofs.Ytdmpajkcpdjfbaa.Mi
noncomputable def cx : Cx := ⟨Try.prog, id, id, by kernel_rfl⟩
attribute [local irreducible] code opsK opsDK gopK opK seqK blockK callK binV
def R2 (n : Nat) : Nat := 2 ^ n
theorem shR (n : Nat) : 1 <<< n = R2 n := by simp [R2, Nat.shiftLeft_eq]
theorem shN {n : Nat} (h : n ≤ 4) : R2 n ≤ 16 ∧ R2 (R2 n) ≤ 65536 ∧ 1 ≤ R2 n ∧ 1 ≤ R2 (R2 n) := by
  have : n = 0 ∨ n = 1 ∨ n = 2 ∨ n = 3 ∨ n = 4 := by omega
  rcases this with rfl | rfl | rfl | rfl | rfl <;> decide
theorem b_shl1 {k' : IntKind} {y : Nat} (h : R2 y < 9223372036854775808) (hy : y ≤ 64) : binV .shl (.int .i64 1) (.int k' y) = some (.int .i64 (R2 y : Nat)) := by
  rw [← shR]; exact b_shl (x := 1) (by rw [shR]; exact h) hy
attribute [local irreducible] R2
def isFn (p t : Int) : Bool := decide (0 ≤ p ∧ p ≤ 4) && decide (0 ≤ t ∧ t ≤ (R2 (R2 p.toNat) : Nat) - 1)
-- impl.within
def m101 : MC := (.seq (.region [⟨(.mov (.k (.bool false))), (some 6), none⟩] false) (.seq (.region [⟨(.mov (.t 0)), (some 7), none⟩, ⟨(.mov (.t 1)), (some 8), none⟩, ⟨(.bin .geq (.t 7) (.t 8)), (some 9), none⟩, ⟨(.mov (.t 9)), (some 10), none⟩, ⟨(.mov (.t 0)), (some 11), (some (10, true))⟩, ⟨(.mov (.t 2)), (some 12), (some (10, true))⟩, ⟨(.bin .leq (.t 11) (.t 12)), (some 13), (some (10, true))⟩, ⟨(.pick (.t 10) (.t 13) (.k (.bool false))), (some 14), none⟩, ⟨(.mov (.t 14)), (some 6), none⟩] false) .ret))
theorem has101 : Has cx 101 15 m101 [(.tmp 6)] :=
  ⟨⟨Try.f101, Try.f101.body.getD .skip, by kernel_rfl, by kernel_rfl, by kernel_rfl, by kernel_rfl, by kernel_rfl, by kernel_rfl⟩⟩
theorem ev101 (z lo hi : Int) : Ev cx 101 [.int .i64 z, .int .i64 lo, .int .i64 hi] [] (.bool (decide (lo ≤ z ∧ z ≤ hi))) [] := by
  by_cases h1 : lo ≤ z
  · have h2 : decide (z ≥ lo) = true := decide_eq_true h1
    refine has101.eev rfl rfl ?_
    unfold m101
    repeat' (first
      | (refine g_op ?_; first
        | refine ep_mov rfl ?_
        | refine ep_bin rfl rfl (by first | exact b_leq | exact b_geq) ?_ | refine ep_pickT rfl rfl ?_ | refine ep_pickF rfl rfl ?_ | refine ep_pickTH rfl (by assumption) rfl ?_ | refine ep_pickFH rfl (by assumption) rfl ?_)
      | (refine g_ops ?_; first | refine eo_none ?_ | refine eo_nil ?_ | refine eo_yes rfl ?_ | refine eo_no rfl ?_ | refine eo_und rfl ?_ | refine eo_yesH rfl (by assumption) ?_ | refine eo_noH rfl (by assumption) ?_)
      | (refine g_code ?_; first | refine ec_seq ?_ | refine ec_region ?_ | refine ec_ret ?_)
      | refine ek_seqN ?_ | refine ek_seqR ?_)
    refine sfin (.inr rfl) (by rfl) (by rfl) (by exact ⟨rfl, rfl, rfl⟩) (by rfl) (by rfl) (by exact congrArg V.bool (by simp [h1])) (by first | rfl | (simp; done) | (simp [ints, prs]; done))
  · have h2 : decide (z ≥ lo) = false := decide_eq_false h1
    refine has101.eev rfl rfl ?_
    unfold m101
    repeat' (first
      | (refine g_op ?_; first
        | refine ep_mov rfl ?_
        | refine ep_bin rfl rfl (by first | exact b_leq | exact b_geq) ?_ | refine ep_pickT rfl rfl ?_ | refine ep_pickF rfl rfl ?_ | refine ep_pickTH rfl (by assumption) rfl ?_ | refine ep_pickFH rfl (by assumption) rfl ?_)
      | (refine g_ops ?_; first | refine eo_none ?_ | refine eo_nil ?_ | refine eo_yes rfl ?_ | refine eo_no rfl ?_ | refine eo_und rfl ?_ | refine eo_yesH rfl (by assumption) ?_ | refine eo_noH rfl (by assumption) ?_)
      | (refine g_code ?_; first | refine ec_seq ?_ | refine ec_region ?_ | refine ec_ret ?_)
      | refine ek_seqN ?_ | refine ek_seqR ?_)
    refine sfin (.inr rfl) (by rfl) (by rfl) (by exact ⟨rfl, rfl, rfl⟩) (by rfl) (by rfl) (by exact congrArg V.bool (by simp [h1])) (by first | rfl | (simp; done) | (simp [ints, prs]; done))
-- spec.l01In
def m97 : MC := (.seq (.region [⟨(.mov (.k (.bool false))), (some 6), none⟩] false) (.seq (.region [⟨(.mov (.t 0)), (some 7), none⟩, ⟨(.mov (.t 1)), (some 8), none⟩, ⟨(.bin .geq (.t 7) (.t 8)), (some 9), none⟩, ⟨(.mov (.t 9)), (some 10), none⟩, ⟨(.mov (.t 0)), (some 11), (some (10, true))⟩, ⟨(.mov (.t 2)), (some 12), (some (10, true))⟩, ⟨(.bin .leq (.t 11) (.t 12)), (some 13), (some (10, true))⟩, ⟨(.pick (.t 10) (.t 13) (.k (.bool false))), (some 14), none⟩, ⟨(.mov (.t 14)), (some 6), none⟩] false) .ret))
theorem has97 : Has cx 97 15 m97 [(.tmp 6)] :=
  ⟨⟨Try.f97, Try.f97.body.getD .skip, by kernel_rfl, by kernel_rfl, by kernel_rfl, by kernel_rfl, by kernel_rfl, by kernel_rfl⟩⟩
theorem ev97 (z lo hi : Int) : Ev cx 97 [.int .i64 z, .int .i64 lo, .int .i64 hi] [] (.bool (decide (lo ≤ z ∧ z ≤ hi))) [] := by
  by_cases h1 : lo ≤ z
  · have h2 : decide (z ≥ lo) = true := decide_eq_true h1
    refine has97.eev rfl rfl ?_
    unfold m97
    repeat' (first
      | (refine g_op ?_; first
        | refine ep_mov rfl ?_
        | refine ep_bin rfl rfl (by first | exact b_leq | exact b_geq) ?_ | refine ep_pickT rfl rfl ?_ | refine ep_pickF rfl rfl ?_ | refine ep_pickTH rfl (by assumption) rfl ?_ | refine ep_pickFH rfl (by assumption) rfl ?_)
      | (refine g_ops ?_; first | refine eo_none ?_ | refine eo_nil ?_ | refine eo_yes rfl ?_ | refine eo_no rfl ?_ | refine eo_und rfl ?_ | refine eo_yesH rfl (by assumption) ?_ | refine eo_noH rfl (by assumption) ?_)
      | (refine g_code ?_; first | refine ec_seq ?_ | refine ec_region ?_ | refine ec_ret ?_)
      | refine ek_seqN ?_ | refine ek_seqR ?_)
    refine sfin (.inr rfl) (by rfl) (by rfl) (by exact ⟨rfl, rfl, rfl⟩) (by rfl) (by rfl) (by exact congrArg V.bool (by simp [h1])) (by first | rfl | (simp; done) | (simp [ints, prs]; done))
  · have h2 : decide (z ≥ lo) = false := decide_eq_false h1
    refine has97.eev rfl rfl ?_
    unfold m97
    repeat' (first
      | (refine g_op ?_; first
        | refine ep_mov rfl ?_
        | refine ep_bin rfl rfl (by first | exact b_leq | exact b_geq) ?_ | refine ep_pickT rfl rfl ?_ | refine ep_pickF rfl rfl ?_ | refine ep_pickTH rfl (by assumption) rfl ?_ | refine ep_pickFH rfl (by assumption) rfl ?_)
      | (refine g_ops ?_; first | refine eo_none ?_ | refine eo_nil ?_ | refine eo_yes rfl ?_ | refine eo_no rfl ?_ | refine eo_und rfl ?_ | refine eo_yesH rfl (by assumption) ?_ | refine eo_noH rfl (by assumption) ?_)
      | (refine g_code ?_; first | refine ec_seq ?_ | refine ec_region ?_ | refine ec_ret ?_)
      | refine ek_seqN ?_ | refine ek_seqR ?_)
    refine sfin (.inr rfl) (by rfl) (by rfl) (by exact ⟨rfl, rfl, rfl⟩) (by rfl) (by rfl) (by exact congrArg V.bool (by simp [h1])) (by first | rfl | (simp; done) | (simp [ints, prs]; done))
-- impl.rowsOf
def m136 : MC := (.seq (.region [⟨(.mov (.k (.int .i64 0))), (some 2), none⟩] false) (.seq (.region [⟨(.mov (.t 0)), (some 3), none⟩, ⟨(.bin .shl (.k (.int .i64 1)) (.t 3)), (some 4), none⟩, ⟨(.mov (.t 4)), (some 2), none⟩] false) .ret))
theorem has136 : Has cx 136 5 m136 [(.tmp 2)] :=
  ⟨⟨Try.f136, Try.f136.body.getD .skip, by kernel_rfl, by kernel_rfl, by kernel_rfl, by kernel_rfl, by kernel_rfl, by kernel_rfl⟩⟩
theorem ev136 (n : Nat) (h : n ≤ 4) : Ev cx 136 [.int .i64 n] [] (.int .i64 (R2 n : Nat)) [] := by
  obtain ⟨h1, h2, h3, h4⟩ := shN h
  refine has136.eev rfl rfl ?_
  unfold m136
  repeat' (first
    | (refine g_op ?_; first
      | refine ep_mov rfl ?_
      | refine ep_bin rfl rfl (by first | exact b_shl1 (by omega) (by omega) | exact b_shl (by omega) (by omega)) ?_)
    | (refine g_ops ?_; first | refine eo_none ?_ | refine eo_nil ?_)
    | (refine g_code ?_; first | refine ec_seq ?_ | refine ec_region ?_ | refine ec_ret ?_)
    | refine ek_seqN ?_ | refine ek_seqR ?_)
  refine sfin (.inr rfl) (by rfl) (by rfl) (by exact ⟨rfl, rfl, rfl⟩) (by rfl) (by rfl) (by rfl) (by first | rfl | (simp; done) | (simp [ints, prs]; done))
-- impl.funcsOf
def m102 : MC := (.seq (.region [⟨(.mov (.k (.int .i64 0))), (some 2), none⟩] false) (.seq (.region [⟨(.mov (.t 0)), (some 3), none⟩, ⟨(.call 136 [(.t 3)]), (some 4), none⟩, ⟨(.bin .shl (.k (.int .i64 1)) (.t 4)), (some 5), none⟩, ⟨(.mov (.t 5)), (some 2), none⟩] false) .ret))
theorem has102 : Has cx 102 6 m102 [(.tmp 2)] :=
  ⟨⟨Try.f102, Try.f102.body.getD .skip, by kernel_rfl, by kernel_rfl, by kernel_rfl, by kernel_rfl, by kernel_rfl, by kernel_rfl⟩⟩
theorem ev102 (n : Nat) (h : n ≤ 4) : Ev cx 102 [.int .i64 n] [] (.int .i64 (R2 (R2 n) : Nat)) [] := by
  obtain ⟨h1, h2, h3, h4⟩ := shN h
  refine has102.eev rfl rfl ?_
  unfold m102
  repeat' (first
    | (refine g_op ?_; first
      | refine ep_mov rfl ?_
      | refine ep_call0 rfl (by first | exact ev136 _ h) rfl rfl ?_
      | refine sp_call rfl rfl rfl rfl (by first | exact ev136 _ h) ⟨rfl, rfl, rfl, rfl⟩ rfl rfl rfl ?_
      | refine ep_bin rfl rfl (by first | exact b_shl1 (by omega) (by omega) | exact b_shl (by omega) (by omega)) ?_)
    | (refine g_ops ?_; first | refine eo_none ?_ | refine eo_nil ?_)
    | (refine g_code ?_; first | refine ec_seq ?_ | refine ec_region ?_ | refine ec_ret ?_)
    | refine ek_seqN ?_ | refine ek_seqR ?_)
  refine sfin (.inr rfl) (by rfl) (by rfl) (by exact ⟨rfl, rfl, rfl⟩) (by rfl) (by rfl) (by rfl) (by first | rfl | (simp; done) | (simp [ints, prs]; done))
-- spec.l01Rows
def m58 : MC := (.seq (.region [⟨(.mov (.k (.int .i64 0))), (some 2), none⟩] false) (.seq (.region [⟨(.mov (.t 0)), (some 3), none⟩, ⟨(.conv .u64 (.t 3)), (some 4), none⟩, ⟨(.bin .shl (.k (.int .i64 1)) (.t 4)), (some 5), none⟩, ⟨(.mov (.t 5)), (some 2), none⟩] false) .ret))
theorem has58 : Has cx 58 6 m58 [(.tmp 2)] :=
  ⟨⟨Try.f58, Try.f58.body.getD .skip, by kernel_rfl, by kernel_rfl, by kernel_rfl, by kernel_rfl, by kernel_rfl, by kernel_rfl⟩⟩
theorem ev58 (n : Nat) (h : n ≤ 4) : Ev cx 58 [.int .i64 n] [] (.int .i64 (R2 n : Nat)) [] := by
  obtain ⟨h1, h2, h3, h4⟩ := shN h
  refine has58.eev rfl rfl ?_
  unfold m58
  repeat' (first
    | (refine g_op ?_; first
      | refine ep_mov rfl ?_
      | refine ep_bin rfl rfl (by first | exact b_shl1 (by omega) (by omega) | exact b_shl (by omega) (by omega)) ?_ | refine ep_conv rfl (by first | exact w_u64 (by omega) (by omega) | exact wrap_id (by omega) (by omega) | rfl) ?_)
    | (refine g_ops ?_; first | refine eo_none ?_ | refine eo_nil ?_)
    | (refine g_code ?_; first | refine ec_seq ?_ | refine ec_region ?_ | refine ec_ret ?_)
    | refine ek_seqN ?_ | refine ek_seqR ?_)
  refine sfin (.inr rfl) (by rfl) (by rfl) (by exact ⟨rfl, rfl, rfl⟩) (by rfl) (by rfl) (by rfl) (by first | rfl | (simp; done) | (simp [ints, prs]; done))
-- spec.l01All
def m98 : MC := (.seq (.region [⟨(.mov (.k (.int .i64 0))), (some 2), none⟩] false) (.seq (.region [⟨(.mov (.t 0)), (some 3), none⟩, ⟨(.call 58 [(.t 3)]), (some 4), none⟩, ⟨(.conv .u64 (.t 4)), (some 5), none⟩, ⟨(.bin .shl (.k (.int .i64 1)) (.t 5)), (some 6), none⟩, ⟨(.bin .sub (.t 6) (.k (.int .i64 1))), (some 7), none⟩, ⟨(.mov (.t 7)), (some 2), none⟩] false) .ret))
theorem has98 : Has cx 98 8 m98 [(.tmp 2)] :=
  ⟨⟨Try.f98, Try.f98.body.getD .skip, by kernel_rfl, by kernel_rfl, by kernel_rfl, by kernel_rfl, by kernel_rfl, by kernel_rfl⟩⟩
theorem ev98 (n : Nat) (h : n ≤ 4) : Ev cx 98 [.int .i64 n] [] (.int .i64 ((R2 (R2 n) : Nat) - 1)) [] := by
  obtain ⟨h1, h2, h3, h4⟩ := shN h
  refine has98.eev rfl rfl ?_
  unfold m98
  repeat' (first
    | (refine g_op ?_; first
      | refine ep_mov rfl ?_
      | refine ep_call0 rfl (by first | exact ev58 _ h) rfl rfl ?_
      | refine sp_call rfl rfl rfl rfl (by first | exact ev58 _ h) ⟨rfl, rfl, rfl, rfl⟩ rfl rfl rfl ?_
      | refine ep_bin rfl rfl (by first | exact b_shl1 (by omega) (by omega) | exact b_sub (by omega) (by omega) | exact b_shl (by omega) (by omega)) ?_ | refine ep_conv rfl (by first | exact w_u64 (by omega) (by omega) | exact wrap_id (by omega) (by omega) | rfl) ?_)
    | (refine g_ops ?_; first | refine eo_none ?_ | refine eo_nil ?_)
    | (refine g_code ?_; first | refine ec_seq ?_ | refine ec_region ?_ | refine ec_ret ?_)
    | refine ek_seqN ?_ | refine ek_seqR ?_)
  refine sfin (.inr rfl) (by rfl) (by rfl) (by exact ⟨rfl, rfl, rfl⟩) (by rfl) (by rfl) (by rfl) (by first | rfl | (simp; done) | (simp [ints, prs]; done))
-- impl.isArity
def m100 : MC := (.seq (.region [⟨(.mov (.k (.bool false))), (some 2), none⟩] false) (.seq (.region [⟨(.mov (.t 0)), (some 3), none⟩, ⟨(.call 101 [(.t 3), (.k (.int .i64 0)), (.k (.int .i64 4))]), (some 4), none⟩, ⟨(.mov (.t 4)), (some 2), none⟩] false) .ret))
theorem has100 : Has cx 100 5 m100 [(.tmp 2)] :=
  ⟨⟨Try.f100, Try.f100.body.getD .skip, by kernel_rfl, by kernel_rfl, by kernel_rfl, by kernel_rfl, by kernel_rfl, by kernel_rfl⟩⟩
theorem ev100 (z : Int) : Ev cx 100 [.int .i64 z] [] (.bool (decide (0 ≤ z ∧ z ≤ 4))) [] := by
  refine has100.eev rfl rfl ?_
  unfold m100
  repeat' (first
    | (refine g_op ?_; first
      | refine ep_mov rfl ?_
      | refine ep_call0 rfl (by first | exact ev101 _ _ _) rfl rfl ?_
      | refine sp_call rfl rfl rfl rfl (by first | exact ev101 _ _ _) ⟨rfl, rfl, rfl, rfl⟩ rfl rfl rfl ?_)
    | (refine g_ops ?_; first | refine eo_none ?_ | refine eo_nil ?_)
    | (refine g_code ?_; first | refine ec_seq ?_ | refine ec_region ?_ | refine ec_ret ?_)
    | refine ek_seqN ?_ | refine ek_seqR ?_)
  refine sfin (.inr rfl) (by rfl) (by rfl) (by exact ⟨rfl, rfl, rfl⟩) (by rfl) (by rfl) (by rfl) (by first | rfl | (simp; done) | (simp [ints, prs]; done))
theorem isFn_nat {p t : Int} (h : isFn p t = true) : ∃ n b : Nat, p = n ∧ t = b ∧ n ≤ 4 ∧ b < R2 (R2 n) ∧ b < 65536 := by
  simp only [isFn, Bool.and_eq_true, decide_eq_true_eq] at h
  obtain ⟨⟨h1, h2⟩, h3, h4⟩ := h
  obtain ⟨n, rfl⟩ := Int.eq_ofNat_of_zero_le (show 0 ≤ p by omega)
  obtain ⟨b, rfl⟩ := Int.eq_ofNat_of_zero_le h3
  simp only [Int.toNat_natCast] at h4
  obtain ⟨_, q, _⟩ := shN (n := n) (by omega)
  exact ⟨n, b, rfl, rfl, by omega, by omega, by omega⟩
def bt (b r : Nat) : Nat := (b >>> r) &&& 1
theorem bt_le (b r : Nat) : bt b r ≤ 1 := by unfold bt; exact Nat.and_le_right
theorem shr_lt {b r : Nat} (h : b < 9223372036854775808) : b >>> r < 9223372036854775808 := Nat.lt_of_le_of_lt (Nat.shiftRight_le b r) h
theorem b_bt {b r : Nat} (h : b < 9223372036854775808) : binV .and (.int .i64 (b >>> r : Nat)) (.int .i64 1) = some (.int .i64 (bt b r : Nat)) := b_and (y := 1) (shr_lt h) (by omega)
theorem or_lt {x y n : Nat} (hx : x < R2 n) (hy : y < R2 n) : x ||| y < R2 n := by unfold R2 at *; exact Nat.or_lt_two_pow hx hy
attribute [local irreducible] bt
-- impl.bit
def m137 : MC := (.seq (.region [⟨(.mov (.k (.int .i64 0))), (some 4), none⟩] false) (.seq (.region [⟨(.mov (.t 0)), (some 5), none⟩, ⟨(.mov (.t 1)), (some 6), none⟩, ⟨(.bin .shr (.t 5) (.t 6)), (some 7), none⟩, ⟨(.bin .and (.t 7) (.k (.int .i64 1))), (some 8), none⟩, ⟨(.mov (.t 8)), (some 4), none⟩] false) .ret))
theorem has137 : Has cx 137 9 m137 [(.tmp 4)] :=
  ⟨⟨Try.f137, Try.f137.body.getD .skip, by kernel_rfl, by kernel_rfl, by kernel_rfl, by kernel_rfl, by kernel_rfl, by kernel_rfl⟩⟩
theorem ev137 (b r : Nat) (hb : b < 9223372036854775808) (hr : r ≤ 64) : Ev cx 137 [.int .i64 b, .int .i64 r] [] (.int .i64 (bt b r : Nat)) [] := by
  refine has137.eev rfl rfl ?_
  unfold m137
  repeat' (first
    | (refine g_op ?_; first
      | refine ep_mov rfl ?_
      | refine ep_bin rfl rfl (by first | exact b_shr hr | exact b_bt hb | exact b_and (by omega) (by omega) | exact b_shr (by omega)) ?_)
    | (refine g_ops ?_; first | refine eo_none ?_ | refine eo_nil ?_)
    | (refine g_code ?_; first | refine ec_seq ?_ | refine ec_region ?_ | refine ec_ret ?_)
    | refine ek_seqN ?_ | refine ek_seqR ?_)
  refine sfin (.inr rfl) (by rfl) (by rfl) (by exact ⟨rfl, rfl, rfl⟩) (by rfl) (by rfl) (by rfl) (by first | rfl | (simp; done) | (simp [ints, prs]; done))
-- (impl.Func).at
def m104 : MC := (.seq (.region [⟨(.box (.t 0)), (some 2), none⟩, ⟨(.mov (.k (.int .i64 0))), (some 4), none⟩] false) (.seq (.region [⟨(.fieldAddr 1 (.t 2)), (some 5), none⟩, ⟨(.load none (.t 5)), (some 6), none⟩, ⟨(.mov (.t 1)), (some 7), none⟩, ⟨(.call 137 [(.t 6), (.t 7)]), (some 8), none⟩, ⟨(.mov (.t 8)), (some 4), none⟩] false) .ret))
theorem has104 : Has cx 104 9 m104 [(.tmp 4)] :=
  ⟨⟨Try.f104, Try.f104.body.getD .skip, by kernel_rfl, by kernel_rfl, by kernel_rfl, by kernel_rfl, by kernel_rfl, by kernel_rfl⟩⟩
theorem ev104 (n : Int) (b r : Nat) (hb : b < 9223372036854775808) (hr : r ≤ 64) : Ev cx 104 [.agg [.int .i64 n, .int .i64 b], .int .i64 r] [] (.int .i64 (bt b r : Nat)) [] := by
  refine has104.eev rfl rfl ?_
  unfold m104
  repeat' (first
    | (refine g_op ?_; first
      | refine ep_mov rfl ?_ | refine ep_load1 rfl rfl rfl rfl ?_ | refine ep_fieldAddr rfl ?_
      | refine ep_call0 rfl (by first | exact ev137 _ _ hb hr) rfl rfl ?_
      | refine sp_call rfl rfl rfl rfl (by first | exact ev137 _ _ hb hr) ⟨rfl, rfl, rfl, rfl⟩ rfl rfl rfl ?_
      | refine sp_box rfl rfl rfl rfl rfl ?_)
    | (refine g_ops ?_; first | refine eo_none ?_ | refine eo_nil ?_)
    | (refine g_code ?_; first | refine ec_seq ?_ | refine ec_region ?_ | refine ec_ret ?_)
    | refine ek_seqN ?_ | refine ek_seqR ?_)
  refine sfin (.inr rfl) (by rfl) (by rfl) (by exact ⟨rfl, rfl, rfl⟩) (by rfl) (by rfl) (by rfl) (by first | rfl | (simp; done) | (simp [ints, prs]; done))
-- impl.IsFunc
def m55 : MC := (.seq (.region [⟨(.box (.t 0)), (some 1), none⟩, ⟨(.mov (.k (.bool false))), (some 2), none⟩] false) (.seq (.region [⟨(.fieldAddr 0 (.t 1)), (some 3), none⟩, ⟨(.load none (.t 3)), (some 4), none⟩, ⟨(.callw 100 [(.t 4)]), (some 5), none⟩, ⟨(.mov (.t 5)), (some 6), none⟩, ⟨(.fieldAddr 1 (.t 1)), (some 7), (some (6, true))⟩, ⟨(.load none (.t 7)), (some 8), (some (6, true))⟩, ⟨(.fieldAddr 0 (.t 1)), (some 9), (some (6, true))⟩, ⟨(.load none (.t 9)), (some 10), (some (6, true))⟩, ⟨(.call 102 [(.t 10)]), (some 11), (some (6, true))⟩, ⟨(.bin .sub (.t 11) (.k (.int .i64 1))), (some 12), (some (6, true))⟩, ⟨(.callw 101 [(.t 8), (.k (.int .i64 0)), (.t 12)]), (some 13), (some (6, true))⟩, ⟨(.pick (.t 6) (.t 13) (.k (.bool false))), (some 14), none⟩, ⟨(.mov (.t 14)), (some 2), none⟩] true) .ret))
theorem has55 : Has cx 55 15 m55 [(.tmp 2)] :=
  ⟨⟨Try.f55, Try.f55.body.getD .skip, by kernel_rfl, by kernel_rfl, by kernel_rfl, by kernel_rfl, by kernel_rfl, by kernel_rfl⟩⟩
theorem ev55 (p t : Int) : Ev cx 55 [.agg [.int .i64 p, .int .i64 t]] [] (.bool (isFn p t)) [] := by
  by_cases h1 : 0 ≤ p ∧ p ≤ 4
  · have h2 : decide (0 ≤ p ∧ p ≤ 4) = true := decide_eq_true h1
    obtain ⟨n, rfl⟩ := Int.eq_ofNat_of_zero_le (show 0 ≤ p by omega)
    have h3 : n ≤ 4 := by omega
    obtain ⟨h4, h5, h6, h7⟩ := shN h3
    refine has55.eev rfl rfl ?_
    unfold m55
    repeat' (first
      | (refine g_op ?_; first
        | refine ep_mov rfl ?_ | refine ep_load1 rfl rfl rfl rfl ?_ | refine ep_fieldAddr rfl ?_
        | refine ep_call0 rfl (by first | exact ev100 _ | exact ev101 _ _ _ | exact ev102 _ h3) rfl rfl ?_
        | refine sp_call rfl rfl rfl rfl (by first | exact ev100 _ | exact ev101 _ _ _ | exact ev102 _ h3) ⟨rfl, rfl, rfl, rfl⟩ rfl rfl rfl ?_
        | refine ep_callw0 rfl (by first | exact ev100 _ | exact ev101 _ _ _ | exact ev102 _ h3) rfl rfl ?_
        | refine sp_callw rfl rfl rfl rfl (by first | exact ev100 _ | exact ev101 _ _ _ | exact ev102 _ h3) ⟨rfl, rfl, rfl, rfl⟩ rfl rfl rfl (by first | exact WrP_refl _ _ | (repeat' (first | exact rfl | exact True.intro | refine And.intro ?_ ?_))) ?_
        | refine ep_bin rfl rfl (by exact b_sub (by omega) (by omega)) ?_ | refine ep_pickT rfl rfl ?_ | refine ep_pickF rfl rfl ?_ | refine ep_pickTH rfl (by assumption) rfl ?_ | refine ep_pickFH rfl (by assumption) rfl ?_
        | refine sp_box rfl rfl rfl rfl rfl ?_)
      | (refine g_ops ?_; first | refine eo_none ?_ | refine eo_nil ?_ | refine eo_yes rfl ?_ | refine eo_no rfl ?_ | refine eo_und rfl ?_ | refine eo_yesH rfl (by assumption) ?_ | refine eo_noH rfl (by assumption) ?_)
      | (refine g_dops ?_; first | refine ed_none ?_ | refine ed_nil ?_ | refine ed_yes rfl ?_ | refine ed_no rfl ?_ | refine ed_und rfl ?_ | refine ed_yesH rfl (by assumption) ?_ | refine ed_noH rfl (by assumption) ?_)
      | refine ed_same rfl ?_ | refine ed_one rfl rfl rfl rfl ?_ | refine ed_two rfl rfl rfl rfl rfl rfl rfl ?_ | refine ed_write rfl rfl ?_
      | (refine g_code ?_; first | refine ec_seq ?_ | refine ec_region ?_ | refine ec_draw ?_ | refine ec_ret ?_)
      | refine ek_seqN ?_ | refine ek_seqR ?_)
    refine sfin (.inr rfl) (by rfl) (by rfl) (by exact ⟨rfl, rfl, rfl⟩) (by rfl) (by rfl) (by exact congrArg V.bool (by simp [isFn, h1])) (by first | rfl | (simp; done) | (simp [ints, prs]; done))
  · have h2 : decide (0 ≤ p ∧ p ≤ 4) = false := decide_eq_false h1
    refine has55.eev rfl rfl ?_
    unfold m55
    repeat' (first
      | (refine g_op ?_; first
        | refine ep_mov rfl ?_ | refine ep_load1 rfl rfl rfl rfl ?_ | refine ep_fieldAddr rfl ?_
        | refine ep_call0 rfl (by first | exact ev100 _ | exact ev101 _ _ _) rfl rfl ?_
        | refine sp_call rfl rfl rfl rfl (by first | exact ev100 _ | exact ev101 _ _ _) ⟨rfl, rfl, rfl, rfl⟩ rfl rfl rfl ?_
        | refine ep_callw0 rfl (by first | exact ev100 _ | exact ev101 _ _ _) rfl rfl ?_
        | refine sp_callw rfl rfl rfl rfl (by first | exact ev100 _ | exact ev101 _ _ _) ⟨rfl, rfl, rfl, rfl⟩ rfl rfl rfl (by first | exact WrP_refl _ _ | (repeat' (first | exact rfl | exact True.intro | refine And.intro ?_ ?_))) ?_
        | refine ep_bin rfl rfl (by exact b_sub (by omega) (by omega)) ?_ | refine ep_pickT rfl rfl ?_ | refine ep_pickF rfl rfl ?_ | refine ep_pickTH rfl (by assumption) rfl ?_ | refine ep_pickFH rfl (by assumption) rfl ?_
        | refine sp_box rfl rfl rfl rfl rfl ?_)
      | (refine g_ops ?_; first | refine eo_none ?_ | refine eo_nil ?_ | refine eo_yes rfl ?_ | refine eo_no rfl ?_ | refine eo_und rfl ?_ | refine eo_yesH rfl (by assumption) ?_ | refine eo_noH rfl (by assumption) ?_)
      | (refine g_dops ?_; first | refine ed_none ?_ | refine ed_nil ?_ | refine ed_yes rfl ?_ | refine ed_no rfl ?_ | refine ed_und rfl ?_ | refine ed_yesH rfl (by assumption) ?_ | refine ed_noH rfl (by assumption) ?_)
      | refine ed_same rfl ?_ | refine ed_one rfl rfl rfl rfl ?_ | refine ed_two rfl rfl rfl rfl rfl rfl rfl ?_ | refine ed_write rfl rfl ?_
      | (refine g_code ?_; first | refine ec_seq ?_ | refine ec_region ?_ | refine ec_draw ?_ | refine ec_ret ?_)
      | refine ek_seqN ?_ | refine ek_seqR ?_)
    refine sfin (.inr rfl) (by rfl) (by rfl) (by exact ⟨rfl, rfl, rfl⟩) (by rfl) (by rfl) (by exact congrArg V.bool (by simp [isFn, h1])) (by first | rfl | (simp; done) | (simp [ints, prs]; done))
-- spec.l01Is
def m53 : MC := (.seq (.region [⟨(.box (.t 0)), (some 1), none⟩, ⟨(.mov (.k (.bool false))), (some 2), none⟩] false) (.seq (.region [⟨(.fieldAddr 0 (.t 1)), (some 3), none⟩, ⟨(.load none (.t 3)), (some 4), none⟩, ⟨(.callw 97 [(.t 4), (.k (.int .i64 0)), (.k (.int .i64 4))]), (some 5), none⟩, ⟨(.mov (.t 5)), (some 6), none⟩, ⟨(.fieldAddr 1 (.t 1)), (some 7), (some (6, true))⟩, ⟨(.load none (.t 7)), (some 8), (some (6, true))⟩, ⟨(.fieldAddr 0 (.t 1)), (some 9), (some (6, true))⟩, ⟨(.load none (.t 9)), (some 10), (some (6, true))⟩, ⟨(.call 98 [(.t 10)]), (some 11), (some (6, true))⟩, ⟨(.callw 97 [(.t 8), (.k (.int .i64 0)), (.t 11)]), (some 12), (some (6, true))⟩, ⟨(.pick (.t 6) (.t 12) (.k (.bool false))), (some 13), none⟩, ⟨(.mov (.t 13)), (some 2), none⟩] true) .ret))
theorem has53 : Has cx 53 14 m53 [(.tmp 2)] :=
  ⟨⟨Try.f53, Try.f53.body.getD .skip, by kernel_rfl, by kernel_rfl, by kernel_rfl, by kernel_rfl, by kernel_rfl, by kernel_rfl⟩⟩
theorem ev53 (p t : Int) : Ev cx 53 [.agg [.int .i64 p, .int .i64 t]] [] (.bool (isFn p t)) [] := by
  by_cases h1 : 0 ≤ p ∧ p ≤ 4
  · have h2 : decide (0 ≤ p ∧ p ≤ 4) = true := decide_eq_true h1
    obtain ⟨n, rfl⟩ := Int.eq_ofNat_of_zero_le (show 0 ≤ p by omega)
    have h3 : n ≤ 4 := by omega
    obtain ⟨h4, h5, h6, h7⟩ := shN h3
    refine has53.eev rfl rfl ?_
    unfold m53
    repeat' (first
      | (refine g_op ?_; first
        | refine ep_mov rfl ?_ | refine ep_load1 rfl rfl rfl rfl ?_ | refine ep_fieldAddr rfl ?_
        | refine ep_call0 rfl (by first | exact ev97 _ _ _ | exact ev98 _ h3) rfl rfl ?_
        | refine sp_call rfl rfl rfl rfl (by first | exact ev97 _ _ _ | exact ev98 _ h3) ⟨rfl, rfl, rfl, rfl⟩ rfl rfl rfl ?_
        | refine ep_callw0 rfl (by first | exact ev97 _ _ _ | exact ev98 _ h3) rfl rfl ?_
        | refine sp_callw rfl rfl rfl rfl (by first | exact ev97 _ _ _ | exact ev98 _ h3) ⟨rfl, rfl, rfl, rfl⟩ rfl rfl rfl (by first | exact WrP_refl _ _ | (repeat' (first | exact rfl | exact True.intro | refine And.intro ?_ ?_))) ?_
        | refine ep_pickT rfl rfl ?_ | refine ep_pickF rfl rfl ?_ | refine ep_pickTH rfl (by assumption) rfl ?_ | refine ep_pickFH rfl (by assumption) rfl ?_ | refine sp_box rfl rfl rfl rfl rfl ?_)
      | (refine g_ops ?_; first | refine eo_none ?_ | refine eo_nil ?_ | refine eo_yes rfl ?_ | refine eo_no rfl ?_ | refine eo_und rfl ?_ | refine eo_yesH rfl (by assumption) ?_ | refine eo_noH rfl (by assumption) ?_)
      | (refine g_dops ?_; first | refine ed_none ?_ | refine ed_nil ?_ | refine ed_yes rfl ?_ | refine ed_no rfl ?_ | refine ed_und rfl ?_ | refine ed_yesH rfl (by assumption) ?_ | refine ed_noH rfl (by assumption) ?_)
      | refine ed_same rfl ?_ | refine ed_one rfl rfl rfl rfl ?_ | refine ed_two rfl rfl rfl rfl rfl rfl rfl ?_ | refine ed_write rfl rfl ?_
      | (refine g_code ?_; first | refine ec_seq ?_ | refine ec_region ?_ | refine ec_draw ?_ | refine ec_ret ?_)
      | refine ek_seqN ?_ | refine ek_seqR ?_)
    refine sfin (.inr rfl) (by rfl) (by rfl) (by exact ⟨rfl, rfl, rfl⟩) (by rfl) (by rfl) (by exact congrArg V.bool (by simp [isFn, h1])) (by first | rfl | (simp; done) | (simp [ints, prs]; done))
  · have h2 : decide (0 ≤ p ∧ p ≤ 4) = false := decide_eq_false h1
    refine has53.eev rfl rfl ?_
    unfold m53
    repeat' (first
      | (refine g_op ?_; first
        | refine ep_mov rfl ?_ | refine ep_load1 rfl rfl rfl rfl ?_ | refine ep_fieldAddr rfl ?_
        | refine ep_call0 rfl (by first | exact ev97 _ _ _) rfl rfl ?_
        | refine sp_call rfl rfl rfl rfl (by first | exact ev97 _ _ _) ⟨rfl, rfl, rfl, rfl⟩ rfl rfl rfl ?_
        | refine ep_callw0 rfl (by first | exact ev97 _ _ _) rfl rfl ?_
        | refine sp_callw rfl rfl rfl rfl (by first | exact ev97 _ _ _) ⟨rfl, rfl, rfl, rfl⟩ rfl rfl rfl (by first | exact WrP_refl _ _ | (repeat' (first | exact rfl | exact True.intro | refine And.intro ?_ ?_))) ?_
        | refine ep_pickT rfl rfl ?_ | refine ep_pickF rfl rfl ?_ | refine ep_pickTH rfl (by assumption) rfl ?_ | refine ep_pickFH rfl (by assumption) rfl ?_ | refine sp_box rfl rfl rfl rfl rfl ?_)
      | (refine g_ops ?_; first | refine eo_none ?_ | refine eo_nil ?_ | refine eo_yes rfl ?_ | refine eo_no rfl ?_ | refine eo_und rfl ?_ | refine eo_yesH rfl (by assumption) ?_ | refine eo_noH rfl (by assumption) ?_)
      | (refine g_dops ?_; first | refine ed_none ?_ | refine ed_nil ?_ | refine ed_yes rfl ?_ | refine ed_no rfl ?_ | refine ed_und rfl ?_ | refine ed_yesH rfl (by assumption) ?_ | refine ed_noH rfl (by assumption) ?_)
      | refine ed_same rfl ?_ | refine ed_one rfl rfl rfl rfl ?_ | refine ed_two rfl rfl rfl rfl rfl rfl rfl ?_ | refine ed_write rfl rfl ?_
      | (refine g_code ?_; first | refine ec_seq ?_ | refine ec_region ?_ | refine ec_draw ?_ | refine ec_ret ?_)
      | refine ek_seqN ?_ | refine ek_seqR ?_)
    refine sfin (.inr rfl) (by rfl) (by rfl) (by exact ⟨rfl, rfl, rfl⟩) (by rfl) (by rfl) (by exact congrArg V.bool (by simp [isFn, h1])) (by first | rfl | (simp; done) | (simp [ints, prs]; done))
-- laws.toFunc
def m17 : MC := (.seq (.region [⟨(.box (.t 0)), (some 1), none⟩, ⟨(.alloc [(.int .i64 0), (.int .i64 0)]), (some 2), none⟩] false) (.seq (.region [⟨(.alloc [(.int .i64 0), (.int .i64 0)]), (some 3), none⟩] false) (.seq (.region [⟨(.fieldAddr 0 (.t 1)), (some 4), none⟩, ⟨(.load none (.t 4)), (some 5), none⟩, ⟨(.fieldAddr 0 (.t 3)), (some 6), none⟩, ⟨(.store 1 (.t 6) (.t 5)), none, none⟩] false) (.seq (.region [⟨(.fieldAddr 1 (.t 1)), (some 7), none⟩, ⟨(.load none (.t 7)), (some 8), none⟩, ⟨(.fieldAddr 1 (.t 3)), (some 9), none⟩, ⟨(.store 1 (.t 9) (.t 8)), none, none⟩] false) (.seq (.region [⟨(.load (some 2) (.t 3)), (some 10), none⟩, ⟨(.store 2 (.t 2) (.t 10)), none, none⟩] false) .ret)))))
theorem has17 : Has cx 17 11 m17 [(.cell 2 (some 2))] :=
  ⟨⟨Try.f17, Try.f17.body.getD .skip, by kernel_rfl, by kernel_rfl, by kernel_rfl, by kernel_rfl, by kernel_rfl, by kernel_rfl⟩⟩
theorem ev17 (a b : Int) : Ev cx 17 [.agg [.int .i64 a, .int .i64 b]] [] (.agg [.int .i64 a, .int .i64 b]) [] := by
  refine has17.eev rfl rfl ?_
  unfold m17
  repeat' (first
    | (refine g_op ?_; first
      | refine ep_load1 rfl rfl rfl rfl ?_ | refine ep_fieldAddr rfl ?_ | refine sp_loadN rfl rfl rfl rfl rfl ?_
      | refine sp_store rfl rfl rfl rfl rfl rfl rfl rfl rfl rfl ?_ | refine sp_box rfl rfl rfl rfl rfl ?_ | refine sp_alloc rfl rfl ?_)
    | (refine g_ops ?_; first | refine eo_none ?_ | refine eo_nil ?_)
    | (refine g_code ?_; first | refine ec_seq ?_ | refine ec_region ?_ | refine ec_ret ?_)
    | refine ek_seqN ?_ | refine ek_seqR ?_)
  refine sfin (.inr rfl) (by rfl) (by rfl) (by exact ⟨rfl, rfl, rfl⟩) (by rfl) (by rfl) (by rfl) (by first | rfl | (simp; done) | (simp [ints, prs]; done))
-- spec.l01At
def m57 : MC := (.seq (.region [⟨(.box (.t 0)), (some 2), none⟩, ⟨(.mov (.k (.int .i64 0))), (some 4), none⟩] false) (.seq (.region [⟨(.fieldAddr 1 (.t 2)), (some 5), none⟩, ⟨(.load none (.t 5)), (some 6), none⟩, ⟨(.mov (.t 1)), (some 7), none⟩, ⟨(.conv .u64 (.t 7)), (some 8), none⟩, ⟨(.bin .shr (.t 6) (.t 8)), (some 9), none⟩, ⟨(.bin .and (.t 9) (.k (.int .i64 1))), (some 10), none⟩, ⟨(.mov (.t 10)), (some 4), none⟩] false) .ret))
theorem has57 : Has cx 57 11 m57 [(.tmp 4)] :=
  ⟨⟨Try.f57, Try.f57.body.getD .skip, by kernel_rfl, by kernel_rfl, by kernel_rfl, by kernel_rfl, by kernel_rfl, by kernel_rfl⟩⟩
theorem ev57 (n : Int) (b r : Nat) (hb : b < 9223372036854775808) (hr : r ≤ 64) : Ev cx 57 [.agg [.int .i64 n, .int .i64 b], .int .i64 r] [] (.int .i64 (bt b r : Nat)) [] := by
  refine has57.eev rfl rfl ?_
  unfold m57
  repeat' (first
    | (refine g_op ?_; first
      | refine ep_mov rfl ?_ | refine ep_load1 rfl rfl rfl rfl ?_ | refine ep_fieldAddr rfl ?_
      | refine ep_bin rfl rfl (by first | exact b_shr hr | exact b_bt hb | exact b_and (by omega) (by omega) | exact b_shr (by omega)) ?_ | refine ep_conv rfl (by first | exact w_u64 (by omega) (by omega) | exact wrap_id (by omega) (by omega) | rfl) ?_
      | refine sp_box rfl rfl rfl rfl rfl ?_)
    | (refine g_ops ?_; first | refine eo_none ?_ | refine eo_nil ?_)
    | (refine g_code ?_; first | refine ec_seq ?_ | refine ec_region ?_ | refine ec_ret ?_)
    | refine ek_seqN ?_ | refine ek_seqR ?_)
  refine sfin (.inr rfl) (by rfl) (by rfl) (by exact ⟨rfl, rfl, rfl⟩) (by rfl) (by rfl) (by rfl) (by first | rfl | (simp; done) | (simp [ints, prs]; done))
def ints (l : List Nat) : List V := l.map fun (x : Nat) => .int .i64 (x : Int)
def zints (l : List Int) : List V := l.map fun x => .int .i64 x
def prs (n : Nat) (l : List Nat) : List V := l.flatMap fun (b : Nat) => [.int .i64 n, .int .i64 b]
theorem ints_len (l : List Nat) : (ints l).length = l.length * 1 := by simp [ints]
theorem zints_len (l : List Int) : (zints l).length = l.length * 1 := by simp [zints]
theorem prs_len (n : Nat) : ∀ (l : List Nat), (prs n l).length = l.length * 2
  | [] => rfl
  | x :: xs => by have := prs_len n xs; simp [prs] at this ⊢; omega
def selm (p : Nat → Bool) (g : Nat → Nat) (n : Nat) : List Nat := ((List.range n).filter p).map g
theorem selm_t {p : Nat → Bool} {g : Nat → Nat} {i : Nat} (h : p i = true) : selm p g (i + 1) = selm p g i ++ [g i] := by
  simp [selm, List.range_succ, List.filter_append, h]
theorem selm_f {p : Nat → Bool} {g : Nat → Nat} {i : Nat} (h : p i = false) : selm p g (i + 1) = selm p g i := by
  simp [selm, List.range_succ, List.filter_append, h]
theorem selm_len (p : Nat → Bool) (g : Nat → Nat) : ∀ n, (selm p g n).length ≤ n
  | 0 => by simp [selm]
  | n + 1 => by
    have := selm_len p g n
    cases h : p n with
    | true => rw [selm_t h]; simp; omega
    | false => rw [selm_f h]; omega
theorem selm_congr {p q : Nat → Bool} {g h : Nat → Nat} : ∀ (n : Nat), (∀ i, i < n → p i = q i ∧ (p i = true → g i = h i)) → selm p g n = selm q h n
  | 0, _ => rfl
  | n + 1, hh => by
    have ih := selm_congr n fun i hi => hh i (by omega)
    obtain ⟨h1, h2⟩ := hh n (by omega)
    cases hp : p n with
    | true => rw [selm_t hp, selm_t (by rw [← h1]; exact hp), ih, h2 hp]
    | false => rw [selm_f hp, selm_f (by rw [← h1]; exact hp), ih]
def slV (z : V) (k : Nat) (l : List Nat) : V := match l with | [] => z | x :: xs => .sl k 0 (x :: xs).length
def slH (k es : Nat) (c : List Nat → List V) (l : List Nat) : List Blk := match l with | [] => [] | x :: xs => [⟨c (x :: xs), es, k, some 0, false⟩]
abbrev idn : Nat → Nat := fun i => i
def pk (g : Nat → Nat) : Nat → Nat
  | 0 => 0
  | n + 1 => pk g n ||| (g n <<< n)
theorem pk_tb {g : Nat → Nat} : ∀ {n : Nat}, (∀ r, r < n → g r ≤ 1) → ∀ r, (pk g n).testBit r = (decide (r < n) && decide (g r = 1))
  | 0, _, r => by simp [pk]
  | n + 1, h, r => by
    rw [pk, Nat.testBit_or, pk_tb (fun r hr => h r (by omega)), Nat.testBit_shiftLeft]
    have hn := h n (by omega)
    by_cases e : r = n
    · subst e
      have : g r = 0 ∨ g r = 1 := by omega
      rcases this with h | h <;> simp [h]
    · by_cases hl : r < n
      · have : ¬ n ≤ r := by omega
        have : r < n + 1 := by omega
        simp [*]
      · have h1 : n ≤ r := by omega
        have h2 : ¬ r < n + 1 := by omega
        simp only [hl, h1, h2, decide_false, Bool.false_and, Bool.false_or, ge_iff_le, decide_true, Bool.true_and]
        exact Nat.testBit_lt_two_pow (Nat.lt_of_le_of_lt hn (Nat.one_lt_two_pow (by omega)))
theorem lt_R2 {x n : Nat} (h : ∀ r, n ≤ r → x.testBit r = false) : x < R2 n := by
  unfold R2; exact Nat.lt_pow_two_of_testBit x fun i hi => h i hi
theorem pk_lt {g : Nat → Nat} {n : Nat} (h : ∀ r, r < n → g r ≤ 1) : pk g n < R2 n := by
  refine lt_R2 fun r hr => ?_
  rw [pk_tb h]; have : ¬ r < n := by omega
  simp [this]
theorem sl_lt {x i m : Nat} (hx : x ≤ 1) (hi : i < m) : x <<< i < R2 m := by
  rw [Nat.shiftLeft_eq]; unfold R2
  have h1 : 2 ^ i < 2 ^ m := Nat.pow_lt_pow_right (by omega) hi
  have h2 : x * 2 ^ i ≤ 1 * 2 ^ i := Nat.mul_le_mul_right _ hx
  omega
theorem R2_mono {i n : Nat} (h : i ≤ n) : R2 i ≤ R2 n := by unfold R2; exact Nat.pow_le_pow_right (by omega) h
theorem pk_add {g : Nat → Nat} {n : Nat} (h : ∀ r, r < n → g r ≤ 1) : pk g n + (g n <<< n) = pk g (n + 1) := by
  have hl := pk_lt h
  rw [pk, Nat.or_comm, Nat.shiftLeft_eq, Nat.add_comm]
  unfold R2 at hl
  rw [Nat.mul_comm (g n), Nat.two_pow_add_eq_or_of_lt hl]
theorem pk_congr {g h : Nat → Nat} : ∀ {n : Nat}, (∀ r, r < n → g r = h r) → pk g n = pk h n
  | 0, _ => rfl
  | n + 1, hh => by rw [pk, pk, pk_congr fun r hr => hh r (by omega), hh n (by omega)]
/-- A set of numbers as bits. -/
-- impl.funcsThat
def m129_0 : MC := (.seq (.region [⟨(.bin .lss (.t 10) (.t 9)), (some 11), none⟩] false) (.seq (.cond (.t 11) .skip (.exit 0)) (.seq (.block 1 (.seq (.region [⟨(.mov (.t 10)), (some 12), none⟩, ⟨(.mov (.t 12)), (some 6), none⟩] false) (.seq (.region [⟨(.mov (.t 0)), (some 13), none⟩, ⟨(.mov (.t 6)), (some 14), none⟩, ⟨(.build [(.int .i64 0), (.int .i64 0)] [(0, (1, (.t 13))), (1, (1, (.t 14)))]), (some 15), none⟩, ⟨(.alloc [(.int .i64 0), (.int .i64 0)]), (some 7), none⟩, ⟨(.store 2 (.t 7) (.t 15)), none, none⟩] false) (.seq (.region [⟨(.mov (.t 1)), (some 16), none⟩, ⟨(.load (some 2) (.t 7)), (some 17), none⟩, ⟨(.callv (.t 16) [(.t 17)]), (some 18), none⟩] false) (.cond (.t 18) (.region [⟨(.mov (.t 5)), (some 19), none⟩, ⟨(.load (some 2) (.t 7)), (some 20), none⟩, ⟨(.bslice 2 [(.int .i64 0), (.int .i64 0)] 1 [(0, (2, (.t 20)))]), (some 21), none⟩, ⟨(.append 2 16 (.t 19) (.t 21)), (some 22), none⟩, ⟨(.mov (.t 22)), (some 5), none⟩] false) .skip))))) (.region [⟨(.bin .add (.t 10) (.k (.int .i64 1))), (some 23), none⟩, ⟨(.mov (.t 23)), (some 10), none⟩] false))))
def m129 : MC := (.seq (.region [⟨(.mov (.k .nils)), (some 4), none⟩] false) (.seq (.region [⟨(.mov (.k .nils)), (some 5), none⟩] false) (.seq (.seq (.region [⟨(.mov (.t 0)), (some 8), none⟩, ⟨(.call 102 [(.t 8)]), (some 9), none⟩, ⟨(.mov (.k (.int .i64 0))), (some 10), none⟩] false) (.block 0 (.loop m129_0))) (.seq (.region [⟨(.mov (.t 5)), (some 24), none⟩, ⟨(.mov (.t 24)), (some 4), none⟩] false) .ret))))
theorem has129 : Has cx 129 25 m129 [(.tmp 4)] :=
  ⟨⟨Try.f129, Try.f129.body.getD .skip, by kernel_rfl, by kernel_rfl, by kernel_rfl, by kernel_rfl, by kernel_rfl, by kernel_rfl⟩⟩

-- impl.funcBy
def m145_0 : MC := (.seq (.region [⟨(.bin .lss (.t 11) (.t 10)), (some 12), none⟩] false) (.seq (.cond (.t 12) .skip (.exit 0)) (.seq (.block 1 (.seq (.region [⟨(.mov (.t 11)), (some 13), none⟩, ⟨(.mov (.t 13)), (some 6), none⟩] false) (.region [⟨(.fieldAddr 1 (.t 5)), (some 14), none⟩, ⟨(.load none (.t 14)), (some 15), none⟩, ⟨(.mov (.t 1)), (some 16), none⟩, ⟨(.mov (.t 6)), (some 17), none⟩, ⟨(.callv (.t 16) [(.t 17)]), (some 18), none⟩, ⟨(.mov (.t 6)), (some 19), none⟩, ⟨(.bin .shl (.t 18) (.t 19)), (some 20), none⟩, ⟨(.bin .or (.t 15) (.t 20)), (some 21), none⟩, ⟨(.fieldAddr 1 (.t 5)), (some 22), none⟩, ⟨(.store 1 (.t 22) (.t 21)), none, none⟩] true))) (.region [⟨(.bin .add (.t 11) (.k (.int .i64 1))), (some 23), none⟩, ⟨(.mov (.t 23)), (some 11), none⟩] false))))
def m145 : MC := (.seq (.region [⟨(.alloc [(.int .i64 0), (.int .i64 0)]), (some 4), none⟩] false) (.seq (.region [⟨(.mov (.t 0)), (some 7), none⟩, ⟨(.build [(.int .i64 0), (.int .i64 0)] [(0, (1, (.t 7)))]), (some 8), none⟩, ⟨(.alloc [(.int .i64 0), (.int .i64 0)]), (some 5), none⟩, ⟨(.store 2 (.t 5) (.t 8)), none, none⟩] false) (.seq (.seq (.region [⟨(.mov (.t 0)), (some 9), none⟩, ⟨(.call 136 [(.t 9)]), (some 10), none⟩, ⟨(.mov (.k (.int .i64 0))), (some 11), none⟩] false) (.block 0 (.loop m145_0))) (.seq (.region [⟨(.load (some 2) (.t 5)), (some 24), none⟩, ⟨(.store 2 (.t 4) (.t 24)), none, none⟩] false) .ret))))
theorem has145 : Has cx 145 25 m145 [(.cell 4 (some 2))] :=
  ⟨⟨Try.f145, Try.f145.body.getD .skip, by kernel_rfl, by kernel_rfl, by kernel_rfl, by kernel_rfl, by kernel_rfl, by kernel_rfl⟩⟩

theorem R2_pos (n : Nat) : 1 ≤ R2 n := by unfold R2; exact Nat.one_le_two_pow
theorem R2_succ (n : Nat) : R2 (n + 1) = 2 * R2 n := by unfold R2; rw [Nat.pow_succ]; omega
theorem ieq (x y : Nat) : (((x : Nat) : Int) == ((y : Nat) : Int)) = (x == y) := by rw [Bool.eq_iff_iff]; simp only [beq_iff_eq]; omega
theorem ints_get {l : List Nat} {j : Nat} (h : j < l.length) : (ints l)[0 + j * 1]? = some (.int .i64 (l.getD j 0 : Nat)) := by
  simp [ints, h]
theorem zints_get {l : List Int} {j : Nat} (h : j < l.length) : (zints l)[0 + j * 1]? = some (.int .i64 (l.getD j 0)) := by
  simp [zints, h]
theorem prs_get {n : Nat} : ∀ {l : List Nat} {j : Nat} (_ : j < l.length), [V.int .i64 (n : Nat), V.int .i64 (l.getD j 0 : Nat)].length = 2 ∧ (0 + j * 2) + 2 ≤ (prs n l).length ∧ ((prs n l).drop (0 + j * 2)).take 2 = [V.int .i64 (n : Nat), V.int .i64 (l.getD j 0 : Nat)]
  | [], j, h => by simp at h
  | x :: xs, 0, h => by simp [prs]
  | x :: xs, j + 1, h => by
    obtain ⟨_, h2, h3⟩ := prs_get (n := n) (l := xs) (j := j) (by simpa using h)
    have e : (0 + (j + 1) * 2) = (0 + j * 2) + 2 := by omega
    rw [e]
    have e2 : prs n (x :: xs) = .int .i64 (n : Nat) :: .int .i64 (x : Nat) :: prs n xs := by simp [prs]
    rw [e2]
    refine ⟨rfl, by simp; omega, ?_⟩
    rw [List.drop_succ_cons, List.drop_succ_cons, h3]; simp
def fns (l : List (Int × Int)) : List V := l.flatMap fun (f : Int × Int) => [.int .i64 f.1, .int .i64 f.2]
theorem fns_len : ∀ (l : List (Int × Int)), (fns l).length = l.length * 2
  | [] => rfl
  | x :: xs => by have := fns_len xs; simp [fns] at this ⊢; omega
theorem fns_get : ∀ {l : List (Int × Int)} {j : Nat} (_ : j < l.length), [V.int .i64 (l.getD j (0, 0)).1, V.int .i64 (l.getD j (0, 0)).2].length = 2 ∧ (0 + j * 2) + 2 ≤ (fns l).length ∧ ((fns l).drop (0 + j * 2)).take 2 = [V.int .i64 (l.getD j (0, 0)).1, V.int .i64 (l.getD j (0, 0)).2]
  | [], j, h => by simp at h
  | x :: xs, 0, h => by simp [fns]
  | x :: xs, j + 1, h => by
    obtain ⟨_, h2, h3⟩ := fns_get (l := xs) (j := j) (by simpa using h)
    have e : (0 + (j + 1) * 2) = (0 + j * 2) + 2 := by omega
    rw [e]
    have e2 : fns (x :: xs) = .int .i64 x.1 :: .int .i64 x.2 :: fns xs := by simp [fns]
    rw [e2]
    refine ⟨rfl, by simp; omega, ?_⟩
    rw [List.drop_succ_cons, List.drop_succ_cons, h3]; simp
theorem selm_all {g : Nat → Nat} (n : Nat) : (selm (fun _ => true) g n).length = n ∧ ∀ r, r < n → (selm (fun _ => true) g n).getD r 0 = g r := by
  have e : selm (fun _ => true) g n = (List.range n).map g := by unfold selm; rw [List.filter_eq_self.mpr (fun _ _ => rfl)]
  rw [e]; refine ⟨by simp, fun r hr => by simp [List.getD_eq_getElem?_getD, hr]⟩
-- spec.l01Of
def m62_0 : MC := (.seq (.seq (.region [⟨(.mov (.t 6)), (some 9), none⟩, ⟨(.mov (.t 0)), (some 10), none⟩, ⟨(.call 58 [(.t 10)]), (some 11), none⟩, ⟨(.bin .lss (.t 9) (.t 11)), (some 12), none⟩] false) (.cond (.t 12) .skip (.exit 0))) (.seq (.block 1 (.region [⟨(.fieldAddr 1 (.t 5)), (some 15), none⟩, ⟨(.load none (.t 15)), (some 16), none⟩, ⟨(.mov (.t 1)), (some 17), none⟩, ⟨(.mov (.t 6)), (some 18), none⟩, ⟨(.indexAddr 1 (.t 17) (.t 18)), (some 19), none⟩, ⟨(.load none (.t 19)), (some 20), none⟩, ⟨(.mov (.t 6)), (some 21), none⟩, ⟨(.conv .u64 (.t 21)), (some 22), none⟩, ⟨(.bin .shl (.t 20) (.t 22)), (some 23), none⟩, ⟨(.bin .add (.t 16) (.t 23)), (some 24), none⟩, ⟨(.fieldAddr 1 (.t 5)), (some 25), none⟩, ⟨(.store 1 (.t 25) (.t 24)), none, none⟩] true)) (.region [⟨(.mov (.t 6)), (some 13), none⟩, ⟨(.bin .add (.t 13) (.k (.int .i64 1))), (some 14), none⟩, ⟨(.mov (.t 14)), (some 6), none⟩] false)))
def m62 : MC := (.seq (.region [⟨(.alloc [(.int .i64 0), (.int .i64 0)]), (some 4), none⟩] false) (.seq (.region [⟨(.mov (.t 0)), (some 7), none⟩, ⟨(.build [(.int .i64 0), (.int .i64 0)] [(0, (1, (.t 7)))]), (some 8), none⟩, ⟨(.alloc [(.int .i64 0), (.int .i64 0)]), (some 5), none⟩, ⟨(.store 2 (.t 5) (.t 8)), none, none⟩] false) (.seq (.seq (.region [⟨(.mov (.k (.int .i64 0))), (some 6), none⟩] false) (.block 0 (.loop m62_0))) (.seq (.region [⟨(.load (some 2) (.t 5)), (some 26), none⟩, ⟨(.store 2 (.t 4) (.t 26)), none, none⟩] false) .ret))))
theorem has62 : Has cx 62 27 m62 [(.cell 4 (some 2))] :=
  ⟨⟨Try.f62, Try.f62.body.getD .skip, by kernel_rfl, by kernel_rfl, by kernel_rfl, by kernel_rfl, by kernel_rfl, by kernel_rfl⟩⟩
theorem lp62_0 (n p : Nat) (l : List Nat) (hn : n ≤ 4) (hl : R2 n ≤ l.length) (h01 : ∀ r, r < R2 n → l.getD r 0 ≤ 1) :
    LpS cx 27 1 m62_0 [(0, .int .i64 (n : Nat)), (1, .sl 0 0 l.length), (4, .ptr 1 0), (5, .ptr 2 0), (6, .int .i64 (0 : Nat))] [⟨ints l, 1, 0, some p, false⟩, ⟨[.int .i64 0, .int .i64 0], 1, 1, some 0, true⟩, ⟨[.int .i64 (n : Nat), .int .i64 (pk (fun r => l.getD r 0) (0) : Nat)], 1, 2, some 0, true⟩] (⟨.exit 0, [(4, .ptr 1 0), (5, .ptr 2 0)], [⟨ints l, 1, 0, some p, false⟩, ⟨[.int .i64 0, .int .i64 0], 1, 1, some 0, true⟩, ⟨[.int .i64 (n : Nat), .int .i64 (pk (fun r => l.getD r 0) (R2 n) : Nat)], 1, 2, some 0, true⟩]⟩ : Out).x (⟨.exit 0, [(4, .ptr 1 0), (5, .ptr 2 0)], [⟨ints l, 1, 0, some p, false⟩, ⟨[.int .i64 0, .int .i64 0], 1, 1, some 0, true⟩, ⟨[.int .i64 (n : Nat), .int .i64 (pk (fun r => l.getD r 0) (R2 n) : Nat)], 1, 2, some 0, true⟩]⟩ : Out).e (⟨.exit 0, [(4, .ptr 1 0), (5, .ptr 2 0)], [⟨ints l, 1, 0, some p, false⟩, ⟨[.int .i64 0, .int .i64 0], 1, 1, some 0, true⟩, ⟨[.int .i64 (n : Nat), .int .i64 (pk (fun r => l.getD r 0) (R2 n) : Nat)], 1, 2, some 0, true⟩]⟩ : Out).h := by
  obtain ⟨h1, h2, h3, h4⟩ := shN hn
  refine lp_st (R2 n) (fun _ => ()) (fun i _ => [(0, .int .i64 (n : Nat)), (1, .sl 0 0 l.length), (4, .ptr 1 0), (5, .ptr 2 0), (6, .int .i64 (i : Nat))]) (fun i _ => [⟨ints l, 1, 0, some p, false⟩, ⟨[.int .i64 0, .int .i64 0], 1, 1, some 0, true⟩, ⟨[.int .i64 (n : Nat), .int .i64 (pk (fun r => l.getD r 0) (i) : Nat)], 1, 2, some 0, true⟩]) (fun _ => (⟨.exit 0, [(4, .ptr 1 0), (5, .ptr 2 0)], [⟨ints l, 1, 0, some p, false⟩, ⟨[.int .i64 0, .int .i64 0], 1, 1, some 0, true⟩, ⟨[.int .i64 (n : Nat), .int .i64 (pk (fun r => l.getD r 0) (R2 n) : Nat)], 1, 2, some 0, true⟩]⟩ : Out)) ?_ ?_ (R2 n) 0 (by omega)
  · intro i u_ hi hu_
    refine ⟨(), rfl, ?_⟩
    have hlt : decide ((i : Int) < (R2 n : Nat)) = true := decide_eq_true (by omega)
    have hg := h01 i hi
    have hp0 := pk_lt (g := fun r => l.getD r 0) (n := i + 1) fun r hr => h01 r (by omega)
    have hp3 := pk_add (g := fun r => l.getD r 0) (n := i) fun r hr => h01 r (by omega)
    have hp1 := R2_mono (i := i + 1) (n := R2 n) (by omega)
    have hs1 := sl_lt hg hi
    have hb0 : binV .add (.int .i64 (pk (fun r => l.getD r 0) i : Nat)) (.int .i64 (l.getD i 0 <<< i : Nat)) = some (.int .i64 (pk (fun r => l.getD r 0) (i + 1) : Nat)) := by
      rw [← hp3] at hp0 ⊢; exact b_addN (by omega)
    unfold m62_0
    repeat' (first
      | (refine g_op ?_; first
        | refine ep_mov rfl ?_ | refine ep_load1 rfl rfl rfl rfl ?_ | refine ep_fieldAddr rfl ?_
        | refine ep_call0 rfl (by first | exact ev58 _ hn) rfl rfl ?_
        | refine sp_call rfl rfl rfl rfl (by first | exact ev58 _ hn) ⟨rfl, rfl, rfl, rfl⟩ rfl rfl rfl ?_
        | refine ep_bin rfl rfl (by first | exact hb0 | exact b_shl (x := l.getD i 0) (by omega) (by omega) | exact b_add (by omega) (by omega) | exact b_shl (by omega) (by omega) | exact b_lss) ?_ | refine sp_store rfl rfl rfl rfl rfl rfl rfl rfl rfl rfl ?_
        | refine ep_conv rfl (by first | exact w_u64 (by omega) (by omega) | exact wrap_id (by omega) (by omega) | rfl) ?_ | refine sp_idx rfl rfl rfl (by omega) rfl ?_ | refine ep_loadS rfl rfl rfl (by first | exact ints_get (by omega) | exact zints_get (by omega) | exact fget (by omega) | assumption) ?_)
      | (refine g_ops ?_; first | refine eo_none ?_ | refine eo_nil ?_)
      | (refine g_dops ?_; first | refine ed_none ?_ | refine ed_nil ?_)
      | refine ed_same rfl ?_ | refine ed_one rfl rfl rfl rfl ?_ | refine ed_two rfl rfl rfl rfl rfl rfl rfl ?_ | refine ed_write rfl rfl ?_
      | (refine g_code ?_; first | refine ec_seq ?_ | refine ec_region ?_ | refine ec_draw ?_ | refine ec_block ?_ | refine ec_skip ?_ | refine ec_exit ?_ | refine ec_condT rfl ?_ | refine ec_condF rfl ?_ | refine ec_condTH rfl (by assumption) ?_ | refine ec_condFH rfl (by assumption) ?_)
      | refine ek_seqN ?_ | refine ek_seqX ?_ | refine ek_blkN ?_ | refine ek_blkR ?_ | refine ek_blkX ?_ | refine ek_blkY rfl ?_)
    exact rnd_on (by rfl) (scmp2 (by rfl) (by rfl) (by exact ⟨rfl, rfl, rfl⟩) (by rfl) (by first | rfl | (simp; done) | (simp [ints, prs]; done)) (by rfl) (by first | rfl | (simp; done) | (simp [ints, prs]; done)))
  · intro u_ hu_
    have hlt : decide (((R2 n : Nat) : Int) < (R2 n : Nat)) = false := decide_eq_false (by omega)
    unfold m62_0
    repeat' (first
      | (refine g_op ?_; first
        | refine ep_mov rfl ?_ | refine ep_load1 rfl rfl rfl rfl ?_ | refine ep_fieldAddr rfl ?_
        | refine ep_call0 rfl (by first | exact ev58 _ hn) rfl rfl ?_
        | refine sp_call rfl rfl rfl rfl (by first | exact ev58 _ hn) ⟨rfl, rfl, rfl, rfl⟩ rfl rfl rfl ?_
        | refine ep_bin rfl rfl (by first | exact hb0 | exact b_shl (x := l.getD i 0) (by omega) (by omega) | exact b_add (by omega) (by omega) | exact b_shl (by omega) (by omega) | exact b_lss) ?_ | refine sp_store rfl rfl rfl rfl rfl rfl rfl rfl rfl rfl ?_
        | refine ep_conv rfl (by first | exact w_u64 (by omega) (by omega) | exact wrap_id (by omega) (by omega) | rfl) ?_ | refine sp_idx rfl rfl rfl (by omega) rfl ?_ | refine ep_loadS rfl rfl rfl (by first | exact ints_get (by omega) | exact zints_get (by omega) | exact fget (by omega) | assumption) ?_)
      | (refine g_ops ?_; first | refine eo_none ?_ | refine eo_nil ?_)
      | (refine g_dops ?_; first | refine ed_none ?_ | refine ed_nil ?_)
      | refine ed_same rfl ?_ | refine ed_one rfl rfl rfl rfl ?_ | refine ed_two rfl rfl rfl rfl rfl rfl rfl ?_ | refine ed_write rfl rfl ?_
      | (refine g_code ?_; first | refine ec_seq ?_ | refine ec_region ?_ | refine ec_draw ?_ | refine ec_block ?_ | refine ec_skip ?_ | refine ec_exit ?_ | refine ec_condT rfl ?_ | refine ec_condF rfl ?_ | refine ec_condTH rfl (by assumption) ?_ | refine ec_condFH rfl (by assumption) ?_)
      | refine ek_seqN ?_ | refine ek_seqX ?_ | refine ek_blkN ?_ | refine ek_blkR ?_ | refine ek_blkX ?_ | refine ek_blkY rfl ?_)
    exact rnd_out (by rfl) (by simp) (scmp2 (by rfl) (by rfl) (by exact ⟨rfl, rfl, rfl⟩) (by rfl) (by first | rfl | (simp; done) | (simp [ints, prs]; done)) (by rfl) (by first | rfl | (simp; done) | (simp [ints, prs]; done)))

theorem ev62 (n p : Nat) (l : List Nat) (hn : n ≤ 4) (hl : R2 n ≤ l.length) (h01 : ∀ r, r < R2 n → l.getD r 0 ≤ 1) : Ev cx 62 [.int .i64 n, .sl 0 0 l.length] [⟨ints l, 1, 0, some p, false⟩] (.agg [.int .i64 n, .int .i64 (pk (fun r => l.getD r 0) (R2 n) : Nat)]) [⟨ints l, 1, 0, some p, false⟩] := by
  have lp := lp62_0 n p l hn hl h01
  refine has62.eev rfl rfl ?_
  unfold m62
  repeat' (first
    | refine sc_loop lp rfl rfl ⟨rfl, rfl, rfl⟩ rfl rfl rfl ?_
    | (refine g_op ?_; first
      | refine ep_mov rfl ?_ | refine sp_loadN rfl rfl rfl rfl rfl ?_
      | refine sp_store rfl rfl rfl rfl rfl rfl rfl rfl rfl rfl ?_ | refine sp_alloc rfl rfl ?_ | refine sp_build rfl rfl ?_)
    | (refine g_ops ?_; first | refine eo_none ?_ | refine eo_nil ?_)
    | (refine g_code ?_; first | refine ec_seq ?_ | refine ec_region ?_ | refine ec_block ?_ | refine ec_ret ?_)
    | refine ek_seqN ?_ | refine ek_seqX ?_ | refine ek_seqR ?_ | refine ek_blkN ?_ | refine ek_blkR ?_ | refine ek_blkX ?_ | refine ek_blkY rfl ?_)
  refine sfin (.inr rfl) (by rfl) (by rfl) (by exact ⟨rfl, rfl, rfl⟩) (by rfl) (by rfl) (by rfl) (by first | rfl | (simp; done) | (simp [ints, prs]; done))
def firstF (p : Nat → Bool) : Nat → Nat → Option Nat
  | _, 0 => none
  | i, j + 1 => if p i = true then firstF p (i + 1) j else some i
theorem firstF_none {p : Nat → Bool} : ∀ {j i : Nat}, (∀ x, i ≤ x → x < i + j → p x = true) → firstF p i j = none
  | 0, _, _ => rfl
  | j + 1, i, h => by
    rw [firstF, if_pos (h i (Nat.le_refl _) (by omega))]
    exact firstF_none fun x h1 h2 => h x (by omega) (by omega)
theorem firstF_some {p : Nat → Bool} : ∀ {j i x : Nat}, i ≤ x → x < i + j → p x = false → (∀ y, i ≤ y → y < x → p y = true) → firstF p i j = some x
  | 0, i, x, h1, h2, _, _ => by omega
  | j + 1, i, x, h1, h2, h3, h4 => by
    rw [firstF]
    by_cases e : i = x
    · subst e; rw [h3]; rfl
    · rw [if_pos (h4 i (Nat.le_refl _) (by omega))]
      exact firstF_some (by omega) (by omega) h3 fun y g1 g2 => h4 y (by omega) g2
theorem firstF_allT {p : Nat → Bool} : ∀ {j i : Nat}, firstF p i j = none → allF p i j = true
  | 0, _, _ => rfl
  | j + 1, i, h => by
    rw [firstF] at h
    by_cases e : p i = true
    · rw [if_pos e] at h; rw [allF, e, firstF_allT h]; rfl
    · rw [if_neg e] at h; simp at h
theorem firstF_allF {p : Nat → Bool} : ∀ {j i x : Nat}, firstF p i j = some x → allF p i j = false
  | 0, _, _, h => by simp [firstF] at h
  | j + 1, i, x, h => by
    rw [firstF] at h
    by_cases e : p i = true
    · rw [if_pos e] at h; rw [allF, e, firstF_allF h]; rfl
    · rw [allF]; simp [e]
theorem fget {o j : Nat} {l : List Int} (h : j < l.length) : (List.replicate o V.any ++ nums .i64 l)[o + j * 1]? = some (.int .i64 (l.getD j 0)) := by
  rw [List.getElem?_append_right (by simp)]
  simp [nums, h]
def zcp (c : List Int) (i : Nat) : List Int := c.take i ++ List.replicate (c.length - i) 0
theorem zcp_len {c : List Int} {i : Nat} (h : i ≤ c.length) : (zcp c i).length = c.length := by simp [zcp]; omega
theorem zcp_end (c : List Int) : zcp c c.length = c := by simp [zcp]
-- laws.eqFunc
def m76 : MC := (.seq (.region [⟨(.box (.t 0)), (some 2), none⟩, ⟨(.box (.t 1)), (some 3), none⟩, ⟨(.mov (.k (.bool false))), (some 4), none⟩] false) (.seq (.seq (.region [⟨(.fieldAddr 0 (.t 2)), (some 5), none⟩, ⟨(.load none (.t 5)), (some 6), none⟩, ⟨(.fieldAddr 0 (.t 3)), (some 7), none⟩, ⟨(.load none (.t 7)), (some 8), none⟩, ⟨(.bin .neq (.t 6) (.t 8)), (some 9), none⟩] false) (.cond (.t 9) (.seq (.region [⟨(.mov (.k (.bool false))), (some 4), none⟩] false) .ret) .skip)) (.seq (.seq (.region [⟨(.fieldAddr 1 (.t 2)), (some 10), none⟩, ⟨(.load none (.t 10)), (some 11), none⟩, ⟨(.fieldAddr 1 (.t 3)), (some 12), none⟩, ⟨(.load none (.t 12)), (some 13), none⟩, ⟨(.bin .neq (.t 11) (.t 13)), (some 14), none⟩] false) (.cond (.t 14) (.seq (.region [⟨(.mov (.k (.bool false))), (some 4), none⟩] false) .ret) .skip)) (.seq (.region [⟨(.mov (.k (.bool true))), (some 4), none⟩] false) .ret))))
theorem has76 : Has cx 76 15 m76 [(.tmp 4)] :=
  ⟨⟨Try.f76, Try.f76.body.getD .skip, by kernel_rfl, by kernel_rfl, by kernel_rfl, by kernel_rfl, by kernel_rfl, by kernel_rfl⟩⟩
theorem ev76 (a b : Int) : Ev cx 76 [.agg [.int .i64 a, .int .i64 b], .agg [.int .i64 a, .int .i64 b]] [] (.bool true) [] := by
  have h1 : (a != a) = false := by simp
  have h2 : (b != b) = false := by simp
  refine has76.eev rfl rfl ?_
  unfold m76
  repeat' (first
    | (refine g_op ?_; first
      | refine ep_mov rfl ?_ | refine ep_load1 rfl rfl rfl rfl ?_ | refine ep_fieldAddr rfl ?_
      | refine ep_bin rfl rfl (by exact b_neq) ?_ | refine sp_box rfl rfl rfl rfl rfl ?_)
    | (refine g_ops ?_; first | refine eo_none ?_ | refine eo_nil ?_)
    | (refine g_code ?_; first | refine ec_seq ?_ | refine ec_region ?_ | refine ec_skip ?_ | refine ec_ret ?_ | refine ec_condT rfl ?_ | refine ec_condF rfl ?_ | refine ec_condTH rfl (by assumption) ?_ | refine ec_condFH rfl (by assumption) ?_)
    | refine ek_seqN ?_ | refine ek_seqR ?_)
  refine sfin (.inr rfl) (by rfl) (by rfl) (by exact ⟨rfl, rfl, rfl⟩) (by rfl) (by rfl) (by rfl) (by first | rfl | (simp; done) | (simp [ints, prs]; done))
def mkc (c : List V) (i : Nat) : List V := ints ((List.range i).map fun x => x + 1) ++ c.drop i
theorem mkc_len {c : List V} {i : Nat} (h : i ≤ c.length) : (mkc c i).length = c.length := by simp [mkc, ints]; omega
theorem mkc_get {c : List V} {i j : Nat} (h : j < i) : (mkc c i)[j]? = some (.int .i64 ((j + 1 : Nat) : Int)) := by
  rw [mkc, List.getElem?_append_left (by simp [ints]; omega)]
  simp [ints, h]
theorem mkc_set {c : List V} {i : Nat} (h : i < c.length) : (mkc c i).take i ++ [V.int .i64 ((i + 1 : Nat) : Int)] ++ (mkc c i).drop (i + 1) = mkc c (i + 1) := by
  have e1 : (ints ((List.range i).map fun x => x + 1)).length = i := by simp [ints]
  unfold mkc
  rw [List.take_append_of_le_length (by omega), List.take_of_length_le (by omega), List.drop_append, List.drop_eq_nil_of_le (by omega), e1, show i + 1 - i = 1 by omega, List.nil_append, List.drop_drop, List.range_succ, List.map_append]
  simp [ints]
theorem mkc_set20 {c : List V} {i : Nat} (h : 2 * i < c.length) : (mkc c (2 * i)).take (0 + i * 2 + 0) ++ [V.int .i64 ((2 * i + 1 : Nat) : Int)] ++ (mkc c (2 * i)).drop (0 + i * 2 + 0 + 1) = mkc c (2 * i + 1) := by
  rw [show 0 + i * 2 + 0 = 2 * i by omega]; exact mkc_set h
theorem mkc_set21 {c : List V} {i : Nat} (h : 2 * i + 1 < c.length) : (mkc c (2 * i + 1)).take (0 + i * 2 + 1) ++ [V.int .i64 ((2 * i + 1 + 1 : Nat) : Int)] ++ (mkc c (2 * i + 1)).drop (0 + i * 2 + 1 + 1) = mkc c (2 * (i + 1)) := by
  rw [show 0 + i * 2 + 1 = 2 * i + 1 by omega, show 2 * (i + 1) = 2 * i + 1 + 1 by omega]; exact mkc_set h
theorem mkc_0 (c : List V) : mkc c 0 = c := by simp [mkc, ints]
def pairAt (c : List V) (j : Nat) (f : Int × Int) : Prop := [V.int .i64 f.1, V.int .i64 f.2].length = 2 ∧ (0 + j * 2) + 2 ≤ c.length ∧ (c.drop (0 + j * 2)).take 2 = [V.int .i64 f.1, V.int .i64 f.2]
-- laws.eqFuncS
def m32_0 : MC := (.seq (.seq (.region [⟨(.mov (.t 5)), (some 11), none⟩, ⟨(.mov (.t 0)), (some 12), none⟩, ⟨(.len (.t 12)), (some 13), none⟩, ⟨(.bin .lss (.t 11) (.t 13)), (some 14), none⟩] false) (.cond (.t 14) .skip (.exit 0))) (.seq (.block 1 (.seq (.region [⟨(.mov (.t 0)), (some 17), none⟩, ⟨(.mov (.t 5)), (some 18), none⟩, ⟨(.indexAddr 2 (.t 17) (.t 18)), (some 19), none⟩, ⟨(.load (some 2) (.t 19)), (some 20), none⟩, ⟨(.mov (.t 1)), (some 21), none⟩, ⟨(.mov (.t 5)), (some 22), none⟩, ⟨(.indexAddr 2 (.t 21) (.t 22)), (some 23), none⟩, ⟨(.load (some 2) (.t 23)), (some 24), none⟩, ⟨(.callw 76 [(.t 20), (.t 24)]), (some 25), none⟩, ⟨(.un .not (.t 25)), (some 26), none⟩] true) (.cond (.t 26) (.seq (.region [⟨(.mov (.k (.bool false))), (some 4), none⟩] false) .ret) .skip))) (.region [⟨(.mov (.t 5)), (some 15), none⟩, ⟨(.bin .add (.t 15) (.k (.int .i64 1))), (some 16), none⟩, ⟨(.mov (.t 16)), (some 5), none⟩] false)))
def m32 : MC := (.seq (.region [⟨(.mov (.k (.bool false))), (some 4), none⟩] false) (.seq (.seq (.region [⟨(.mov (.t 0)), (some 6), none⟩, ⟨(.len (.t 6)), (some 7), none⟩, ⟨(.mov (.t 1)), (some 8), none⟩, ⟨(.len (.t 8)), (some 9), none⟩, ⟨(.bin .neq (.t 7) (.t 9)), (some 10), none⟩] false) (.cond (.t 10) (.seq (.region [⟨(.mov (.k (.bool false))), (some 4), none⟩] false) .ret) .skip)) (.seq (.seq (.region [⟨(.mov (.k (.int .i64 0))), (some 5), none⟩] false) (.block 0 (.loop m32_0))) (.seq (.region [⟨(.mov (.k (.bool true))), (some 4), none⟩] false) .ret))))
theorem has32 : Has cx 32 27 m32 [(.tmp 4)] :=
  ⟨⟨Try.f32, Try.f32.body.getD .skip, by kernel_rfl, by kernel_rfl, by kernel_rfl, by kernel_rfl, by kernel_rfl, by kernel_rfl⟩⟩
theorem lp32_0 (n : Nat) (c d : List V) (f : Nat → Int × Int) (p q : Option Nat) (hn : n ≤ 1048576) (hc : ∀ j, j < n → pairAt c j (f j)) (hd : ∀ j, j < n → pairAt d j (f j)) :
    LpS cx 27 2 m32_0 [(0, .sl 0 0 n), (1, .sl 1 0 n), (5, .int .i64 (0 : Nat))] [⟨c, 2, 0, p, false⟩, ⟨d, 2, 1, q, false⟩] (⟨.exit 0, [], [⟨c, 2, 0, p, false⟩, ⟨d, 2, 1, q, false⟩]⟩ : Out).x (⟨.exit 0, [], [⟨c, 2, 0, p, false⟩, ⟨d, 2, 1, q, false⟩]⟩ : Out).e (⟨.exit 0, [], [⟨c, 2, 0, p, false⟩, ⟨d, 2, 1, q, false⟩]⟩ : Out).h := by
  refine lp_st (n) (fun _ => ()) (fun i _ => [(0, .sl 0 0 n), (1, .sl 1 0 n), (5, .int .i64 (i : Nat))]) (fun i _ => [⟨c, 2, 0, p, false⟩, ⟨d, 2, 1, q, false⟩]) (fun _ => (⟨.exit 0, [], [⟨c, 2, 0, p, false⟩, ⟨d, 2, 1, q, false⟩]⟩ : Out)) ?_ ?_ (n) 0 (by omega)
  · intro i u_ hi hu_
    refine ⟨(), rfl, ?_⟩
    have hlt : decide ((i : Int) < (n : Nat)) = true := decide_eq_true (by omega)
    have hc1 := hc i hi
    have hd1 := hd i hi
    unfold pairAt at hc1 hd1
    unfold m32_0
    repeat' (first
      | refine ep_loadSN rfl rfl rfl hc1 ?_
      | refine ep_loadSN rfl rfl rfl hd1 ?_
      | (refine g_op ?_; first
        | refine ep_mov rfl ?_ | refine sp_loadN rfl rfl rfl rfl rfl ?_
        | refine ep_callw0 rfl (by first | exact ev76 (f i).1 (f i).2) rfl rfl ?_
        | refine sp_callw rfl rfl rfl rfl (by first | exact ev76 (f i).1 (f i).2) ⟨rfl, rfl, rfl, rfl⟩ rfl rfl rfl (by first | exact WrP_refl _ _ | (repeat' (first | exact rfl | exact True.intro | refine And.intro ?_ ?_))) ?_
        | refine ep_bin rfl rfl (by first | exact b_add (by omega) (by omega) | exact b_lss) ?_ | refine ep_not rfl ?_ | refine ep_lenS rfl ?_ | refine ep_lenN rfl ?_ | refine ep_lenE rfl ?_ | refine sp_idx rfl rfl rfl (by omega) rfl ?_
        | refine ep_loadSN rfl rfl rfl (by first | exact prs_get (by omega) | exact fns_get (by omega)) ?_)
      | (refine g_ops ?_; first | refine eo_none ?_ | refine eo_nil ?_)
      | (refine g_dops ?_; first | refine ed_none ?_ | refine ed_nil ?_)
      | refine ed_same rfl ?_ | refine ed_one rfl rfl rfl rfl ?_ | refine ed_two rfl rfl rfl rfl rfl rfl rfl ?_ | refine ed_write rfl rfl ?_
      | (refine g_code ?_; first | refine ec_seq ?_ | refine ec_region ?_ | refine ec_draw ?_ | refine ec_block ?_ | refine ec_skip ?_ | refine ec_exit ?_ | refine ec_ret ?_ | refine ec_condT rfl ?_ | refine ec_condF rfl ?_ | refine ec_condTH rfl (by assumption) ?_ | refine ec_condFH rfl (by assumption) ?_)
      | refine ek_seqN ?_ | refine ek_seqX ?_ | refine ek_seqR ?_ | refine ek_blkN ?_ | refine ek_blkR ?_ | refine ek_blkX ?_ | refine ek_blkY rfl ?_)
    exact rnd_on (by rfl) (scmp2 (by rfl) (by rfl) (by exact ⟨rfl, rfl, rfl⟩) (by rfl) (by first | rfl | (simp; done) | (simp [ints, prs]; done)) (by rfl) (by first | rfl | (simp; done) | (simp [ints, prs]; done)))
  · intro u_ hu_
    have hlt : decide (((n : Nat) : Int) < (n : Nat)) = false := decide_eq_false (by omega)
    unfold m32_0
    repeat' (first
      | (refine g_op ?_; first
        | refine ep_mov rfl ?_ | refine sp_loadN rfl rfl rfl rfl rfl ?_
        | refine ep_bin rfl rfl (by first | exact b_add (by omega) (by omega) | exact b_lss) ?_ | refine ep_not rfl ?_ | refine ep_lenS rfl ?_ | refine ep_lenN rfl ?_ | refine ep_lenE rfl ?_ | refine sp_idx rfl rfl rfl (by omega) rfl ?_
        | refine ep_loadSN rfl rfl rfl (by first | exact prs_get (by omega) | exact fns_get (by omega)) ?_)
      | (refine g_ops ?_; first | refine eo_none ?_ | refine eo_nil ?_)
      | (refine g_dops ?_; first | refine ed_none ?_ | refine ed_nil ?_)
      | refine ed_same rfl ?_ | refine ed_one rfl rfl rfl rfl ?_ | refine ed_two rfl rfl rfl rfl rfl rfl rfl ?_ | refine ed_write rfl rfl ?_
      | (refine g_code ?_; first | refine ec_seq ?_ | refine ec_region ?_ | refine ec_draw ?_ | refine ec_block ?_ | refine ec_skip ?_ | refine ec_exit ?_ | refine ec_ret ?_ | refine ec_condT rfl ?_ | refine ec_condF rfl ?_ | refine ec_condTH rfl (by assumption) ?_ | refine ec_condFH rfl (by assumption) ?_)
      | refine ek_seqN ?_ | refine ek_seqX ?_ | refine ek_seqR ?_ | refine ek_blkN ?_ | refine ek_blkR ?_ | refine ek_blkX ?_ | refine ek_blkY rfl ?_)
    exact rnd_out (by rfl) (by simp) (scmp2 (by rfl) (by rfl) (by exact ⟨rfl, rfl, rfl⟩) (by rfl) (by first | rfl | (simp; done) | (simp [ints, prs]; done)) (by rfl) (by first | rfl | (simp; done) | (simp [ints, prs]; done)))

theorem ev32 (n : Nat) (c d : List V) (f : Nat → Int × Int) (p q : Option Nat) (hn : n ≤ 1048576) (hc : ∀ j, j < n → pairAt c j (f j)) (hd : ∀ j, j < n → pairAt d j (f j)) :
    Ev cx 32 [.sl 0 0 n, .sl 1 0 n] [⟨c, 2, 0, p, false⟩, ⟨d, 2, 1, q, false⟩] (.bool true) [⟨c, 2, 0, p, false⟩, ⟨d, 2, 1, q, false⟩] := by
  have lp := lp32_0 n c d f p q hn hc hd
  have hq : (((n : Nat) : Int) != (n : Nat)) = false := by simp
  refine has32.eev rfl rfl ?_
  unfold m32
  repeat' (first
    | refine sc_loop lp rfl rfl ⟨rfl, rfl, rfl⟩ rfl rfl rfl ?_
    | (refine g_op ?_; first
      | refine ep_mov rfl ?_
      | refine ep_bin rfl rfl (by exact b_neq) ?_ | refine ep_lenS rfl ?_ | refine ep_lenN rfl ?_ | refine ep_lenE rfl ?_)
    | (refine g_ops ?_; first | refine eo_none ?_ | refine eo_nil ?_)
    | (refine g_code ?_; first | refine ec_seq ?_ | refine ec_region ?_ | refine ec_block ?_ | refine ec_skip ?_ | refine ec_ret ?_ | refine ec_condT rfl ?_ | refine ec_condF rfl ?_ | refine ec_condTH rfl (by assumption) ?_ | refine ec_condFH rfl (by assumption) ?_)
    | refine ek_seqN ?_ | refine ek_seqX ?_ | refine ek_seqR ?_ | refine ek_blkN ?_ | refine ek_blkR ?_ | refine ek_blkX ?_ | refine ek_blkY rfl ?_)
  refine sfin (.inr rfl) (by rfl) (by rfl) (by exact ⟨rfl, rfl, rfl⟩) (by rfl) (by rfl) (by rfl) (by first | rfl | (simp; done) | (simp [ints, prs]; done))
theorem lp32_0_nils_nils  :
    LpS cx 27 0 m32_0 [(0, .nils), (1, .nils), (5, .int .i64 (0 : Nat))] [] (⟨.exit 0, [], []⟩ : Out).x (⟨.exit 0, [], []⟩ : Out).e (⟨.exit 0, [], []⟩ : Out).h := by
  refine lp_st (0) (fun _ => ()) (fun i _ => [(0, .nils), (1, .nils), (5, .int .i64 (i : Nat))]) (fun i _ => []) (fun _ => (⟨.exit 0, [], []⟩ : Out)) ?_ ?_ (0) 0 (by omega)
  · intro i u_ hi hu_
    refine ⟨(), rfl, ?_⟩
    exact absurd hi (by simp)
  · intro u_ hu_
    have hlt : decide (((0 : Nat) : Int) < (0 : Nat)) = false := decide_eq_false (by omega)
    unfold m32_0
    repeat' (first
      | (refine g_op ?_; first
        | refine ep_mov rfl ?_ | refine sp_loadN rfl rfl rfl rfl rfl ?_
        | refine ep_bin rfl rfl (by first | exact b_add (by omega) (by omega) | exact b_lss) ?_ | refine ep_not rfl ?_ | refine ep_lenS rfl ?_ | refine ep_lenN rfl ?_ | refine ep_lenE rfl ?_ | refine sp_idx rfl rfl rfl (by omega) rfl ?_
        | refine ep_loadSN rfl rfl rfl (by first | exact prs_get (by omega) | exact fns_get (by omega)) ?_)
      | (refine g_ops ?_; first | refine eo_none ?_ | refine eo_nil ?_)
      | (refine g_dops ?_; first | refine ed_none ?_ | refine ed_nil ?_)
      | refine ed_same rfl ?_ | refine ed_one rfl rfl rfl rfl ?_ | refine ed_two rfl rfl rfl rfl rfl rfl rfl ?_ | refine ed_write rfl rfl ?_
      | (refine g_code ?_; first | refine ec_seq ?_ | refine ec_region ?_ | refine ec_draw ?_ | refine ec_block ?_ | refine ec_skip ?_ | refine ec_exit ?_ | refine ec_ret ?_ | refine ec_condT rfl ?_ | refine ec_condF rfl ?_ | refine ec_condTH rfl (by assumption) ?_ | refine ec_condFH rfl (by assumption) ?_)
      | refine ek_seqN ?_ | refine ek_seqX ?_ | refine ek_seqR ?_ | refine ek_blkN ?_ | refine ek_blkR ?_ | refine ek_blkX ?_ | refine ek_blkY rfl ?_)
    exact rnd_out (by rfl) (by simp) (scmp2 (by rfl) (by rfl) (by exact ⟨rfl, rfl, rfl⟩) (by rfl) (by first | rfl | (simp; done) | (simp [ints, prs]; done)) (by rfl) (by first | rfl | (simp; done) | (simp [ints, prs]; done)))

theorem ev32_nils_nils : Ev cx 32 [.nils, .nils] [] (.bool true) [] := by
  have lp := lp32_0_nils_nils
  refine has32.eev rfl rfl ?_
  unfold m32
  repeat' (first
    | refine sc_loop lp rfl rfl ⟨rfl, rfl, rfl⟩ rfl rfl rfl ?_
    | (refine g_op ?_; first
      | refine ep_mov rfl ?_
      | refine ep_bin rfl rfl (by exact b_neq) ?_ | refine ep_lenS rfl ?_ | refine ep_lenN rfl ?_ | refine ep_lenE rfl ?_)
    | (refine g_ops ?_; first | refine eo_none ?_ | refine eo_nil ?_)
    | (refine g_code ?_; first | refine ec_seq ?_ | refine ec_region ?_ | refine ec_block ?_ | refine ec_skip ?_ | refine ec_ret ?_ | refine ec_condT rfl ?_ | refine ec_condF rfl ?_ | refine ec_condTH rfl (by assumption) ?_ | refine ec_condFH rfl (by assumption) ?_)
    | refine ek_seqN ?_ | refine ek_seqX ?_ | refine ek_seqR ?_ | refine ek_blkN ?_ | refine ek_blkR ?_ | refine ek_blkX ?_ | refine ek_blkY rfl ?_)
  refine sfin (.inr rfl) (by rfl) (by rfl) (by exact ⟨rfl, rfl, rfl⟩) (by rfl) (by rfl) (by rfl) (by first | rfl | (simp; done) | (simp [ints, prs]; done))
theorem lp32_0_nils_emp  :
    LpS cx 27 0 m32_0 [(0, .nils), (1, .emp), (5, .int .i64 (0 : Nat))] [] (⟨.exit 0, [], []⟩ : Out).x (⟨.exit 0, [], []⟩ : Out).e (⟨.exit 0, [], []⟩ : Out).h := by
  refine lp_st (0) (fun _ => ()) (fun i _ => [(0, .nils), (1, .emp), (5, .int .i64 (i : Nat))]) (fun i _ => []) (fun _ => (⟨.exit 0, [], []⟩ : Out)) ?_ ?_ (0) 0 (by omega)
  · intro i u_ hi hu_
    refine ⟨(), rfl, ?_⟩
    exact absurd hi (by simp)
  · intro u_ hu_
    have hlt : decide (((0 : Nat) : Int) < (0 : Nat)) = false := decide_eq_false (by omega)
    unfold m32_0
    repeat' (first
      | (refine g_op ?_; first
        | refine ep_mov rfl ?_ | refine sp_loadN rfl rfl rfl rfl rfl ?_
        | refine ep_bin rfl rfl (by first | exact b_add (by omega) (by omega) | exact b_lss) ?_ | refine ep_not rfl ?_ | refine ep_lenS rfl ?_ | refine ep_lenN rfl ?_ | refine ep_lenE rfl ?_ | refine sp_idx rfl rfl rfl (by omega) rfl ?_
        | refine ep_loadSN rfl rfl rfl (by first | exact prs_get (by omega) | exact fns_get (by omega)) ?_)
      | (refine g_ops ?_; first | refine eo_none ?_ | refine eo_nil ?_)
      | (refine g_dops ?_; first | refine ed_none ?_ | refine ed_nil ?_)
      | refine ed_same rfl ?_ | refine ed_one rfl rfl rfl rfl ?_ | refine ed_two rfl rfl rfl rfl rfl rfl rfl ?_ | refine ed_write rfl rfl ?_
      | (refine g_code ?_; first | refine ec_seq ?_ | refine ec_region ?_ | refine ec_draw ?_ | refine ec_block ?_ | refine ec_skip ?_ | refine ec_exit ?_ | refine ec_ret ?_ | refine ec_condT rfl ?_ | refine ec_condF rfl ?_ | refine ec_condTH rfl (by assumption) ?_ | refine ec_condFH rfl (by assumption) ?_)
      | refine ek_seqN ?_ | refine ek_seqX ?_ | refine ek_seqR ?_ | refine ek_blkN ?_ | refine ek_blkR ?_ | refine ek_blkX ?_ | refine ek_blkY rfl ?_)
    exact rnd_out (by rfl) (by simp) (scmp2 (by rfl) (by rfl) (by exact ⟨rfl, rfl, rfl⟩) (by rfl) (by first | rfl | (simp; done) | (simp [ints, prs]; done)) (by rfl) (by first | rfl | (simp; done) | (simp [ints, prs]; done)))

theorem ev32_nils_emp : Ev cx 32 [.nils, .emp] [] (.bool true) [] := by
  have lp := lp32_0_nils_emp
  refine has32.eev rfl rfl ?_
  unfold m32
  repeat' (first
    | refine sc_loop lp rfl rfl ⟨rfl, rfl, rfl⟩ rfl rfl rfl ?_
    | (refine g_op ?_; first
      | refine ep_mov rfl ?_
      | refine ep_bin rfl rfl (by exact b_neq) ?_ | refine ep_lenS rfl ?_ | refine ep_lenN rfl ?_ | refine ep_lenE rfl ?_)
    | (refine g_ops ?_; first | refine eo_none ?_ | refine eo_nil ?_)
    | (refine g_code ?_; first | refine ec_seq ?_ | refine ec_region ?_ | refine ec_block ?_ | refine ec_skip ?_ | refine ec_ret ?_ | refine ec_condT rfl ?_ | refine ec_condF rfl ?_ | refine ec_condTH rfl (by assumption) ?_ | refine ec_condFH rfl (by assumption) ?_)
    | refine ek_seqN ?_ | refine ek_seqX ?_ | refine ek_seqR ?_ | refine ek_blkN ?_ | refine ek_blkR ?_ | refine ek_blkX ?_ | refine ek_blkY rfl ?_)
  refine sfin (.inr rfl) (by rfl) (by rfl) (by exact ⟨rfl, rfl, rfl⟩) (by rfl) (by rfl) (by rfl) (by first | rfl | (simp; done) | (simp [ints, prs]; done))
-- laws.markFuncS
def m45_0 : MC := (.seq (.seq (.region [⟨(.mov (.t 5)), (some 6), none⟩, ⟨(.mov (.t 0)), (some 7), none⟩, ⟨(.len (.t 7)), (some 8), none⟩, ⟨(.bin .lss (.t 6) (.t 8)), (some 9), none⟩] false) (.cond (.t 9) .skip (.exit 0))) (.seq (.block 1 (.seq (.region [⟨(.mov (.t 0)), (some 12), none⟩, ⟨(.mov (.t 5)), (some 13), none⟩, ⟨(.mov (.t 1)), (some 14), none⟩, ⟨(.indexAddr 2 (.t 12) (.t 13)), (some 15), none⟩, ⟨(.fieldAddr 0 (.t 15)), (some 16), none⟩, ⟨(.store 1 (.t 16) (.t 14)), none, none⟩] false) (.seq (.region [⟨(.mov (.t 1)), (some 17), none⟩, ⟨(.bin .add (.t 17) (.k (.int .i64 1))), (some 18), none⟩, ⟨(.mov (.t 18)), (some 1), none⟩] false) (.seq (.region [⟨(.mov (.t 0)), (some 19), none⟩, ⟨(.mov (.t 5)), (some 20), none⟩, ⟨(.mov (.t 1)), (some 21), none⟩, ⟨(.indexAddr 2 (.t 19) (.t 20)), (some 22), none⟩, ⟨(.fieldAddr 1 (.t 22)), (some 23), none⟩, ⟨(.store 1 (.t 23) (.t 21)), none, none⟩] false) (.region [⟨(.mov (.t 1)), (some 24), none⟩, ⟨(.bin .add (.t 24) (.k (.int .i64 1))), (some 25), none⟩, ⟨(.mov (.t 25)), (some 1), none⟩] false))))) (.region [⟨(.mov (.t 5)), (some 10), none⟩, ⟨(.bin .add (.t 10) (.k (.int .i64 1))), (some 11), none⟩, ⟨(.mov (.t 11)), (some 5), none⟩] false)))
def m45 : MC := (.seq (.region [⟨(.mov (.k (.int .i64 0))), (some 4), none⟩] false) (.seq (.seq (.region [⟨(.mov (.k (.int .i64 0))), (some 5), none⟩] false) (.block 0 (.loop m45_0))) (.seq (.region [⟨(.mov (.t 1)), (some 26), none⟩, ⟨(.mov (.t 26)), (some 4), none⟩] false) .ret)))
theorem has45 : Has cx 45 27 m45 [(.tmp 4)] :=
  ⟨⟨Try.f45, Try.f45.body.getD .skip, by kernel_rfl, by kernel_rfl, by kernel_rfl, by kernel_rfl, by kernel_rfl, by kernel_rfl⟩⟩
theorem lp45_0 (n : Nat) (c : List V) (hn : n ≤ 1048576) (hl : c.length = n * 2) :
    LpS cx 27 1 m45_0 [(0, .sl 0 0 n), (1, .int .i64 (2 * (0) + 1 : Nat)), (5, .int .i64 (0 : Nat))] [⟨mkc c (2 * (0)), 2, 0, some 0, false⟩] (⟨.exit 0, [(1, .int .i64 (2 * (n) + 1 : Nat))], [⟨mkc c (2 * (n)), 2, 0, some 0, false⟩]⟩ : Out).x (⟨.exit 0, [(1, .int .i64 (2 * (n) + 1 : Nat))], [⟨mkc c (2 * (n)), 2, 0, some 0, false⟩]⟩ : Out).e (⟨.exit 0, [(1, .int .i64 (2 * (n) + 1 : Nat))], [⟨mkc c (2 * (n)), 2, 0, some 0, false⟩]⟩ : Out).h := by
  refine lp_st (n) (fun _ => ()) (fun i _ => [(0, .sl 0 0 n), (1, .int .i64 (2 * (i) + 1 : Nat)), (5, .int .i64 (i : Nat))]) (fun i _ => [⟨mkc c (2 * (i)), 2, 0, some 0, false⟩]) (fun _ => (⟨.exit 0, [(1, .int .i64 (2 * (n) + 1 : Nat))], [⟨mkc c (2 * (n)), 2, 0, some 0, false⟩]⟩ : Out)) ?_ ?_ (n) 0 (by omega)
  · intro i u_ hi hu_
    refine ⟨(), rfl, ?_⟩
    have hlt : decide ((i : Int) < (n : Nat)) = true := decide_eq_true (by omega)
    have b1 : binV .add (.int .i64 (2 * i + 1 : Nat)) (.int .i64 1) = some (.int .i64 (2 * i + 1 + 1 : Nat)) := b_addN (b := 1) (by omega)
    have b2 : binV .add (.int .i64 (2 * i + 1 + 1 : Nat)) (.int .i64 1) = some (.int .i64 (2 * (i + 1) + 1 : Nat)) := b_addN (b := 1) (by omega)
    have l1 := mkc_len (c := c) (i := 2 * i) (by omega)
    have l2 := mkc_len (c := c) (i := 2 * i + 1) (by omega)
    unfold m45_0
    repeat' (first
      | refine sp_storeS rfl rfl rfl rfl rfl rfl rfl (Nat.zero_le _) (by omega) (mkc_set20 (by omega)) rfl ?_
      | refine sp_storeS rfl rfl rfl rfl rfl rfl rfl (Nat.zero_le _) (by omega) (mkc_set21 (by omega)) rfl ?_
      | (refine g_op ?_; first
        | refine ep_mov rfl ?_ | refine ep_fieldAddr rfl ?_
        | refine ep_bin rfl rfl (by first | exact b1 | exact b2 | exact b_add (by omega) (by omega) | exact b_lss) ?_ | refine sp_store rfl rfl rfl rfl rfl rfl rfl rfl rfl rfl ?_ | refine ep_lenS rfl ?_
        | refine ep_lenN rfl ?_ | refine ep_lenE rfl ?_ | refine sp_idx rfl rfl rfl (by omega) rfl ?_)
      | (refine g_ops ?_; first | refine eo_none ?_ | refine eo_nil ?_)
      | (refine g_code ?_; first | refine ec_seq ?_ | refine ec_region ?_ | refine ec_block ?_ | refine ec_skip ?_ | refine ec_exit ?_ | refine ec_condT rfl ?_ | refine ec_condF rfl ?_ | refine ec_condTH rfl (by assumption) ?_ | refine ec_condFH rfl (by assumption) ?_)
      | refine ek_seqN ?_ | refine ek_seqX ?_ | refine ek_blkN ?_ | refine ek_blkR ?_ | refine ek_blkX ?_ | refine ek_blkY rfl ?_)
    exact rnd_on (by rfl) (scmp2 (by rfl) (by rfl) (by exact ⟨rfl, rfl, rfl⟩) (by rfl) (by first | rfl | (simp; done) | (simp [ints, prs]; done)) (by rfl) (by first | rfl | (simp; done) | (simp [ints, prs]; done)))
  · intro u_ hu_
    have hlt : decide (((n : Nat) : Int) < (n : Nat)) = false := decide_eq_false (by omega)
    unfold m45_0
    repeat' (first
      | (refine g_op ?_; first
        | refine ep_mov rfl ?_ | refine ep_fieldAddr rfl ?_
        | refine ep_bin rfl rfl (by first | exact b_add (by omega) (by omega) | exact b_lss) ?_ | refine sp_store rfl rfl rfl rfl rfl rfl rfl rfl rfl rfl ?_ | refine ep_lenS rfl ?_ | refine ep_lenN rfl ?_
        | refine ep_lenE rfl ?_ | refine sp_idx rfl rfl rfl (by omega) rfl ?_)
      | (refine g_ops ?_; first | refine eo_none ?_ | refine eo_nil ?_)
      | (refine g_code ?_; first | refine ec_seq ?_ | refine ec_region ?_ | refine ec_block ?_ | refine ec_skip ?_ | refine ec_exit ?_ | refine ec_condT rfl ?_ | refine ec_condF rfl ?_ | refine ec_condTH rfl (by assumption) ?_ | refine ec_condFH rfl (by assumption) ?_)
      | refine ek_seqN ?_ | refine ek_seqX ?_ | refine ek_blkN ?_ | refine ek_blkR ?_ | refine ek_blkX ?_ | refine ek_blkY rfl ?_)
    exact rnd_out (by rfl) (by simp) (scmp2 (by rfl) (by rfl) (by exact ⟨rfl, rfl, rfl⟩) (by rfl) (by first | rfl | (simp; done) | (simp [ints, prs]; done)) (by rfl) (by first | rfl | (simp; done) | (simp [ints, prs]; done)))

theorem ev45 (n : Nat) (c : List V) (hn : n ≤ 1048576) (hl : c.length = n * 2) : Ev cx 45 [.sl 0 0 n, .int .i64 1] [⟨c, 2, 0, some 0, false⟩] (.int .i64 (2 * n + 1 : Nat)) [⟨mkc c (2 * n), 2, 0, some 0, false⟩] := by
  have lp := lp45_0 n c hn hl
  rw [show 2 * 0 = 0 from rfl, mkc_0] at lp
  refine has45.eev rfl rfl ?_
  unfold m45
  repeat' (first
    | refine sc_loop lp rfl rfl ⟨rfl, rfl, rfl⟩ rfl rfl rfl ?_
    | (refine g_op ?_; first
      | refine ep_mov rfl ?_)
    | (refine g_ops ?_; first | refine eo_none ?_ | refine eo_nil ?_)
    | (refine g_code ?_; first | refine ec_seq ?_ | refine ec_region ?_ | refine ec_block ?_ | refine ec_ret ?_)
    | refine ek_seqN ?_ | refine ek_seqX ?_ | refine ek_seqR ?_ | refine ek_blkN ?_ | refine ek_blkR ?_ | refine ek_blkX ?_ | refine ek_blkY rfl ?_)
  refine sfin (.inr rfl) (by rfl) (by rfl) (by exact ⟨rfl, rfl, rfl⟩) (by rfl) (by rfl) (by rfl) (by first | rfl | (simp; done) | (simp [ints, prs]; done))
theorem lp45_0_nils  :
    LpS cx 27 0 m45_0 [(0, .nils), (1, .int .i64 1), (5, .int .i64 (0 : Nat))] [] (⟨.exit 0, [(1, .int .i64 1)], []⟩ : Out).x (⟨.exit 0, [(1, .int .i64 1)], []⟩ : Out).e (⟨.exit 0, [(1, .int .i64 1)], []⟩ : Out).h := by
  refine lp_st (0) (fun _ => ()) (fun i _ => [(0, .nils), (1, .int .i64 1), (5, .int .i64 (i : Nat))]) (fun i _ => []) (fun _ => (⟨.exit 0, [(1, .int .i64 1)], []⟩ : Out)) ?_ ?_ (0) 0 (by omega)
  · intro i u_ hi hu_
    refine ⟨(), rfl, ?_⟩
    exact absurd hi (by simp)
  · intro u_ hu_
    have hlt : decide (((0 : Nat) : Int) < (0 : Nat)) = false := decide_eq_false (by omega)
    unfold m45_0
    repeat' (first
      | (refine g_op ?_; first
        | refine ep_mov rfl ?_ | refine ep_fieldAddr rfl ?_
        | refine ep_bin rfl rfl (by first | exact b_add (by omega) (by omega) | exact b_lss) ?_ | refine sp_store rfl rfl rfl rfl rfl rfl rfl rfl rfl rfl ?_ | refine ep_lenS rfl ?_ | refine ep_lenN rfl ?_
        | refine ep_lenE rfl ?_ | refine sp_idx rfl rfl rfl (by omega) rfl ?_)
      | (refine g_ops ?_; first | refine eo_none ?_ | refine eo_nil ?_)
      | (refine g_code ?_; first | refine ec_seq ?_ | refine ec_region ?_ | refine ec_block ?_ | refine ec_skip ?_ | refine ec_exit ?_ | refine ec_condT rfl ?_ | refine ec_condF rfl ?_ | refine ec_condTH rfl (by assumption) ?_ | refine ec_condFH rfl (by assumption) ?_)
      | refine ek_seqN ?_ | refine ek_seqX ?_ | refine ek_blkN ?_ | refine ek_blkR ?_ | refine ek_blkX ?_ | refine ek_blkY rfl ?_)
    exact rnd_out (by rfl) (by simp) (scmp2 (by rfl) (by rfl) (by exact ⟨rfl, rfl, rfl⟩) (by rfl) (by first | rfl | (simp; done) | (simp [ints, prs]; done)) (by rfl) (by first | rfl | (simp; done) | (simp [ints, prs]; done)))

theorem ev45_nils : Ev cx 45 [.nils, .int .i64 1] [] (.int .i64 1) [] := by
  have lp := lp45_0_nils
  refine has45.eev rfl rfl ?_
  unfold m45
  repeat' (first
    | refine sc_loop lp rfl rfl ⟨rfl, rfl, rfl⟩ rfl rfl rfl ?_
    | (refine g_op ?_; first
      | refine ep_mov rfl ?_)
    | (refine g_ops ?_; first | refine eo_none ?_ | refine eo_nil ?_)
    | (refine g_code ?_; first | refine ec_seq ?_ | refine ec_region ?_ | refine ec_block ?_ | refine ec_ret ?_)
    | refine ek_seqN ?_ | refine ek_seqX ?_ | refine ek_seqR ?_ | refine ek_blkN ?_ | refine ek_blkR ?_ | refine ek_blkX ?_ | refine ek_blkY rfl ?_)
  refine sfin (.inr rfl) (by rfl) (by rfl) (by exact ⟨rfl, rfl, rfl⟩) (by rfl) (by rfl) (by rfl) (by first | rfl | (simp; done) | (simp [ints, prs]; done))
-- laws.heldFuncS
def m46_0 : MC := (.seq (.seq (.region [⟨(.mov (.t 5)), (some 6), none⟩, ⟨(.mov (.t 0)), (some 7), none⟩, ⟨(.len (.t 7)), (some 8), none⟩, ⟨(.bin .lss (.t 6) (.t 8)), (some 9), none⟩] false) (.cond (.t 9) .skip (.exit 0))) (.seq (.block 1 (.seq (.seq (.region [⟨(.mov (.t 0)), (some 12), none⟩, ⟨(.mov (.t 5)), (some 13), none⟩, ⟨(.indexAddr 2 (.t 12) (.t 13)), (some 14), none⟩, ⟨(.fieldAddr 0 (.t 14)), (some 15), none⟩, ⟨(.load none (.t 15)), (some 16), none⟩, ⟨(.mov (.t 1)), (some 17), none⟩, ⟨(.bin .neq (.t 16) (.t 17)), (some 18), none⟩] false) (.cond (.t 18) (.seq (.region [⟨(.mov (.k (.int .i64 (-1)))), (some 4), none⟩] false) .ret) .skip)) (.seq (.region [⟨(.mov (.t 1)), (some 19), none⟩, ⟨(.bin .add (.t 19) (.k (.int .i64 1))), (some 20), none⟩, ⟨(.mov (.t 20)), (some 1), none⟩] false) (.seq (.seq (.region [⟨(.mov (.t 0)), (some 21), none⟩, ⟨(.mov (.t 5)), (some 22), none⟩, ⟨(.indexAddr 2 (.t 21) (.t 22)), (some 23), none⟩, ⟨(.fieldAddr 1 (.t 23)), (some 24), none⟩, ⟨(.load none (.t 24)), (some 25), none⟩, ⟨(.mov (.t 1)), (some 26), none⟩, ⟨(.bin .neq (.t 25) (.t 26)), (some 27), none⟩] false) (.cond (.t 27) (.seq (.region [⟨(.mov (.k (.int .i64 (-1)))), (some 4), none⟩] false) .ret) .skip)) (.region [⟨(.mov (.t 1)), (some 28), none⟩, ⟨(.bin .add (.t 28) (.k (.int .i64 1))), (some 29), none⟩, ⟨(.mov (.t 29)), (some 1), none⟩] false))))) (.region [⟨(.mov (.t 5)), (some 10), none⟩, ⟨(.bin .add (.t 10) (.k (.int .i64 1))), (some 11), none⟩, ⟨(.mov (.t 11)), (some 5), none⟩] false)))
def m46 : MC := (.seq (.region [⟨(.mov (.k (.int .i64 0))), (some 4), none⟩] false) (.seq (.seq (.region [⟨(.mov (.k (.int .i64 0))), (some 5), none⟩] false) (.block 0 (.loop m46_0))) (.seq (.region [⟨(.mov (.t 1)), (some 30), none⟩, ⟨(.mov (.t 30)), (some 4), none⟩] false) .ret)))
theorem has46 : Has cx 46 31 m46 [(.tmp 4)] :=
  ⟨⟨Try.f46, Try.f46.body.getD .skip, by kernel_rfl, by kernel_rfl, by kernel_rfl, by kernel_rfl, by kernel_rfl, by kernel_rfl⟩⟩
theorem lp46_0 (n : Nat) (c : List V) (hn : n ≤ 1048576) :
    LpS cx 31 1 m46_0 [(0, .sl 0 0 n), (1, .int .i64 (2 * (0) + 1 : Nat)), (5, .int .i64 (0 : Nat))] [⟨mkc c (2 * n), 2, 0, some 0, false⟩] (⟨.exit 0, [(1, .int .i64 (2 * (n) + 1 : Nat))], [⟨mkc c (2 * n), 2, 0, some 0, false⟩]⟩ : Out).x (⟨.exit 0, [(1, .int .i64 (2 * (n) + 1 : Nat))], [⟨mkc c (2 * n), 2, 0, some 0, false⟩]⟩ : Out).e (⟨.exit 0, [(1, .int .i64 (2 * (n) + 1 : Nat))], [⟨mkc c (2 * n), 2, 0, some 0, false⟩]⟩ : Out).h := by
  refine lp_st (n) (fun _ => ()) (fun i _ => [(0, .sl 0 0 n), (1, .int .i64 (2 * (i) + 1 : Nat)), (5, .int .i64 (i : Nat))]) (fun i _ => [⟨mkc c (2 * n), 2, 0, some 0, false⟩]) (fun _ => (⟨.exit 0, [(1, .int .i64 (2 * (n) + 1 : Nat))], [⟨mkc c (2 * n), 2, 0, some 0, false⟩]⟩ : Out)) ?_ ?_ (n) 0 (by omega)
  · intro i u_ hi hu_
    refine ⟨(), rfl, ?_⟩
    have hlt : decide ((i : Int) < (n : Nat)) = true := decide_eq_true (by omega)
    have b1 : binV .add (.int .i64 (2 * i + 1 : Nat)) (.int .i64 1) = some (.int .i64 (2 * i + 1 + 1 : Nat)) := b_addN (b := 1) (by omega)
    have b2 : binV .add (.int .i64 (2 * i + 1 + 1 : Nat)) (.int .i64 1) = some (.int .i64 (2 * (i + 1) + 1 : Nat)) := b_addN (b := 1) (by omega)
    have m1 : (mkc c (2 * n))[0 + i * 2 + 0]? = some (.int .i64 (2 * i + 1 : Nat)) := by rw [mkc_get (by omega)]; congr 3; omega
    have m2 : (mkc c (2 * n))[0 + i * 2 + 1]? = some (.int .i64 (2 * i + 1 + 1 : Nat)) := by rw [mkc_get (by omega)]; congr 3; omega
    have q1 : (((2 * i + 1 : Nat) : Int) != (2 * i + 1 : Nat)) = false := by simp
    have q2 : (((2 * i + 1 + 1 : Nat) : Int) != (2 * i + 1 + 1 : Nat)) = false := by simp
    unfold m46_0
    repeat' (first
      | refine ep_loadS rfl rfl rfl m1 ?_
      | refine ep_loadS rfl rfl rfl m2 ?_
      | (refine g_op ?_; first
        | refine ep_mov rfl ?_ | refine ep_load1 rfl rfl rfl rfl ?_ | refine ep_fieldAddr rfl ?_
        | refine ep_bin rfl rfl (by first | exact b1 | exact b2 | exact b_add (by omega) (by omega) | exact b_lss | exact b_neq) ?_ | refine ep_lenS rfl ?_ | refine ep_lenN rfl ?_ | refine ep_lenE rfl ?_
        | refine sp_idx rfl rfl rfl (by omega) rfl ?_ | refine ep_loadS rfl rfl rfl (by first | exact ints_get (by omega) | exact zints_get (by omega) | exact fget (by omega) | assumption) ?_)
      | (refine g_ops ?_; first | refine eo_none ?_ | refine eo_nil ?_)
      | (refine g_code ?_; first | refine ec_seq ?_ | refine ec_region ?_ | refine ec_block ?_ | refine ec_skip ?_ | refine ec_exit ?_ | refine ec_ret ?_ | refine ec_condT rfl ?_ | refine ec_condF rfl ?_ | refine ec_condTH rfl (by assumption) ?_ | refine ec_condFH rfl (by assumption) ?_)
      | refine ek_seqN ?_ | refine ek_seqX ?_ | refine ek_seqR ?_ | refine ek_blkN ?_ | refine ek_blkR ?_ | refine ek_blkX ?_ | refine ek_blkY rfl ?_)
    exact rnd_on (by rfl) (scmp2 (by rfl) (by rfl) (by exact ⟨rfl, rfl, rfl⟩) (by rfl) (by first | rfl | (simp; done) | (simp [ints, prs]; done)) (by rfl) (by first | rfl | (simp; done) | (simp [ints, prs]; done)))
  · intro u_ hu_
    have hlt : decide (((n : Nat) : Int) < (n : Nat)) = false := decide_eq_false (by omega)
    unfold m46_0
    repeat' (first
      | (refine g_op ?_; first
        | refine ep_mov rfl ?_ | refine ep_load1 rfl rfl rfl rfl ?_ | refine ep_fieldAddr rfl ?_
        | refine ep_bin rfl rfl (by first | exact b_add (by omega) (by omega) | exact b_lss | exact b_neq) ?_ | refine ep_lenS rfl ?_ | refine ep_lenN rfl ?_ | refine ep_lenE rfl ?_ | refine sp_idx rfl rfl rfl (by omega) rfl ?_
        | refine ep_loadS rfl rfl rfl (by first | exact ints_get (by omega) | exact zints_get (by omega) | exact fget (by omega) | assumption) ?_)
      | (refine g_ops ?_; first | refine eo_none ?_ | refine eo_nil ?_)
      | (refine g_code ?_; first | refine ec_seq ?_ | refine ec_region ?_ | refine ec_block ?_ | refine ec_skip ?_ | refine ec_exit ?_ | refine ec_ret ?_ | refine ec_condT rfl ?_ | refine ec_condF rfl ?_ | refine ec_condTH rfl (by assumption) ?_ | refine ec_condFH rfl (by assumption) ?_)
      | refine ek_seqN ?_ | refine ek_seqX ?_ | refine ek_seqR ?_ | refine ek_blkN ?_ | refine ek_blkR ?_ | refine ek_blkX ?_ | refine ek_blkY rfl ?_)
    exact rnd_out (by rfl) (by simp) (scmp2 (by rfl) (by rfl) (by exact ⟨rfl, rfl, rfl⟩) (by rfl) (by first | rfl | (simp; done) | (simp [ints, prs]; done)) (by rfl) (by first | rfl | (simp; done) | (simp [ints, prs]; done)))

theorem ev46 (n : Nat) (c : List V) (hn : n ≤ 1048576) : Ev cx 46 [.sl 0 0 n, .int .i64 1] [⟨mkc c (2 * n), 2, 0, some 0, false⟩] (.int .i64 (2 * n + 1 : Nat)) [⟨mkc c (2 * n), 2, 0, some 0, false⟩] := by
  have lp := lp46_0 n c hn
  refine has46.eev rfl rfl ?_
  unfold m46
  repeat' (first
    | refine sc_loop lp rfl rfl ⟨rfl, rfl, rfl⟩ rfl rfl rfl ?_
    | (refine g_op ?_; first
      | refine ep_mov rfl ?_)
    | (refine g_ops ?_; first | refine eo_none ?_ | refine eo_nil ?_)
    | (refine g_code ?_; first | refine ec_seq ?_ | refine ec_region ?_ | refine ec_block ?_ | refine ec_ret ?_)
    | refine ek_seqN ?_ | refine ek_seqX ?_ | refine ek_seqR ?_ | refine ek_blkN ?_ | refine ek_blkR ?_ | refine ek_blkX ?_ | refine ek_blkY rfl ?_)
  refine sfin (.inr rfl) (by rfl) (by rfl) (by exact ⟨rfl, rfl, rfl⟩) (by rfl) (by rfl) (by rfl) (by first | rfl | (simp; done) | (simp [ints, prs]; done))
theorem lp46_0_nils  :
    LpS cx 31 0 m46_0 [(0, .nils), (1, .int .i64 1), (5, .int .i64 (0 : Nat))] [] (⟨.exit 0, [(1, .int .i64 1)], []⟩ : Out).x (⟨.exit 0, [(1, .int .i64 1)], []⟩ : Out).e (⟨.exit 0, [(1, .int .i64 1)], []⟩ : Out).h := by
  refine lp_st (0) (fun _ => ()) (fun i _ => [(0, .nils), (1, .int .i64 1), (5, .int .i64 (i : Nat))]) (fun i _ => []) (fun _ => (⟨.exit 0, [(1, .int .i64 1)], []⟩ : Out)) ?_ ?_ (0) 0 (by omega)
  · intro i u_ hi hu_
    refine ⟨(), rfl, ?_⟩
    exact absurd hi (by simp)
  · intro u_ hu_
    have hlt : decide (((0 : Nat) : Int) < (0 : Nat)) = false := decide_eq_false (by omega)
    unfold m46_0
    repeat' (first
      | (refine g_op ?_; first
        | refine ep_mov rfl ?_ | refine ep_load1 rfl rfl rfl rfl ?_ | refine ep_fieldAddr rfl ?_
        | refine ep_bin rfl rfl (by first | exact b_add (by omega) (by omega) | exact b_lss | exact b_neq) ?_ | refine ep_lenS rfl ?_ | refine ep_lenN rfl ?_ | refine ep_lenE rfl ?_ | refine sp_idx rfl rfl rfl (by omega) rfl ?_
        | refine ep_loadS rfl rfl rfl (by first | exact ints_get (by omega) | exact zints_get (by omega) | exact fget (by omega) | assumption) ?_)
      | (refine g_ops ?_; first | refine eo_none ?_ | refine eo_nil ?_)
      | (refine g_code ?_; first | refine ec_seq ?_ | refine ec_region ?_ | refine ec_block ?_ | refine ec_skip ?_ | refine ec_exit ?_ | refine ec_ret ?_ | refine ec_condT rfl ?_ | refine ec_condF rfl ?_ | refine ec_condTH rfl (by assumption) ?_ | refine ec_condFH rfl (by assumption) ?_)
      | refine ek_seqN ?_ | refine ek_seqX ?_ | refine ek_seqR ?_ | refine ek_blkN ?_ | refine ek_blkR ?_ | refine ek_blkX ?_ | refine ek_blkY rfl ?_)
    exact rnd_out (by rfl) (by simp) (scmp2 (by rfl) (by rfl) (by exact ⟨rfl, rfl, rfl⟩) (by rfl) (by first | rfl | (simp; done) | (simp [ints, prs]; done)) (by rfl) (by first | rfl | (simp; done) | (simp [ints, prs]; done)))

theorem ev46_nils : Ev cx 46 [.nils, .int .i64 1] [] (.int .i64 1) [] := by
  have lp := lp46_0_nils
  refine has46.eev rfl rfl ?_
  unfold m46
  repeat' (first
    | refine sc_loop lp rfl rfl ⟨rfl, rfl, rfl⟩ rfl rfl rfl ?_
    | (refine g_op ?_; first
      | refine ep_mov rfl ?_)
    | (refine g_ops ?_; first | refine eo_none ?_ | refine eo_nil ?_)
    | (refine g_code ?_; first | refine ec_seq ?_ | refine ec_region ?_ | refine ec_block ?_ | refine ec_ret ?_)
    | refine ek_seqN ?_ | refine ek_seqX ?_ | refine ek_seqR ?_ | refine ek_blkN ?_ | refine ek_blkR ?_ | refine ek_blkX ?_ | refine ek_blkY rfl ?_)
  refine sfin (.inr rfl) (by rfl) (by rfl) (by exact ⟨rfl, rfl, rfl⟩) (by rfl) (by rfl) (by rfl) (by first | rfl | (simp; done) | (simp [ints, prs]; done))
theorem prs_pair {n : Nat} {l : List Nat} {j : Nat} (h : j < l.length) : pairAt (prs n l) j ((n : Int), ((l.getD j 0 : Nat) : Int)) := prs_get h
theorem fns_pair {l : List (Int × Int)} {j : Nat} (h : j < l.length) : pairAt (fns l) j (l.getD j (0, 0)) := fns_get h
def rowS (s : List Nat) (q : Nat) : Nat := pk (fun i => bt (s.getD i 0) q) s.length
def valS (b p : Nat) (s : List Nat) : Nat := pk (fun q => bt b (rowS s q)) p
theorem rowS_lt (s : List Nat) (q : Nat) : rowS s q < R2 s.length := pk_lt fun r _ => bt_le _ _
theorem valS_lt (b p : Nat) (s : List Nat) : valS b p s < R2 p := pk_lt fun r _ => bt_le _ _
-- spec.l01Own
def m114 : MC := (.seq (.region [⟨(.mov (.k .nils)), (some 2), none⟩] false) (.seq (.region [⟨.empt, (some 3), none⟩, ⟨(.mov (.t 0)), (some 4), none⟩, ⟨(.append 1 8 (.t 3) (.t 4)), (some 5), none⟩, ⟨(.mov (.t 5)), (some 2), none⟩] false) .ret))
theorem has114 : Has cx 114 6 m114 [(.tmp 2)] :=
  ⟨⟨Try.f114, Try.f114.body.getD .skip, by kernel_rfl, by kernel_rfl, by kernel_rfl, by kernel_rfl, by kernel_rfl, by kernel_rfl⟩⟩
theorem evow_e : Ev cx 114 [.emp] [] .emp [] := by
  refine has114.eev rfl rfl ?_
  unfold m114
  repeat' (first
    | refine ep_appE rfl (.inr rfl) rfl rfl ?_
    | (refine g_op ?_; first
      | refine ep_mov rfl ?_
      | refine sp_push0 rfl (by first | exact .inl rfl | exact .inr rfl) rfl rfl rfl rfl rfl (by decide) rfl rfl rfl ?_ | refine sp_push rfl rfl rfl rfl rfl rfl rfl (by first | exact ints_len _ | exact prs_len _ _ | exact zints_len _) (by omega) (Nat.zero_le _) rfl rfl rfl rfl rfl ?_
      | refine ep_empt ?_)
    | (refine g_ops ?_; first | refine eo_none ?_ | refine eo_nil ?_)
    | (refine g_code ?_; first | refine ec_seq ?_ | refine ec_region ?_ | refine ec_ret ?_)
    | refine ek_seqN ?_ | refine ek_seqR ?_)
  refine sfin (.inr rfl) (by rfl) (by rfl) (by exact ⟨rfl, rfl, rfl⟩) (by rfl) (by rfl) (by rfl) (by first | rfl | (simp; done) | (simp [ints, prs]; done))
theorem evow_c (q0 : Nat) (l : List Nat) (n : Nat) (hn : l.length = n) (h1 : 1 ≤ n) (h2 : n ≤ 65536) : Ev cx 114 [.sl 0 0 n] [⟨ints l, 1, 0, some q0, false⟩] (.sl 1 0 n) [⟨ints l, 1, 0, some q0, false⟩, ⟨ints l, 1, 1, some 0, false⟩] := by
  have hr : rowOf [⟨ints l, 1, 0, some q0, false⟩] 1 (.sl 0 0 n) = some (ints l, n) := by
    simp only [rowOf, List.getElem?_cons_zero, List.drop_zero, Nat.mul_one]; rw [List.take_of_length_le (by rw [ints_len]; omega)]
  refine has114.eev rfl rfl ?_
  unfold m114
  repeat' (first
    | refine sp_app0 (l := ints l) rfl (.inr rfl) rfl hr ⟨by rw [ints_len]; omega, by omega, by omega⟩ (.inr ⟨0, 0, _, rfl, rfl, rfl⟩) rfl rfl ?_
    | (refine g_op ?_; first
      | refine ep_mov rfl ?_
      | refine sp_push0 rfl (by first | exact .inl rfl | exact .inr rfl) rfl rfl rfl rfl rfl (by decide) rfl rfl rfl ?_ | refine sp_push rfl rfl rfl rfl rfl rfl rfl (by first | exact ints_len _ | exact prs_len _ _ | exact zints_len _) (by omega) (Nat.zero_le _) rfl rfl rfl rfl rfl ?_
      | refine ep_empt ?_)
    | (refine g_ops ?_; first | refine eo_none ?_ | refine eo_nil ?_)
    | (refine g_code ?_; first | refine ec_seq ?_ | refine ec_region ?_ | refine ec_ret ?_)
    | refine ek_seqN ?_ | refine ek_seqR ?_)
  refine sfin (.inr rfl) (by rfl) (by rfl) (by exact ⟨rfl, rfl, rfl⟩) (by rfl) (by rfl) (by rfl) (by first | rfl | (simp; done) | (simp [ints, prs]; done))
def prOf (c : List Int) (n : Nat) : List (Int × Int) := (List.range n).map fun i => (c.getD (2 * i) 0, c.getD (2 * i + 1) 0)
theorem prOf_len (c : List Int) (n : Nat) : (prOf c n).length = n := by simp [prOf]
theorem prOf_fns : ∀ (n : Nat) (c : List Int), c.length = n * 2 → zints c = fns (prOf c n)
  | 0, c, h => by
    have : c = [] := List.length_eq_zero_iff.mp (by omega)
    subst this; rfl
  | n + 1, c, h => by
    match c, h with
    | [], h => simp at h
    | [_], h => simp at h; omega
    | x :: y :: c, h =>
      have ih := prOf_fns n c (by simp at h; omega)
      have e : prOf (x :: y :: c) (n + 1) = (x, y) :: prOf c n := by
        simp only [prOf, List.range_succ_eq_map, List.map_cons, List.map_map, List.getD_eq_getElem?_getD]
        refine List.cons_eq_cons.mpr ⟨rfl, List.map_congr_left fun i _ => ?_⟩
        simp only [Function.comp, show 2 * (i + 1) = 2 * i + 1 + 1 by omega, show 2 * (i + 1) + 1 = 2 * i + 1 + 1 + 1 by omega, List.getElem?_cons_succ]
      rw [e]
      simp only [zints, fns, List.map_cons, List.flatMap_cons, List.cons_append, List.nil_append] at ih ⊢
      rw [ih]
theorem fget2 {o j n : Nat} {l : List Int} (hl : l.length = n * 2) (h : j < n) : [V.int .i64 (l.getD (2 * j) 0), V.int .i64 (l.getD (2 * j + 1) 0)].length = 2 ∧ (o + j * 2) + 2 ≤ (List.replicate o V.any ++ nums .i64 l).length ∧ ((List.replicate o V.any ++ nums .i64 l).drop (o + j * 2)).take 2 = [V.int .i64 (l.getD (2 * j) 0), V.int .i64 (l.getD (2 * j + 1) 0)] := by
  refine ⟨rfl, by simp [nums]; omega, ?_⟩
  rw [List.drop_append, List.drop_eq_nil_of_le (by simp), List.nil_append, List.length_replicate, show o + j * 2 - o = 2 * j by omega]
  have h1 : 2 * j < (nums .i64 l).length := by simp [nums]; omega
  have h2 : 2 * j + 1 < (nums .i64 l).length := by simp [nums]; omega
  rw [List.drop_eq_getElem_cons h1, List.drop_eq_getElem_cons h2]
  simp only [List.take_succ_cons, List.take_zero, nums, List.getElem_map, List.getD_eq_getElem?_getD, List.getElem?_eq_getElem (show 2 * j < l.length by omega), List.getElem?_eq_getElem (show 2 * j + 1 < l.length by omega), Option.getD_some]
theorem zcp_mk2 {c : List Int} {n : Nat} (h : c.length = n * 2) : zints (zcp c (2 * 0)) = (List.replicate n [V.int .i64 0, V.int .i64 0]).flatten := by
  simp only [zcp, Nat.mul_zero, List.take_zero, List.nil_append, Nat.sub_zero, h]
  clear h
  induction n with
  | zero => rfl
  | succ n ih =>
    rw [show (n + 1) * 2 = n * 2 + 1 + 1 by omega]
    simp only [List.replicate_succ, zints, List.map_cons, List.flatten_cons, List.cons_append, List.nil_append] at ih ⊢; rw [ih]
theorem zcp_set2 {c : List Int} {i n : Nat} (hl : c.length = n * 2) (h : i < n) : (zints (zcp c (2 * i))).take (0 + i * 2) ++ [V.int .i64 (c.getD (2 * i) 0), V.int .i64 (c.getD (2 * i + 1) 0)] ++ (zints (zcp c (2 * i))).drop (0 + i * 2 + 2) = zints (zcp c (2 * (i + 1))) := by
  have e1 : List.replicate (c.length - 2 * i) (0 : Int) = 0 :: 0 :: List.replicate (c.length - 2 * (i + 1)) 0 := by
    rw [show c.length - 2 * i = (c.length - 2 * (i + 1)) + 1 + 1 by omega, List.replicate_succ, List.replicate_succ]
  have e2 : c.take (2 * (i + 1)) = c.take (2 * i) ++ [c.getD (2 * i) 0, c.getD (2 * i + 1) 0] := by
    rw [show 2 * (i + 1) = 2 * i + 1 + 1 by omega, List.take_add_one, List.take_add_one, List.getElem?_eq_getElem (show 2 * i < c.length by omega), List.getElem?_eq_getElem (show 2 * i + 1 < c.length by omega), List.getD_eq_getElem?_getD, List.getD_eq_getElem?_getD, List.getElem?_eq_getElem (show 2 * i < c.length by omega), List.getElem?_eq_getElem (show 2 * i + 1 < c.length by omega), List.append_assoc]; rfl
  have e3 : ((c.take (2 * i)).map fun x => V.int .i64 x).length = 2 * i := by simp; omega
  simp only [zcp, zints, List.map_append, e1, e2, show 0 + i * 2 = 2 * i by omega, List.map_cons]
  rw [List.take_append_of_le_length (by omega), List.take_of_length_le (by omega)]
  rw [List.drop_append, e3, List.drop_eq_nil_of_le (by omega), show 2 * i + 2 - 2 * i = 2 by omega]
  simp
-- laws.szFuncS
def m26 : MC := (.seq (.region [⟨(.mov (.k (.int .i64 0))), (some 4), none⟩] false) (.seq (.region [⟨(.mov (.t 1)), (some 5), none⟩, ⟨(.mov (.t 0)), (some 6), none⟩, ⟨(.len (.t 6)), (some 7), none⟩, ⟨(.bin .sub (.t 5) (.t 7)), (some 8), none⟩, ⟨(.mov (.t 8)), (some 1), none⟩] false) (.seq (.seq (.region [⟨(.mov (.t 1)), (some 9), none⟩, ⟨(.bin .lss (.t 9) (.k (.int .i64 0))), (some 10), none⟩] false) (.cond (.t 10) (.seq (.region [⟨(.mov (.k (.int .i64 (-1)))), (some 4), none⟩] false) .ret) .skip)) (.seq (.region [⟨(.mov (.t 1)), (some 11), none⟩, ⟨(.mov (.t 11)), (some 4), none⟩] false) .ret))))
theorem has26 : Has cx 26 12 m26 [(.tmp 4)] :=
  ⟨⟨Try.f26, Try.f26.body.getD .skip, by kernel_rfl, by kernel_rfl, by kernel_rfl, by kernel_rfl, by kernel_rfl, by kernel_rfl⟩⟩
theorem ev26 (o n : Nat) (c : List Int) (hn : n ≤ 9223372036854775807) : Ev cx 26 [.sl 0 o n, .int .i64 1048576] [fblk o (nums .i64 c)] (.int .i64 (if n ≤ 1048576 then 1048576 - (n : Nat) else -1)) [fblk o (nums .i64 c)] := by
  have hs : binV .sub (.int .i64 1048576) (.int .i64 (n : Nat)) = some (.int .i64 (1048576 - (n : Nat) : Int)) := b_sub (by omega) (by omega)
  by_cases h : n ≤ 1048576
  · have h1 : decide ((1048576 - (n : Nat) : Int) < 0) = false := decide_eq_false (by omega)
    rw [if_pos h]
    refine has26.eev rfl rfl ?_
    unfold m26
    repeat' (first
      | (refine g_op ?_; first
        | refine ep_mov rfl ?_
        | refine ep_bin rfl rfl (by first | exact hs | exact b_sub (by omega) (by omega) | exact b_lss) ?_ | refine ep_lenS rfl ?_ | refine ep_lenN rfl ?_ | refine ep_lenE rfl ?_)
      | (refine g_ops ?_; first | refine eo_none ?_ | refine eo_nil ?_)
      | (refine g_code ?_; first | refine ec_seq ?_ | refine ec_region ?_ | refine ec_skip ?_ | refine ec_ret ?_ | refine ec_condT rfl ?_ | refine ec_condF rfl ?_ | refine ec_condTH rfl (by assumption) ?_ | refine ec_condFH rfl (by assumption) ?_)
      | refine ek_seqN ?_ | refine ek_seqR ?_)
    refine sfin (.inr rfl) (by rfl) (by rfl) (by exact ⟨rfl, rfl, rfl⟩) (by rfl) (by rfl) (by rfl) (by first | rfl | (simp; done) | (simp [ints, prs]; done))
  · have h1 : decide ((1048576 - (n : Nat) : Int) < 0) = true := decide_eq_true (by omega)
    rw [if_neg h]
    refine has26.eev rfl rfl ?_
    unfold m26
    repeat' (first
      | (refine g_op ?_; first
        | refine ep_mov rfl ?_
        | refine ep_bin rfl rfl (by first | exact hs | exact b_sub (by omega) (by omega) | exact b_lss) ?_ | refine ep_lenS rfl ?_ | refine ep_lenN rfl ?_ | refine ep_lenE rfl ?_)
      | (refine g_ops ?_; first | refine eo_none ?_ | refine eo_nil ?_)
      | (refine g_code ?_; first | refine ec_seq ?_ | refine ec_region ?_ | refine ec_skip ?_ | refine ec_ret ?_ | refine ec_condT rfl ?_ | refine ec_condF rfl ?_ | refine ec_condTH rfl (by assumption) ?_ | refine ec_condFH rfl (by assumption) ?_)
      | refine ek_seqN ?_ | refine ek_seqR ?_)
    refine sfin (.inr rfl) (by rfl) (by rfl) (by exact ⟨rfl, rfl, rfl⟩) (by rfl) (by rfl) (by rfl) (by first | rfl | (simp; done) | (simp [ints, prs]; done))
theorem ev26_nils : Ev cx 26 [.nils, .int .i64 1048576] [] (.int .i64 1048576) [] := by
  refine has26.eev rfl rfl ?_
  unfold m26
  repeat' (first
    | (refine g_op ?_; first
      | refine ep_mov rfl ?_
      | refine ep_bin rfl rfl (by first | exact b_sub (by omega) (by omega) | exact b_lss) ?_ | refine ep_lenS rfl ?_ | refine ep_lenN rfl ?_ | refine ep_lenE rfl ?_)
    | (refine g_ops ?_; first | refine eo_none ?_ | refine eo_nil ?_)
    | (refine g_code ?_; first | refine ec_seq ?_ | refine ec_region ?_ | refine ec_skip ?_ | refine ec_ret ?_ | refine ec_condT rfl ?_ | refine ec_condF rfl ?_ | refine ec_condTH rfl (by assumption) ?_ | refine ec_condFH rfl (by assumption) ?_)
    | refine ek_seqN ?_ | refine ek_seqR ?_)
  refine sfin (.inr rfl) (by rfl) (by rfl) (by exact ⟨rfl, rfl, rfl⟩) (by rfl) (by rfl) (by rfl) (by first | rfl | (simp; done) | (simp [ints, prs]; done))
theorem ev26_emp : Ev cx 26 [.emp, .int .i64 1048576] [] (.int .i64 1048576) [] := by
  refine has26.eev rfl rfl ?_
  unfold m26
  repeat' (first
    | (refine g_op ?_; first
      | refine ep_mov rfl ?_
      | refine ep_bin rfl rfl (by first | exact b_sub (by omega) (by omega) | exact b_lss) ?_ | refine ep_lenS rfl ?_ | refine ep_lenN rfl ?_ | refine ep_lenE rfl ?_)
    | (refine g_ops ?_; first | refine eo_none ?_ | refine eo_nil ?_)
    | (refine g_code ?_; first | refine ec_seq ?_ | refine ec_region ?_ | refine ec_skip ?_ | refine ec_ret ?_ | refine ec_condT rfl ?_ | refine ec_condF rfl ?_ | refine ec_condTH rfl (by assumption) ?_ | refine ec_condFH rfl (by assumption) ?_)
    | refine ek_seqN ?_ | refine ek_seqR ?_)
  refine sfin (.inr rfl) (by rfl) (by rfl) (by exact ⟨rfl, rfl, rfl⟩) (by rfl) (by rfl) (by rfl) (by first | rfl | (simp; done) | (simp [ints, prs]; done))
-- laws.toFuncS
def m28_0 : MC := (.seq (.seq (.region [⟨(.mov (.t 4)), (some 8), none⟩, ⟨(.mov (.t 0)), (some 9), none⟩, ⟨(.len (.t 9)), (some 10), none⟩, ⟨(.bin .lss (.t 8) (.t 10)), (some 11), none⟩] false) (.cond (.t 11) .skip (.exit 0))) (.seq (.block 1 (.region [⟨(.mov (.t 3)), (some 14), none⟩, ⟨(.mov (.t 4)), (some 15), none⟩, ⟨(.mov (.t 0)), (some 16), none⟩, ⟨(.mov (.t 4)), (some 17), none⟩, ⟨(.indexAddr 2 (.t 16) (.t 17)), (some 18), none⟩, ⟨(.load (some 2) (.t 18)), (some 19), none⟩, ⟨(.call 17 [(.t 19)]), (some 20), none⟩, ⟨(.indexAddr 2 (.t 14) (.t 15)), (some 21), none⟩, ⟨(.store 2 (.t 21) (.t 20)), none, none⟩] false)) (.region [⟨(.mov (.t 4)), (some 12), none⟩, ⟨(.bin .add (.t 12) (.k (.int .i64 1))), (some 13), none⟩, ⟨(.mov (.t 13)), (some 4), none⟩] false)))
def m28 : MC := (.seq (.region [⟨(.mov (.k .nils)), (some 2), none⟩] false) (.seq (.region [⟨(.mov (.t 0)), (some 5), none⟩, ⟨(.len (.t 5)), (some 6), none⟩, ⟨(.make 2 16 [(.int .i64 0), (.int .i64 0)] (.t 6)), (some 7), none⟩, ⟨(.mov (.t 7)), (some 3), none⟩] false) (.seq (.seq (.region [⟨(.mov (.k (.int .i64 0))), (some 4), none⟩] false) (.block 0 (.loop m28_0))) (.seq (.region [⟨(.mov (.t 3)), (some 22), none⟩, ⟨(.mov (.t 22)), (some 2), none⟩] false) .ret))))
theorem has28 : Has cx 28 23 m28 [(.tmp 2)] :=
  ⟨⟨Try.f28, Try.f28.body.getD .skip, by kernel_rfl, by kernel_rfl, by kernel_rfl, by kernel_rfl, by kernel_rfl, by kernel_rfl⟩⟩
theorem lp28_0 (o n : Nat) (c : List Int) (hl : c.length = n * 2) (hn : n ≤ 1048576) :
    LpS cx 23 1 m28_0 [(0, .sl 0 o n), (3, .sl 1 0 n), (4, .int .i64 (0 : Nat))] [⟨List.replicate o .any ++ nums .i64 c, 0, 0, none, false⟩, ⟨zints (zcp c (2 * (0))), 2, 1, some 0, false⟩] (⟨.exit 0, [(3, .sl 1 0 n)], [⟨List.replicate o .any ++ nums .i64 c, 0, 0, none, false⟩, ⟨zints (zcp c (2 * (n))), 2, 1, some 0, false⟩]⟩ : Out).x (⟨.exit 0, [(3, .sl 1 0 n)], [⟨List.replicate o .any ++ nums .i64 c, 0, 0, none, false⟩, ⟨zints (zcp c (2 * (n))), 2, 1, some 0, false⟩]⟩ : Out).e (⟨.exit 0, [(3, .sl 1 0 n)], [⟨List.replicate o .any ++ nums .i64 c, 0, 0, none, false⟩, ⟨zints (zcp c (2 * (n))), 2, 1, some 0, false⟩]⟩ : Out).h := by
  refine lp_st (n) (fun _ => ()) (fun i _ => [(0, .sl 0 o n), (3, .sl 1 0 n), (4, .int .i64 (i : Nat))]) (fun i _ => [⟨List.replicate o .any ++ nums .i64 c, 0, 0, none, false⟩, ⟨zints (zcp c (2 * (i))), 2, 1, some 0, false⟩]) (fun _ => (⟨.exit 0, [(3, .sl 1 0 n)], [⟨List.replicate o .any ++ nums .i64 c, 0, 0, none, false⟩, ⟨zints (zcp c (2 * (n))), 2, 1, some 0, false⟩]⟩ : Out)) ?_ ?_ (n) 0 (by omega)
  · intro i u_ hi hu_
    refine ⟨(), rfl, ?_⟩
    have hlt : decide ((i : Int) < (n : Nat)) = true := decide_eq_true (by omega)
    have hg := fget2 (o := o) hl hi
    have hzl := zcp_len (c := c) (i := 2 * i) (by omega)
    unfold m28_0
    repeat' (first
      | refine ep_loadSN rfl rfl rfl hg ?_
      | refine sp_storeS rfl rfl rfl rfl rfl rfl rfl (Nat.zero_le _) (by rw [zints_len, hzl]; omega) (zcp_set2 hl hi) rfl ?_
      | (refine g_op ?_; first
        | refine ep_mov rfl ?_ | refine sp_loadN rfl rfl rfl rfl rfl ?_
        | refine ep_call0 rfl (by first | exact ev17 _ _) rfl rfl ?_
        | refine sp_call rfl rfl rfl rfl (by first | exact ev17 _ _) ⟨rfl, rfl, rfl, rfl⟩ rfl rfl rfl ?_
        | refine ep_bin rfl rfl (by first | exact b_add (by omega) (by omega) | exact b_lss) ?_ | refine sp_store rfl rfl rfl rfl rfl rfl rfl rfl rfl rfl ?_ | refine ep_lenS rfl ?_ | refine ep_lenN rfl ?_
        | refine ep_lenE rfl ?_ | refine sp_idx rfl rfl rfl (by omega) rfl ?_ | refine ep_loadSN rfl rfl rfl (by first | exact prs_get (by omega) | exact fns_get (by omega)) ?_)
      | (refine g_ops ?_; first | refine eo_none ?_ | refine eo_nil ?_)
      | (refine g_code ?_; first | refine ec_seq ?_ | refine ec_region ?_ | refine ec_block ?_ | refine ec_skip ?_ | refine ec_exit ?_ | refine ec_condT rfl ?_ | refine ec_condF rfl ?_ | refine ec_condTH rfl (by assumption) ?_ | refine ec_condFH rfl (by assumption) ?_)
      | refine ek_seqN ?_ | refine ek_seqX ?_ | refine ek_blkN ?_ | refine ek_blkR ?_ | refine ek_blkX ?_ | refine ek_blkY rfl ?_)
    exact rnd_on (by rfl) (scmp2 (by rfl) (by rfl) (by exact ⟨rfl, rfl, rfl⟩) (by rfl) (by first | rfl | (simp; done) | (simp [ints, prs]; done)) (by rfl) (by first | rfl | (simp; done) | (simp [ints, prs]; done)))
  · intro u_ hu_
    have hlt : decide (((n : Nat) : Int) < (n : Nat)) = false := decide_eq_false (by omega)
    unfold m28_0
    repeat' (first
      | (refine g_op ?_; first
        | refine ep_mov rfl ?_ | refine sp_loadN rfl rfl rfl rfl rfl ?_
        | refine ep_bin rfl rfl (by first | exact b_add (by omega) (by omega) | exact b_lss) ?_ | refine sp_store rfl rfl rfl rfl rfl rfl rfl rfl rfl rfl ?_ | refine ep_lenS rfl ?_ | refine ep_lenN rfl ?_
        | refine ep_lenE rfl ?_ | refine sp_idx rfl rfl rfl (by omega) rfl ?_ | refine ep_loadSN rfl rfl rfl (by first | exact prs_get (by omega) | exact fns_get (by omega)) ?_)
      | (refine g_ops ?_; first | refine eo_none ?_ | refine eo_nil ?_)
      | (refine g_code ?_; first | refine ec_seq ?_ | refine ec_region ?_ | refine ec_block ?_ | refine ec_skip ?_ | refine ec_exit ?_ | refine ec_condT rfl ?_ | refine ec_condF rfl ?_ | refine ec_condTH rfl (by assumption) ?_ | refine ec_condFH rfl (by assumption) ?_)
      | refine ek_seqN ?_ | refine ek_seqX ?_ | refine ek_blkN ?_ | refine ek_blkR ?_ | refine ek_blkX ?_ | refine ek_blkY rfl ?_)
    exact rnd_out (by rfl) (by simp) (scmp2 (by rfl) (by rfl) (by exact ⟨rfl, rfl, rfl⟩) (by rfl) (by first | rfl | (simp; done) | (simp [ints, prs]; done)) (by rfl) (by first | rfl | (simp; done) | (simp [ints, prs]; done)))

theorem lp28_0_nils  :
    LpS cx 23 0 m28_0 [(0, .nils), (3, .sl 0 0 0), (4, .int .i64 (0 : Nat))] [⟨zints [], 2, 0, some 0, false⟩] (⟨.exit 0, [(3, .sl 0 0 0)], [⟨zints [], 2, 0, some 0, false⟩]⟩ : Out).x (⟨.exit 0, [(3, .sl 0 0 0)], [⟨zints [], 2, 0, some 0, false⟩]⟩ : Out).e (⟨.exit 0, [(3, .sl 0 0 0)], [⟨zints [], 2, 0, some 0, false⟩]⟩ : Out).h := by
  refine lp_st (0) (fun _ => ()) (fun i _ => [(0, .nils), (3, .sl 0 0 0), (4, .int .i64 (i : Nat))]) (fun i _ => [⟨zints [], 2, 0, some 0, false⟩]) (fun _ => (⟨.exit 0, [(3, .sl 0 0 0)], [⟨zints [], 2, 0, some 0, false⟩]⟩ : Out)) ?_ ?_ (0) 0 (by omega)
  · intro i u_ hi hu_
    refine ⟨(), rfl, ?_⟩
    exact absurd hi (by simp)
  · intro u_ hu_
    have hlt : decide (((0 : Nat) : Int) < (0 : Nat)) = false := decide_eq_false (by omega)
    unfold m28_0
    repeat' (first
      | (refine g_op ?_; first
        | refine ep_mov rfl ?_ | refine sp_loadN rfl rfl rfl rfl rfl ?_
        | refine ep_bin rfl rfl (by first | exact b_add (by omega) (by omega) | exact b_lss) ?_ | refine sp_store rfl rfl rfl rfl rfl rfl rfl rfl rfl rfl ?_ | refine ep_lenS rfl ?_ | refine ep_lenN rfl ?_
        | refine ep_lenE rfl ?_ | refine sp_idx rfl rfl rfl (by omega) rfl ?_ | refine ep_loadSN rfl rfl rfl (by first | exact prs_get (by omega) | exact fns_get (by omega)) ?_)
      | (refine g_ops ?_; first | refine eo_none ?_ | refine eo_nil ?_)
      | (refine g_code ?_; first | refine ec_seq ?_ | refine ec_region ?_ | refine ec_block ?_ | refine ec_skip ?_ | refine ec_exit ?_ | refine ec_condT rfl ?_ | refine ec_condF rfl ?_ | refine ec_condTH rfl (by assumption) ?_ | refine ec_condFH rfl (by assumption) ?_)
      | refine ek_seqN ?_ | refine ek_seqX ?_ | refine ek_blkN ?_ | refine ek_blkR ?_ | refine ek_blkX ?_ | refine ek_blkY rfl ?_)
    exact rnd_out (by rfl) (by simp) (scmp2 (by rfl) (by rfl) (by exact ⟨rfl, rfl, rfl⟩) (by rfl) (by first | rfl | (simp; done) | (simp [ints, prs]; done)) (by rfl) (by first | rfl | (simp; done) | (simp [ints, prs]; done)))

theorem lp28_0_emp  :
    LpS cx 23 0 m28_0 [(0, .emp), (3, .sl 0 0 0), (4, .int .i64 (0 : Nat))] [⟨zints [], 2, 0, some 0, false⟩] (⟨.exit 0, [(3, .sl 0 0 0)], [⟨zints [], 2, 0, some 0, false⟩]⟩ : Out).x (⟨.exit 0, [(3, .sl 0 0 0)], [⟨zints [], 2, 0, some 0, false⟩]⟩ : Out).e (⟨.exit 0, [(3, .sl 0 0 0)], [⟨zints [], 2, 0, some 0, false⟩]⟩ : Out).h := by
  refine lp_st (0) (fun _ => ()) (fun i _ => [(0, .emp), (3, .sl 0 0 0), (4, .int .i64 (i : Nat))]) (fun i _ => [⟨zints [], 2, 0, some 0, false⟩]) (fun _ => (⟨.exit 0, [(3, .sl 0 0 0)], [⟨zints [], 2, 0, some 0, false⟩]⟩ : Out)) ?_ ?_ (0) 0 (by omega)
  · intro i u_ hi hu_
    refine ⟨(), rfl, ?_⟩
    exact absurd hi (by simp)
  · intro u_ hu_
    have hlt : decide (((0 : Nat) : Int) < (0 : Nat)) = false := decide_eq_false (by omega)
    unfold m28_0
    repeat' (first
      | (refine g_op ?_; first
        | refine ep_mov rfl ?_ | refine sp_loadN rfl rfl rfl rfl rfl ?_
        | refine ep_bin rfl rfl (by first | exact b_add (by omega) (by omega) | exact b_lss) ?_ | refine sp_store rfl rfl rfl rfl rfl rfl rfl rfl rfl rfl ?_ | refine ep_lenS rfl ?_ | refine ep_lenN rfl ?_
        | refine ep_lenE rfl ?_ | refine sp_idx rfl rfl rfl (by omega) rfl ?_ | refine ep_loadSN rfl rfl rfl (by first | exact prs_get (by omega) | exact fns_get (by omega)) ?_)
      | (refine g_ops ?_; first | refine eo_none ?_ | refine eo_nil ?_)
      | (refine g_code ?_; first | refine ec_seq ?_ | refine ec_region ?_ | refine ec_block ?_ | refine ec_skip ?_ | refine ec_exit ?_ | refine ec_condT rfl ?_ | refine ec_condF rfl ?_ | refine ec_condTH rfl (by assumption) ?_ | refine ec_condFH rfl (by assumption) ?_)
      | refine ek_seqN ?_ | refine ek_seqX ?_ | refine ek_blkN ?_ | refine ek_blkR ?_ | refine ek_blkX ?_ | refine ek_blkY rfl ?_)
    exact rnd_out (by rfl) (by simp) (scmp2 (by rfl) (by rfl) (by exact ⟨rfl, rfl, rfl⟩) (by rfl) (by first | rfl | (simp; done) | (simp [ints, prs]; done)) (by rfl) (by first | rfl | (simp; done) | (simp [ints, prs]; done)))

theorem ev28 (o n : Nat) (c : List Int) (hl : c.length = n * 2) (hn : n ≤ 1048576) : Ev cx 28 [.sl 0 o n] [fblk o (nums .i64 c)] (.sl 1 0 n) [fblk o (nums .i64 c), ⟨zints c, 2, 1, some 0, false⟩] := by
  have lp := lp28_0 o n c hl hn
  rw [show 2 * n = c.length by omega, zcp_end] at lp
  refine has28.eev rfl rfl ?_
  unfold m28
  repeat' (first
    | refine sp_make (l := zints (zcp c (2 * 0))) rfl rfl (by omega) (zcp_mk2 hl) rfl rfl ?_
    | refine sc_loop lp rfl rfl ⟨rfl, rfl, rfl⟩ rfl rfl rfl ?_
    | (refine g_op ?_; first
      | refine ep_mov rfl ?_
      | refine ep_lenS rfl ?_ | refine ep_lenN rfl ?_ | refine ep_lenE rfl ?_)
    | (refine g_ops ?_; first | refine eo_none ?_ | refine eo_nil ?_)
    | (refine g_code ?_; first | refine ec_seq ?_ | refine ec_region ?_ | refine ec_block ?_ | refine ec_ret ?_)
    | refine ek_seqN ?_ | refine ek_seqX ?_ | refine ek_seqR ?_ | refine ek_blkN ?_ | refine ek_blkR ?_ | refine ek_blkX ?_ | refine ek_blkY rfl ?_)
  refine sfin (.inr rfl) (by rfl) (by rfl) (by exact ⟨rfl, rfl, rfl⟩) (by rfl) (by rfl) (by rfl) (by first | rfl | (simp; done) | (simp [ints, prs]; done))
theorem ev28_nils : Ev cx 28 [.nils] [] (.sl 0 0 0) [⟨zints [], 2, 0, some 0, false⟩] := by
  have lp := lp28_0_nils
  refine has28.eev rfl rfl ?_
  unfold m28
  repeat' (first
    | refine sp_make (mm := 0) (l := zints []) rfl rfl (by omega) rfl rfl rfl ?_
    | refine sc_loop lp rfl rfl ⟨rfl, rfl, rfl⟩ rfl rfl rfl ?_
    | (refine g_op ?_; first
      | refine ep_mov rfl ?_
      | refine ep_lenS rfl ?_ | refine ep_lenN rfl ?_ | refine ep_lenE rfl ?_)
    | (refine g_ops ?_; first | refine eo_none ?_ | refine eo_nil ?_)
    | (refine g_code ?_; first | refine ec_seq ?_ | refine ec_region ?_ | refine ec_block ?_ | refine ec_ret ?_)
    | refine ek_seqN ?_ | refine ek_seqX ?_ | refine ek_seqR ?_ | refine ek_blkN ?_ | refine ek_blkR ?_ | refine ek_blkX ?_ | refine ek_blkY rfl ?_)
  refine sfin (.inr rfl) (by rfl) (by rfl) (by exact ⟨rfl, rfl, rfl⟩) (by rfl) (by rfl) (by rfl) (by first | rfl | (simp; done) | (simp [ints, prs]; done))
theorem ev28_emp : Ev cx 28 [.emp] [] (.sl 0 0 0) [⟨zints [], 2, 0, some 0, false⟩] := by
  have lp := lp28_0_emp
  refine has28.eev rfl rfl ?_
  unfold m28
  repeat' (first
    | refine sp_make (mm := 0) (l := zints []) rfl rfl (by omega) rfl rfl rfl ?_
    | refine sc_loop lp rfl rfl ⟨rfl, rfl, rfl⟩ rfl rfl rfl ?_
    | (refine g_op ?_; first
      | refine ep_mov rfl ?_
      | refine ep_lenS rfl ?_ | refine ep_lenN rfl ?_ | refine ep_lenE rfl ?_)
    | (refine g_ops ?_; first | refine eo_none ?_ | refine eo_nil ?_)
    | (refine g_code ?_; first | refine ec_seq ?_ | refine ec_region ?_ | refine ec_block ?_ | refine ec_ret ?_)
    | refine ek_seqN ?_ | refine ek_seqX ?_ | refine ek_seqR ?_ | refine ek_blkN ?_ | refine ek_blkR ?_ | refine ek_blkX ?_ | refine ek_blkY rfl ?_)
  refine sfin (.inr rfl) (by rfl) (by rfl) (by exact ⟨rfl, rfl, rfl⟩) (by rfl) (by rfl) (by rfl) (by first | rfl | (simp; done) | (simp [ints, prs]; done))
def allFunc (fs : List (Int × Int)) : Bool := allF (fun j => isFn (fs.getD j (0, 0)).1 (fs.getD j (0, 0)).2) 0 fs.length
-- impl.areFuncs$1
def m116 : MC := (.seq (.region [⟨(.box (.t 0)), (some 1), none⟩, ⟨(.mov (.k (.bool false))), (some 2), none⟩] false) (.seq (.region [⟨(.load (some 2) (.t 1)), (some 3), none⟩, ⟨(.call 55 [(.t 3)]), (some 4), none⟩, ⟨(.un .not (.t 4)), (some 5), none⟩, ⟨(.mov (.t 5)), (some 2), none⟩] false) .ret))
theorem has116 : Has cx 116 6 m116 [(.tmp 2)] :=
  ⟨⟨Try.f116, Try.f116.body.getD .skip, by kernel_rfl, by kernel_rfl, by kernel_rfl, by kernel_rfl, by kernel_rfl, by kernel_rfl⟩⟩
theorem ev116 (a b : Int) : Ev cx 116 [.agg [.int .i64 a, .int .i64 b]] [] (.bool (!isFn a b)) [] := by
  have e1 := ev55 a b
  refine has116.eev rfl rfl ?_
  unfold m116
  repeat' (first
    | (refine g_op ?_; first
      | refine ep_mov rfl ?_ | refine sp_loadN rfl rfl rfl rfl rfl ?_
      | refine ep_call0 rfl (by first | exact e1) rfl rfl ?_
      | refine sp_call rfl rfl rfl rfl (by first | exact e1) ⟨rfl, rfl, rfl, rfl⟩ rfl rfl rfl ?_
      | refine ep_not rfl ?_ | refine sp_box rfl rfl rfl rfl rfl ?_)
    | (refine g_ops ?_; first | refine eo_none ?_ | refine eo_nil ?_)
    | (refine g_code ?_; first | refine ec_seq ?_ | refine ec_region ?_ | refine ec_ret ?_)
    | refine ek_seqN ?_ | refine ek_seqR ?_)
  refine sfin (.inr rfl) (by rfl) (by rfl) (by exact ⟨rfl, rfl, rfl⟩) (by rfl) (by rfl) (by rfl) (by first | rfl | (simp; done) | (simp [ints, prs]; done))
-- slices.IndexFunc[[]impl.Func,impl.Func]
def m140_0 : MC := (.seq (.region [⟨(.bin .lss (.t 8) (.t 7)), (some 9), none⟩] false) (.seq (.cond (.t 9) .skip (.exit 0)) (.seq (.block 1 (.seq (.region [⟨(.mov (.t 8)), (some 10), none⟩, ⟨(.mov (.t 10)), (some 5), none⟩] false) (.seq (.region [⟨(.mov (.t 1)), (some 11), none⟩, ⟨(.mov (.t 0)), (some 12), none⟩, ⟨(.mov (.t 5)), (some 13), none⟩, ⟨(.indexAddr 2 (.t 12) (.t 13)), (some 14), none⟩, ⟨(.load (some 2) (.t 14)), (some 15), none⟩, ⟨(.callv (.t 11) [(.t 15)]), (some 16), none⟩] false) (.cond (.t 16) (.seq (.region [⟨(.mov (.t 5)), (some 17), none⟩, ⟨(.mov (.t 17)), (some 4), none⟩] false) .ret) .skip)))) (.region [⟨(.bin .add (.t 8) (.k (.int .i64 1))), (some 18), none⟩, ⟨(.mov (.t 18)), (some 8), none⟩] false))))
def m140 : MC := (.seq (.region [⟨(.mov (.k (.int .i64 0))), (some 4), none⟩] false) (.seq (.seq (.region [⟨(.mov (.t 0)), (some 6), none⟩, ⟨(.len (.t 6)), (some 7), none⟩, ⟨(.mov (.k (.int .i64 0))), (some 8), none⟩] false) (.block 0 (.loop m140_0))) (.seq (.region [⟨(.mov (.k (.int .i64 (-1)))), (some 4), none⟩] false) .ret)))
theorem has140 : Has cx 140 19 m140 [(.tmp 4)] :=
  ⟨⟨Try.f140, Try.f140.body.getD .skip, by kernel_rfl, by kernel_rfl, by kernel_rfl, by kernel_rfl, by kernel_rfl, by kernel_rfl⟩⟩

-- slices.ContainsFunc[[]impl.Func,impl.Func]
def m115 : MC := (.seq (.region [⟨(.mov (.k (.bool false))), (some 4), none⟩] false) (.seq (.region [⟨(.mov (.t 0)), (some 5), none⟩, ⟨(.mov (.t 1)), (some 6), none⟩, ⟨(.call 140 [(.t 5), (.t 6)]), (some 7), none⟩, ⟨(.bin .geq (.t 7) (.k (.int .i64 0))), (some 8), none⟩, ⟨(.mov (.t 8)), (some 4), none⟩] false) .ret))
theorem has115 : Has cx 115 9 m115 [(.tmp 4)] :=
  ⟨⟨Try.f115, Try.f115.body.getD .skip, by kernel_rfl, by kernel_rfl, by kernel_rfl, by kernel_rfl, by kernel_rfl, by kernel_rfl⟩⟩

theorem lpix_isFunc (fs : List (Int × Int)) (hln : fs.length ≤ 1048576) (o : Out) (ho : (match firstF (fun i => !(fun j => !isFn (fs.getD j (0, 0)).1 (fs.getD j (0, 0)).2) i) 0 (fs.length) with | none => (⟨.exit 0, [], [⟨fns fs, 2, 0, some 0, false⟩]⟩ : Out) | some x => ⟨.ret, [(4, .int .i64 (x : Nat))], [⟨fns fs, 2, 0, some 0, false⟩]⟩) = o) :
    LpS cx 19 1 m140_0 [(0, .sl 0 0 fs.length), (1, .fn 116 []), (7, .int .i64 (fs.length : Nat)), (8, .int .i64 (0 : Nat))] [⟨fns fs, 2, 0, some 0, false⟩] o.x o.e o.h := by
  refine lp_brk (fs.length) (fun i => !(fun j => !isFn (fs.getD j (0, 0)).1 (fs.getD j (0, 0)).2) i) (fun _ => ()) (fun i _ => [(0, .sl 0 0 fs.length), (1, .fn 116 []), (7, .int .i64 (fs.length : Nat)), (8, .int .i64 (i : Nat))]) (fun i _ => [⟨fns fs, 2, 0, some 0, false⟩]) (fun _ => ⟨.exit 0, [], [⟨fns fs, 2, 0, some 0, false⟩]⟩) (fun i _ => ⟨.ret, [(4, .int .i64 (i : Nat))], [⟨fns fs, 2, 0, some 0, false⟩]⟩) ?_ ?_ ?_ (fs.length) 0 o (by omega) (fun h => by rw [← ho, firstF_none fun x h1 h2 => h x h1 (by omega)]) (fun x h1 h2 h3 h4 => by rw [← ho, firstF_some h1 (by omega) h3 h4])
  · intro i s hi hs hp
    have hlt : decide ((i : Int) < (fs.length : Nat)) = true := decide_eq_true (by omega)
    have hp' : (!(fun j => !isFn (fs.getD j (0, 0)).1 (fs.getD j (0, 0)).2) i) = true := hp
    refine ⟨(), rfl, ?_⟩
    have hg := fns_get (l := fs) (j := i) hi
    have e0 := ev116 (fs.getD i (0, 0)).1 (fs.getD i (0, 0)).2
    have hq : (!isFn (fs.getD i (0, 0)).1 (fs.getD i (0, 0)).2) = !((!(fun j => !isFn (fs.getD j (0, 0)).1 (fs.getD j (0, 0)).2) i)) := by simp
    rw [hp'] at hq
    rw [hq] at e0
    unfold m140_0
    repeat' (first
      | refine ep_loadSN rfl rfl rfl hg ?_
      | (refine g_op ?_; first
        | refine ep_mov rfl ?_ | refine sp_loadN rfl rfl rfl rfl rfl ?_
        | refine sp_callv rfl rfl rfl rfl rfl rfl (by first | exact e0) ⟨rfl, rfl, rfl, rfl⟩ rfl rfl rfl ?_
        | refine sp_callb rfl rfl rfl rfl rfl rfl (by first | exact e0) ⟨rfl, rfl, rfl, rfl⟩ rfl rfl rfl ?_
        | refine ep_bin rfl rfl (by first | exact b_add (by omega) (by omega) | exact b_lss) ?_ | refine sp_idx rfl rfl rfl (by omega) rfl ?_ | refine ep_loadSN rfl rfl rfl (by first | exact prs_get (by omega) | exact fns_get (by omega)) ?_)
      | (refine g_ops ?_; first | refine eo_none ?_ | refine eo_nil ?_)
      | (refine g_code ?_; first | refine ec_seq ?_ | refine ec_region ?_ | refine ec_block ?_ | refine ec_skip ?_ | refine ec_exit ?_ | refine ec_ret ?_ | refine ec_condT rfl ?_ | refine ec_condF rfl ?_ | refine ec_condTH rfl (by assumption) ?_ | refine ec_condFH rfl (by assumption) ?_)
      | refine ek_seqN ?_ | refine ek_seqX ?_ | refine ek_seqR ?_ | refine ek_blkN ?_ | refine ek_blkR ?_ | refine ek_blkX ?_ | refine ek_blkY rfl ?_)
    exact rnd_on (by rfl) (scmp2 (by rfl) (by rfl) (by exact ⟨rfl, rfl, rfl⟩) (by rfl) (by first | rfl | (simp; done) | (simp [ints, prs]; done)) (by rfl) (by first | rfl | (simp; done) | (simp [ints, prs]; done)))
  · intro i s hi hs hp
    have hlt : decide ((i : Int) < (fs.length : Nat)) = true := decide_eq_true (by omega)
    have hp' : (!(fun j => !isFn (fs.getD j (0, 0)).1 (fs.getD j (0, 0)).2) i) = false := hp
    have hg := fns_get (l := fs) (j := i) hi
    have e0 := ev116 (fs.getD i (0, 0)).1 (fs.getD i (0, 0)).2
    have hq : (!isFn (fs.getD i (0, 0)).1 (fs.getD i (0, 0)).2) = !((!(fun j => !isFn (fs.getD j (0, 0)).1 (fs.getD j (0, 0)).2) i)) := by simp
    rw [hp'] at hq
    rw [hq] at e0
    unfold m140_0
    repeat' (first
      | refine ep_loadSN rfl rfl rfl hg ?_
      | (refine g_op ?_; first
        | refine ep_mov rfl ?_ | refine sp_loadN rfl rfl rfl rfl rfl ?_
        | refine sp_callv rfl rfl rfl rfl rfl rfl (by first | exact e0) ⟨rfl, rfl, rfl, rfl⟩ rfl rfl rfl ?_
        | refine sp_callb rfl rfl rfl rfl rfl rfl (by first | exact e0) ⟨rfl, rfl, rfl, rfl⟩ rfl rfl rfl ?_
        | refine ep_bin rfl rfl (by first | exact b_add (by omega) (by omega) | exact b_lss) ?_ | refine sp_idx rfl rfl rfl (by omega) rfl ?_ | refine ep_loadSN rfl rfl rfl (by first | exact prs_get (by omega) | exact fns_get (by omega)) ?_)
      | (refine g_ops ?_; first | refine eo_none ?_ | refine eo_nil ?_)
      | (refine g_code ?_; first | refine ec_seq ?_ | refine ec_region ?_ | refine ec_block ?_ | refine ec_skip ?_ | refine ec_exit ?_ | refine ec_ret ?_ | refine ec_condT rfl ?_ | refine ec_condF rfl ?_ | refine ec_condTH rfl (by assumption) ?_ | refine ec_condFH rfl (by assumption) ?_)
      | refine ek_seqN ?_ | refine ek_seqX ?_ | refine ek_seqR ?_ | refine ek_blkN ?_ | refine ek_blkR ?_ | refine ek_blkX ?_ | refine ek_blkY rfl ?_)
    exact rnd_out (by rfl) (by simp) (scmp2 (by rfl) (by rfl) (by exact ⟨rfl, rfl, rfl⟩) (by rfl) (by first | rfl | (simp; done) | (simp [ints, prs]; done)) (by rfl) (by first | rfl | (simp; done) | (simp [ints, prs]; done)))
  · intro s hs
    have hlt : decide (((fs.length : Nat) : Int) < (fs.length : Nat)) = false := decide_eq_false (by omega)
    unfold m140_0
    repeat' (first
      | refine ep_loadSN rfl rfl rfl hg ?_
      | (refine g_op ?_; first
        | refine ep_mov rfl ?_ | refine sp_loadN rfl rfl rfl rfl rfl ?_
        | refine sp_callv rfl rfl rfl rfl rfl rfl (by first | exact e0) ⟨rfl, rfl, rfl, rfl⟩ rfl rfl rfl ?_
        | refine sp_callb rfl rfl rfl rfl rfl rfl (by first | exact e0) ⟨rfl, rfl, rfl, rfl⟩ rfl rfl rfl ?_
        | refine ep_bin rfl rfl (by first | exact b_add (by omega) (by omega) | exact b_lss) ?_ | refine sp_idx rfl rfl rfl (by omega) rfl ?_ | refine ep_loadSN rfl rfl rfl (by first | exact prs_get (by omega) | exact fns_get (by omega)) ?_)
      | (refine g_ops ?_; first | refine eo_none ?_ | refine eo_nil ?_)
      | (refine g_code ?_; first | refine ec_seq ?_ | refine ec_region ?_ | refine ec_block ?_ | refine ec_skip ?_ | refine ec_exit ?_ | refine ec_ret ?_ | refine ec_condT rfl ?_ | refine ec_condF rfl ?_ | refine ec_condTH rfl (by assumption) ?_ | refine ec_condFH rfl (by assumption) ?_)
      | refine ek_seqN ?_ | refine ek_seqX ?_ | refine ek_seqR ?_ | refine ek_blkN ?_ | refine ek_blkR ?_ | refine ek_blkX ?_ | refine ek_blkY rfl ?_)
    exact rnd_out (by rfl) (by simp) (scmp2 (by rfl) (by rfl) (by exact ⟨rfl, rfl, rfl⟩) (by rfl) (by first | rfl | (simp; done) | (simp [ints, prs]; done)) (by rfl) (by first | rfl | (simp; done) | (simp [ints, prs]; done)))
theorem evix_isFunc (fs : List (Int × Int)) (hln : fs.length ≤ 1048576) : Ev cx 140 [.sl 0 0 fs.length, .fn 116 []] [⟨fns fs, 2, 0, some 0, false⟩] (.int .i64 (match firstF (fun i => !(fun j => !isFn (fs.getD j (0, 0)).1 (fs.getD j (0, 0)).2) i) 0 (fs.length) with | none => -1 | some x => ((x : Nat) : Int))) [⟨fns fs, 2, 0, some 0, false⟩] := by
  cases hs : firstF (fun i => !(fun j => !isFn (fs.getD j (0, 0)).1 (fs.getD j (0, 0)).2) i) 0 (fs.length) with
  | none =>
    have lp := lpix_isFunc fs hln _ (by rw [hs])
    refine has140.eev rfl rfl ?_
    unfold m140
    repeat' (first
      | refine sc_loop lp rfl rfl ⟨rfl, rfl, rfl⟩ rfl rfl rfl ?_
      | (refine g_op ?_; first
        | refine ep_mov rfl ?_
        | refine ep_lenS rfl ?_ | refine ep_lenN rfl ?_ | refine ep_lenE rfl ?_)
      | (refine g_ops ?_; first | refine eo_none ?_ | refine eo_nil ?_)
      | (refine g_code ?_; first | refine ec_seq ?_ | refine ec_region ?_ | refine ec_block ?_ | refine ec_ret ?_)
      | refine ek_seqN ?_ | refine ek_seqX ?_ | refine ek_seqR ?_ | refine ek_blkN ?_ | refine ek_blkR ?_ | refine ek_blkX ?_ | refine ek_blkY rfl ?_)
    refine sfin (.inr rfl) (by rfl) (by rfl) (by exact ⟨rfl, rfl, rfl⟩) (by rfl) (by rfl) (by rfl) (by first | rfl | (simp; done) | (simp [ints, prs]; done))
  | some x =>
    have lp := lpix_isFunc fs hln _ (by rw [hs])
    refine has140.eev rfl rfl ?_
    unfold m140
    repeat' (first
      | refine sc_loop lp rfl rfl ⟨rfl, rfl, rfl⟩ rfl rfl rfl ?_
      | (refine g_op ?_; first
        | refine ep_mov rfl ?_
        | refine ep_lenS rfl ?_ | refine ep_lenN rfl ?_ | refine ep_lenE rfl ?_)
      | (refine g_ops ?_; first | refine eo_none ?_ | refine eo_nil ?_)
      | (refine g_code ?_; first | refine ec_seq ?_ | refine ec_region ?_ | refine ec_block ?_ | refine ec_ret ?_)
      | refine ek_seqN ?_ | refine ek_seqX ?_ | refine ek_seqR ?_ | refine ek_blkN ?_ | refine ek_blkR ?_ | refine ek_blkX ?_ | refine ek_blkY rfl ?_)
    refine sfin (.inr rfl) (by rfl) (by rfl) (by exact ⟨rfl, rfl, rfl⟩) (by rfl) (by rfl) (by rfl) (by first | rfl | (simp; done) | (simp [ints, prs]; done))
theorem evcf_isFunc (fs : List (Int × Int)) (hln : fs.length ≤ 1048576) : Ev cx 115 [.sl 0 0 fs.length, .fn 116 []] [⟨fns fs, 2, 0, some 0, false⟩] (.bool (!allF (fun i => !(fun j => !isFn (fs.getD j (0, 0)).1 (fs.getD j (0, 0)).2) i) 0 (fs.length))) [⟨fns fs, 2, 0, some 0, false⟩] := by
  have e1 := evix_isFunc fs hln
  cases hs : firstF (fun i => !(fun j => !isFn (fs.getD j (0, 0)).1 (fs.getD j (0, 0)).2) i) 0 (fs.length) with
  | none =>
    rw [hs] at e1
    refine has115.eev rfl rfl ?_
    unfold m115
    repeat' (first
      | (refine g_op ?_; first
        | refine ep_mov rfl ?_
        | refine ep_call0 rfl (by first | exact e1) rfl rfl ?_
        | refine sp_call rfl rfl rfl rfl (by first | exact e1) ⟨rfl, rfl, rfl, rfl⟩ rfl rfl rfl ?_
        | refine ep_bin rfl rfl (by exact b_geq) ?_)
      | (refine g_ops ?_; first | refine eo_none ?_ | refine eo_nil ?_)
      | (refine g_code ?_; first | refine ec_seq ?_ | refine ec_region ?_ | refine ec_ret ?_)
      | refine ek_seqN ?_ | refine ek_seqR ?_)
    refine sfin (.inr rfl) (by rfl) (by rfl) (by exact ⟨rfl, rfl, rfl⟩) (by rfl) (by rfl) (by rw [firstF_allT hs]; rfl) (by first | rfl | (simp; done) | (simp [ints, prs]; done))
  | some x =>
    rw [hs] at e1
    have hge : decide (((x : Nat) : Int) ≥ 0) = true := decide_eq_true (by omega)
    refine has115.eev rfl rfl ?_
    unfold m115
    repeat' (first
      | (refine g_op ?_; first
        | refine ep_mov rfl ?_
        | refine ep_call0 rfl (by first | exact e1) rfl rfl ?_
        | refine sp_call rfl rfl rfl rfl (by first | exact e1) ⟨rfl, rfl, rfl, rfl⟩ rfl rfl rfl ?_
        | refine ep_bin rfl rfl (by exact b_geq) ?_)
      | (refine g_ops ?_; first | refine eo_none ?_ | refine eo_nil ?_)
      | (refine g_code ?_; first | refine ec_seq ?_ | refine ec_region ?_ | refine ec_ret ?_)
      | refine ek_seqN ?_ | refine ek_seqR ?_)
    refine sfin (.inr rfl) (by rfl) (by rfl) (by exact ⟨rfl, rfl, rfl⟩) (by rfl) (by rfl) (by rw [firstF_allF hs]; first | rfl | exact congrArg V.bool hge) (by first | rfl | (simp; done) | (simp [ints, prs]; done))

theorem evall_Func (fs : List (Int × Int)) (hln : fs.length ≤ 1048576) : Ev cx 115 [.sl 0 0 fs.length, .fn 116 []] [⟨fns fs, 2, 0, some 0, false⟩] (.bool (!allFunc fs)) [⟨fns fs, 2, 0, some 0, false⟩] := by
  have e := evcf_isFunc fs hln
  rwa [show (fun i => !(fun j => !isFn (fs.getD j (0, 0)).1 (fs.getD j (0, 0)).2) i) = fun j => isFn (fs.getD j (0, 0)).1 (fs.getD j (0, 0)).2 by funext j; simp] at e
def lcode (fs : List (Int × Int)) : Int := if allFunc fs = true then (if fs.length > 8 then 2 else 0) else 1
-- impl.areFuncs
def m73 : MC := (.seq (.region [⟨(.mov (.k (.bool false))), (some 2), none⟩] false) (.seq (.region [⟨(.mov (.t 0)), (some 3), none⟩, ⟨(.call 115 [(.t 3), (.k (.fn 116 []))]), (some 4), none⟩, ⟨(.un .not (.t 4)), (some 5), none⟩, ⟨(.mov (.t 5)), (some 2), none⟩] false) .ret))
theorem has73 : Has cx 73 6 m73 [(.tmp 2)] :=
  ⟨⟨Try.f73, Try.f73.body.getD .skip, by kernel_rfl, by kernel_rfl, by kernel_rfl, by kernel_rfl, by kernel_rfl, by kernel_rfl⟩⟩
theorem ev73 (fs : List (Int × Int)) (hln : fs.length ≤ 1048576) : Ev cx 73 [.sl 0 0 fs.length] [⟨fns fs, 2, 0, some 0, false⟩] (.bool (allFunc fs)) [⟨fns fs, 2, 0, some 0, false⟩] := by
  have e1 := evall_Func fs hln
  refine has73.eev rfl rfl ?_
  unfold m73
  repeat' (first
    | (refine g_op ?_; first
      | refine ep_mov rfl ?_
      | refine ep_call0 rfl (by first | exact e1) rfl rfl ?_
      | refine sp_call rfl rfl rfl rfl (by first | exact e1) ⟨rfl, rfl, rfl, rfl⟩ rfl rfl rfl ?_
      | refine ep_not rfl ?_)
    | (refine g_ops ?_; first | refine eo_none ?_ | refine eo_nil ?_)
    | (refine g_code ?_; first | refine ec_seq ?_ | refine ec_region ?_ | refine ec_ret ?_)
    | refine ek_seqN ?_ | refine ek_seqR ?_)
  refine sfin (.inr rfl) (by rfl) (by rfl) (by exact ⟨rfl, rfl, rfl⟩) (by rfl) (by rfl) (by simp) (by first | rfl | (simp; done) | (simp [ints, prs]; done))
-- spec.l02Code
def m69_0 : MC := (.seq (.seq (.region [⟨(.mov (.t 3)), (some 4), none⟩, ⟨(.mov (.t 0)), (some 5), none⟩, ⟨(.len (.t 5)), (some 6), none⟩, ⟨(.bin .lss (.t 4) (.t 6)), (some 7), none⟩] false) (.cond (.t 7) .skip (.exit 0))) (.seq (.block 1 (.seq (.region [⟨(.mov (.t 0)), (some 10), none⟩, ⟨(.mov (.t 3)), (some 11), none⟩, ⟨(.indexAddr 2 (.t 10) (.t 11)), (some 12), none⟩, ⟨(.load (some 2) (.t 12)), (some 13), none⟩, ⟨(.call 53 [(.t 13)]), (some 14), none⟩, ⟨(.un .not (.t 14)), (some 15), none⟩] false) (.cond (.t 15) (.seq (.region [⟨(.mov (.k (.int .i64 1))), (some 2), none⟩] false) .ret) .skip))) (.region [⟨(.mov (.t 3)), (some 8), none⟩, ⟨(.bin .add (.t 8) (.k (.int .i64 1))), (some 9), none⟩, ⟨(.mov (.t 9)), (some 3), none⟩] false)))
def m69 : MC := (.seq (.region [⟨(.mov (.k (.int .i64 0))), (some 2), none⟩] false) (.seq (.seq (.region [⟨(.mov (.k (.int .i64 0))), (some 3), none⟩] false) (.block 0 (.loop m69_0))) (.seq (.seq (.region [⟨(.mov (.t 0)), (some 16), none⟩, ⟨(.len (.t 16)), (some 17), none⟩, ⟨(.bin .gtr (.t 17) (.k (.int .i64 8))), (some 18), none⟩] false) (.cond (.t 18) (.seq (.region [⟨(.mov (.k (.int .i64 2))), (some 2), none⟩] false) .ret) .skip)) (.seq (.region [⟨(.mov (.k (.int .i64 0))), (some 2), none⟩] false) .ret))))
theorem has69 : Has cx 69 19 m69 [(.tmp 2)] :=
  ⟨⟨Try.f69, Try.f69.body.getD .skip, by kernel_rfl, by kernel_rfl, by kernel_rfl, by kernel_rfl, by kernel_rfl, by kernel_rfl⟩⟩
theorem lp69_0 (fs : List (Int × Int)) (hln : fs.length ≤ 1048576) (o : Out) (ho : (if allF (fun j => isFn (fs.getD j (0, 0)).1 (fs.getD j (0, 0)).2) 0 (fs.length) = true then (⟨.exit 0, [(0, .sl 0 0 fs.length)], [⟨fns fs, 2, 0, some 0, false⟩]⟩ : Out) else ⟨.ret, [(2, .int .i64 1)], [⟨fns fs, 2, 0, some 0, false⟩]⟩) = o) :
    LpS cx 19 1 m69_0 [(0, .sl 0 0 fs.length), (3, .int .i64 (0 : Nat))] [⟨fns fs, 2, 0, some 0, false⟩] o.x o.e o.h := by
  refine lp_all (fs.length) (fun j => isFn (fs.getD j (0, 0)).1 (fs.getD j (0, 0)).2) (fun i => [(0, .sl 0 0 fs.length), (3, .int .i64 (i : Nat))]) (fun i => [⟨fns fs, 2, 0, some 0, false⟩]) _ _ ?_ ?_ ?_ (fs.length) 0 o (by omega) ho
  · intro i hi hp
    have hlt : decide ((i : Int) < (fs.length : Nat)) = true := decide_eq_true (by omega)
    have hp' : (isFn (fs.getD i (0, 0)).1 (fs.getD i (0, 0)).2) = true := hp
    have e1 := ev53 (fs.getD i (0, 0)).1 (fs.getD i (0, 0)).2
    rw [show isFn (fs.getD i (0, 0)).1 (fs.getD i (0, 0)).2 = _ from hp] at e1
    have hg := fns_get (l := fs) (j := i) hi
    unfold m69_0
    repeat' (first
      | refine ep_loadSN rfl rfl rfl hg ?_
      | (refine g_op ?_; first
        | refine ep_mov rfl ?_ | refine sp_loadN rfl rfl rfl rfl rfl ?_
        | refine ep_call0 rfl (by first | exact e1) rfl rfl ?_
        | refine sp_call rfl rfl rfl rfl (by first | exact e1) ⟨rfl, rfl, rfl, rfl⟩ rfl rfl rfl ?_
        | refine ep_bin rfl rfl (by first | exact b_add (by omega) (by omega) | exact b_lss) ?_ | refine ep_not rfl ?_ | refine ep_lenS rfl ?_ | refine ep_lenN rfl ?_ | refine ep_lenE rfl ?_ | refine sp_idx rfl rfl rfl (by omega) rfl ?_
        | refine ep_loadSN rfl rfl rfl (by first | exact prs_get (by omega) | exact fns_get (by omega)) ?_)
      | (refine g_ops ?_; first | refine eo_none ?_ | refine eo_nil ?_)
      | (refine g_code ?_; first | refine ec_seq ?_ | refine ec_region ?_ | refine ec_block ?_ | refine ec_skip ?_ | refine ec_exit ?_ | refine ec_ret ?_ | refine ec_condT rfl ?_ | refine ec_condF rfl ?_ | refine ec_condTH rfl (by assumption) ?_ | refine ec_condFH rfl (by assumption) ?_)
      | refine ek_seqN ?_ | refine ek_seqX ?_ | refine ek_seqR ?_ | refine ek_blkN ?_ | refine ek_blkR ?_ | refine ek_blkX ?_ | refine ek_blkY rfl ?_)
    exact rnd_on (by rfl) (scmp2 (by rfl) (by rfl) (by exact ⟨rfl, rfl, rfl⟩) (by rfl) (by first | rfl | (simp; done) | (simp [ints, prs]; done)) (by rfl) (by first | rfl | (simp; done) | (simp [ints, prs]; done)))
  · intro i hi hp
    have hlt : decide ((i : Int) < (fs.length : Nat)) = true := decide_eq_true (by omega)
    have hp' : (isFn (fs.getD i (0, 0)).1 (fs.getD i (0, 0)).2) = false := hp
    have e1 := ev53 (fs.getD i (0, 0)).1 (fs.getD i (0, 0)).2
    rw [show isFn (fs.getD i (0, 0)).1 (fs.getD i (0, 0)).2 = _ from hp] at e1
    have hg := fns_get (l := fs) (j := i) hi
    unfold m69_0
    repeat' (first
      | refine ep_loadSN rfl rfl rfl hg ?_
      | (refine g_op ?_; first
        | refine ep_mov rfl ?_ | refine sp_loadN rfl rfl rfl rfl rfl ?_
        | refine ep_call0 rfl (by first | exact e1) rfl rfl ?_
        | refine sp_call rfl rfl rfl rfl (by first | exact e1) ⟨rfl, rfl, rfl, rfl⟩ rfl rfl rfl ?_
        | refine ep_bin rfl rfl (by first | exact b_add (by omega) (by omega) | exact b_lss) ?_ | refine ep_not rfl ?_ | refine ep_lenS rfl ?_ | refine ep_lenN rfl ?_ | refine ep_lenE rfl ?_ | refine sp_idx rfl rfl rfl (by omega) rfl ?_
        | refine ep_loadSN rfl rfl rfl (by first | exact prs_get (by omega) | exact fns_get (by omega)) ?_)
      | (refine g_ops ?_; first | refine eo_none ?_ | refine eo_nil ?_)
      | (refine g_code ?_; first | refine ec_seq ?_ | refine ec_region ?_ | refine ec_block ?_ | refine ec_skip ?_ | refine ec_exit ?_ | refine ec_ret ?_ | refine ec_condT rfl ?_ | refine ec_condF rfl ?_ | refine ec_condTH rfl (by assumption) ?_ | refine ec_condFH rfl (by assumption) ?_)
      | refine ek_seqN ?_ | refine ek_seqX ?_ | refine ek_seqR ?_ | refine ek_blkN ?_ | refine ek_blkR ?_ | refine ek_blkX ?_ | refine ek_blkY rfl ?_)
    exact rnd_out (by rfl) (by simp) (scmp2 (by rfl) (by rfl) (by exact ⟨rfl, rfl, rfl⟩) (by rfl) (by first | rfl | (simp; done) | (simp [ints, prs]; done)) (by rfl) (by first | rfl | (simp; done) | (simp [ints, prs]; done)))
  · have hlt : decide (((fs.length : Nat) : Int) < (fs.length : Nat)) = false := decide_eq_false (by omega)
    unfold m69_0
    repeat' (first
      | (refine g_op ?_; first
        | refine ep_mov rfl ?_ | refine sp_loadN rfl rfl rfl rfl rfl ?_
        | refine ep_bin rfl rfl (by first | exact b_add (by omega) (by omega) | exact b_lss) ?_ | refine ep_not rfl ?_ | refine ep_lenS rfl ?_ | refine ep_lenN rfl ?_ | refine ep_lenE rfl ?_ | refine sp_idx rfl rfl rfl (by omega) rfl ?_
        | refine ep_loadSN rfl rfl rfl (by first | exact prs_get (by omega) | exact fns_get (by omega)) ?_)
      | (refine g_ops ?_; first | refine eo_none ?_ | refine eo_nil ?_)
      | (refine g_code ?_; first | refine ec_seq ?_ | refine ec_region ?_ | refine ec_block ?_ | refine ec_skip ?_ | refine ec_exit ?_ | refine ec_ret ?_ | refine ec_condT rfl ?_ | refine ec_condF rfl ?_ | refine ec_condTH rfl (by assumption) ?_ | refine ec_condFH rfl (by assumption) ?_)
      | refine ek_seqN ?_ | refine ek_seqX ?_ | refine ek_seqR ?_ | refine ek_blkN ?_ | refine ek_blkR ?_ | refine ek_blkX ?_ | refine ek_blkY rfl ?_)
    exact rnd_out (by rfl) (by simp) (scmp2 (by rfl) (by rfl) (by exact ⟨rfl, rfl, rfl⟩) (by rfl) (by first | rfl | (simp; done) | (simp [ints, prs]; done)) (by rfl) (by first | rfl | (simp; done) | (simp [ints, prs]; done)))

theorem ev69 (fs : List (Int × Int)) (hln : fs.length ≤ 1048576) : Ev cx 69 [.sl 0 0 fs.length] [⟨fns fs, 2, 0, some 0, false⟩] (.int .i64 (lcode fs)) [⟨fns fs, 2, 0, some 0, false⟩] := by
  cases h : allFunc fs
  · have lp := lp69_0 fs hln _ (if_neg (by rw [show allF (fun j => isFn (fs.getD j (0, 0)).1 (fs.getD j (0, 0)).2) 0 fs.length = _ from h]; simp))
    refine has69.eev rfl rfl ?_
    unfold m69
    repeat' (first
      | refine sc_loop lp rfl rfl ⟨rfl, rfl, rfl⟩ rfl rfl rfl ?_
      | (refine g_op ?_; first
        | refine ep_mov rfl ?_
        | refine ep_bin rfl rfl (by exact b_gtr) ?_ | refine ep_lenS rfl ?_ | refine ep_lenN rfl ?_ | refine ep_lenE rfl ?_)
      | (refine g_ops ?_; first | refine eo_none ?_ | refine eo_nil ?_)
      | (refine g_code ?_; first | refine ec_seq ?_ | refine ec_region ?_ | refine ec_block ?_ | refine ec_skip ?_ | refine ec_ret ?_ | refine ec_condT rfl ?_ | refine ec_condF rfl ?_ | refine ec_condTH rfl (by assumption) ?_ | refine ec_condFH rfl (by assumption) ?_)
      | refine ek_seqN ?_ | refine ek_seqX ?_ | refine ek_seqR ?_ | refine ek_blkN ?_ | refine ek_blkR ?_ | refine ek_blkX ?_ | refine ek_blkY rfl ?_)
    refine sfin (.inr rfl) (by rfl) (by rfl) (by exact ⟨rfl, rfl, rfl⟩) (by rfl) (by rfl) (by rw [lcode, if_neg (by rw [h]; simp)]) (by first | rfl | (simp; done) | (simp [ints, prs]; done))
  · have lp := lp69_0 fs hln _ (if_pos h)
    by_cases h2 : fs.length > 8
    · have g2 : decide (((fs.length : Nat) : Int) > 8) = true := decide_eq_true (by omega)
      refine has69.eev rfl rfl ?_
      unfold m69
      repeat' (first
        | refine sc_loop lp rfl rfl ⟨rfl, rfl, rfl⟩ rfl rfl rfl ?_
        | (refine g_op ?_; first
          | refine ep_mov rfl ?_
          | refine ep_bin rfl rfl (by exact b_gtr) ?_ | refine ep_lenS rfl ?_ | refine ep_lenN rfl ?_ | refine ep_lenE rfl ?_)
        | (refine g_ops ?_; first | refine eo_none ?_ | refine eo_nil ?_)
        | (refine g_code ?_; first | refine ec_seq ?_ | refine ec_region ?_ | refine ec_block ?_ | refine ec_skip ?_ | refine ec_ret ?_ | refine ec_condT rfl ?_ | refine ec_condF rfl ?_ | refine ec_condTH rfl (by assumption) ?_ | refine ec_condFH rfl (by assumption) ?_)
        | refine ek_seqN ?_ | refine ek_seqX ?_ | refine ek_seqR ?_ | refine ek_blkN ?_ | refine ek_blkR ?_ | refine ek_blkX ?_ | refine ek_blkY rfl ?_)
      refine sfin (.inr rfl) (by rfl) (by rfl) (by exact ⟨rfl, rfl, rfl⟩) (by rfl) (by rfl) (by rw [lcode, if_pos h, if_pos h2]) (by first | rfl | (simp; done) | (simp [ints, prs]; done))
    · have g2 : decide (((fs.length : Nat) : Int) > 8) = false := decide_eq_false (by omega)
      refine has69.eev rfl rfl ?_
      unfold m69
      repeat' (first
        | refine sc_loop lp rfl rfl ⟨rfl, rfl, rfl⟩ rfl rfl rfl ?_
        | (refine g_op ?_; first
          | refine ep_mov rfl ?_
          | refine ep_bin rfl rfl (by exact b_gtr) ?_ | refine ep_lenS rfl ?_ | refine ep_lenN rfl ?_ | refine ep_lenE rfl ?_)
        | (refine g_ops ?_; first | refine eo_none ?_ | refine eo_nil ?_)
        | (refine g_code ?_; first | refine ec_seq ?_ | refine ec_region ?_ | refine ec_block ?_ | refine ec_skip ?_ | refine ec_ret ?_ | refine ec_condT rfl ?_ | refine ec_condF rfl ?_ | refine ec_condTH rfl (by assumption) ?_ | refine ec_condFH rfl (by assumption) ?_)
        | refine ek_seqN ?_ | refine ek_seqX ?_ | refine ek_seqR ?_ | refine ek_blkN ?_ | refine ek_blkR ?_ | refine ek_blkX ?_ | refine ek_blkY rfl ?_)
      refine sfin (.inr rfl) (by rfl) (by rfl) (by exact ⟨rfl, rfl, rfl⟩) (by rfl) (by rfl) (by rw [lcode, if_pos h, if_neg h2]) (by first | rfl | (simp; done) | (simp [ints, prs]; done))

def foldN {S : Type} (f : Nat → S → S) : Nat → S → S
  | 0, s => s
  | n + 1, s => f n (foldN f n s)
theorem foldN_inv {S : Type} {f : Nat → S → S} {I : S → Prop} : ∀ (n : Nat) (s : S), (∀ j s, j < n → I s → I (f j s)) → I s → I (foldN f n s)
  | 0, s, _, h => h
  | n + 1, s, hf, h => hf n _ (by omega) (foldN_inv n s (fun j s hj => hf j s (by omega)) h)
theorem foldN_congr {S : Type} {f g : Nat → S → S} {I : S → Prop} : ∀ (n : Nat) (s : S), (∀ j s, j < n → I s → f j s = g j s ∧ I (f j s)) → I s → foldN f n s = foldN g n s ∧ I (foldN f n s)
  | 0, s, _, h => ⟨rfl, h⟩
  | n + 1, s, hf, h => by
    obtain ⟨h1, h2⟩ := foldN_congr n s (fun j s hj => hf j s (by omega)) h
    obtain ⟨h3, h4⟩ := hf n _ (by omega) h2
    refine ⟨?_, h4⟩
    show f n (foldN f n s) = g n (foldN g n s)
    rw [h3, h1]
abbrev GS := List Int × Bool
def upS (d : Int) (b : Nat) (s : GS) : GS := if s.1.getD b 0 < 0 then (s.1.set b d, true) else s
def isNw (d : Int) (D : List Int) (now : List Nat) : Bool := d == 1 || !(allF (fun j => !(D.getD (now.getD j 0) 0 == d - 1)) 0 now.length)
def leafS (d : Int) (n b : Nat) (now : List Nat) (s : GS) : GS := upS d (valS b (R2 n) now) s
def leafI (d : Int) (n b : Nat) (now : List Nat) (s : GS) : GS := if isNw d s.1 now = true then leafS d n b now s else s
def walkT (L : List Nat) (leaf : List Nat → GS → GS) : Nat → List Nat → GS → GS
  | 0, now, s => leaf now s
  | m + 1, now, s => foldN (fun j s => walkT L leaf m (now ++ [L.getD j 0]) s) L.length s
def ngs (D : List Int) : Nat := D.countP (fun x => decide (x < 0))
def leD (D D' : List Int) : Prop := D'.length = D.length ∧ ∀ b, 0 ≤ D.getD b 0 → D'.getD b 0 = D.getD b 0
theorem leD_refl (D : List Int) : leD D D := ⟨rfl, fun _ _ => rfl⟩
theorem leD_trans {A B C : List Int} (h1 : leD A B) (h2 : leD B C) : leD A C :=
  ⟨by rw [h2.1, h1.1], fun b h => by rw [h2.2 b (by rw [h1.2 b h]; exact h), h1.2 b h]⟩
theorem getD_set {D : List Int} {b c : Nat} {d : Int} : (D.set b d).getD c 0 = if b = c ∧ c < D.length then d else D.getD c 0 := by
  rw [List.getD_eq_getElem?_getD, List.getElem?_set, List.getD_eq_getElem?_getD]
  by_cases h : b = c
  · subst h
    by_cases h2 : b < D.length
    · simp [h2]
    · simp [h2]
  · simp [h]
theorem upS_le (d : Int) (b : Nat) (s : GS) : leD s.1 (upS d b s).1 := by
  unfold upS
  split
  · rename_i h
    refine ⟨by simp, fun c hc => ?_⟩
    simp only
    rw [getD_set, if_neg]
    rintro ⟨rfl, _⟩
    omega
  · exact leD_refl _
theorem ngs_set : ∀ {D : List Int} {b : Nat} {d : Int}, 0 ≤ d → D.getD b 0 < 0 → ngs (D.set b d) + 1 = ngs D
  | [], b, d, _, h => by simp at h
  | x :: D, 0, d, hd, h => by
    have h' : x < 0 := by simpa using h
    simp [ngs, List.countP_cons, h', show ¬ d < 0 by omega]
  | x :: D, b + 1, d, hd, h => by
    have h' : D.getD b 0 < 0 := by simpa using h
    have := ngs_set hd h'
    simp only [ngs, List.set_cons_succ, List.countP_cons] at this ⊢
    omega
def invG (D0 : List Int) (s : GS) : Prop := leD D0 s.1 ∧ ngs s.1 ≤ ngs D0 ∧ (s.2 = true → ngs s.1 < ngs D0)
theorem upS_inv {D0 : List Int} {d : Int} {b : Nat} {s : GS} (hd : 0 ≤ d) (h : invG D0 s) : invG D0 (upS d b s) := by
  refine ⟨leD_trans h.1 (upS_le d b s), ?_⟩
  unfold upS
  split
  · rename_i hb
    have := ngs_set (d := d) hd hb
    have := h.2.1
    exact ⟨by simp only; omega, fun _ => by simp only; omega⟩
  · exact h.2
theorem walkT_inv {L : List Nat} {leaf : List Nat → GS → GS} {I : GS → Prop} (hl : ∀ now s, I s → I (leaf now s)) : ∀ (m : Nat) (now : List Nat) (s : GS), I s → I (walkT L leaf m now s)
  | 0, now, s, h => hl now s h
  | m + 1, now, s, h => foldN_inv _ _ (fun j s _ hs => walkT_inv hl m _ s hs) h
theorem leafI_inv {D0 : List Int} {d : Int} {n b : Nat} (hd : 0 ≤ d) (now : List Nat) (s : GS) (h : invG D0 s) : invG D0 (leafI d n b now s) := by
  unfold leafI; split
  · exact upS_inv hd h
  · exact h
def inL (L now : List Nat) : Prop := ∀ j, j < now.length → ∃ k, k < L.length ∧ now.getD j 0 = L.getD k 0
theorem inL_snoc {L now : List Nat} {j : Nat} (h : inL L now) (hj : j < L.length) : inL L (now ++ [L.getD j 0]) := by
  intro i hi
  by_cases h1 : i < now.length
  · obtain ⟨k, hk, e⟩ := h i h1
    refine ⟨k, hk, ?_⟩
    rw [List.getD_eq_getElem?_getD, List.getElem?_append_left h1, ← List.getD_eq_getElem?_getD]; exact e
  · simp at hi
    refine ⟨j, hj, ?_⟩
    rw [List.getD_eq_getElem?_getD, List.getElem?_append_right (by omega), show i - now.length = 0 by omega]; rfl
theorem isNw_congr {d : Int} {D0 D : List Int} {L now : List Nat} (hle : leD D0 D) (hL : ∀ k, k < L.length → 0 ≤ D0.getD (L.getD k 0) 0) (hn : inL L now) : isNw d D now = isNw d D0 now := by
  unfold isNw
  congr 2
  refine allF_congr _ _ fun x _ hx => ?_
  obtain ⟨k, hk, e⟩ := hn x (by omega)
  rw [e, hle.2 _ (hL k hk)]
theorem walk_eq {d : Int} {n b a : Nat} {D0 : List Int} {L : List Nat} (hd : 0 ≤ d) (hL : ∀ k, k < L.length → 0 ≤ D0.getD (L.getD k 0) 0)
    (H : ∀ t : List Nat, t.length = a → inL L t → isNw d D0 t = false → 0 ≤ D0.getD (valS b (R2 n) t) 0) : ∀ (m : Nat) (now : List Nat) (s : GS), now.length + m = a → inL L now → invG D0 s →
    walkT L (leafI d n b) m now s = walkT L (leafS d n b) m now s ∧ invG D0 (walkT L (leafI d n b) m now s)
  | 0, now, s, hm, hn, hs => by
    refine ⟨?_, leafI_inv hd now s hs⟩
    show leafI d n b now s = leafS d n b now s
    unfold leafI
    split
    · rfl
    · rename_i hw
      rw [isNw_congr hs.1 hL hn] at hw
      have := H now (by omega) hn (by simpa using hw)
      unfold leafS upS
      rw [if_neg]
      rw [hs.1.2 _ this]; omega
  | m + 1, now, s, hm, hn, hs => by
    refine foldN_congr L.length s (fun j s hj hI => ?_) hs
    exact walk_eq hd hL H m _ s (by simp; omega) (inL_snoc hn hj) hI
theorem walk_cl {d : Int} {n b N : Nat} {L : List Nat} (hd : 0 ≤ d) (hN : ∀ t, valS b (R2 n) t < N) : ∀ (m : Nat) (now rest : List Nat) (s : GS), s.1.length = N → rest.length = m → inL L rest →
    0 ≤ (walkT L (leafS d n b) m now s).1.getD (valS b (R2 n) (now ++ rest)) 0
  | 0, now, rest, s, hs, hm, _ => by
    have hr : rest = [] := List.eq_nil_of_length_eq_zero hm
    subst hr
    rw [List.append_nil]
    show 0 ≤ (leafS d n b now s).1.getD _ 0
    unfold leafS upS
    split
    · simp only; rw [getD_set, if_pos ⟨rfl, by rw [hs]; exact hN now⟩]; exact hd
    · omega
  | m + 1, now, [], s, hs, hm, _ => by simp at hm
  | m + 1, now, x :: rest, s, hs, hm, hr => by
    obtain ⟨k, hk, e⟩ := hr 0 (by simp)
    have e' : x = L.getD k 0 := by simpa using e
    subst e'
    have hr' : inL L rest := fun j hj => by
      obtain ⟨k', h1, h2⟩ := hr (j + 1) (by simp; omega)
      exact ⟨k', h1, by simpa using h2⟩
    have step : ∀ q, q ≤ L.length → ((foldN (fun j s => walkT L (leafS d n b) m (now ++ [L.getD j 0]) s) q s).1.length = N ∧ (k < q → 0 ≤ (foldN (fun j s => walkT L (leafS d n b) m (now ++ [L.getD j 0]) s) q s).1.getD (valS b (R2 n) (now ++ L.getD k 0 :: rest)) 0)) := by
      intro q
      induction q with
      | zero => intro _; exact ⟨hs, by omega⟩
      | succ q ih =>
        intro hq
        obtain ⟨i1, i2⟩ := ih (by omega)
        have hle := walkT_inv (L := L) (leaf := leafS d n b) (I := fun u => leD (foldN (fun j s => walkT L (leafS d n b) m (now ++ [L.getD j 0]) s) q s).1 u.1) (fun nw u hu => leD_trans hu (upS_le d _ u)) m (now ++ [L.getD q 0]) _ (leD_refl _)
        refine ⟨by rw [foldN, hle.1, i1], fun hk2 => ?_⟩
        by_cases hkq : k = q
        · subst hkq
          have := walk_cl hd hN m (now ++ [L.getD k 0]) rest (foldN (fun j s => walkT L (leafS d n b) m (now ++ [L.getD j 0]) s) k s) i1 (by simpa using hm) hr'
          rw [List.append_assoc] at this
          exact this
        · have h0 := i2 (by omega)
          rw [foldN, hle.2 _ h0]; exact h0
    exact (step L.length (Nat.le_refl _)).2 hk
def rndG (leaf : Int → Nat → Nat → List Nat → GS → GS) (fs : List (Int × Int)) (n : Nat) (d : Int) (L : List Nat) (D : List Int) : GS :=
  foldN (fun k s => walkT L (leaf d n (fs.getD k (0, 0)).2.toNat) (fs.getD k (0, 0)).1.toNat [] s) fs.length (D, false)
def kwI (N : Nat) (d : Int) (D : List Int) : List Nat := selm (fun b => decide (0 ≤ D.getD b 0 ∧ D.getD b 0 ≤ d - 1)) idn N
def kwS (N : Nat) (D : List Int) : List Nat := selm (fun b => decide (0 ≤ D.getD b 0)) idn N
def genI (fs : List (Int × Int)) (n : Nat) : Nat → Nat → List Int → List Int
  | 0, _, D => D
  | k + 1, d, D => if (rndG leafI fs n d (kwI (R2 (R2 n)) d D) D).2 = true then genI fs n k (d + 1) (rndG leafI fs n d (kwI (R2 (R2 n)) d D) D).1 else (rndG leafI fs n d (kwI (R2 (R2 n)) d D) D).1
def genS (fs : List (Int × Int)) (n : Nat) : Nat → Nat → List Int → List Int
  | 0, _, D => D
  | k + 1, d, D => if (rndG leafS fs n d (kwS (R2 (R2 n)) D) D).2 = true then genS fs n k (d + 1) (rndG leafS fs n d (kwS (R2 (R2 n)) D) D).1 else (rndG leafS fs n d (kwS (R2 (R2 n)) D) D).1
def bndD (d : Int) (D : List Int) : Prop := ∀ b, -1 ≤ D.getD b 0 ∧ D.getD b 0 ≤ d
theorem upS_bnd {d : Int} {b : Nat} {s : GS} (hd : 0 ≤ d) (h : bndD d s.1) : bndD d (upS d b s).1 := by
  unfold upS; split
  · intro c; simp only; rw [getD_set]; split
    · omega
    · exact h c
  · exact h
def gClo (fs : List (Int × Int)) (n : Nat) (d : Int) (D : List Int) : Prop := d = 1 ∨ ∀ k, k < fs.length → ∀ t : List Nat, t.length = (fs.getD k (0, 0)).1.toNat → (∀ j, j < t.length → t.getD j 0 < R2 (R2 n) ∧ 0 ≤ D.getD (t.getD j 0) 0 ∧ D.getD (t.getD j 0) 0 ≤ d - 2) → 0 ≤ D.getD (valS (fs.getD k (0, 0)).2.toNat (R2 n) t) 0
theorem selm_mem {p : Nat → Bool} {n x : Nat} (hx : x < n) (hp : p x = true) : ∃ k, k < (selm p idn n).length ∧ x = (selm p idn n).getD k 0 := by
  induction n with
  | zero => omega
  | succ n ih =>
    by_cases hn : x = n
    · subst hn
      rw [selm_t hp]
      refine ⟨(selm p idn x).length, by simp, ?_⟩
      rw [List.getD_eq_getElem?_getD, List.getElem?_append_right (Nat.le_refl _)]; simp
    · obtain ⟨k, h1, h2⟩ := ih (by omega)
      cases hpn : p n
      · rw [selm_f hpn]; exact ⟨k, h1, h2⟩
      · rw [selm_t hpn]
        refine ⟨k, by simp; omega, ?_⟩
        rw [List.getD_eq_getElem?_getD, List.getElem?_append_left h1, ← List.getD_eq_getElem?_getD]; exact h2
theorem selm_lt0 {p : Nat → Bool} {n j : Nat} (h : j < (selm p idn n).length) : (selm p idn n).getD j 0 < n ∧ p ((selm p idn n).getD j 0) = true := by
  have hm : (selm p idn n).getD j 0 ∈ selm p idn n := by
    rw [List.getD_eq_getElem?_getD, List.getElem?_eq_getElem h]; simp
  generalize (selm p idn n).getD j 0 = x at hm
  clear h
  induction n with
  | zero => simp [selm] at hm
  | succ n ih =>
    cases hp : p n
    · rw [selm_f hp] at hm; have := ih hm; exact ⟨by omega, this.2⟩
    · rw [selm_t hp] at hm
      rcases List.mem_append.mp hm with h1 | h1
      · have := ih h1; exact ⟨by omega, this.2⟩
      · have : x = n := by simpa using h1
        subst this; exact ⟨by omega, hp⟩
theorem rnd_inv {fs : List (Int × Int)} {n : Nat} {d : Int} {L : List Nat} {D : List Int} (hd : 0 ≤ d) : invG D (rndG leafS fs n d L D) := by
  refine foldN_inv (I := invG D) _ _ (fun k s _ hs => walkT_inv (fun now s hs => upS_inv hd hs) _ _ s hs) ?_
  exact ⟨leD_refl _, Nat.le_refl _, by simp⟩
theorem rndI_inv {fs : List (Int × Int)} {n : Nat} {d : Int} {L : List Nat} {D : List Int} (hd : 0 ≤ d) : invG D (rndG leafI fs n d L D) := by
  refine foldN_inv (I := invG D) _ _ (fun k s _ hs => walkT_inv (fun now s hs => leafI_inv hd now s hs) _ _ s hs) ?_
  exact ⟨leD_refl _, Nat.le_refl _, by simp⟩
theorem rnd_bnd {fs : List (Int × Int)} {n : Nat} {d : Int} {L : List Nat} {D : List Int} (hd : 0 ≤ d) (h : bndD d D) : bndD d (rndG leafS fs n d L D).1 :=
  foldN_inv (I := fun s : GS => bndD d s.1) _ _ (fun k s _ hs => walkT_inv (I := fun s : GS => bndD d s.1) (fun now s hs => upS_bnd hd hs) _ _ s hs) h
theorem valS_R (b n : Nat) (t : List Nat) : valS b (R2 n) t < R2 (R2 n) := valS_lt b (R2 n) t
theorem rnd_eq {fs : List (Int × Int)} {n : Nat} {d : Int} {D : List Int} (hd : 1 ≤ d) (hl : D.length = R2 (R2 n)) (hb : bndD (d - 1) D) (hc : gClo fs n d D) :
    kwI (R2 (R2 n)) d D = kwS (R2 (R2 n)) D ∧ rndG leafI fs n d (kwS (R2 (R2 n)) D) D = rndG leafS fs n d (kwS (R2 (R2 n)) D) D ∧ gClo fs n (d + 1) (rndG leafS fs n d (kwS (R2 (R2 n)) D) D).1 := by
  have hL : ∀ k, k < (kwS (R2 (R2 n)) D).length → 0 ≤ D.getD ((kwS (R2 (R2 n)) D).getD k 0) 0 := fun k hk => by
    exact of_decide_eq_true (selm_lt0 hk).2
  refine ⟨?_, ?_, ?_⟩
  · refine selm_congr _ fun i _ => ⟨?_, fun _ => rfl⟩
    have := hb i
    rw [Bool.eq_iff_iff]; simp only [decide_eq_true_eq]; omega
  · refine (foldN_congr (I := invG D) _ _ (fun k s hk hs => ?_) ⟨leD_refl _, Nat.le_refl _, by simp⟩).1
    refine walk_eq (a := (fs.getD k (0, 0)).1.toNat) (by omega) hL ?_ _ _ s (by rw [List.length_nil, Nat.zero_add]) (fun j hj => by simp at hj) hs
    intro t ht hin hw
    unfold isNw at hw
    rw [Bool.or_eq_false_iff] at hw
    rcases hc with h1 | hc
    · rw [h1] at hw; simp at hw
    · refine hc k hk t ht fun j hj => ?_
      obtain ⟨k', h1, h2⟩ := hin j hj
      have h3 := selm_lt0 h1
      have h4 := hL k' h1
      have h5 := hb (t.getD j 0)
      have h6 : allF (fun j => !(D.getD (t.getD j 0) 0 == d - 1)) 0 t.length = true := by simpa using hw.2
      have h7 := (allF_iff _ _).mp h6 j (by omega) (by omega)
      have h8 : D.getD (t.getD j 0) 0 ≠ d - 1 := by simpa using h7
      rw [h2] at *
      exact ⟨h3.1, h4, by omega⟩
  · right
    intro k hk t ht hm
    have hinv := rnd_inv (fs := fs) (n := n) (d := d) (L := kwS (R2 (R2 n)) D) (D := D) (by omega)
    -- members of t were known
    have hin : inL (kwS (R2 (R2 n)) D) t := fun j hj => by
      obtain ⟨g1, g2, g3⟩ := hm j hj
      have : 0 ≤ D.getD (t.getD j 0) 0 := by
        have hcell : ∀ (c : Nat), 0 ≤ (rndG leafS fs n d (kwS (R2 (R2 n)) D) D).1.getD c 0 → (rndG leafS fs n d (kwS (R2 (R2 n)) D) D).1.getD c 0 ≤ d - 1 → 0 ≤ D.getD c 0 := by
          intro c
          refine foldN_inv (I := fun s : GS => 0 ≤ s.1.getD c 0 → s.1.getD c 0 ≤ d - 1 → 0 ≤ D.getD c 0) _ _ (fun k s _ hs => walkT_inv (I := fun s : GS => 0 ≤ s.1.getD c 0 → s.1.getD c 0 ≤ d - 1 → 0 ≤ D.getD c 0) (fun now s hs => ?_) _ _ s hs) (fun h _ => h)
          unfold leafS upS
          split
          · simp only; rw [getD_set]; split
            · intro _ h; omega
            · exact hs
          · exact hs
        exact hcell _ g2 (by omega)
      obtain ⟨k', e1, e2⟩ := selm_mem (p := fun b => decide (0 ≤ D.getD b 0)) g1 (by simpa using this)
      exact ⟨k', e1, e2⟩
    have step : ∀ q, q ≤ fs.length → ((foldN (fun k s => walkT (kwS (R2 (R2 n)) D) (leafS d n (fs.getD k (0, 0)).2.toNat) (fs.getD k (0, 0)).1.toNat [] s) q (D, false)).1.length = R2 (R2 n) ∧ (k < q → 0 ≤ (foldN (fun k s => walkT (kwS (R2 (R2 n)) D) (leafS d n (fs.getD k (0, 0)).2.toNat) (fs.getD k (0, 0)).1.toNat [] s) q (D, false)).1.getD (valS (fs.getD k (0, 0)).2.toNat (R2 n) t) 0)) := by
      intro q
      induction q with
      | zero => intro _; exact ⟨hl, by omega⟩
      | succ q ih =>
        intro hq
        obtain ⟨i1, i2⟩ := ih (by omega)
        have hle := walkT_inv (L := kwS (R2 (R2 n)) D) (leaf := leafS d n (fs.getD q (0, 0)).2.toNat) (I := fun u => leD (foldN (fun k s => walkT (kwS (R2 (R2 n)) D) (leafS d n (fs.getD k (0, 0)).2.toNat) (fs.getD k (0, 0)).1.toNat [] s) q (D, false)).1 u.1) (fun nw u hu => leD_trans hu (upS_le d _ u)) (fs.getD q (0, 0)).1.toNat [] _ (leD_refl _)
        refine ⟨by rw [foldN, hle.1, i1], fun hk2 => ?_⟩
        by_cases hkq : k = q
        · subst hkq
          have := walk_cl (d := d) (n := n) (b := (fs.getD k (0, 0)).2.toNat) (L := kwS (R2 (R2 n)) D) (by omega) (valS_R _ n) (fs.getD k (0, 0)).1.toNat [] t _ i1 ht hin
          rw [List.nil_append] at this
          exact this
        · have h0 := i2 (by omega)
          rw [foldN, hle.2 _ h0]; exact h0
    exact (step fs.length (Nat.le_refl _)).2 hk
theorem gen_eq {fs : List (Int × Int)} {n : Nat} : ∀ (k d : Nat) (D : List Int), 1 ≤ d → D.length = R2 (R2 n) → bndD (d - 1) D → gClo fs n d D → genI fs n k d D = genS fs n k d D
  | 0, d, D, _, _, _, _ => rfl
  | k + 1, d, D, hd, hl, hb, hc => by
    obtain ⟨e1, e2, e3⟩ := rnd_eq (d := d) (by omega) hl hb hc
    rw [genI, genS, e1, e2]
    have hi := rnd_inv (fs := fs) (n := n) (d := d) (L := kwS (R2 (R2 n)) D) (D := D) (by omega)
    have hb2 : bndD d D := fun b => ⟨(hb b).1, by have := (hb b).2; omega⟩
    have hb3 := rnd_bnd (fs := fs) (n := n) (d := d) (L := kwS (R2 (R2 n)) D) (by omega) hb2
    have := gen_eq (fs := fs) (n := n) k (d + 1) (rndG leafS fs n d (kwS (R2 (R2 n)) D) D).1 (by omega) (by rw [hi.1.1, hl]) (by rw [show ((d + 1 : Nat) : Int) - 1 = d by omega]; exact hb3) e3
    rw [this]
def projB (n i : Nat) : Nat := pk (fun r => bt r i) (R2 n)
def D0 (n : Nat) : Nat → List Int := fun j => foldN (fun i D => D.set (projB n i) 0) j (List.replicate (R2 (R2 n)) (-1))
def depL (fs : List (Int × Int)) (n : Nat) : List Int := genS fs n (R2 (R2 n) + 1) 1 (D0 n n)
theorem D0_len (n j : Nat) : (D0 n j).length = R2 (R2 n) := foldN_inv (I := fun D : List Int => D.length = R2 (R2 n)) _ _ (fun j D _ h => by simpa using h) (by simp)
theorem D0_bnd (n j : Nat) : bndD 0 (D0 n j) := by
  refine foldN_inv (I := bndD 0) _ _ (fun j D _ h c => ?_) (fun c => ?_)
  · rw [getD_set]; split
    · omega
    · exact h c
  · rw [List.getD_eq_getElem?_getD, List.getElem?_replicate]
    split <;> simp
theorem ngs_le (D : List Int) : ngs D ≤ D.length := List.countP_le_length
theorem depL_I (fs : List (Int × Int)) (n : Nat) : genI fs n (R2 (R2 n) + 1) 1 (D0 n n) = depL fs n :=
  gen_eq _ 1 _ (by omega) (D0_len n n) (by simpa using D0_bnd n n) (.inl rfl)
theorem genS_len {fs : List (Int × Int)} {n : Nat} : ∀ (k d : Nat) (D : List Int), (genS fs n k d D).length = D.length
  | 0, d, D => rfl
  | k + 1, d, D => by
    rw [genS]
    have h := (rnd_inv (fs := fs) (n := n) (d := d) (L := kwS (R2 (R2 n)) D) (D := D) (by omega)).1.1
    split
    · rw [genS_len k, h]
    · exact h
theorem genS_bnd {fs : List (Int × Int)} {n : Nat} : ∀ (k d : Nat) (D : List Int), bndD d D → bndD (d + k) (genS fs n k d D)
  | 0, d, D, h => by simpa [genS] using h
  | k + 1, d, D, h => by
    rw [genS]
    have h1 := rnd_bnd (fs := fs) (n := n) (d := d) (L := kwS (R2 (R2 n)) D) (by omega) h
    have h2 : bndD ((d + 1 : Nat) : Int) (rndG leafS fs n d (kwS (R2 (R2 n)) D) D).1 := fun b => ⟨(h1 b).1, by have := (h1 b).2; omega⟩
    split
    · have := genS_bnd (fs := fs) (n := n) k (d + 1) _ h2
      intro b; have := this b; omega
    · intro b; have := h1 b; omega
theorem depL_len (fs : List (Int × Int)) (n : Nat) : (depL fs n).length = R2 (R2 n) := by rw [depL, genS_len, D0_len]

theorem zints_set {D : List Int} {b : Nat} {d : Int} (h : b < D.length) : (zints D).take (0 + b * 1) ++ [V.int .i64 d] ++ (zints D).drop (0 + b * 1 + 1) = zints (D.set b d) := by
  simp only [zints, Nat.mul_one, Nat.zero_add]
  rw [List.set_eq_take_append_cons_drop, if_pos h]
  simp
theorem prs_snoc (n : Nat) (l : List Nat) (v : Nat) : prs n l ++ [V.int .i64 (n : Nat), V.int .i64 (v : Nat)] = prs n (l ++ [v]) := by simp [prs]
theorem R2_4 {k : Nat} (h : k ≤ 4) : R2 k ≤ 16 := (shN h).1
def pjG (i r : Nat) : Nat := bt r i
def puG (b : Nat) (s : List Nat) (r : Nat) : Nat := bt b (rowS s r)
-- impl.projection$1
def m146 : MC := (.seq (.region [⟨(.mov (.k (.int .i64 0))), (some 3), none⟩] false) (.seq (.region [⟨(.mov (.t 0)), (some 4), none⟩, ⟨(.load none (.t 1)), (some 5), none⟩, ⟨(.call 137 [(.t 4), (.t 5)]), (some 6), none⟩, ⟨(.mov (.t 6)), (some 3), none⟩] false) .ret))
theorem has146 : Has cx 146 7 m146 [(.tmp 3)] :=
  ⟨⟨Try.f146, Try.f146.body.getD .skip, by kernel_rfl, by kernel_rfl, by kernel_rfl, by kernel_rfl, by kernel_rfl, by kernel_rfl⟩⟩
theorem ev146 (i r : Nat) (hi : i ≤ 16) (hr : r < 65536) : Ev cx 146 [.int .i64 r, .ptr 0 0] [⟨[.int .i64 i], 1, 0, some 0, true⟩] (.int .i64 (pjG i r : Nat)) [⟨[.int .i64 i], 1, 0, some 0, true⟩] := by
  refine has146.eev rfl rfl ?_
  unfold m146
  repeat' (first
    | (refine g_op ?_; first
      | refine ep_mov rfl ?_ | refine ep_load1 rfl rfl rfl rfl ?_
      | refine ep_call0 rfl (by first | exact ev137 r i (by omega) (by omega)) rfl rfl ?_
      | refine sp_call rfl rfl rfl rfl (by first | exact ev137 r i (by omega) (by omega)) ⟨rfl, rfl, rfl, rfl⟩ rfl rfl rfl ?_)
    | (refine g_ops ?_; first | refine eo_none ?_ | refine eo_nil ?_)
    | (refine g_code ?_; first | refine ec_seq ?_ | refine ec_region ?_ | refine ec_ret ?_)
    | refine ek_seqN ?_ | refine ek_seqR ?_)
  refine sfin (.inr rfl) (by rfl) (by rfl) (by exact ⟨rfl, rfl, rfl⟩) (by rfl) (by rfl) (by rfl) (by first | rfl | (simp; done) | (simp [ints, prs]; done))
-- impl.projection
def m127 : MC := (.seq (.region [⟨(.box (.t 1)), (some 3), none⟩, ⟨(.alloc [(.int .i64 0), (.int .i64 0)]), (some 4), none⟩] false) (.seq (.region [⟨(.mov (.t 0)), (some 5), none⟩, ⟨(.mkfn 146 [(.t 3)]), (some 6), none⟩, ⟨(.call 145 [(.t 5), (.t 6)]), (some 7), none⟩, ⟨(.store 2 (.t 4) (.t 7)), none, none⟩] false) .ret))
theorem has127 : Has cx 127 8 m127 [(.cell 4 (some 2))] :=
  ⟨⟨Try.f127, Try.f127.body.getD .skip, by kernel_rfl, by kernel_rfl, by kernel_rfl, by kernel_rfl, by kernel_rfl, by kernel_rfl⟩⟩
theorem lpfb_pj (n i0 : Nat) (hn : n ≤ 4) (hi0 : i0 ≤ 4) :
    LpS cx 25 1 m145_0 [(1, .fn 146 [.ptr 0 0]), (4, .ptr 1 0), (5, .ptr 2 0), (10, .int .i64 (R2 (n) : Nat)), (11, .int .i64 (0 : Nat))] [⟨[.int .i64 (i0 : Nat)], 1, 0, some 0, true⟩, ⟨[.int .i64 0, .int .i64 0], 1, 1, some 0, true⟩, ⟨[.int .i64 (n : Nat), .int .i64 (pk (pjG i0) (0) : Nat)], 1, 2, some 0, true⟩] (⟨.exit 0, [(4, .ptr 1 0), (5, .ptr 2 0)], [⟨[.int .i64 (i0 : Nat)], 1, 0, some 0, true⟩, ⟨[.int .i64 0, .int .i64 0], 1, 1, some 0, true⟩, ⟨[.int .i64 (n : Nat), .int .i64 (pk (pjG i0) (R2 (n)) : Nat)], 1, 2, some 0, true⟩]⟩ : Out).x (⟨.exit 0, [(4, .ptr 1 0), (5, .ptr 2 0)], [⟨[.int .i64 (i0 : Nat)], 1, 0, some 0, true⟩, ⟨[.int .i64 0, .int .i64 0], 1, 1, some 0, true⟩, ⟨[.int .i64 (n : Nat), .int .i64 (pk (pjG i0) (R2 (n)) : Nat)], 1, 2, some 0, true⟩]⟩ : Out).e (⟨.exit 0, [(4, .ptr 1 0), (5, .ptr 2 0)], [⟨[.int .i64 (i0 : Nat)], 1, 0, some 0, true⟩, ⟨[.int .i64 0, .int .i64 0], 1, 1, some 0, true⟩, ⟨[.int .i64 (n : Nat), .int .i64 (pk (pjG i0) (R2 (n)) : Nat)], 1, 2, some 0, true⟩]⟩ : Out).h := by
  obtain ⟨h1, h2, h3, h4⟩ := shN hn
  have hgl : ∀ r, r < R2 (n) → (pjG i0) r ≤ 1 := fun r _ => bt_le _ _
  refine lp_st (R2 (n)) (fun _ => ()) (fun i _ => [(1, .fn 146 [.ptr 0 0]), (4, .ptr 1 0), (5, .ptr 2 0), (10, .int .i64 (R2 (n) : Nat)), (11, .int .i64 (i : Nat))]) (fun i _ => [⟨[.int .i64 (i0 : Nat)], 1, 0, some 0, true⟩, ⟨[.int .i64 0, .int .i64 0], 1, 1, some 0, true⟩, ⟨[.int .i64 (n : Nat), .int .i64 (pk (pjG i0) (i) : Nat)], 1, 2, some 0, true⟩]) (fun _ => (⟨.exit 0, [(4, .ptr 1 0), (5, .ptr 2 0)], [⟨[.int .i64 (i0 : Nat)], 1, 0, some 0, true⟩, ⟨[.int .i64 0, .int .i64 0], 1, 1, some 0, true⟩, ⟨[.int .i64 (n : Nat), .int .i64 (pk (pjG i0) (R2 (n)) : Nat)], 1, 2, some 0, true⟩]⟩ : Out)) ?_ ?_ (R2 (n)) 0 (by omega)
  · intro i u_ hi hu_
    refine ⟨(), rfl, ?_⟩
    have hlt : decide ((i : Int) < (R2 (n) : Nat)) = true := decide_eq_true (by omega)
    have hg := hgl i hi
    have hp0 := pk_lt (g := pjG i0) (n := i) fun r hr => hgl r (by omega)
    have hp1 := R2_mono (i := i) (n := R2 (n)) (by omega)
    have hs := sl_lt hg hi
    have hp2 := or_lt (n := R2 (n)) (show pk (pjG i0) i < R2 (R2 (n)) by omega) hs
    unfold m145_0
    repeat' (first
      | (refine g_op ?_; first
        | refine ep_mov rfl ?_ | refine ep_load1 rfl rfl rfl rfl ?_ | refine ep_fieldAddr rfl ?_
        | refine sp_callv rfl rfl rfl rfl rfl rfl (by first | exact ev146 i0 i (by omega) (by omega)) ⟨rfl, rfl, rfl, rfl⟩ rfl rfl rfl ?_
        | refine sp_callb rfl rfl rfl rfl rfl rfl (by first | exact ev146 i0 i (by omega) (by omega)) ⟨rfl, rfl, rfl, rfl⟩ rfl rfl rfl ?_
        | refine ep_bin rfl rfl (by first | exact b_add (by omega) (by omega) | exact b_or (by omega) (by omega) | exact b_shl (by omega) (by omega) | exact b_lss) ?_ | refine sp_store rfl rfl rfl rfl rfl rfl rfl rfl rfl rfl ?_)
      | (refine g_ops ?_; first | refine eo_none ?_ | refine eo_nil ?_)
      | (refine g_dops ?_; first | refine ed_none ?_ | refine ed_nil ?_)
      | refine ed_same rfl ?_ | refine ed_one rfl rfl rfl rfl ?_ | refine ed_two rfl rfl rfl rfl rfl rfl rfl ?_ | refine ed_write rfl rfl ?_
      | (refine g_code ?_; first | refine ec_seq ?_ | refine ec_region ?_ | refine ec_draw ?_ | refine ec_block ?_ | refine ec_skip ?_ | refine ec_exit ?_ | refine ec_condT rfl ?_ | refine ec_condF rfl ?_ | refine ec_condTH rfl (by assumption) ?_ | refine ec_condFH rfl (by assumption) ?_)
      | refine ek_seqN ?_ | refine ek_seqX ?_ | refine ek_blkN ?_ | refine ek_blkR ?_ | refine ek_blkX ?_ | refine ek_blkY rfl ?_)
    exact rnd_on (by rfl) (scmp2 (by rfl) (by rfl) (by exact ⟨rfl, rfl, rfl⟩) (by rfl) (by first | rfl | (simp; done) | (simp [ints, prs]; done)) (by rfl) (by first | rfl | (simp; done) | (simp [ints, prs]; done)))
  · intro u_ hu_
    have hlt : decide (((R2 (n) : Nat) : Int) < (R2 (n) : Nat)) = false := decide_eq_false (by omega)
    unfold m145_0
    repeat' (first
      | (refine g_op ?_; first
        | refine ep_mov rfl ?_ | refine ep_load1 rfl rfl rfl rfl ?_ | refine ep_fieldAddr rfl ?_
        | refine sp_callv rfl rfl rfl rfl rfl rfl (by first | exact ev146 i0 i (by omega) (by omega)) ⟨rfl, rfl, rfl, rfl⟩ rfl rfl rfl ?_
        | refine sp_callb rfl rfl rfl rfl rfl rfl (by first | exact ev146 i0 i (by omega) (by omega)) ⟨rfl, rfl, rfl, rfl⟩ rfl rfl rfl ?_
        | refine ep_bin rfl rfl (by first | exact b_add (by omega) (by omega) | exact b_or (by omega) (by omega) | exact b_shl (by omega) (by omega) | exact b_lss) ?_ | refine sp_store rfl rfl rfl rfl rfl rfl rfl rfl rfl rfl ?_)
      | (refine g_ops ?_; first | refine eo_none ?_ | refine eo_nil ?_)
      | (refine g_dops ?_; first | refine ed_none ?_ | refine ed_nil ?_)
      | refine ed_same rfl ?_ | refine ed_one rfl rfl rfl rfl ?_ | refine ed_two rfl rfl rfl rfl rfl rfl rfl ?_ | refine ed_write rfl rfl ?_
      | (refine g_code ?_; first | refine ec_seq ?_ | refine ec_region ?_ | refine ec_draw ?_ | refine ec_block ?_ | refine ec_skip ?_ | refine ec_exit ?_ | refine ec_condT rfl ?_ | refine ec_condF rfl ?_ | refine ec_condTH rfl (by assumption) ?_ | refine ec_condFH rfl (by assumption) ?_)
      | refine ek_seqN ?_ | refine ek_seqX ?_ | refine ek_blkN ?_ | refine ek_blkR ?_ | refine ek_blkX ?_ | refine ek_blkY rfl ?_)
    exact rnd_out (by rfl) (by simp) (scmp2 (by rfl) (by rfl) (by exact ⟨rfl, rfl, rfl⟩) (by rfl) (by first | rfl | (simp; done) | (simp [ints, prs]; done)) (by rfl) (by first | rfl | (simp; done) | (simp [ints, prs]; done)))
theorem evfb_pj (n i0 : Nat) (hn : n ≤ 4) (hi0 : i0 ≤ 4) : Ev cx 145 [.int .i64 (n : Nat), .fn 146 [.ptr 0 0]] [⟨[.int .i64 (i0 : Nat)], 1, 0, some 0, true⟩] (.agg [.int .i64 (n : Nat), .int .i64 (pk (pjG i0) (R2 (n)) : Nat)]) [⟨[.int .i64 (i0 : Nat)], 1, 0, some 0, true⟩] := by
  obtain ⟨h1, h2, h3, h4⟩ := shN hn
  have lp := lpfb_pj n i0 hn hi0
  refine has145.eev rfl rfl ?_
  unfold m145
  repeat' (first
    | refine sc_loop lp rfl rfl ⟨rfl, rfl, rfl⟩ rfl rfl rfl ?_
    | (refine g_op ?_; first
      | refine ep_mov rfl ?_ | refine sp_loadN rfl rfl rfl rfl rfl ?_
      | refine ep_call0 rfl (by first | exact ev136 _ hn) rfl rfl ?_
      | refine sp_call rfl rfl rfl rfl (by first | exact ev136 _ hn) ⟨rfl, rfl, rfl, rfl⟩ rfl rfl rfl ?_
      | refine sp_store rfl rfl rfl rfl rfl rfl rfl rfl rfl rfl ?_ | refine sp_alloc rfl rfl ?_ | refine sp_build rfl rfl ?_)
    | (refine g_ops ?_; first | refine eo_none ?_ | refine eo_nil ?_)
    | (refine g_code ?_; first | refine ec_seq ?_ | refine ec_region ?_ | refine ec_block ?_ | refine ec_ret ?_)
    | refine ek_seqN ?_ | refine ek_seqX ?_ | refine ek_seqR ?_ | refine ek_blkN ?_ | refine ek_blkR ?_ | refine ek_blkX ?_ | refine ek_blkY rfl ?_)
  refine sfin (.inr rfl) (by rfl) (by rfl) (by exact ⟨rfl, rfl, rfl⟩) (by rfl) (by rfl) (by rfl) (by first | rfl | (simp; done) | (simp [ints, prs]; done))

theorem ev127 (n i : Nat) (hn : n ≤ 4) (hi : i ≤ 4) : Ev cx 127 [.int .i64 n, .int .i64 i] [] (.agg [.int .i64 n, .int .i64 (projB n i : Nat)]) [] := by
  have e := evfb_pj n i hn hi
  refine has127.eev rfl rfl ?_
  unfold m127
  repeat' (first
    | (refine g_op ?_; first
      | refine ep_mov rfl ?_
      | refine ep_call0 rfl (by first | exact e) rfl rfl ?_
      | refine sp_call rfl rfl rfl rfl (by first | exact e) ⟨rfl, rfl, rfl, rfl⟩ rfl rfl rfl ?_
      | refine sp_store rfl rfl rfl rfl rfl rfl rfl rfl rfl rfl ?_ | refine sp_box rfl rfl rfl rfl rfl ?_ | refine sp_alloc rfl rfl ?_ | refine ep_mkfn rfl ?_)
    | (refine g_ops ?_; first | refine eo_none ?_ | refine eo_nil ?_)
    | (refine g_code ?_; first | refine ec_seq ?_ | refine ec_region ?_ | refine ec_ret ?_)
    | refine ek_seqN ?_ | refine ek_seqR ?_)
  refine sfin (.inr rfl) (by rfl) (by rfl) (by exact ⟨rfl, rfl, rfl⟩) (by rfl) (by rfl) (by rfl) (by first | rfl | (simp; done) | (simp [ints, prs]; done))
-- (impl.Func).put$1
def m148_0 : MC := (.seq (.region [⟨(.bin .lss (.t 10) (.t 9)), (some 11), none⟩] false) (.seq (.cond (.t 11) .skip (.exit 0)) (.seq (.block 1 (.seq (.region [⟨(.mov (.t 10)), (some 12), none⟩, ⟨(.indexAddr 2 (.t 8) (.t 10)), (some 13), none⟩, ⟨(.load (some 2) (.t 13)), (some 14), none⟩, ⟨(.alloc [(.int .i64 0), (.int .i64 0)]), (some 7), none⟩, ⟨(.mov (.t 12)), (some 6), none⟩, ⟨(.store 2 (.t 7) (.t 14)), none, none⟩] false) (.region [⟨(.mov (.t 5)), (some 15), none⟩, ⟨(.load (some 2) (.t 7)), (some 16), none⟩, ⟨(.mov (.t 0)), (some 17), none⟩, ⟨(.call 104 [(.t 16), (.t 17)]), (some 18), none⟩, ⟨(.mov (.t 6)), (some 19), none⟩, ⟨(.bin .shl (.t 18) (.t 19)), (some 20), none⟩, ⟨(.bin .or (.t 15) (.t 20)), (some 21), none⟩, ⟨(.mov (.t 21)), (some 5), none⟩] false))) (.region [⟨(.bin .add (.t 10) (.k (.int .i64 1))), (some 22), none⟩, ⟨(.mov (.t 22)), (some 10), none⟩] false))))
def m148 : MC := (.seq (.region [⟨(.mov (.k (.int .i64 0))), (some 4), none⟩] false) (.seq (.region [⟨(.mov (.k (.int .i64 0))), (some 5), none⟩] false) (.seq (.seq (.region [⟨(.load none (.t 1)), (some 8), none⟩, ⟨(.len (.t 8)), (some 9), none⟩, ⟨(.mov (.k (.int .i64 0))), (some 10), none⟩] false) (.block 0 (.loop m148_0))) (.seq (.region [⟨(.load (some 2) (.t 2)), (some 23), none⟩, ⟨(.mov (.t 5)), (some 24), none⟩, ⟨(.call 104 [(.t 23), (.t 24)]), (some 25), none⟩, ⟨(.mov (.t 25)), (some 4), none⟩] false) .ret))))
theorem has148 : Has cx 148 26 m148 [(.tmp 4)] :=
  ⟨⟨Try.f148, Try.f148.body.getD .skip, by kernel_rfl, by kernel_rfl, by kernel_rfl, by kernel_rfl, by kernel_rfl, by kernel_rfl⟩⟩
theorem lpput_e (n b r : Nat) (a : Int) (hl4 : ([] : List Nat).length ≤ 4) (hl : ∀ j, j < ([] : List Nat).length → ([] : List Nat).getD j 0 < 65536) (hr : r ≤ 64) (hb : b < 65536) :
    LpS cx 26 2 m148_0 [(0, .int .i64 (r : Nat)), (2, .ptr 1 0), (5, .int .i64 (pk (fun j => bt (([] : List Nat).getD j 0) r) (0) : Nat)), (8, .nils), (9, .int .i64 0), (10, .int .i64 (0 : Nat))] [⟨[.nils], 1, 0, some 0, true⟩, ⟨[.int .i64 (a), .int .i64 (b : Nat)], 1, 1, some 0, true⟩] (⟨.exit 0, [(2, .ptr 1 0), (5, .int .i64 (pk (fun j => bt (([] : List Nat).getD j 0) r) (0) : Nat))], [⟨[.nils], 1, 0, some 0, true⟩, ⟨[.int .i64 (a), .int .i64 (b : Nat)], 1, 1, some 0, true⟩]⟩ : Out).x (⟨.exit 0, [(2, .ptr 1 0), (5, .int .i64 (pk (fun j => bt (([] : List Nat).getD j 0) r) (0) : Nat))], [⟨[.nils], 1, 0, some 0, true⟩, ⟨[.int .i64 (a), .int .i64 (b : Nat)], 1, 1, some 0, true⟩]⟩ : Out).e (⟨.exit 0, [(2, .ptr 1 0), (5, .int .i64 (pk (fun j => bt (([] : List Nat).getD j 0) r) (0) : Nat))], [⟨[.nils], 1, 0, some 0, true⟩, ⟨[.int .i64 (a), .int .i64 (b : Nat)], 1, 1, some 0, true⟩]⟩ : Out).h := by
  refine lp_st (0) (fun _ => ()) (fun i _ => [(0, .int .i64 (r : Nat)), (2, .ptr 1 0), (5, .int .i64 (pk (fun j => bt (([] : List Nat).getD j 0) r) (i) : Nat)), (8, .nils), (9, .int .i64 0), (10, .int .i64 (i : Nat))]) (fun i _ => [⟨[.nils], 1, 0, some 0, true⟩, ⟨[.int .i64 (a), .int .i64 (b : Nat)], 1, 1, some 0, true⟩]) (fun _ => (⟨.exit 0, [(2, .ptr 1 0), (5, .int .i64 (pk (fun j => bt (([] : List Nat).getD j 0) r) (0) : Nat))], [⟨[.nils], 1, 0, some 0, true⟩, ⟨[.int .i64 (a), .int .i64 (b : Nat)], 1, 1, some 0, true⟩]⟩ : Out)) ?_ ?_ (0) 0 (by omega)
  · intro i u_ hi hu_
    refine ⟨(), rfl, ?_⟩
    exact absurd hi (by simp)
  · intro u_ hu_
    have hlt : decide (((0 : Nat) : Int) < (0 : Nat)) = false := decide_eq_false (by omega)
    unfold m148_0
    repeat' (first
      | (refine g_op ?_; first
        | refine ep_mov rfl ?_ | refine sp_loadN rfl rfl rfl rfl rfl ?_
        | refine ep_bin rfl rfl (by first | exact b_add (by omega) (by omega) | exact b_or (by omega) (by omega) | exact b_shl (by omega) (by omega) | exact b_lss) ?_ | refine sp_store rfl rfl rfl rfl rfl rfl rfl rfl rfl rfl ?_
        | refine sp_alloc rfl rfl ?_ | refine sp_idx rfl rfl rfl (by omega) rfl ?_ | refine ep_loadSN rfl rfl rfl (by first | exact prs_get (by omega) | exact fns_get (by omega)) ?_)
      | (refine g_ops ?_; first | refine eo_none ?_ | refine eo_nil ?_)
      | (refine g_code ?_; first | refine ec_seq ?_ | refine ec_region ?_ | refine ec_block ?_ | refine ec_skip ?_ | refine ec_exit ?_ | refine ec_condT rfl ?_ | refine ec_condF rfl ?_ | refine ec_condTH rfl (by assumption) ?_ | refine ec_condFH rfl (by assumption) ?_)
      | refine ek_seqN ?_ | refine ek_seqX ?_ | refine ek_blkN ?_ | refine ek_blkR ?_ | refine ek_blkX ?_ | refine ek_blkY rfl ?_)
    exact rnd_out (by rfl) (by simp) (scmp2 (by rfl) (by rfl) (by exact ⟨rfl, rfl, rfl⟩) (by rfl) (by first | rfl | (simp; done) | (simp [ints, prs]; done)) (by rfl) (by first | rfl | (simp; done) | (simp [ints, prs]; done)))

theorem evput1_e (n b r : Nat) (a : Int) (hl4 : ([] : List Nat).length ≤ 4) (hl : ∀ j, j < ([] : List Nat).length → ([] : List Nat).getD j 0 < 65536) (hr : r ≤ 64) (hb : b < 65536) : Ev cx 148 [.int .i64 r, .ptr 0 0, .ptr 1 0] [⟨[.nils], 1, 0, some 0, true⟩, ⟨[.int .i64 (a), .int .i64 (b : Nat)], 1, 1, some 0, true⟩] (.int .i64 (puG b ([] : List Nat) r : Nat)) [⟨[.nils], 1, 0, some 0, true⟩, ⟨[.int .i64 (a), .int .i64 (b : Nat)], 1, 1, some 0, true⟩] := by
  have lp := lpput_e n b r a hl4 hl hr hb
  have hr2 := rowS_lt ([] : List Nat) r
  have h16 := R2_4 hl4
  rw [show pk (fun j => bt (([] : List Nat).getD j 0) r) 0 = rowS ([] : List Nat) r from rfl] at lp
  refine has148.eev rfl rfl ?_
  unfold m148
  repeat' (first
    | refine sc_loop lp rfl rfl ⟨rfl, rfl, rfl⟩ rfl rfl rfl ?_
    | (refine g_op ?_; first
      | refine ep_mov rfl ?_ | refine ep_load1 rfl rfl rfl rfl ?_ | refine sp_loadN rfl rfl rfl rfl rfl ?_
      | refine ep_call0 rfl (by first | exact ev104 a b (rowS ([] : List Nat) r) (by omega) (by omega)) rfl rfl ?_
      | refine sp_call rfl rfl rfl rfl (by first | exact ev104 a b (rowS ([] : List Nat) r) (by omega) (by omega)) ⟨rfl, rfl, rfl, rfl⟩ rfl rfl rfl ?_
      | refine ep_lenS rfl ?_ | refine ep_lenN rfl ?_ | refine ep_lenE rfl ?_)
    | (refine g_ops ?_; first | refine eo_none ?_ | refine eo_nil ?_)
    | (refine g_code ?_; first | refine ec_seq ?_ | refine ec_region ?_ | refine ec_block ?_ | refine ec_ret ?_)
    | refine ek_seqN ?_ | refine ek_seqX ?_ | refine ek_seqR ?_ | refine ek_blkN ?_ | refine ek_blkR ?_ | refine ek_blkX ?_ | refine ek_blkY rfl ?_)
  refine sfin (.inr rfl) (by rfl) (by rfl) (by exact ⟨rfl, rfl, rfl⟩) (by rfl) (by rfl) (by rfl) (by first | rfl | (simp; done) | (simp [ints, prs]; done))
theorem lpput_c (n b r q0 : Nat) (a : Int) (l : List Nat) (hl4 : l.length ≤ 4) (hl : ∀ j, j < l.length → l.getD j 0 < 65536) (hr : r ≤ 64) (hb : b < 65536) :
    LpS cx 26 3 m148_0 [(0, .int .i64 (r : Nat)), (2, .ptr 2 0), (5, .int .i64 (pk (fun j => bt (l.getD j 0) r) (0) : Nat)), (8, .sl 1 0 l.length), (9, .int .i64 (l.length : Nat)), (10, .int .i64 (0 : Nat))] [⟨[.sl 1 0 l.length], 1, 0, some 0, true⟩, ⟨prs n l, 2, 1, some q0, false⟩, ⟨[.int .i64 (a), .int .i64 (b : Nat)], 1, 2, some 0, true⟩] (⟨.exit 0, [(2, .ptr 2 0), (5, .int .i64 (pk (fun j => bt (l.getD j 0) r) (l.length) : Nat))], [⟨[.sl 1 0 l.length], 1, 0, some 0, true⟩, ⟨prs n l, 2, 1, some q0, false⟩, ⟨[.int .i64 (a), .int .i64 (b : Nat)], 1, 2, some 0, true⟩]⟩ : Out).x (⟨.exit 0, [(2, .ptr 2 0), (5, .int .i64 (pk (fun j => bt (l.getD j 0) r) (l.length) : Nat))], [⟨[.sl 1 0 l.length], 1, 0, some 0, true⟩, ⟨prs n l, 2, 1, some q0, false⟩, ⟨[.int .i64 (a), .int .i64 (b : Nat)], 1, 2, some 0, true⟩]⟩ : Out).e (⟨.exit 0, [(2, .ptr 2 0), (5, .int .i64 (pk (fun j => bt (l.getD j 0) r) (l.length) : Nat))], [⟨[.sl 1 0 l.length], 1, 0, some 0, true⟩, ⟨prs n l, 2, 1, some q0, false⟩, ⟨[.int .i64 (a), .int .i64 (b : Nat)], 1, 2, some 0, true⟩]⟩ : Out).h := by
  refine lp_st (l.length) (fun _ => ()) (fun i _ => [(0, .int .i64 (r : Nat)), (2, .ptr 2 0), (5, .int .i64 (pk (fun j => bt (l.getD j 0) r) (i) : Nat)), (8, .sl 1 0 l.length), (9, .int .i64 (l.length : Nat)), (10, .int .i64 (i : Nat))]) (fun i _ => [⟨[.sl 1 0 l.length], 1, 0, some 0, true⟩, ⟨prs n l, 2, 1, some q0, false⟩, ⟨[.int .i64 (a), .int .i64 (b : Nat)], 1, 2, some 0, true⟩]) (fun _ => (⟨.exit 0, [(2, .ptr 2 0), (5, .int .i64 (pk (fun j => bt (l.getD j 0) r) (l.length) : Nat))], [⟨[.sl 1 0 l.length], 1, 0, some 0, true⟩, ⟨prs n l, 2, 1, some q0, false⟩, ⟨[.int .i64 (a), .int .i64 (b : Nat)], 1, 2, some 0, true⟩]⟩ : Out)) ?_ ?_ (l.length) 0 (by omega)
  · intro i u_ hi hu_
    refine ⟨(), rfl, ?_⟩
    have hlt : decide ((i : Int) < (l.length : Nat)) = true := decide_eq_true (by omega)
    have hg := hl i hi
    have hb1 := bt_le (l.getD i 0) r
    have hs1 := sl_lt hb1 hi
    have h16 := R2_4 hl4
    have hp0 := pk_lt (g := fun j => bt (l.getD j 0) r) (n := i) fun r _ => bt_le _ _
    have hp2 := R2_mono (i := i) (n := l.length) (by omega)
    have hx := or_lt (n := l.length) (show pk (fun j => bt (l.getD j 0) r) i < R2 l.length by omega) hs1
    unfold m148_0
    repeat' (first
      | (refine g_op ?_; first
        | refine ep_mov rfl ?_ | refine sp_loadN rfl rfl rfl rfl rfl ?_
        | refine ep_call0 rfl (by first | exact ev104 n (l.getD i 0) r (by omega) (by omega)) rfl rfl ?_
        | refine sp_call rfl rfl rfl rfl (by first | exact ev104 n (l.getD i 0) r (by omega) (by omega)) ⟨rfl, rfl, rfl, rfl⟩ rfl rfl rfl ?_
        | refine ep_bin rfl rfl (by first | exact b_shl (x := bt (l.getD i 0) r) (by omega) (by omega) | exact b_add (by omega) (by omega) | exact b_or (by omega) (by omega) | exact b_shl (by omega) (by omega) | exact b_lss) ?_
        | refine sp_store rfl rfl rfl rfl rfl rfl rfl rfl rfl rfl ?_ | refine sp_alloc rfl rfl ?_ | refine sp_idx rfl rfl rfl (by omega) rfl ?_ | refine ep_loadSN rfl rfl rfl (by first | exact prs_get (by omega) | exact fns_get (by omega)) ?_)
      | (refine g_ops ?_; first | refine eo_none ?_ | refine eo_nil ?_)
      | (refine g_code ?_; first | refine ec_seq ?_ | refine ec_region ?_ | refine ec_block ?_ | refine ec_skip ?_ | refine ec_exit ?_ | refine ec_condT rfl ?_ | refine ec_condF rfl ?_ | refine ec_condTH rfl (by assumption) ?_ | refine ec_condFH rfl (by assumption) ?_)
      | refine ek_seqN ?_ | refine ek_seqX ?_ | refine ek_blkN ?_ | refine ek_blkR ?_ | refine ek_blkX ?_ | refine ek_blkY rfl ?_)
    exact rnd_on (by rfl) (scmp2 (by rfl) (by rfl) (by exact ⟨rfl, rfl, rfl⟩) (by rfl) (by first | rfl | (simp; done) | (simp [ints, prs]; done)) (by rfl) (by first | rfl | (simp; done) | (simp [ints, prs]; done)))
  · intro u_ hu_
    have hlt : decide (((l.length : Nat) : Int) < (l.length : Nat)) = false := decide_eq_false (by omega)
    unfold m148_0
    repeat' (first
      | (refine g_op ?_; first
        | refine ep_mov rfl ?_ | refine sp_loadN rfl rfl rfl rfl rfl ?_
        | refine ep_bin rfl rfl (by first | exact b_add (by omega) (by omega) | exact b_or (by omega) (by omega) | exact b_shl (by omega) (by omega) | exact b_lss) ?_ | refine sp_store rfl rfl rfl rfl rfl rfl rfl rfl rfl rfl ?_
        | refine sp_alloc rfl rfl ?_ | refine sp_idx rfl rfl rfl (by omega) rfl ?_ | refine ep_loadSN rfl rfl rfl (by first | exact prs_get (by omega) | exact fns_get (by omega)) ?_)
      | (refine g_ops ?_; first | refine eo_none ?_ | refine eo_nil ?_)
      | (refine g_code ?_; first | refine ec_seq ?_ | refine ec_region ?_ | refine ec_block ?_ | refine ec_skip ?_ | refine ec_exit ?_ | refine ec_condT rfl ?_ | refine ec_condF rfl ?_ | refine ec_condTH rfl (by assumption) ?_ | refine ec_condFH rfl (by assumption) ?_)
      | refine ek_seqN ?_ | refine ek_seqX ?_ | refine ek_blkN ?_ | refine ek_blkR ?_ | refine ek_blkX ?_ | refine ek_blkY rfl ?_)
    exact rnd_out (by rfl) (by simp) (scmp2 (by rfl) (by rfl) (by exact ⟨rfl, rfl, rfl⟩) (by rfl) (by first | rfl | (simp; done) | (simp [ints, prs]; done)) (by rfl) (by first | rfl | (simp; done) | (simp [ints, prs]; done)))

theorem evput1_c (n b r q0 : Nat) (a : Int) (l : List Nat) (hl4 : l.length ≤ 4) (hl : ∀ j, j < l.length → l.getD j 0 < 65536) (hr : r ≤ 64) (hb : b < 65536) : Ev cx 148 [.int .i64 r, .ptr 0 0, .ptr 2 0] [⟨[.sl 1 0 l.length], 1, 0, some 0, true⟩, ⟨prs n l, 2, 1, some q0, false⟩, ⟨[.int .i64 (a), .int .i64 (b : Nat)], 1, 2, some 0, true⟩] (.int .i64 (puG b l r : Nat)) [⟨[.sl 1 0 l.length], 1, 0, some 0, true⟩, ⟨prs n l, 2, 1, some q0, false⟩, ⟨[.int .i64 (a), .int .i64 (b : Nat)], 1, 2, some 0, true⟩] := by
  have lp := lpput_c n b r q0 a l hl4 hl hr hb
  have hr2 := rowS_lt l r
  have h16 := R2_4 hl4
  rw [show pk (fun j => bt (l.getD j 0) r) l.length = rowS l r from rfl] at lp
  refine has148.eev rfl rfl ?_
  unfold m148
  repeat' (first
    | refine sc_loop lp rfl rfl ⟨rfl, rfl, rfl⟩ rfl rfl rfl ?_
    | (refine g_op ?_; first
      | refine ep_mov rfl ?_ | refine ep_load1 rfl rfl rfl rfl ?_ | refine sp_loadN rfl rfl rfl rfl rfl ?_
      | refine ep_call0 rfl (by first | exact ev104 a b (rowS l r) (by omega) (by omega)) rfl rfl ?_
      | refine sp_call rfl rfl rfl rfl (by first | exact ev104 a b (rowS l r) (by omega) (by omega)) ⟨rfl, rfl, rfl, rfl⟩ rfl rfl rfl ?_
      | refine ep_lenS rfl ?_ | refine ep_lenN rfl ?_ | refine ep_lenE rfl ?_)
    | (refine g_ops ?_; first | refine eo_none ?_ | refine eo_nil ?_)
    | (refine g_code ?_; first | refine ec_seq ?_ | refine ec_region ?_ | refine ec_block ?_ | refine ec_ret ?_)
    | refine ek_seqN ?_ | refine ek_seqX ?_ | refine ek_seqR ?_ | refine ek_blkN ?_ | refine ek_blkR ?_ | refine ek_blkX ?_ | refine ek_blkY rfl ?_)
  refine sfin (.inr rfl) (by rfl) (by rfl) (by exact ⟨rfl, rfl, rfl⟩) (by rfl) (by rfl) (by rfl) (by first | rfl | (simp; done) | (simp [ints, prs]; done))
-- (impl.Func).put
def m135 : MC := (.seq (.region [⟨(.box (.t 0)), (some 3), none⟩, ⟨(.box (.t 2)), (some 5), none⟩, ⟨(.alloc [(.int .i64 0), (.int .i64 0)]), (some 6), none⟩] false) (.seq (.region [⟨(.mov (.t 1)), (some 7), none⟩, ⟨(.mkfn 148 [(.t 5), (.t 3)]), (some 8), none⟩, ⟨(.call 145 [(.t 7), (.t 8)]), (some 9), none⟩, ⟨(.store 2 (.t 6) (.t 9)), none, none⟩] false) .ret))
theorem has135 : Has cx 135 10 m135 [(.cell 6 (some 2))] :=
  ⟨⟨Try.f135, Try.f135.body.getD .skip, by kernel_rfl, by kernel_rfl, by kernel_rfl, by kernel_rfl, by kernel_rfl, by kernel_rfl⟩⟩
theorem lpfb_pute (n b : Nat) (a : Int) (hl4 : ([] : List Nat).length ≤ 4) (hl : ∀ j, j < ([] : List Nat).length → ([] : List Nat).getD j 0 < 65536) (hb : b < 65536) (hn : n ≤ 4) :
    LpS cx 25 2 m145_0 [(1, .fn 148 [.ptr 0 0, .ptr 1 0]), (4, .ptr 2 0), (5, .ptr 3 0), (10, .int .i64 (R2 (n) : Nat)), (11, .int .i64 (0 : Nat))] [⟨[.nils], 1, 0, some 0, true⟩, ⟨[.int .i64 (a), .int .i64 (b : Nat)], 1, 1, some 0, true⟩, ⟨[.int .i64 0, .int .i64 0], 1, 2, some 0, true⟩, ⟨[.int .i64 (n : Nat), .int .i64 (pk (puG b []) (0) : Nat)], 1, 3, some 0, true⟩] (⟨.exit 0, [(4, .ptr 2 0), (5, .ptr 3 0)], [⟨[.nils], 1, 0, some 0, true⟩, ⟨[.int .i64 (a), .int .i64 (b : Nat)], 1, 1, some 0, true⟩, ⟨[.int .i64 0, .int .i64 0], 1, 2, some 0, true⟩, ⟨[.int .i64 (n : Nat), .int .i64 (pk (puG b []) (R2 (n)) : Nat)], 1, 3, some 0, true⟩]⟩ : Out).x (⟨.exit 0, [(4, .ptr 2 0), (5, .ptr 3 0)], [⟨[.nils], 1, 0, some 0, true⟩, ⟨[.int .i64 (a), .int .i64 (b : Nat)], 1, 1, some 0, true⟩, ⟨[.int .i64 0, .int .i64 0], 1, 2, some 0, true⟩, ⟨[.int .i64 (n : Nat), .int .i64 (pk (puG b []) (R2 (n)) : Nat)], 1, 3, some 0, true⟩]⟩ : Out).e (⟨.exit 0, [(4, .ptr 2 0), (5, .ptr 3 0)], [⟨[.nils], 1, 0, some 0, true⟩, ⟨[.int .i64 (a), .int .i64 (b : Nat)], 1, 1, some 0, true⟩, ⟨[.int .i64 0, .int .i64 0], 1, 2, some 0, true⟩, ⟨[.int .i64 (n : Nat), .int .i64 (pk (puG b []) (R2 (n)) : Nat)], 1, 3, some 0, true⟩]⟩ : Out).h := by
  obtain ⟨h1, h2, h3, h4⟩ := shN hn
  have hgl : ∀ r, r < R2 (n) → (puG b []) r ≤ 1 := fun r _ => bt_le _ _
  refine lp_st (R2 (n)) (fun _ => ()) (fun i _ => [(1, .fn 148 [.ptr 0 0, .ptr 1 0]), (4, .ptr 2 0), (5, .ptr 3 0), (10, .int .i64 (R2 (n) : Nat)), (11, .int .i64 (i : Nat))]) (fun i _ => [⟨[.nils], 1, 0, some 0, true⟩, ⟨[.int .i64 (a), .int .i64 (b : Nat)], 1, 1, some 0, true⟩, ⟨[.int .i64 0, .int .i64 0], 1, 2, some 0, true⟩, ⟨[.int .i64 (n : Nat), .int .i64 (pk (puG b []) (i) : Nat)], 1, 3, some 0, true⟩]) (fun _ => (⟨.exit 0, [(4, .ptr 2 0), (5, .ptr 3 0)], [⟨[.nils], 1, 0, some 0, true⟩, ⟨[.int .i64 (a), .int .i64 (b : Nat)], 1, 1, some 0, true⟩, ⟨[.int .i64 0, .int .i64 0], 1, 2, some 0, true⟩, ⟨[.int .i64 (n : Nat), .int .i64 (pk (puG b []) (R2 (n)) : Nat)], 1, 3, some 0, true⟩]⟩ : Out)) ?_ ?_ (R2 (n)) 0 (by omega)
  · intro i u_ hi hu_
    refine ⟨(), rfl, ?_⟩
    have hlt : decide ((i : Int) < (R2 (n) : Nat)) = true := decide_eq_true (by omega)
    have hg := hgl i hi
    have hp0 := pk_lt (g := puG b []) (n := i) fun r hr => hgl r (by omega)
    have hp1 := R2_mono (i := i) (n := R2 (n)) (by omega)
    have hs := sl_lt hg hi
    have hp2 := or_lt (n := R2 (n)) (show pk (puG b []) i < R2 (R2 (n)) by omega) hs
    unfold m145_0
    repeat' (first
      | (refine g_op ?_; first
        | refine ep_mov rfl ?_ | refine ep_load1 rfl rfl rfl rfl ?_ | refine ep_fieldAddr rfl ?_
        | refine sp_callv rfl rfl rfl rfl rfl rfl (by first | exact evput1_e n b i a hl4 hl (by omega) hb) ⟨rfl, rfl, rfl, rfl⟩ rfl rfl rfl ?_
        | refine sp_callb rfl rfl rfl rfl rfl rfl (by first | exact evput1_e n b i a hl4 hl (by omega) hb) ⟨rfl, rfl, rfl, rfl⟩ rfl rfl rfl ?_
        | refine ep_bin rfl rfl (by first | exact b_add (by omega) (by omega) | exact b_or (by omega) (by omega) | exact b_shl (by omega) (by omega) | exact b_lss) ?_ | refine sp_store rfl rfl rfl rfl rfl rfl rfl rfl rfl rfl ?_)
      | (refine g_ops ?_; first | refine eo_none ?_ | refine eo_nil ?_)
      | (refine g_dops ?_; first | refine ed_none ?_ | refine ed_nil ?_)
      | refine ed_same rfl ?_ | refine ed_one rfl rfl rfl rfl ?_ | refine ed_two rfl rfl rfl rfl rfl rfl rfl ?_ | refine ed_write rfl rfl ?_
      | (refine g_code ?_; first | refine ec_seq ?_ | refine ec_region ?_ | refine ec_draw ?_ | refine ec_block ?_ | refine ec_skip ?_ | refine ec_exit ?_ | refine ec_condT rfl ?_ | refine ec_condF rfl ?_ | refine ec_condTH rfl (by assumption) ?_ | refine ec_condFH rfl (by assumption) ?_)
      | refine ek_seqN ?_ | refine ek_seqX ?_ | refine ek_blkN ?_ | refine ek_blkR ?_ | refine ek_blkX ?_ | refine ek_blkY rfl ?_)
    exact rnd_on (by rfl) (scmp2 (by rfl) (by rfl) (by exact ⟨rfl, rfl, rfl⟩) (by rfl) (by first | rfl | (simp; done) | (simp [ints, prs]; done)) (by rfl) (by first | rfl | (simp; done) | (simp [ints, prs]; done)))
  · intro u_ hu_
    have hlt : decide (((R2 (n) : Nat) : Int) < (R2 (n) : Nat)) = false := decide_eq_false (by omega)
    unfold m145_0
    repeat' (first
      | (refine g_op ?_; first
        | refine ep_mov rfl ?_ | refine ep_load1 rfl rfl rfl rfl ?_ | refine ep_fieldAddr rfl ?_
        | refine sp_callv rfl rfl rfl rfl rfl rfl (by first | exact evput1_e n b i a hl4 hl (by omega) hb) ⟨rfl, rfl, rfl, rfl⟩ rfl rfl rfl ?_
        | refine sp_callb rfl rfl rfl rfl rfl rfl (by first | exact evput1_e n b i a hl4 hl (by omega) hb) ⟨rfl, rfl, rfl, rfl⟩ rfl rfl rfl ?_
        | refine ep_bin rfl rfl (by first | exact b_add (by omega) (by omega) | exact b_or (by omega) (by omega) | exact b_shl (by omega) (by omega) | exact b_lss) ?_ | refine sp_store rfl rfl rfl rfl rfl rfl rfl rfl rfl rfl ?_)
      | (refine g_ops ?_; first | refine eo_none ?_ | refine eo_nil ?_)
      | (refine g_dops ?_; first | refine ed_none ?_ | refine ed_nil ?_)
      | refine ed_same rfl ?_ | refine ed_one rfl rfl rfl rfl ?_ | refine ed_two rfl rfl rfl rfl rfl rfl rfl ?_ | refine ed_write rfl rfl ?_
      | (refine g_code ?_; first | refine ec_seq ?_ | refine ec_region ?_ | refine ec_draw ?_ | refine ec_block ?_ | refine ec_skip ?_ | refine ec_exit ?_ | refine ec_condT rfl ?_ | refine ec_condF rfl ?_ | refine ec_condTH rfl (by assumption) ?_ | refine ec_condFH rfl (by assumption) ?_)
      | refine ek_seqN ?_ | refine ek_seqX ?_ | refine ek_blkN ?_ | refine ek_blkR ?_ | refine ek_blkX ?_ | refine ek_blkY rfl ?_)
    exact rnd_out (by rfl) (by simp) (scmp2 (by rfl) (by rfl) (by exact ⟨rfl, rfl, rfl⟩) (by rfl) (by first | rfl | (simp; done) | (simp [ints, prs]; done)) (by rfl) (by first | rfl | (simp; done) | (simp [ints, prs]; done)))
theorem evfb_pute (n b : Nat) (a : Int) (hl4 : ([] : List Nat).length ≤ 4) (hl : ∀ j, j < ([] : List Nat).length → ([] : List Nat).getD j 0 < 65536) (hb : b < 65536) (hn : n ≤ 4) : Ev cx 145 [.int .i64 (n : Nat), .fn 148 [.ptr 0 0, .ptr 1 0]] [⟨[.nils], 1, 0, some 0, true⟩, ⟨[.int .i64 (a), .int .i64 (b : Nat)], 1, 1, some 0, true⟩] (.agg [.int .i64 (n : Nat), .int .i64 (pk (puG b []) (R2 (n)) : Nat)]) [⟨[.nils], 1, 0, some 0, true⟩, ⟨[.int .i64 (a), .int .i64 (b : Nat)], 1, 1, some 0, true⟩] := by
  obtain ⟨h1, h2, h3, h4⟩ := shN hn
  have lp := lpfb_pute n b a hl4 hl hb hn
  refine has145.eev rfl rfl ?_
  unfold m145
  repeat' (first
    | refine sc_loop lp rfl rfl ⟨rfl, rfl, rfl⟩ rfl rfl rfl ?_
    | (refine g_op ?_; first
      | refine ep_mov rfl ?_ | refine sp_loadN rfl rfl rfl rfl rfl ?_
      | refine ep_call0 rfl (by first | exact ev136 _ hn) rfl rfl ?_
      | refine sp_call rfl rfl rfl rfl (by first | exact ev136 _ hn) ⟨rfl, rfl, rfl, rfl⟩ rfl rfl rfl ?_
      | refine sp_store rfl rfl rfl rfl rfl rfl rfl rfl rfl rfl ?_ | refine sp_alloc rfl rfl ?_ | refine sp_build rfl rfl ?_)
    | (refine g_ops ?_; first | refine eo_none ?_ | refine eo_nil ?_)
    | (refine g_code ?_; first | refine ec_seq ?_ | refine ec_region ?_ | refine ec_block ?_ | refine ec_ret ?_)
    | refine ek_seqN ?_ | refine ek_seqX ?_ | refine ek_seqR ?_ | refine ek_blkN ?_ | refine ek_blkR ?_ | refine ek_blkX ?_ | refine ek_blkY rfl ?_)
  refine sfin (.inr rfl) (by rfl) (by rfl) (by exact ⟨rfl, rfl, rfl⟩) (by rfl) (by rfl) (by rfl) (by first | rfl | (simp; done) | (simp [ints, prs]; done))

theorem evput_e (n b : Nat) (a : Int) (hl4 : ([] : List Nat).length ≤ 4) (hl : ∀ j, j < ([] : List Nat).length → ([] : List Nat).getD j 0 < 65536) (hb : b < 65536) (hn : n ≤ 4) : Ev cx 135 [.agg [.int .i64 a, .int .i64 b], .int .i64 n, .nils] [] (.agg [.int .i64 n, .int .i64 (valS b (R2 n) ([] : List Nat) : Nat)]) [] := by
  have e := evfb_pute n b a hl4 hl hb hn
  refine has135.eev rfl rfl ?_
  unfold m135
  repeat' (first
    | (refine g_op ?_; first
      | refine ep_mov rfl ?_
      | refine ep_call0 rfl (by first | exact e) rfl rfl ?_
      | refine sp_call rfl rfl rfl rfl (by first | exact e) ⟨rfl, rfl, rfl, rfl⟩ rfl rfl rfl ?_
      | refine sp_store rfl rfl rfl rfl rfl rfl rfl rfl rfl rfl ?_ | refine sp_box rfl rfl rfl rfl rfl ?_ | refine sp_alloc rfl rfl ?_ | refine ep_mkfn rfl ?_)
    | (refine g_ops ?_; first | refine eo_none ?_ | refine eo_nil ?_)
    | (refine g_code ?_; first | refine ec_seq ?_ | refine ec_region ?_ | refine ec_ret ?_)
    | refine ek_seqN ?_ | refine ek_seqR ?_)
  refine sfin (.inr rfl) (by rfl) (by rfl) (by exact ⟨rfl, rfl, rfl⟩) (by rfl) (by rfl) (by rfl) (by first | rfl | (simp; done) | (simp [ints, prs]; done))
theorem lpfb_putc (n b q0 : Nat) (a : Int) (l : List Nat) (hl4 : l.length ≤ 4) (hl : ∀ j, j < l.length → l.getD j 0 < 65536) (hb : b < 65536) (hn : n ≤ 4) :
    LpS cx 25 3 m145_0 [(1, .fn 148 [.ptr 0 0, .ptr 2 0]), (4, .ptr 3 0), (5, .ptr 4 0), (10, .int .i64 (R2 (n) : Nat)), (11, .int .i64 (0 : Nat))] [⟨[.sl 1 0 l.length], 1, 0, some 0, true⟩, ⟨prs n l, 2, 1, some q0, false⟩, ⟨[.int .i64 (a), .int .i64 (b : Nat)], 1, 2, some 0, true⟩, ⟨[.int .i64 0, .int .i64 0], 1, 3, some 0, true⟩, ⟨[.int .i64 (n : Nat), .int .i64 (pk (puG b l) (0) : Nat)], 1, 4, some 0, true⟩] (⟨.exit 0, [(4, .ptr 3 0), (5, .ptr 4 0)], [⟨[.sl 1 0 l.length], 1, 0, some 0, true⟩, ⟨prs n l, 2, 1, some q0, false⟩, ⟨[.int .i64 (a), .int .i64 (b : Nat)], 1, 2, some 0, true⟩, ⟨[.int .i64 0, .int .i64 0], 1, 3, some 0, true⟩, ⟨[.int .i64 (n : Nat), .int .i64 (pk (puG b l) (R2 (n)) : Nat)], 1, 4, some 0, true⟩]⟩ : Out).x (⟨.exit 0, [(4, .ptr 3 0), (5, .ptr 4 0)], [⟨[.sl 1 0 l.length], 1, 0, some 0, true⟩, ⟨prs n l, 2, 1, some q0, false⟩, ⟨[.int .i64 (a), .int .i64 (b : Nat)], 1, 2, some 0, true⟩, ⟨[.int .i64 0, .int .i64 0], 1, 3, some 0, true⟩, ⟨[.int .i64 (n : Nat), .int .i64 (pk (puG b l) (R2 (n)) : Nat)], 1, 4, some 0, true⟩]⟩ : Out).e (⟨.exit 0, [(4, .ptr 3 0), (5, .ptr 4 0)], [⟨[.sl 1 0 l.length], 1, 0, some 0, true⟩, ⟨prs n l, 2, 1, some q0, false⟩, ⟨[.int .i64 (a), .int .i64 (b : Nat)], 1, 2, some 0, true⟩, ⟨[.int .i64 0, .int .i64 0], 1, 3, some 0, true⟩, ⟨[.int .i64 (n : Nat), .int .i64 (pk (puG b l) (R2 (n)) : Nat)], 1, 4, some 0, true⟩]⟩ : Out).h := by
  obtain ⟨h1, h2, h3, h4⟩ := shN hn
  have hgl : ∀ r, r < R2 (n) → (puG b l) r ≤ 1 := fun r _ => bt_le _ _
  refine lp_st (R2 (n)) (fun _ => ()) (fun i _ => [(1, .fn 148 [.ptr 0 0, .ptr 2 0]), (4, .ptr 3 0), (5, .ptr 4 0), (10, .int .i64 (R2 (n) : Nat)), (11, .int .i64 (i : Nat))]) (fun i _ => [⟨[.sl 1 0 l.length], 1, 0, some 0, true⟩, ⟨prs n l, 2, 1, some q0, false⟩, ⟨[.int .i64 (a), .int .i64 (b : Nat)], 1, 2, some 0, true⟩, ⟨[.int .i64 0, .int .i64 0], 1, 3, some 0, true⟩, ⟨[.int .i64 (n : Nat), .int .i64 (pk (puG b l) (i) : Nat)], 1, 4, some 0, true⟩]) (fun _ => (⟨.exit 0, [(4, .ptr 3 0), (5, .ptr 4 0)], [⟨[.sl 1 0 l.length], 1, 0, some 0, true⟩, ⟨prs n l, 2, 1, some q0, false⟩, ⟨[.int .i64 (a), .int .i64 (b : Nat)], 1, 2, some 0, true⟩, ⟨[.int .i64 0, .int .i64 0], 1, 3, some 0, true⟩, ⟨[.int .i64 (n : Nat), .int .i64 (pk (puG b l) (R2 (n)) : Nat)], 1, 4, some 0, true⟩]⟩ : Out)) ?_ ?_ (R2 (n)) 0 (by omega)
  · intro i u_ hi hu_
    refine ⟨(), rfl, ?_⟩
    have hlt : decide ((i : Int) < (R2 (n) : Nat)) = true := decide_eq_true (by omega)
    have hg := hgl i hi
    have hp0 := pk_lt (g := puG b l) (n := i) fun r hr => hgl r (by omega)
    have hp1 := R2_mono (i := i) (n := R2 (n)) (by omega)
    have hs := sl_lt hg hi
    have hp2 := or_lt (n := R2 (n)) (show pk (puG b l) i < R2 (R2 (n)) by omega) hs
    unfold m145_0
    repeat' (first
      | (refine g_op ?_; first
        | refine ep_mov rfl ?_ | refine ep_load1 rfl rfl rfl rfl ?_ | refine ep_fieldAddr rfl ?_
        | refine sp_callv rfl rfl rfl rfl rfl rfl (by first | exact evput1_c n b i q0 a l hl4 hl (by omega) hb) ⟨rfl, rfl, rfl, rfl⟩ rfl rfl rfl ?_
        | refine sp_callb rfl rfl rfl rfl rfl rfl (by first | exact evput1_c n b i q0 a l hl4 hl (by omega) hb) ⟨rfl, rfl, rfl, rfl⟩ rfl rfl rfl ?_
        | refine ep_bin rfl rfl (by first | exact b_add (by omega) (by omega) | exact b_or (by omega) (by omega) | exact b_shl (by omega) (by omega) | exact b_lss) ?_ | refine sp_store rfl rfl rfl rfl rfl rfl rfl rfl rfl rfl ?_)
      | (refine g_ops ?_; first | refine eo_none ?_ | refine eo_nil ?_)
      | (refine g_dops ?_; first | refine ed_none ?_ | refine ed_nil ?_)
      | refine ed_same rfl ?_ | refine ed_one rfl rfl rfl rfl ?_ | refine ed_two rfl rfl rfl rfl rfl rfl rfl ?_ | refine ed_write rfl rfl ?_
      | (refine g_code ?_; first | refine ec_seq ?_ | refine ec_region ?_ | refine ec_draw ?_ | refine ec_block ?_ | refine ec_skip ?_ | refine ec_exit ?_ | refine ec_condT rfl ?_ | refine ec_condF rfl ?_ | refine ec_condTH rfl (by assumption) ?_ | refine ec_condFH rfl (by assumption) ?_)
      | refine ek_seqN ?_ | refine ek_seqX ?_ | refine ek_blkN ?_ | refine ek_blkR ?_ | refine ek_blkX ?_ | refine ek_blkY rfl ?_)
    exact rnd_on (by rfl) (scmp2 (by rfl) (by rfl) (by exact ⟨rfl, rfl, rfl⟩) (by rfl) (by first | rfl | (simp; done) | (simp [ints, prs]; done)) (by rfl) (by first | rfl | (simp; done) | (simp [ints, prs]; done)))
  · intro u_ hu_
    have hlt : decide (((R2 (n) : Nat) : Int) < (R2 (n) : Nat)) = false := decide_eq_false (by omega)
    unfold m145_0
    repeat' (first
      | (refine g_op ?_; first
        | refine ep_mov rfl ?_ | refine ep_load1 rfl rfl rfl rfl ?_ | refine ep_fieldAddr rfl ?_
        | refine sp_callv rfl rfl rfl rfl rfl rfl (by first | exact evput1_c n b i q0 a l hl4 hl (by omega) hb) ⟨rfl, rfl, rfl, rfl⟩ rfl rfl rfl ?_
        | refine sp_callb rfl rfl rfl rfl rfl rfl (by first | exact evput1_c n b i q0 a l hl4 hl (by omega) hb) ⟨rfl, rfl, rfl, rfl⟩ rfl rfl rfl ?_
        | refine ep_bin rfl rfl (by first | exact b_add (by omega) (by omega) | exact b_or (by omega) (by omega) | exact b_shl (by omega) (by omega) | exact b_lss) ?_ | refine sp_store rfl rfl rfl rfl rfl rfl rfl rfl rfl rfl ?_)
      | (refine g_ops ?_; first | refine eo_none ?_ | refine eo_nil ?_)
      | (refine g_dops ?_; first | refine ed_none ?_ | refine ed_nil ?_)
      | refine ed_same rfl ?_ | refine ed_one rfl rfl rfl rfl ?_ | refine ed_two rfl rfl rfl rfl rfl rfl rfl ?_ | refine ed_write rfl rfl ?_
      | (refine g_code ?_; first | refine ec_seq ?_ | refine ec_region ?_ | refine ec_draw ?_ | refine ec_block ?_ | refine ec_skip ?_ | refine ec_exit ?_ | refine ec_condT rfl ?_ | refine ec_condF rfl ?_ | refine ec_condTH rfl (by assumption) ?_ | refine ec_condFH rfl (by assumption) ?_)
      | refine ek_seqN ?_ | refine ek_seqX ?_ | refine ek_blkN ?_ | refine ek_blkR ?_ | refine ek_blkX ?_ | refine ek_blkY rfl ?_)
    exact rnd_out (by rfl) (by simp) (scmp2 (by rfl) (by rfl) (by exact ⟨rfl, rfl, rfl⟩) (by rfl) (by first | rfl | (simp; done) | (simp [ints, prs]; done)) (by rfl) (by first | rfl | (simp; done) | (simp [ints, prs]; done)))
theorem evfb_putc (n b q0 : Nat) (a : Int) (l : List Nat) (hl4 : l.length ≤ 4) (hl : ∀ j, j < l.length → l.getD j 0 < 65536) (hb : b < 65536) (hn : n ≤ 4) : Ev cx 145 [.int .i64 (n : Nat), .fn 148 [.ptr 0 0, .ptr 2 0]] [⟨[.sl 1 0 l.length], 1, 0, some 0, true⟩, ⟨prs n l, 2, 1, some q0, false⟩, ⟨[.int .i64 (a), .int .i64 (b : Nat)], 1, 2, some 0, true⟩] (.agg [.int .i64 (n : Nat), .int .i64 (pk (puG b l) (R2 (n)) : Nat)]) [⟨[.sl 1 0 l.length], 1, 0, some 0, true⟩, ⟨prs n l, 2, 1, some q0, false⟩, ⟨[.int .i64 (a), .int .i64 (b : Nat)], 1, 2, some 0, true⟩] := by
  obtain ⟨h1, h2, h3, h4⟩ := shN hn
  have lp := lpfb_putc n b q0 a l hl4 hl hb hn
  refine has145.eev rfl rfl ?_
  unfold m145
  repeat' (first
    | refine sc_loop lp rfl rfl ⟨rfl, rfl, rfl⟩ rfl rfl rfl ?_
    | (refine g_op ?_; first
      | refine ep_mov rfl ?_ | refine sp_loadN rfl rfl rfl rfl rfl ?_
      | refine ep_call0 rfl (by first | exact ev136 _ hn) rfl rfl ?_
      | refine sp_call rfl rfl rfl rfl (by first | exact ev136 _ hn) ⟨rfl, rfl, rfl, rfl⟩ rfl rfl rfl ?_
      | refine sp_store rfl rfl rfl rfl rfl rfl rfl rfl rfl rfl ?_ | refine sp_alloc rfl rfl ?_ | refine sp_build rfl rfl ?_)
    | (refine g_ops ?_; first | refine eo_none ?_ | refine eo_nil ?_)
    | (refine g_code ?_; first | refine ec_seq ?_ | refine ec_region ?_ | refine ec_block ?_ | refine ec_ret ?_)
    | refine ek_seqN ?_ | refine ek_seqX ?_ | refine ek_seqR ?_ | refine ek_blkN ?_ | refine ek_blkR ?_ | refine ek_blkX ?_ | refine ek_blkY rfl ?_)
  refine sfin (.inr rfl) (by rfl) (by rfl) (by exact ⟨rfl, rfl, rfl⟩) (by rfl) (by rfl) (by rfl) (by first | rfl | (simp; done) | (simp [ints, prs]; done))

theorem evput_c (n b q0 : Nat) (a : Int) (l : List Nat) (hl4 : l.length ≤ 4) (hl : ∀ j, j < l.length → l.getD j 0 < 65536) (hb : b < 65536) (hn : n ≤ 4) : Ev cx 135 [.agg [.int .i64 a, .int .i64 b], .int .i64 n, .sl 0 0 l.length] [⟨prs n l, 2, 0, some q0, false⟩] (.agg [.int .i64 n, .int .i64 (valS b (R2 n) l : Nat)]) [⟨prs n l, 2, 0, some q0, false⟩] := by
  have e := evfb_putc n b q0 a l hl4 hl hb hn
  refine has135.eev rfl rfl ?_
  unfold m135
  repeat' (first
    | (refine g_op ?_; first
      | refine ep_mov rfl ?_
      | refine ep_call0 rfl (by first | exact e) rfl rfl ?_
      | refine sp_call rfl rfl rfl rfl (by first | exact e) ⟨rfl, rfl, rfl, rfl⟩ rfl rfl rfl ?_
      | refine sp_store rfl rfl rfl rfl rfl rfl rfl rfl rfl rfl ?_ | refine sp_box rfl rfl rfl rfl rfl ?_ | refine sp_alloc rfl rfl ?_ | refine ep_mkfn rfl ?_)
    | (refine g_ops ?_; first | refine eo_none ?_ | refine eo_nil ?_)
    | (refine g_code ?_; first | refine ec_seq ?_ | refine ec_region ?_ | refine ec_ret ?_)
    | refine ek_seqN ?_ | refine ek_seqR ?_)
  refine sfin (.inr rfl) (by rfl) (by rfl) (by exact ⟨rfl, rfl, rfl⟩) (by rfl) (by rfl) (by rfl) (by first | rfl | (simp; done) | (simp [ints, prs]; done))
-- impl.generate$1
def m128 : MC := (.seq (.region [⟨(.box (.t 0)), (some 5), none⟩, ⟨(.mov (.k (.bool false))), (some 7), none⟩] false) (.seq (.seq (.region [⟨(.load none (.t 2)), (some 8), none⟩, ⟨(.nilck (.t 8)), (some 9), none⟩, ⟨(.fieldAddr 2 (.t 9)), (some 10), none⟩, ⟨(.load none (.t 10)), (some 11), none⟩, ⟨(.fieldAddr 1 (.t 5)), (some 12), none⟩, ⟨(.load none (.t 12)), (some 13), none⟩, ⟨(.indexAddr 1 (.t 11) (.t 13)), (some 14), none⟩, ⟨(.load none (.t 14)), (some 15), none⟩, ⟨(.bin .lss (.t 15) (.k (.int .i64 0))), (some 16), none⟩] true) (.cond (.t 16) (.seq (.region [⟨(.load none (.t 2)), (some 17), none⟩, ⟨(.nilck (.t 17)), (some 18), none⟩, ⟨(.fieldAddr 2 (.t 18)), (some 19), none⟩, ⟨(.load none (.t 19)), (some 20), none⟩, ⟨(.fieldAddr 1 (.t 5)), (some 21), none⟩, ⟨(.load none (.t 21)), (some 22), none⟩, ⟨(.load none (.t 3)), (some 23), none⟩, ⟨(.indexAddr 1 (.t 20) (.t 22)), (some 24), none⟩, ⟨(.store 1 (.t 24) (.t 23)), none, none⟩] true) (.region [⟨(.store 1 (.t 4) (.k (.bool true))), none, none⟩] false)) .skip)) (.seq (.region [⟨(.mov (.k (.bool true))), (some 7), none⟩] false) .ret)))
theorem has128 : Has cx 128 25 m128 [(.tmp 7)] :=
  ⟨⟨Try.f128, Try.f128.body.getD .skip, by kernel_rfl, by kernel_rfl, by kernel_rfl, by kernel_rfl, by kernel_rfl, by kernel_rfl⟩⟩
theorem evcb_e (n N d b : Nat) (fs : List (Int × Int)) (D : List Int) (A : Bool) (hb : b < N) (hN : D.length = N) : Ev cx 128 [.agg [.int .i64 (n : Nat), .int .i64 (b : Nat)], .nils, .ptr 0 0, .ptr 4 0, .ptr 5 0] [⟨[.ptr 1 0], 1, 0, some 0, true⟩, ⟨[.sl 2 0 fs.length, .int .i64 (n : Nat), .sl 3 0 N], 1, 1, some 0, true⟩, ⟨fns fs, 2, 2, some 0, false⟩, ⟨zints D, 1, 3, some 0, false⟩, ⟨[.int .i64 (d : Nat)], 1, 4, some 0, true⟩, ⟨[.bool A], 1, 5, some 0, true⟩] (.bool true) [⟨[.ptr 1 0], 1, 0, some 0, true⟩, ⟨[.sl 2 0 fs.length, .int .i64 (n : Nat), .sl 3 0 N], 1, 1, some 0, true⟩, ⟨fns fs, 2, 2, some 0, false⟩, ⟨zints (upS d b (D, A)).1, 1, 3, some 0, false⟩, ⟨[.int .i64 (d : Nat)], 1, 4, some 0, true⟩, ⟨[.bool (upS d b (D, A)).2], 1, 5, some 0, true⟩] := by
  have hget := zints_get (l := D) (j := b) (by omega)
  have hzl := zints_len D
  cases hq : decide (D.getD b 0 < 0)
  · have e0 : upS d b (D, A) = (D, A) := by unfold upS; rw [if_neg (by simpa using hq)]
    rw [e0]
    refine has128.eev rfl rfl ?_
    unfold m128
    repeat' (first
      | refine ep_loadS rfl rfl rfl hget ?_
      | (refine g_op ?_; first
        | refine ep_mov rfl ?_ | refine ep_load1 rfl rfl rfl rfl ?_ | refine ep_fieldAddr rfl ?_
        | refine ep_bin rfl rfl (by exact b_lss) ?_ | refine sp_store rfl rfl rfl rfl rfl rfl rfl rfl rfl rfl ?_ | refine sp_box rfl rfl rfl rfl rfl ?_ | refine sp_idx rfl rfl rfl (by omega) rfl ?_ | refine ep_loadS rfl rfl rfl (by first | exact ints_get (by omega) | exact zints_get (by omega) | exact fget (by omega) | assumption) ?_
        | refine ep_nilckP rfl ?_ | refine ep_nilckF rfl ?_)
      | (refine g_ops ?_; first | refine eo_none ?_ | refine eo_nil ?_)
      | (refine g_dops ?_; first | refine ed_none ?_ | refine ed_nil ?_)
      | refine ed_same rfl ?_ | refine ed_one rfl rfl rfl rfl ?_ | refine ed_two rfl rfl rfl rfl rfl rfl rfl ?_ | refine ed_write rfl rfl ?_
      | (refine g_code ?_; first | refine ec_seq ?_ | refine ec_region ?_ | refine ec_draw ?_ | refine ec_skip ?_ | refine ec_ret ?_ | refine ec_condT rfl ?_ | refine ec_condF rfl ?_ | refine ec_condTH rfl (by assumption) ?_ | refine ec_condFH rfl (by assumption) ?_)
      | refine ek_seqN ?_ | refine ek_seqR ?_)
    refine sfin (.inr rfl) (by rfl) (by rfl) (by exact ⟨rfl, rfl, rfl⟩) (by rfl) (by rfl) (by rfl) (by first | rfl | (simp; done) | (simp [ints, prs]; done))
  · have e0 : upS d b (D, A) = (D.set b d, true) := by unfold upS; rw [if_pos (by simpa using hq)]
    have hset := zints_set (D := D) (b := b) (d := d) (by omega)
    rw [e0]
    refine has128.eev rfl rfl ?_
    unfold m128
    repeat' (first
      | refine ep_loadS rfl rfl rfl hget ?_
      | refine sp_storeS rfl rfl rfl rfl rfl rfl rfl (Nat.zero_le _) (by omega) hset rfl ?_
      | (refine g_op ?_; first
        | refine ep_mov rfl ?_ | refine ep_load1 rfl rfl rfl rfl ?_ | refine ep_fieldAddr rfl ?_
        | refine ep_bin rfl rfl (by exact b_lss) ?_ | refine sp_store rfl rfl rfl rfl rfl rfl rfl rfl rfl rfl ?_ | refine sp_box rfl rfl rfl rfl rfl ?_ | refine sp_idx rfl rfl rfl (by omega) rfl ?_ | refine ep_loadS rfl rfl rfl (by first | exact ints_get (by omega) | exact zints_get (by omega) | exact fget (by omega) | assumption) ?_
        | refine ep_nilckP rfl ?_ | refine ep_nilckF rfl ?_)
      | (refine g_ops ?_; first | refine eo_none ?_ | refine eo_nil ?_)
      | (refine g_dops ?_; first | refine ed_none ?_ | refine ed_nil ?_)
      | refine ed_same rfl ?_ | refine ed_one rfl rfl rfl rfl ?_ | refine ed_two rfl rfl rfl rfl rfl rfl rfl ?_ | refine ed_write rfl rfl ?_
      | (refine g_code ?_; first | refine ec_seq ?_ | refine ec_region ?_ | refine ec_draw ?_ | refine ec_skip ?_ | refine ec_ret ?_ | refine ec_condT rfl ?_ | refine ec_condF rfl ?_ | refine ec_condTH rfl (by assumption) ?_ | refine ec_condFH rfl (by assumption) ?_)
      | refine ek_seqN ?_ | refine ek_seqR ?_)
    refine sfin (.inr rfl) (by rfl) (by rfl) (by exact ⟨rfl, rfl, rfl⟩) (by rfl) (by rfl) (by rfl) (by first | rfl | (simp; done) | (simp [ints, prs]; done))
theorem evcb_c (n N d b q0 : Nat) (fs : List (Int × Int)) (D : List Int) (A : Bool) (l : List Nat) (hb : b < N) (hN : D.length = N) : Ev cx 128 [.agg [.int .i64 (n : Nat), .int .i64 (b : Nat)], .sl 0 0 l.length, .ptr 1 0, .ptr 5 0, .ptr 6 0] [⟨prs n l, 2, 0, some q0, false⟩, ⟨[.ptr 2 0], 1, 1, some 0, true⟩, ⟨[.sl 3 0 fs.length, .int .i64 (n : Nat), .sl 4 0 N], 1, 2, some 0, true⟩, ⟨fns fs, 2, 3, some 0, false⟩, ⟨zints D, 1, 4, some 0, false⟩, ⟨[.int .i64 (d : Nat)], 1, 5, some 0, true⟩, ⟨[.bool A], 1, 6, some 0, true⟩] (.bool true) [⟨prs n l, 2, 0, some q0, false⟩, ⟨[.ptr 2 0], 1, 1, some 0, true⟩, ⟨[.sl 3 0 fs.length, .int .i64 (n : Nat), .sl 4 0 N], 1, 2, some 0, true⟩, ⟨fns fs, 2, 3, some 0, false⟩, ⟨zints (upS d b (D, A)).1, 1, 4, some 0, false⟩, ⟨[.int .i64 (d : Nat)], 1, 5, some 0, true⟩, ⟨[.bool (upS d b (D, A)).2], 1, 6, some 0, true⟩] := by
  have hget := zints_get (l := D) (j := b) (by omega)
  have hzl := zints_len D
  cases hq : decide (D.getD b 0 < 0)
  · have e0 : upS d b (D, A) = (D, A) := by unfold upS; rw [if_neg (by simpa using hq)]
    rw [e0]
    refine has128.eev rfl rfl ?_
    unfold m128
    repeat' (first
      | refine ep_loadS rfl rfl rfl hget ?_
      | (refine g_op ?_; first
        | refine ep_mov rfl ?_ | refine ep_load1 rfl rfl rfl rfl ?_ | refine ep_fieldAddr rfl ?_
        | refine ep_bin rfl rfl (by exact b_lss) ?_ | refine sp_store rfl rfl rfl rfl rfl rfl rfl rfl rfl rfl ?_ | refine sp_box rfl rfl rfl rfl rfl ?_ | refine sp_idx rfl rfl rfl (by omega) rfl ?_ | refine ep_loadS rfl rfl rfl (by first | exact ints_get (by omega) | exact zints_get (by omega) | exact fget (by omega) | assumption) ?_
        | refine ep_nilckP rfl ?_ | refine ep_nilckF rfl ?_)
      | (refine g_ops ?_; first | refine eo_none ?_ | refine eo_nil ?_)
      | (refine g_dops ?_; first | refine ed_none ?_ | refine ed_nil ?_)
      | refine ed_same rfl ?_ | refine ed_one rfl rfl rfl rfl ?_ | refine ed_two rfl rfl rfl rfl rfl rfl rfl ?_ | refine ed_write rfl rfl ?_
      | (refine g_code ?_; first | refine ec_seq ?_ | refine ec_region ?_ | refine ec_draw ?_ | refine ec_skip ?_ | refine ec_ret ?_ | refine ec_condT rfl ?_ | refine ec_condF rfl ?_ | refine ec_condTH rfl (by assumption) ?_ | refine ec_condFH rfl (by assumption) ?_)
      | refine ek_seqN ?_ | refine ek_seqR ?_)
    refine sfin (.inr rfl) (by rfl) (by rfl) (by exact ⟨rfl, rfl, rfl⟩) (by rfl) (by rfl) (by rfl) (by first | rfl | (simp; done) | (simp [ints, prs]; done))
  · have e0 : upS d b (D, A) = (D.set b d, true) := by unfold upS; rw [if_pos (by simpa using hq)]
    have hset := zints_set (D := D) (b := b) (d := d) (by omega)
    rw [e0]
    refine has128.eev rfl rfl ?_
    unfold m128
    repeat' (first
      | refine ep_loadS rfl rfl rfl hget ?_
      | refine sp_storeS rfl rfl rfl rfl rfl rfl rfl (Nat.zero_le _) (by omega) hset rfl ?_
      | (refine g_op ?_; first
        | refine ep_mov rfl ?_ | refine ep_load1 rfl rfl rfl rfl ?_ | refine ep_fieldAddr rfl ?_
        | refine ep_bin rfl rfl (by exact b_lss) ?_ | refine sp_store rfl rfl rfl rfl rfl rfl rfl rfl rfl rfl ?_ | refine sp_box rfl rfl rfl rfl rfl ?_ | refine sp_idx rfl rfl rfl (by omega) rfl ?_ | refine ep_loadS rfl rfl rfl (by first | exact ints_get (by omega) | exact zints_get (by omega) | exact fget (by omega) | assumption) ?_
        | refine ep_nilckP rfl ?_ | refine ep_nilckF rfl ?_)
      | (refine g_ops ?_; first | refine eo_none ?_ | refine eo_nil ?_)
      | (refine g_dops ?_; first | refine ed_none ?_ | refine ed_nil ?_)
      | refine ed_same rfl ?_ | refine ed_one rfl rfl rfl rfl ?_ | refine ed_two rfl rfl rfl rfl rfl rfl rfl ?_ | refine ed_write rfl rfl ?_
      | (refine g_code ?_; first | refine ec_seq ?_ | refine ec_region ?_ | refine ec_draw ?_ | refine ec_skip ?_ | refine ec_ret ?_ | refine ec_condT rfl ?_ | refine ec_condF rfl ?_ | refine ec_condTH rfl (by assumption) ?_ | refine ec_condFH rfl (by assumption) ?_)
      | refine ek_seqN ?_ | refine ek_seqR ?_)
    refine sfin (.inr rfl) (by rfl) (by rfl) (by exact ⟨rfl, rfl, rfl⟩) (by rfl) (by rfl) (by rfl) (by first | rfl | (simp; done) | (simp [ints, prs]; done))
-- (*impl.generated).steps$1
def m134 : MC := (.seq (.region [⟨(.box (.t 0)), (some 3), none⟩, ⟨(.mov (.k (.bool false))), (some 4), none⟩] false) (.seq (.region [⟨(.load none (.t 1)), (some 5), none⟩, ⟨(.nilck (.t 5)), (some 6), none⟩, ⟨(.fieldAddr 2 (.t 6)), (some 7), none⟩, ⟨(.load none (.t 7)), (some 8), none⟩, ⟨(.fieldAddr 1 (.t 3)), (some 9), none⟩, ⟨(.load none (.t 9)), (some 10), none⟩, ⟨(.indexAddr 1 (.t 8) (.t 10)), (some 11), none⟩, ⟨(.load none (.t 11)), (some 12), none⟩, ⟨(.load none (.t 2)), (some 13), none⟩, ⟨(.bin .sub (.t 13) (.k (.int .i64 1))), (some 14), none⟩, ⟨(.bin .eql (.t 12) (.t 14)), (some 15), none⟩, ⟨(.mov (.t 15)), (some 4), none⟩] true) .ret))
theorem has134 : Has cx 134 16 m134 [(.tmp 4)] :=
  ⟨⟨Try.f134, Try.f134.body.getD .skip, by kernel_rfl, by kernel_rfl, by kernel_rfl, by kernel_rfl, by kernel_rfl, by kernel_rfl⟩⟩
theorem evst1 (n N d b : Nat) (fs : List (Int × Int)) (D : List Int) (hb : b < N) (hN : D.length = N) (hd : d < 65536) : Ev cx 134 [.agg [.int .i64 (n : Nat), .int .i64 (b : Nat)], .ptr 0 0, .ptr 4 0] [⟨[.ptr 1 0], 1, 0, some 0, true⟩, ⟨[.sl 2 0 fs.length, .int .i64 (n : Nat), .sl 3 0 N], 1, 1, some 0, true⟩, ⟨fns fs, 2, 2, some 0, false⟩, ⟨zints D, 1, 3, some 0, false⟩, ⟨[.int .i64 (d : Nat)], 1, 4, some 0, true⟩] (.bool (D.getD b 0 == (d : Nat) - 1)) [⟨[.ptr 1 0], 1, 0, some 0, true⟩, ⟨[.sl 2 0 fs.length, .int .i64 (n : Nat), .sl 3 0 N], 1, 1, some 0, true⟩, ⟨fns fs, 2, 2, some 0, false⟩, ⟨zints D, 1, 3, some 0, false⟩, ⟨[.int .i64 (d : Nat)], 1, 4, some 0, true⟩] := by
  have hget := zints_get (l := D) (j := b) (by omega)
  refine has134.eev rfl rfl ?_
  unfold m134
  repeat' (first
    | refine ep_loadS rfl rfl rfl hget ?_
    | (refine g_op ?_; first
      | refine ep_mov rfl ?_ | refine ep_load1 rfl rfl rfl rfl ?_ | refine ep_fieldAddr rfl ?_
      | refine ep_bin rfl rfl (by first | exact b_sub (by omega) (by omega) | exact b_eql) ?_ | refine sp_box rfl rfl rfl rfl rfl ?_ | refine sp_idx rfl rfl rfl (by omega) rfl ?_ | refine ep_loadS rfl rfl rfl (by first | exact ints_get (by omega) | exact zints_get (by omega) | exact fget (by omega) | assumption) ?_
      | refine ep_nilckP rfl ?_ | refine ep_nilckF rfl ?_)
    | (refine g_ops ?_; first | refine eo_none ?_ | refine eo_nil ?_)
    | (refine g_dops ?_; first | refine ed_none ?_ | refine ed_nil ?_)
    | refine ed_same rfl ?_ | refine ed_one rfl rfl rfl rfl ?_ | refine ed_two rfl rfl rfl rfl rfl rfl rfl ?_ | refine ed_write rfl rfl ?_
    | (refine g_code ?_; first | refine ec_seq ?_ | refine ec_region ?_ | refine ec_draw ?_ | refine ec_ret ?_)
    | refine ek_seqN ?_ | refine ek_seqR ?_)
  refine sfin (.inr rfl) (by rfl) (by rfl) (by exact ⟨rfl, rfl, rfl⟩) (by rfl) (by rfl) (by rfl) (by first | rfl | (simp; done) | (simp [ints, prs]; done))
theorem lpix_st (n N d q0 : Nat) (fs : List (Int × Int)) (D : List Int) (l : List Nat) (hl : ∀ j, j < l.length → l.getD j 0 < N) (hl4 : l.length ≤ 4) (hN : D.length = N) (hd : d < 65536) (o : Out) (ho : (match firstF (fun i => !(fun j => D.getD (l.getD j 0) 0 == (d : Int) - 1) i) 0 (l.length) with | none => (⟨.exit 0, [], [⟨prs n l, 2, 0, some q0, false⟩, ⟨[.ptr 2 0], 1, 1, some 0, true⟩, ⟨[.sl 3 0 fs.length, .int .i64 (n : Nat), .sl 4 0 N], 1, 2, some 0, true⟩, ⟨fns fs, 2, 3, some 0, false⟩, ⟨zints D, 1, 4, some 0, false⟩, ⟨[.int .i64 (d : Nat)], 1, 5, some 0, true⟩]⟩ : Out) | some x => ⟨.ret, [(4, .int .i64 (x : Nat))], [⟨prs n l, 2, 0, some q0, false⟩, ⟨[.ptr 2 0], 1, 1, some 0, true⟩, ⟨[.sl 3 0 fs.length, .int .i64 (n : Nat), .sl 4 0 N], 1, 2, some 0, true⟩, ⟨fns fs, 2, 3, some 0, false⟩, ⟨zints D, 1, 4, some 0, false⟩, ⟨[.int .i64 (d : Nat)], 1, 5, some 0, true⟩]⟩) = o) :
    LpS cx 19 6 m140_0 [(0, .sl 0 0 l.length), (1, .fn 134 [.ptr 1 0, .ptr 5 0]), (7, .int .i64 (l.length : Nat)), (8, .int .i64 (0 : Nat))] [⟨prs n l, 2, 0, some q0, false⟩, ⟨[.ptr 2 0], 1, 1, some 0, true⟩, ⟨[.sl 3 0 fs.length, .int .i64 (n : Nat), .sl 4 0 N], 1, 2, some 0, true⟩, ⟨fns fs, 2, 3, some 0, false⟩, ⟨zints D, 1, 4, some 0, false⟩, ⟨[.int .i64 (d : Nat)], 1, 5, some 0, true⟩] o.x o.e o.h := by
  refine lp_brk (l.length) (fun i => !(fun j => D.getD (l.getD j 0) 0 == (d : Int) - 1) i) (fun _ => ()) (fun i _ => [(0, .sl 0 0 l.length), (1, .fn 134 [.ptr 1 0, .ptr 5 0]), (7, .int .i64 (l.length : Nat)), (8, .int .i64 (i : Nat))]) (fun i _ => [⟨prs n l, 2, 0, some q0, false⟩, ⟨[.ptr 2 0], 1, 1, some 0, true⟩, ⟨[.sl 3 0 fs.length, .int .i64 (n : Nat), .sl 4 0 N], 1, 2, some 0, true⟩, ⟨fns fs, 2, 3, some 0, false⟩, ⟨zints D, 1, 4, some 0, false⟩, ⟨[.int .i64 (d : Nat)], 1, 5, some 0, true⟩]) (fun _ => ⟨.exit 0, [], [⟨prs n l, 2, 0, some q0, false⟩, ⟨[.ptr 2 0], 1, 1, some 0, true⟩, ⟨[.sl 3 0 fs.length, .int .i64 (n : Nat), .sl 4 0 N], 1, 2, some 0, true⟩, ⟨fns fs, 2, 3, some 0, false⟩, ⟨zints D, 1, 4, some 0, false⟩, ⟨[.int .i64 (d : Nat)], 1, 5, some 0, true⟩]⟩) (fun i _ => ⟨.ret, [(4, .int .i64 (i : Nat))], [⟨prs n l, 2, 0, some q0, false⟩, ⟨[.ptr 2 0], 1, 1, some 0, true⟩, ⟨[.sl 3 0 fs.length, .int .i64 (n : Nat), .sl 4 0 N], 1, 2, some 0, true⟩, ⟨fns fs, 2, 3, some 0, false⟩, ⟨zints D, 1, 4, some 0, false⟩, ⟨[.int .i64 (d : Nat)], 1, 5, some 0, true⟩]⟩) ?_ ?_ ?_ (l.length) 0 o (by omega) (fun h => by rw [← ho, firstF_none fun x h1 h2 => h x h1 (by omega)]) (fun x h1 h2 h3 h4 => by rw [← ho, firstF_some h1 (by omega) h3 h4])
  · intro i s hi hs hp
    have hlt : decide ((i : Int) < (l.length : Nat)) = true := decide_eq_true (by omega)
    have hp' : (!(fun j => D.getD (l.getD j 0) 0 == (d : Int) - 1) i) = true := hp
    refine ⟨(), rfl, ?_⟩
    have e0 := evst1 n N d (l.getD i 0) fs D (hl i hi) hN hd
    have hq : (D.getD (l.getD i 0) 0 == (d : Int) - 1) = !((!(fun j => D.getD (l.getD j 0) 0 == (d : Int) - 1) i)) := by simp
    rw [hp'] at hq
    rw [hq] at e0
    unfold m140_0
    repeat' (first
      | (refine g_op ?_; first
        | refine ep_mov rfl ?_ | refine sp_loadN rfl rfl rfl rfl rfl ?_
        | refine sp_callv rfl rfl rfl rfl rfl rfl (by first | exact e0) ⟨rfl, rfl, rfl, rfl⟩ rfl rfl rfl ?_
        | refine sp_callb rfl rfl rfl rfl rfl rfl (by first | exact e0) ⟨rfl, rfl, rfl, rfl⟩ rfl rfl rfl ?_
        | refine ep_bin rfl rfl (by first | exact b_add (by omega) (by omega) | exact b_lss) ?_ | refine sp_idx rfl rfl rfl (by omega) rfl ?_ | refine ep_loadSN rfl rfl rfl (by first | exact prs_get (by omega) | exact fns_get (by omega)) ?_)
      | (refine g_ops ?_; first | refine eo_none ?_ | refine eo_nil ?_)
      | (refine g_code ?_; first | refine ec_seq ?_ | refine ec_region ?_ | refine ec_block ?_ | refine ec_skip ?_ | refine ec_exit ?_ | refine ec_ret ?_ | refine ec_condT rfl ?_ | refine ec_condF rfl ?_ | refine ec_condTH rfl (by assumption) ?_ | refine ec_condFH rfl (by assumption) ?_)
      | refine ek_seqN ?_ | refine ek_seqX ?_ | refine ek_seqR ?_ | refine ek_blkN ?_ | refine ek_blkR ?_ | refine ek_blkX ?_ | refine ek_blkY rfl ?_)
    exact rnd_on (by rfl) (scmp2 (by rfl) (by rfl) (by exact ⟨rfl, rfl, rfl⟩) (by rfl) (by first | rfl | (simp; done) | (simp [ints, prs]; done)) (by rfl) (by first | rfl | (simp; done) | (simp [ints, prs]; done)))
  · intro i s hi hs hp
    have hlt : decide ((i : Int) < (l.length : Nat)) = true := decide_eq_true (by omega)
    have hp' : (!(fun j => D.getD (l.getD j 0) 0 == (d : Int) - 1) i) = false := hp
    have e0 := evst1 n N d (l.getD i 0) fs D (hl i hi) hN hd
    have hq : (D.getD (l.getD i 0) 0 == (d : Int) - 1) = !((!(fun j => D.getD (l.getD j 0) 0 == (d : Int) - 1) i)) := by simp
    rw [hp'] at hq
    rw [hq] at e0
    unfold m140_0
    repeat' (first
      | (refine g_op ?_; first
        | refine ep_mov rfl ?_ | refine sp_loadN rfl rfl rfl rfl rfl ?_
        | refine sp_callv rfl rfl rfl rfl rfl rfl (by first | exact e0) ⟨rfl, rfl, rfl, rfl⟩ rfl rfl rfl ?_
        | refine sp_callb rfl rfl rfl rfl rfl rfl (by first | exact e0) ⟨rfl, rfl, rfl, rfl⟩ rfl rfl rfl ?_
        | refine ep_bin rfl rfl (by first | exact b_add (by omega) (by omega) | exact b_lss) ?_ | refine sp_idx rfl rfl rfl (by omega) rfl ?_ | refine ep_loadSN rfl rfl rfl (by first | exact prs_get (by omega) | exact fns_get (by omega)) ?_)
      | (refine g_ops ?_; first | refine eo_none ?_ | refine eo_nil ?_)
      | (refine g_code ?_; first | refine ec_seq ?_ | refine ec_region ?_ | refine ec_block ?_ | refine ec_skip ?_ | refine ec_exit ?_ | refine ec_ret ?_ | refine ec_condT rfl ?_ | refine ec_condF rfl ?_ | refine ec_condTH rfl (by assumption) ?_ | refine ec_condFH rfl (by assumption) ?_)
      | refine ek_seqN ?_ | refine ek_seqX ?_ | refine ek_seqR ?_ | refine ek_blkN ?_ | refine ek_blkR ?_ | refine ek_blkX ?_ | refine ek_blkY rfl ?_)
    exact rnd_out (by rfl) (by simp) (scmp2 (by rfl) (by rfl) (by exact ⟨rfl, rfl, rfl⟩) (by rfl) (by first | rfl | (simp; done) | (simp [ints, prs]; done)) (by rfl) (by first | rfl | (simp; done) | (simp [ints, prs]; done)))
  · intro s hs
    have hlt : decide (((l.length : Nat) : Int) < (l.length : Nat)) = false := decide_eq_false (by omega)
    unfold m140_0
    repeat' (first
      | (refine g_op ?_; first
        | refine ep_mov rfl ?_ | refine sp_loadN rfl rfl rfl rfl rfl ?_
        | refine sp_callv rfl rfl rfl rfl rfl rfl (by first | exact e0) ⟨rfl, rfl, rfl, rfl⟩ rfl rfl rfl ?_
        | refine sp_callb rfl rfl rfl rfl rfl rfl (by first | exact e0) ⟨rfl, rfl, rfl, rfl⟩ rfl rfl rfl ?_
        | refine ep_bin rfl rfl (by first | exact b_add (by omega) (by omega) | exact b_lss) ?_ | refine sp_idx rfl rfl rfl (by omega) rfl ?_ | refine ep_loadSN rfl rfl rfl (by first | exact prs_get (by omega) | exact fns_get (by omega)) ?_)
      | (refine g_ops ?_; first | refine eo_none ?_ | refine eo_nil ?_)
      | (refine g_code ?_; first | refine ec_seq ?_ | refine ec_region ?_ | refine ec_block ?_ | refine ec_skip ?_ | refine ec_exit ?_ | refine ec_ret ?_ | refine ec_condT rfl ?_ | refine ec_condF rfl ?_ | refine ec_condTH rfl (by assumption) ?_ | refine ec_condFH rfl (by assumption) ?_)
      | refine ek_seqN ?_ | refine ek_seqX ?_ | refine ek_seqR ?_ | refine ek_blkN ?_ | refine ek_blkR ?_ | refine ek_blkX ?_ | refine ek_blkY rfl ?_)
    exact rnd_out (by rfl) (by simp) (scmp2 (by rfl) (by rfl) (by exact ⟨rfl, rfl, rfl⟩) (by rfl) (by first | rfl | (simp; done) | (simp [ints, prs]; done)) (by rfl) (by first | rfl | (simp; done) | (simp [ints, prs]; done)))
theorem evix_st (n N d q0 : Nat) (fs : List (Int × Int)) (D : List Int) (l : List Nat) (hl : ∀ j, j < l.length → l.getD j 0 < N) (hl4 : l.length ≤ 4) (hN : D.length = N) (hd : d < 65536) : Ev cx 140 [.sl 0 0 l.length, .fn 134 [.ptr 1 0, .ptr 5 0]] [⟨prs n l, 2, 0, some q0, false⟩, ⟨[.ptr 2 0], 1, 1, some 0, true⟩, ⟨[.sl 3 0 fs.length, .int .i64 (n : Nat), .sl 4 0 N], 1, 2, some 0, true⟩, ⟨fns fs, 2, 3, some 0, false⟩, ⟨zints D, 1, 4, some 0, false⟩, ⟨[.int .i64 (d : Nat)], 1, 5, some 0, true⟩] (.int .i64 (match firstF (fun i => !(fun j => D.getD (l.getD j 0) 0 == (d : Int) - 1) i) 0 (l.length) with | none => -1 | some x => ((x : Nat) : Int))) [⟨prs n l, 2, 0, some q0, false⟩, ⟨[.ptr 2 0], 1, 1, some 0, true⟩, ⟨[.sl 3 0 fs.length, .int .i64 (n : Nat), .sl 4 0 N], 1, 2, some 0, true⟩, ⟨fns fs, 2, 3, some 0, false⟩, ⟨zints D, 1, 4, some 0, false⟩, ⟨[.int .i64 (d : Nat)], 1, 5, some 0, true⟩] := by
  cases hs : firstF (fun i => !(fun j => D.getD (l.getD j 0) 0 == (d : Int) - 1) i) 0 (l.length) with
  | none =>
    have lp := lpix_st n N d q0 fs D l hl hl4 hN hd _ (by rw [hs])
    refine has140.eev rfl rfl ?_
    unfold m140
    repeat' (first
      | refine sc_loop lp rfl rfl ⟨rfl, rfl, rfl⟩ rfl rfl rfl ?_
      | (refine g_op ?_; first
        | refine ep_mov rfl ?_
        | refine ep_lenS rfl ?_ | refine ep_lenN rfl ?_ | refine ep_lenE rfl ?_)
      | (refine g_ops ?_; first | refine eo_none ?_ | refine eo_nil ?_)
      | (refine g_code ?_; first | refine ec_seq ?_ | refine ec_region ?_ | refine ec_block ?_ | refine ec_ret ?_)
      | refine ek_seqN ?_ | refine ek_seqX ?_ | refine ek_seqR ?_ | refine ek_blkN ?_ | refine ek_blkR ?_ | refine ek_blkX ?_ | refine ek_blkY rfl ?_)
    refine sfin (.inr rfl) (by rfl) (by rfl) (by exact ⟨rfl, rfl, rfl⟩) (by rfl) (by rfl) (by rfl) (by first | rfl | (simp; done) | (simp [ints, prs]; done))
  | some x =>
    have lp := lpix_st n N d q0 fs D l hl hl4 hN hd _ (by rw [hs])
    refine has140.eev rfl rfl ?_
    unfold m140
    repeat' (first
      | refine sc_loop lp rfl rfl ⟨rfl, rfl, rfl⟩ rfl rfl rfl ?_
      | (refine g_op ?_; first
        | refine ep_mov rfl ?_
        | refine ep_lenS rfl ?_ | refine ep_lenN rfl ?_ | refine ep_lenE rfl ?_)
      | (refine g_ops ?_; first | refine eo_none ?_ | refine eo_nil ?_)
      | (refine g_code ?_; first | refine ec_seq ?_ | refine ec_region ?_ | refine ec_block ?_ | refine ec_ret ?_)
      | refine ek_seqN ?_ | refine ek_seqX ?_ | refine ek_seqR ?_ | refine ek_blkN ?_ | refine ek_blkR ?_ | refine ek_blkX ?_ | refine ek_blkY rfl ?_)
    refine sfin (.inr rfl) (by rfl) (by rfl) (by exact ⟨rfl, rfl, rfl⟩) (by rfl) (by rfl) (by rfl) (by first | rfl | (simp; done) | (simp [ints, prs]; done))
theorem evcf_st (n N d q0 : Nat) (fs : List (Int × Int)) (D : List Int) (l : List Nat) (hl : ∀ j, j < l.length → l.getD j 0 < N) (hl4 : l.length ≤ 4) (hN : D.length = N) (hd : d < 65536) : Ev cx 115 [.sl 0 0 l.length, .fn 134 [.ptr 1 0, .ptr 5 0]] [⟨prs n l, 2, 0, some q0, false⟩, ⟨[.ptr 2 0], 1, 1, some 0, true⟩, ⟨[.sl 3 0 fs.length, .int .i64 (n : Nat), .sl 4 0 N], 1, 2, some 0, true⟩, ⟨fns fs, 2, 3, some 0, false⟩, ⟨zints D, 1, 4, some 0, false⟩, ⟨[.int .i64 (d : Nat)], 1, 5, some 0, true⟩] (.bool (!allF (fun i => !(fun j => D.getD (l.getD j 0) 0 == (d : Int) - 1) i) 0 (l.length))) [⟨prs n l, 2, 0, some q0, false⟩, ⟨[.ptr 2 0], 1, 1, some 0, true⟩, ⟨[.sl 3 0 fs.length, .int .i64 (n : Nat), .sl 4 0 N], 1, 2, some 0, true⟩, ⟨fns fs, 2, 3, some 0, false⟩, ⟨zints D, 1, 4, some 0, false⟩, ⟨[.int .i64 (d : Nat)], 1, 5, some 0, true⟩] := by
  have e1 := evix_st n N d q0 fs D l hl hl4 hN hd
  cases hs : firstF (fun i => !(fun j => D.getD (l.getD j 0) 0 == (d : Int) - 1) i) 0 (l.length) with
  | none =>
    rw [hs] at e1
    refine has115.eev rfl rfl ?_
    unfold m115
    repeat' (first
      | (refine g_op ?_; first
        | refine ep_mov rfl ?_
        | refine ep_call0 rfl (by first | exact e1) rfl rfl ?_
        | refine sp_call rfl rfl rfl rfl (by first | exact e1) ⟨rfl, rfl, rfl, rfl⟩ rfl rfl rfl ?_
        | refine ep_bin rfl rfl (by exact b_geq) ?_)
      | (refine g_ops ?_; first | refine eo_none ?_ | refine eo_nil ?_)
      | (refine g_code ?_; first | refine ec_seq ?_ | refine ec_region ?_ | refine ec_ret ?_)
      | refine ek_seqN ?_ | refine ek_seqR ?_)
    refine sfin (.inr rfl) (by rfl) (by rfl) (by exact ⟨rfl, rfl, rfl⟩) (by rfl) (by rfl) (by rw [firstF_allT hs]; rfl) (by first | rfl | (simp; done) | (simp [ints, prs]; done))
  | some x =>
    rw [hs] at e1
    have hge : decide (((x : Nat) : Int) ≥ 0) = true := decide_eq_true (by omega)
    refine has115.eev rfl rfl ?_
    unfold m115
    repeat' (first
      | (refine g_op ?_; first
        | refine ep_mov rfl ?_
        | refine ep_call0 rfl (by first | exact e1) rfl rfl ?_
        | refine sp_call rfl rfl rfl rfl (by first | exact e1) ⟨rfl, rfl, rfl, rfl⟩ rfl rfl rfl ?_
        | refine ep_bin rfl rfl (by exact b_geq) ?_)
      | (refine g_ops ?_; first | refine eo_none ?_ | refine eo_nil ?_)
      | (refine g_code ?_; first | refine ec_seq ?_ | refine ec_region ?_ | refine ec_ret ?_)
      | refine ek_seqN ?_ | refine ek_seqR ?_)
    refine sfin (.inr rfl) (by rfl) (by rfl) (by exact ⟨rfl, rfl, rfl⟩) (by rfl) (by rfl) (by rw [firstF_allF hs]; first | rfl | exact congrArg V.bool hge) (by first | rfl | (simp; done) | (simp [ints, prs]; done))

theorem lpix_ste (n N d : Nat) (fs : List (Int × Int)) (D : List Int) (o : Out) (ho : (match firstF (fun i => !(fun _ => false) i) 0 (0) with | none => (⟨.exit 0, [], [⟨[.ptr 1 0], 1, 0, some 0, true⟩, ⟨[.sl 2 0 fs.length, .int .i64 (n : Nat), .sl 3 0 N], 1, 1, some 0, true⟩, ⟨fns fs, 2, 2, some 0, false⟩, ⟨zints D, 1, 3, some 0, false⟩, ⟨[.int .i64 (d : Nat)], 1, 4, some 0, true⟩]⟩ : Out) | some x => ⟨.ret, [(4, .int .i64 (x : Nat))], [⟨[.ptr 1 0], 1, 0, some 0, true⟩, ⟨[.sl 2 0 fs.length, .int .i64 (n : Nat), .sl 3 0 N], 1, 1, some 0, true⟩, ⟨fns fs, 2, 2, some 0, false⟩, ⟨zints D, 1, 3, some 0, false⟩, ⟨[.int .i64 (d : Nat)], 1, 4, some 0, true⟩]⟩) = o) :
    LpS cx 19 5 m140_0 [(0, .nils), (1, .fn 134 [.ptr 0 0, .ptr 4 0]), (7, .int .i64 (0 : Nat)), (8, .int .i64 (0 : Nat))] [⟨[.ptr 1 0], 1, 0, some 0, true⟩, ⟨[.sl 2 0 fs.length, .int .i64 (n : Nat), .sl 3 0 N], 1, 1, some 0, true⟩, ⟨fns fs, 2, 2, some 0, false⟩, ⟨zints D, 1, 3, some 0, false⟩, ⟨[.int .i64 (d : Nat)], 1, 4, some 0, true⟩] o.x o.e o.h := by
  refine lp_brk (0) (fun i => !(fun _ => false) i) (fun _ => ()) (fun i _ => [(0, .nils), (1, .fn 134 [.ptr 0 0, .ptr 4 0]), (7, .int .i64 (0 : Nat)), (8, .int .i64 (i : Nat))]) (fun i _ => [⟨[.ptr 1 0], 1, 0, some 0, true⟩, ⟨[.sl 2 0 fs.length, .int .i64 (n : Nat), .sl 3 0 N], 1, 1, some 0, true⟩, ⟨fns fs, 2, 2, some 0, false⟩, ⟨zints D, 1, 3, some 0, false⟩, ⟨[.int .i64 (d : Nat)], 1, 4, some 0, true⟩]) (fun _ => ⟨.exit 0, [], [⟨[.ptr 1 0], 1, 0, some 0, true⟩, ⟨[.sl 2 0 fs.length, .int .i64 (n : Nat), .sl 3 0 N], 1, 1, some 0, true⟩, ⟨fns fs, 2, 2, some 0, false⟩, ⟨zints D, 1, 3, some 0, false⟩, ⟨[.int .i64 (d : Nat)], 1, 4, some 0, true⟩]⟩) (fun i _ => ⟨.ret, [(4, .int .i64 (i : Nat))], [⟨[.ptr 1 0], 1, 0, some 0, true⟩, ⟨[.sl 2 0 fs.length, .int .i64 (n : Nat), .sl 3 0 N], 1, 1, some 0, true⟩, ⟨fns fs, 2, 2, some 0, false⟩, ⟨zints D, 1, 3, some 0, false⟩, ⟨[.int .i64 (d : Nat)], 1, 4, some 0, true⟩]⟩) ?_ ?_ ?_ (0) 0 o (by omega) (fun h => by rw [← ho, firstF_none fun x h1 h2 => h x h1 (by omega)]) (fun x h1 h2 h3 h4 => by rw [← ho, firstF_some h1 (by omega) h3 h4])
  · intro i s hi hs hp
    exact absurd hi (by simp)
  · intro i s hi hs hp
    exact absurd hi (by simp)
  · intro s hs
    have hlt : decide (((0 : Nat) : Int) < (0 : Nat)) = false := decide_eq_false (by omega)
    unfold m140_0
    repeat' (first
      | (refine g_op ?_; first
        | refine ep_mov rfl ?_ | refine sp_loadN rfl rfl rfl rfl rfl ?_
        | refine sp_callv rfl rfl rfl rfl rfl rfl (by first | exact e0) ⟨rfl, rfl, rfl, rfl⟩ rfl rfl rfl ?_
        | refine sp_callb rfl rfl rfl rfl rfl rfl (by first | exact e0) ⟨rfl, rfl, rfl, rfl⟩ rfl rfl rfl ?_
        | refine ep_bin rfl rfl (by first | exact b_add (by omega) (by omega) | exact b_lss) ?_ | refine sp_idx rfl rfl rfl (by omega) rfl ?_ | refine ep_loadSN rfl rfl rfl (by first | exact prs_get (by omega) | exact fns_get (by omega)) ?_)
      | (refine g_ops ?_; first | refine eo_none ?_ | refine eo_nil ?_)
      | (refine g_code ?_; first | refine ec_seq ?_ | refine ec_region ?_ | refine ec_block ?_ | refine ec_skip ?_ | refine ec_exit ?_ | refine ec_ret ?_ | refine ec_condT rfl ?_ | refine ec_condF rfl ?_ | refine ec_condTH rfl (by assumption) ?_ | refine ec_condFH rfl (by assumption) ?_)
      | refine ek_seqN ?_ | refine ek_seqX ?_ | refine ek_seqR ?_ | refine ek_blkN ?_ | refine ek_blkR ?_ | refine ek_blkX ?_ | refine ek_blkY rfl ?_)
    exact rnd_out (by rfl) (by simp) (scmp2 (by rfl) (by rfl) (by exact ⟨rfl, rfl, rfl⟩) (by rfl) (by first | rfl | (simp; done) | (simp [ints, prs]; done)) (by rfl) (by first | rfl | (simp; done) | (simp [ints, prs]; done)))
theorem evix_ste (n N d : Nat) (fs : List (Int × Int)) (D : List Int) : Ev cx 140 [.nils, .fn 134 [.ptr 0 0, .ptr 4 0]] [⟨[.ptr 1 0], 1, 0, some 0, true⟩, ⟨[.sl 2 0 fs.length, .int .i64 (n : Nat), .sl 3 0 N], 1, 1, some 0, true⟩, ⟨fns fs, 2, 2, some 0, false⟩, ⟨zints D, 1, 3, some 0, false⟩, ⟨[.int .i64 (d : Nat)], 1, 4, some 0, true⟩] (.int .i64 (match firstF (fun i => !(fun _ => false) i) 0 (0) with | none => -1 | some x => ((x : Nat) : Int))) [⟨[.ptr 1 0], 1, 0, some 0, true⟩, ⟨[.sl 2 0 fs.length, .int .i64 (n : Nat), .sl 3 0 N], 1, 1, some 0, true⟩, ⟨fns fs, 2, 2, some 0, false⟩, ⟨zints D, 1, 3, some 0, false⟩, ⟨[.int .i64 (d : Nat)], 1, 4, some 0, true⟩] := by
  cases hs : firstF (fun i => !(fun _ => false) i) 0 (0) with
  | none =>
    have lp := lpix_ste n N d fs D _ (by rw [hs])
    refine has140.eev rfl rfl ?_
    unfold m140
    repeat' (first
      | refine sc_loop lp rfl rfl ⟨rfl, rfl, rfl⟩ rfl rfl rfl ?_
      | (refine g_op ?_; first
        | refine ep_mov rfl ?_
        | refine ep_lenS rfl ?_ | refine ep_lenN rfl ?_ | refine ep_lenE rfl ?_)
      | (refine g_ops ?_; first | refine eo_none ?_ | refine eo_nil ?_)
      | (refine g_code ?_; first | refine ec_seq ?_ | refine ec_region ?_ | refine ec_block ?_ | refine ec_ret ?_)
      | refine ek_seqN ?_ | refine ek_seqX ?_ | refine ek_seqR ?_ | refine ek_blkN ?_ | refine ek_blkR ?_ | refine ek_blkX ?_ | refine ek_blkY rfl ?_)
    refine sfin (.inr rfl) (by rfl) (by rfl) (by exact ⟨rfl, rfl, rfl⟩) (by rfl) (by rfl) (by rfl) (by first | rfl | (simp; done) | (simp [ints, prs]; done))
  | some x =>
    have lp := lpix_ste n N d fs D _ (by rw [hs])
    refine has140.eev rfl rfl ?_
    unfold m140
    repeat' (first
      | refine sc_loop lp rfl rfl ⟨rfl, rfl, rfl⟩ rfl rfl rfl ?_
      | (refine g_op ?_; first
        | refine ep_mov rfl ?_
        | refine ep_lenS rfl ?_ | refine ep_lenN rfl ?_ | refine ep_lenE rfl ?_)
      | (refine g_ops ?_; first | refine eo_none ?_ | refine eo_nil ?_)
      | (refine g_code ?_; first | refine ec_seq ?_ | refine ec_region ?_ | refine ec_block ?_ | refine ec_ret ?_)
      | refine ek_seqN ?_ | refine ek_seqX ?_ | refine ek_seqR ?_ | refine ek_blkN ?_ | refine ek_blkR ?_ | refine ek_blkX ?_ | refine ek_blkY rfl ?_)
    refine sfin (.inr rfl) (by rfl) (by rfl) (by exact ⟨rfl, rfl, rfl⟩) (by rfl) (by rfl) (by rfl) (by first | rfl | (simp; done) | (simp [ints, prs]; done))
theorem evcf_ste (n N d : Nat) (fs : List (Int × Int)) (D : List Int) : Ev cx 115 [.nils, .fn 134 [.ptr 0 0, .ptr 4 0]] [⟨[.ptr 1 0], 1, 0, some 0, true⟩, ⟨[.sl 2 0 fs.length, .int .i64 (n : Nat), .sl 3 0 N], 1, 1, some 0, true⟩, ⟨fns fs, 2, 2, some 0, false⟩, ⟨zints D, 1, 3, some 0, false⟩, ⟨[.int .i64 (d : Nat)], 1, 4, some 0, true⟩] (.bool (!allF (fun i => !(fun _ => false) i) 0 (0))) [⟨[.ptr 1 0], 1, 0, some 0, true⟩, ⟨[.sl 2 0 fs.length, .int .i64 (n : Nat), .sl 3 0 N], 1, 1, some 0, true⟩, ⟨fns fs, 2, 2, some 0, false⟩, ⟨zints D, 1, 3, some 0, false⟩, ⟨[.int .i64 (d : Nat)], 1, 4, some 0, true⟩] := by
  have e1 := evix_ste n N d fs D
  cases hs : firstF (fun i => !(fun _ => false) i) 0 (0) with
  | none =>
    rw [hs] at e1
    refine has115.eev rfl rfl ?_
    unfold m115
    repeat' (first
      | (refine g_op ?_; first
        | refine ep_mov rfl ?_
        | refine ep_call0 rfl (by first | exact e1) rfl rfl ?_
        | refine sp_call rfl rfl rfl rfl (by first | exact e1) ⟨rfl, rfl, rfl, rfl⟩ rfl rfl rfl ?_
        | refine ep_bin rfl rfl (by exact b_geq) ?_)
      | (refine g_ops ?_; first | refine eo_none ?_ | refine eo_nil ?_)
      | (refine g_code ?_; first | refine ec_seq ?_ | refine ec_region ?_ | refine ec_ret ?_)
      | refine ek_seqN ?_ | refine ek_seqR ?_)
    refine sfin (.inr rfl) (by rfl) (by rfl) (by exact ⟨rfl, rfl, rfl⟩) (by rfl) (by rfl) (by rw [firstF_allT hs]; rfl) (by first | rfl | (simp; done) | (simp [ints, prs]; done))
  | some x =>
    rw [hs] at e1
    have hge : decide (((x : Nat) : Int) ≥ 0) = true := decide_eq_true (by omega)
    refine has115.eev rfl rfl ?_
    unfold m115
    repeat' (first
      | (refine g_op ?_; first
        | refine ep_mov rfl ?_
        | refine ep_call0 rfl (by first | exact e1) rfl rfl ?_
        | refine sp_call rfl rfl rfl rfl (by first | exact e1) ⟨rfl, rfl, rfl, rfl⟩ rfl rfl rfl ?_
        | refine ep_bin rfl rfl (by exact b_geq) ?_)
      | (refine g_ops ?_; first | refine eo_none ?_ | refine eo_nil ?_)
      | (refine g_code ?_; first | refine ec_seq ?_ | refine ec_region ?_ | refine ec_ret ?_)
      | refine ek_seqN ?_ | refine ek_seqR ?_)
    refine sfin (.inr rfl) (by rfl) (by rfl) (by exact ⟨rfl, rfl, rfl⟩) (by rfl) (by rfl) (by rw [firstF_allF hs]; first | rfl | exact congrArg V.bool hge) (by first | rfl | (simp; done) | (simp [ints, prs]; done))


theorem walk_len {d : Int} {n b : Nat} {L : List Nat} (hd : 0 ≤ d) (m : Nat) (l : List Nat) (s : GS) : (walkT L (leafI d n b) m l s).1.length = s.1.length :=
  walkT_inv (I := fun u : GS => u.1.length = s.1.length) (fun now u hu => by
    unfold leafI; split
    · unfold leafS; rw [(upS_le d _ u).1, hu]
    · exact hu) m l s rfl
theorem fold_len {d : Int} {n b : Nat} {L : List Nat} (hd : 0 ≤ d) (m : Nat) (l : List Nat) (s : GS) (i : Nat) : (foldN (fun j s => walkT L (leafI d n b) m (l ++ [L.getD j 0]) s) i s).1.length = s.1.length :=
  foldN_inv (I := fun u : GS => u.1.length = s.1.length) _ _ (fun j u _ hu => by rw [walk_len hd, hu]) rfl

end Go.Proofs.Ytdmpajkcpdjfbaa
