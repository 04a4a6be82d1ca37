/- What each function that the statement reaches returns. -/
import Derived.Test.YtffakaalcnpgeaaMiD
import Derived.Test.YtffakaalcnpgeaaChecked
import Derived.KernelRfl
import Derived.WalkKit
import Derived.WalkSpells
import Derived.Maps.RangeWalk
import Derived.Maps.OwnSet
set_option linter.unusedVariables false
set_option linter.unusedSimpArgs false
set_option maxRecDepth 100000
set_option maxHeartbeats 4000000
namespace Go.Proofs.Ytffakaalcnpgeaa
open Go Go.Proofs.Ytffakaalcnpgeaa.Mi
noncomputable def cx : Cx := ⟨Try.prog, id, id, by kernel_rfl⟩
attribute [local irreducible] code opsK opsDK gopK opK seqK blockK callK binV
def R2 (n : Nat) : Nat := 2 ^ n
theorem shR (n : Nat) : 1 <<< n = R2 n := by simp [R2, Nat.shiftLeft_eq]
theorem shN {n : Nat} (h : n ≤ 4) : R2 n ≤ 16 ∧ R2 (R2 n) ≤ 65536 ∧ 1 ≤ R2 n ∧ 1 ≤ R2 (R2 n) := by
  have : n = 0 ∨ n = 1 ∨ n = 2 ∨ n = 3 ∨ n = 4 := by omega
  rcases this with rfl | rfl | rfl | rfl | rfl <;> decide
theorem b_shl1 {k' : IntKind} {y : Nat} (h : R2 y < 9223372036854775808) (hy : y ≤ 64) : binV .shl (.int .i64 1) (.int k' y) = some (.int .i64 (R2 y : Nat)) := by
  rw [← shR]; exact b_shl (x := 1) (by rw [shR]; exact h) hy
attribute [local irreducible] R2
def isFn (p t : Int) : Bool := decide (0 ≤ p ∧ p ≤ 4) && decide (0 ≤ t ∧ t ≤ (R2 (R2 p.toNat) : Nat) - 1)
-- impl.within
def m11 : MC := (.seq (.region [⟨(.mov (.k (.bool false))), (some 6), none⟩] false) (.seq (.region [⟨(.mov (.t 0)), (some 7), none⟩, ⟨(.mov (.t 1)), (some 8), none⟩, ⟨(.bin .geq (.t 7) (.t 8)), (some 9), none⟩, ⟨(.mov (.t 9)), (some 10), none⟩, ⟨(.mov (.t 0)), (some 11), (some (10, true))⟩, ⟨(.mov (.t 2)), (some 12), (some (10, true))⟩, ⟨(.bin .leq (.t 11) (.t 12)), (some 13), (some (10, true))⟩, ⟨(.pick (.t 10) (.t 13) (.k (.bool false))), (some 14), none⟩, ⟨(.mov (.t 14)), (some 6), none⟩] false) .ret))
theorem has11 : Has cx 11 15 m11 [(.tmp 6)] :=
  ⟨⟨Try.f11, Try.f11.body.getD .skip, by kernel_rfl, by kernel_rfl, by kernel_rfl, by kernel_rfl, by kernel_rfl, by kernel_rfl⟩⟩
theorem ev11 (z lo hi : Int) : Ev cx 11 [.int .i64 z, .int .i64 lo, .int .i64 hi] [] (.bool (decide (lo ≤ z ∧ z ≤ hi))) [] := by
  by_cases h1 : lo ≤ z
  · have h2 : decide (z ≥ lo) = true := decide_eq_true h1
    refine has11.eev rfl rfl ?_
    unfold m11
    repeat' (first
      | (refine g_op ?_; first
        | refine ep_mov rfl ?_
        | refine ep_bin rfl rfl (by first | exact b_leq | exact b_geq) ?_ | refine ep_pickT rfl rfl ?_ | refine ep_pickF rfl rfl ?_ | refine ep_pickTH rfl (by assumption) rfl ?_ | refine ep_pickFH rfl (by assumption) rfl ?_)
      | (refine g_ops ?_; first | refine eo_none ?_ | refine eo_nil ?_ | refine eo_yes rfl ?_ | refine eo_no rfl ?_ | refine eo_und rfl ?_ | refine eo_yesH rfl (by assumption) ?_ | refine eo_noH rfl (by assumption) ?_)
      | (refine g_code ?_; first | refine ec_seq ?_ | refine ec_region ?_ | refine ec_ret ?_)
      | refine ek_seqN ?_ | refine ek_seqR ?_)
    refine sfin (.inr rfl) (by rfl) (by rfl) (by exact ⟨rfl, rfl, rfl⟩) (by rfl) (by rfl) (by exact congrArg V.bool (by simp [h1])) (by first | rfl | (simp; done) | (simp [ints, prs]; done))
  · have h2 : decide (z ≥ lo) = false := decide_eq_false h1
    refine has11.eev rfl rfl ?_
    unfold m11
    repeat' (first
      | (refine g_op ?_; first
        | refine ep_mov rfl ?_
        | refine ep_bin rfl rfl (by first | exact b_leq | exact b_geq) ?_ | refine ep_pickT rfl rfl ?_ | refine ep_pickF rfl rfl ?_ | refine ep_pickTH rfl (by assumption) rfl ?_ | refine ep_pickFH rfl (by assumption) rfl ?_)
      | (refine g_ops ?_; first | refine eo_none ?_ | refine eo_nil ?_ | refine eo_yes rfl ?_ | refine eo_no rfl ?_ | refine eo_und rfl ?_ | refine eo_yesH rfl (by assumption) ?_ | refine eo_noH rfl (by assumption) ?_)
      | (refine g_code ?_; first | refine ec_seq ?_ | refine ec_region ?_ | refine ec_ret ?_)
      | refine ek_seqN ?_ | refine ek_seqR ?_)
    refine sfin (.inr rfl) (by rfl) (by rfl) (by exact ⟨rfl, rfl, rfl⟩) (by rfl) (by rfl) (by exact congrArg V.bool (by simp [h1])) (by first | rfl | (simp; done) | (simp [ints, prs]; done))
-- spec.l01In
def m8 : MC := (.seq (.region [⟨(.mov (.k (.bool false))), (some 6), none⟩] false) (.seq (.region [⟨(.mov (.t 0)), (some 7), none⟩, ⟨(.mov (.t 1)), (some 8), none⟩, ⟨(.bin .geq (.t 7) (.t 8)), (some 9), none⟩, ⟨(.mov (.t 9)), (some 10), none⟩, ⟨(.mov (.t 0)), (some 11), (some (10, true))⟩, ⟨(.mov (.t 2)), (some 12), (some (10, true))⟩, ⟨(.bin .leq (.t 11) (.t 12)), (some 13), (some (10, true))⟩, ⟨(.pick (.t 10) (.t 13) (.k (.bool false))), (some 14), none⟩, ⟨(.mov (.t 14)), (some 6), none⟩] false) .ret))
theorem has8 : Has cx 8 15 m8 [(.tmp 6)] :=
  ⟨⟨Try.f8, Try.f8.body.getD .skip, by kernel_rfl, by kernel_rfl, by kernel_rfl, by kernel_rfl, by kernel_rfl, by kernel_rfl⟩⟩
theorem ev8 (z lo hi : Int) : Ev cx 8 [.int .i64 z, .int .i64 lo, .int .i64 hi] [] (.bool (decide (lo ≤ z ∧ z ≤ hi))) [] := by
  by_cases h1 : lo ≤ z
  · have h2 : decide (z ≥ lo) = true := decide_eq_true h1
    refine has8.eev rfl rfl ?_
    unfold m8
    repeat' (first
      | (refine g_op ?_; first
        | refine ep_mov rfl ?_
        | refine ep_bin rfl rfl (by first | exact b_leq | exact b_geq) ?_ | refine ep_pickT rfl rfl ?_ | refine ep_pickF rfl rfl ?_ | refine ep_pickTH rfl (by assumption) rfl ?_ | refine ep_pickFH rfl (by assumption) rfl ?_)
      | (refine g_ops ?_; first | refine eo_none ?_ | refine eo_nil ?_ | refine eo_yes rfl ?_ | refine eo_no rfl ?_ | refine eo_und rfl ?_ | refine eo_yesH rfl (by assumption) ?_ | refine eo_noH rfl (by assumption) ?_)
      | (refine g_code ?_; first | refine ec_seq ?_ | refine ec_region ?_ | refine ec_ret ?_)
      | refine ek_seqN ?_ | refine ek_seqR ?_)
    refine sfin (.inr rfl) (by rfl) (by rfl) (by exact ⟨rfl, rfl, rfl⟩) (by rfl) (by rfl) (by exact congrArg V.bool (by simp [h1])) (by first | rfl | (simp; done) | (simp [ints, prs]; done))
  · have h2 : decide (z ≥ lo) = false := decide_eq_false h1
    refine has8.eev rfl rfl ?_
    unfold m8
    repeat' (first
      | (refine g_op ?_; first
        | refine ep_mov rfl ?_
        | refine ep_bin rfl rfl (by first | exact b_leq | exact b_geq) ?_ | refine ep_pickT rfl rfl ?_ | refine ep_pickF rfl rfl ?_ | refine ep_pickTH rfl (by assumption) rfl ?_ | refine ep_pickFH rfl (by assumption) rfl ?_)
      | (refine g_ops ?_; first | refine eo_none ?_ | refine eo_nil ?_ | refine eo_yes rfl ?_ | refine eo_no rfl ?_ | refine eo_und rfl ?_ | refine eo_yesH rfl (by assumption) ?_ | refine eo_noH rfl (by assumption) ?_)
      | (refine g_code ?_; first | refine ec_seq ?_ | refine ec_region ?_ | refine ec_ret ?_)
      | refine ek_seqN ?_ | refine ek_seqR ?_)
    refine sfin (.inr rfl) (by rfl) (by rfl) (by exact ⟨rfl, rfl, rfl⟩) (by rfl) (by rfl) (by exact congrArg V.bool (by simp [h1])) (by first | rfl | (simp; done) | (simp [ints, prs]; done))
-- impl.rowsOf
def m21 : MC := (.seq (.region [⟨(.mov (.k (.int .i64 0))), (some 2), none⟩] false) (.seq (.region [⟨(.mov (.t 0)), (some 3), none⟩, ⟨(.bin .shl (.k (.int .i64 1)) (.t 3)), (some 4), none⟩, ⟨(.mov (.t 4)), (some 2), none⟩] false) .ret))
theorem has21 : Has cx 21 5 m21 [(.tmp 2)] :=
  ⟨⟨Try.f21, Try.f21.body.getD .skip, by kernel_rfl, by kernel_rfl, by kernel_rfl, by kernel_rfl, by kernel_rfl, by kernel_rfl⟩⟩
theorem ev21 (n : Nat) (h : n ≤ 4) : Ev cx 21 [.int .i64 n] [] (.int .i64 (R2 n : Nat)) [] := by
  obtain ⟨h1, h2, h3, h4⟩ := shN h
  refine has21.eev rfl rfl ?_
  unfold m21
  repeat' (first
    | (refine g_op ?_; first
      | refine ep_mov rfl ?_
      | refine ep_bin rfl rfl (by first | exact b_shl1 (by omega) (by omega) | exact b_shl (by omega) (by omega)) ?_)
    | (refine g_ops ?_; first | refine eo_none ?_ | refine eo_nil ?_)
    | (refine g_code ?_; first | refine ec_seq ?_ | refine ec_region ?_ | refine ec_ret ?_)
    | refine ek_seqN ?_ | refine ek_seqR ?_)
  refine sfin (.inr rfl) (by rfl) (by rfl) (by exact ⟨rfl, rfl, rfl⟩) (by rfl) (by rfl) (by rfl) (by first | rfl | (simp; done) | (simp [ints, prs]; done))
-- impl.funcsOf
def m18 : MC := (.seq (.region [⟨(.mov (.k (.int .i64 0))), (some 2), none⟩] false) (.seq (.region [⟨(.mov (.t 0)), (some 3), none⟩, ⟨(.call 21 [(.t 3)]), (some 4), none⟩, ⟨(.bin .shl (.k (.int .i64 1)) (.t 4)), (some 5), none⟩, ⟨(.mov (.t 5)), (some 2), none⟩] false) .ret))
theorem has18 : Has cx 18 6 m18 [(.tmp 2)] :=
  ⟨⟨Try.f18, Try.f18.body.getD .skip, by kernel_rfl, by kernel_rfl, by kernel_rfl, by kernel_rfl, by kernel_rfl, by kernel_rfl⟩⟩
theorem ev18 (n : Nat) (h : n ≤ 4) : Ev cx 18 [.int .i64 n] [] (.int .i64 (R2 (R2 n) : Nat)) [] := by
  obtain ⟨h1, h2, h3, h4⟩ := shN h
  refine has18.eev rfl rfl ?_
  unfold m18
  repeat' (first
    | (refine g_op ?_; first
      | refine ep_mov rfl ?_
      | refine ep_call0 rfl (by first | exact ev21 _ h) rfl rfl ?_
      | refine sp_call rfl rfl rfl rfl (by first | exact ev21 _ h) ⟨rfl, rfl, rfl, rfl⟩ rfl rfl rfl ?_
      | refine ep_bin rfl rfl (by first | exact b_shl1 (by omega) (by omega) | exact b_shl (by omega) (by omega)) ?_)
    | (refine g_ops ?_; first | refine eo_none ?_ | refine eo_nil ?_)
    | (refine g_code ?_; first | refine ec_seq ?_ | refine ec_region ?_ | refine ec_ret ?_)
    | refine ek_seqN ?_ | refine ek_seqR ?_)
  refine sfin (.inr rfl) (by rfl) (by rfl) (by exact ⟨rfl, rfl, rfl⟩) (by rfl) (by rfl) (by rfl) (by first | rfl | (simp; done) | (simp [ints, prs]; done))
-- spec.l01Rows
def m14 : MC := (.seq (.region [⟨(.mov (.k (.int .i64 0))), (some 2), none⟩] false) (.seq (.region [⟨(.mov (.t 0)), (some 3), none⟩, ⟨(.conv .u64 (.t 3)), (some 4), none⟩, ⟨(.bin .shl (.k (.int .i64 1)) (.t 4)), (some 5), none⟩, ⟨(.mov (.t 5)), (some 2), none⟩] false) .ret))
theorem has14 : Has cx 14 6 m14 [(.tmp 2)] :=
  ⟨⟨Try.f14, Try.f14.body.getD .skip, by kernel_rfl, by kernel_rfl, by kernel_rfl, by kernel_rfl, by kernel_rfl, by kernel_rfl⟩⟩
theorem ev14 (n : Nat) (h : n ≤ 4) : Ev cx 14 [.int .i64 n] [] (.int .i64 (R2 n : Nat)) [] := by
  obtain ⟨h1, h2, h3, h4⟩ := shN h
  refine has14.eev rfl rfl ?_
  unfold m14
  repeat' (first
    | (refine g_op ?_; first
      | refine ep_mov rfl ?_
      | refine ep_bin rfl rfl (by first | exact b_shl1 (by omega) (by omega) | exact b_shl (by omega) (by omega)) ?_ | refine ep_conv rfl (by first | exact w_u64 (by omega) (by omega) | exact wrap_id (by omega) (by omega) | rfl) ?_)
    | (refine g_ops ?_; first | refine eo_none ?_ | refine eo_nil ?_)
    | (refine g_code ?_; first | refine ec_seq ?_ | refine ec_region ?_ | refine ec_ret ?_)
    | refine ek_seqN ?_ | refine ek_seqR ?_)
  refine sfin (.inr rfl) (by rfl) (by rfl) (by exact ⟨rfl, rfl, rfl⟩) (by rfl) (by rfl) (by rfl) (by first | rfl | (simp; done) | (simp [ints, prs]; done))
-- spec.l01All
def m13 : MC := (.seq (.region [⟨(.mov (.k (.int .i64 0))), (some 2), none⟩] false) (.seq (.region [⟨(.mov (.t 0)), (some 3), none⟩, ⟨(.call 14 [(.t 3)]), (some 4), none⟩, ⟨(.conv .u64 (.t 4)), (some 5), none⟩, ⟨(.bin .shl (.k (.int .i64 1)) (.t 5)), (some 6), none⟩, ⟨(.bin .sub (.t 6) (.k (.int .i64 1))), (some 7), none⟩, ⟨(.mov (.t 7)), (some 2), none⟩] false) .ret))
theorem has13 : Has cx 13 8 m13 [(.tmp 2)] :=
  ⟨⟨Try.f13, Try.f13.body.getD .skip, by kernel_rfl, by kernel_rfl, by kernel_rfl, by kernel_rfl, by kernel_rfl, by kernel_rfl⟩⟩
theorem ev13 (n : Nat) (h : n ≤ 4) : Ev cx 13 [.int .i64 n] [] (.int .i64 ((R2 (R2 n) : Nat) - 1)) [] := by
  obtain ⟨h1, h2, h3, h4⟩ := shN h
  refine has13.eev rfl rfl ?_
  unfold m13
  repeat' (first
    | (refine g_op ?_; first
      | refine ep_mov rfl ?_
      | refine ep_call0 rfl (by first | exact ev14 _ h) rfl rfl ?_
      | refine sp_call rfl rfl rfl rfl (by first | exact ev14 _ h) ⟨rfl, rfl, rfl, rfl⟩ rfl rfl rfl ?_
      | refine ep_bin rfl rfl (by first | exact b_shl1 (by omega) (by omega) | exact b_sub (by omega) (by omega) | exact b_shl (by omega) (by omega)) ?_ | refine ep_conv rfl (by first | exact w_u64 (by omega) (by omega) | exact wrap_id (by omega) (by omega) | rfl) ?_)
    | (refine g_ops ?_; first | refine eo_none ?_ | refine eo_nil ?_)
    | (refine g_code ?_; first | refine ec_seq ?_ | refine ec_region ?_ | refine ec_ret ?_)
    | refine ek_seqN ?_ | refine ek_seqR ?_)
  refine sfin (.inr rfl) (by rfl) (by rfl) (by exact ⟨rfl, rfl, rfl⟩) (by rfl) (by rfl) (by rfl) (by first | rfl | (simp; done) | (simp [ints, prs]; done))
-- impl.isArity
def m17 : MC := (.seq (.region [⟨(.mov (.k (.bool false))), (some 2), none⟩] false) (.seq (.region [⟨(.mov (.t 0)), (some 3), none⟩, ⟨(.call 11 [(.t 3), (.k (.int .i64 0)), (.k (.int .i64 4))]), (some 4), none⟩, ⟨(.mov (.t 4)), (some 2), none⟩] false) .ret))
theorem has17 : Has cx 17 5 m17 [(.tmp 2)] :=
  ⟨⟨Try.f17, Try.f17.body.getD .skip, by kernel_rfl, by kernel_rfl, by kernel_rfl, by kernel_rfl, by kernel_rfl, by kernel_rfl⟩⟩
theorem ev17 (z : Int) : Ev cx 17 [.int .i64 z] [] (.bool (decide (0 ≤ z ∧ z ≤ 4))) [] := by
  refine has17.eev rfl rfl ?_
  unfold m17
  repeat' (first
    | (refine g_op ?_; first
      | refine ep_mov rfl ?_
      | refine ep_call0 rfl (by first | exact ev11 _ _ _) rfl rfl ?_
      | refine sp_call rfl rfl rfl rfl (by first | exact ev11 _ _ _) ⟨rfl, rfl, rfl, rfl⟩ rfl rfl rfl ?_)
    | (refine g_ops ?_; first | refine eo_none ?_ | refine eo_nil ?_)
    | (refine g_code ?_; first | refine ec_seq ?_ | refine ec_region ?_ | refine ec_ret ?_)
    | refine ek_seqN ?_ | refine ek_seqR ?_)
  refine sfin (.inr rfl) (by rfl) (by rfl) (by exact ⟨rfl, rfl, rfl⟩) (by rfl) (by rfl) (by rfl) (by first | rfl | (simp; done) | (simp [ints, prs]; done))
theorem isFn_nat {p t : Int} (h : isFn p t = true) : ∃ n b : Nat, p = n ∧ t = b ∧ n ≤ 4 ∧ b < R2 (R2 n) ∧ b < 65536 := by
  simp only [isFn, Bool.and_eq_true, decide_eq_true_eq] at h
  obtain ⟨⟨h1, h2⟩, h3, h4⟩ := h
  obtain ⟨n, rfl⟩ := Int.eq_ofNat_of_zero_le (show 0 ≤ p by omega)
  obtain ⟨b, rfl⟩ := Int.eq_ofNat_of_zero_le h3
  simp only [Int.toNat_natCast] at h4
  obtain ⟨_, q, _⟩ := shN (n := n) (by omega)
  exact ⟨n, b, rfl, rfl, by omega, by omega, by omega⟩
def bt (b r : Nat) : Nat := (b >>> r) &&& 1
theorem bt_le (b r : Nat) : bt b r ≤ 1 := by unfold bt; exact Nat.and_le_right
theorem shr_lt {b r : Nat} (h : b < 9223372036854775808) : b >>> r < 9223372036854775808 := Nat.lt_of_le_of_lt (Nat.shiftRight_le b r) h
theorem b_bt {b r : Nat} (h : b < 9223372036854775808) : binV .and (.int .i64 (b >>> r : Nat)) (.int .i64 1) = some (.int .i64 (bt b r : Nat)) := b_and (y := 1) (shr_lt h) (by omega)
attribute [local irreducible] bt
-- impl.bit
def m22 : MC := (.seq (.region [⟨(.mov (.k (.int .i64 0))), (some 4), none⟩] false) (.seq (.region [⟨(.mov (.t 0)), (some 5), none⟩, ⟨(.mov (.t 1)), (some 6), none⟩, ⟨(.bin .shr (.t 5) (.t 6)), (some 7), none⟩, ⟨(.bin .and (.t 7) (.k (.int .i64 1))), (some 8), none⟩, ⟨(.mov (.t 8)), (some 4), none⟩] false) .ret))
theorem has22 : Has cx 22 9 m22 [(.tmp 4)] :=
  ⟨⟨Try.f22, Try.f22.body.getD .skip, by kernel_rfl, by kernel_rfl, by kernel_rfl, by kernel_rfl, by kernel_rfl, by kernel_rfl⟩⟩
theorem ev22 (b r : Nat) (hb : b < 9223372036854775808) (hr : r ≤ 64) : Ev cx 22 [.int .i64 b, .int .i64 r] [] (.int .i64 (bt b r : Nat)) [] := by
  refine has22.eev rfl rfl ?_
  unfold m22
  repeat' (first
    | (refine g_op ?_; first
      | refine ep_mov rfl ?_
      | refine ep_bin rfl rfl (by first | exact b_shr hr | exact b_bt hb | exact b_and (by omega) (by omega) | exact b_shr (by omega)) ?_)
    | (refine g_ops ?_; first | refine eo_none ?_ | refine eo_nil ?_)
    | (refine g_code ?_; first | refine ec_seq ?_ | refine ec_region ?_ | refine ec_ret ?_)
    | refine ek_seqN ?_ | refine ek_seqR ?_)
  refine sfin (.inr rfl) (by rfl) (by rfl) (by exact ⟨rfl, rfl, rfl⟩) (by rfl) (by rfl) (by rfl) (by first | rfl | (simp; done) | (simp [ints, prs]; done))
-- (impl.Func).at
def m20 : MC := (.seq (.region [⟨(.box (.t 0)), (some 2), none⟩, ⟨(.mov (.k (.int .i64 0))), (some 4), none⟩] false) (.seq (.region [⟨(.fieldAddr 1 (.t 2)), (some 5), none⟩, ⟨(.load none (.t 5)), (some 6), none⟩, ⟨(.mov (.t 1)), (some 7), none⟩, ⟨(.call 22 [(.t 6), (.t 7)]), (some 8), none⟩, ⟨(.mov (.t 8)), (some 4), none⟩] false) .ret))
theorem has20 : Has cx 20 9 m20 [(.tmp 4)] :=
  ⟨⟨Try.f20, Try.f20.body.getD .skip, by kernel_rfl, by kernel_rfl, by kernel_rfl, by kernel_rfl, by kernel_rfl, by kernel_rfl⟩⟩
theorem ev20 (n : Int) (b r : Nat) (hb : b < 9223372036854775808) (hr : r ≤ 64) : Ev cx 20 [.agg [.int .i64 n, .int .i64 b], .int .i64 r] [] (.int .i64 (bt b r : Nat)) [] := by
  refine has20.eev rfl rfl ?_
  unfold m20
  repeat' (first
    | (refine g_op ?_; first
      | refine ep_mov rfl ?_ | refine ep_load1 rfl rfl rfl rfl ?_ | refine ep_fieldAddr rfl ?_
      | refine ep_call0 rfl (by first | exact ev22 _ _ hb hr) rfl rfl ?_
      | refine sp_call rfl rfl rfl rfl (by first | exact ev22 _ _ hb hr) ⟨rfl, rfl, rfl, rfl⟩ rfl rfl rfl ?_
      | refine sp_box rfl rfl rfl rfl rfl ?_)
    | (refine g_ops ?_; first | refine eo_none ?_ | refine eo_nil ?_)
    | (refine g_code ?_; first | refine ec_seq ?_ | refine ec_region ?_ | refine ec_ret ?_)
    | refine ek_seqN ?_ | refine ek_seqR ?_)
  refine sfin (.inr rfl) (by rfl) (by rfl) (by exact ⟨rfl, rfl, rfl⟩) (by rfl) (by rfl) (by rfl) (by first | rfl | (simp; done) | (simp [ints, prs]; done))
-- (impl.Func).rows
def m19 : MC := (.seq (.region [⟨(.box (.t 0)), (some 1), none⟩, ⟨(.mov (.k (.int .i64 0))), (some 2), none⟩] false) (.seq (.region [⟨(.fieldAddr 0 (.t 1)), (some 3), none⟩, ⟨(.load none (.t 3)), (some 4), none⟩, ⟨(.call 21 [(.t 4)]), (some 5), none⟩, ⟨(.mov (.t 5)), (some 2), none⟩] false) .ret))
theorem has19 : Has cx 19 6 m19 [(.tmp 2)] :=
  ⟨⟨Try.f19, Try.f19.body.getD .skip, by kernel_rfl, by kernel_rfl, by kernel_rfl, by kernel_rfl, by kernel_rfl, by kernel_rfl⟩⟩
theorem ev19 (n : Nat) (b : Int) (h : n ≤ 4) : Ev cx 19 [.agg [.int .i64 n, .int .i64 b]] [] (.int .i64 (R2 n : Nat)) [] := by
  refine has19.eev rfl rfl ?_
  unfold m19
  repeat' (first
    | (refine g_op ?_; first
      | refine ep_mov rfl ?_ | refine ep_load1 rfl rfl rfl rfl ?_ | refine ep_fieldAddr rfl ?_
      | refine ep_call0 rfl (by first | exact ev21 _ h) rfl rfl ?_
      | refine sp_call rfl rfl rfl rfl (by first | exact ev21 _ h) ⟨rfl, rfl, rfl, rfl⟩ rfl rfl rfl ?_
      | refine sp_box rfl rfl rfl rfl rfl ?_)
    | (refine g_ops ?_; first | refine eo_none ?_ | refine eo_nil ?_)
    | (refine g_code ?_; first | refine ec_seq ?_ | refine ec_region ?_ | refine ec_ret ?_)
    | refine ek_seqN ?_ | refine ek_seqR ?_)
  refine sfin (.inr rfl) (by rfl) (by rfl) (by exact ⟨rfl, rfl, rfl⟩) (by rfl) (by rfl) (by rfl) (by first | rfl | (simp; done) | (simp [ints, prs]; done))
-- impl.IsFunc
def m10 : MC := (.seq (.region [⟨(.box (.t 0)), (some 1), none⟩, ⟨(.mov (.k (.bool false))), (some 2), none⟩] false) (.seq (.region [⟨(.fieldAddr 0 (.t 1)), (some 3), none⟩, ⟨(.load none (.t 3)), (some 4), none⟩, ⟨(.callw 17 [(.t 4)]), (some 5), none⟩, ⟨(.mov (.t 5)), (some 6), none⟩, ⟨(.fieldAddr 1 (.t 1)), (some 7), (some (6, true))⟩, ⟨(.load none (.t 7)), (some 8), (some (6, true))⟩, ⟨(.fieldAddr 0 (.t 1)), (some 9), (some (6, true))⟩, ⟨(.load none (.t 9)), (some 10), (some (6, true))⟩, ⟨(.call 18 [(.t 10)]), (some 11), (some (6, true))⟩, ⟨(.bin .sub (.t 11) (.k (.int .i64 1))), (some 12), (some (6, true))⟩, ⟨(.callw 11 [(.t 8), (.k (.int .i64 0)), (.t 12)]), (some 13), (some (6, true))⟩, ⟨(.pick (.t 6) (.t 13) (.k (.bool false))), (some 14), none⟩, ⟨(.mov (.t 14)), (some 2), none⟩] true) .ret))
theorem has10 : Has cx 10 15 m10 [(.tmp 2)] :=
  ⟨⟨Try.f10, Try.f10.body.getD .skip, by kernel_rfl, by kernel_rfl, by kernel_rfl, by kernel_rfl, by kernel_rfl, by kernel_rfl⟩⟩
theorem ev10 (p t : Int) : Ev cx 10 [.agg [.int .i64 p, .int .i64 t]] [] (.bool (isFn p t)) [] := by
  by_cases h1 : 0 ≤ p ∧ p ≤ 4
  · have h2 : decide (0 ≤ p ∧ p ≤ 4) = true := decide_eq_true h1
    obtain ⟨n, rfl⟩ := Int.eq_ofNat_of_zero_le (show 0 ≤ p by omega)
    have h3 : n ≤ 4 := by omega
    obtain ⟨h4, h5, h6, h7⟩ := shN h3
    refine has10.eev rfl rfl ?_
    unfold m10
    repeat' (first
      | (refine g_op ?_; first
        | refine ep_mov rfl ?_ | refine ep_load1 rfl rfl rfl rfl ?_ | refine ep_fieldAddr rfl ?_
        | refine ep_call0 rfl (by first | exact ev17 _ | exact ev11 _ _ _ | exact ev18 _ h3) rfl rfl ?_
        | refine sp_call rfl rfl rfl rfl (by first | exact ev17 _ | exact ev11 _ _ _ | exact ev18 _ h3) ⟨rfl, rfl, rfl, rfl⟩ rfl rfl rfl ?_
        | refine ep_callw0 rfl (by first | exact ev17 _ | exact ev11 _ _ _ | exact ev18 _ h3) rfl rfl ?_
        | refine sp_callw rfl rfl rfl rfl (by first | exact ev17 _ | exact ev11 _ _ _ | exact ev18 _ h3) ⟨rfl, rfl, rfl, rfl⟩ rfl rfl rfl (by first | exact WrP_refl _ _ | (repeat' (first | exact rfl | exact True.intro | refine And.intro ?_ ?_))) ?_
        | refine ep_bin rfl rfl (by exact b_sub (by omega) (by omega)) ?_ | refine ep_pickT rfl rfl ?_ | refine ep_pickF rfl rfl ?_ | refine ep_pickTH rfl (by assumption) rfl ?_ | refine ep_pickFH rfl (by assumption) rfl ?_
        | refine sp_box rfl rfl rfl rfl rfl ?_)
      | (refine g_ops ?_; first | refine eo_none ?_ | refine eo_nil ?_ | refine eo_yes rfl ?_ | refine eo_no rfl ?_ | refine eo_und rfl ?_ | refine eo_yesH rfl (by assumption) ?_ | refine eo_noH rfl (by assumption) ?_)
      | (refine g_dops ?_; first | refine ed_none ?_ | refine ed_nil ?_ | refine ed_yes rfl ?_ | refine ed_no rfl ?_ | refine ed_und rfl ?_ | refine ed_yesH rfl (by assumption) ?_ | refine ed_noH rfl (by assumption) ?_)
      | refine ed_same rfl ?_ | refine ed_one rfl rfl rfl rfl ?_ | refine ed_two rfl rfl rfl rfl rfl rfl rfl ?_ | refine ed_write rfl rfl ?_
      | (refine g_code ?_; first | refine ec_seq ?_ | refine ec_region ?_ | refine ec_draw ?_ | refine ec_ret ?_)
      | refine ek_seqN ?_ | refine ek_seqR ?_)
    refine sfin (.inr rfl) (by rfl) (by rfl) (by exact ⟨rfl, rfl, rfl⟩) (by rfl) (by rfl) (by exact congrArg V.bool (by simp [isFn, h1])) (by first | rfl | (simp; done) | (simp [ints, prs]; done))
  · have h2 : decide (0 ≤ p ∧ p ≤ 4) = false := decide_eq_false h1
    refine has10.eev rfl rfl ?_
    unfold m10
    repeat' (first
      | (refine g_op ?_; first
        | refine ep_mov rfl ?_ | refine ep_load1 rfl rfl rfl rfl ?_ | refine ep_fieldAddr rfl ?_
        | refine ep_call0 rfl (by first | exact ev17 _ | exact ev11 _ _ _) rfl rfl ?_
        | refine sp_call rfl rfl rfl rfl (by first | exact ev17 _ | exact ev11 _ _ _) ⟨rfl, rfl, rfl, rfl⟩ rfl rfl rfl ?_
        | refine ep_callw0 rfl (by first | exact ev17 _ | exact ev11 _ _ _) rfl rfl ?_
        | refine sp_callw rfl rfl rfl rfl (by first | exact ev17 _ | exact ev11 _ _ _) ⟨rfl, rfl, rfl, rfl⟩ rfl rfl rfl (by first | exact WrP_refl _ _ | (repeat' (first | exact rfl | exact True.intro | refine And.intro ?_ ?_))) ?_
        | refine ep_bin rfl rfl (by exact b_sub (by omega) (by omega)) ?_ | refine ep_pickT rfl rfl ?_ | refine ep_pickF rfl rfl ?_ | refine ep_pickTH rfl (by assumption) rfl ?_ | refine ep_pickFH rfl (by assumption) rfl ?_
        | refine sp_box rfl rfl rfl rfl rfl ?_)
      | (refine g_ops ?_; first | refine eo_none ?_ | refine eo_nil ?_ | refine eo_yes rfl ?_ | refine eo_no rfl ?_ | refine eo_und rfl ?_ | refine eo_yesH rfl (by assumption) ?_ | refine eo_noH rfl (by assumption) ?_)
      | (refine g_dops ?_; first | refine ed_none ?_ | refine ed_nil ?_ | refine ed_yes rfl ?_ | refine ed_no rfl ?_ | refine ed_und rfl ?_ | refine ed_yesH rfl (by assumption) ?_ | refine ed_noH rfl (by assumption) ?_)
      | refine ed_same rfl ?_ | refine ed_one rfl rfl rfl rfl ?_ | refine ed_two rfl rfl rfl rfl rfl rfl rfl ?_ | refine ed_write rfl rfl ?_
      | (refine g_code ?_; first | refine ec_seq ?_ | refine ec_region ?_ | refine ec_draw ?_ | refine ec_ret ?_)
      | refine ek_seqN ?_ | refine ek_seqR ?_)
    refine sfin (.inr rfl) (by rfl) (by rfl) (by exact ⟨rfl, rfl, rfl⟩) (by rfl) (by rfl) (by exact congrArg V.bool (by simp [isFn, h1])) (by first | rfl | (simp; done) | (simp [ints, prs]; done))
-- spec.l01Is
def m7 : MC := (.seq (.region [⟨(.box (.t 0)), (some 1), none⟩, ⟨(.mov (.k (.bool false))), (some 2), none⟩] false) (.seq (.region [⟨(.fieldAddr 0 (.t 1)), (some 3), none⟩, ⟨(.load none (.t 3)), (some 4), none⟩, ⟨(.callw 8 [(.t 4), (.k (.int .i64 0)), (.k (.int .i64 4))]), (some 5), none⟩, ⟨(.mov (.t 5)), (some 6), none⟩, ⟨(.fieldAddr 1 (.t 1)), (some 7), (some (6, true))⟩, ⟨(.load none (.t 7)), (some 8), (some (6, true))⟩, ⟨(.fieldAddr 0 (.t 1)), (some 9), (some (6, true))⟩, ⟨(.load none (.t 9)), (some 10), (some (6, true))⟩, ⟨(.call 13 [(.t 10)]), (some 11), (some (6, true))⟩, ⟨(.callw 8 [(.t 8), (.k (.int .i64 0)), (.t 11)]), (some 12), (some (6, true))⟩, ⟨(.pick (.t 6) (.t 12) (.k (.bool false))), (some 13), none⟩, ⟨(.mov (.t 13)), (some 2), none⟩] true) .ret))
theorem has7 : Has cx 7 14 m7 [(.tmp 2)] :=
  ⟨⟨Try.f7, Try.f7.body.getD .skip, by kernel_rfl, by kernel_rfl, by kernel_rfl, by kernel_rfl, by kernel_rfl, by kernel_rfl⟩⟩
theorem ev7 (p t : Int) : Ev cx 7 [.agg [.int .i64 p, .int .i64 t]] [] (.bool (isFn p t)) [] := by
  by_cases h1 : 0 ≤ p ∧ p ≤ 4
  · have h2 : decide (0 ≤ p ∧ p ≤ 4) = true := decide_eq_true h1
    obtain ⟨n, rfl⟩ := Int.eq_ofNat_of_zero_le (show 0 ≤ p by omega)
    have h3 : n ≤ 4 := by omega
    obtain ⟨h4, h5, h6, h7⟩ := shN h3
    refine has7.eev rfl rfl ?_
    unfold m7
    repeat' (first
      | (refine g_op ?_; first
        | refine ep_mov rfl ?_ | refine ep_load1 rfl rfl rfl rfl ?_ | refine ep_fieldAddr rfl ?_
        | refine ep_call0 rfl (by first | exact ev8 _ _ _ | exact ev13 _ h3) rfl rfl ?_
        | refine sp_call rfl rfl rfl rfl (by first | exact ev8 _ _ _ | exact ev13 _ h3) ⟨rfl, rfl, rfl, rfl⟩ rfl rfl rfl ?_
        | refine ep_callw0 rfl (by first | exact ev8 _ _ _ | exact ev13 _ h3) rfl rfl ?_
        | refine sp_callw rfl rfl rfl rfl (by first | exact ev8 _ _ _ | exact ev13 _ h3) ⟨rfl, rfl, rfl, rfl⟩ rfl rfl rfl (by first | exact WrP_refl _ _ | (repeat' (first | exact rfl | exact True.intro | refine And.intro ?_ ?_))) ?_
        | refine ep_pickT rfl rfl ?_ | refine ep_pickF rfl rfl ?_ | refine ep_pickTH rfl (by assumption) rfl ?_ | refine ep_pickFH rfl (by assumption) rfl ?_ | refine sp_box rfl rfl rfl rfl rfl ?_)
      | (refine g_ops ?_; first | refine eo_none ?_ | refine eo_nil ?_ | refine eo_yes rfl ?_ | refine eo_no rfl ?_ | refine eo_und rfl ?_ | refine eo_yesH rfl (by assumption) ?_ | refine eo_noH rfl (by assumption) ?_)
      | (refine g_dops ?_; first | refine ed_none ?_ | refine ed_nil ?_ | refine ed_yes rfl ?_ | refine ed_no rfl ?_ | refine ed_und rfl ?_ | refine ed_yesH rfl (by assumption) ?_ | refine ed_noH rfl (by assumption) ?_)
      | refine ed_same rfl ?_ | refine ed_one rfl rfl rfl rfl ?_ | refine ed_two rfl rfl rfl rfl rfl rfl rfl ?_ | refine ed_write rfl rfl ?_
      | (refine g_code ?_; first | refine ec_seq ?_ | refine ec_region ?_ | refine ec_draw ?_ | refine ec_ret ?_)
      | refine ek_seqN ?_ | refine ek_seqR ?_)
    refine sfin (.inr rfl) (by rfl) (by rfl) (by exact ⟨rfl, rfl, rfl⟩) (by rfl) (by rfl) (by exact congrArg V.bool (by simp [isFn, h1])) (by first | rfl | (simp; done) | (simp [ints, prs]; done))
  · have h2 : decide (0 ≤ p ∧ p ≤ 4) = false := decide_eq_false h1
    refine has7.eev rfl rfl ?_
    unfold m7
    repeat' (first
      | (refine g_op ?_; first
        | refine ep_mov rfl ?_ | refine ep_load1 rfl rfl rfl rfl ?_ | refine ep_fieldAddr rfl ?_
        | refine ep_call0 rfl (by first | exact ev8 _ _ _) rfl rfl ?_
        | refine sp_call rfl rfl rfl rfl (by first | exact ev8 _ _ _) ⟨rfl, rfl, rfl, rfl⟩ rfl rfl rfl ?_
        | refine ep_callw0 rfl (by first | exact ev8 _ _ _) rfl rfl ?_
        | refine sp_callw rfl rfl rfl rfl (by first | exact ev8 _ _ _) ⟨rfl, rfl, rfl, rfl⟩ rfl rfl rfl (by first | exact WrP_refl _ _ | (repeat' (first | exact rfl | exact True.intro | refine And.intro ?_ ?_))) ?_
        | refine ep_pickT rfl rfl ?_ | refine ep_pickF rfl rfl ?_ | refine ep_pickTH rfl (by assumption) rfl ?_ | refine ep_pickFH rfl (by assumption) rfl ?_ | refine sp_box rfl rfl rfl rfl rfl ?_)
      | (refine g_ops ?_; first | refine eo_none ?_ | refine eo_nil ?_ | refine eo_yes rfl ?_ | refine eo_no rfl ?_ | refine eo_und rfl ?_ | refine eo_yesH rfl (by assumption) ?_ | refine eo_noH rfl (by assumption) ?_)
      | (refine g_dops ?_; first | refine ed_none ?_ | refine ed_nil ?_ | refine ed_yes rfl ?_ | refine ed_no rfl ?_ | refine ed_und rfl ?_ | refine ed_yesH rfl (by assumption) ?_ | refine ed_noH rfl (by assumption) ?_)
      | refine ed_same rfl ?_ | refine ed_one rfl rfl rfl rfl ?_ | refine ed_two rfl rfl rfl rfl rfl rfl rfl ?_ | refine ed_write rfl rfl ?_
      | (refine g_code ?_; first | refine ec_seq ?_ | refine ec_region ?_ | refine ec_draw ?_ | refine ec_ret ?_)
      | refine ek_seqN ?_ | refine ek_seqR ?_)
    refine sfin (.inr rfl) (by rfl) (by rfl) (by exact ⟨rfl, rfl, rfl⟩) (by rfl) (by rfl) (by exact congrArg V.bool (by simp [isFn, h1])) (by first | rfl | (simp; done) | (simp [ints, prs]; done))
-- laws.toFunc
def m5 : MC := (.seq (.region [⟨(.box (.t 0)), (some 1), none⟩, ⟨(.alloc [(.int .i64 0), (.int .i64 0)]), (some 2), none⟩] false) (.seq (.region [⟨(.alloc [(.int .i64 0), (.int .i64 0)]), (some 3), none⟩] false) (.seq (.region [⟨(.fieldAddr 0 (.t 1)), (some 4), none⟩, ⟨(.load none (.t 4)), (some 5), none⟩, ⟨(.fieldAddr 0 (.t 3)), (some 6), none⟩, ⟨(.store 1 (.t 6) (.t 5)), none, none⟩] false) (.seq (.region [⟨(.fieldAddr 1 (.t 1)), (some 7), none⟩, ⟨(.load none (.t 7)), (some 8), none⟩, ⟨(.fieldAddr 1 (.t 3)), (some 9), none⟩, ⟨(.store 1 (.t 9) (.t 8)), none, none⟩] false) (.seq (.region [⟨(.load (some 2) (.t 3)), (some 10), none⟩, ⟨(.store 2 (.t 2) (.t 10)), none, none⟩] false) .ret)))))
theorem has5 : Has cx 5 11 m5 [(.cell 2 (some 2))] :=
  ⟨⟨Try.f5, Try.f5.body.getD .skip, by kernel_rfl, by kernel_rfl, by kernel_rfl, by kernel_rfl, by kernel_rfl, by kernel_rfl⟩⟩
theorem ev5 (a b : Int) : Ev cx 5 [.agg [.int .i64 a, .int .i64 b]] [] (.agg [.int .i64 a, .int .i64 b]) [] := by
  refine has5.eev rfl rfl ?_
  unfold m5
  repeat' (first
    | (refine g_op ?_; first
      | refine ep_load1 rfl rfl rfl rfl ?_ | refine ep_fieldAddr rfl ?_ | refine sp_loadN rfl rfl rfl rfl rfl ?_
      | refine sp_store rfl rfl rfl rfl rfl rfl rfl rfl rfl rfl ?_ | refine sp_box rfl rfl rfl rfl rfl ?_ | refine sp_alloc rfl rfl ?_)
    | (refine g_ops ?_; first | refine eo_none ?_ | refine eo_nil ?_)
    | (refine g_code ?_; first | refine ec_seq ?_ | refine ec_region ?_ | refine ec_ret ?_)
    | refine ek_seqN ?_ | refine ek_seqR ?_)
  refine sfin (.inr rfl) (by rfl) (by rfl) (by exact ⟨rfl, rfl, rfl⟩) (by rfl) (by rfl) (by rfl) (by first | rfl | (simp; done) | (simp [ints, prs]; done))
-- spec.l01At
def m15 : MC := (.seq (.region [⟨(.box (.t 0)), (some 2), none⟩, ⟨(.mov (.k (.int .i64 0))), (some 4), none⟩] false) (.seq (.region [⟨(.fieldAddr 1 (.t 2)), (some 5), none⟩, ⟨(.load none (.t 5)), (some 6), none⟩, ⟨(.mov (.t 1)), (some 7), none⟩, ⟨(.conv .u64 (.t 7)), (some 8), none⟩, ⟨(.bin .shr (.t 6) (.t 8)), (some 9), none⟩, ⟨(.bin .and (.t 9) (.k (.int .i64 1))), (some 10), none⟩, ⟨(.mov (.t 10)), (some 4), none⟩] false) .ret))
theorem has15 : Has cx 15 11 m15 [(.tmp 4)] :=
  ⟨⟨Try.f15, Try.f15.body.getD .skip, by kernel_rfl, by kernel_rfl, by kernel_rfl, by kernel_rfl, by kernel_rfl, by kernel_rfl⟩⟩
theorem ev15 (n : Int) (b r : Nat) (hb : b < 9223372036854775808) (hr : r ≤ 64) : Ev cx 15 [.agg [.int .i64 n, .int .i64 b], .int .i64 r] [] (.int .i64 (bt b r : Nat)) [] := by
  refine has15.eev rfl rfl ?_
  unfold m15
  repeat' (first
    | (refine g_op ?_; first
      | refine ep_mov rfl ?_ | refine ep_load1 rfl rfl rfl rfl ?_ | refine ep_fieldAddr rfl ?_
      | refine ep_bin rfl rfl (by first | exact b_shr hr | exact b_bt hb | exact b_and (by omega) (by omega) | exact b_shr (by omega)) ?_ | refine ep_conv rfl (by first | exact w_u64 (by omega) (by omega) | exact wrap_id (by omega) (by omega) | rfl) ?_
      | refine sp_box rfl rfl rfl rfl rfl ?_)
    | (refine g_ops ?_; first | refine eo_none ?_ | refine eo_nil ?_)
    | (refine g_code ?_; first | refine ec_seq ?_ | refine ec_region ?_ | refine ec_ret ?_)
    | refine ek_seqN ?_ | refine ek_seqR ?_)
  refine sfin (.inr rfl) (by rfl) (by rfl) (by exact ⟨rfl, rfl, rfl⟩) (by rfl) (by rfl) (by rfl) (by first | rfl | (simp; done) | (simp [ints, prs]; done))
def ints (l : List Nat) : List V := l.map fun (x : Nat) => .int .i64 (x : Int)
def zints (l : List Int) : List V := l.map fun x => .int .i64 x
def prs (n : Nat) (l : List Nat) : List V := l.flatMap fun (b : Nat) => [.int .i64 n, .int .i64 b]
theorem ints_len (l : List Nat) : (ints l).length = l.length * 1 := by simp [ints]
theorem zints_len (l : List Int) : (zints l).length = l.length * 1 := by simp [zints]
theorem prs_len (n : Nat) : ∀ (l : List Nat), (prs n l).length = l.length * 2
  | [] => rfl
  | x :: xs => by have := prs_len n xs; simp [prs] at this ⊢; omega
def selm (p : Nat → Bool) (g : Nat → Nat) (n : Nat) : List Nat := ((List.range n).filter p).map g
theorem selm_t {p : Nat → Bool} {g : Nat → Nat} {i : Nat} (h : p i = true) : selm p g (i + 1) = selm p g i ++ [g i] := by
  simp [selm, List.range_succ, List.filter_append, h]
theorem selm_f {p : Nat → Bool} {g : Nat → Nat} {i : Nat} (h : p i = false) : selm p g (i + 1) = selm p g i := by
  simp [selm, List.range_succ, List.filter_append, h]
theorem selm_len (p : Nat → Bool) (g : Nat → Nat) : ∀ n, (selm p g n).length ≤ n
  | 0 => by simp [selm]
  | n + 1 => by
    have := selm_len p g n
    cases h : p n with
    | true => rw [selm_t h]; simp; omega
    | false => rw [selm_f h]; omega
abbrev idn : Nat → Nat := fun i => i
/-- A set of numbers as bits. -/
theorem ieq (x y : Nat) : (((x : Nat) : Int) == ((y : Nat) : Int)) = (x == y) := by rw [Bool.eq_iff_iff]; simp only [beq_iff_eq]; omega
theorem ine (x y : Nat) : (((x : Nat) : Int) != ((y : Nat) : Int)) = (x != y) := by rw [bne, bne, ieq]
theorem ints_get {l : List Nat} {j : Nat} (h : j < l.length) : (ints l)[0 + j * 1]? = some (.int .i64 (l.getD j 0 : Nat)) := by
  simp [ints, h]
theorem zints_get {l : List Int} {j : Nat} (h : j < l.length) : (zints l)[0 + j * 1]? = some (.int .i64 (l.getD j 0)) := by
  simp [zints, h]
theorem prs_get {n : Nat} : ∀ {l : List Nat} {j : Nat} (_ : j < l.length), [V.int .i64 (n : Nat), V.int .i64 (l.getD j 0 : Nat)].length = 2 ∧ (0 + j * 2) + 2 ≤ (prs n l).length ∧ ((prs n l).drop (0 + j * 2)).take 2 = [V.int .i64 (n : Nat), V.int .i64 (l.getD j 0 : Nat)]
  | [], j, h => by simp at h
  | x :: xs, 0, h => by simp [prs]
  | x :: xs, j + 1, h => by
    obtain ⟨_, h2, h3⟩ := prs_get (n := n) (l := xs) (j := j) (by simpa using h)
    have e : (0 + (j + 1) * 2) = (0 + j * 2) + 2 := by omega
    rw [e]
    have e2 : prs n (x :: xs) = .int .i64 (n : Nat) :: .int .i64 (x : Nat) :: prs n xs := by simp [prs]
    rw [e2]
    refine ⟨rfl, by simp; omega, ?_⟩
    rw [List.drop_succ_cons, List.drop_succ_cons, h3]; simp
def fns (l : List (Int × Int)) : List V := l.flatMap fun (f : Int × Int) => [.int .i64 f.1, .int .i64 f.2]
theorem fns_get : ∀ {l : List (Int × Int)} {j : Nat} (_ : j < l.length), [V.int .i64 (l.getD j (0, 0)).1, V.int .i64 (l.getD j (0, 0)).2].length = 2 ∧ (0 + j * 2) + 2 ≤ (fns l).length ∧ ((fns l).drop (0 + j * 2)).take 2 = [V.int .i64 (l.getD j (0, 0)).1, V.int .i64 (l.getD j (0, 0)).2]
  | [], j, h => by simp at h
  | x :: xs, 0, h => by simp [fns]
  | x :: xs, j + 1, h => by
    obtain ⟨_, h2, h3⟩ := fns_get (l := xs) (j := j) (by simpa using h)
    have e : (0 + (j + 1) * 2) = (0 + j * 2) + 2 := by omega
    rw [e]
    have e2 : fns (x :: xs) = .int .i64 x.1 :: .int .i64 x.2 :: fns xs := by simp [fns]
    rw [e2]
    refine ⟨rfl, by simp; omega, ?_⟩
    rw [List.drop_succ_cons, List.drop_succ_cons, h3]; simp
def firstF (p : Nat → Bool) : Nat → Nat → Option Nat
  | _, 0 => none
  | i, j + 1 => if p i = true then firstF p (i + 1) j else some i
theorem firstF_none {p : Nat → Bool} : ∀ {j i : Nat}, (∀ x, i ≤ x → x < i + j → p x = true) → firstF p i j = none
  | 0, _, _ => rfl
  | j + 1, i, h => by
    rw [firstF, if_pos (h i (Nat.le_refl _) (by omega))]
    exact firstF_none fun x h1 h2 => h x (by omega) (by omega)
theorem firstF_some {p : Nat → Bool} : ∀ {j i x : Nat}, i ≤ x → x < i + j → p x = false → (∀ y, i ≤ y → y < x → p y = true) → firstF p i j = some x
  | 0, i, x, h1, h2, _, _ => by omega
  | j + 1, i, x, h1, h2, h3, h4 => by
    rw [firstF]
    by_cases e : i = x
    · subst e; rw [h3]; rfl
    · rw [if_pos (h4 i (Nat.le_refl _) (by omega))]
      exact firstF_some (by omega) (by omega) h3 fun y g1 g2 => h4 y (by omega) g2
theorem fget {o j : Nat} {l : List Int} (h : j < l.length) : (List.replicate o V.any ++ nums .i64 l)[o + j * 1]? = some (.int .i64 (l.getD j 0)) := by
  rw [List.getElem?_append_right (by simp)]
  simp [nums, h]
def ML (full : Nat) (A : List Nat) : Nat → List Nat
  | 0 => [full]
  | k + 1 => (ML full A k).flatMap fun a => A.map fun x => a &&& x
def apS : Nat → List Nat → Nat → Bool
  | 0, _, m => m != 0
  | _ + 1, [], _ => true
  | k + 1, x :: xs, m => apS k xs (m &&& x) && apS (k + 1) xs m
theorem ML_mem {full : Nat} {A : List Nat} : ∀ {k v : Nat}, v ∈ ML full A k ↔ ∃ t : List Nat, t.length = k ∧ (∀ x ∈ t, x ∈ A) ∧ t.foldl (· &&& ·) full = v
  | 0, v => by
    constructor
    · intro h
      exact ⟨[], rfl, by simp, by simp [ML] at h; simp [h]⟩
    · rintro ⟨t, h1, _, h3⟩
      obtain rfl := List.eq_nil_of_length_eq_zero h1
      simp at h3; simp [ML, h3]
  | k + 1, v => by
    simp only [ML, List.mem_flatMap, List.mem_map]
    constructor
    · rintro ⟨a, ha, x, hx, rfl⟩
      obtain ⟨t, h1, h2, h3⟩ := ML_mem.mp ha
      refine ⟨t ++ [x], by simp [h1], fun y hy => ?_, by simp [h3]⟩
      rcases List.mem_append.mp hy with h | h
      · exact h2 y h
      · simp at h; subst h; exact hx
    · rintro ⟨t, h1, h2, h3⟩
      have hne : t ≠ [] := fun h => by rw [h] at h1; simp at h1
      refine ⟨(t.dropLast).foldl (· &&& ·) full, ML_mem.mpr ⟨t.dropLast, by simp [h1], fun x hx => h2 x (List.dropLast_subset t hx), rfl⟩, t.getLast hne, h2 _ (List.getLast_mem hne), ?_⟩
      rw [← h3]
      conv => rhs; rw [← List.dropLast_concat_getLast hne]
      simp
theorem apS_false : ∀ {k : Nat} {l : List Nat} {m : Nat}, apS k l m = false ↔ ∃ t : List Nat, t.Sublist l ∧ t.length = k ∧ t.foldl (· &&& ·) m = 0
  | 0, l, m => by
    constructor
    · intro h
      exact ⟨[], List.nil_sublist _, rfl, by simpa [apS] using h⟩
    · rintro ⟨t, _, h2, h3⟩
      obtain rfl := List.eq_nil_of_length_eq_zero h2
      simp at h3; simp [apS, h3]
  | k + 1, [], m => by
    simp only [apS, Bool.true_eq_false, false_iff]
    rintro ⟨t, h1, h2, _⟩
    have := List.sublist_nil.mp h1
    subst this; simp at h2
  | k + 1, x :: xs, m => by
    simp only [apS, Bool.and_eq_false_iff]
    constructor
    · rintro (h | h)
      · obtain ⟨t, h1, h2, h3⟩ := apS_false.mp h
        exact ⟨x :: t, h1.cons_cons x, by simp [h2], by simpa using h3⟩
      · obtain ⟨t, h1, h2, h3⟩ := apS_false.mp h
        exact ⟨t, h1.cons x, h2, h3⟩
    · rintro ⟨t, h1, h2, h3⟩
      cases h1 with
      | cons _ h => exact .inr (apS_false.mpr ⟨t, h, h2, h3⟩)
      | cons_cons _ h =>
        rename_i t'
        exact .inl (apS_false.mpr ⟨t', h, by simpa using h2, by simpa using h3⟩)
def grd : Nat → List Nat → List Nat
  | _, [] => []
  | m, x :: xs => if m &&& x = m then grd m xs else x :: grd (m &&& x) xs
theorem grd_sub : ∀ (m : Nat) (l : List Nat), (grd m l).Sublist l
  | _, [] => List.Sublist.refl _
  | m, x :: xs => by
    unfold grd; split
    · exact (grd_sub m xs).cons x
    · exact (grd_sub _ xs).cons_cons x
theorem grd_fold : ∀ (m : Nat) (l : List Nat), (grd m l).foldl (· &&& ·) m = l.foldl (· &&& ·) m
  | _, [] => rfl
  | m, x :: xs => by
    unfold grd; split
    · rename_i h; rw [grd_fold m xs, List.foldl_cons, h]
    · rw [List.foldl_cons, List.foldl_cons, grd_fold]
def pc4 (m : Nat) : Nat := m % 2 + m / 2 % 2 + m / 4 % 2 + m / 8 % 2
theorem pc4_all : ∀ m, m < 16 → ∀ x, x < 16 → (m &&& x < 16 ∧ (m &&& x = m ∨ pc4 (m &&& x) < pc4 m)) := by decide
theorem pc4_max : ∀ m, m < 16 → pc4 m ≤ 4 := by decide
theorem grd_len : ∀ (m : Nat) (l : List Nat), m < 16 → (∀ x ∈ l, x < 16) → (grd m l).length ≤ pc4 m
  | _, [], _, _ => by simp [grd]
  | m, x :: xs, hm, hl => by
    have hx := pc4_all m hm x (hl x (by simp))
    unfold grd; split
    · exact grd_len m xs hm fun y hy => hl y (by simp [hy])
    · rename_i h
      have h2 := grd_len (m &&& x) xs hx.1 fun y hy => hl y (by simp [hy])
      have h3 : pc4 (m &&& x) < pc4 m := by rcases hx.2 with h4 | h4; exact absurd h4 h; exact h4
      simp only [List.length_cons]; omega
theorem fold_le : ∀ (t : List Nat) (m v : Nat), v &&& m = v → (∀ x ∈ t, v &&& x = v) → v &&& t.foldl (· &&& ·) m = v
  | [], m, v, h, _ => h
  | x :: xs, m, v, h, hx => by
    rw [List.foldl_cons]
    exact fold_le xs (m &&& x) v (by rw [← Nat.and_assoc, h, hx x (by simp)]) fun y hy => hx y (by simp [hy])
theorem fold_sub : ∀ (t : List Nat) (m v : Nat), v &&& m = v → v = t.foldl (· &&& ·) m → (v &&& m = v ∧ ∀ x ∈ t, v &&& x = v)
  | [], m, v, h, _ => ⟨h, by simp⟩
  | x :: xs, m, v, h, e => by
    have key : ∀ (t : List Nat) (m : Nat), t.foldl (· &&& ·) m &&& m = t.foldl (· &&& ·) m := by
      intro t
      induction t with
      | nil => intro m; simp
      | cons y ys ih =>
        intro m
        have h1 := ih (m &&& y)
        rw [List.foldl_cons]
        generalize ys.foldl (· &&& ·) (m &&& y) = z at *
        rw [← h1, Nat.and_assoc, Nat.and_assoc, Nat.and_comm y m, ← Nat.and_assoc m m y, Nat.and_self]
    refine ⟨h, fun y hy => ?_⟩
    rw [List.foldl_cons] at e
    have h2 := key xs (m &&& x)
    rw [← e] at h2
    rcases List.mem_cons.mp hy with rfl | hy
    · rw [← h2, Nat.and_assoc, Nat.and_assoc, Nat.and_self]
    · exact (fold_sub xs (m &&& x) v h2 e).2 y hy
theorem filt_len : ∀ (A t : List Nat), A.Nodup → (A.filter fun x => t.contains x).length ≤ t.length
  | [], t, _ => by simp
  | x :: xs, t, h => by
    obtain ⟨h1, h2⟩ := List.nodup_cons.mp h
    by_cases hx : x ∈ t
    · have e : (xs.filter fun y => t.contains y) = xs.filter fun y => (t.erase x).contains y := by
        refine List.filter_congr fun y hy => ?_
        have hne : y ≠ x := fun e => h1 (e ▸ hy)
        simp only [List.contains_eq_mem, decide_eq_decide]
        exact (List.mem_erase_of_ne hne).symm
      have h3 := filt_len xs (t.erase x) h2
      rw [List.filter_cons, if_pos (by simpa using hx), List.length_cons, e]
      rw [List.length_erase_of_mem hx] at h3
      have := List.length_pos_of_mem hx
      omega
    · rw [List.filter_cons, if_neg (by simpa using hx)]
      exact filt_len xs t h2
/-- What rows with repeats make, so many different rows make. -/
theorem key_dg {full k : Nat} {A : List Nat} (hf : full < 16) (hA : ∀ x ∈ A, x < 16) (hn : A.Nodup) (hk : 1 ≤ k) (h : 0 ∈ ML full A k) : ∃ k', 1 ≤ k' ∧ k' ≤ k ∧ k' ≤ 4 ∧ k' ≤ A.length ∧ apS k' A full = false := by
  obtain ⟨t, h1, h2, h3⟩ := ML_mem.mp h
  have hT : (A.filter fun x => t.contains x).foldl (· &&& ·) full = 0 := by
    generalize hv : (A.filter fun x => t.contains x).foldl (· &&& ·) full = v
    have key : v &&& full = v := by
      have : ∀ (t : List Nat) (m : Nat), t.foldl (· &&& ·) m &&& m = t.foldl (· &&& ·) m := by
        intro t
        induction t with
        | nil => intro m; simp
        | cons y ys ih =>
          intro m
          have h1 := ih (m &&& y)
          rw [List.foldl_cons]
          generalize ys.foldl (· &&& ·) (m &&& y) = z at *
          rw [← h1, Nat.and_assoc, Nat.and_assoc, Nat.and_comm y m, ← Nat.and_assoc m m y, Nat.and_self]
      rw [← hv]; exact this _ _
    obtain ⟨_, g2⟩ := fold_sub _ full v key hv.symm
    have := fold_le t full v key fun x hx => g2 x (List.mem_filter.mpr ⟨h2 x hx, by simpa using hx⟩)
    rw [h3] at this; simpa using this.symm
  have hl := filt_len A t hn
  have hs : (A.filter fun x => t.contains x).Sublist A := List.filter_sublist
  generalize (A.filter fun x => t.contains x) = T at *
  have hT16 : ∀ x ∈ T, x < 16 := fun x hx => hA x (hs.subset hx)
  have g1 := grd_sub full T
  have g2 := grd_fold full T
  have g3 := grd_len full T hf hT16
  have g4 := pc4_max full hf
  have g5 := g1.length_le
  have g6 := hs.length_le
  by_cases h0 : full = 0
  · have hAne : 1 ≤ A.length := by
      cases t with
      | nil => simp at h1; omega
      | cons x xs => exact List.length_pos_of_mem (h2 x (by simp))
    cases A with
    | nil => simp at hAne
    | cons x xs =>
      exact ⟨1, Nat.le_refl _, hk, by omega, hAne, apS_false.mpr ⟨[x], by simp, rfl, by simp [h0]⟩⟩
  · refine ⟨(grd full T).length, ?_, by omega, by omega, by omega, apS_false.mpr ⟨grd full T, g1.trans hs, rfl, by rw [g2, hT]⟩⟩
    cases hg : grd full T with
    | nil => rw [hg] at g2; simp at g2; rw [hT] at g2; exact absurd g2 h0
    | cons x xs => simp
theorem ap_ML {full k : Nat} {A : List Nat} (h : apS k A full = false) : 0 ∈ ML full A k := by
  obtain ⟨t, h1, h2, h3⟩ := apS_false.mp h
  exact ML_mem.mpr ⟨t, h2, fun x hx => h1.subset hx, h3⟩
/-- The first place from k on, of j, where p is; 9 if there is none. -/
def fst9 (p : Nat → Bool) : Nat → Nat → Nat
  | _, 0 => 9
  | k, j + 1 => if p k = true then k else fst9 p (k + 1) j
theorem fst9_no {p : Nat → Bool} : ∀ (j k : Nat), (∀ x, k ≤ x → x < k + j → p x = false) → fst9 p k j = 9
  | 0, k, _ => rfl
  | j + 1, k, h => by
    rw [fst9, h k (Nat.le_refl _) (by omega)]
    simp only [Bool.false_eq_true, if_false]
    exact fst9_no j (k + 1) fun x h1 h2 => h x (by omega) (by omega)
theorem fst9_at {p : Nat → Bool} {y : Nat} : ∀ (j k : Nat), k ≤ y → y < k + j → p y = true → (∀ x, k ≤ x → x < y → p x = false) → fst9 p k j = y
  | 0, k, h1, h2, _, _ => by omega
  | j + 1, k, h1, h2, h3, h4 => by
    rw [fst9]
    by_cases e : k = y
    · subst e; rw [if_pos h3]
    · rw [h4 k (Nat.le_refl _) (by omega)]
      simp only [Bool.false_eq_true, if_false]
      exact fst9_at j (k + 1) (by omega) (by omega) h3 fun x g1 g2 => h4 x (by omega) g2
theorem least_of {q : Nat → Bool} {k : Nat} (h : q k = true) : ∃ y, y ≤ k ∧ q y = true ∧ ∀ x, x < y → q x = false := by
  induction k using Nat.strongRecOn with
  | ind k ih =>
    by_cases hx : ∃ x, x < k ∧ q x = true
    · obtain ⟨x, h1, h2⟩ := hx
      obtain ⟨y, g1, g2, g3⟩ := ih x h1 h2
      exact ⟨y, by omega, g2, g3⟩
    · refine ⟨k, Nat.le_refl _, h, fun x hlt => ?_⟩
      cases hq : q x
      · rfl
      · exact absurd ⟨x, hlt, hq⟩ hx
theorem dg_eq {full : Nat} {A : List Nat} (hf : full < 16) (hA : ∀ x ∈ A, x < 16) (hn : A.Nodup) :
    fst9 (fun k => (ML full A (k + 1)).contains 0) 0 9 = fst9 (fun k => !apS (k + 1) A full) 0 (min A.length 4) := by
  by_cases hq : ∃ k, k < min A.length 4 ∧ (!apS (k + 1) A full) = true
  · obtain ⟨k, h1, h2⟩ := hq
    obtain ⟨y, g1, g2, g3⟩ := least_of (q := fun k => !apS (k + 1) A full) h2
    rw [fst9_at (p := fun k => !apS (k + 1) A full) (y := y) _ 0 (Nat.zero_le _) (by omega) g2 fun x _ hx => g3 x hx]
    refine fst9_at _ 0 (Nat.zero_le _) (by omega) ?_ fun x _ hx => ?_
    · simp only [List.contains_eq_mem, decide_eq_true_eq]
      exact ap_ML (by simpa using g2)
    · by_cases h0 : 0 ∈ ML full A (x + 1)
      · obtain ⟨k', e1, e2, e3, e4, e5⟩ := key_dg hf hA hn (by omega) h0
        have := g3 (k' - 1) (by omega)
        rw [show k' - 1 + 1 = k' by omega, e5] at this
        simp at this
      · simpa using h0
  · rw [fst9_no (p := fun k => !apS (k + 1) A full) _ 0 fun x _ hx => by
      cases h : (!apS (x + 1) A full)
      · rfl
      · exact absurd ⟨x, by omega, h⟩ hq]
    refine fst9_no _ 0 fun x _ hx => ?_
    by_cases h0 : 0 ∈ ML full A (x + 1)
    · obtain ⟨k', e1, e2, e3, e4, e5⟩ := key_dg hf hA hn (by omega) h0
      exact absurd ⟨k' - 1, by omega, by rw [show k' - 1 + 1 = k' by omega, e5]; rfl⟩ hq
    · simpa using h0

theorem inv00 {ρ : Nat → Nat} (W : World) : Inv ρ (Rcall mp0 [] W) mp0 (fun i => i < ([] : Heap).length) [] W :=
  ⟨fun i b hi => absurd hi (by simp), fun i hi => absurd hi (by simp), fun i j bi bj hi => absurd hi (by simp), fun i b p hi => absurd hi (by simp), fun i b hi => absurd hi (by simp), fun i b hi => absurd hi (by simp), fun r hr o => .inl hr,
    fun i b hi => absurd hi (by simp), fun i b hi => absurd hi (by simp)⟩
/-- A function of numbers alone, in the kit's words. -/
theorem Ev.grown {C : Cx} {f : Nat} {args : List V} {vs : List Value} {x : Int} (h : Ev C f args [] (.int .i64 x) []) (hv : VRL C.ρ mp0 args vs) (hid : V.idsL args = []) (W : World) :
    Calls C.P (C.ρ f) vs.toArray W fun e w' => e = .returned (.int .i64 x) ∧ W.grownBy w' none := by
  refine (h.2 mp0 W vs (inv00 W) hv (by rw [hid]; simp)).mono fun e w' he => ?_
  obtain ⟨u, m', rfl, hq⟩ := he
  have hu := hq.rel
  simp only [VR] at hu
  subst hu
  refine ⟨rfl, hq.keep.os, hq.keep.tape, hq.keep.output, hq.keep.size, fun k hk _ => same_eq (hq.keep.blk k hk) fun o ho => ?_⟩
  rcases ho with ho | ⟨i, b, p, hb, _⟩
  · omega
  · simp at hb
/-- .. and back. -/
theorem Ev.ofCalls {C : Cx} {f : Nat} {args : List V} {vs : List Value} {x : Int} (hf : ∃ fn, C.P.funcs[C.ρ f]? = some fn ∧ (fn.name == "runtime.NumGoroutine") = false ∧ fn.body.isNone = false)
    (hv : ∀ (m : Mp) (us : List Value), VRL C.ρ m args us → us = vs) (h : ∀ W : World, Calls C.P (C.ρ f) vs.toArray W fun e w' => e = .returned (.int .i64 x) ∧ RowKit.Below W.heap.size W w') : Ev C f args [] (.int .i64 x) [] := by
  refine ⟨hf, fun m W us hI hr hi => ?_⟩
  obtain rfl := hv m us hr
  refine (h W).mono fun e w' he => ?_
  obtain ⟨rfl, hb⟩ := he
  refine ⟨_, m, rfl, ?_, by simp [V.ids], ?_, ?_, fun i _ => ⟨rfl, rfl, rfl⟩, Nat.le_refl _, fun i b _ hb => absurd hb (by simp), fun i b b' hb => absurd hb (by simp)⟩
  · simp only [VR]
  · exact ⟨fun i b hi => absurd hi (by simp), fun i hi => absurd hi (by simp), fun i j bi bj hi => absurd hi (by simp), fun i b p hi => absurd hi (by simp), fun i b hi => absurd hi (by simp), fun i b hi => absurd hi (by simp), fun r hr o => .inl (Nat.le_trans hb.size hr),
      fun i b hi => absurd hi (by simp), fun i b hi => absurd hi (by simp)⟩
  · exact ⟨hb.os, hb.tape, hb.output, hb.size, fun r hr => .inl (hb.block r hr).symm⟩
theorem rows_any (n : Nat) (b : Int) (hn : n ≤ 4) (W : World) : Calls Try.prog 19 #[.agg #[.int .i64 n, .int .i64 b]] W fun e w' => e = .returned (.int .i64 (R2 n : Nat)) ∧ W.grownBy w' none :=
  Ev.grown (vs := [.agg #[.int .i64 n, .int .i64 b]]) (ev19 n b hn) (by simp only [VR, VRL]; exact ⟨_, _, rfl, ⟨#[.int .i64 n, .int .i64 b], rfl, _, _, rfl, rfl, _, _, rfl, rfl, rfl⟩, rfl⟩) (by simp [V.idsL, V.ids]) W
theorem at_any (n : Int) (b r : Nat) (hb : b < 9223372036854775808) (hr : r ≤ 64) (W : World) : Calls Try.prog 20 #[.agg #[.int .i64 n, .int .i64 b], .int .i64 r] W fun e w' => e = .returned (.int .i64 (bt b r : Nat)) ∧ W.grownBy w' none :=
  Ev.grown (vs := [.agg #[.int .i64 n, .int .i64 b], .int .i64 r]) (ev20 n b r hb hr) (by simp only [VR, VRL]; exact ⟨_, _, rfl, ⟨#[.int .i64 n, .int .i64 b], rfl, _, _, rfl, rfl, _, _, rfl, rfl, rfl⟩, _, _, rfl, rfl, rfl⟩) (by simp [V.idsL, V.ids]) W
section
open Go.RowKit Go.Maps
def trueElem : Value → Option (DataW Unit × List MemPlace)
  | .bool true => some (.lit (.bool true), [])
  | _ => none
theorem trueElem_mk : trueElem (.bool true) = some (.lit (.bool true), []) := rfl
theorem trueElem_inv {v : Value} {z : DataW Unit × List MemPlace} (h : trueElem v = some z) : v = .bool true := by
  unfold trueElem at h; split at h
  · rfl
  · simp at h
theorem lawI : Keyed Try.prog 2 := int_keyed Try.underlying2
theorem zeroB (w : World) : (zeroValue 4).run Try.prog w = .ok (.bool false) w := by kernel_rfl
abbrev OwnS (w : World) (b n : Nat) (D : DataW Unit) : Prop := w.ownsMap Try.prog 2 trueElem b n D
/-- The keys of the map are the numbers of L. -/
theorem lookup_true {w : World} {b n : Nat} {D : DataW Unit} (h : OwnS w b n D) {key : Value} {kl : Lit} (hkey : keyOf Try.prog 2 key = some kl) : (Instr.lookup 36 (.map (some b)) key false).run Try.prog w = .ok (.bool (Maps.has D kl)) w := by
  obtain ⟨es, clock, hb, F, _, rfl⟩ := h
  rcases Maps.fit_look false lawI Try.underlying36 (zeroB w) hb F hkey with ⟨hrun, _, hat⟩ | ⟨e0, y, _, _, hrun, hRv, hat, _⟩
  · rw [Maps.has_false_of_atKey hat]; exact hrun
  · rw [Maps.has_true_of_atKey hat]
    rw [trueElem_inv hRv] at hrun; exact hrun
section
variable {P : Program} (w : World) {ops : Array Oper} {rest : List Oper} {o : Oper} {a : Act} {Q : Exit → Act → World → Prop}
theorem wpl_look (hg : o.guard = none) (m x : Operand) (hop : o.op = Op.lookup 36 m x false) (b n : Nat) (D : DataW Unit) (hm : a.eval m = .map (some b)) (hown : OwnS w b n D) (key : Value) (kl : Lit) (hx : a.eval x = key) (hkey : keyOf Try.prog 2 key = some kl)
    (hK : wpList Try.prog ops Q rest (a.put o.dst (.bool (Maps.has D kl))) w) : wpList Try.prog ops Q (o :: rest) a w := by
  refine wpList_plain hg fun K' hK' => ?_
  have hrun := lookup_true hown hkey
  unfold Oper.wp
  simp [execOp, hop, hm, hx, hrun, Result.andThen]
  exact hK' _ _ hK
theorem wpl_next (hg : o.guard = none) (it : Operand) (hop : o.op = Op.next it false) (b r n : Nat) (D : DataW Unit) (left : Lit → Bool) (cnt : Nat)
    (hit : a.eval it = .pointer (some ⟨r, 0, none⟩)) (h : w.ranges Try.prog 2 trueElem b r n D left cnt)
    (hDone : cnt = 0 → (∀ kl, left kl = false) → wpList Try.prog ops Q rest (a.put o.dst (.tuple #[.bool false])) w)
    (hMore : ∀ (x : Int) (w' : World) (cnt' : Nat), (Lit.int .i64 x).wf = true → left (.int .i64 x) = true → Maps.has D (.int .i64 x) = true → w'.ranges Try.prog 2 trueElem b r n D (fun z => left z && !z.sameKey (.int .i64 x)) cnt' → cnt' < cnt →
      w.grownBy w' (some r) → w'.heap.size = w.heap.size → (Instr.entry (.pointer (some ⟨r, 0, none⟩))).run Try.prog w' = .ok (.tuple #[.int .i64 x, .bool true]) w' → wpList Try.prog ops Q rest (a.put o.dst (.tuple #[.bool true, .int .i64 x, .bool true])) w') :
    wpList Try.prog ops Q (o :: rest) a w :=
  wpList_next_ranges w hg it hop 2 lawI trueElem (Value.int .i64) (fun _ : Unit => Value.bool true) (fun key kl hkey => by obtain ⟨x, rfl, _⟩ := Maps.keyOf_int_inv Try.underlying2 hkey; exact ⟨x, rfl⟩) (fun v y hv => ⟨(), trueElem_inv hv⟩)
    b r n D left cnt hit h hDone (fun x c kl y w' cnt' hkey hlk hv hat hrg hlt hgr hsz hen => by
      obtain ⟨x', ex, rfl, hwx⟩ := Maps.keyOf_int_inv Try.underlying2 hkey
      cases ex
      exact hMore x w' cnt' hwx hlk (Maps.has_true_of_atKey hat) hrg hlt hgr hsz hen)
theorem wpl_insert (hg : o.guard = none) (m x v : Operand) (hop : o.op = Op.insert 36 m x v) (b n : Nat) (D : DataW Unit)
    (hm : a.eval m = .map (some b)) (hown : OwnS w b n D) (hn : n < maxLen) (key : Value) (kl : Lit) (hx : a.eval x = key) (hv : a.eval v = .bool true) (hkey : keyOf Try.prog 2 key = some kl)
    (hK : ∀ w', OwnS w' b (n + 1) (D.put kl (.lit (.bool true))) → w.grownBy w' (some b) → wpList Try.prog ops Q rest (a.put o.dst undef) w') :
    wpList Try.prog ops Q (o :: rest) a w := by
  refine wpList_plain hg fun K' hK' => ?_
  obtain ⟨w', hrun, r1, r2⟩ := hown.update lawI Try.underlying36 hn hkey trueElem_mk
  unfold Oper.wp
  simp [execOp, hop, hm, hx, hv, hrun, Result.andThen]
  exact hK' _ _ (hK w' r1 r2)
end
theorem own_fr {w w' : World} {b n : Nat} {D : DataW Unit} (h : OwnS w b n D) (hg : w.grownBy w' none) : OwnS w' b n D := h.kept hg (by simp)
theorem cell_fr {w w' : World} {a : Addr} {v : Value} {row : Option Nat} (h : w.cell? a = some v) (hg : w.grownBy w' row) (hr : some a.block ≠ row) : w'.cell? a = some v := by
  have hb : a.block < w.heap.size := by
    by_cases hl : a.block < w.heap.size
    · exact hl
    · simp only [World.cell?] at h
      rw [Array.getElem?_eq_none (by omega)] at h
      simp at h
  simp only [World.cell?] at h ⊢
  rw [hg.block _ hb hr]; exact h
theorem cell_two {w : World} {o : Obj} {cs : Array Value} {T : TypeId} {i : Nat} {v : Value} (ho : o = .cells cs T (0, 0)) (hv : cs[i]? = some v) : ((w.alloc o).alloc (.map #[] 0)).cell? ⟨w.heap.size, i, none⟩ = some v := by
  have hb : ((w.alloc o).alloc (.map #[] 0)).heap[w.heap.size]? = some o := by
    show ((w.heap.push o).push (.map #[] 0))[w.heap.size]? = some o
    rw [Array.getElem?_push, if_neg (by simp), Array.getElem?_push, if_pos rfl]
  show (match ((w.alloc o).alloc (.map #[] 0)).heap[w.heap.size]? with | some (.cells c _ _) => _ | _ => _) = _
  rw [hb, ho]
  exact hv
def argR (c n r : Nat) : Nat := if c = 0 then R2 n - 1 - r else r
def AL (b c n k : Nat) : List Nat := (selm (fun r => bt b r == c) idn k).map (argR c n)
theorem AL_s (b c n k : Nat) : AL b c n (k + 1) = if bt b k = c then AL b c n k ++ [argR c n k] else AL b c n k := by
  unfold AL
  by_cases h : bt b k = c
  · rw [if_pos h, selm_t (p := fun r => bt b r == c) (by simpa using h)]; simp
  · rw [if_neg h, selm_f (p := fun r => bt b r == c) (by simpa using h)]
def HasP (D : DataW Unit) (p : Int → Prop) : Prop := ∀ x : Int, Maps.has D (.int .i64 x) = true ↔ p x
theorem HasP.iff {D : DataW Unit} {p q : Int → Prop} (h : HasP D p) (e : ∀ x, p x ↔ q x) : HasP D q := fun x => (h x).trans (e x)
theorem HasP.put {D : DataW Unit} {p : Int → Prop} (h : HasP D p) (hD : IsMap D) (k : Int) (d : DataW Unit) : HasP (D.put (.int .i64 k) d) (fun x => x = k ∨ p x) := by
  intro x
  by_cases e : x = k
  · subst e
    rw [has_put_same hD (by trivial) d]; simp
  · rw [has_put_other (by intro h; apply e; injection h) d, h x]
    simp [e]
theorem HasP.nil : HasP (.map []) (fun _ => False) := fun x => by simp [Maps.has]
theorem size_0 {w : World} {b n : Nat} {D : DataW Unit} (h : OwnS w b n D) (hs : Maps.size D = 0) (kl : Lit) : Maps.has D kl = false := by
  obtain ⟨es, rfl, _, _⟩ := h.entries lawI
  have : es.length = 0 := hs
  obtain rfl := List.length_eq_zero_iff.mp this
  rfl
def PL (L : List Nat) : Int → Prop := fun x => ∃ y ∈ L, x = (y : Nat)
theorem PL_s (b c n k : Nat) (x : Int) : PL (AL b c n (k + 1)) x ↔ if bt b k = c then (x = (argR c n k : Nat) ∨ PL (AL b c n k) x) else PL (AL b c n k) x := by
  rw [AL_s]
  split
  · unfold PL
    constructor
    · rintro ⟨y, hy, rfl⟩
      rcases List.mem_append.mp hy with h | h
      · exact .inr ⟨y, h, rfl⟩
      · simp at h; subst h; exact .inl rfl
    · rintro (rfl | ⟨y, hy, rfl⟩)
      · exact ⟨_, List.mem_append.mpr (.inr (by simp)), rfl⟩
      · exact ⟨y, List.mem_append.mpr (.inl hy), rfl⟩
  · exact Iff.rfl
def dgI (b c n : Nat) : Nat := fst9 (fun k => (ML (R2 n - 1) (AL b c n (R2 n)) (k + 1)).contains 0) 0 9
theorem dgI_nil {b c n : Nat} {A : List Nat} (h : A = []) (e : A = AL b c n (R2 n) := by rfl) : dgI b c n = 9 := by
  unfold dgI
  rw [← e, h]
  exact fst9_no _ _ fun x _ _ => by simp [ML]
theorem pow16 {k : Nat} (h : k ≤ 9) : 16 ^ k ≤ 68719476736 := Nat.le_trans (Nat.pow_le_pow_right (by omega) h) (by decide)
theorem bits_and {x y : Nat} (h1 : x < 9223372036854775808) (h2 : y < 9223372036854775808) : bits .and .i64 (x : Nat) (y : Nat) = ((x &&& y : Nat) : Int) := by
  have : x &&& y < 9223372036854775808 := Nat.lt_of_le_of_lt Nat.and_le_left h1
  show IntKind.wrap .i64 ((BitVec.ofInt IntKind.i64.bits (x : Int) &&& BitVec.ofInt IntKind.i64.bits (y : Int)).toNat : Int) = _
  rw [andB (lt64 h1) (lt64 h2), wrapN this]
theorem AL_lt {b c n k y : Nat} (hn : n ≤ 4) (h : y ∈ AL b c n k) (hk : k ≤ R2 n := by omega) : y < 16 := by
  obtain ⟨h16, _, h3, _⟩ := shN hn
  unfold AL at h
  obtain ⟨r, hr, rfl⟩ := List.mem_map.mp h
  unfold selm at hr
  obtain ⟨r', hr', rfl⟩ := List.mem_map.mp hr
  have := List.mem_range.mp (List.mem_filter.mp hr').1
  unfold argR
  split
  · omega
  · show r' < 16; omega
theorem ML_le {full : Nat} {A : List Nat} : ∀ {k v : Nat}, v ∈ ML full A k → v ≤ full
  | 0, v, h => by simp [ML] at h; omega
  | k + 1, v, h => by
    simp only [ML, List.mem_flatMap, List.mem_map] at h
    obtain ⟨a, ha, x, _, rfl⟩ := h
    exact Nat.le_trans Nat.and_le_left (ML_le ha)
set_option maxHeartbeats 1000000 in
theorem degree_any (n b c : Nat) (hn : n ≤ 4) (hb : b < 65536) (hc : c ≤ 1) (w : World) :
    Calls Try.prog 12 #[.agg #[.int .i64 n, .int .i64 b], .int .i64 c] w fun e w' => e = .returned (.int .i64 (dgI b c n : Nat)) ∧ Below w.heap.size w w' := by
  have hmm := @run_makeMap Try.prog
  obtain ⟨h16, h2, h3, h4⟩ := shN hn
  go_enter Try.func12, Try.ntmps12
  go_wp2_with (first
    | (go_at_call 19; refine (rows_any n b hn _).mono ?_; rintro e w1 ⟨rfl, hg1⟩)
    | fail)
  have hx : w1.cell? ⟨w.heap.size, 0, none⟩ = some (.int .i64 n) ∧ w1.cell? ⟨w.heap.size, 1, none⟩ = some (.int .i64 b) ∧ OwnS w1 (w.heap.size + 1) 0 (.map []) ∧ Below w.heap.size w w1 ∧ w.heap.size + 2 ≤ w1.heap.size := by
    refine ⟨cell_fr ?_ hg1 (by simp), cell_fr ?_ hg1 (by simp), own_fr ?_ hg1, Below.grown ?_ hg1 (by simp; omega) (fun j hj => by cases hj), by have := hg1.size; simp at this; omega⟩
    · exact cell_two rfl rfl
    · exact cell_two rfl rfl
    · have := World.ownsMap_made (w.alloc (.cells #[.int .i64 n, .int .i64 b] 26 (0, 0))) Try.prog 2 trueElem
      simpa using this
    · exact ((Below.refl _ _).alloc (Nat.le_refl _) _).alloc (by simp) _
  obtain ⟨hx1, hx2, hx3, hx4, hx5⟩ := hx
  clear hg1
  go_loopw [16] (fun i wr => ∃ (k : Nat) (D : DataW Unit), i = .int .i64 k ∧ k ≤ R2 n ∧ OwnS wr (w.heap.size + 1) k D ∧ HasP D (PL (AL b c n k)) ∧ wr.cell? ⟨w.heap.size, 0, none⟩ = some (.int .i64 n) ∧ wr.cell? ⟨w.heap.size, 1, none⟩ = some (.int .i64 b) ∧ Below w.heap.size w wr ∧ w.heap.size + 2 ≤ wr.heap.size) (fun i _ => R2 n - (intOf i).toNat)
  case atStart => exact ⟨0, _, rfl, Nat.zero_le _, hx3, HasP.nil.iff fun x => by simp [PL, AL, selm], hx1, hx2, hx4, hx5⟩
  case round =>
    obtain ⟨k, D, rfl, hk, hown, hhas, hc1, hc2, hbel, hsz0⟩ := hrel
    have hbt := bt_le b k
    by_cases hlt : k < R2 n
    · by_cases hp : bt b k = c
      · rcases (show c = 0 ∨ c = 1 by omega) with rfl | rfl
        · go_wp2_with (first
            | (go_at_call 20; refine (at_any n b k (by omega) (by omega) _).mono ?_; rintro e w1 ⟨rfl, hg1⟩; have hown1 := own_fr hown hg1; have hd1 := cell_fr hc1 hg1 (by simp); have hd2 := cell_fr hc2 hg1 (by simp))
            | (go_at_call 19; refine (rows_any n b hn _).mono ?_; rintro e w2 ⟨rfl, hg2⟩; have hown2 := own_fr hown1 hg2)
            | (at_mapUpdate; refine wpList_mapUpdate_own _ rfl _ _ _ 36 rfl 2 4 lawI Try.underlying36 trueElem (w.heap.size + 1) _ _ rfl hown2 (by unfold maxLen; omega) _ _ _ rfl rfl (keyOf_int_mk Try.underlying2 (WalkArith.wf_i64 (by omega))) _ [] trueElem_mk ?_; intro w3 hown3 hg3; go_frame)
            | fail)
          refine ⟨?_, ?_⟩
          · refine ⟨_, _, _, _, _, _, _, _, _, _, _, _, _, _, _, _, _, _, _, _, _, ⟨k + 1, _, ?_, by omega, hown3, (hhas.put hown.isMap _ _).iff fun x => ?_, cell_fr (cell_fr hd1 hg2 (by simp)) hg3 (by simp), cell_fr (cell_fr hd2 hg2 (by simp)) hg3 (by simp), (((hbel.grown hg1 hbel.size (fun j hj => by cases hj)).grown hg2 (by have := hbel.size; have := hg1.size; omega) (fun j hj => by cases hj)).grown hg3 (by have := hbel.size; have := hg1.size; have := hg2.size; omega) (fun j hj => by cases hj; omega)), by have := hg1.size; have := hg2.size; have := hg3.size; omega⟩, rfl⟩
            · go_num
            · rw [PL_s, if_pos hp, show argR 0 n k = R2 n - 1 - k from rfl, show (((R2 n - 1 - k : Nat)) : Int) = (R2 n : Nat) - 1 - (k : Nat) by omega]
          · simp [intOf]; omega
        · go_wp2_with (first
            | (go_at_call 20; refine (at_any n b k (by omega) (by omega) _).mono ?_; rintro e w1 ⟨rfl, hg1⟩; have hown1 := own_fr hown hg1; have hd1 := cell_fr hc1 hg1 (by simp); have hd2 := cell_fr hc2 hg1 (by simp))
            | (at_mapUpdate; refine wpList_mapUpdate_own _ rfl _ _ _ 36 rfl 2 4 lawI Try.underlying36 trueElem (w.heap.size + 1) _ _ rfl hown1 (by unfold maxLen; omega) _ _ _ rfl rfl (keyOf_int_mk Try.underlying2 (WalkArith.wf_i64 (by omega))) _ [] trueElem_mk ?_; intro w3 hown3 hg3; go_frame)
            | fail)
          refine ⟨?_, ?_⟩
          · refine ⟨_, _, _, _, _, _, _, _, _, _, _, _, _, _, _, _, _, _, _, _, _, ⟨k + 1, _, ?_, by omega, hown3, (hhas.put hown.isMap _ _).iff fun x => ?_, cell_fr hd1 hg3 (by simp), cell_fr hd2 hg3 (by simp), ((hbel.grown hg1 hbel.size (fun j hj => by cases hj)).grown hg3 (by have := hbel.size; have := hg1.size; omega) (fun j hj => by cases hj; omega)), by have := hg1.size; have := hg3.size; omega⟩, rfl⟩
            · go_num
            · rw [PL_s, if_pos hp, show argR 1 n k = k from rfl]
          · simp [intOf]; omega
      · go_wp2_with (first
            | (go_at_call 20; refine (at_any n b k (by omega) (by omega) _).mono ?_; rintro e w1 ⟨rfl, hg1⟩; have hown1 := own_fr hown hg1; have hd1 := cell_fr hc1 hg1 (by simp); have hd2 := cell_fr hc2 hg1 (by simp))
            | fail)
        go_roundw
        case rel => exact ⟨k + 1, D, by go_num, by omega, hown1.mono (by omega), by rw [AL_s, if_neg hp]; exact hhas, hd1, hd2, hbel.grown hg1 hbel.size (fun j hj => by cases hj), by have := hg1.size; omega⟩
        case measure => simp [intOf]; omega
    · obtain rfl : k = R2 n := by omega
      by_cases hsz : Maps.size D = 0
      · have hszI : ((Maps.size D : Nat) : Int) = 0 := by omega
        go_wp2_with (first
          | (at_len; refine wpList_len_own _ rfl _ 36 rfl 2 4 Try.underlying36 trueElem (w.heap.size + 1) _ _ rfl hown ?_)
          | fail)
        go_ret
        refine ⟨?_, hbel⟩
        rw [dgI_nil (A := AL b c n (R2 n)) (List.eq_nil_iff_forall_not_mem.mpr fun y hy => ?_)]
        · rfl
        · have := (hhas (y : Nat)).mpr ⟨y, hy, rfl⟩
          rw [size_0 hown hsz] at this; simp at this
      · have hszI : ¬ (((Maps.size D : Nat) : Int) = 0) := by omega
        have hszB : (((Maps.size D : Nat) : Int) == 0) = false := by simpa using hszI
        have ha1 := cell_fr hc1 (World.grownBy_alloc wr (.map #[] 0) none) (by simp)
        have ha2 := cell_fr hc2 (World.grownBy_alloc wr (.map #[] 0) none) (by simp)
        have e1 : (wr.alloc (.map #[] 0)).heap.size = wr.heap.size + 1 := by simp
        have hm0 : OwnS (wr.alloc (.map #[] 0)) wr.heap.size 0 (.map []) := World.ownsMap_made _ _ _ _
        have hs0 : OwnS (wr.alloc (.map #[] 0)) (w.heap.size + 1) (R2 n) D := hown.alloc _
        have hb0 := hbel.alloc hbel.size (.map #[] 0)
        go_wp2_with (first
          | (at_len; refine wpList_len_own _ rfl _ 36 rfl 2 4 Try.underlying36 trueElem (w.heap.size + 1) _ _ rfl hown ?_)
          | (go_at_call 19; refine (rows_any n b hn _).mono ?_; rintro e w1 ⟨rfl, hg1⟩; have hm1 := own_fr hm0 hg1; have hs1 := own_fr hs0 hg1)
          | (refine wpl_insert _ rfl _ _ _ rfl wr.heap.size 0 _ rfl hm1 (by unfold maxLen; omega) _ _ rfl rfl (keyOf_int_mk Try.underlying2 (WalkArith.wf_i64 (by omega))) ?_; intro w2 hm2 hg2; go_frame)
          | fail)
        have hs2 : OwnS w2 (w.heap.size + 1) (R2 n) D := hs1.kept hg2 (by simp; omega)
        have hb2 : Below w.heap.size w w2 := (hb0.grown hg1 (by have := hbel.size; omega) (fun j hj => by cases hj)).grown hg2 (by have := hg1.size; have := hbel.size; omega) (fun j hj => by cases hj; exact hbel.size)
        have hz2 : w.heap.size + 2 ≤ w2.heap.size := by have := hg1.size; have := hg2.size; omega
        have hP0 : HasP ((DataW.map []).put (.int .i64 ((R2 n : Nat) - 1)) (.lit (.bool true))) (PL (ML (R2 n - 1) (AL b c n (R2 n)) 0)) := (HasP.nil.put hm0.isMap _ _).iff fun x => by simp [PL, ML]; omega
        clear hs1 hm1 hm0 hs0 hb0 hg1 hg2 ha1 ha2 e1
        go_loopw [8, 9] (fun v i wr => ∃ (k mb nM : Nat) (DM : DataW Unit), v = .map (some mb) ∧ i = .int .i64 k ∧ k ≤ 9 ∧ w.heap.size + 2 ≤ mb ∧ OwnS wr mb nM DM ∧ nM ≤ 16 ^ k ∧ HasP DM (PL (ML (R2 n - 1) (AL b c n (R2 n)) k)) ∧ OwnS wr (w.heap.size + 1) (R2 n) D ∧ Below w.heap.size w wr ∧ w.heap.size + 2 ≤ wr.heap.size ∧ ∀ j, j < k → (ML (R2 n - 1) (AL b c n (R2 n)) (j + 1)).contains 0 = false) (fun _ i _ => 9 - (intOf i).toNat)
        case atStart => exact ⟨0, _, _, _, rfl, rfl, by omega, hsz0, hm2, by simp, hP0, hs2, hb2, hz2, fun j hj => by omega⟩
        case round =>
          obtain ⟨k, mb, nM, DM, rfl, rfl, hk, hmb, hM, hnM, hPM, hS, hbl, hz, hno⟩ := hrel
          by_cases hk9 : k < 9
          · have e1 : (wr.alloc (.map #[] 0)).heap.size = wr.heap.size + 1 := by simp
            have hml := hM.lt
            have hp16 := pow16 hk
            go_wp2_with (first
              | (at_range; refine wpList_range_own _ rfl _ 36 rfl 2 4 lawI Try.underlying36 trueElem mb nM DM rfl (hM.alloc _) ?_; intro w0 hrg0 hg0 hs0)
              | fail)
            go_frame
            rw [e1] at hrg0 hs0 ⊢
            rw [show (decide ((k : Int) < 9)) = true from decide_eq_true (by omega)]
            have hN0 : OwnS w0 wr.heap.size 0 (.map []) := (World.ownsMap_made _ _ _ _).kept hg0 (by simp)
            have hS0 : OwnS w0 (w.heap.size + 1) (R2 n) D := (hS.alloc _).kept hg0 (by simp)
            have hb0 : Below w.heap.size w w0 := (hbl.alloc hbl.size _).grown hg0 (by have := hbl.size; omega) (fun j hj => by cases hj)
            obtain ⟨wo, rfl⟩ : ∃ wo : World, wo = wr := ⟨_, rfl⟩
            have hsl := hM.size_le
            go_loopw [11] (fun _ wq => ∃ (left : Lit → Bool) (cnt nN : Nat) (DN : DataW Unit), wq.ranges Try.prog 2 trueElem mb (wo.heap.size + 1) nM DM left cnt ∧ OwnS wq wo.heap.size nN DN ∧ nN + 16 * cnt ≤ 16 * nM ∧ HasP DN (fun x => ∃ a ∈ (ML (R2 n - 1) (AL b c n (R2 n)) k), left (.int .i64 (a : Nat)) = false ∧ ∃ y ∈ (AL b c n (R2 n)), x = ((a &&& y : Nat) : Int)) ∧ OwnS wq (w.heap.size + 1) (R2 n) D ∧ Below w.heap.size w wq ∧ wo.heap.size + 2 ≤ wq.heap.size) (fun _ wq => wq.rangeLeft mb (wo.heap.size + 1))
            case atStart =>
              refine ⟨_, _, 0, _, hrg0, hN0, by omega, HasP.nil.iff fun x => ?_, hS0, hb0, by omega⟩
              constructor
              · intro h; exact h.elim
              · rintro ⟨a, ha, hl, _⟩
                rw [(hPM (a : Nat)).mpr ⟨a, ha, rfl⟩] at hl; simp at hl
            case round =>
              obtain ⟨left, cnt, nN, DN, hrg, hN, hcn, hPN, hS2, hbq, hzq⟩ := hrel
              go_wp2_with (first
                | (at_next; refine wpl_next _ rfl _ rfl mb (wo.heap.size + 1) nM DM left cnt rfl hrg ?_ ?_)
                | fail)
              · intro hc0 hl0
                have hPN' : HasP DN (PL (ML (R2 n - 1) (AL b c n (R2 n)) (k + 1))) := hPN.iff fun x => by
                  simp only [PL, ML, List.mem_flatMap, List.mem_map]
                  constructor
                  · rintro ⟨a, ha, _, y, hy, rfl⟩
                    exact ⟨_, ⟨a, ha, y, hy, rfl⟩, rfl⟩
                  · rintro ⟨_, ⟨a, ha, y, hy, rfl⟩, rfl⟩
                    exact ⟨a, ha, hl0 _, y, hy, rfl⟩
                have hz0 : Maps.has DN (.int .i64 0) = (ML (R2 n - 1) (AL b c n (R2 n)) (k + 1)).contains 0 := by
                  rw [Bool.eq_iff_iff, hPN' 0]
                  simp only [PL, List.contains_eq_mem, decide_eq_true_eq]
                  constructor
                  · rintro ⟨y, hy, e⟩
                    obtain rfl : y = 0 := by omega
                    exact hy
                  · intro h; exact ⟨0, h, rfl⟩
                cases hzz : (ML (R2 n - 1) (AL b c n (R2 n)) (k + 1)).contains 0
                · rw [hzz] at hz0
                  go_wp2_with (first
                    | (refine wpl_look _ rfl _ _ rfl wo.heap.size nN DN rfl hN _ _ rfl (keyOf_int_mk Try.underlying2 (WalkArith.wf_i64 (by omega))) ?_; rw [hz0]; go_frame)
                    | fail)
                  refine ⟨⟨k + 1, wo.heap.size, nN, DN, rfl, ?_, by omega, by omega, hN, by rw [Nat.pow_succ]; omega, hPN', hS2, hbq, by omega, fun j hj => ?_⟩, ?_⟩
                  · go_num
                  · by_cases hjk : j = k
                    · subst hjk; exact hzz
                    · exact hno j (by omega)
                  · simp [intOf]; omega
                · rw [hzz] at hz0
                  go_wp2_with (first
                    | (refine wpl_look _ rfl _ _ rfl wo.heap.size nN DN rfl hN _ _ rfl (keyOf_int_mk Try.underlying2 (WalkArith.wf_i64 (by omega))) ?_; rw [hz0]; go_frame)
                    | fail)
                  go_ret
                  refine ⟨?_, hbq⟩
                  rw [show dgI b c n = k from fst9_at _ _ (Nat.zero_le _) (by omega) hzz fun x _ hx => hno x hx]
                  rfl
              · intro x w1 cnt1 hwx hlx hat hrg1 hlt1 hg1 hs1 hen
                obtain ⟨a, ha, rfl⟩ := (hPM x).mp hat
                have hrgl := hrg.left_eq
                have hn1 : w.heap.size + 2 ≤ w1.heap.size := by have := hbl.size; omega
                have hn2 : wo.heap.size + 2 ≤ w1.heap.size := by omega
                clear hs1
                have hN1 : OwnS w1 wo.heap.size nN DN := hN.kept hg1 (by simp)
                have hS1 : OwnS w1 (w.heap.size + 1) (R2 n) D := hS2.kept hg1 (by simp; omega)
                have hb1 : Below w.heap.size w w1 := hbq.grown hg1 (by have := hbl.size; omega) (fun j hj => by cases hj; have := hbl.size; omega)
                go_wp2_with (first
                  | (at_range; refine wpList_range_own _ rfl _ 36 rfl 2 4 lawI Try.underlying36 trueElem (w.heap.size + 1) (R2 n) D rfl hS1 ?_; intro w3 hrg3 hg3 hs3)
                  | fail)
                go_frame
                have hsz3 := hown.size_le
                have hN3 : OwnS w3 wo.heap.size nN DN := hN1.kept hg3 (by simp)
                have hrg13 := hrg1.kept hg3 (by simp) (by simp)
                have hb3 : Below w.heap.size w w3 := hb1.grown hg3 (by omega) (fun j hj => by cases hj)
                clear hN1 hS1 hb1 hrg hN hS2 hbq
                go_loopw [12] (fun _ wq => ∃ (left3 : Lit → Bool) (cnt3 nN3 : Nat) (DN3 : DataW Unit), wq.ranges Try.prog 2 trueElem (w.heap.size + 1) w1.heap.size (R2 n) D left3 cnt3 ∧ wq.ranges Try.prog 2 trueElem mb (wo.heap.size + 1) nM DM (fun z => left z && !z.sameKey (.int .i64 (a : Nat))) cnt1 ∧ OwnS wq wo.heap.size nN3 DN3 ∧ nN3 + cnt3 ≤ nN + 16 ∧ HasP DN3 (fun x => (∃ a ∈ (ML (R2 n - 1) (AL b c n (R2 n)) k), left (.int .i64 (a : Nat)) = false ∧ ∃ y ∈ (AL b c n (R2 n)), x = ((a &&& y : Nat) : Int)) ∨ ∃ y ∈ (AL b c n (R2 n)), left3 (.int .i64 (y : Nat)) = false ∧ x = ((a &&& y : Nat) : Int)) ∧ Below w.heap.size w wq ∧ w1.heap.size ≤ wq.heap.size) (fun _ wq => wq.rangeLeft (w.heap.size + 1) w1.heap.size)
                case atStart =>
                  refine ⟨_, _, nN, DN, hrg3, hrg13, hN3, by omega, hPN.iff fun x => ?_, hb3, by omega⟩
                  constructor
                  · intro h; exact .inl h
                  · rintro (h | ⟨y, hy, hl, _⟩)
                    · exact h
                    · rw [(hhas (y : Nat)).mpr ⟨y, hy, rfl⟩] at hl; simp at hl
                case round =>
                  obtain ⟨left3, cnt3, nN3, DN3, hrS, hrM, hN4, hcn4, hP4, hb4, hz4⟩ := hrel
                  go_wp2_with (first
                    | (at_next; refine wpl_next _ rfl _ rfl (w.heap.size + 1) w1.heap.size (R2 n) D left3 cnt3 rfl hrS ?_ ?_)
                    | fail)
                  · intro hc30 hl30
                    have hP6 : HasP DN3 (fun x => ∃ a' ∈ (ML (R2 n - 1) (AL b c n (R2 n)) k), (left (.int .i64 (a' : Nat)) && !(Lit.int .i64 (a' : Nat)).sameKey (.int .i64 (a : Nat))) = false ∧ ∃ y ∈ (AL b c n (R2 n)), x = ((a' &&& y : Nat) : Int)) := hP4.iff fun x => by
                      constructor
                      · rintro (⟨a', ha', hl', hy'⟩ | ⟨y, hy, _, e⟩)
                        · exact ⟨a', ha', by rw [hl']; rfl, hy'⟩
                        · exact ⟨a, ha, by rw [WideAt.sameKey_self (by trivial)]; simp, y, hy, e⟩
                      · rintro ⟨a', ha', hl', y, hy, e⟩
                        rcases Bool.and_eq_false_iff.mp hl' with h | h
                        · exact .inl ⟨a', ha', h, y, hy, e⟩
                        · by_cases haa : a' = a
                          · subst haa; exact .inr ⟨y, hy, hl30 _, e⟩
                          · rw [sameKey_ne (by intro h; injection h with _ h; omega)] at h; simp at h
                    go_wp2_with fail
                    refine ⟨⟨_, cnt1, nN3, DN3, hrM, hN4, by omega, hP6, hrS.owns, hb4, by omega⟩, ?_⟩
                    rw [hrM.left_eq, hrgl]; exact hlt1
                  · intro x4 w4 cnt4 hwx4 hlx4 hat4 hrg4 hlt4 hg4 hs4 hen4
                    obtain ⟨y, hy, rfl⟩ := (hhas x4).mp hat4
                    have hN5 : OwnS w4 wo.heap.size nN3 DN3 := hN4.kept hg4 (by simp; omega)
                    have hrM4 := hrM.kept hg4 (by simp; omega) (by simp; omega)
                    have hb5 : Below w.heap.size w w4 := hb4.grown hg4 (by omega) (fun j hj => by cases hj; omega)
                    have hay : a &&& y < 16 := Nat.lt_of_le_of_lt Nat.and_le_right (AL_lt hn hy)
                    have hbit := bits_and (x := a) (y := y) (by have := ML_le ha; omega) (by have := AL_lt hn hy; omega)
                    go_wp2_with (first
                      | (at_mapUpdate; refine wpList_mapUpdate_own _ rfl _ _ _ 36 rfl 2 4 lawI Try.underlying36 trueElem wo.heap.size nN3 DN3 rfl hN5 (by unfold maxLen; omega) _ _ _ rfl rfl (keyOf_int_mk Try.underlying2 (WalkArith.wf_i64 (by omega))) _ [] trueElem_mk ?_; intro w5 hN6 hg5; go_frame)
                      | fail)
                    have hrS5 := hrg4.kept hg5 (by simp; omega) (by simp; omega)
                    have hrM5 := hrM4.kept hg5 (by simp; omega) (by simp)
                    have hP5 : HasP (DN3.put (.int .i64 ((a &&& y : Nat) : Int)) (.lit (.bool true))) (fun x => (∃ a ∈ (ML (R2 n - 1) (AL b c n (R2 n)) k), left (.int .i64 (a : Nat)) = false ∧ ∃ y ∈ (AL b c n (R2 n)), x = ((a &&& y : Nat) : Int)) ∨ ∃ y' ∈ (AL b c n (R2 n)), (left3 (.int .i64 (y' : Nat)) && !(Lit.int .i64 (y' : Nat)).sameKey (.int .i64 (y : Nat))) = false ∧ x = ((a &&& y' : Nat) : Int)) := (hP4.put hN4.isMap _ _).iff fun x => by
                      constructor
                      · rintro (rfl | h | ⟨y', hy', hl', e⟩)
                        · exact .inr ⟨y, hy, by rw [WideAt.sameKey_self (by trivial)]; simp, rfl⟩
                        · exact .inl h
                        · exact .inr ⟨y', hy', by rw [hl']; rfl, e⟩
                      · rintro (h | ⟨y', hy', hl', e⟩)
                        · exact .inr (.inl h)
                        · rcases Bool.and_eq_false_iff.mp hl' with h | h
                          · exact .inr (.inr ⟨y', hy', h, e⟩)
                          · by_cases hyy : y' = y
                            · subst hyy; exact .inl e
                            · rw [sameKey_ne (by intro h; injection h with _ h; omega)] at h; simp at h
                    refine ⟨⟨_, cnt4, _, _, hrS5, hrM5, hN6, by omega, hP5, hb5.grown hg5 (by have := hg4.size; omega) (fun j hj => by cases hj; have := hbl.size; omega), by have := hg4.size; have := hg5.size; omega⟩, ?_⟩
                    rw [hrS5.left_eq, hrS.left_eq]; exact hlt4
          · obtain rfl : k = 9 := by omega
            go_wp2_with fail
            go_ret
            refine ⟨?_, hbl⟩
            rw [show dgI b c n = 9 from fst9_no _ _ fun x _ hx => hno x (by omega)]
            rfl
end
-- (impl.Func).degree
def m12_0 : MC := (.seq (.region [⟨(.bin .lss (.t 16) (.t 15)), (some 17), none⟩] false) (.seq (.cond (.t 17) .skip (.exit 0)) (.seq (.block 1 (.seq (.region [⟨(.mov (.t 16)), (some 18), none⟩, ⟨(.mov (.t 18)), (some 6), none⟩] false) (.seq (.region [⟨(.load (some 2) (.t 2)), (some 19), none⟩, ⟨(.mov (.t 6)), (some 20), none⟩, ⟨(.call 20 [(.t 19), (.t 20)]), (some 21), none⟩, ⟨(.mov (.t 1)), (some 22), none⟩, ⟨(.bin .eql (.t 21) (.t 22)), (some 23), none⟩] false) (.cond (.t 23) (.seq (.region [⟨(.mov (.t 6)), (some 24), none⟩, ⟨(.mov (.t 24)), (some 7), none⟩] false) (.seq (.seq (.region [⟨(.mov (.t 1)), (some 25), none⟩, ⟨(.bin .eql (.t 25) (.k (.int .i64 0))), (some 26), none⟩] false) (.cond (.t 26) (.region [⟨(.load (some 2) (.t 2)), (some 27), none⟩, ⟨(.call 19 [(.t 27)]), (some 28), none⟩, ⟨(.bin .sub (.t 28) (.k (.int .i64 1))), (some 29), none⟩, ⟨(.mov (.t 6)), (some 30), none⟩, ⟨(.bin .sub (.t 29) (.t 30)), (some 31), none⟩, ⟨(.mov (.t 31)), (some 7), none⟩] false) .skip)) (.region [⟨(.mov (.t 5)), (some 32), none⟩, ⟨(.mov (.t 7)), (some 33), none⟩, ⟨.bad, none, none⟩] false))) .skip)))) (.region [⟨(.bin .add (.t 16) (.k (.int .i64 1))), (some 34), none⟩, ⟨(.mov (.t 34)), (some 16), none⟩] false))))
def m12_3 : MC := (.seq (.region [⟨.bad, (some 56), none⟩, ⟨(.extract (.t 56) 0), (some 57), none⟩] false) (.seq (.cond (.t 57) .skip (.exit 6)) (.block 7 (.seq (.region [⟨.bad, (some 58), none⟩, ⟨(.extract (.t 58) 0), (some 59), none⟩, ⟨(.mov (.t 59)), (some 12), none⟩] false) (.region [⟨(.mov (.t 10)), (some 60), none⟩, ⟨(.mov (.t 11)), (some 61), none⟩, ⟨(.mov (.t 12)), (some 62), none⟩, ⟨(.bin .and (.t 61) (.t 62)), (some 63), none⟩, ⟨.bad, none, none⟩] false)))))
def m12_2 : MC := (.seq (.region [⟨.bad, (some 50), none⟩, ⟨(.extract (.t 50) 0), (some 51), none⟩] false) (.seq (.cond (.t 51) .skip (.exit 4)) (.block 5 (.seq (.region [⟨.bad, (some 52), none⟩, ⟨(.extract (.t 52) 0), (some 53), none⟩, ⟨(.mov (.t 53)), (some 11), none⟩] false) (.seq (.region [⟨(.mov (.t 5)), (some 54), none⟩, ⟨.bad, (some 55), none⟩] false) (.block 6 (.loop m12_3)))))))
def m12_1 : MC := (.seq (.seq (.region [⟨(.mov (.t 9)), (some 43), none⟩, ⟨(.bin .lss (.t 43) (.k (.int .i64 9))), (some 44), none⟩] false) (.cond (.t 44) .skip (.exit 2))) (.seq (.block 3 (.seq (.region [⟨.bad, (some 47), none⟩, ⟨(.mov (.t 47)), (some 10), none⟩] false) (.seq (.seq (.region [⟨(.mov (.t 8)), (some 48), none⟩, ⟨.bad, (some 49), none⟩] false) (.block 4 (.loop m12_2))) (.seq (.seq (.region [⟨(.mov (.t 10)), (some 64), none⟩, ⟨.bad, (some 65), none⟩] false) (.cond (.t 65) (.seq (.region [⟨(.mov (.t 9)), (some 66), none⟩, ⟨(.mov (.t 66)), (some 4), none⟩] false) .ret) .skip)) (.region [⟨(.mov (.t 10)), (some 67), none⟩, ⟨(.mov (.t 67)), (some 8), none⟩] false))))) (.region [⟨(.mov (.t 9)), (some 45), none⟩, ⟨(.bin .add (.t 45) (.k (.int .i64 1))), (some 46), none⟩, ⟨(.mov (.t 46)), (some 9), none⟩] false)))
def m12 : MC := (.seq (.region [⟨(.box (.t 0)), (some 2), none⟩, ⟨(.mov (.k (.int .i64 0))), (some 4), none⟩] false) (.seq (.region [⟨.bad, (some 13), none⟩, ⟨(.mov (.t 13)), (some 5), none⟩] false) (.seq (.seq (.region [⟨(.load (some 2) (.t 2)), (some 14), none⟩, ⟨(.call 19 [(.t 14)]), (some 15), none⟩, ⟨(.mov (.k (.int .i64 0))), (some 16), none⟩] false) (.block 0 (.loop m12_0))) (.seq (.seq (.region [⟨(.mov (.t 5)), (some 35), none⟩, ⟨.bad, (some 36), none⟩, ⟨(.bin .eql (.t 36) (.k (.int .i64 0))), (some 37), none⟩] false) (.cond (.t 37) (.seq (.region [⟨(.mov (.k (.int .i64 9))), (some 4), none⟩] false) .ret) .skip)) (.seq (.region [⟨.bad, (some 38), none⟩, ⟨(.load (some 2) (.t 2)), (some 39), none⟩, ⟨(.call 19 [(.t 39)]), (some 40), none⟩, ⟨(.bin .sub (.t 40) (.k (.int .i64 1))), (some 41), none⟩, ⟨.bad, none, none⟩, ⟨(.mov (.t 38)), (some 42), none⟩, ⟨(.mov (.t 42)), (some 8), none⟩] false) (.seq (.seq (.region [⟨(.mov (.k (.int .i64 0))), (some 9), none⟩] false) (.block 2 (.loop m12_1))) (.seq (.region [⟨(.mov (.k (.int .i64 9))), (some 4), none⟩] false) .ret)))))))
theorem has12 : Has cx 12 68 m12 [(.tmp 4)] :=
  ⟨⟨Try.f12, Try.f12.body.getD .skip, by kernel_rfl, by kernel_rfl, by kernel_rfl, by kernel_rfl, by kernel_rfl, by kernel_rfl⟩⟩
theorem ev12 (n b c : Nat) (hn : n ≤ 4) (hb : b < 65536) (hc : c ≤ 1) : Ev cx 12 [.agg [.int .i64 n, .int .i64 b], .int .i64 c] [] (.int .i64 (dgI b c n : Nat)) [] := by
  refine Ev.ofCalls (vs := [.agg #[.int .i64 n, .int .i64 b], .int .i64 c]) ⟨_, Try.func12, by kernel_rfl, by kernel_rfl⟩ ?_ (fun W => degree_any n b c hn hb hc W)
  intro m us h
  simp only [VR, VRL] at h
  obtain ⟨u, us', rfl, ⟨xs, rfl, u1, _, e1, rfl, u2, _, e2, rfl, e3⟩, u3, _, rfl, rfl, rfl⟩ := h
  obtain rfl : xs = #[.int .i64 n, .int .i64 b] := by rw [← Array.toArray_toList (xs := xs), e1, e2, e3]
  rfl

def sdR (p t z : Int) : Int × Int := if isFn p t = true then (if 0 ≤ z ∧ z ≤ 1 then ((dgI t.toNat z.toNat p.toNat : Nat), 0) else (0, 2)) else (0, 1)
theorem fst9_firstF (q : Nat → Bool) : ∀ (j i : Nat), (match firstF q i j with | none => 9 | some x => x) = fst9 (fun k => !q k) i j
  | 0, i => rfl
  | j + 1, i => by
    rw [firstF, fst9]
    cases h : q i
    · simp
    · simp only [if_true, Bool.not_true, Bool.false_eq_true, if_false]
      exact fst9_firstF q j (i + 1)
theorem apS_all (A : List Nat) (k m : Nat) : ∀ (j i : Nat), i + j = A.length → apS (k + 1) (A.drop i) m = allF (fun i => apS k (A.drop (i + 1)) (m &&& A.getD i 0)) i j
  | 0, i, h => by
    rw [List.drop_eq_nil_of_le (by omega)]; rfl
  | j + 1, i, h => by
    rw [List.drop_eq_getElem_cons (by omega), apS, apS_all A k m j (i + 1) (by omega)]
    rw [show A[i] = A.getD i 0 by rw [List.getD_eq_getElem?_getD, List.getElem?_eq_getElem (by omega)]; rfl]
    simp only [allF]
theorem allF_cg {p q : Nat → Bool} : ∀ (j i : Nat), (∀ x, i ≤ x → x < i + j → p x = q x) → allF p i j = allF q i j
  | 0, _, _ => rfl
  | j + 1, i, h => by
    rw [allF, allF, h i (Nat.le_refl _) (by omega), allF_cg j (i + 1) fun x h1 h2 => h x (by omega) (by omega)]
theorem AL_len (b c n k : Nat) : (AL b c n k).length = (selm (fun r => bt b r == c) idn k).length := by simp [AL]
theorem mapD {S : List Nat} {g : Nat → Nat} {i : Nat} (h : i < S.length) : (S.map g).getD i 0 = g (S.getD i 0) := by
  simp [List.getD_eq_getElem?_getD, h]
theorem selm_in {p : Nat → Bool} {n x : Nat} (h : x ∈ selm p idn n) : x < n := by
  simp [selm] at h; omega
theorem AL_nodup (b c n : Nat) (hc : c ≤ 1) : (AL b c n (R2 n)).Nodup := by
  unfold AL
  refine List.Pairwise.map _ (R := fun x y => x ≠ y ∧ x < R2 n ∧ y < R2 n) ?_ ?_
  · intro x y ⟨h1, h2, h3⟩
    unfold argR; split <;> omega
  · have h1 : (selm (fun r => bt b r == c) idn (R2 n)).Nodup := by
      unfold selm
      rw [show (List.filter (fun r => bt b r == c) (List.range (R2 n))).map idn = List.filter (fun r => bt b r == c) (List.range (R2 n)) from List.map_id _]
      exact List.Pairwise.filter _ List.nodup_range
    refine List.Pairwise.imp_of_mem ?_ h1
    intro x y hx hy h
    exact ⟨h, selm_in hx, selm_in hy⟩
theorem dgI_S {b c n : Nat} (hn : n ≤ 4) (hc : c ≤ 1) : (match firstF (fun i => apS (i + 1) ((selm (fun r => bt b r == c) idn (R2 n)).map (argR c n)) (R2 n - 1)) 0 (min (selm (fun r => bt b r == c) idn (R2 n)).length 4) with | none => 9 | some x => x) = dgI b c n := by
  obtain ⟨h1, h2, h3, h4⟩ := shN hn
  rw [fst9_firstF, dgI, dg_eq (by omega) (fun x hx => AL_lt hn hx) (AL_nodup b c n hc), AL_len]
  rfl
-- spec.l08Apart
def m16_0 : MC := (.seq (.seq (.region [⟨(.mov (.t 13)), (some 20), none⟩, ⟨(.mov (.t 0)), (some 21), none⟩, ⟨(.len (.t 21)), (some 22), none⟩, ⟨(.bin .lss (.t 20) (.t 22)), (some 23), none⟩] false) (.cond (.t 23) .skip (.exit 0))) (.seq (.block 1 (.seq (.region [⟨(.mov (.t 0)), (some 26), none⟩, ⟨(.mov (.t 13)), (some 27), none⟩, ⟨(.indexAddr 1 (.t 26) (.t 27)), (some 28), none⟩, ⟨(.load none (.t 28)), (some 29), none⟩, ⟨(.mov (.t 29)), (some 14), none⟩] false) (.seq (.seq (.region [⟨(.mov (.t 2)), (some 30), none⟩, ⟨(.bin .eql (.t 30) (.k (.int .i64 0))), (some 31), none⟩] false) (.cond (.t 31) (.region [⟨(.mov (.t 1)), (some 32), none⟩, ⟨(.call 14 [(.t 32)]), (some 33), none⟩, ⟨(.bin .sub (.t 33) (.k (.int .i64 1))), (some 34), none⟩, ⟨(.mov (.t 14)), (some 35), none⟩, ⟨(.bin .sub (.t 34) (.t 35)), (some 36), none⟩, ⟨(.mov (.t 36)), (some 14), none⟩] false) .skip)) (.seq (.region [⟨(.mov (.t 0)), (some 37), none⟩, ⟨(.mov (.t 1)), (some 38), none⟩, ⟨(.mov (.t 2)), (some 39), none⟩, ⟨(.mov (.t 3)), (some 40), none⟩, ⟨(.bin .sub (.t 40) (.k (.int .i64 1))), (some 41), none⟩, ⟨(.mov (.t 13)), (some 42), none⟩, ⟨(.bin .add (.t 42) (.k (.int .i64 1))), (some 43), none⟩, ⟨(.mov (.t 5)), (some 44), none⟩, ⟨(.mov (.t 14)), (some 45), none⟩, ⟨(.bin .and (.t 44) (.t 45)), (some 46), none⟩, ⟨(.call 16 [(.t 37), (.t 38), (.t 39), (.t 41), (.t 43), (.t 46)]), (some 47), none⟩, ⟨(.un .not (.t 47)), (some 48), none⟩] false) (.cond (.t 48) (.seq (.region [⟨(.mov (.k (.bool false))), (some 12), none⟩] false) .ret) .skip))))) (.region [⟨(.mov (.t 13)), (some 24), none⟩, ⟨(.bin .add (.t 24) (.k (.int .i64 1))), (some 25), none⟩, ⟨(.mov (.t 25)), (some 13), none⟩] false)))
def m16 : MC := (.seq (.region [⟨(.mov (.k (.bool false))), (some 12), none⟩] false) (.seq (.seq (.region [⟨(.mov (.t 3)), (some 15), none⟩, ⟨(.bin .eql (.t 15) (.k (.int .i64 0))), (some 16), none⟩] false) (.cond (.t 16) (.seq (.region [⟨(.mov (.t 5)), (some 17), none⟩, ⟨(.bin .neq (.t 17) (.k (.int .i64 0))), (some 18), none⟩, ⟨(.mov (.t 18)), (some 12), none⟩] false) .ret) .skip)) (.seq (.seq (.region [⟨(.mov (.t 4)), (some 19), none⟩, ⟨(.mov (.t 19)), (some 13), none⟩] false) (.block 0 (.loop m16_0))) (.seq (.region [⟨(.mov (.k (.bool true))), (some 12), none⟩] false) .ret))))
theorem has16 : Has cx 16 49 m16 [(.tmp 12)] :=
  ⟨⟨Try.f16, Try.f16.body.getD .skip, by kernel_rfl, by kernel_rfl, by kernel_rfl, by kernel_rfl, by kernel_rfl, by kernel_rfl⟩⟩
theorem lpap0 (n : Nat) (hn : n ≤ 4) (S : List Nat) (hS : ∀ j, j < S.length → S.getD j 0 < R2 n) (hl : S.length ≤ 16) (k m i0 : Nat) (hk : k ≤ 3) (hm : m < 16) (hi0 : i0 ≤ S.length) (ih : ∀ (i m : Nat), i ≤ S.length → m < 16 → Ev cx 16 [.sl 0 0 S.length, .int .i64 (n : Nat), .int .i64 (0 : Nat), .int .i64 (k : Nat), .int .i64 (i : Nat), .int .i64 (m : Nat)] [⟨ints S, 1, 0, some 0, false⟩] (.bool (apS (k) ((S.map (argR 0 n)).drop (i)) (m))) [⟨ints S, 1, 0, some 0, false⟩]) (o : Out) (ho : (if allF (fun i => apS k ((S.map (argR 0 n)).drop (i + 1)) (m &&& argR 0 n (S.getD i 0))) i0 (S.length - i0) = true then (⟨.exit 0, [], [⟨ints S, 1, 0, some 0, false⟩]⟩ : Out) else ⟨.ret, [(12, .bool false)], [⟨ints S, 1, 0, some 0, false⟩]⟩) = o) :
    LpS cx 49 1 m16_0 [(0, .sl 0 0 S.length), (1, .int .i64 (n : Nat)), (2, .int .i64 (0 : Nat)), (3, .int .i64 (k + 1 : Nat)), (5, .int .i64 (m : Nat)), (13, .int .i64 (i0 : Nat))] [⟨ints S, 1, 0, some 0, false⟩] o.x o.e o.h := by
  obtain ⟨h1, h2, h3, h4⟩ := shN hn
  refine lp_all (S.length) (fun i => apS k ((S.map (argR 0 n)).drop (i + 1)) (m &&& argR 0 n (S.getD i 0))) (fun i => [(0, .sl 0 0 S.length), (1, .int .i64 (n : Nat)), (2, .int .i64 (0 : Nat)), (3, .int .i64 (k + 1 : Nat)), (5, .int .i64 (m : Nat)), (13, .int .i64 (i : Nat))]) (fun i => [⟨ints S, 1, 0, some 0, false⟩]) _ _ ?_ ?_ ?_ (S.length - i0) i0 o (by omega) ho
  · intro i hi hp
    have hlt : decide ((i : Int) < (S.length : Nat)) = true := decide_eq_true (by omega)
    have hp' : (apS k ((S.map (argR 0 n)).drop (i + 1)) (m &&& argR 0 n (S.getD i 0))) = true := hp
    have hs := hS i hi
    have q0 : (((0 : Nat) : Int) == 0) = true := by decide
    have s0 : binV .sub (.int .i64 ((k + 1 : Nat) : Int)) (.int .i64 1) = some (.int .i64 (k : Nat)) := b_sub1 (a := k + 1) (by omega) (by omega)
    have s1 := b_sub1 (a := R2 n) (by omega) (by omega)
    have s2 := b_subN (a := R2 n - 1) (b := S.getD i 0) (by omega) (by omega)
    have hm2 : m &&& argR 0 n (S.getD i 0) < 16 := Nat.lt_of_le_of_lt Nat.and_le_left hm
    have e1 := ih (i + 1) (m &&& argR 0 n (S.getD i 0)) (by omega) hm2
    rw [hp'] at e1
    have s3 : binV .and (.int .i64 (m : Nat)) (.int .i64 (R2 n - 1 - S.getD i 0 : Nat)) = some (.int .i64 (m &&& argR 0 n (S.getD i 0) : Nat)) := b_and (x := m) (y := R2 n - 1 - S.getD i 0) (by omega) (by omega)
    unfold m16_0
    repeat' (first
      | (refine g_op ?_; first
        | refine ep_mov rfl ?_ | refine ep_load1 rfl rfl rfl rfl ?_
        | refine ep_call0 rfl (by first | exact e1 | exact ev14 _ hn) rfl rfl ?_
        | refine sp_call rfl rfl rfl rfl (by first | exact e1 | exact ev14 _ hn) ⟨rfl, rfl, rfl, rfl⟩ rfl rfl rfl ?_
        | refine ep_bin rfl rfl (by first | exact s0 | exact s1 | exact s2 | exact s3 | exact b_add (by omega) (by omega) | exact b_sub (by omega) (by omega) | exact b_and (by omega) (by omega) | exact b_lss | exact b_eql) ?_
        | refine ep_not rfl ?_ | refine ep_lenS rfl ?_ | refine ep_lenN rfl ?_ | refine ep_lenE rfl ?_ | refine sp_idx rfl rfl rfl (by omega) rfl ?_ | refine ep_loadS rfl rfl rfl (by first | exact ints_get (by omega) | exact zints_get (by omega) | exact fget (by omega) | assumption) ?_)
      | (refine g_ops ?_; first | refine eo_none ?_ | refine eo_nil ?_)
      | (refine g_code ?_; first | refine ec_seq ?_ | refine ec_region ?_ | refine ec_block ?_ | refine ec_skip ?_ | refine ec_exit ?_ | refine ec_ret ?_ | refine ec_condT rfl ?_ | refine ec_condF rfl ?_ | refine ec_condTH rfl (by assumption) ?_ | refine ec_condFH rfl (by assumption) ?_)
      | refine ek_seqN ?_ | refine ek_seqX ?_ | refine ek_seqR ?_ | refine ek_blkN ?_ | refine ek_blkR ?_ | refine ek_blkX ?_ | refine ek_blkY rfl ?_)
    exact rnd_on (by rfl) (scmp2 (by rfl) (by rfl) (by exact ⟨rfl, rfl, rfl⟩) (by rfl) (by first | rfl | (simp; done) | (simp [ints, prs]; done)) (by rfl) (by first | rfl | (simp; done) | (simp [ints, prs]; done)))
  · intro i hi hp
    have hlt : decide ((i : Int) < (S.length : Nat)) = true := decide_eq_true (by omega)
    have hp' : (apS k ((S.map (argR 0 n)).drop (i + 1)) (m &&& argR 0 n (S.getD i 0))) = false := hp
    have hs := hS i hi
    have q0 : (((0 : Nat) : Int) == 0) = true := by decide
    have s0 : binV .sub (.int .i64 ((k + 1 : Nat) : Int)) (.int .i64 1) = some (.int .i64 (k : Nat)) := b_sub1 (a := k + 1) (by omega) (by omega)
    have s1 := b_sub1 (a := R2 n) (by omega) (by omega)
    have s2 := b_subN (a := R2 n - 1) (b := S.getD i 0) (by omega) (by omega)
    have hm2 : m &&& argR 0 n (S.getD i 0) < 16 := Nat.lt_of_le_of_lt Nat.and_le_left hm
    have e1 := ih (i + 1) (m &&& argR 0 n (S.getD i 0)) (by omega) hm2
    rw [hp'] at e1
    have s3 : binV .and (.int .i64 (m : Nat)) (.int .i64 (R2 n - 1 - S.getD i 0 : Nat)) = some (.int .i64 (m &&& argR 0 n (S.getD i 0) : Nat)) := b_and (x := m) (y := R2 n - 1 - S.getD i 0) (by omega) (by omega)
    unfold m16_0
    repeat' (first
      | (refine g_op ?_; first
        | refine ep_mov rfl ?_ | refine ep_load1 rfl rfl rfl rfl ?_
        | refine ep_call0 rfl (by first | exact e1 | exact ev14 _ hn) rfl rfl ?_
        | refine sp_call rfl rfl rfl rfl (by first | exact e1 | exact ev14 _ hn) ⟨rfl, rfl, rfl, rfl⟩ rfl rfl rfl ?_
        | refine ep_bin rfl rfl (by first | exact s0 | exact s1 | exact s2 | exact s3 | exact b_add (by omega) (by omega) | exact b_sub (by omega) (by omega) | exact b_and (by omega) (by omega) | exact b_lss | exact b_eql) ?_
        | refine ep_not rfl ?_ | refine ep_lenS rfl ?_ | refine ep_lenN rfl ?_ | refine ep_lenE rfl ?_ | refine sp_idx rfl rfl rfl (by omega) rfl ?_ | refine ep_loadS rfl rfl rfl (by first | exact ints_get (by omega) | exact zints_get (by omega) | exact fget (by omega) | assumption) ?_)
      | (refine g_ops ?_; first | refine eo_none ?_ | refine eo_nil ?_)
      | (refine g_code ?_; first | refine ec_seq ?_ | refine ec_region ?_ | refine ec_block ?_ | refine ec_skip ?_ | refine ec_exit ?_ | refine ec_ret ?_ | refine ec_condT rfl ?_ | refine ec_condF rfl ?_ | refine ec_condTH rfl (by assumption) ?_ | refine ec_condFH rfl (by assumption) ?_)
      | refine ek_seqN ?_ | refine ek_seqX ?_ | refine ek_seqR ?_ | refine ek_blkN ?_ | refine ek_blkR ?_ | refine ek_blkX ?_ | refine ek_blkY rfl ?_)
    exact rnd_out (by rfl) (by simp) (scmp2 (by rfl) (by rfl) (by exact ⟨rfl, rfl, rfl⟩) (by rfl) (by first | rfl | (simp; done) | (simp [ints, prs]; done)) (by rfl) (by first | rfl | (simp; done) | (simp [ints, prs]; done)))
  · have hlt : decide (((S.length : Nat) : Int) < (S.length : Nat)) = false := decide_eq_false (by omega)
    unfold m16_0
    repeat' (first
      | (refine g_op ?_; first
        | refine ep_mov rfl ?_ | refine ep_load1 rfl rfl rfl rfl ?_
        | refine ep_bin rfl rfl (by first | exact b_add (by omega) (by omega) | exact b_sub (by omega) (by omega) | exact b_and (by omega) (by omega) | exact b_lss | exact b_eql) ?_ | refine ep_not rfl ?_
        | refine ep_lenS rfl ?_ | refine ep_lenN rfl ?_ | refine ep_lenE rfl ?_ | refine sp_idx rfl rfl rfl (by omega) rfl ?_ | refine ep_loadS rfl rfl rfl (by first | exact ints_get (by omega) | exact zints_get (by omega) | exact fget (by omega) | assumption) ?_)
      | (refine g_ops ?_; first | refine eo_none ?_ | refine eo_nil ?_)
      | (refine g_code ?_; first | refine ec_seq ?_ | refine ec_region ?_ | refine ec_block ?_ | refine ec_skip ?_ | refine ec_exit ?_ | refine ec_ret ?_ | refine ec_condT rfl ?_ | refine ec_condF rfl ?_ | refine ec_condTH rfl (by assumption) ?_ | refine ec_condFH rfl (by assumption) ?_)
      | refine ek_seqN ?_ | refine ek_seqX ?_ | refine ek_seqR ?_ | refine ek_blkN ?_ | refine ek_blkR ?_ | refine ek_blkX ?_ | refine ek_blkY rfl ?_)
    exact rnd_out (by rfl) (by simp) (scmp2 (by rfl) (by rfl) (by exact ⟨rfl, rfl, rfl⟩) (by rfl) (by first | rfl | (simp; done) | (simp [ints, prs]; done)) (by rfl) (by first | rfl | (simp; done) | (simp [ints, prs]; done)))

theorem evap0 (n : Nat) (hn : n ≤ 4) (S : List Nat) (hS : ∀ j, j < S.length → S.getD j 0 < R2 n) (hl : S.length ≤ 16) : ∀ (k i m : Nat), k ≤ 4 → i ≤ S.length → m < 16 → Ev cx 16 [.sl 0 0 S.length, .int .i64 (n : Nat), .int .i64 (0 : Nat), .int .i64 (k : Nat), .int .i64 (i : Nat), .int .i64 (m : Nat)] [⟨ints S, 1, 0, some 0, false⟩] (.bool (apS (k) ((S.map (argR 0 n)).drop (i)) (m))) [⟨ints S, 1, 0, some 0, false⟩]
  | 0, i, m, hk, hi, hm => by
    have q0 : (((0 : Nat) : Int) == 0) = true := by decide
    have hq : (((m : Nat) : Int) != 0) = (m != 0) := ine m 0
    rw [show apS 0 ((S.map (argR 0 n)).drop i) m = (m != 0) by rw [apS]]
    refine has16.eev rfl rfl ?_
    unfold m16
    repeat' (first
      | (refine g_op ?_; first
        | refine ep_mov rfl ?_
        | refine ep_bin rfl rfl (by first | exact b_eql | exact b_neq) ?_)
      | (refine g_ops ?_; first | refine eo_none ?_ | refine eo_nil ?_)
      | (refine g_code ?_; first | refine ec_seq ?_ | refine ec_region ?_ | refine ec_block ?_ | refine ec_skip ?_ | refine ec_ret ?_ | refine ec_condT rfl ?_ | refine ec_condF rfl ?_ | refine ec_condTH rfl (by assumption) ?_ | refine ec_condFH rfl (by assumption) ?_)
      | refine ek_seqN ?_ | refine ek_seqX ?_ | refine ek_seqR ?_ | refine ek_blkN ?_ | refine ek_blkR ?_ | refine ek_blkX ?_ | refine ek_blkY rfl ?_)
    refine sfin (.inr rfl) (by rfl) (by rfl) (by exact ⟨rfl, rfl, rfl⟩) (by rfl) (by rfl) (by first | rfl | exact congrArg V.bool hq) (by first | rfl | (simp; done) | (simp [ints, prs]; done))
  | k + 1, i, m, hk, hi, hm => by
    have q0 : ((((k + 1 : Nat) : Nat) : Int) == 0) = false := by
      simp only [beq_eq_false_iff_ne, ne_eq]; omega
    have ea : apS (k + 1) ((S.map (argR 0 n)).drop i) m = allF (fun i => apS k ((S.map (argR 0 n)).drop (i + 1)) (m &&& argR 0 n (S.getD i 0))) i (S.length - i) := by
      rw [apS_all _ _ _ (S.length - i) i (by simp; omega)]
      refine allF_cg _ _ fun x h1 h2 => ?_
      rw [mapD (by omega)]
    have ih := fun i m h1 h2 => evap0 n hn S hS hl k i m (by omega) h1 h2
    rw [ea]
    cases h : allF (fun i => apS k ((S.map (argR 0 n)).drop (i + 1)) (m &&& argR 0 n (S.getD i 0))) i (S.length - i)
    · have lp := lpap0 n hn S hS hl k m i (by omega) hm hi ih _ (if_neg (by rw [h]; simp))
      refine has16.eev rfl rfl ?_
      unfold m16
      repeat' (first
        | refine sc_loop lp rfl rfl ⟨rfl, rfl, rfl⟩ rfl rfl rfl ?_
        | (refine g_op ?_; first
          | refine ep_mov rfl ?_
          | refine ep_bin rfl rfl (by first | exact b_eql | exact b_neq) ?_)
        | (refine g_ops ?_; first | refine eo_none ?_ | refine eo_nil ?_)
        | (refine g_code ?_; first | refine ec_seq ?_ | refine ec_region ?_ | refine ec_block ?_ | refine ec_skip ?_ | refine ec_ret ?_ | refine ec_condT rfl ?_ | refine ec_condF rfl ?_ | refine ec_condTH rfl (by assumption) ?_ | refine ec_condFH rfl (by assumption) ?_)
        | refine ek_seqN ?_ | refine ek_seqX ?_ | refine ek_seqR ?_ | refine ek_blkN ?_ | refine ek_blkR ?_ | refine ek_blkX ?_ | refine ek_blkY rfl ?_)
      refine sfin (.inr rfl) (by rfl) (by rfl) (by exact ⟨rfl, rfl, rfl⟩) (by rfl) (by rfl) (by rfl) (by first | rfl | (simp; done) | (simp [ints, prs]; done))
    · have lp := lpap0 n hn S hS hl k m i (by omega) hm hi ih _ (if_pos h)
      refine has16.eev rfl rfl ?_
      unfold m16
      repeat' (first
        | refine sc_loop lp rfl rfl ⟨rfl, rfl, rfl⟩ rfl rfl rfl ?_
        | (refine g_op ?_; first
          | refine ep_mov rfl ?_
          | refine ep_bin rfl rfl (by first | exact b_eql | exact b_neq) ?_)
        | (refine g_ops ?_; first | refine eo_none ?_ | refine eo_nil ?_)
        | (refine g_code ?_; first | refine ec_seq ?_ | refine ec_region ?_ | refine ec_block ?_ | refine ec_skip ?_ | refine ec_ret ?_ | refine ec_condT rfl ?_ | refine ec_condF rfl ?_ | refine ec_condTH rfl (by assumption) ?_ | refine ec_condFH rfl (by assumption) ?_)
        | refine ek_seqN ?_ | refine ek_seqX ?_ | refine ek_seqR ?_ | refine ek_blkN ?_ | refine ek_blkR ?_ | refine ek_blkX ?_ | refine ek_blkY rfl ?_)
      refine sfin (.inr rfl) (by rfl) (by rfl) (by exact ⟨rfl, rfl, rfl⟩) (by rfl) (by rfl) (by rfl) (by first | rfl | (simp; done) | (simp [ints, prs]; done))

theorem lpap1 (n : Nat) (hn : n ≤ 4) (S : List Nat) (hS : ∀ j, j < S.length → S.getD j 0 < R2 n) (hl : S.length ≤ 16) (k m i0 : Nat) (hk : k ≤ 3) (hm : m < 16) (hi0 : i0 ≤ S.length) (ih : ∀ (i m : Nat), i ≤ S.length → m < 16 → Ev cx 16 [.sl 0 0 S.length, .int .i64 (n : Nat), .int .i64 (1 : Nat), .int .i64 (k : Nat), .int .i64 (i : Nat), .int .i64 (m : Nat)] [⟨ints S, 1, 0, some 0, false⟩] (.bool (apS (k) ((S.map (argR 1 n)).drop (i)) (m))) [⟨ints S, 1, 0, some 0, false⟩]) (o : Out) (ho : (if allF (fun i => apS k ((S.map (argR 1 n)).drop (i + 1)) (m &&& argR 1 n (S.getD i 0))) i0 (S.length - i0) = true then (⟨.exit 0, [], [⟨ints S, 1, 0, some 0, false⟩]⟩ : Out) else ⟨.ret, [(12, .bool false)], [⟨ints S, 1, 0, some 0, false⟩]⟩) = o) :
    LpS cx 49 1 m16_0 [(0, .sl 0 0 S.length), (1, .int .i64 (n : Nat)), (2, .int .i64 (1 : Nat)), (3, .int .i64 (k + 1 : Nat)), (5, .int .i64 (m : Nat)), (13, .int .i64 (i0 : Nat))] [⟨ints S, 1, 0, some 0, false⟩] o.x o.e o.h := by
  obtain ⟨h1, h2, h3, h4⟩ := shN hn
  refine lp_all (S.length) (fun i => apS k ((S.map (argR 1 n)).drop (i + 1)) (m &&& argR 1 n (S.getD i 0))) (fun i => [(0, .sl 0 0 S.length), (1, .int .i64 (n : Nat)), (2, .int .i64 (1 : Nat)), (3, .int .i64 (k + 1 : Nat)), (5, .int .i64 (m : Nat)), (13, .int .i64 (i : Nat))]) (fun i => [⟨ints S, 1, 0, some 0, false⟩]) _ _ ?_ ?_ ?_ (S.length - i0) i0 o (by omega) ho
  · intro i hi hp
    have hlt : decide ((i : Int) < (S.length : Nat)) = true := decide_eq_true (by omega)
    have hp' : (apS k ((S.map (argR 1 n)).drop (i + 1)) (m &&& argR 1 n (S.getD i 0))) = true := hp
    have hs := hS i hi
    have q0 : (((1 : Nat) : Int) == 0) = false := by decide
    have s0 : binV .sub (.int .i64 ((k + 1 : Nat) : Int)) (.int .i64 1) = some (.int .i64 (k : Nat)) := b_sub1 (a := k + 1) (by omega) (by omega)
    have s1 := b_sub1 (a := R2 n) (by omega) (by omega)
    have s2 := b_subN (a := R2 n - 1) (b := S.getD i 0) (by omega) (by omega)
    have hm2 : m &&& argR 1 n (S.getD i 0) < 16 := Nat.lt_of_le_of_lt Nat.and_le_left hm
    have e1 := ih (i + 1) (m &&& argR 1 n (S.getD i 0)) (by omega) hm2
    rw [hp'] at e1
    have s3 : binV .and (.int .i64 (m : Nat)) (.int .i64 (S.getD i 0 : Nat)) = some (.int .i64 (m &&& argR 1 n (S.getD i 0) : Nat)) := b_and (x := m) (y := S.getD i 0) (by omega) (by omega)
    unfold m16_0
    repeat' (first
      | (refine g_op ?_; first
        | refine ep_mov rfl ?_ | refine ep_load1 rfl rfl rfl rfl ?_
        | refine ep_call0 rfl (by first | exact e1 | exact ev14 _ hn) rfl rfl ?_
        | refine sp_call rfl rfl rfl rfl (by first | exact e1 | exact ev14 _ hn) ⟨rfl, rfl, rfl, rfl⟩ rfl rfl rfl ?_
        | refine ep_bin rfl rfl (by first | exact s0 | exact s1 | exact s2 | exact s3 | exact b_add (by omega) (by omega) | exact b_sub (by omega) (by omega) | exact b_and (by omega) (by omega) | exact b_lss | exact b_eql) ?_
        | refine ep_not rfl ?_ | refine ep_lenS rfl ?_ | refine ep_lenN rfl ?_ | refine ep_lenE rfl ?_ | refine sp_idx rfl rfl rfl (by omega) rfl ?_ | refine ep_loadS rfl rfl rfl (by first | exact ints_get (by omega) | exact zints_get (by omega) | exact fget (by omega) | assumption) ?_)
      | (refine g_ops ?_; first | refine eo_none ?_ | refine eo_nil ?_)
      | (refine g_code ?_; first | refine ec_seq ?_ | refine ec_region ?_ | refine ec_block ?_ | refine ec_skip ?_ | refine ec_exit ?_ | refine ec_ret ?_ | refine ec_condT rfl ?_ | refine ec_condF rfl ?_ | refine ec_condTH rfl (by assumption) ?_ | refine ec_condFH rfl (by assumption) ?_)
      | refine ek_seqN ?_ | refine ek_seqX ?_ | refine ek_seqR ?_ | refine ek_blkN ?_ | refine ek_blkR ?_ | refine ek_blkX ?_ | refine ek_blkY rfl ?_)
    exact rnd_on (by rfl) (scmp2 (by rfl) (by rfl) (by exact ⟨rfl, rfl, rfl⟩) (by rfl) (by first | rfl | (simp; done) | (simp [ints, prs]; done)) (by rfl) (by first | rfl | (simp; done) | (simp [ints, prs]; done)))
  · intro i hi hp
    have hlt : decide ((i : Int) < (S.length : Nat)) = true := decide_eq_true (by omega)
    have hp' : (apS k ((S.map (argR 1 n)).drop (i + 1)) (m &&& argR 1 n (S.getD i 0))) = false := hp
    have hs := hS i hi
    have q0 : (((1 : Nat) : Int) == 0) = false := by decide
    have s0 : binV .sub (.int .i64 ((k + 1 : Nat) : Int)) (.int .i64 1) = some (.int .i64 (k : Nat)) := b_sub1 (a := k + 1) (by omega) (by omega)
    have s1 := b_sub1 (a := R2 n) (by omega) (by omega)
    have s2 := b_subN (a := R2 n - 1) (b := S.getD i 0) (by omega) (by omega)
    have hm2 : m &&& argR 1 n (S.getD i 0) < 16 := Nat.lt_of_le_of_lt Nat.and_le_left hm
    have e1 := ih (i + 1) (m &&& argR 1 n (S.getD i 0)) (by omega) hm2
    rw [hp'] at e1
    have s3 : binV .and (.int .i64 (m : Nat)) (.int .i64 (S.getD i 0 : Nat)) = some (.int .i64 (m &&& argR 1 n (S.getD i 0) : Nat)) := b_and (x := m) (y := S.getD i 0) (by omega) (by omega)
    unfold m16_0
    repeat' (first
      | (refine g_op ?_; first
        | refine ep_mov rfl ?_ | refine ep_load1 rfl rfl rfl rfl ?_
        | refine ep_call0 rfl (by first | exact e1 | exact ev14 _ hn) rfl rfl ?_
        | refine sp_call rfl rfl rfl rfl (by first | exact e1 | exact ev14 _ hn) ⟨rfl, rfl, rfl, rfl⟩ rfl rfl rfl ?_
        | refine ep_bin rfl rfl (by first | exact s0 | exact s1 | exact s2 | exact s3 | exact b_add (by omega) (by omega) | exact b_sub (by omega) (by omega) | exact b_and (by omega) (by omega) | exact b_lss | exact b_eql) ?_
        | refine ep_not rfl ?_ | refine ep_lenS rfl ?_ | refine ep_lenN rfl ?_ | refine ep_lenE rfl ?_ | refine sp_idx rfl rfl rfl (by omega) rfl ?_ | refine ep_loadS rfl rfl rfl (by first | exact ints_get (by omega) | exact zints_get (by omega) | exact fget (by omega) | assumption) ?_)
      | (refine g_ops ?_; first | refine eo_none ?_ | refine eo_nil ?_)
      | (refine g_code ?_; first | refine ec_seq ?_ | refine ec_region ?_ | refine ec_block ?_ | refine ec_skip ?_ | refine ec_exit ?_ | refine ec_ret ?_ | refine ec_condT rfl ?_ | refine ec_condF rfl ?_ | refine ec_condTH rfl (by assumption) ?_ | refine ec_condFH rfl (by assumption) ?_)
      | refine ek_seqN ?_ | refine ek_seqX ?_ | refine ek_seqR ?_ | refine ek_blkN ?_ | refine ek_blkR ?_ | refine ek_blkX ?_ | refine ek_blkY rfl ?_)
    exact rnd_out (by rfl) (by simp) (scmp2 (by rfl) (by rfl) (by exact ⟨rfl, rfl, rfl⟩) (by rfl) (by first | rfl | (simp; done) | (simp [ints, prs]; done)) (by rfl) (by first | rfl | (simp; done) | (simp [ints, prs]; done)))
  · have hlt : decide (((S.length : Nat) : Int) < (S.length : Nat)) = false := decide_eq_false (by omega)
    unfold m16_0
    repeat' (first
      | (refine g_op ?_; first
        | refine ep_mov rfl ?_ | refine ep_load1 rfl rfl rfl rfl ?_
        | refine ep_bin rfl rfl (by first | exact b_add (by omega) (by omega) | exact b_sub (by omega) (by omega) | exact b_and (by omega) (by omega) | exact b_lss | exact b_eql) ?_ | refine ep_not rfl ?_
        | refine ep_lenS rfl ?_ | refine ep_lenN rfl ?_ | refine ep_lenE rfl ?_ | refine sp_idx rfl rfl rfl (by omega) rfl ?_ | refine ep_loadS rfl rfl rfl (by first | exact ints_get (by omega) | exact zints_get (by omega) | exact fget (by omega) | assumption) ?_)
      | (refine g_ops ?_; first | refine eo_none ?_ | refine eo_nil ?_)
      | (refine g_code ?_; first | refine ec_seq ?_ | refine ec_region ?_ | refine ec_block ?_ | refine ec_skip ?_ | refine ec_exit ?_ | refine ec_ret ?_ | refine ec_condT rfl ?_ | refine ec_condF rfl ?_ | refine ec_condTH rfl (by assumption) ?_ | refine ec_condFH rfl (by assumption) ?_)
      | refine ek_seqN ?_ | refine ek_seqX ?_ | refine ek_seqR ?_ | refine ek_blkN ?_ | refine ek_blkR ?_ | refine ek_blkX ?_ | refine ek_blkY rfl ?_)
    exact rnd_out (by rfl) (by simp) (scmp2 (by rfl) (by rfl) (by exact ⟨rfl, rfl, rfl⟩) (by rfl) (by first | rfl | (simp; done) | (simp [ints, prs]; done)) (by rfl) (by first | rfl | (simp; done) | (simp [ints, prs]; done)))

theorem evap1 (n : Nat) (hn : n ≤ 4) (S : List Nat) (hS : ∀ j, j < S.length → S.getD j 0 < R2 n) (hl : S.length ≤ 16) : ∀ (k i m : Nat), k ≤ 4 → i ≤ S.length → m < 16 → Ev cx 16 [.sl 0 0 S.length, .int .i64 (n : Nat), .int .i64 (1 : Nat), .int .i64 (k : Nat), .int .i64 (i : Nat), .int .i64 (m : Nat)] [⟨ints S, 1, 0, some 0, false⟩] (.bool (apS (k) ((S.map (argR 1 n)).drop (i)) (m))) [⟨ints S, 1, 0, some 0, false⟩]
  | 0, i, m, hk, hi, hm => by
    have q0 : (((0 : Nat) : Int) == 0) = true := by decide
    have hq : (((m : Nat) : Int) != 0) = (m != 0) := ine m 0
    rw [show apS 0 ((S.map (argR 1 n)).drop i) m = (m != 0) by rw [apS]]
    refine has16.eev rfl rfl ?_
    unfold m16
    repeat' (first
      | (refine g_op ?_; first
        | refine ep_mov rfl ?_
        | refine ep_bin rfl rfl (by first | exact b_eql | exact b_neq) ?_)
      | (refine g_ops ?_; first | refine eo_none ?_ | refine eo_nil ?_)
      | (refine g_code ?_; first | refine ec_seq ?_ | refine ec_region ?_ | refine ec_block ?_ | refine ec_skip ?_ | refine ec_ret ?_ | refine ec_condT rfl ?_ | refine ec_condF rfl ?_ | refine ec_condTH rfl (by assumption) ?_ | refine ec_condFH rfl (by assumption) ?_)
      | refine ek_seqN ?_ | refine ek_seqX ?_ | refine ek_seqR ?_ | refine ek_blkN ?_ | refine ek_blkR ?_ | refine ek_blkX ?_ | refine ek_blkY rfl ?_)
    refine sfin (.inr rfl) (by rfl) (by rfl) (by exact ⟨rfl, rfl, rfl⟩) (by rfl) (by rfl) (by first | rfl | exact congrArg V.bool hq) (by first | rfl | (simp; done) | (simp [ints, prs]; done))
  | k + 1, i, m, hk, hi, hm => by
    have q0 : ((((k + 1 : Nat) : Nat) : Int) == 0) = false := by
      simp only [beq_eq_false_iff_ne, ne_eq]; omega
    have ea : apS (k + 1) ((S.map (argR 1 n)).drop i) m = allF (fun i => apS k ((S.map (argR 1 n)).drop (i + 1)) (m &&& argR 1 n (S.getD i 0))) i (S.length - i) := by
      rw [apS_all _ _ _ (S.length - i) i (by simp; omega)]
      refine allF_cg _ _ fun x h1 h2 => ?_
      rw [mapD (by omega)]
    have ih := fun i m h1 h2 => evap1 n hn S hS hl k i m (by omega) h1 h2
    rw [ea]
    cases h : allF (fun i => apS k ((S.map (argR 1 n)).drop (i + 1)) (m &&& argR 1 n (S.getD i 0))) i (S.length - i)
    · have lp := lpap1 n hn S hS hl k m i (by omega) hm hi ih _ (if_neg (by rw [h]; simp))
      refine has16.eev rfl rfl ?_
      unfold m16
      repeat' (first
        | refine sc_loop lp rfl rfl ⟨rfl, rfl, rfl⟩ rfl rfl rfl ?_
        | (refine g_op ?_; first
          | refine ep_mov rfl ?_
          | refine ep_bin rfl rfl (by first | exact b_eql | exact b_neq) ?_)
        | (refine g_ops ?_; first | refine eo_none ?_ | refine eo_nil ?_)
        | (refine g_code ?_; first | refine ec_seq ?_ | refine ec_region ?_ | refine ec_block ?_ | refine ec_skip ?_ | refine ec_ret ?_ | refine ec_condT rfl ?_ | refine ec_condF rfl ?_ | refine ec_condTH rfl (by assumption) ?_ | refine ec_condFH rfl (by assumption) ?_)
        | refine ek_seqN ?_ | refine ek_seqX ?_ | refine ek_seqR ?_ | refine ek_blkN ?_ | refine ek_blkR ?_ | refine ek_blkX ?_ | refine ek_blkY rfl ?_)
      refine sfin (.inr rfl) (by rfl) (by rfl) (by exact ⟨rfl, rfl, rfl⟩) (by rfl) (by rfl) (by rfl) (by first | rfl | (simp; done) | (simp [ints, prs]; done))
    · have lp := lpap1 n hn S hS hl k m i (by omega) hm hi ih _ (if_pos h)
      refine has16.eev rfl rfl ?_
      unfold m16
      repeat' (first
        | refine sc_loop lp rfl rfl ⟨rfl, rfl, rfl⟩ rfl rfl rfl ?_
        | (refine g_op ?_; first
          | refine ep_mov rfl ?_
          | refine ep_bin rfl rfl (by first | exact b_eql | exact b_neq) ?_)
        | (refine g_ops ?_; first | refine eo_none ?_ | refine eo_nil ?_)
        | (refine g_code ?_; first | refine ec_seq ?_ | refine ec_region ?_ | refine ec_block ?_ | refine ec_skip ?_ | refine ec_ret ?_ | refine ec_condT rfl ?_ | refine ec_condF rfl ?_ | refine ec_condTH rfl (by assumption) ?_ | refine ec_condFH rfl (by assumption) ?_)
        | refine ek_seqN ?_ | refine ek_seqX ?_ | refine ek_seqR ?_ | refine ek_blkN ?_ | refine ek_blkR ?_ | refine ek_blkX ?_ | refine ek_blkY rfl ?_)
      refine sfin (.inr rfl) (by rfl) (by rfl) (by exact ⟨rfl, rfl, rfl⟩) (by rfl) (by rfl) (by rfl) (by first | rfl | (simp; done) | (simp [ints, prs]; done))


-- spec.l08Degree
def m9_0 : MC := (.seq (.seq (.region [⟨(.mov (.t 6)), (some 9), none⟩, ⟨(.fieldAddr 0 (.t 2)), (some 10), none⟩, ⟨(.load none (.t 10)), (some 11), none⟩, ⟨(.call 14 [(.t 11)]), (some 12), none⟩, ⟨(.bin .lss (.t 9) (.t 12)), (some 13), none⟩] false) (.cond (.t 13) .skip (.exit 0))) (.seq (.block 1 (.seq (.region [⟨(.load (some 2) (.t 2)), (some 16), none⟩, ⟨(.mov (.t 6)), (some 17), none⟩, ⟨(.call 15 [(.t 16), (.t 17)]), (some 18), none⟩, ⟨(.mov (.t 1)), (some 19), none⟩, ⟨(.bin .eql (.t 18) (.t 19)), (some 20), none⟩] false) (.cond (.t 20) (.region [⟨(.mov (.t 5)), (some 21), none⟩, ⟨(.mov (.t 6)), (some 22), none⟩, ⟨(.bslice 1 [(.int .i64 0)] 1 [(0, (1, (.t 22)))]), (some 23), none⟩, ⟨(.append 1 8 (.t 21) (.t 23)), (some 24), none⟩, ⟨(.mov (.t 24)), (some 5), none⟩] false) .skip))) (.region [⟨(.mov (.t 6)), (some 14), none⟩, ⟨(.bin .add (.t 14) (.k (.int .i64 1))), (some 15), none⟩, ⟨(.mov (.t 15)), (some 6), none⟩] false)))
def m9_1 : MC := (.seq (.seq (.region [⟨(.mov (.t 7)), (some 25), none⟩, ⟨(.mov (.t 5)), (some 26), none⟩, ⟨(.len (.t 26)), (some 27), none⟩, ⟨(.mm false [(.t 27), (.k (.int .i64 4))]), (some 28), none⟩, ⟨(.bin .leq (.t 25) (.t 28)), (some 29), none⟩] false) (.cond (.t 29) .skip (.exit 2))) (.seq (.block 3 (.seq (.region [⟨(.mov (.t 5)), (some 32), none⟩, ⟨(.fieldAddr 0 (.t 2)), (some 33), none⟩, ⟨(.load none (.t 33)), (some 34), none⟩, ⟨(.mov (.t 1)), (some 35), none⟩, ⟨(.mov (.t 7)), (some 36), none⟩, ⟨(.fieldAddr 0 (.t 2)), (some 37), none⟩, ⟨(.load none (.t 37)), (some 38), none⟩, ⟨(.call 14 [(.t 38)]), (some 39), none⟩, ⟨(.bin .sub (.t 39) (.k (.int .i64 1))), (some 40), none⟩, ⟨(.callw 16 [(.t 32), (.t 34), (.t 35), (.t 36), (.k (.int .i64 0)), (.t 40)]), (some 41), none⟩, ⟨(.un .not (.t 41)), (some 42), none⟩] true) (.cond (.t 42) (.seq (.region [⟨(.mov (.t 7)), (some 43), none⟩, ⟨(.bin .sub (.t 43) (.k (.int .i64 1))), (some 44), none⟩, ⟨(.mov (.t 44)), (some 4), none⟩] false) .ret) .skip))) (.region [⟨(.mov (.t 7)), (some 30), none⟩, ⟨(.bin .add (.t 30) (.k (.int .i64 1))), (some 31), none⟩, ⟨(.mov (.t 31)), (some 7), none⟩] false)))
def m9 : MC := (.seq (.region [⟨(.box (.t 0)), (some 2), none⟩, ⟨(.mov (.k (.int .i64 0))), (some 4), none⟩] false) (.seq (.region [⟨.empt, (some 8), none⟩, ⟨(.mov (.t 8)), (some 5), none⟩] false) (.seq (.seq (.region [⟨(.mov (.k (.int .i64 0))), (some 6), none⟩] false) (.block 0 (.loop m9_0))) (.seq (.seq (.region [⟨(.mov (.k (.int .i64 1))), (some 7), none⟩] false) (.block 2 (.loop m9_1))) (.seq (.region [⟨(.mov (.k (.int .i64 9))), (some 4), none⟩] false) .ret)))))
theorem has9 : Has cx 9 45 m9 [(.tmp 4)] :=
  ⟨⟨Try.f9, Try.f9.body.getD .skip, by kernel_rfl, by kernel_rfl, by kernel_rfl, by kernel_rfl, by kernel_rfl, by kernel_rfl⟩⟩
theorem lp9_0 (n b c : Nat) (hn : n ≤ 4) (hb : b < 65536) (hc : c ≤ 1) (o : Out) (ho : (match selm (fun r => bt b r == c) (idn) (R2 n) with | [] => (⟨.exit 0, [(1, .int .i64 (c : Nat)), (2, .ptr 0 0), (5, .emp)], [⟨[.int .i64 n, .int .i64 b], 1, 0, some 0, true⟩]⟩ : Out) | x :: xs => ⟨.exit 0, [(1, .int .i64 (c : Nat)), (2, .ptr 0 0), (5, .sl 1 0 (x :: xs).length)], [⟨[.int .i64 n, .int .i64 b], 1, 0, some 0, true⟩, ⟨ints (x :: xs), 1, 1, some 0, false⟩]⟩) = o) :
    LpS cx 45 0 m9_0 [(1, .int .i64 (c : Nat)), (2, .ptr 0 0), (5, .emp), (6, .int .i64 (0 : Nat))] [⟨[.int .i64 n, .int .i64 b], 1, 0, some 0, true⟩] o.x o.e o.h := by
  obtain ⟨h1, h2, h3, h4⟩ := shN hn
  subst ho
  refine lp_st (R2 n) (selm (fun r => bt b r == c) (idn)) (fun i s => match s with | [] => [(1, .int .i64 (c : Nat)), (2, .ptr 0 0), (5, .emp), (6, .int .i64 (i : Nat))] | x :: xs => [(1, .int .i64 (c : Nat)), (2, .ptr 0 0), (5, .sl 1 0 (x :: xs).length), (6, .int .i64 (i : Nat))]) (fun i s => match s with | [] => [⟨[.int .i64 n, .int .i64 b], 1, 0, some 0, true⟩] | x :: xs => [⟨[.int .i64 n, .int .i64 b], 1, 0, some 0, true⟩, ⟨ints (x :: xs), 1, 1, some 0, false⟩]) (fun s => match s with | [] => ⟨.exit 0, [(1, .int .i64 (c : Nat)), (2, .ptr 0 0), (5, .emp)], [⟨[.int .i64 n, .int .i64 b], 1, 0, some 0, true⟩]⟩ | x :: xs => ⟨.exit 0, [(1, .int .i64 (c : Nat)), (2, .ptr 0 0), (5, .sl 1 0 (x :: xs).length)], [⟨[.int .i64 n, .int .i64 b], 1, 0, some 0, true⟩, ⟨ints (x :: xs), 1, 1, some 0, false⟩]⟩) ?_ ?_ (R2 n) 0 (by omega)
  · intro i s hi hs
    have hlt : decide ((i : Int) < (R2 n : Nat)) = true := decide_eq_true (by omega)
    have hle : decide ((i : Int) ≤ (R2 n : Nat) - 1) = true := decide_eq_true (by omega)
    have hlen : s.length ≤ 16 := by have := selm_len (fun r => bt b r == c) (idn) i; rw [hs] at this; omega
    cases hp : (fun r => bt b r == c) i with
    | true =>
      have hp' : (bt b i == c) = true := hp
      have hq := ieq (bt b i) c
      rw [hp'] at hq
      cases s with
      | nil =>
        refine ⟨[(idn) i], by rw [selm_t (p := fun r => bt b r == c) hp, hs]; try rfl, ?_⟩
        unfold m9_0
        repeat' (first
          | (refine g_op ?_; first
            | refine ep_mov rfl ?_ | refine ep_load1 rfl rfl rfl rfl ?_ | refine ep_fieldAddr rfl ?_ | refine sp_loadN rfl rfl rfl rfl rfl ?_
            | refine ep_call0 rfl (by first | exact ev14 _ hn | exact ev15 _ _ _ (by omega) (by omega)) rfl rfl ?_
            | refine sp_call rfl rfl rfl rfl (by first | exact ev14 _ hn | exact ev15 _ _ _ (by omega) (by omega)) ⟨rfl, rfl, rfl, rfl⟩ rfl rfl rfl ?_
            | refine ep_bin rfl rfl (by first | exact b_add (by omega) (by omega) | exact b_lss | exact b_eql) ?_ | refine sp_bslice rfl rfl rfl rfl rfl ?_ | refine sp_push0 rfl (by first | exact .inl rfl | exact .inr rfl) rfl rfl rfl rfl rfl (by decide) rfl rfl rfl ?_
            | refine sp_push rfl rfl rfl rfl rfl rfl rfl (by first | exact ints_len _ | exact prs_len _ _ | exact zints_len _) (by omega) (Nat.zero_le _) rfl rfl rfl rfl rfl ?_)
          | (refine g_ops ?_; first | refine eo_none ?_ | refine eo_nil ?_)
          | (refine g_code ?_; first | refine ec_seq ?_ | refine ec_region ?_ | refine ec_block ?_ | refine ec_skip ?_ | refine ec_exit ?_ | refine ec_condT rfl ?_ | refine ec_condF rfl ?_ | refine ec_condTH rfl (by assumption) ?_ | refine ec_condFH rfl (by assumption) ?_)
          | refine ek_seqN ?_ | refine ek_seqX ?_ | refine ek_blkN ?_ | refine ek_blkR ?_ | refine ek_blkX ?_ | refine ek_blkY rfl ?_)
        exact rnd_on (by rfl) (scmp2 (by rfl) (by rfl) (by exact ⟨rfl, rfl, rfl⟩) (by rfl) (by first | rfl | (simp; done) | (simp [ints, prs]; done)) (by rfl) (by first | rfl | (simp; done) | (simp [ints, prs]; done)))
      | cons x xs =>
        refine ⟨(x :: xs) ++ [(idn) i], by rw [selm_t (p := fun r => bt b r == c) hp, hs]; try rfl, ?_⟩
        unfold m9_0
        repeat' (first
          | (refine g_op ?_; first
            | refine ep_mov rfl ?_ | refine ep_load1 rfl rfl rfl rfl ?_ | refine ep_fieldAddr rfl ?_ | refine sp_loadN rfl rfl rfl rfl rfl ?_
            | refine ep_call0 rfl (by first | exact ev14 _ hn | exact ev15 _ _ _ (by omega) (by omega)) rfl rfl ?_
            | refine sp_call rfl rfl rfl rfl (by first | exact ev14 _ hn | exact ev15 _ _ _ (by omega) (by omega)) ⟨rfl, rfl, rfl, rfl⟩ rfl rfl rfl ?_
            | refine ep_bin rfl rfl (by first | exact b_add (by omega) (by omega) | exact b_lss | exact b_eql) ?_ | refine sp_bslice rfl rfl rfl rfl rfl ?_ | refine sp_push0 rfl (by first | exact .inl rfl | exact .inr rfl) rfl rfl rfl rfl rfl (by decide) rfl rfl rfl ?_
            | refine sp_push rfl rfl rfl rfl rfl rfl rfl (by first | exact ints_len _ | exact prs_len _ _ | exact zints_len _) (by omega) (Nat.zero_le _) rfl rfl rfl rfl rfl ?_)
          | (refine g_ops ?_; first | refine eo_none ?_ | refine eo_nil ?_)
          | (refine g_code ?_; first | refine ec_seq ?_ | refine ec_region ?_ | refine ec_block ?_ | refine ec_skip ?_ | refine ec_exit ?_ | refine ec_condT rfl ?_ | refine ec_condF rfl ?_ | refine ec_condTH rfl (by assumption) ?_ | refine ec_condFH rfl (by assumption) ?_)
          | refine ek_seqN ?_ | refine ek_seqX ?_ | refine ek_blkN ?_ | refine ek_blkR ?_ | refine ek_blkX ?_ | refine ek_blkY rfl ?_)
        exact rnd_on (by rfl) (scmp2 (by rfl) (by rfl) (by exact ⟨rfl, rfl, rfl⟩) (by rfl) (by first | rfl | (simp; done) | (simp [ints, prs]; done)) (by rfl) (by first | rfl | (simp; done) | (simp [ints, prs]; done)))
    | false =>
      have hp' : (bt b i == c) = false := hp
      have hq := ieq (bt b i) c
      rw [hp'] at hq
      cases s with
      | nil =>
        refine ⟨[], by rw [selm_f (p := fun r => bt b r == c) hp, hs]; try rfl, ?_⟩
        unfold m9_0
        repeat' (first
          | (refine g_op ?_; first
            | refine ep_mov rfl ?_ | refine ep_load1 rfl rfl rfl rfl ?_ | refine ep_fieldAddr rfl ?_ | refine sp_loadN rfl rfl rfl rfl rfl ?_
            | refine ep_call0 rfl (by first | exact ev14 _ hn | exact ev15 _ _ _ (by omega) (by omega)) rfl rfl ?_
            | refine sp_call rfl rfl rfl rfl (by first | exact ev14 _ hn | exact ev15 _ _ _ (by omega) (by omega)) ⟨rfl, rfl, rfl, rfl⟩ rfl rfl rfl ?_
            | refine ep_bin rfl rfl (by first | exact b_add (by omega) (by omega) | exact b_lss | exact b_eql) ?_ | refine sp_bslice rfl rfl rfl rfl rfl ?_ | refine sp_push0 rfl (by first | exact .inl rfl | exact .inr rfl) rfl rfl rfl rfl rfl (by decide) rfl rfl rfl ?_
            | refine sp_push rfl rfl rfl rfl rfl rfl rfl (by first | exact ints_len _ | exact prs_len _ _ | exact zints_len _) (by omega) (Nat.zero_le _) rfl rfl rfl rfl rfl ?_)
          | (refine g_ops ?_; first | refine eo_none ?_ | refine eo_nil ?_)
          | (refine g_code ?_; first | refine ec_seq ?_ | refine ec_region ?_ | refine ec_block ?_ | refine ec_skip ?_ | refine ec_exit ?_ | refine ec_condT rfl ?_ | refine ec_condF rfl ?_ | refine ec_condTH rfl (by assumption) ?_ | refine ec_condFH rfl (by assumption) ?_)
          | refine ek_seqN ?_ | refine ek_seqX ?_ | refine ek_blkN ?_ | refine ek_blkR ?_ | refine ek_blkX ?_ | refine ek_blkY rfl ?_)
        exact rnd_on (by rfl) (scmp2 (by rfl) (by rfl) (by exact ⟨rfl, rfl, rfl⟩) (by rfl) (by first | rfl | (simp; done) | (simp [ints, prs]; done)) (by rfl) (by first | rfl | (simp; done) | (simp [ints, prs]; done)))
      | cons x xs =>
        refine ⟨x :: xs, by rw [selm_f (p := fun r => bt b r == c) hp, hs]; try rfl, ?_⟩
        unfold m9_0
        repeat' (first
          | (refine g_op ?_; first
            | refine ep_mov rfl ?_ | refine ep_load1 rfl rfl rfl rfl ?_ | refine ep_fieldAddr rfl ?_ | refine sp_loadN rfl rfl rfl rfl rfl ?_
            | refine ep_call0 rfl (by first | exact ev14 _ hn | exact ev15 _ _ _ (by omega) (by omega)) rfl rfl ?_
            | refine sp_call rfl rfl rfl rfl (by first | exact ev14 _ hn | exact ev15 _ _ _ (by omega) (by omega)) ⟨rfl, rfl, rfl, rfl⟩ rfl rfl rfl ?_
            | refine ep_bin rfl rfl (by first | exact b_add (by omega) (by omega) | exact b_lss | exact b_eql) ?_ | refine sp_bslice rfl rfl rfl rfl rfl ?_ | refine sp_push0 rfl (by first | exact .inl rfl | exact .inr rfl) rfl rfl rfl rfl rfl (by decide) rfl rfl rfl ?_
            | refine sp_push rfl rfl rfl rfl rfl rfl rfl (by first | exact ints_len _ | exact prs_len _ _ | exact zints_len _) (by omega) (Nat.zero_le _) rfl rfl rfl rfl rfl ?_)
          | (refine g_ops ?_; first | refine eo_none ?_ | refine eo_nil ?_)
          | (refine g_code ?_; first | refine ec_seq ?_ | refine ec_region ?_ | refine ec_block ?_ | refine ec_skip ?_ | refine ec_exit ?_ | refine ec_condT rfl ?_ | refine ec_condF rfl ?_ | refine ec_condTH rfl (by assumption) ?_ | refine ec_condFH rfl (by assumption) ?_)
          | refine ek_seqN ?_ | refine ek_seqX ?_ | refine ek_blkN ?_ | refine ek_blkR ?_ | refine ek_blkX ?_ | refine ek_blkY rfl ?_)
        exact rnd_on (by rfl) (scmp2 (by rfl) (by rfl) (by exact ⟨rfl, rfl, rfl⟩) (by rfl) (by first | rfl | (simp; done) | (simp [ints, prs]; done)) (by rfl) (by first | rfl | (simp; done) | (simp [ints, prs]; done)))
  · intro s hs
    have hlt : decide (((R2 n : Nat) : Int) < (R2 n : Nat)) = false := decide_eq_false (by omega)
    have hle : decide (((R2 n : Nat) : Int) ≤ (R2 n : Nat) - 1) = false := decide_eq_false (by omega)
    cases s with
    | nil =>
      unfold m9_0
      repeat' (first
        | (refine g_op ?_; first
          | refine ep_mov rfl ?_ | refine ep_load1 rfl rfl rfl rfl ?_ | refine ep_fieldAddr rfl ?_ | refine sp_loadN rfl rfl rfl rfl rfl ?_
          | refine ep_call0 rfl (by first | exact ev14 _ hn | exact ev15 _ _ _ (by omega) (by omega)) rfl rfl ?_
          | refine sp_call rfl rfl rfl rfl (by first | exact ev14 _ hn | exact ev15 _ _ _ (by omega) (by omega)) ⟨rfl, rfl, rfl, rfl⟩ rfl rfl rfl ?_
          | refine ep_bin rfl rfl (by first | exact b_add (by omega) (by omega) | exact b_lss | exact b_eql) ?_ | refine sp_bslice rfl rfl rfl rfl rfl ?_ | refine sp_push0 rfl (by first | exact .inl rfl | exact .inr rfl) rfl rfl rfl rfl rfl (by decide) rfl rfl rfl ?_
          | refine sp_push rfl rfl rfl rfl rfl rfl rfl (by first | exact ints_len _ | exact prs_len _ _ | exact zints_len _) (by omega) (Nat.zero_le _) rfl rfl rfl rfl rfl ?_)
        | (refine g_ops ?_; first | refine eo_none ?_ | refine eo_nil ?_)
        | (refine g_code ?_; first | refine ec_seq ?_ | refine ec_region ?_ | refine ec_block ?_ | refine ec_skip ?_ | refine ec_exit ?_ | refine ec_condT rfl ?_ | refine ec_condF rfl ?_ | refine ec_condTH rfl (by assumption) ?_ | refine ec_condFH rfl (by assumption) ?_)
        | refine ek_seqN ?_ | refine ek_seqX ?_ | refine ek_blkN ?_ | refine ek_blkR ?_ | refine ek_blkX ?_ | refine ek_blkY rfl ?_)
      exact rnd_out (by rfl) (by simp) (scmp2 (by rfl) (by rfl) (by exact ⟨rfl, rfl, rfl⟩) (by rfl) (by first | rfl | (simp; done) | (simp [ints, prs]; done)) (by rfl) (by first | rfl | (simp; done) | (simp [ints, prs]; done)))
    | cons x xs =>
      unfold m9_0
      repeat' (first
        | (refine g_op ?_; first
          | refine ep_mov rfl ?_ | refine ep_load1 rfl rfl rfl rfl ?_ | refine ep_fieldAddr rfl ?_ | refine sp_loadN rfl rfl rfl rfl rfl ?_
          | refine ep_call0 rfl (by first | exact ev14 _ hn | exact ev15 _ _ _ (by omega) (by omega)) rfl rfl ?_
          | refine sp_call rfl rfl rfl rfl (by first | exact ev14 _ hn | exact ev15 _ _ _ (by omega) (by omega)) ⟨rfl, rfl, rfl, rfl⟩ rfl rfl rfl ?_
          | refine ep_bin rfl rfl (by first | exact b_add (by omega) (by omega) | exact b_lss | exact b_eql) ?_ | refine sp_bslice rfl rfl rfl rfl rfl ?_ | refine sp_push0 rfl (by first | exact .inl rfl | exact .inr rfl) rfl rfl rfl rfl rfl (by decide) rfl rfl rfl ?_
          | refine sp_push rfl rfl rfl rfl rfl rfl rfl (by first | exact ints_len _ | exact prs_len _ _ | exact zints_len _) (by omega) (Nat.zero_le _) rfl rfl rfl rfl rfl ?_)
        | (refine g_ops ?_; first | refine eo_none ?_ | refine eo_nil ?_)
        | (refine g_code ?_; first | refine ec_seq ?_ | refine ec_region ?_ | refine ec_block ?_ | refine ec_skip ?_ | refine ec_exit ?_ | refine ec_condT rfl ?_ | refine ec_condF rfl ?_ | refine ec_condTH rfl (by assumption) ?_ | refine ec_condFH rfl (by assumption) ?_)
        | refine ek_seqN ?_ | refine ek_seqX ?_ | refine ek_blkN ?_ | refine ek_blkR ?_ | refine ek_blkX ?_ | refine ek_blkY rfl ?_)
      exact rnd_out (by rfl) (by simp) (scmp2 (by rfl) (by rfl) (by exact ⟨rfl, rfl, rfl⟩) (by rfl) (by first | rfl | (simp; done) | (simp [ints, prs]; done)) (by rfl) (by first | rfl | (simp; done) | (simp [ints, prs]; done)))

theorem lp9_1c0 (n b : Nat) (hn : n ≤ 4) (x : Nat) (xs : List Nat) (hS : ∀ j, j < (x :: xs).length → (x :: xs).getD j 0 < R2 n) (hl : (x :: xs).length ≤ 16) (o : Out) (ho : (match firstF (fun i => apS (i + 1) ((x :: xs).map (argR 0 n)) (R2 n - 1)) 0 (min (x :: xs).length 4) with | none => (⟨.exit 2, [], []⟩ : Out) | some x => ⟨.ret, [(4, .int .i64 (x : Nat))], []⟩) = o) :
    LpS cx 45 0 m9_1 [(1, .int .i64 (0 : Nat)), (2, .ptr 0 0), (5, .sl 1 0 (x :: xs).length), (7, .int .i64 (0 + 1 : Nat))] [⟨[.int .i64 n, .int .i64 b], 1, 0, some 0, true⟩, ⟨ints (x :: xs), 1, 1, some 0, false⟩] o.x o.e o.h := by
  obtain ⟨h1, h2, h3, h4⟩ := shN hn
  have hmm : ((min (x :: xs).length 4 : Nat) : Int) = (if false = true then (if (4 : Int) > (((x :: xs).length : Nat) : Int) then (4 : Int) else (((x :: xs).length : Nat) : Int)) else (if (4 : Int) < (((x :: xs).length : Nat) : Int) then (4 : Int) else (((x :: xs).length : Nat) : Int)) : Int) := by
    simp only [Bool.false_eq_true, if_false]; split <;> omega
  refine lp_brk (min (x :: xs).length 4) (fun i => apS (i + 1) ((x :: xs).map (argR 0 n)) (R2 n - 1)) (fun _ => ()) (fun i _ => [(1, .int .i64 (0 : Nat)), (2, .ptr 0 0), (5, .sl 1 0 (x :: xs).length), (7, .int .i64 (i + 1 : Nat))]) (fun i _ => [⟨[.int .i64 n, .int .i64 b], 1, 0, some 0, true⟩, ⟨ints (x :: xs), 1, 1, some 0, false⟩]) (fun _ => ⟨.exit 2, [], []⟩) (fun i _ => ⟨.ret, [(4, .int .i64 (i : Nat))], []⟩) ?_ ?_ ?_ (min (x :: xs).length 4) 0 o (by omega) (fun h => by rw [← ho, firstF_none fun x h1 h2 => h x h1 (by omega)]) (fun x h1 h2 h3 h4 => by rw [← ho, firstF_some h1 (by omega) h3 h4])
  · intro i s hi hs hp
    have hlt : decide ((i : Int) < (min (x :: xs).length 4 : Nat)) = true := decide_eq_true (by omega)
    have hp' : (apS (i + 1) ((x :: xs).map (argR 0 n)) (R2 n - 1)) = true := hp
    refine ⟨(), rfl, ?_⟩
    have hle : decide ((i + 1 : Nat) ≤ ((min (x :: xs).length 4 : Nat) : Int)) = true := decide_eq_true (by omega)
    have s1 := b_sub1 (a := R2 n) (by omega) (by omega)
    have s0 : binV .sub (.int .i64 ((i + 1 : Nat) : Int)) (.int .i64 1) = some (.int .i64 (i : Nat)) := b_sub1 (a := i + 1) (by omega) (by omega)
    have e1 := evap0 n hn (x :: xs) hS hl (i + 1) 0 (R2 n - 1) (by omega) (by omega) (by omega)
    rw [List.drop_zero, hp'] at e1
    unfold m9_1
    repeat' (first
      | refine ep_mm rfl hmm ?_
      | (refine g_op ?_; first
        | refine ep_mov rfl ?_ | refine ep_load1 rfl rfl rfl rfl ?_ | refine ep_fieldAddr rfl ?_
        | refine ep_call0 rfl (by first | exact e1 | exact ev14 _ hn) rfl rfl ?_
        | refine sp_call rfl rfl rfl rfl (by first | exact e1 | exact ev14 _ hn) ⟨rfl, rfl, rfl, rfl⟩ rfl rfl rfl ?_
        | refine ep_callw0 rfl (by first | exact e1 | exact ev14 _ hn) rfl rfl ?_
        | refine sp_callw rfl rfl rfl rfl (by first | exact e1 | exact ev14 _ hn) ⟨rfl, rfl, rfl, rfl⟩ rfl rfl rfl (by first | exact WrP_refl _ _ | (repeat' (first | exact rfl | exact True.intro | refine And.intro ?_ ?_))) ?_
        | refine ep_bin rfl rfl (by first | exact s0 | exact s1 | exact b_add (by omega) (by omega) | exact b_sub (by omega) (by omega) | exact b_leq) ?_ | refine ep_not rfl ?_ | refine ep_lenS rfl ?_
        | refine ep_lenN rfl ?_ | refine ep_lenE rfl ?_)
      | (refine g_ops ?_; first | refine eo_none ?_ | refine eo_nil ?_)
      | (refine g_dops ?_; first | refine ed_none ?_ | refine ed_nil ?_)
      | refine ed_same rfl ?_ | refine ed_one rfl rfl rfl rfl ?_ | refine ed_two rfl rfl rfl rfl rfl rfl rfl ?_ | refine ed_write rfl rfl ?_
      | (refine g_code ?_; first | refine ec_seq ?_ | refine ec_region ?_ | refine ec_draw ?_ | refine ec_block ?_ | refine ec_skip ?_ | refine ec_exit ?_ | refine ec_ret ?_ | refine ec_condT rfl ?_ | refine ec_condF rfl ?_ | refine ec_condTH rfl (by assumption) ?_ | refine ec_condFH rfl (by assumption) ?_)
      | refine ek_seqN ?_ | refine ek_seqX ?_ | refine ek_seqR ?_ | refine ek_blkN ?_ | refine ek_blkR ?_ | refine ek_blkX ?_ | refine ek_blkY rfl ?_)
    exact rnd_on (by rfl) (scmp2 (by rfl) (by rfl) (by exact ⟨rfl, rfl, rfl⟩) (by rfl) (by first | rfl | (simp; done) | (simp [ints, prs]; done)) (by rfl) (by first | rfl | (simp; done) | (simp [ints, prs]; done)))
  · intro i s hi hs hp
    have hlt : decide ((i : Int) < (min (x :: xs).length 4 : Nat)) = true := decide_eq_true (by omega)
    have hp' : (apS (i + 1) ((x :: xs).map (argR 0 n)) (R2 n - 1)) = false := hp
    have hle : decide ((i + 1 : Nat) ≤ ((min (x :: xs).length 4 : Nat) : Int)) = true := decide_eq_true (by omega)
    have s1 := b_sub1 (a := R2 n) (by omega) (by omega)
    have s0 : binV .sub (.int .i64 ((i + 1 : Nat) : Int)) (.int .i64 1) = some (.int .i64 (i : Nat)) := b_sub1 (a := i + 1) (by omega) (by omega)
    have e1 := evap0 n hn (x :: xs) hS hl (i + 1) 0 (R2 n - 1) (by omega) (by omega) (by omega)
    rw [List.drop_zero, hp'] at e1
    unfold m9_1
    repeat' (first
      | refine ep_mm rfl hmm ?_
      | (refine g_op ?_; first
        | refine ep_mov rfl ?_ | refine ep_load1 rfl rfl rfl rfl ?_ | refine ep_fieldAddr rfl ?_
        | refine ep_call0 rfl (by first | exact e1 | exact ev14 _ hn) rfl rfl ?_
        | refine sp_call rfl rfl rfl rfl (by first | exact e1 | exact ev14 _ hn) ⟨rfl, rfl, rfl, rfl⟩ rfl rfl rfl ?_
        | refine ep_callw0 rfl (by first | exact e1 | exact ev14 _ hn) rfl rfl ?_
        | refine sp_callw rfl rfl rfl rfl (by first | exact e1 | exact ev14 _ hn) ⟨rfl, rfl, rfl, rfl⟩ rfl rfl rfl (by first | exact WrP_refl _ _ | (repeat' (first | exact rfl | exact True.intro | refine And.intro ?_ ?_))) ?_
        | refine ep_bin rfl rfl (by first | exact s0 | exact s1 | exact b_add (by omega) (by omega) | exact b_sub (by omega) (by omega) | exact b_leq) ?_ | refine ep_not rfl ?_ | refine ep_lenS rfl ?_
        | refine ep_lenN rfl ?_ | refine ep_lenE rfl ?_)
      | (refine g_ops ?_; first | refine eo_none ?_ | refine eo_nil ?_)
      | (refine g_dops ?_; first | refine ed_none ?_ | refine ed_nil ?_)
      | refine ed_same rfl ?_ | refine ed_one rfl rfl rfl rfl ?_ | refine ed_two rfl rfl rfl rfl rfl rfl rfl ?_ | refine ed_write rfl rfl ?_
      | (refine g_code ?_; first | refine ec_seq ?_ | refine ec_region ?_ | refine ec_draw ?_ | refine ec_block ?_ | refine ec_skip ?_ | refine ec_exit ?_ | refine ec_ret ?_ | refine ec_condT rfl ?_ | refine ec_condF rfl ?_ | refine ec_condTH rfl (by assumption) ?_ | refine ec_condFH rfl (by assumption) ?_)
      | refine ek_seqN ?_ | refine ek_seqX ?_ | refine ek_seqR ?_ | refine ek_blkN ?_ | refine ek_blkR ?_ | refine ek_blkX ?_ | refine ek_blkY rfl ?_)
    exact rnd_out (by rfl) (by simp) (scmp2 (by rfl) (by rfl) (by exact ⟨rfl, rfl, rfl⟩) (by rfl) (by first | rfl | (simp; done) | (simp [ints, prs]; done)) (by rfl) (by first | rfl | (simp; done) | (simp [ints, prs]; done)))
  · intro s hs
    have hlt : decide (((min (x :: xs).length 4 : Nat) : Int) < (min (x :: xs).length 4 : Nat)) = false := decide_eq_false (by omega)
    have hle : decide ((((min (x :: xs).length 4) + 1 : Nat) : Int) ≤ ((min (x :: xs).length 4 : Nat) : Int)) = false := decide_eq_false (by omega)
    unfold m9_1
    repeat' (first
      | refine ep_mm rfl hmm ?_
      | (refine g_op ?_; first
        | refine ep_mov rfl ?_ | refine ep_load1 rfl rfl rfl rfl ?_ | refine ep_fieldAddr rfl ?_
        | refine ep_bin rfl rfl (by first | exact b_add (by omega) (by omega) | exact b_sub (by omega) (by omega) | exact b_leq) ?_ | refine ep_not rfl ?_ | refine ep_lenS rfl ?_ | refine ep_lenN rfl ?_
        | refine ep_lenE rfl ?_)
      | (refine g_ops ?_; first | refine eo_none ?_ | refine eo_nil ?_)
      | (refine g_dops ?_; first | refine ed_none ?_ | refine ed_nil ?_)
      | refine ed_same rfl ?_ | refine ed_one rfl rfl rfl rfl ?_ | refine ed_two rfl rfl rfl rfl rfl rfl rfl ?_ | refine ed_write rfl rfl ?_
      | (refine g_code ?_; first | refine ec_seq ?_ | refine ec_region ?_ | refine ec_draw ?_ | refine ec_block ?_ | refine ec_skip ?_ | refine ec_exit ?_ | refine ec_ret ?_ | refine ec_condT rfl ?_ | refine ec_condF rfl ?_ | refine ec_condTH rfl (by assumption) ?_ | refine ec_condFH rfl (by assumption) ?_)
      | refine ek_seqN ?_ | refine ek_seqX ?_ | refine ek_seqR ?_ | refine ek_blkN ?_ | refine ek_blkR ?_ | refine ek_blkX ?_ | refine ek_blkY rfl ?_)
    exact rnd_out (by rfl) (by simp) (scmp2 (by rfl) (by rfl) (by exact ⟨rfl, rfl, rfl⟩) (by rfl) (by first | rfl | (simp; done) | (simp [ints, prs]; done)) (by rfl) (by first | rfl | (simp; done) | (simp [ints, prs]; done)))

theorem lpdgn0 (n b : Nat) (hn : n ≤ 4) : LpS cx 45 0 m9_1 [(1, .int .i64 (0 : Nat)), (2, .ptr 0 0), (5, .emp), (7, .int .i64 (0 + 1 : Nat))] [⟨[.int .i64 n, .int .i64 b], 1, 0, some 0, true⟩] (.exit 2) [] [] := by
  have hmm : ((0 : Nat) : Int) = (if false = true then (if (4 : Int) > 0 then (4 : Int) else 0) else (if (4 : Int) < 0 then (4 : Int) else 0) : Int) := by decide
  have hle : decide (((0 + 1 : Nat) : Int) ≤ ((0 : Nat) : Int)) = false := by decide
  refine round_out (o := ⟨.exit 2, [], []⟩) ?_
  unfold m9_1
  repeat' (first
    | refine ep_mm rfl hmm ?_
    | (refine g_op ?_; first
      | refine ep_mov rfl ?_ | refine ep_load1 rfl rfl rfl rfl ?_ | refine ep_fieldAddr rfl ?_
      | refine ep_bin rfl rfl (by first | exact b_add (by omega) (by omega) | exact b_sub (by omega) (by omega) | exact b_leq) ?_ | refine ep_not rfl ?_ | refine ep_lenS rfl ?_ | refine ep_lenN rfl ?_
      | refine ep_lenE rfl ?_)
    | (refine g_ops ?_; first | refine eo_none ?_ | refine eo_nil ?_)
    | (refine g_dops ?_; first | refine ed_none ?_ | refine ed_nil ?_)
    | refine ed_same rfl ?_ | refine ed_one rfl rfl rfl rfl ?_ | refine ed_two rfl rfl rfl rfl rfl rfl rfl ?_ | refine ed_write rfl rfl ?_
    | (refine g_code ?_; first | refine ec_seq ?_ | refine ec_region ?_ | refine ec_draw ?_ | refine ec_block ?_ | refine ec_skip ?_ | refine ec_exit ?_ | refine ec_ret ?_ | refine ec_condT rfl ?_ | refine ec_condF rfl ?_ | refine ec_condTH rfl (by assumption) ?_ | refine ec_condFH rfl (by assumption) ?_)
    | refine ek_seqN ?_ | refine ek_seqX ?_ | refine ek_seqR ?_ | refine ek_blkN ?_ | refine ek_blkR ?_ | refine ek_blkX ?_ | refine ek_blkY rfl ?_)
  exact rnd_out (by rfl) (by simp) (scmp2 (by rfl) (by rfl) (by exact ⟨rfl, rfl, rfl⟩) (by rfl) (by first | rfl | (simp; done) | (simp [ints, prs]; done)) (by rfl) (by first | rfl | (simp; done) | (simp [ints, prs]; done)))

theorem evdg0 (n b : Nat) (hn : n ≤ 4) (hb : b < 65536) : Ev cx 9 [.agg [.int .i64 n, .int .i64 b], .int .i64 (0 : Nat)] [] (.int .i64 (dgI b 0 n : Nat)) [] := by
  obtain ⟨h1, h2, h3, h4⟩ := shN hn
  have hA := dgI_S (b := b) (c := 0) (n := n) hn (by omega)
  have hS0 : ∀ y, y ∈ selm (fun r => bt b r == 0) idn (R2 n) → y < R2 n := fun y hy => selm_in hy
  have hlS := selm_len (fun r => bt b r == 0) idn (R2 n)
  cases hs : selm (fun r => bt b r == 0) idn (R2 n) with
  | nil =>
    have lp0 := lp9_0 n b 0 hn hb (by omega) _ (by rw [hs])
    have lp1 := lpdgn0 n b hn
    rw [hs] at hA
    rw [show dgI b 0 n = 9 from hA.symm]
    refine has9.eev rfl rfl ?_
    unfold m9
    repeat' (first
      | refine sc_loop lp0 rfl rfl ⟨rfl, rfl, rfl⟩ rfl rfl rfl ?_
      | refine sc_loop lp1 rfl rfl ⟨rfl, rfl, rfl⟩ rfl rfl rfl ?_
      | (refine g_op ?_; first
        | refine ep_mov rfl ?_
        | refine sp_box rfl rfl rfl rfl rfl ?_ | refine ep_empt ?_)
      | (refine g_ops ?_; first | refine eo_none ?_ | refine eo_nil ?_)
      | (refine g_code ?_; first | refine ec_seq ?_ | refine ec_region ?_ | refine ec_block ?_ | refine ec_ret ?_)
      | refine ek_seqN ?_ | refine ek_seqX ?_ | refine ek_seqR ?_ | refine ek_blkN ?_ | refine ek_blkR ?_ | refine ek_blkX ?_ | refine ek_blkY rfl ?_)
    refine sfin (.inr rfl) (by rfl) (by rfl) (by exact ⟨rfl, rfl, rfl⟩) (by rfl) (by rfl) (by rfl) (by first | rfl | (simp; done) | (simp [ints, prs]; done))
  | cons x xs =>
    have lp0 := lp9_0 n b 0 hn hb (by omega) _ (by rw [hs])
    rw [hs] at hA hS0 hlS
    have hS : ∀ j, j < (x :: xs).length → (x :: xs).getD j 0 < R2 n := fun j hj => hS0 _ (by
      rw [List.getD_eq_getElem?_getD, List.getElem?_eq_getElem hj]; exact List.getElem_mem hj)
    cases hf : firstF (fun i => apS (i + 1) ((x :: xs).map (argR 0 n)) (R2 n - 1)) 0 (min (x :: xs).length 4) with
    | none =>
      have lp1 := lp9_1c0 n b hn x xs hS (by omega) _ (by rw [hf])
      rw [hf] at hA
      rw [show dgI b 0 n = 9 from hA.symm]
      refine has9.eev rfl rfl ?_
      unfold m9
      repeat' (first
        | refine sc_loop lp0 rfl rfl ⟨rfl, rfl, rfl⟩ rfl rfl rfl ?_
        | refine sc_loop lp1 rfl rfl ⟨rfl, rfl, rfl⟩ rfl rfl rfl ?_
        | (refine g_op ?_; first
          | refine ep_mov rfl ?_
          | refine sp_box rfl rfl rfl rfl rfl ?_ | refine ep_empt ?_)
        | (refine g_ops ?_; first | refine eo_none ?_ | refine eo_nil ?_)
        | (refine g_code ?_; first | refine ec_seq ?_ | refine ec_region ?_ | refine ec_block ?_ | refine ec_ret ?_)
        | refine ek_seqN ?_ | refine ek_seqX ?_ | refine ek_seqR ?_ | refine ek_blkN ?_ | refine ek_blkR ?_ | refine ek_blkX ?_ | refine ek_blkY rfl ?_)
      refine sfin (.inr rfl) (by rfl) (by rfl) (by exact ⟨rfl, rfl, rfl⟩) (by rfl) (by rfl) (by rfl) (by first | rfl | (simp; done) | (simp [ints, prs]; done))
    | some y =>
      have lp1 := lp9_1c0 n b hn x xs hS (by omega) _ (by rw [hf])
      rw [hf] at hA
      rw [show dgI b 0 n = y from hA.symm]
      refine has9.eev rfl rfl ?_
      unfold m9
      repeat' (first
        | refine sc_loop lp0 rfl rfl ⟨rfl, rfl, rfl⟩ rfl rfl rfl ?_
        | refine sc_loop lp1 rfl rfl ⟨rfl, rfl, rfl⟩ rfl rfl rfl ?_
        | (refine g_op ?_; first
          | refine ep_mov rfl ?_
          | refine sp_box rfl rfl rfl rfl rfl ?_ | refine ep_empt ?_)
        | (refine g_ops ?_; first | refine eo_none ?_ | refine eo_nil ?_)
        | (refine g_code ?_; first | refine ec_seq ?_ | refine ec_region ?_ | refine ec_block ?_ | refine ec_ret ?_)
        | refine ek_seqN ?_ | refine ek_seqX ?_ | refine ek_seqR ?_ | refine ek_blkN ?_ | refine ek_blkR ?_ | refine ek_blkX ?_ | refine ek_blkY rfl ?_)
      refine sfin (.inr rfl) (by rfl) (by rfl) (by exact ⟨rfl, rfl, rfl⟩) (by rfl) (by rfl) (by rfl) (by first | rfl | (simp; done) | (simp [ints, prs]; done))

theorem lp9_1c1 (n b : Nat) (hn : n ≤ 4) (x : Nat) (xs : List Nat) (hS : ∀ j, j < (x :: xs).length → (x :: xs).getD j 0 < R2 n) (hl : (x :: xs).length ≤ 16) (o : Out) (ho : (match firstF (fun i => apS (i + 1) ((x :: xs).map (argR 1 n)) (R2 n - 1)) 0 (min (x :: xs).length 4) with | none => (⟨.exit 2, [], []⟩ : Out) | some x => ⟨.ret, [(4, .int .i64 (x : Nat))], []⟩) = o) :
    LpS cx 45 0 m9_1 [(1, .int .i64 (1 : Nat)), (2, .ptr 0 0), (5, .sl 1 0 (x :: xs).length), (7, .int .i64 (0 + 1 : Nat))] [⟨[.int .i64 n, .int .i64 b], 1, 0, some 0, true⟩, ⟨ints (x :: xs), 1, 1, some 0, false⟩] o.x o.e o.h := by
  obtain ⟨h1, h2, h3, h4⟩ := shN hn
  have hmm : ((min (x :: xs).length 4 : Nat) : Int) = (if false = true then (if (4 : Int) > (((x :: xs).length : Nat) : Int) then (4 : Int) else (((x :: xs).length : Nat) : Int)) else (if (4 : Int) < (((x :: xs).length : Nat) : Int) then (4 : Int) else (((x :: xs).length : Nat) : Int)) : Int) := by
    simp only [Bool.false_eq_true, if_false]; split <;> omega
  refine lp_brk (min (x :: xs).length 4) (fun i => apS (i + 1) ((x :: xs).map (argR 1 n)) (R2 n - 1)) (fun _ => ()) (fun i _ => [(1, .int .i64 (1 : Nat)), (2, .ptr 0 0), (5, .sl 1 0 (x :: xs).length), (7, .int .i64 (i + 1 : Nat))]) (fun i _ => [⟨[.int .i64 n, .int .i64 b], 1, 0, some 0, true⟩, ⟨ints (x :: xs), 1, 1, some 0, false⟩]) (fun _ => ⟨.exit 2, [], []⟩) (fun i _ => ⟨.ret, [(4, .int .i64 (i : Nat))], []⟩) ?_ ?_ ?_ (min (x :: xs).length 4) 0 o (by omega) (fun h => by rw [← ho, firstF_none fun x h1 h2 => h x h1 (by omega)]) (fun x h1 h2 h3 h4 => by rw [← ho, firstF_some h1 (by omega) h3 h4])
  · intro i s hi hs hp
    have hlt : decide ((i : Int) < (min (x :: xs).length 4 : Nat)) = true := decide_eq_true (by omega)
    have hp' : (apS (i + 1) ((x :: xs).map (argR 1 n)) (R2 n - 1)) = true := hp
    refine ⟨(), rfl, ?_⟩
    have hle : decide ((i + 1 : Nat) ≤ ((min (x :: xs).length 4 : Nat) : Int)) = true := decide_eq_true (by omega)
    have s1 := b_sub1 (a := R2 n) (by omega) (by omega)
    have s0 : binV .sub (.int .i64 ((i + 1 : Nat) : Int)) (.int .i64 1) = some (.int .i64 (i : Nat)) := b_sub1 (a := i + 1) (by omega) (by omega)
    have e1 := evap1 n hn (x :: xs) hS hl (i + 1) 0 (R2 n - 1) (by omega) (by omega) (by omega)
    rw [List.drop_zero, hp'] at e1
    unfold m9_1
    repeat' (first
      | refine ep_mm rfl hmm ?_
      | (refine g_op ?_; first
        | refine ep_mov rfl ?_ | refine ep_load1 rfl rfl rfl rfl ?_ | refine ep_fieldAddr rfl ?_
        | refine ep_call0 rfl (by first | exact e1 | exact ev14 _ hn) rfl rfl ?_
        | refine sp_call rfl rfl rfl rfl (by first | exact e1 | exact ev14 _ hn) ⟨rfl, rfl, rfl, rfl⟩ rfl rfl rfl ?_
        | refine ep_callw0 rfl (by first | exact e1 | exact ev14 _ hn) rfl rfl ?_
        | refine sp_callw rfl rfl rfl rfl (by first | exact e1 | exact ev14 _ hn) ⟨rfl, rfl, rfl, rfl⟩ rfl rfl rfl (by first | exact WrP_refl _ _ | (repeat' (first | exact rfl | exact True.intro | refine And.intro ?_ ?_))) ?_
        | refine ep_bin rfl rfl (by first | exact s0 | exact s1 | exact b_add (by omega) (by omega) | exact b_sub (by omega) (by omega) | exact b_leq) ?_ | refine ep_not rfl ?_ | refine ep_lenS rfl ?_
        | refine ep_lenN rfl ?_ | refine ep_lenE rfl ?_)
      | (refine g_ops ?_; first | refine eo_none ?_ | refine eo_nil ?_)
      | (refine g_dops ?_; first | refine ed_none ?_ | refine ed_nil ?_)
      | refine ed_same rfl ?_ | refine ed_one rfl rfl rfl rfl ?_ | refine ed_two rfl rfl rfl rfl rfl rfl rfl ?_ | refine ed_write rfl rfl ?_
      | (refine g_code ?_; first | refine ec_seq ?_ | refine ec_region ?_ | refine ec_draw ?_ | refine ec_block ?_ | refine ec_skip ?_ | refine ec_exit ?_ | refine ec_ret ?_ | refine ec_condT rfl ?_ | refine ec_condF rfl ?_ | refine ec_condTH rfl (by assumption) ?_ | refine ec_condFH rfl (by assumption) ?_)
      | refine ek_seqN ?_ | refine ek_seqX ?_ | refine ek_seqR ?_ | refine ek_blkN ?_ | refine ek_blkR ?_ | refine ek_blkX ?_ | refine ek_blkY rfl ?_)
    exact rnd_on (by rfl) (scmp2 (by rfl) (by rfl) (by exact ⟨rfl, rfl, rfl⟩) (by rfl) (by first | rfl | (simp; done) | (simp [ints, prs]; done)) (by rfl) (by first | rfl | (simp; done) | (simp [ints, prs]; done)))
  · intro i s hi hs hp
    have hlt : decide ((i : Int) < (min (x :: xs).length 4 : Nat)) = true := decide_eq_true (by omega)
    have hp' : (apS (i + 1) ((x :: xs).map (argR 1 n)) (R2 n - 1)) = false := hp
    have hle : decide ((i + 1 : Nat) ≤ ((min (x :: xs).length 4 : Nat) : Int)) = true := decide_eq_true (by omega)
    have s1 := b_sub1 (a := R2 n) (by omega) (by omega)
    have s0 : binV .sub (.int .i64 ((i + 1 : Nat) : Int)) (.int .i64 1) = some (.int .i64 (i : Nat)) := b_sub1 (a := i + 1) (by omega) (by omega)
    have e1 := evap1 n hn (x :: xs) hS hl (i + 1) 0 (R2 n - 1) (by omega) (by omega) (by omega)
    rw [List.drop_zero, hp'] at e1
    unfold m9_1
    repeat' (first
      | refine ep_mm rfl hmm ?_
      | (refine g_op ?_; first
        | refine ep_mov rfl ?_ | refine ep_load1 rfl rfl rfl rfl ?_ | refine ep_fieldAddr rfl ?_
        | refine ep_call0 rfl (by first | exact e1 | exact ev14 _ hn) rfl rfl ?_
        | refine sp_call rfl rfl rfl rfl (by first | exact e1 | exact ev14 _ hn) ⟨rfl, rfl, rfl, rfl⟩ rfl rfl rfl ?_
        | refine ep_callw0 rfl (by first | exact e1 | exact ev14 _ hn) rfl rfl ?_
        | refine sp_callw rfl rfl rfl rfl (by first | exact e1 | exact ev14 _ hn) ⟨rfl, rfl, rfl, rfl⟩ rfl rfl rfl (by first | exact WrP_refl _ _ | (repeat' (first | exact rfl | exact True.intro | refine And.intro ?_ ?_))) ?_
        | refine ep_bin rfl rfl (by first | exact s0 | exact s1 | exact b_add (by omega) (by omega) | exact b_sub (by omega) (by omega) | exact b_leq) ?_ | refine ep_not rfl ?_ | refine ep_lenS rfl ?_
        | refine ep_lenN rfl ?_ | refine ep_lenE rfl ?_)
      | (refine g_ops ?_; first | refine eo_none ?_ | refine eo_nil ?_)
      | (refine g_dops ?_; first | refine ed_none ?_ | refine ed_nil ?_)
      | refine ed_same rfl ?_ | refine ed_one rfl rfl rfl rfl ?_ | refine ed_two rfl rfl rfl rfl rfl rfl rfl ?_ | refine ed_write rfl rfl ?_
      | (refine g_code ?_; first | refine ec_seq ?_ | refine ec_region ?_ | refine ec_draw ?_ | refine ec_block ?_ | refine ec_skip ?_ | refine ec_exit ?_ | refine ec_ret ?_ | refine ec_condT rfl ?_ | refine ec_condF rfl ?_ | refine ec_condTH rfl (by assumption) ?_ | refine ec_condFH rfl (by assumption) ?_)
      | refine ek_seqN ?_ | refine ek_seqX ?_ | refine ek_seqR ?_ | refine ek_blkN ?_ | refine ek_blkR ?_ | refine ek_blkX ?_ | refine ek_blkY rfl ?_)
    exact rnd_out (by rfl) (by simp) (scmp2 (by rfl) (by rfl) (by exact ⟨rfl, rfl, rfl⟩) (by rfl) (by first | rfl | (simp; done) | (simp [ints, prs]; done)) (by rfl) (by first | rfl | (simp; done) | (simp [ints, prs]; done)))
  · intro s hs
    have hlt : decide (((min (x :: xs).length 4 : Nat) : Int) < (min (x :: xs).length 4 : Nat)) = false := decide_eq_false (by omega)
    have hle : decide ((((min (x :: xs).length 4) + 1 : Nat) : Int) ≤ ((min (x :: xs).length 4 : Nat) : Int)) = false := decide_eq_false (by omega)
    unfold m9_1
    repeat' (first
      | refine ep_mm rfl hmm ?_
      | (refine g_op ?_; first
        | refine ep_mov rfl ?_ | refine ep_load1 rfl rfl rfl rfl ?_ | refine ep_fieldAddr rfl ?_
        | refine ep_bin rfl rfl (by first | exact b_add (by omega) (by omega) | exact b_sub (by omega) (by omega) | exact b_leq) ?_ | refine ep_not rfl ?_ | refine ep_lenS rfl ?_ | refine ep_lenN rfl ?_
        | refine ep_lenE rfl ?_)
      | (refine g_ops ?_; first | refine eo_none ?_ | refine eo_nil ?_)
      | (refine g_dops ?_; first | refine ed_none ?_ | refine ed_nil ?_)
      | refine ed_same rfl ?_ | refine ed_one rfl rfl rfl rfl ?_ | refine ed_two rfl rfl rfl rfl rfl rfl rfl ?_ | refine ed_write rfl rfl ?_
      | (refine g_code ?_; first | refine ec_seq ?_ | refine ec_region ?_ | refine ec_draw ?_ | refine ec_block ?_ | refine ec_skip ?_ | refine ec_exit ?_ | refine ec_ret ?_ | refine ec_condT rfl ?_ | refine ec_condF rfl ?_ | refine ec_condTH rfl (by assumption) ?_ | refine ec_condFH rfl (by assumption) ?_)
      | refine ek_seqN ?_ | refine ek_seqX ?_ | refine ek_seqR ?_ | refine ek_blkN ?_ | refine ek_blkR ?_ | refine ek_blkX ?_ | refine ek_blkY rfl ?_)
    exact rnd_out (by rfl) (by simp) (scmp2 (by rfl) (by rfl) (by exact ⟨rfl, rfl, rfl⟩) (by rfl) (by first | rfl | (simp; done) | (simp [ints, prs]; done)) (by rfl) (by first | rfl | (simp; done) | (simp [ints, prs]; done)))

theorem lpdgn1 (n b : Nat) (hn : n ≤ 4) : LpS cx 45 0 m9_1 [(1, .int .i64 (1 : Nat)), (2, .ptr 0 0), (5, .emp), (7, .int .i64 (0 + 1 : Nat))] [⟨[.int .i64 n, .int .i64 b], 1, 0, some 0, true⟩] (.exit 2) [] [] := by
  have hmm : ((0 : Nat) : Int) = (if false = true then (if (4 : Int) > 0 then (4 : Int) else 0) else (if (4 : Int) < 0 then (4 : Int) else 0) : Int) := by decide
  have hle : decide (((0 + 1 : Nat) : Int) ≤ ((0 : Nat) : Int)) = false := by decide
  refine round_out (o := ⟨.exit 2, [], []⟩) ?_
  unfold m9_1
  repeat' (first
    | refine ep_mm rfl hmm ?_
    | (refine g_op ?_; first
      | refine ep_mov rfl ?_ | refine ep_load1 rfl rfl rfl rfl ?_ | refine ep_fieldAddr rfl ?_
      | refine ep_bin rfl rfl (by first | exact b_add (by omega) (by omega) | exact b_sub (by omega) (by omega) | exact b_leq) ?_ | refine ep_not rfl ?_ | refine ep_lenS rfl ?_ | refine ep_lenN rfl ?_
      | refine ep_lenE rfl ?_)
    | (refine g_ops ?_; first | refine eo_none ?_ | refine eo_nil ?_)
    | (refine g_dops ?_; first | refine ed_none ?_ | refine ed_nil ?_)
    | refine ed_same rfl ?_ | refine ed_one rfl rfl rfl rfl ?_ | refine ed_two rfl rfl rfl rfl rfl rfl rfl ?_ | refine ed_write rfl rfl ?_
    | (refine g_code ?_; first | refine ec_seq ?_ | refine ec_region ?_ | refine ec_draw ?_ | refine ec_block ?_ | refine ec_skip ?_ | refine ec_exit ?_ | refine ec_ret ?_ | refine ec_condT rfl ?_ | refine ec_condF rfl ?_ | refine ec_condTH rfl (by assumption) ?_ | refine ec_condFH rfl (by assumption) ?_)
    | refine ek_seqN ?_ | refine ek_seqX ?_ | refine ek_seqR ?_ | refine ek_blkN ?_ | refine ek_blkR ?_ | refine ek_blkX ?_ | refine ek_blkY rfl ?_)
  exact rnd_out (by rfl) (by simp) (scmp2 (by rfl) (by rfl) (by exact ⟨rfl, rfl, rfl⟩) (by rfl) (by first | rfl | (simp; done) | (simp [ints, prs]; done)) (by rfl) (by first | rfl | (simp; done) | (simp [ints, prs]; done)))

theorem evdg1 (n b : Nat) (hn : n ≤ 4) (hb : b < 65536) : Ev cx 9 [.agg [.int .i64 n, .int .i64 b], .int .i64 (1 : Nat)] [] (.int .i64 (dgI b 1 n : Nat)) [] := by
  obtain ⟨h1, h2, h3, h4⟩ := shN hn
  have hA := dgI_S (b := b) (c := 1) (n := n) hn (by omega)
  have hS0 : ∀ y, y ∈ selm (fun r => bt b r == 1) idn (R2 n) → y < R2 n := fun y hy => selm_in hy
  have hlS := selm_len (fun r => bt b r == 1) idn (R2 n)
  cases hs : selm (fun r => bt b r == 1) idn (R2 n) with
  | nil =>
    have lp0 := lp9_0 n b 1 hn hb (by omega) _ (by rw [hs])
    have lp1 := lpdgn1 n b hn
    rw [hs] at hA
    rw [show dgI b 1 n = 9 from hA.symm]
    refine has9.eev rfl rfl ?_
    unfold m9
    repeat' (first
      | refine sc_loop lp0 rfl rfl ⟨rfl, rfl, rfl⟩ rfl rfl rfl ?_
      | refine sc_loop lp1 rfl rfl ⟨rfl, rfl, rfl⟩ rfl rfl rfl ?_
      | (refine g_op ?_; first
        | refine ep_mov rfl ?_
        | refine sp_box rfl rfl rfl rfl rfl ?_ | refine ep_empt ?_)
      | (refine g_ops ?_; first | refine eo_none ?_ | refine eo_nil ?_)
      | (refine g_code ?_; first | refine ec_seq ?_ | refine ec_region ?_ | refine ec_block ?_ | refine ec_ret ?_)
      | refine ek_seqN ?_ | refine ek_seqX ?_ | refine ek_seqR ?_ | refine ek_blkN ?_ | refine ek_blkR ?_ | refine ek_blkX ?_ | refine ek_blkY rfl ?_)
    refine sfin (.inr rfl) (by rfl) (by rfl) (by exact ⟨rfl, rfl, rfl⟩) (by rfl) (by rfl) (by rfl) (by first | rfl | (simp; done) | (simp [ints, prs]; done))
  | cons x xs =>
    have lp0 := lp9_0 n b 1 hn hb (by omega) _ (by rw [hs])
    rw [hs] at hA hS0 hlS
    have hS : ∀ j, j < (x :: xs).length → (x :: xs).getD j 0 < R2 n := fun j hj => hS0 _ (by
      rw [List.getD_eq_getElem?_getD, List.getElem?_eq_getElem hj]; exact List.getElem_mem hj)
    cases hf : firstF (fun i => apS (i + 1) ((x :: xs).map (argR 1 n)) (R2 n - 1)) 0 (min (x :: xs).length 4) with
    | none =>
      have lp1 := lp9_1c1 n b hn x xs hS (by omega) _ (by rw [hf])
      rw [hf] at hA
      rw [show dgI b 1 n = 9 from hA.symm]
      refine has9.eev rfl rfl ?_
      unfold m9
      repeat' (first
        | refine sc_loop lp0 rfl rfl ⟨rfl, rfl, rfl⟩ rfl rfl rfl ?_
        | refine sc_loop lp1 rfl rfl ⟨rfl, rfl, rfl⟩ rfl rfl rfl ?_
        | (refine g_op ?_; first
          | refine ep_mov rfl ?_
          | refine sp_box rfl rfl rfl rfl rfl ?_ | refine ep_empt ?_)
        | (refine g_ops ?_; first | refine eo_none ?_ | refine eo_nil ?_)
        | (refine g_code ?_; first | refine ec_seq ?_ | refine ec_region ?_ | refine ec_block ?_ | refine ec_ret ?_)
        | refine ek_seqN ?_ | refine ek_seqX ?_ | refine ek_seqR ?_ | refine ek_blkN ?_ | refine ek_blkR ?_ | refine ek_blkX ?_ | refine ek_blkY rfl ?_)
      refine sfin (.inr rfl) (by rfl) (by rfl) (by exact ⟨rfl, rfl, rfl⟩) (by rfl) (by rfl) (by rfl) (by first | rfl | (simp; done) | (simp [ints, prs]; done))
    | some y =>
      have lp1 := lp9_1c1 n b hn x xs hS (by omega) _ (by rw [hf])
      rw [hf] at hA
      rw [show dgI b 1 n = y from hA.symm]
      refine has9.eev rfl rfl ?_
      unfold m9
      repeat' (first
        | refine sc_loop lp0 rfl rfl ⟨rfl, rfl, rfl⟩ rfl rfl rfl ?_
        | refine sc_loop lp1 rfl rfl ⟨rfl, rfl, rfl⟩ rfl rfl rfl ?_
        | (refine g_op ?_; first
          | refine ep_mov rfl ?_
          | refine sp_box rfl rfl rfl rfl rfl ?_ | refine ep_empt ?_)
        | (refine g_ops ?_; first | refine eo_none ?_ | refine eo_nil ?_)
        | (refine g_code ?_; first | refine ec_seq ?_ | refine ec_region ?_ | refine ec_block ?_ | refine ec_ret ?_)
        | refine ek_seqN ?_ | refine ek_seqX ?_ | refine ek_seqR ?_ | refine ek_blkN ?_ | refine ek_blkR ?_ | refine ek_blkX ?_ | refine ek_blkY rfl ?_)
      refine sfin (.inr rfl) (by rfl) (by rfl) (by exact ⟨rfl, rfl, rfl⟩) (by rfl) (by rfl) (by rfl) (by first | rfl | (simp; done) | (simp [ints, prs]; done))

theorem ev9 (n b c : Nat) (hn : n ≤ 4) (hb : b < 65536) (hc : c ≤ 1) : Ev cx 9 [.agg [.int .i64 n, .int .i64 b], .int .i64 c] [] (.int .i64 (dgI b c n : Nat)) [] := by
  rcases (show c = 0 ∨ c = 1 by omega) with rfl | rfl
  · exact evdg0 n b hn hb
  · exact evdg1 n b hn hb
-- spec.SeparatingDegree
def m4 : MC := (.seq (.region [⟨(.box (.t 0)), (some 2), none⟩, ⟨(.mov (.k (.int .i64 0))), (some 4), none⟩, ⟨(.mov (.k (.int .i64 0))), (some 5), none⟩] false) (.seq (.block 0 (.seq (.region [⟨(.load (some 2) (.t 2)), (some 7), none⟩, ⟨(.call 7 [(.t 7)]), (some 8), none⟩, ⟨(.un .not (.t 8)), (some 9), none⟩, ⟨(.mov (.t 9)), (some 6), none⟩] false) (.cond (.t 6) (.seq (.region [⟨(.mov (.k (.int .i64 0))), (some 4), none⟩, ⟨(.mov (.k (.int .i64 1))), (some 5), none⟩] false) .ret) (.seq (.region [⟨(.mov (.t 1)), (some 11), none⟩, ⟨(.call 8 [(.t 11), (.k (.int .i64 0)), (.k (.int .i64 1))]), (some 12), none⟩, ⟨(.un .not (.t 12)), (some 13), none⟩, ⟨(.mov (.t 13)), (some 10), none⟩] false) (.cond (.t 10) (.seq (.region [⟨(.mov (.k (.int .i64 0))), (some 4), none⟩, ⟨(.mov (.k (.int .i64 2))), (some 5), none⟩] false) .ret) .skip))))) (.seq (.region [⟨(.load (some 2) (.t 2)), (some 14), none⟩, ⟨(.mov (.t 1)), (some 15), none⟩, ⟨(.call 9 [(.t 14), (.t 15)]), (some 16), none⟩, ⟨(.mov (.t 16)), (some 4), none⟩, ⟨(.mov (.k (.int .i64 0))), (some 5), none⟩] false) .ret)))
theorem has4 : Has cx 4 17 m4 [(.tmp 4), (.tmp 5)] :=
  ⟨⟨Try.f4, Try.f4.body.getD .skip, by kernel_rfl, by kernel_rfl, by kernel_rfl, by kernel_rfl, by kernel_rfl, by kernel_rfl⟩⟩
theorem ev4 (p t z : Int) : Ev cx 4 [.agg [.int .i64 p, .int .i64 t], .int .i64 z] [] (.tup [.int .i64 (sdR p t z).1, .int .i64 (sdR p t z).2]) [] := by
  have e1 := ev7 p t
  cases h1 : isFn p t
  · rw [h1] at e1
    refine has4.eev rfl rfl ?_
    unfold m4
    repeat' (first
      | (refine g_op ?_; first
        | refine ep_mov rfl ?_ | refine sp_loadN rfl rfl rfl rfl rfl ?_
        | refine ep_call0 rfl (by first | exact e1) rfl rfl ?_
        | refine sp_call rfl rfl rfl rfl (by first | exact e1) ⟨rfl, rfl, rfl, rfl⟩ rfl rfl rfl ?_
        | refine ep_not rfl ?_ | refine sp_box rfl rfl rfl rfl rfl ?_)
      | (refine g_ops ?_; first | refine eo_none ?_ | refine eo_nil ?_)
      | (refine g_code ?_; first | refine ec_seq ?_ | refine ec_region ?_ | refine ec_block ?_ | refine ec_skip ?_ | refine ec_ret ?_ | refine ec_condT rfl ?_ | refine ec_condF rfl ?_ | refine ec_condTH rfl (by assumption) ?_ | refine ec_condFH rfl (by assumption) ?_)
      | refine ek_seqN ?_ | refine ek_seqR ?_ | refine ek_blkN ?_ | refine ek_blkR ?_ | refine ek_blkX ?_ | refine ek_blkY rfl ?_)
    refine sfin (.inr rfl) (by rfl) (by rfl) (by exact ⟨rfl, rfl, rfl⟩) (by rfl) (by rfl) (by rw [sdR, if_neg (by rw [h1]; simp)]; try rfl) (by first | rfl | (simp; done) | (simp [ints, prs]; done))
  · rw [h1] at e1
    obtain ⟨n, b, rfl, rfl, h2, h3, h4⟩ := isFn_nat h1
    have e2 := ev8 z 0 1
    by_cases h5 : 0 ≤ z ∧ z ≤ 1
    · rw [decide_eq_true h5] at e2
      obtain ⟨c, rfl⟩ := Int.eq_ofNat_of_zero_le h5.1
      rw [show (sdR n b c) = (((dgI b c n : Nat) : Int), 0) by rw [sdR, if_pos h1, if_pos h5]; rfl]
      refine has4.eev rfl rfl ?_
      unfold m4
      repeat' (first
        | (refine g_op ?_; first
          | refine ep_mov rfl ?_ | refine sp_loadN rfl rfl rfl rfl rfl ?_
          | refine ep_call0 rfl (by first | exact e1 | exact e2 | exact ev9 _ _ _ h2 h4 (by omega)) rfl rfl ?_
          | refine sp_call rfl rfl rfl rfl (by first | exact e1 | exact e2 | exact ev9 _ _ _ h2 h4 (by omega)) ⟨rfl, rfl, rfl, rfl⟩ rfl rfl rfl ?_
          | refine ep_not rfl ?_ | refine sp_box rfl rfl rfl rfl rfl ?_)
        | (refine g_ops ?_; first | refine eo_none ?_ | refine eo_nil ?_)
        | (refine g_code ?_; first | refine ec_seq ?_ | refine ec_region ?_ | refine ec_block ?_ | refine ec_skip ?_ | refine ec_ret ?_ | refine ec_condT rfl ?_ | refine ec_condF rfl ?_ | refine ec_condTH rfl (by assumption) ?_ | refine ec_condFH rfl (by assumption) ?_)
        | refine ek_seqN ?_ | refine ek_seqR ?_ | refine ek_blkN ?_ | refine ek_blkR ?_ | refine ek_blkX ?_ | refine ek_blkY rfl ?_)
      refine sfin (.inr rfl) (by rfl) (by rfl) (by exact ⟨rfl, rfl, rfl⟩) (by rfl) (by rfl) (by rfl) (by first | rfl | (simp; done) | (simp [ints, prs]; done))
    · rw [decide_eq_false h5] at e2
      refine has4.eev rfl rfl ?_
      unfold m4
      repeat' (first
        | (refine g_op ?_; first
          | refine ep_mov rfl ?_ | refine sp_loadN rfl rfl rfl rfl rfl ?_
          | refine ep_call0 rfl (by first | exact e1 | exact e2) rfl rfl ?_
          | refine sp_call rfl rfl rfl rfl (by first | exact e1 | exact e2) ⟨rfl, rfl, rfl, rfl⟩ rfl rfl rfl ?_
          | refine ep_not rfl ?_ | refine sp_box rfl rfl rfl rfl rfl ?_)
        | (refine g_ops ?_; first | refine eo_none ?_ | refine eo_nil ?_)
        | (refine g_code ?_; first | refine ec_seq ?_ | refine ec_region ?_ | refine ec_block ?_ | refine ec_skip ?_ | refine ec_ret ?_ | refine ec_condT rfl ?_ | refine ec_condF rfl ?_ | refine ec_condTH rfl (by assumption) ?_ | refine ec_condFH rfl (by assumption) ?_)
        | refine ek_seqN ?_ | refine ek_seqR ?_ | refine ek_blkN ?_ | refine ek_blkR ?_ | refine ek_blkX ?_ | refine ek_blkY rfl ?_)
      refine sfin (.inr rfl) (by rfl) (by rfl) (by exact ⟨rfl, rfl, rfl⟩) (by rfl) (by rfl) (by rw [sdR, if_pos h1, if_neg h5]; try rfl) (by first | rfl | (simp; done) | (simp [ints, prs]; done))
-- impl.SeparatingDegree
def m6 : MC := (.seq (.region [⟨(.box (.t 0)), (some 2), none⟩, ⟨(.mov (.k (.int .i64 0))), (some 4), none⟩, ⟨(.mov (.k (.int .i64 0))), (some 5), none⟩] false) (.seq (.seq (.region [⟨(.load (some 2) (.t 2)), (some 6), none⟩, ⟨(.call 10 [(.t 6)]), (some 7), none⟩, ⟨(.un .not (.t 7)), (some 8), none⟩] false) (.cond (.t 8) (.seq (.region [⟨(.mov (.k (.int .i64 0))), (some 4), none⟩, ⟨(.mov (.k (.int .i64 1))), (some 5), none⟩] false) .ret) .skip)) (.seq (.seq (.region [⟨(.mov (.t 1)), (some 9), none⟩, ⟨(.call 11 [(.t 9), (.k (.int .i64 0)), (.k (.int .i64 1))]), (some 10), none⟩, ⟨(.un .not (.t 10)), (some 11), none⟩] false) (.cond (.t 11) (.seq (.region [⟨(.mov (.k (.int .i64 0))), (some 4), none⟩, ⟨(.mov (.k (.int .i64 2))), (some 5), none⟩] false) .ret) .skip)) (.seq (.region [⟨(.load (some 2) (.t 2)), (some 12), none⟩, ⟨(.mov (.t 1)), (some 13), none⟩, ⟨(.call 12 [(.t 12), (.t 13)]), (some 14), none⟩, ⟨(.mov (.t 14)), (some 4), none⟩, ⟨(.mov (.k (.int .i64 0))), (some 5), none⟩] false) .ret))))
theorem has6 : Has cx 6 15 m6 [(.tmp 4), (.tmp 5)] :=
  ⟨⟨Try.f6, Try.f6.body.getD .skip, by kernel_rfl, by kernel_rfl, by kernel_rfl, by kernel_rfl, by kernel_rfl, by kernel_rfl⟩⟩
theorem ev6 (p t z : Int) : Ev cx 6 [.agg [.int .i64 p, .int .i64 t], .int .i64 z] [] (.tup [.int .i64 (sdR p t z).1, .int .i64 (sdR p t z).2]) [] := by
  have e1 := ev10 p t
  cases h1 : isFn p t
  · rw [h1] at e1
    refine has6.eev rfl rfl ?_
    unfold m6
    repeat' (first
      | (refine g_op ?_; first
        | refine ep_mov rfl ?_ | refine sp_loadN rfl rfl rfl rfl rfl ?_
        | refine ep_call0 rfl (by first | exact e1) rfl rfl ?_
        | refine sp_call rfl rfl rfl rfl (by first | exact e1) ⟨rfl, rfl, rfl, rfl⟩ rfl rfl rfl ?_
        | refine ep_not rfl ?_ | refine sp_box rfl rfl rfl rfl rfl ?_)
      | (refine g_ops ?_; first | refine eo_none ?_ | refine eo_nil ?_)
      | (refine g_code ?_; first | refine ec_seq ?_ | refine ec_region ?_ | refine ec_skip ?_ | refine ec_ret ?_ | refine ec_condT rfl ?_ | refine ec_condF rfl ?_ | refine ec_condTH rfl (by assumption) ?_ | refine ec_condFH rfl (by assumption) ?_)
      | refine ek_seqN ?_ | refine ek_seqR ?_)
    refine sfin (.inr rfl) (by rfl) (by rfl) (by exact ⟨rfl, rfl, rfl⟩) (by rfl) (by rfl) (by rw [sdR, if_neg (by rw [h1]; simp)]; try rfl) (by first | rfl | (simp; done) | (simp [ints, prs]; done))
  · rw [h1] at e1
    obtain ⟨n, b, rfl, rfl, h2, h3, h4⟩ := isFn_nat h1
    have e2 := ev11 z 0 1
    by_cases h5 : 0 ≤ z ∧ z ≤ 1
    · rw [decide_eq_true h5] at e2
      obtain ⟨c, rfl⟩ := Int.eq_ofNat_of_zero_le h5.1
      rw [show (sdR n b c) = (((dgI b c n : Nat) : Int), 0) by rw [sdR, if_pos h1, if_pos h5]; rfl]
      refine has6.eev rfl rfl ?_
      unfold m6
      repeat' (first
        | (refine g_op ?_; first
          | refine ep_mov rfl ?_ | refine sp_loadN rfl rfl rfl rfl rfl ?_
          | refine ep_call0 rfl (by first | exact e1 | exact e2 | exact ev12 _ _ _ h2 h4 (by omega)) rfl rfl ?_
          | refine sp_call rfl rfl rfl rfl (by first | exact e1 | exact e2 | exact ev12 _ _ _ h2 h4 (by omega)) ⟨rfl, rfl, rfl, rfl⟩ rfl rfl rfl ?_
          | refine ep_not rfl ?_ | refine sp_box rfl rfl rfl rfl rfl ?_)
        | (refine g_ops ?_; first | refine eo_none ?_ | refine eo_nil ?_)
        | (refine g_code ?_; first | refine ec_seq ?_ | refine ec_region ?_ | refine ec_skip ?_ | refine ec_ret ?_ | refine ec_condT rfl ?_ | refine ec_condF rfl ?_ | refine ec_condTH rfl (by assumption) ?_ | refine ec_condFH rfl (by assumption) ?_)
        | refine ek_seqN ?_ | refine ek_seqR ?_)
      refine sfin (.inr rfl) (by rfl) (by rfl) (by exact ⟨rfl, rfl, rfl⟩) (by rfl) (by rfl) (by rfl) (by first | rfl | (simp; done) | (simp [ints, prs]; done))
    · rw [decide_eq_false h5] at e2
      refine has6.eev rfl rfl ?_
      unfold m6
      repeat' (first
        | (refine g_op ?_; first
          | refine ep_mov rfl ?_ | refine sp_loadN rfl rfl rfl rfl rfl ?_
          | refine ep_call0 rfl (by first | exact e1 | exact e2) rfl rfl ?_
          | refine sp_call rfl rfl rfl rfl (by first | exact e1 | exact e2) ⟨rfl, rfl, rfl, rfl⟩ rfl rfl rfl ?_
          | refine ep_not rfl ?_ | refine sp_box rfl rfl rfl rfl rfl ?_)
        | (refine g_ops ?_; first | refine eo_none ?_ | refine eo_nil ?_)
        | (refine g_code ?_; first | refine ec_seq ?_ | refine ec_region ?_ | refine ec_skip ?_ | refine ec_ret ?_ | refine ec_condT rfl ?_ | refine ec_condF rfl ?_ | refine ec_condTH rfl (by assumption) ?_ | refine ec_condFH rfl (by assumption) ?_)
        | refine ek_seqN ?_ | refine ek_seqR ?_)
      refine sfin (.inr rfl) (by rfl) (by rfl) (by exact ⟨rfl, rfl, rfl⟩) (by rfl) (by rfl) (by rw [sdR, if_pos h1, if_neg h5]; try rfl) (by first | rfl | (simp; done) | (simp [ints, prs]; done))
-- laws.FnExactSeparatingDegree
def m3 : MC := (.seq (.region [⟨(.box (.t 0)), (some 2), none⟩, ⟨(.mov (.k (.bool false))), (some 4), none⟩] false) (.seq (.region [⟨(.load (some 2) (.t 2)), (some 10), none⟩, ⟨(.call 5 [(.t 10)]), (some 11), none⟩, ⟨(.mov (.t 1)), (some 12), none⟩, ⟨(.call 4 [(.t 11), (.t 12)]), (some 13), none⟩, ⟨(.mov (.t 13)), (some 9), none⟩, ⟨(.extract (.t 9) 0), (some 14), none⟩, ⟨(.extract (.t 9) 1), (some 15), none⟩, ⟨(.mov (.t 14)), (some 5), none⟩, ⟨(.mov (.t 15)), (some 6), none⟩] false) (.seq (.region [⟨(.load (some 2) (.t 2)), (some 17), none⟩, ⟨(.call 5 [(.t 17)]), (some 18), none⟩, ⟨(.mov (.t 1)), (some 19), none⟩, ⟨(.call 6 [(.t 18), (.t 19)]), (some 20), none⟩, ⟨(.mov (.t 20)), (some 16), none⟩, ⟨(.extract (.t 16) 0), (some 21), none⟩, ⟨(.extract (.t 16) 1), (some 22), none⟩, ⟨(.mov (.t 21)), (some 7), none⟩, ⟨(.mov (.t 22)), (some 8), none⟩] false) (.seq (.seq (.region [⟨(.mov (.t 7)), (some 23), none⟩, ⟨(.mov (.t 5)), (some 24), none⟩, ⟨(.bin .neq (.t 23) (.t 24)), (some 25), none⟩, ⟨(.mov (.t 25)), (some 26), none⟩, ⟨(.mov (.t 8)), (some 27), (some (26, false))⟩, ⟨(.mov (.t 6)), (some 28), (some (26, false))⟩, ⟨(.bin .neq (.t 27) (.t 28)), (some 29), (some (26, false))⟩, ⟨(.pick (.t 26) (.k (.bool true)) (.t 29)), (some 30), none⟩] false) (.cond (.t 30) (.seq (.region [⟨(.mov (.k (.bool false))), (some 4), none⟩] false) .ret) .skip)) (.seq (.region [⟨(.mov (.k (.bool true))), (some 4), none⟩] false) .ret)))))
theorem has3 : Has cx 3 31 m3 [(.tmp 4)] :=
  ⟨⟨Try.f3, Try.f3.body.getD .skip, by kernel_rfl, by kernel_rfl, by kernel_rfl, by kernel_rfl, by kernel_rfl, by kernel_rfl⟩⟩
theorem ev3 (p t z : Int) : Ev cx 3 [.agg [.int .i64 p, .int .i64 t], .int .i64 z] [] (.bool true) [] := by
  have e1 := ev4 p t z
  have e2 := ev6 p t z
  generalize sdR p t z = q at e1 e2
  have h1 : (q.1 != q.1) = false := by simp
  have h2 : (q.2 != q.2) = false := by simp
  refine has3.eev rfl rfl ?_
  unfold m3
  repeat' (first
    | (refine g_op ?_; first
      | refine ep_mov rfl ?_ | refine sp_loadN rfl rfl rfl rfl rfl ?_
      | refine ep_call0 rfl (by first | exact e1 | exact ev5 _ _ | exact e2) rfl rfl ?_
      | refine sp_call rfl rfl rfl rfl (by first | exact e1 | exact ev5 _ _ | exact e2) ⟨rfl, rfl, rfl, rfl⟩ rfl rfl rfl ?_
      | refine ep_bin rfl rfl (by exact b_neq) ?_ | refine ep_pickT rfl rfl ?_ | refine ep_pickF rfl rfl ?_ | refine ep_pickTH rfl (by assumption) rfl ?_ | refine ep_pickFH rfl (by assumption) rfl ?_
      | refine ep_extract rfl rfl ?_ | refine sp_box rfl rfl rfl rfl rfl ?_)
    | (refine g_ops ?_; first | refine eo_none ?_ | refine eo_nil ?_ | refine eo_yes rfl ?_ | refine eo_no rfl ?_ | refine eo_und rfl ?_ | refine eo_yesH rfl (by assumption) ?_ | refine eo_noH rfl (by assumption) ?_)
    | (refine g_code ?_; first | refine ec_seq ?_ | refine ec_region ?_ | refine ec_skip ?_ | refine ec_ret ?_ | refine ec_condT rfl ?_ | refine ec_condF rfl ?_ | refine ec_condTH rfl (by assumption) ?_ | refine ec_condFH rfl (by assumption) ?_)
    | refine ek_seqN ?_ | refine ek_seqR ?_)
  refine sfin (.inr rfl) (by rfl) (by rfl) (by exact ⟨rfl, rfl, rfl⟩) (by rfl) (by rfl) (by rfl) (by first | rfl | (simp; done) | (simp [ints, prs]; done))


end Go.Proofs.Ytffakaalcnpgeaa
