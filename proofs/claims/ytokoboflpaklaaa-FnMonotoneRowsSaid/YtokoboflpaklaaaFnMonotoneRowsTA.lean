/- What each function that the statement reaches returns. -/
import Derived.Test.YtokoboflpaklaaaMiD
import Derived.Test.YtokoboflpaklaaaChecked
import Derived.KernelRfl
import Derived.WalkKit
import Derived.WalkSpells
import Derived.Maps.RangeWalk
import Derived.Maps.OwnSet
import Derived.Lib.Strings
import Derived.Lib.Slices
import Derived.Lib.Walk
import Derived.Lib.Bytealg
import Derived.OwnWalk
import Derived.Lib.SliceRun
import Derived.Maps.AppendAt
import Derived.Deep.RegionWith
import Derived.Deep.Cut
import Derived.Deep.CutRange
set_option linter.unusedVariables false
set_option linter.unusedSimpArgs false
set_option maxRecDepth 100000
set_option maxHeartbeats 4000000
namespace Go.Proofs.Ytokoboflpaklaaa
open Go Go.Proofs.Ytokoboflpaklaaa.Mi
noncomputable def cx : Cx := ⟨Try.prog, id, id, by kernel_rfl⟩
attribute [local irreducible] code opsK opsDK gopK opK seqK blockK callK binV
def R2 (n : Nat) : Nat := 2 ^ n
theorem shR (n : Nat) : 1 <<< n = R2 n := by simp [R2, Nat.shiftLeft_eq]
theorem shN {n : Nat} (h : n ≤ 4) : R2 n ≤ 16 ∧ R2 (R2 n) ≤ 65536 ∧ 1 ≤ R2 n ∧ 1 ≤ R2 (R2 n) := by
  have : n = 0 ∨ n = 1 ∨ n = 2 ∨ n = 3 ∨ n = 4 := by omega
  rcases this with rfl | rfl | rfl | rfl | rfl <;> decide
theorem b_shl1 {k' : IntKind} {y : Nat} (h : R2 y < 9223372036854775808) (hy : y ≤ 64) : binV .shl (.int .i64 1) (.int k' y) = some (.int .i64 (R2 y : Nat)) := by
  rw [← shR]; exact b_shl (x := 1) (by rw [shR]; exact h) hy
attribute [local irreducible] R2
def isFn (p t : Int) : Bool := decide (0 ≤ p ∧ p ≤ 4) && decide (0 ≤ t ∧ t ≤ (R2 (R2 p.toNat) : Nat) - 1)
-- impl.within
def m110 : MC := (.seq (.region [⟨(.mov (.k (.bool false))), (some 6), none⟩] false) (.seq (.region [⟨(.mov (.t 0)), (some 7), none⟩, ⟨(.mov (.t 1)), (some 8), none⟩, ⟨(.bin .geq (.t 7) (.t 8)), (some 9), none⟩, ⟨(.mov (.t 9)), (some 10), none⟩, ⟨(.mov (.t 0)), (some 11), (some (10, true))⟩, ⟨(.mov (.t 2)), (some 12), (some (10, true))⟩, ⟨(.bin .leq (.t 11) (.t 12)), (some 13), (some (10, true))⟩, ⟨(.pick (.t 10) (.t 13) (.k (.bool false))), (some 14), none⟩, ⟨(.mov (.t 14)), (some 6), none⟩] false) .ret))
theorem has110 : Has cx 110 15 m110 [(.tmp 6)] :=
  ⟨⟨Try.f110, Try.f110.body.getD .skip, by kernel_rfl, by kernel_rfl, by kernel_rfl, by kernel_rfl, by kernel_rfl, by kernel_rfl⟩⟩
theorem ev110 (z lo hi : Int) : Ev cx 110 [.int .i64 z, .int .i64 lo, .int .i64 hi] [] (.bool (decide (lo ≤ z ∧ z ≤ hi))) [] := by
  by_cases h1 : lo ≤ z
  · have h2 : decide (z ≥ lo) = true := decide_eq_true h1
    refine has110.eev rfl rfl ?_
    unfold m110
    repeat' (first
      | (refine g_op ?_; first
        | refine ep_mov rfl ?_
        | refine ep_bin rfl rfl (by first | exact b_leq | exact b_geq) ?_ | refine ep_pickT rfl rfl ?_ | refine ep_pickF rfl rfl ?_ | refine ep_pickTH rfl (by assumption) rfl ?_ | refine ep_pickFH rfl (by assumption) rfl ?_)
      | (refine g_ops ?_; first | refine eo_none ?_ | refine eo_nil ?_ | refine eo_yes rfl ?_ | refine eo_no rfl ?_ | refine eo_und rfl ?_ | refine eo_yesH rfl (by assumption) ?_ | refine eo_noH rfl (by assumption) ?_)
      | (refine g_code ?_; first | refine ec_seq ?_ | refine ec_region ?_ | refine ec_ret ?_)
      | refine ek_seqN ?_ | refine ek_seqR ?_)
    refine sfin (.inr rfl) (by rfl) (by rfl) (by exact ⟨rfl, rfl, rfl⟩) (by rfl) (by rfl) (by exact congrArg V.bool (by simp [h1])) (by first | rfl | (simp; done) | (simp [ints, prs]; done))
  · have h2 : decide (z ≥ lo) = false := decide_eq_false h1
    refine has110.eev rfl rfl ?_
    unfold m110
    repeat' (first
      | (refine g_op ?_; first
        | refine ep_mov rfl ?_
        | refine ep_bin rfl rfl (by first | exact b_leq | exact b_geq) ?_ | refine ep_pickT rfl rfl ?_ | refine ep_pickF rfl rfl ?_ | refine ep_pickTH rfl (by assumption) rfl ?_ | refine ep_pickFH rfl (by assumption) rfl ?_)
      | (refine g_ops ?_; first | refine eo_none ?_ | refine eo_nil ?_ | refine eo_yes rfl ?_ | refine eo_no rfl ?_ | refine eo_und rfl ?_ | refine eo_yesH rfl (by assumption) ?_ | refine eo_noH rfl (by assumption) ?_)
      | (refine g_code ?_; first | refine ec_seq ?_ | refine ec_region ?_ | refine ec_ret ?_)
      | refine ek_seqN ?_ | refine ek_seqR ?_)
    refine sfin (.inr rfl) (by rfl) (by rfl) (by exact ⟨rfl, rfl, rfl⟩) (by rfl) (by rfl) (by exact congrArg V.bool (by simp [h1])) (by first | rfl | (simp; done) | (simp [ints, prs]; done))
-- spec.l01In
def m122 : MC := (.seq (.region [⟨(.mov (.k (.bool false))), (some 6), none⟩] false) (.seq (.region [⟨(.mov (.t 0)), (some 7), none⟩, ⟨(.mov (.t 1)), (some 8), none⟩, ⟨(.bin .geq (.t 7) (.t 8)), (some 9), none⟩, ⟨(.mov (.t 9)), (some 10), none⟩, ⟨(.mov (.t 0)), (some 11), (some (10, true))⟩, ⟨(.mov (.t 2)), (some 12), (some (10, true))⟩, ⟨(.bin .leq (.t 11) (.t 12)), (some 13), (some (10, true))⟩, ⟨(.pick (.t 10) (.t 13) (.k (.bool false))), (some 14), none⟩, ⟨(.mov (.t 14)), (some 6), none⟩] false) .ret))
theorem has122 : Has cx 122 15 m122 [(.tmp 6)] :=
  ⟨⟨Try.f122, Try.f122.body.getD .skip, by kernel_rfl, by kernel_rfl, by kernel_rfl, by kernel_rfl, by kernel_rfl, by kernel_rfl⟩⟩
theorem ev122 (z lo hi : Int) : Ev cx 122 [.int .i64 z, .int .i64 lo, .int .i64 hi] [] (.bool (decide (lo ≤ z ∧ z ≤ hi))) [] := by
  by_cases h1 : lo ≤ z
  · have h2 : decide (z ≥ lo) = true := decide_eq_true h1
    refine has122.eev rfl rfl ?_
    unfold m122
    repeat' (first
      | (refine g_op ?_; first
        | refine ep_mov rfl ?_
        | refine ep_bin rfl rfl (by first | exact b_leq | exact b_geq) ?_ | refine ep_pickT rfl rfl ?_ | refine ep_pickF rfl rfl ?_ | refine ep_pickTH rfl (by assumption) rfl ?_ | refine ep_pickFH rfl (by assumption) rfl ?_)
      | (refine g_ops ?_; first | refine eo_none ?_ | refine eo_nil ?_ | refine eo_yes rfl ?_ | refine eo_no rfl ?_ | refine eo_und rfl ?_ | refine eo_yesH rfl (by assumption) ?_ | refine eo_noH rfl (by assumption) ?_)
      | (refine g_code ?_; first | refine ec_seq ?_ | refine ec_region ?_ | refine ec_ret ?_)
      | refine ek_seqN ?_ | refine ek_seqR ?_)
    refine sfin (.inr rfl) (by rfl) (by rfl) (by exact ⟨rfl, rfl, rfl⟩) (by rfl) (by rfl) (by exact congrArg V.bool (by simp [h1])) (by first | rfl | (simp; done) | (simp [ints, prs]; done))
  · have h2 : decide (z ≥ lo) = false := decide_eq_false h1
    refine has122.eev rfl rfl ?_
    unfold m122
    repeat' (first
      | (refine g_op ?_; first
        | refine ep_mov rfl ?_
        | refine ep_bin rfl rfl (by first | exact b_leq | exact b_geq) ?_ | refine ep_pickT rfl rfl ?_ | refine ep_pickF rfl rfl ?_ | refine ep_pickTH rfl (by assumption) rfl ?_ | refine ep_pickFH rfl (by assumption) rfl ?_)
      | (refine g_ops ?_; first | refine eo_none ?_ | refine eo_nil ?_ | refine eo_yes rfl ?_ | refine eo_no rfl ?_ | refine eo_und rfl ?_ | refine eo_yesH rfl (by assumption) ?_ | refine eo_noH rfl (by assumption) ?_)
      | (refine g_code ?_; first | refine ec_seq ?_ | refine ec_region ?_ | refine ec_ret ?_)
      | refine ek_seqN ?_ | refine ek_seqR ?_)
    refine sfin (.inr rfl) (by rfl) (by rfl) (by exact ⟨rfl, rfl, rfl⟩) (by rfl) (by rfl) (by exact congrArg V.bool (by simp [h1])) (by first | rfl | (simp; done) | (simp [ints, prs]; done))
-- impl.rowsOf
def m111 : MC := (.seq (.region [⟨(.mov (.k (.int .i64 0))), (some 2), none⟩] false) (.seq (.region [⟨(.mov (.t 0)), (some 3), none⟩, ⟨(.bin .shl (.k (.int .i64 1)) (.t 3)), (some 4), none⟩, ⟨(.mov (.t 4)), (some 2), none⟩] false) .ret))
theorem has111 : Has cx 111 5 m111 [(.tmp 2)] :=
  ⟨⟨Try.f111, Try.f111.body.getD .skip, by kernel_rfl, by kernel_rfl, by kernel_rfl, by kernel_rfl, by kernel_rfl, by kernel_rfl⟩⟩
theorem ev111 (n : Nat) (h : n ≤ 4) : Ev cx 111 [.int .i64 n] [] (.int .i64 (R2 n : Nat)) [] := by
  obtain ⟨h1, h2, h3, h4⟩ := shN h
  refine has111.eev rfl rfl ?_
  unfold m111
  repeat' (first
    | (refine g_op ?_; first
      | refine ep_mov rfl ?_
      | refine ep_bin rfl rfl (by first | exact b_shl1 (by omega) (by omega) | exact b_shl (by omega) (by omega)) ?_)
    | (refine g_ops ?_; first | refine eo_none ?_ | refine eo_nil ?_)
    | (refine g_code ?_; first | refine ec_seq ?_ | refine ec_region ?_ | refine ec_ret ?_)
    | refine ek_seqN ?_ | refine ek_seqR ?_)
  refine sfin (.inr rfl) (by rfl) (by rfl) (by exact ⟨rfl, rfl, rfl⟩) (by rfl) (by rfl) (by rfl) (by first | rfl | (simp; done) | (simp [ints, prs]; done))
-- impl.funcsOf
def m171 : MC := (.seq (.region [⟨(.mov (.k (.int .i64 0))), (some 2), none⟩] false) (.seq (.region [⟨(.mov (.t 0)), (some 3), none⟩, ⟨(.call 111 [(.t 3)]), (some 4), none⟩, ⟨(.bin .shl (.k (.int .i64 1)) (.t 4)), (some 5), none⟩, ⟨(.mov (.t 5)), (some 2), none⟩] false) .ret))
theorem has171 : Has cx 171 6 m171 [(.tmp 2)] :=
  ⟨⟨Try.f171, Try.f171.body.getD .skip, by kernel_rfl, by kernel_rfl, by kernel_rfl, by kernel_rfl, by kernel_rfl, by kernel_rfl⟩⟩
theorem ev171 (n : Nat) (h : n ≤ 4) : Ev cx 171 [.int .i64 n] [] (.int .i64 (R2 (R2 n) : Nat)) [] := by
  obtain ⟨h1, h2, h3, h4⟩ := shN h
  refine has171.eev rfl rfl ?_
  unfold m171
  repeat' (first
    | (refine g_op ?_; first
      | refine ep_mov rfl ?_
      | refine ep_call0 rfl (by first | exact ev111 _ h) rfl rfl ?_
      | refine sp_call rfl rfl rfl rfl (by first | exact ev111 _ h) ⟨rfl, rfl, rfl, rfl⟩ rfl rfl rfl ?_
      | refine ep_bin rfl rfl (by first | exact b_shl1 (by omega) (by omega) | exact b_shl (by omega) (by omega)) ?_)
    | (refine g_ops ?_; first | refine eo_none ?_ | refine eo_nil ?_)
    | (refine g_code ?_; first | refine ec_seq ?_ | refine ec_region ?_ | refine ec_ret ?_)
    | refine ek_seqN ?_ | refine ek_seqR ?_)
  refine sfin (.inr rfl) (by rfl) (by rfl) (by exact ⟨rfl, rfl, rfl⟩) (by rfl) (by rfl) (by rfl) (by first | rfl | (simp; done) | (simp [ints, prs]; done))
-- spec.l01Rows
def m106 : MC := (.seq (.region [⟨(.mov (.k (.int .i64 0))), (some 2), none⟩] false) (.seq (.region [⟨(.mov (.t 0)), (some 3), none⟩, ⟨(.conv .u64 (.t 3)), (some 4), none⟩, ⟨(.bin .shl (.k (.int .i64 1)) (.t 4)), (some 5), none⟩, ⟨(.mov (.t 5)), (some 2), none⟩] false) .ret))
theorem has106 : Has cx 106 6 m106 [(.tmp 2)] :=
  ⟨⟨Try.f106, Try.f106.body.getD .skip, by kernel_rfl, by kernel_rfl, by kernel_rfl, by kernel_rfl, by kernel_rfl, by kernel_rfl⟩⟩
theorem ev106 (n : Nat) (h : n ≤ 4) : Ev cx 106 [.int .i64 n] [] (.int .i64 (R2 n : Nat)) [] := by
  obtain ⟨h1, h2, h3, h4⟩ := shN h
  refine has106.eev rfl rfl ?_
  unfold m106
  repeat' (first
    | (refine g_op ?_; first
      | refine ep_mov rfl ?_
      | refine ep_bin rfl rfl (by first | exact b_shl1 (by omega) (by omega) | exact b_shl (by omega) (by omega)) ?_ | refine ep_conv rfl (by first | exact w_u64 (by omega) (by omega) | exact wrap_id (by omega) (by omega) | rfl) ?_)
    | (refine g_ops ?_; first | refine eo_none ?_ | refine eo_nil ?_)
    | (refine g_code ?_; first | refine ec_seq ?_ | refine ec_region ?_ | refine ec_ret ?_)
    | refine ek_seqN ?_ | refine ek_seqR ?_)
  refine sfin (.inr rfl) (by rfl) (by rfl) (by exact ⟨rfl, rfl, rfl⟩) (by rfl) (by rfl) (by rfl) (by first | rfl | (simp; done) | (simp [ints, prs]; done))
-- spec.l01All
def m130 : MC := (.seq (.region [⟨(.mov (.k (.int .i64 0))), (some 2), none⟩] false) (.seq (.region [⟨(.mov (.t 0)), (some 3), none⟩, ⟨(.call 106 [(.t 3)]), (some 4), none⟩, ⟨(.conv .u64 (.t 4)), (some 5), none⟩, ⟨(.bin .shl (.k (.int .i64 1)) (.t 5)), (some 6), none⟩, ⟨(.bin .sub (.t 6) (.k (.int .i64 1))), (some 7), none⟩, ⟨(.mov (.t 7)), (some 2), none⟩] false) .ret))
theorem has130 : Has cx 130 8 m130 [(.tmp 2)] :=
  ⟨⟨Try.f130, Try.f130.body.getD .skip, by kernel_rfl, by kernel_rfl, by kernel_rfl, by kernel_rfl, by kernel_rfl, by kernel_rfl⟩⟩
theorem ev130 (n : Nat) (h : n ≤ 4) : Ev cx 130 [.int .i64 n] [] (.int .i64 ((R2 (R2 n) : Nat) - 1)) [] := by
  obtain ⟨h1, h2, h3, h4⟩ := shN h
  refine has130.eev rfl rfl ?_
  unfold m130
  repeat' (first
    | (refine g_op ?_; first
      | refine ep_mov rfl ?_
      | refine ep_call0 rfl (by first | exact ev106 _ h) rfl rfl ?_
      | refine sp_call rfl rfl rfl rfl (by first | exact ev106 _ h) ⟨rfl, rfl, rfl, rfl⟩ rfl rfl rfl ?_
      | refine ep_bin rfl rfl (by first | exact b_shl1 (by omega) (by omega) | exact b_sub (by omega) (by omega) | exact b_shl (by omega) (by omega)) ?_ | refine ep_conv rfl (by first | exact w_u64 (by omega) (by omega) | exact wrap_id (by omega) (by omega) | rfl) ?_)
    | (refine g_ops ?_; first | refine eo_none ?_ | refine eo_nil ?_)
    | (refine g_code ?_; first | refine ec_seq ?_ | refine ec_region ?_ | refine ec_ret ?_)
    | refine ek_seqN ?_ | refine ek_seqR ?_)
  refine sfin (.inr rfl) (by rfl) (by rfl) (by exact ⟨rfl, rfl, rfl⟩) (by rfl) (by rfl) (by rfl) (by first | rfl | (simp; done) | (simp [ints, prs]; done))
-- impl.isArity
def m108 : MC := (.seq (.region [⟨(.mov (.k (.bool false))), (some 2), none⟩] false) (.seq (.region [⟨(.mov (.t 0)), (some 3), none⟩, ⟨(.call 110 [(.t 3), (.k (.int .i64 0)), (.k (.int .i64 4))]), (some 4), none⟩, ⟨(.mov (.t 4)), (some 2), none⟩] false) .ret))
theorem has108 : Has cx 108 5 m108 [(.tmp 2)] :=
  ⟨⟨Try.f108, Try.f108.body.getD .skip, by kernel_rfl, by kernel_rfl, by kernel_rfl, by kernel_rfl, by kernel_rfl, by kernel_rfl⟩⟩
theorem ev108 (z : Int) : Ev cx 108 [.int .i64 z] [] (.bool (decide (0 ≤ z ∧ z ≤ 4))) [] := by
  refine has108.eev rfl rfl ?_
  unfold m108
  repeat' (first
    | (refine g_op ?_; first
      | refine ep_mov rfl ?_
      | refine ep_call0 rfl (by first | exact ev110 _ _ _) rfl rfl ?_
      | refine sp_call rfl rfl rfl rfl (by first | exact ev110 _ _ _) ⟨rfl, rfl, rfl, rfl⟩ rfl rfl rfl ?_)
    | (refine g_ops ?_; first | refine eo_none ?_ | refine eo_nil ?_)
    | (refine g_code ?_; first | refine ec_seq ?_ | refine ec_region ?_ | refine ec_ret ?_)
    | refine ek_seqN ?_ | refine ek_seqR ?_)
  refine sfin (.inr rfl) (by rfl) (by rfl) (by exact ⟨rfl, rfl, rfl⟩) (by rfl) (by rfl) (by rfl) (by first | rfl | (simp; done) | (simp [ints, prs]; done))
structure RR where
  a : Int
  b : Int
  c : Int
abbrev rr (x : RR) : V := .tup [.agg [.int .i64 x.a, .int .i64 x.b], .int .i64 x.c]
theorem isFn_nat {p t : Int} (h : isFn p t = true) : ∃ n b : Nat, p = n ∧ t = b ∧ n ≤ 4 ∧ b < R2 (R2 n) ∧ b < 65536 := by
  simp only [isFn, Bool.and_eq_true, decide_eq_true_eq] at h
  obtain ⟨⟨h1, h2⟩, h3, h4⟩ := h
  obtain ⟨n, rfl⟩ := Int.eq_ofNat_of_zero_le (show 0 ≤ p by omega)
  obtain ⟨b, rfl⟩ := Int.eq_ofNat_of_zero_le h3
  simp only [Int.toNat_natCast] at h4
  obtain ⟨_, q, _⟩ := shN (n := n) (by omega)
  exact ⟨n, b, rfl, rfl, by omega, by omega, by omega⟩
def bt (b r : Nat) : Nat := (b >>> r) &&& 1
theorem bt_le (b r : Nat) : bt b r ≤ 1 := by unfold bt; exact Nat.and_le_right
theorem shr_lt {b r : Nat} (h : b < 9223372036854775808) : b >>> r < 9223372036854775808 := Nat.lt_of_le_of_lt (Nat.shiftRight_le b r) h
theorem b_bt {b r : Nat} (h : b < 9223372036854775808) : binV .and (.int .i64 (b >>> r : Nat)) (.int .i64 1) = some (.int .i64 (bt b r : Nat)) := b_and (y := 1) (shr_lt h) (by omega)
theorem R2_le {j n : Nat} (h : j < n) : 2 * R2 j ≤ R2 n := by
  unfold R2; rw [← Nat.pow_succ']; exact Nat.pow_le_pow_right (by omega) (by omega)
theorem or_lt {x y n : Nat} (hx : x < R2 n) (hy : y < R2 n) : x ||| y < R2 n := by unfold R2 at *; exact Nat.or_lt_two_pow hx hy
attribute [local irreducible] bt
-- impl.bit
def m147 : MC := (.seq (.region [⟨(.mov (.k (.int .i64 0))), (some 4), none⟩] false) (.seq (.region [⟨(.mov (.t 0)), (some 5), none⟩, ⟨(.mov (.t 1)), (some 6), none⟩, ⟨(.bin .shr (.t 5) (.t 6)), (some 7), none⟩, ⟨(.bin .and (.t 7) (.k (.int .i64 1))), (some 8), none⟩, ⟨(.mov (.t 8)), (some 4), none⟩] false) .ret))
theorem has147 : Has cx 147 9 m147 [(.tmp 4)] :=
  ⟨⟨Try.f147, Try.f147.body.getD .skip, by kernel_rfl, by kernel_rfl, by kernel_rfl, by kernel_rfl, by kernel_rfl, by kernel_rfl⟩⟩
theorem ev147 (b r : Nat) (hb : b < 9223372036854775808) (hr : r ≤ 64) : Ev cx 147 [.int .i64 b, .int .i64 r] [] (.int .i64 (bt b r : Nat)) [] := by
  refine has147.eev rfl rfl ?_
  unfold m147
  repeat' (first
    | (refine g_op ?_; first
      | refine ep_mov rfl ?_
      | refine ep_bin rfl rfl (by first | exact b_shr hr | exact b_bt hb | exact b_and (by omega) (by omega) | exact b_shr (by omega)) ?_)
    | (refine g_ops ?_; first | refine eo_none ?_ | refine eo_nil ?_)
    | (refine g_code ?_; first | refine ec_seq ?_ | refine ec_region ?_ | refine ec_ret ?_)
    | refine ek_seqN ?_ | refine ek_seqR ?_)
  refine sfin (.inr rfl) (by rfl) (by rfl) (by exact ⟨rfl, rfl, rfl⟩) (by rfl) (by rfl) (by rfl) (by first | rfl | (simp; done) | (simp [ints, prs]; done))
-- (impl.Func).at
def m118 : MC := (.seq (.region [⟨(.box (.t 0)), (some 2), none⟩, ⟨(.mov (.k (.int .i64 0))), (some 4), none⟩] false) (.seq (.region [⟨(.fieldAddr 1 (.t 2)), (some 5), none⟩, ⟨(.load none (.t 5)), (some 6), none⟩, ⟨(.mov (.t 1)), (some 7), none⟩, ⟨(.call 147 [(.t 6), (.t 7)]), (some 8), none⟩, ⟨(.mov (.t 8)), (some 4), none⟩] false) .ret))
theorem has118 : Has cx 118 9 m118 [(.tmp 4)] :=
  ⟨⟨Try.f118, Try.f118.body.getD .skip, by kernel_rfl, by kernel_rfl, by kernel_rfl, by kernel_rfl, by kernel_rfl, by kernel_rfl⟩⟩
theorem ev118 (n : Int) (b r : Nat) (hb : b < 9223372036854775808) (hr : r ≤ 64) : Ev cx 118 [.agg [.int .i64 n, .int .i64 b], .int .i64 r] [] (.int .i64 (bt b r : Nat)) [] := by
  refine has118.eev rfl rfl ?_
  unfold m118
  repeat' (first
    | (refine g_op ?_; first
      | refine ep_mov rfl ?_ | refine ep_load1 rfl rfl rfl rfl ?_ | refine ep_fieldAddr rfl ?_
      | refine ep_call0 rfl (by first | exact ev147 _ _ hb hr) rfl rfl ?_
      | refine sp_call rfl rfl rfl rfl (by first | exact ev147 _ _ hb hr) ⟨rfl, rfl, rfl, rfl⟩ rfl rfl rfl ?_
      | refine sp_box rfl rfl rfl rfl rfl ?_)
    | (refine g_ops ?_; first | refine eo_none ?_ | refine eo_nil ?_)
    | (refine g_code ?_; first | refine ec_seq ?_ | refine ec_region ?_ | refine ec_ret ?_)
    | refine ek_seqN ?_ | refine ek_seqR ?_)
  refine sfin (.inr rfl) (by rfl) (by rfl) (by exact ⟨rfl, rfl, rfl⟩) (by rfl) (by rfl) (by rfl) (by first | rfl | (simp; done) | (simp [ints, prs]; done))
-- (impl.Func).rows
def m182 : MC := (.seq (.region [⟨(.box (.t 0)), (some 1), none⟩, ⟨(.mov (.k (.int .i64 0))), (some 2), none⟩] false) (.seq (.region [⟨(.fieldAddr 0 (.t 1)), (some 3), none⟩, ⟨(.load none (.t 3)), (some 4), none⟩, ⟨(.call 111 [(.t 4)]), (some 5), none⟩, ⟨(.mov (.t 5)), (some 2), none⟩] false) .ret))
theorem has182 : Has cx 182 6 m182 [(.tmp 2)] :=
  ⟨⟨Try.f182, Try.f182.body.getD .skip, by kernel_rfl, by kernel_rfl, by kernel_rfl, by kernel_rfl, by kernel_rfl, by kernel_rfl⟩⟩
theorem ev182 (n : Nat) (b : Int) (h : n ≤ 4) : Ev cx 182 [.agg [.int .i64 n, .int .i64 b]] [] (.int .i64 (R2 n : Nat)) [] := by
  refine has182.eev rfl rfl ?_
  unfold m182
  repeat' (first
    | (refine g_op ?_; first
      | refine ep_mov rfl ?_ | refine ep_load1 rfl rfl rfl rfl ?_ | refine ep_fieldAddr rfl ?_
      | refine ep_call0 rfl (by first | exact ev111 _ h) rfl rfl ?_
      | refine sp_call rfl rfl rfl rfl (by first | exact ev111 _ h) ⟨rfl, rfl, rfl, rfl⟩ rfl rfl rfl ?_
      | refine sp_box rfl rfl rfl rfl rfl ?_)
    | (refine g_ops ?_; first | refine eo_none ?_ | refine eo_nil ?_)
    | (refine g_code ?_; first | refine ec_seq ?_ | refine ec_region ?_ | refine ec_ret ?_)
    | refine ek_seqN ?_ | refine ek_seqR ?_)
  refine sfin (.inr rfl) (by rfl) (by rfl) (by exact ⟨rfl, rfl, rfl⟩) (by rfl) (by rfl) (by rfl) (by first | rfl | (simp; done) | (simp [ints, prs]; done))
def monoP (b r i : Nat) : Bool := decide (¬ (bt b r > bt b (r ||| R2 i)))
def monoB (n b : Nat) : Bool := allF (fun r => allF (monoP b r) 0 n) 0 (R2 n)
-- (impl.Func).isMonotone
def m96_1 : MC := (.seq (.region [⟨(.bin .lss (.t 12) (.t 11)), (some 13), none⟩] false) (.seq (.cond (.t 13) .skip (.exit 2)) (.seq (.block 3 (.seq (.region [⟨(.mov (.t 12)), (some 14), none⟩, ⟨(.mov (.t 14)), (some 4), none⟩] false) (.seq (.region [⟨(.load (some 2) (.t 1)), (some 15), none⟩, ⟨(.mov (.t 3)), (some 16), none⟩, ⟨(.call 118 [(.t 15), (.t 16)]), (some 17), none⟩, ⟨(.load (some 2) (.t 1)), (some 18), none⟩, ⟨(.mov (.t 3)), (some 19), none⟩, ⟨(.mov (.t 4)), (some 20), none⟩, ⟨(.bin .shl (.k (.int .i64 1)) (.t 20)), (some 21), none⟩, ⟨(.bin .or (.t 19) (.t 21)), (some 22), none⟩, ⟨(.callw 118 [(.t 18), (.t 22)]), (some 23), none⟩, ⟨(.bin .gtr (.t 17) (.t 23)), (some 24), none⟩] true) (.cond (.t 24) (.seq (.region [⟨(.mov (.k (.bool false))), (some 2), none⟩] false) .ret) .skip)))) (.region [⟨(.bin .add (.t 12) (.k (.int .i64 1))), (some 25), none⟩, ⟨(.mov (.t 25)), (some 12), none⟩] false))))
def m96_0 : MC := (.seq (.region [⟨(.bin .lss (.t 7) (.t 6)), (some 8), none⟩] false) (.seq (.cond (.t 8) .skip (.exit 0)) (.seq (.block 1 (.seq (.region [⟨(.mov (.t 7)), (some 9), none⟩, ⟨(.mov (.t 9)), (some 3), none⟩] false) (.seq (.region [⟨(.fieldAddr 0 (.t 1)), (some 10), none⟩, ⟨(.load none (.t 10)), (some 11), none⟩, ⟨(.mov (.k (.int .i64 0))), (some 12), none⟩] false) (.block 2 (.loop m96_1))))) (.region [⟨(.bin .add (.t 7) (.k (.int .i64 1))), (some 26), none⟩, ⟨(.mov (.t 26)), (some 7), none⟩] false))))
def m96 : MC := (.seq (.region [⟨(.box (.t 0)), (some 1), none⟩, ⟨(.mov (.k (.bool false))), (some 2), none⟩] false) (.seq (.seq (.region [⟨(.load (some 2) (.t 1)), (some 5), none⟩, ⟨(.call 182 [(.t 5)]), (some 6), none⟩, ⟨(.mov (.k (.int .i64 0))), (some 7), none⟩] false) (.block 0 (.loop m96_0))) (.seq (.region [⟨(.mov (.k (.bool true))), (some 2), none⟩] false) .ret)))
theorem has96 : Has cx 96 27 m96 [(.tmp 2)] :=
  ⟨⟨Try.f96, Try.f96.body.getD .skip, by kernel_rfl, by kernel_rfl, by kernel_rfl, by kernel_rfl, by kernel_rfl, by kernel_rfl⟩⟩
theorem lp96_1 (n b r : Nat) (hn : n ≤ 4) (hb : b < 65536) (hr : r < R2 n) (o : Out)
    (ho : (if allF (monoP b r) 0 n = true then (⟨.exit 2, [(1, .ptr 0 0), (6, .int .i64 (R2 n : Nat)), (7, .int .i64 r)], [⟨[.int .i64 n, .int .i64 b], 1, 0, some 0, true⟩]⟩ : Out) else ⟨.ret, [(2, .bool false)], []⟩) = o) :
    LpS cx 27 0 m96_1 [(1, .ptr 0 0), (3, .int .i64 r), (6, .int .i64 (R2 n : Nat)), (7, .int .i64 r), (11, .int .i64 n), (12, .int .i64 (0 : Nat))] [⟨[.int .i64 n, .int .i64 b], 1, 0, some 0, true⟩] o.x o.e o.h := by
  obtain ⟨h1, h2, h3, h4⟩ := shN hn
  refine lp_all n (monoP b r) (fun j => [(1, .ptr 0 0), (3, .int .i64 r), (6, .int .i64 (R2 n : Nat)), (7, .int .i64 r), (11, .int .i64 n), (12, .int .i64 (j : Nat))]) (fun _ => [⟨[.int .i64 n, .int .i64 b], 1, 0, some 0, true⟩]) _ _ ?_ ?_ ?_ n 0 o (by omega) ho
  · intro j hj hp
    have h5 := R2_le hj
    have h6 := or_lt hr (show R2 j < R2 n by omega)
    have h7 : decide ((j : Int) < (n : Nat)) = true := decide_eq_true (by omega)
    have h8 : decide (((bt b r : Nat) : Int) > (bt b (r ||| R2 j) : Nat)) = false := by simp only [monoP, decide_eq_true_eq] at hp; exact decide_eq_false (by omega)
    unfold m96_1
    repeat' (first
      | (refine g_op ?_; first
        | refine ep_mov rfl ?_ | refine sp_loadN rfl rfl rfl rfl rfl ?_
        | refine ep_call0 rfl (by first | exact ev118 _ _ _ (by omega) (by omega)) rfl rfl ?_
        | refine sp_call rfl rfl rfl rfl (by first | exact ev118 _ _ _ (by omega) (by omega)) ⟨rfl, rfl, rfl, rfl⟩ rfl rfl rfl ?_
        | refine ep_callw0 rfl (by first | exact ev118 _ _ _ (by omega) (by omega)) rfl rfl ?_
        | refine sp_callw rfl rfl rfl rfl (by first | exact ev118 _ _ _ (by omega) (by omega)) ⟨rfl, rfl, rfl, rfl⟩ rfl rfl rfl (by first | exact WrP_refl _ _ | (repeat' (first | exact rfl | exact True.intro | refine And.intro ?_ ?_))) ?_
        | refine ep_bin rfl rfl (by first | exact b_shl1 (by omega) (by omega) | exact b_add (by omega) (by omega) | exact b_or (by omega) (by omega) | exact b_shl (by omega) (by omega) | exact b_lss | exact b_gtr) ?_)
      | (refine g_ops ?_; first | refine eo_none ?_ | refine eo_nil ?_)
      | (refine g_dops ?_; first | refine ed_none ?_ | refine ed_nil ?_)
      | refine ed_same rfl ?_ | refine ed_one rfl rfl rfl rfl ?_ | refine ed_two rfl rfl rfl rfl rfl rfl rfl ?_ | refine ed_write rfl rfl ?_
      | (refine g_code ?_; first | refine ec_seq ?_ | refine ec_region ?_ | refine ec_draw ?_ | refine ec_block ?_ | refine ec_skip ?_ | refine ec_exit ?_ | refine ec_ret ?_ | refine ec_condT rfl ?_ | refine ec_condF rfl ?_ | refine ec_condTH rfl (by assumption) ?_ | refine ec_condFH rfl (by assumption) ?_)
      | refine ek_seqN ?_ | refine ek_seqX ?_ | refine ek_seqR ?_ | refine ek_blkN ?_ | refine ek_blkR ?_ | refine ek_blkX ?_ | refine ek_blkY rfl ?_)
    exact rnd_on (by rfl) (scmp (by rfl) (by rfl) (by exact ⟨rfl, rfl, rfl⟩) (by rfl) (by rfl) (by rfl))
  · intro j hj hp
    have h5 := R2_le hj
    have h6 := or_lt hr (show R2 j < R2 n by omega)
    have h7 : decide ((j : Int) < (n : Nat)) = true := decide_eq_true (by omega)
    have h8 : decide (((bt b r : Nat) : Int) > (bt b (r ||| R2 j) : Nat)) = true := by simp only [monoP, decide_eq_false_iff_not] at hp; exact decide_eq_true (by omega)
    unfold m96_1
    repeat' (first
      | (refine g_op ?_; first
        | refine ep_mov rfl ?_ | refine sp_loadN rfl rfl rfl rfl rfl ?_
        | refine ep_call0 rfl (by first | exact ev118 _ _ _ (by omega) (by omega)) rfl rfl ?_
        | refine sp_call rfl rfl rfl rfl (by first | exact ev118 _ _ _ (by omega) (by omega)) ⟨rfl, rfl, rfl, rfl⟩ rfl rfl rfl ?_
        | refine ep_callw0 rfl (by first | exact ev118 _ _ _ (by omega) (by omega)) rfl rfl ?_
        | refine sp_callw rfl rfl rfl rfl (by first | exact ev118 _ _ _ (by omega) (by omega)) ⟨rfl, rfl, rfl, rfl⟩ rfl rfl rfl (by first | exact WrP_refl _ _ | (repeat' (first | exact rfl | exact True.intro | refine And.intro ?_ ?_))) ?_
        | refine ep_bin rfl rfl (by first | exact b_shl1 (by omega) (by omega) | exact b_add (by omega) (by omega) | exact b_or (by omega) (by omega) | exact b_shl (by omega) (by omega) | exact b_lss | exact b_gtr) ?_)
      | (refine g_ops ?_; first | refine eo_none ?_ | refine eo_nil ?_)
      | (refine g_dops ?_; first | refine ed_none ?_ | refine ed_nil ?_)
      | refine ed_same rfl ?_ | refine ed_one rfl rfl rfl rfl ?_ | refine ed_two rfl rfl rfl rfl rfl rfl rfl ?_ | refine ed_write rfl rfl ?_
      | (refine g_code ?_; first | refine ec_seq ?_ | refine ec_region ?_ | refine ec_draw ?_ | refine ec_block ?_ | refine ec_skip ?_ | refine ec_exit ?_ | refine ec_ret ?_ | refine ec_condT rfl ?_ | refine ec_condF rfl ?_ | refine ec_condTH rfl (by assumption) ?_ | refine ec_condFH rfl (by assumption) ?_)
      | refine ek_seqN ?_ | refine ek_seqX ?_ | refine ek_seqR ?_ | refine ek_blkN ?_ | refine ek_blkR ?_ | refine ek_blkX ?_ | refine ek_blkY rfl ?_)
    exact rnd_out (by rfl) (by simp) (scmp (by rfl) (by rfl) (by exact ⟨rfl, rfl, rfl⟩) (by rfl) (by rfl) (by rfl))
  · have h7 : decide ((n : Int) < (n : Nat)) = false := decide_eq_false (by omega)
    unfold m96_1
    repeat' (first
      | (refine g_op ?_; first
        | refine ep_mov rfl ?_ | refine sp_loadN rfl rfl rfl rfl rfl ?_
        | refine ep_bin rfl rfl (by first | exact b_add (by omega) (by omega) | exact b_or (by omega) (by omega) | exact b_shl (by omega) (by omega) | exact b_lss | exact b_gtr) ?_)
      | (refine g_ops ?_; first | refine eo_none ?_ | refine eo_nil ?_)
      | (refine g_dops ?_; first | refine ed_none ?_ | refine ed_nil ?_)
      | refine ed_same rfl ?_ | refine ed_one rfl rfl rfl rfl ?_ | refine ed_two rfl rfl rfl rfl rfl rfl rfl ?_ | refine ed_write rfl rfl ?_
      | (refine g_code ?_; first | refine ec_seq ?_ | refine ec_region ?_ | refine ec_draw ?_ | refine ec_block ?_ | refine ec_skip ?_ | refine ec_exit ?_ | refine ec_ret ?_ | refine ec_condT rfl ?_ | refine ec_condF rfl ?_ | refine ec_condTH rfl (by assumption) ?_ | refine ec_condFH rfl (by assumption) ?_)
      | refine ek_seqN ?_ | refine ek_seqX ?_ | refine ek_seqR ?_ | refine ek_blkN ?_ | refine ek_blkR ?_ | refine ek_blkX ?_ | refine ek_blkY rfl ?_)
    exact rnd_out (by rfl) (by simp) (scmp (by rfl) (by rfl) (by exact ⟨rfl, rfl, rfl⟩) (by rfl) (by rfl) (by rfl))
theorem lp96_0 (n b : Nat) (hn : n ≤ 4) (hb : b < 65536) (o : Out) (ho : (if monoB n b = true then (⟨.exit 0, [], []⟩ : Out) else ⟨.ret, [(2, .bool false)], []⟩) = o) :
    LpS cx 27 0 m96_0 [(1, .ptr 0 0), (6, .int .i64 (R2 n : Nat)), (7, .int .i64 (0 : Nat))] [⟨[.int .i64 n, .int .i64 b], 1, 0, some 0, true⟩] o.x o.e o.h := by
  obtain ⟨h1, h2, h3, h4⟩ := shN hn
  refine lp_all (R2 n) (fun r => allF (monoP b r) 0 n) (fun r => [(1, .ptr 0 0), (6, .int .i64 (R2 n : Nat)), (7, .int .i64 (r : Nat))]) (fun _ => [⟨[.int .i64 n, .int .i64 b], 1, 0, some 0, true⟩]) _ _ ?_ ?_ ?_ (R2 n) 0 o (by omega) ho
  · intro r hr hp
    have h7 : decide ((r : Int) < (R2 n : Nat)) = true := decide_eq_true (by omega)
    have lp := lp96_1 n b r hn hb hr _ (if_pos hp)
    unfold m96_0
    repeat' (first
      | refine sc_loop lp rfl rfl ⟨rfl, rfl, rfl⟩ rfl rfl rfl ?_
      | (refine g_op ?_; first
        | refine ep_mov rfl ?_ | refine ep_load1 rfl rfl rfl rfl ?_ | refine ep_fieldAddr rfl ?_
        | refine ep_bin rfl rfl (by first | exact b_add (by omega) (by omega) | exact b_lss) ?_)
      | (refine g_ops ?_; first | refine eo_none ?_ | refine eo_nil ?_)
      | (refine g_code ?_; first | refine ec_seq ?_ | refine ec_region ?_ | refine ec_block ?_ | refine ec_skip ?_ | refine ec_exit ?_ | refine ec_condT rfl ?_ | refine ec_condF rfl ?_ | refine ec_condTH rfl (by assumption) ?_ | refine ec_condFH rfl (by assumption) ?_)
      | refine ek_seqN ?_ | refine ek_seqX ?_ | refine ek_seqR ?_ | refine ek_blkN ?_ | refine ek_blkR ?_ | refine ek_blkX ?_ | refine ek_blkY rfl ?_)
    exact rnd_on (by rfl) (scmp (by rfl) (by rfl) (by exact ⟨rfl, rfl, rfl⟩) (by rfl) (by rfl) (by rfl))
  · intro r hr hp
    have h7 : decide ((r : Int) < (R2 n : Nat)) = true := decide_eq_true (by omega)
    have lp := lp96_1 n b r hn hb hr _ (if_neg (by rw [hp]; simp))
    unfold m96_0
    repeat' (first
      | refine sc_loop lp rfl rfl ⟨rfl, rfl, rfl⟩ rfl rfl rfl ?_
      | (refine g_op ?_; first
        | refine ep_mov rfl ?_ | refine ep_load1 rfl rfl rfl rfl ?_ | refine ep_fieldAddr rfl ?_
        | refine ep_bin rfl rfl (by first | exact b_add (by omega) (by omega) | exact b_lss) ?_)
      | (refine g_ops ?_; first | refine eo_none ?_ | refine eo_nil ?_)
      | (refine g_code ?_; first | refine ec_seq ?_ | refine ec_region ?_ | refine ec_block ?_ | refine ec_skip ?_ | refine ec_exit ?_ | refine ec_condT rfl ?_ | refine ec_condF rfl ?_ | refine ec_condTH rfl (by assumption) ?_ | refine ec_condFH rfl (by assumption) ?_)
      | refine ek_seqN ?_ | refine ek_seqX ?_ | refine ek_seqR ?_ | refine ek_blkN ?_ | refine ek_blkR ?_ | refine ek_blkX ?_ | refine ek_blkY rfl ?_)
    exact rnd_out (by rfl) (by simp) (scmp (by rfl) (by rfl) (by exact ⟨rfl, rfl, rfl⟩) (by rfl) (by rfl) (by rfl))
  · have h7 : decide (((R2 n : Nat) : Int) < (R2 n : Nat)) = false := decide_eq_false (by omega)
    unfold m96_0
    repeat' (first
      | (refine g_op ?_; first
        | refine ep_mov rfl ?_ | refine ep_load1 rfl rfl rfl rfl ?_ | refine ep_fieldAddr rfl ?_
        | refine ep_bin rfl rfl (by first | exact b_add (by omega) (by omega) | exact b_lss) ?_)
      | (refine g_ops ?_; first | refine eo_none ?_ | refine eo_nil ?_)
      | (refine g_code ?_; first | refine ec_seq ?_ | refine ec_region ?_ | refine ec_block ?_ | refine ec_skip ?_ | refine ec_exit ?_ | refine ec_condT rfl ?_ | refine ec_condF rfl ?_ | refine ec_condTH rfl (by assumption) ?_ | refine ec_condFH rfl (by assumption) ?_)
      | refine ek_seqN ?_ | refine ek_seqX ?_ | refine ek_seqR ?_ | refine ek_blkN ?_ | refine ek_blkR ?_ | refine ek_blkX ?_ | refine ek_blkY rfl ?_)
    exact rnd_out (by rfl) (by simp) (scmp (by rfl) (by rfl) (by exact ⟨rfl, rfl, rfl⟩) (by rfl) (by rfl) (by rfl))
theorem ev96 (n b : Nat) (hn : n ≤ 4) (hb : b < 65536) : Ev cx 96 [.agg [.int .i64 n, .int .i64 b]] [] (.bool (monoB n b)) [] := by
  cases h : monoB n b
  · have lp := lp96_0 n b hn hb _ (if_neg (by rw [h]; simp))
    refine has96.eev rfl rfl ?_
    unfold m96
    repeat' (first
      | refine sc_loop lp rfl rfl ⟨rfl, rfl, rfl⟩ rfl rfl rfl ?_
      | (refine g_op ?_; first
        | refine ep_mov rfl ?_ | refine sp_loadN rfl rfl rfl rfl rfl ?_
        | refine ep_call0 rfl (by first | exact ev182 _ _ hn) rfl rfl ?_
        | refine sp_call rfl rfl rfl rfl (by first | exact ev182 _ _ hn) ⟨rfl, rfl, rfl, rfl⟩ rfl rfl rfl ?_
        | refine sp_box rfl rfl rfl rfl rfl ?_)
      | (refine g_ops ?_; first | refine eo_none ?_ | refine eo_nil ?_)
      | (refine g_code ?_; first | refine ec_seq ?_ | refine ec_region ?_ | refine ec_block ?_ | refine ec_ret ?_)
      | refine ek_seqN ?_ | refine ek_seqX ?_ | refine ek_seqR ?_ | refine ek_blkN ?_ | refine ek_blkR ?_ | refine ek_blkX ?_ | refine ek_blkY rfl ?_)
    refine sfin (.inr rfl) (by rfl) (by rfl) (by exact ⟨rfl, rfl, rfl⟩) (by rfl) (by rfl) (by rfl) (by first | rfl | (simp; done) | (simp [ints, prs]; done))
  · have lp := lp96_0 n b hn hb _ (if_pos h)
    refine has96.eev rfl rfl ?_
    unfold m96
    repeat' (first
      | refine sc_loop lp rfl rfl ⟨rfl, rfl, rfl⟩ rfl rfl rfl ?_
      | (refine g_op ?_; first
        | refine ep_mov rfl ?_ | refine sp_loadN rfl rfl rfl rfl rfl ?_
        | refine ep_call0 rfl (by first | exact ev182 _ _ hn) rfl rfl ?_
        | refine sp_call rfl rfl rfl rfl (by first | exact ev182 _ _ hn) ⟨rfl, rfl, rfl, rfl⟩ rfl rfl rfl ?_
        | refine sp_box rfl rfl rfl rfl rfl ?_)
      | (refine g_ops ?_; first | refine eo_none ?_ | refine eo_nil ?_)
      | (refine g_code ?_; first | refine ec_seq ?_ | refine ec_region ?_ | refine ec_block ?_ | refine ec_ret ?_)
      | refine ek_seqN ?_ | refine ek_seqX ?_ | refine ek_seqR ?_ | refine ek_blkN ?_ | refine ek_blkR ?_ | refine ek_blkX ?_ | refine ek_blkY rfl ?_)
    refine sfin (.inr rfl) (by rfl) (by rfl) (by exact ⟨rfl, rfl, rfl⟩) (by rfl) (by rfl) (by rfl) (by first | rfl | (simp; done) | (simp [ints, prs]; done))
-- impl.IsFunc
def m95 : MC := (.seq (.region [⟨(.box (.t 0)), (some 1), none⟩, ⟨(.mov (.k (.bool false))), (some 2), none⟩] false) (.seq (.region [⟨(.fieldAddr 0 (.t 1)), (some 3), none⟩, ⟨(.load none (.t 3)), (some 4), none⟩, ⟨(.callw 108 [(.t 4)]), (some 5), none⟩, ⟨(.mov (.t 5)), (some 6), none⟩, ⟨(.fieldAddr 1 (.t 1)), (some 7), (some (6, true))⟩, ⟨(.load none (.t 7)), (some 8), (some (6, true))⟩, ⟨(.fieldAddr 0 (.t 1)), (some 9), (some (6, true))⟩, ⟨(.load none (.t 9)), (some 10), (some (6, true))⟩, ⟨(.call 171 [(.t 10)]), (some 11), (some (6, true))⟩, ⟨(.bin .sub (.t 11) (.k (.int .i64 1))), (some 12), (some (6, true))⟩, ⟨(.callw 110 [(.t 8), (.k (.int .i64 0)), (.t 12)]), (some 13), (some (6, true))⟩, ⟨(.pick (.t 6) (.t 13) (.k (.bool false))), (some 14), none⟩, ⟨(.mov (.t 14)), (some 2), none⟩] true) .ret))
theorem has95 : Has cx 95 15 m95 [(.tmp 2)] :=
  ⟨⟨Try.f95, Try.f95.body.getD .skip, by kernel_rfl, by kernel_rfl, by kernel_rfl, by kernel_rfl, by kernel_rfl, by kernel_rfl⟩⟩
theorem ev95 (p t : Int) : Ev cx 95 [.agg [.int .i64 p, .int .i64 t]] [] (.bool (isFn p t)) [] := by
  by_cases h1 : 0 ≤ p ∧ p ≤ 4
  · have h2 : decide (0 ≤ p ∧ p ≤ 4) = true := decide_eq_true h1
    obtain ⟨n, rfl⟩ := Int.eq_ofNat_of_zero_le (show 0 ≤ p by omega)
    have h3 : n ≤ 4 := by omega
    obtain ⟨h4, h5, h6, h7⟩ := shN h3
    refine has95.eev rfl rfl ?_
    unfold m95
    repeat' (first
      | (refine g_op ?_; first
        | refine ep_mov rfl ?_ | refine ep_load1 rfl rfl rfl rfl ?_ | refine ep_fieldAddr rfl ?_
        | refine ep_call0 rfl (by first | exact ev108 _ | exact ev110 _ _ _ | exact ev171 _ h3) rfl rfl ?_
        | refine sp_call rfl rfl rfl rfl (by first | exact ev108 _ | exact ev110 _ _ _ | exact ev171 _ h3) ⟨rfl, rfl, rfl, rfl⟩ rfl rfl rfl ?_
        | refine ep_callw0 rfl (by first | exact ev108 _ | exact ev110 _ _ _ | exact ev171 _ h3) rfl rfl ?_
        | refine sp_callw rfl rfl rfl rfl (by first | exact ev108 _ | exact ev110 _ _ _ | exact ev171 _ h3) ⟨rfl, rfl, rfl, rfl⟩ rfl rfl rfl (by first | exact WrP_refl _ _ | (repeat' (first | exact rfl | exact True.intro | refine And.intro ?_ ?_))) ?_
        | refine ep_bin rfl rfl (by exact b_sub (by omega) (by omega)) ?_ | refine ep_pickT rfl rfl ?_ | refine ep_pickF rfl rfl ?_ | refine ep_pickTH rfl (by assumption) rfl ?_ | refine ep_pickFH rfl (by assumption) rfl ?_
        | refine sp_box rfl rfl rfl rfl rfl ?_)
      | (refine g_ops ?_; first | refine eo_none ?_ | refine eo_nil ?_ | refine eo_yes rfl ?_ | refine eo_no rfl ?_ | refine eo_und rfl ?_ | refine eo_yesH rfl (by assumption) ?_ | refine eo_noH rfl (by assumption) ?_)
      | (refine g_dops ?_; first | refine ed_none ?_ | refine ed_nil ?_ | refine ed_yes rfl ?_ | refine ed_no rfl ?_ | refine ed_und rfl ?_ | refine ed_yesH rfl (by assumption) ?_ | refine ed_noH rfl (by assumption) ?_)
      | refine ed_same rfl ?_ | refine ed_one rfl rfl rfl rfl ?_ | refine ed_two rfl rfl rfl rfl rfl rfl rfl ?_ | refine ed_write rfl rfl ?_
      | (refine g_code ?_; first | refine ec_seq ?_ | refine ec_region ?_ | refine ec_draw ?_ | refine ec_ret ?_)
      | refine ek_seqN ?_ | refine ek_seqR ?_)
    refine sfin (.inr rfl) (by rfl) (by rfl) (by exact ⟨rfl, rfl, rfl⟩) (by rfl) (by rfl) (by exact congrArg V.bool (by simp [isFn, h1])) (by first | rfl | (simp; done) | (simp [ints, prs]; done))
  · have h2 : decide (0 ≤ p ∧ p ≤ 4) = false := decide_eq_false h1
    refine has95.eev rfl rfl ?_
    unfold m95
    repeat' (first
      | (refine g_op ?_; first
        | refine ep_mov rfl ?_ | refine ep_load1 rfl rfl rfl rfl ?_ | refine ep_fieldAddr rfl ?_
        | refine ep_call0 rfl (by first | exact ev108 _ | exact ev110 _ _ _) rfl rfl ?_
        | refine sp_call rfl rfl rfl rfl (by first | exact ev108 _ | exact ev110 _ _ _) ⟨rfl, rfl, rfl, rfl⟩ rfl rfl rfl ?_
        | refine ep_callw0 rfl (by first | exact ev108 _ | exact ev110 _ _ _) rfl rfl ?_
        | refine sp_callw rfl rfl rfl rfl (by first | exact ev108 _ | exact ev110 _ _ _) ⟨rfl, rfl, rfl, rfl⟩ rfl rfl rfl (by first | exact WrP_refl _ _ | (repeat' (first | exact rfl | exact True.intro | refine And.intro ?_ ?_))) ?_
        | refine ep_bin rfl rfl (by exact b_sub (by omega) (by omega)) ?_ | refine ep_pickT rfl rfl ?_ | refine ep_pickF rfl rfl ?_ | refine ep_pickTH rfl (by assumption) rfl ?_ | refine ep_pickFH rfl (by assumption) rfl ?_
        | refine sp_box rfl rfl rfl rfl rfl ?_)
      | (refine g_ops ?_; first | refine eo_none ?_ | refine eo_nil ?_ | refine eo_yes rfl ?_ | refine eo_no rfl ?_ | refine eo_und rfl ?_ | refine eo_yesH rfl (by assumption) ?_ | refine eo_noH rfl (by assumption) ?_)
      | (refine g_dops ?_; first | refine ed_none ?_ | refine ed_nil ?_ | refine ed_yes rfl ?_ | refine ed_no rfl ?_ | refine ed_und rfl ?_ | refine ed_yesH rfl (by assumption) ?_ | refine ed_noH rfl (by assumption) ?_)
      | refine ed_same rfl ?_ | refine ed_one rfl rfl rfl rfl ?_ | refine ed_two rfl rfl rfl rfl rfl rfl rfl ?_ | refine ed_write rfl rfl ?_
      | (refine g_code ?_; first | refine ec_seq ?_ | refine ec_region ?_ | refine ec_draw ?_ | refine ec_ret ?_)
      | refine ek_seqN ?_ | refine ek_seqR ?_)
    refine sfin (.inr rfl) (by rfl) (by rfl) (by exact ⟨rfl, rfl, rfl⟩) (by rfl) (by rfl) (by exact congrArg V.bool (by simp [isFn, h1])) (by first | rfl | (simp; done) | (simp [ints, prs]; done))
-- spec.l01Is
def m103 : MC := (.seq (.region [⟨(.box (.t 0)), (some 1), none⟩, ⟨(.mov (.k (.bool false))), (some 2), none⟩] false) (.seq (.region [⟨(.fieldAddr 0 (.t 1)), (some 3), none⟩, ⟨(.load none (.t 3)), (some 4), none⟩, ⟨(.callw 122 [(.t 4), (.k (.int .i64 0)), (.k (.int .i64 4))]), (some 5), none⟩, ⟨(.mov (.t 5)), (some 6), none⟩, ⟨(.fieldAddr 1 (.t 1)), (some 7), (some (6, true))⟩, ⟨(.load none (.t 7)), (some 8), (some (6, true))⟩, ⟨(.fieldAddr 0 (.t 1)), (some 9), (some (6, true))⟩, ⟨(.load none (.t 9)), (some 10), (some (6, true))⟩, ⟨(.call 130 [(.t 10)]), (some 11), (some (6, true))⟩, ⟨(.callw 122 [(.t 8), (.k (.int .i64 0)), (.t 11)]), (some 12), (some (6, true))⟩, ⟨(.pick (.t 6) (.t 12) (.k (.bool false))), (some 13), none⟩, ⟨(.mov (.t 13)), (some 2), none⟩] true) .ret))
theorem has103 : Has cx 103 14 m103 [(.tmp 2)] :=
  ⟨⟨Try.f103, Try.f103.body.getD .skip, by kernel_rfl, by kernel_rfl, by kernel_rfl, by kernel_rfl, by kernel_rfl, by kernel_rfl⟩⟩
theorem ev103 (p t : Int) : Ev cx 103 [.agg [.int .i64 p, .int .i64 t]] [] (.bool (isFn p t)) [] := by
  by_cases h1 : 0 ≤ p ∧ p ≤ 4
  · have h2 : decide (0 ≤ p ∧ p ≤ 4) = true := decide_eq_true h1
    obtain ⟨n, rfl⟩ := Int.eq_ofNat_of_zero_le (show 0 ≤ p by omega)
    have h3 : n ≤ 4 := by omega
    obtain ⟨h4, h5, h6, h7⟩ := shN h3
    refine has103.eev rfl rfl ?_
    unfold m103
    repeat' (first
      | (refine g_op ?_; first
        | refine ep_mov rfl ?_ | refine ep_load1 rfl rfl rfl rfl ?_ | refine ep_fieldAddr rfl ?_
        | refine ep_call0 rfl (by first | exact ev122 _ _ _ | exact ev130 _ h3) rfl rfl ?_
        | refine sp_call rfl rfl rfl rfl (by first | exact ev122 _ _ _ | exact ev130 _ h3) ⟨rfl, rfl, rfl, rfl⟩ rfl rfl rfl ?_
        | refine ep_callw0 rfl (by first | exact ev122 _ _ _ | exact ev130 _ h3) rfl rfl ?_
        | refine sp_callw rfl rfl rfl rfl (by first | exact ev122 _ _ _ | exact ev130 _ h3) ⟨rfl, rfl, rfl, rfl⟩ rfl rfl rfl (by first | exact WrP_refl _ _ | (repeat' (first | exact rfl | exact True.intro | refine And.intro ?_ ?_))) ?_
        | refine ep_pickT rfl rfl ?_ | refine ep_pickF rfl rfl ?_ | refine ep_pickTH rfl (by assumption) rfl ?_ | refine ep_pickFH rfl (by assumption) rfl ?_ | refine sp_box rfl rfl rfl rfl rfl ?_)
      | (refine g_ops ?_; first | refine eo_none ?_ | refine eo_nil ?_ | refine eo_yes rfl ?_ | refine eo_no rfl ?_ | refine eo_und rfl ?_ | refine eo_yesH rfl (by assumption) ?_ | refine eo_noH rfl (by assumption) ?_)
      | (refine g_dops ?_; first | refine ed_none ?_ | refine ed_nil ?_ | refine ed_yes rfl ?_ | refine ed_no rfl ?_ | refine ed_und rfl ?_ | refine ed_yesH rfl (by assumption) ?_ | refine ed_noH rfl (by assumption) ?_)
      | refine ed_same rfl ?_ | refine ed_one rfl rfl rfl rfl ?_ | refine ed_two rfl rfl rfl rfl rfl rfl rfl ?_ | refine ed_write rfl rfl ?_
      | (refine g_code ?_; first | refine ec_seq ?_ | refine ec_region ?_ | refine ec_draw ?_ | refine ec_ret ?_)
      | refine ek_seqN ?_ | refine ek_seqR ?_)
    refine sfin (.inr rfl) (by rfl) (by rfl) (by exact ⟨rfl, rfl, rfl⟩) (by rfl) (by rfl) (by exact congrArg V.bool (by simp [isFn, h1])) (by first | rfl | (simp; done) | (simp [ints, prs]; done))
  · have h2 : decide (0 ≤ p ∧ p ≤ 4) = false := decide_eq_false h1
    refine has103.eev rfl rfl ?_
    unfold m103
    repeat' (first
      | (refine g_op ?_; first
        | refine ep_mov rfl ?_ | refine ep_load1 rfl rfl rfl rfl ?_ | refine ep_fieldAddr rfl ?_
        | refine ep_call0 rfl (by first | exact ev122 _ _ _) rfl rfl ?_
        | refine sp_call rfl rfl rfl rfl (by first | exact ev122 _ _ _) ⟨rfl, rfl, rfl, rfl⟩ rfl rfl rfl ?_
        | refine ep_callw0 rfl (by first | exact ev122 _ _ _) rfl rfl ?_
        | refine sp_callw rfl rfl rfl rfl (by first | exact ev122 _ _ _) ⟨rfl, rfl, rfl, rfl⟩ rfl rfl rfl (by first | exact WrP_refl _ _ | (repeat' (first | exact rfl | exact True.intro | refine And.intro ?_ ?_))) ?_
        | refine ep_pickT rfl rfl ?_ | refine ep_pickF rfl rfl ?_ | refine ep_pickTH rfl (by assumption) rfl ?_ | refine ep_pickFH rfl (by assumption) rfl ?_ | refine sp_box rfl rfl rfl rfl rfl ?_)
      | (refine g_ops ?_; first | refine eo_none ?_ | refine eo_nil ?_ | refine eo_yes rfl ?_ | refine eo_no rfl ?_ | refine eo_und rfl ?_ | refine eo_yesH rfl (by assumption) ?_ | refine eo_noH rfl (by assumption) ?_)
      | (refine g_dops ?_; first | refine ed_none ?_ | refine ed_nil ?_ | refine ed_yes rfl ?_ | refine ed_no rfl ?_ | refine ed_und rfl ?_ | refine ed_yesH rfl (by assumption) ?_ | refine ed_noH rfl (by assumption) ?_)
      | refine ed_same rfl ?_ | refine ed_one rfl rfl rfl rfl ?_ | refine ed_two rfl rfl rfl rfl rfl rfl rfl ?_ | refine ed_write rfl rfl ?_
      | (refine g_code ?_; first | refine ec_seq ?_ | refine ec_region ?_ | refine ec_draw ?_ | refine ec_ret ?_)
      | refine ek_seqN ?_ | refine ek_seqR ?_)
    refine sfin (.inr rfl) (by rfl) (by rfl) (by exact ⟨rfl, rfl, rfl⟩) (by rfl) (by rfl) (by exact congrArg V.bool (by simp [isFn, h1])) (by first | rfl | (simp; done) | (simp [ints, prs]; done))
-- spec.l01At
def m157 : MC := (.seq (.region [⟨(.box (.t 0)), (some 2), none⟩, ⟨(.mov (.k (.int .i64 0))), (some 4), none⟩] false) (.seq (.region [⟨(.fieldAddr 1 (.t 2)), (some 5), none⟩, ⟨(.load none (.t 5)), (some 6), none⟩, ⟨(.mov (.t 1)), (some 7), none⟩, ⟨(.conv .u64 (.t 7)), (some 8), none⟩, ⟨(.bin .shr (.t 6) (.t 8)), (some 9), none⟩, ⟨(.bin .and (.t 9) (.k (.int .i64 1))), (some 10), none⟩, ⟨(.mov (.t 10)), (some 4), none⟩] false) .ret))
theorem has157 : Has cx 157 11 m157 [(.tmp 4)] :=
  ⟨⟨Try.f157, Try.f157.body.getD .skip, by kernel_rfl, by kernel_rfl, by kernel_rfl, by kernel_rfl, by kernel_rfl, by kernel_rfl⟩⟩
theorem ev157 (n : Int) (b r : Nat) (hb : b < 9223372036854775808) (hr : r ≤ 64) : Ev cx 157 [.agg [.int .i64 n, .int .i64 b], .int .i64 r] [] (.int .i64 (bt b r : Nat)) [] := by
  refine has157.eev rfl rfl ?_
  unfold m157
  repeat' (first
    | (refine g_op ?_; first
      | refine ep_mov rfl ?_ | refine ep_load1 rfl rfl rfl rfl ?_ | refine ep_fieldAddr rfl ?_
      | refine ep_bin rfl rfl (by first | exact b_shr hr | exact b_bt hb | exact b_and (by omega) (by omega) | exact b_shr (by omega)) ?_ | refine ep_conv rfl (by first | exact w_u64 (by omega) (by omega) | exact wrap_id (by omega) (by omega) | rfl) ?_
      | refine sp_box rfl rfl rfl rfl rfl ?_)
    | (refine g_ops ?_; first | refine eo_none ?_ | refine eo_nil ?_)
    | (refine g_code ?_; first | refine ec_seq ?_ | refine ec_region ?_ | refine ec_ret ?_)
    | refine ek_seqN ?_ | refine ek_seqR ?_)
  refine sfin (.inr rfl) (by rfl) (by rfl) (by exact ⟨rfl, rfl, rfl⟩) (by rfl) (by rfl) (by rfl) (by first | rfl | (simp; done) | (simp [ints, prs]; done))
-- spec.l07Monotone
def m104_1 : MC := (.seq (.seq (.region [⟨(.mov (.t 4)), (some 12), none⟩, ⟨(.fieldAddr 0 (.t 1)), (some 13), none⟩, ⟨(.load none (.t 13)), (some 14), none⟩, ⟨(.bin .lss (.t 12) (.t 14)), (some 15), none⟩] false) (.cond (.t 15) .skip (.exit 2))) (.seq (.block 3 (.seq (.region [⟨(.load (some 2) (.t 1)), (some 18), none⟩, ⟨(.mov (.t 3)), (some 19), none⟩, ⟨(.call 157 [(.t 18), (.t 19)]), (some 20), none⟩, ⟨(.bin .eql (.t 20) (.k (.int .i64 1))), (some 21), none⟩, ⟨(.mov (.t 21)), (some 22), none⟩, ⟨(.load (some 2) (.t 1)), (some 23), (some (22, true))⟩, ⟨(.mov (.t 3)), (some 24), (some (22, true))⟩, ⟨(.mov (.t 4)), (some 25), (some (22, true))⟩, ⟨(.conv .u64 (.t 25)), (some 26), (some (22, true))⟩, ⟨(.bin .shl (.k (.int .i64 1)) (.t 26)), (some 27), (some (22, true))⟩, ⟨(.bin .or (.t 24) (.t 27)), (some 28), (some (22, true))⟩, ⟨(.call 157 [(.t 23), (.t 28)]), (some 29), (some (22, true))⟩, ⟨(.bin .eql (.t 29) (.k (.int .i64 0))), (some 30), (some (22, true))⟩, ⟨(.pick (.t 22) (.t 30) (.k (.bool false))), (some 31), none⟩] false) (.cond (.t 31) (.seq (.region [⟨(.mov (.k (.bool false))), (some 2), none⟩] false) .ret) .skip))) (.region [⟨(.mov (.t 4)), (some 16), none⟩, ⟨(.bin .add (.t 16) (.k (.int .i64 1))), (some 17), none⟩, ⟨(.mov (.t 17)), (some 4), none⟩] false)))
def m104_0 : MC := (.seq (.seq (.region [⟨(.mov (.t 3)), (some 5), none⟩, ⟨(.fieldAddr 0 (.t 1)), (some 6), none⟩, ⟨(.load none (.t 6)), (some 7), none⟩, ⟨(.call 106 [(.t 7)]), (some 8), none⟩, ⟨(.bin .lss (.t 5) (.t 8)), (some 9), none⟩] false) (.cond (.t 9) .skip (.exit 0))) (.seq (.block 1 (.seq (.region [⟨(.mov (.k (.int .i64 0))), (some 4), none⟩] false) (.block 2 (.loop m104_1)))) (.region [⟨(.mov (.t 3)), (some 10), none⟩, ⟨(.bin .add (.t 10) (.k (.int .i64 1))), (some 11), none⟩, ⟨(.mov (.t 11)), (some 3), none⟩] false)))
def m104 : MC := (.seq (.region [⟨(.box (.t 0)), (some 1), none⟩, ⟨(.mov (.k (.bool false))), (some 2), none⟩] false) (.seq (.seq (.region [⟨(.mov (.k (.int .i64 0))), (some 3), none⟩] false) (.block 0 (.loop m104_0))) (.seq (.region [⟨(.mov (.k (.bool true))), (some 2), none⟩] false) .ret)))
theorem has104 : Has cx 104 32 m104 [(.tmp 2)] :=
  ⟨⟨Try.f104, Try.f104.body.getD .skip, by kernel_rfl, by kernel_rfl, by kernel_rfl, by kernel_rfl, by kernel_rfl, by kernel_rfl⟩⟩
theorem lp104_1 (n b r : Nat) (hn : n ≤ 4) (hb : b < 65536) (hr : r < R2 n) (o : Out)
    (ho : (if allF (monoP b r) 0 n = true then (⟨.exit 2, [(1, .ptr 0 0), (3, .int .i64 r)], [⟨[.int .i64 n, .int .i64 b], 1, 0, some 0, true⟩]⟩ : Out) else ⟨.ret, [(2, .bool false)], []⟩) = o) :
    LpS cx 32 0 m104_1 [(1, .ptr 0 0), (3, .int .i64 r), (4, .int .i64 (0 : Nat))] [⟨[.int .i64 n, .int .i64 b], 1, 0, some 0, true⟩] o.x o.e o.h := by
  obtain ⟨h1, h2, h3, h4⟩ := shN hn
  refine lp_all n (monoP b r) (fun j => [(1, .ptr 0 0), (3, .int .i64 r), (4, .int .i64 (j : Nat))]) (fun _ => [⟨[.int .i64 n, .int .i64 b], 1, 0, some 0, true⟩]) _ _ ?_ ?_ ?_ n 0 o (by omega) ho
  · intro j hj hp
    have h5 := R2_le hj
    have h6 := or_lt hr (show R2 j < R2 n by omega)
    have h7 : decide ((j : Int) < (n : Nat)) = true := decide_eq_true (by omega)
    simp only [monoP, decide_eq_true_eq] at hp
    by_cases hx : bt b r = 1
    · have h8 : (((bt b r : Nat) : Int) == 1) = true := by simp [hx]
      have h9 : (((bt b (r ||| R2 j) : Nat) : Int) == 0) = false := by
        have : bt b (r ||| R2 j) ≠ 0 := by omega
        simpa using this
      unfold m104_1
      repeat' (first
        | (refine g_op ?_; first
          | refine ep_mov rfl ?_ | refine ep_load1 rfl rfl rfl rfl ?_ | refine ep_fieldAddr rfl ?_ | refine sp_loadN rfl rfl rfl rfl rfl ?_
          | refine ep_call0 rfl (by first | exact ev157 _ _ _ (by omega) (by omega)) rfl rfl ?_
          | refine sp_call rfl rfl rfl rfl (by first | exact ev157 _ _ _ (by omega) (by omega)) ⟨rfl, rfl, rfl, rfl⟩ rfl rfl rfl ?_
          | refine ep_bin rfl rfl (by first | exact b_shl1 (by omega) (by omega) | exact b_add (by omega) (by omega) | exact b_or (by omega) (by omega) | exact b_shl (by omega) (by omega) | exact b_lss | exact b_eql) ?_
          | refine ep_pickT rfl rfl ?_ | refine ep_pickF rfl rfl ?_ | refine ep_pickTH rfl (by assumption) rfl ?_ | refine ep_pickFH rfl (by assumption) rfl ?_ | refine ep_conv rfl (by first | exact w_u64 (by omega) (by omega) | exact wrap_id (by omega) (by omega) | rfl) ?_)
        | (refine g_ops ?_; first | refine eo_none ?_ | refine eo_nil ?_ | refine eo_yes rfl ?_ | refine eo_no rfl ?_ | refine eo_und rfl ?_ | refine eo_yesH rfl (by assumption) ?_ | refine eo_noH rfl (by assumption) ?_)
        | (refine g_code ?_; first | refine ec_seq ?_ | refine ec_region ?_ | refine ec_block ?_ | refine ec_skip ?_ | refine ec_exit ?_ | refine ec_ret ?_ | refine ec_condT rfl ?_ | refine ec_condF rfl ?_ | refine ec_condTH rfl (by assumption) ?_ | refine ec_condFH rfl (by assumption) ?_)
        | refine ek_seqN ?_ | refine ek_seqX ?_ | refine ek_seqR ?_ | refine ek_blkN ?_ | refine ek_blkR ?_ | refine ek_blkX ?_ | refine ek_blkY rfl ?_)
      exact rnd_on (by rfl) (scmp (by rfl) (by rfl) (by exact ⟨rfl, rfl, rfl⟩) (by rfl) (by rfl) (by rfl))
    · have h8 : (((bt b r : Nat) : Int) == 1) = false := by
        simp only [beq_eq_false_iff_ne, ne_eq]; omega
      unfold m104_1
      repeat' (first
        | (refine g_op ?_; first
          | refine ep_mov rfl ?_ | refine ep_load1 rfl rfl rfl rfl ?_ | refine ep_fieldAddr rfl ?_ | refine sp_loadN rfl rfl rfl rfl rfl ?_
          | refine ep_call0 rfl (by first | exact ev157 _ _ _ (by omega) (by omega)) rfl rfl ?_
          | refine sp_call rfl rfl rfl rfl (by first | exact ev157 _ _ _ (by omega) (by omega)) ⟨rfl, rfl, rfl, rfl⟩ rfl rfl rfl ?_
          | refine ep_bin rfl rfl (by first | exact b_shl1 (by omega) (by omega) | exact b_add (by omega) (by omega) | exact b_or (by omega) (by omega) | exact b_shl (by omega) (by omega) | exact b_lss | exact b_eql) ?_
          | refine ep_pickT rfl rfl ?_ | refine ep_pickF rfl rfl ?_ | refine ep_pickTH rfl (by assumption) rfl ?_ | refine ep_pickFH rfl (by assumption) rfl ?_ | refine ep_conv rfl (by first | exact w_u64 (by omega) (by omega) | exact wrap_id (by omega) (by omega) | rfl) ?_)
        | (refine g_ops ?_; first | refine eo_none ?_ | refine eo_nil ?_ | refine eo_yes rfl ?_ | refine eo_no rfl ?_ | refine eo_und rfl ?_ | refine eo_yesH rfl (by assumption) ?_ | refine eo_noH rfl (by assumption) ?_)
        | (refine g_code ?_; first | refine ec_seq ?_ | refine ec_region ?_ | refine ec_block ?_ | refine ec_skip ?_ | refine ec_exit ?_ | refine ec_ret ?_ | refine ec_condT rfl ?_ | refine ec_condF rfl ?_ | refine ec_condTH rfl (by assumption) ?_ | refine ec_condFH rfl (by assumption) ?_)
        | refine ek_seqN ?_ | refine ek_seqX ?_ | refine ek_seqR ?_ | refine ek_blkN ?_ | refine ek_blkR ?_ | refine ek_blkX ?_ | refine ek_blkY rfl ?_)
      exact rnd_on (by rfl) (scmp (by rfl) (by rfl) (by exact ⟨rfl, rfl, rfl⟩) (by rfl) (by rfl) (by rfl))
  · intro j hj hp
    have h5 := R2_le hj
    have h6 := or_lt hr (show R2 j < R2 n by omega)
    have h7 : decide ((j : Int) < (n : Nat)) = true := decide_eq_true (by omega)
    simp only [monoP, decide_eq_false_iff_not, Classical.not_not] at hp
    have hx := bt_le b r
    have h8 : (((bt b r : Nat) : Int) == 1) = true := by simp only [beq_iff_eq]; omega
    have h9 : (((bt b (r ||| R2 j) : Nat) : Int) == 0) = true := by simp only [beq_iff_eq]; omega
    unfold m104_1
    repeat' (first
      | (refine g_op ?_; first
        | refine ep_mov rfl ?_ | refine ep_load1 rfl rfl rfl rfl ?_ | refine ep_fieldAddr rfl ?_ | refine sp_loadN rfl rfl rfl rfl rfl ?_
        | refine ep_call0 rfl (by first | exact ev157 _ _ _ (by omega) (by omega)) rfl rfl ?_
        | refine sp_call rfl rfl rfl rfl (by first | exact ev157 _ _ _ (by omega) (by omega)) ⟨rfl, rfl, rfl, rfl⟩ rfl rfl rfl ?_
        | refine ep_bin rfl rfl (by first | exact b_shl1 (by omega) (by omega) | exact b_add (by omega) (by omega) | exact b_or (by omega) (by omega) | exact b_shl (by omega) (by omega) | exact b_lss | exact b_eql) ?_
        | refine ep_pickT rfl rfl ?_ | refine ep_pickF rfl rfl ?_ | refine ep_pickTH rfl (by assumption) rfl ?_ | refine ep_pickFH rfl (by assumption) rfl ?_ | refine ep_conv rfl (by first | exact w_u64 (by omega) (by omega) | exact wrap_id (by omega) (by omega) | rfl) ?_)
      | (refine g_ops ?_; first | refine eo_none ?_ | refine eo_nil ?_ | refine eo_yes rfl ?_ | refine eo_no rfl ?_ | refine eo_und rfl ?_ | refine eo_yesH rfl (by assumption) ?_ | refine eo_noH rfl (by assumption) ?_)
      | (refine g_code ?_; first | refine ec_seq ?_ | refine ec_region ?_ | refine ec_block ?_ | refine ec_skip ?_ | refine ec_exit ?_ | refine ec_ret ?_ | refine ec_condT rfl ?_ | refine ec_condF rfl ?_ | refine ec_condTH rfl (by assumption) ?_ | refine ec_condFH rfl (by assumption) ?_)
      | refine ek_seqN ?_ | refine ek_seqX ?_ | refine ek_seqR ?_ | refine ek_blkN ?_ | refine ek_blkR ?_ | refine ek_blkX ?_ | refine ek_blkY rfl ?_)
    exact rnd_out (by rfl) (by simp) (scmp (by rfl) (by rfl) (by exact ⟨rfl, rfl, rfl⟩) (by rfl) (by rfl) (by rfl))
  · have h7 : decide ((n : Int) < (n : Nat)) = false := decide_eq_false (by omega)
    unfold m104_1
    repeat' (first
      | (refine g_op ?_; first
        | refine ep_mov rfl ?_ | refine ep_load1 rfl rfl rfl rfl ?_ | refine ep_fieldAddr rfl ?_ | refine sp_loadN rfl rfl rfl rfl rfl ?_
        | refine ep_bin rfl rfl (by first | exact b_add (by omega) (by omega) | exact b_or (by omega) (by omega) | exact b_shl (by omega) (by omega) | exact b_lss | exact b_eql) ?_ | refine ep_pickT rfl rfl ?_
        | refine ep_pickF rfl rfl ?_ | refine ep_pickTH rfl (by assumption) rfl ?_ | refine ep_pickFH rfl (by assumption) rfl ?_ | refine ep_conv rfl (by first | exact w_u64 (by omega) (by omega) | exact wrap_id (by omega) (by omega) | rfl) ?_)
      | (refine g_ops ?_; first | refine eo_none ?_ | refine eo_nil ?_ | refine eo_yes rfl ?_ | refine eo_no rfl ?_ | refine eo_und rfl ?_ | refine eo_yesH rfl (by assumption) ?_ | refine eo_noH rfl (by assumption) ?_)
      | (refine g_code ?_; first | refine ec_seq ?_ | refine ec_region ?_ | refine ec_block ?_ | refine ec_skip ?_ | refine ec_exit ?_ | refine ec_ret ?_ | refine ec_condT rfl ?_ | refine ec_condF rfl ?_ | refine ec_condTH rfl (by assumption) ?_ | refine ec_condFH rfl (by assumption) ?_)
      | refine ek_seqN ?_ | refine ek_seqX ?_ | refine ek_seqR ?_ | refine ek_blkN ?_ | refine ek_blkR ?_ | refine ek_blkX ?_ | refine ek_blkY rfl ?_)
    exact rnd_out (by rfl) (by simp) (scmp (by rfl) (by rfl) (by exact ⟨rfl, rfl, rfl⟩) (by rfl) (by rfl) (by rfl))
theorem lp104_0 (n b : Nat) (hn : n ≤ 4) (hb : b < 65536) (o : Out) (ho : (if monoB n b = true then (⟨.exit 0, [], []⟩ : Out) else ⟨.ret, [(2, .bool false)], []⟩) = o) :
    LpS cx 32 0 m104_0 [(1, .ptr 0 0), (3, .int .i64 (0 : Nat))] [⟨[.int .i64 n, .int .i64 b], 1, 0, some 0, true⟩] o.x o.e o.h := by
  obtain ⟨h1, h2, h3, h4⟩ := shN hn
  refine lp_all (R2 n) (fun r => allF (monoP b r) 0 n) (fun r => [(1, .ptr 0 0), (3, .int .i64 (r : Nat))]) (fun _ => [⟨[.int .i64 n, .int .i64 b], 1, 0, some 0, true⟩]) _ _ ?_ ?_ ?_ (R2 n) 0 o (by omega) ho
  · intro r hr hp
    have h7 : decide ((r : Int) < (R2 n : Nat)) = true := decide_eq_true (by omega)
    have lp := lp104_1 n b r hn hb hr _ (if_pos hp)
    unfold m104_0
    repeat' (first
      | refine sc_loop lp rfl rfl ⟨rfl, rfl, rfl⟩ rfl rfl rfl ?_
      | (refine g_op ?_; first
        | refine ep_mov rfl ?_ | refine ep_load1 rfl rfl rfl rfl ?_ | refine ep_fieldAddr rfl ?_
        | refine ep_call0 rfl (by first | exact ev106 _ hn) rfl rfl ?_
        | refine sp_call rfl rfl rfl rfl (by first | exact ev106 _ hn) ⟨rfl, rfl, rfl, rfl⟩ rfl rfl rfl ?_
        | refine ep_bin rfl rfl (by first | exact b_add (by omega) (by omega) | exact b_lss) ?_)
      | (refine g_ops ?_; first | refine eo_none ?_ | refine eo_nil ?_)
      | (refine g_code ?_; first | refine ec_seq ?_ | refine ec_region ?_ | refine ec_block ?_ | refine ec_skip ?_ | refine ec_exit ?_ | refine ec_condT rfl ?_ | refine ec_condF rfl ?_ | refine ec_condTH rfl (by assumption) ?_ | refine ec_condFH rfl (by assumption) ?_)
      | refine ek_seqN ?_ | refine ek_seqX ?_ | refine ek_seqR ?_ | refine ek_blkN ?_ | refine ek_blkR ?_ | refine ek_blkX ?_ | refine ek_blkY rfl ?_)
    exact rnd_on (by rfl) (scmp (by rfl) (by rfl) (by exact ⟨rfl, rfl, rfl⟩) (by rfl) (by rfl) (by rfl))
  · intro r hr hp
    have h7 : decide ((r : Int) < (R2 n : Nat)) = true := decide_eq_true (by omega)
    have lp := lp104_1 n b r hn hb hr _ (if_neg (by rw [hp]; simp))
    unfold m104_0
    repeat' (first
      | refine sc_loop lp rfl rfl ⟨rfl, rfl, rfl⟩ rfl rfl rfl ?_
      | (refine g_op ?_; first
        | refine ep_mov rfl ?_ | refine ep_load1 rfl rfl rfl rfl ?_ | refine ep_fieldAddr rfl ?_
        | refine ep_call0 rfl (by first | exact ev106 _ hn) rfl rfl ?_
        | refine sp_call rfl rfl rfl rfl (by first | exact ev106 _ hn) ⟨rfl, rfl, rfl, rfl⟩ rfl rfl rfl ?_
        | refine ep_bin rfl rfl (by first | exact b_add (by omega) (by omega) | exact b_lss) ?_)
      | (refine g_ops ?_; first | refine eo_none ?_ | refine eo_nil ?_)
      | (refine g_code ?_; first | refine ec_seq ?_ | refine ec_region ?_ | refine ec_block ?_ | refine ec_skip ?_ | refine ec_exit ?_ | refine ec_condT rfl ?_ | refine ec_condF rfl ?_ | refine ec_condTH rfl (by assumption) ?_ | refine ec_condFH rfl (by assumption) ?_)
      | refine ek_seqN ?_ | refine ek_seqX ?_ | refine ek_seqR ?_ | refine ek_blkN ?_ | refine ek_blkR ?_ | refine ek_blkX ?_ | refine ek_blkY rfl ?_)
    exact rnd_out (by rfl) (by simp) (scmp (by rfl) (by rfl) (by exact ⟨rfl, rfl, rfl⟩) (by rfl) (by rfl) (by rfl))
  · have h7 : decide (((R2 n : Nat) : Int) < (R2 n : Nat)) = false := decide_eq_false (by omega)
    unfold m104_0
    repeat' (first
      | (refine g_op ?_; first
        | refine ep_mov rfl ?_ | refine ep_load1 rfl rfl rfl rfl ?_ | refine ep_fieldAddr rfl ?_
        | refine ep_call0 rfl (by first | exact ev106 _ hn) rfl rfl ?_
        | refine sp_call rfl rfl rfl rfl (by first | exact ev106 _ hn) ⟨rfl, rfl, rfl, rfl⟩ rfl rfl rfl ?_
        | refine ep_bin rfl rfl (by first | exact b_add (by omega) (by omega) | exact b_lss) ?_)
      | (refine g_ops ?_; first | refine eo_none ?_ | refine eo_nil ?_)
      | (refine g_code ?_; first | refine ec_seq ?_ | refine ec_region ?_ | refine ec_block ?_ | refine ec_skip ?_ | refine ec_exit ?_ | refine ec_condT rfl ?_ | refine ec_condF rfl ?_ | refine ec_condTH rfl (by assumption) ?_ | refine ec_condFH rfl (by assumption) ?_)
      | refine ek_seqN ?_ | refine ek_seqX ?_ | refine ek_seqR ?_ | refine ek_blkN ?_ | refine ek_blkR ?_ | refine ek_blkX ?_ | refine ek_blkY rfl ?_)
    exact rnd_out (by rfl) (by simp) (scmp (by rfl) (by rfl) (by exact ⟨rfl, rfl, rfl⟩) (by rfl) (by rfl) (by rfl))
theorem ev104 (n b : Nat) (hn : n ≤ 4) (hb : b < 65536) : Ev cx 104 [.agg [.int .i64 n, .int .i64 b]] [] (.bool (monoB n b)) [] := by
  cases h : monoB n b
  · have lp := lp104_0 n b hn hb _ (if_neg (by rw [h]; simp))
    refine has104.eev rfl rfl ?_
    unfold m104
    repeat' (first
      | refine sc_loop lp rfl rfl ⟨rfl, rfl, rfl⟩ rfl rfl rfl ?_
      | (refine g_op ?_; first
        | refine ep_mov rfl ?_
        | refine sp_box rfl rfl rfl rfl rfl ?_)
      | (refine g_ops ?_; first | refine eo_none ?_ | refine eo_nil ?_)
      | (refine g_code ?_; first | refine ec_seq ?_ | refine ec_region ?_ | refine ec_block ?_ | refine ec_ret ?_)
      | refine ek_seqN ?_ | refine ek_seqX ?_ | refine ek_seqR ?_ | refine ek_blkN ?_ | refine ek_blkR ?_ | refine ek_blkX ?_ | refine ek_blkY rfl ?_)
    refine sfin (.inr rfl) (by rfl) (by rfl) (by exact ⟨rfl, rfl, rfl⟩) (by rfl) (by rfl) (by rfl) (by first | rfl | (simp; done) | (simp [ints, prs]; done))
  · have lp := lp104_0 n b hn hb _ (if_pos h)
    refine has104.eev rfl rfl ?_
    unfold m104
    repeat' (first
      | refine sc_loop lp rfl rfl ⟨rfl, rfl, rfl⟩ rfl rfl rfl ?_
      | (refine g_op ?_; first
        | refine ep_mov rfl ?_
        | refine sp_box rfl rfl rfl rfl rfl ?_)
      | (refine g_ops ?_; first | refine eo_none ?_ | refine eo_nil ?_)
      | (refine g_code ?_; first | refine ec_seq ?_ | refine ec_region ?_ | refine ec_block ?_ | refine ec_ret ?_)
      | refine ek_seqN ?_ | refine ek_seqX ?_ | refine ek_seqR ?_ | refine ek_blkN ?_ | refine ek_blkR ?_ | refine ek_blkX ?_ | refine ek_blkY rfl ?_)
    refine sfin (.inr rfl) (by rfl) (by rfl) (by exact ⟨rfl, rfl, rfl⟩) (by rfl) (by rfl) (by rfl) (by first | rfl | (simp; done) | (simp [ints, prs]; done))
def monoR (p t : Int) : Bool × Int := if isFn p t = true then (monoB p.toNat t.toNat, 0) else (false, 1)
-- impl.IsMonotone
def m16 : MC := (.seq (.region [⟨(.box (.t 0)), (some 1), none⟩, ⟨(.mov (.k (.bool false))), (some 2), none⟩, ⟨(.mov (.k (.int .i64 0))), (some 3), none⟩] false) (.seq (.seq (.region [⟨(.load (some 2) (.t 1)), (some 4), none⟩, ⟨(.call 95 [(.t 4)]), (some 5), none⟩, ⟨(.un .not (.t 5)), (some 6), none⟩] false) (.cond (.t 6) (.seq (.region [⟨(.mov (.k (.bool false))), (some 2), none⟩, ⟨(.mov (.k (.int .i64 1))), (some 3), none⟩] false) .ret) .skip)) (.seq (.region [⟨(.load (some 2) (.t 1)), (some 7), none⟩, ⟨(.call 96 [(.t 7)]), (some 8), none⟩, ⟨(.mov (.t 8)), (some 2), none⟩, ⟨(.mov (.k (.int .i64 0))), (some 3), none⟩] false) .ret)))
theorem has16 : Has cx 16 9 m16 [(.tmp 2), (.tmp 3)] :=
  ⟨⟨Try.f16, Try.f16.body.getD .skip, by kernel_rfl, by kernel_rfl, by kernel_rfl, by kernel_rfl, by kernel_rfl, by kernel_rfl⟩⟩
theorem ev16 (p t : Int) : Ev cx 16 [.agg [.int .i64 p, .int .i64 t]] [] (.tup [.bool (monoR p t).1, .int .i64 (monoR p t).2]) [] := by
  have e1 := ev95 p t
  cases h1 : isFn p t
  · rw [h1] at e1
    refine has16.eev rfl rfl ?_
    unfold m16
    repeat' (first
      | (refine g_op ?_; first
        | refine ep_mov rfl ?_ | refine sp_loadN rfl rfl rfl rfl rfl ?_
        | refine ep_call0 rfl (by first | exact e1) rfl rfl ?_
        | refine sp_call rfl rfl rfl rfl (by first | exact e1) ⟨rfl, rfl, rfl, rfl⟩ rfl rfl rfl ?_
        | refine ep_not rfl ?_ | refine sp_box rfl rfl rfl rfl rfl ?_)
      | (refine g_ops ?_; first | refine eo_none ?_ | refine eo_nil ?_)
      | (refine g_code ?_; first | refine ec_seq ?_ | refine ec_region ?_ | refine ec_skip ?_ | refine ec_ret ?_ | refine ec_condT rfl ?_ | refine ec_condF rfl ?_ | refine ec_condTH rfl (by assumption) ?_ | refine ec_condFH rfl (by assumption) ?_)
      | refine ek_seqN ?_ | refine ek_seqR ?_)
    refine sfin (.inr rfl) (by rfl) (by rfl) (by exact ⟨rfl, rfl, rfl⟩) (by rfl) (by rfl) (by rw [monoR, if_neg (by rw [h1]; simp)]; try rfl) (by first | rfl | (simp; done) | (simp [ints, prs]; done))
  · rw [h1] at e1
    obtain ⟨n, b, rfl, rfl, h2, h3, h4⟩ := isFn_nat h1
    refine has16.eev rfl rfl ?_
    unfold m16
    repeat' (first
      | (refine g_op ?_; first
        | refine ep_mov rfl ?_ | refine sp_loadN rfl rfl rfl rfl rfl ?_
        | refine ep_call0 rfl (by first | exact e1 | exact ev96 _ _ h2 h4) rfl rfl ?_
        | refine sp_call rfl rfl rfl rfl (by first | exact e1 | exact ev96 _ _ h2 h4) ⟨rfl, rfl, rfl, rfl⟩ rfl rfl rfl ?_
        | refine ep_not rfl ?_ | refine sp_box rfl rfl rfl rfl rfl ?_)
      | (refine g_ops ?_; first | refine eo_none ?_ | refine eo_nil ?_)
      | (refine g_code ?_; first | refine ec_seq ?_ | refine ec_region ?_ | refine ec_skip ?_ | refine ec_ret ?_ | refine ec_condT rfl ?_ | refine ec_condF rfl ?_ | refine ec_condTH rfl (by assumption) ?_ | refine ec_condFH rfl (by assumption) ?_)
      | refine ek_seqN ?_ | refine ek_seqR ?_)
    refine sfin (.inr rfl) (by rfl) (by rfl) (by exact ⟨rfl, rfl, rfl⟩) (by rfl) (by rfl) (by rw [monoR, if_pos h1]; try rfl) (by first | rfl | (simp; done) | (simp [ints, prs]; done))
-- spec.IsMonotone
def m25 : MC := (.seq (.region [⟨(.box (.t 0)), (some 1), none⟩, ⟨(.mov (.k (.bool false))), (some 2), none⟩, ⟨(.mov (.k (.int .i64 0))), (some 3), none⟩] false) (.seq (.seq (.region [⟨(.load (some 2) (.t 1)), (some 4), none⟩, ⟨(.call 103 [(.t 4)]), (some 5), none⟩, ⟨(.un .not (.t 5)), (some 6), none⟩] false) (.cond (.t 6) (.seq (.region [⟨(.mov (.k (.bool false))), (some 2), none⟩, ⟨(.mov (.k (.int .i64 1))), (some 3), none⟩] false) .ret) .skip)) (.seq (.region [⟨(.load (some 2) (.t 1)), (some 7), none⟩, ⟨(.call 104 [(.t 7)]), (some 8), none⟩, ⟨(.mov (.t 8)), (some 2), none⟩, ⟨(.mov (.k (.int .i64 0))), (some 3), none⟩] false) .ret)))
theorem has25 : Has cx 25 9 m25 [(.tmp 2), (.tmp 3)] :=
  ⟨⟨Try.f25, Try.f25.body.getD .skip, by kernel_rfl, by kernel_rfl, by kernel_rfl, by kernel_rfl, by kernel_rfl, by kernel_rfl⟩⟩
theorem ev25 (p t : Int) : Ev cx 25 [.agg [.int .i64 p, .int .i64 t]] [] (.tup [.bool (monoR p t).1, .int .i64 (monoR p t).2]) [] := by
  have e1 := ev103 p t
  cases h1 : isFn p t
  · rw [h1] at e1
    refine has25.eev rfl rfl ?_
    unfold m25
    repeat' (first
      | (refine g_op ?_; first
        | refine ep_mov rfl ?_ | refine sp_loadN rfl rfl rfl rfl rfl ?_
        | refine ep_call0 rfl (by first | exact e1) rfl rfl ?_
        | refine sp_call rfl rfl rfl rfl (by first | exact e1) ⟨rfl, rfl, rfl, rfl⟩ rfl rfl rfl ?_
        | refine ep_not rfl ?_ | refine sp_box rfl rfl rfl rfl rfl ?_)
      | (refine g_ops ?_; first | refine eo_none ?_ | refine eo_nil ?_)
      | (refine g_code ?_; first | refine ec_seq ?_ | refine ec_region ?_ | refine ec_skip ?_ | refine ec_ret ?_ | refine ec_condT rfl ?_ | refine ec_condF rfl ?_ | refine ec_condTH rfl (by assumption) ?_ | refine ec_condFH rfl (by assumption) ?_)
      | refine ek_seqN ?_ | refine ek_seqR ?_)
    refine sfin (.inr rfl) (by rfl) (by rfl) (by exact ⟨rfl, rfl, rfl⟩) (by rfl) (by rfl) (by rw [monoR, if_neg (by rw [h1]; simp)]; try rfl) (by first | rfl | (simp; done) | (simp [ints, prs]; done))
  · rw [h1] at e1
    obtain ⟨n, b, rfl, rfl, h2, h3, h4⟩ := isFn_nat h1
    refine has25.eev rfl rfl ?_
    unfold m25
    repeat' (first
      | (refine g_op ?_; first
        | refine ep_mov rfl ?_ | refine sp_loadN rfl rfl rfl rfl rfl ?_
        | refine ep_call0 rfl (by first | exact e1 | exact ev104 _ _ h2 h4) rfl rfl ?_
        | refine sp_call rfl rfl rfl rfl (by first | exact e1 | exact ev104 _ _ h2 h4) ⟨rfl, rfl, rfl, rfl⟩ rfl rfl rfl ?_
        | refine ep_not rfl ?_ | refine sp_box rfl rfl rfl rfl rfl ?_)
      | (refine g_ops ?_; first | refine eo_none ?_ | refine eo_nil ?_)
      | (refine g_code ?_; first | refine ec_seq ?_ | refine ec_region ?_ | refine ec_skip ?_ | refine ec_ret ?_ | refine ec_condT rfl ?_ | refine ec_condF rfl ?_ | refine ec_condTH rfl (by assumption) ?_ | refine ec_condFH rfl (by assumption) ?_)
      | refine ek_seqN ?_ | refine ek_seqR ?_)
    refine sfin (.inr rfl) (by rfl) (by rfl) (by exact ⟨rfl, rfl, rfl⟩) (by rfl) (by rfl) (by rw [monoR, if_pos h1]; try rfl) (by first | rfl | (simp; done) | (simp [ints, prs]; done))
def ints (l : List Nat) : List V := l.map fun (x : Nat) => .int .i64 (x : Int)
def zints (l : List Int) : List V := l.map fun x => .int .i64 x
def prs (n : Nat) (l : List Nat) : List V := l.flatMap fun (b : Nat) => [.int .i64 n, .int .i64 b]
theorem ints_len (l : List Nat) : (ints l).length = l.length * 1 := by simp [ints]
theorem zints_len (l : List Int) : (zints l).length = l.length * 1 := by simp [zints]
theorem prs_len (n : Nat) : ∀ (l : List Nat), (prs n l).length = l.length * 2
  | [] => rfl
  | x :: xs => by have := prs_len n xs; simp [prs] at this ⊢; omega
def selm (p : Nat → Bool) (g : Nat → Nat) (n : Nat) : List Nat := ((List.range n).filter p).map g
theorem selm_t {p : Nat → Bool} {g : Nat → Nat} {i : Nat} (h : p i = true) : selm p g (i + 1) = selm p g i ++ [g i] := by
  simp [selm, List.range_succ, List.filter_append, h]
theorem selm_f {p : Nat → Bool} {g : Nat → Nat} {i : Nat} (h : p i = false) : selm p g (i + 1) = selm p g i := by
  simp [selm, List.range_succ, List.filter_append, h]
theorem selm_len (p : Nat → Bool) (g : Nat → Nat) : ∀ n, (selm p g n).length ≤ n
  | 0 => by simp [selm]
  | n + 1 => by
    have := selm_len p g n
    cases h : p n with
    | true => rw [selm_t h]; simp; omega
    | false => rw [selm_f h]; omega
theorem selm_congr {p q : Nat → Bool} {g h : Nat → Nat} : ∀ (n : Nat), (∀ i, i < n → p i = q i ∧ (p i = true → g i = h i)) → selm p g n = selm q h n
  | 0, _ => rfl
  | n + 1, hh => by
    have ih := selm_congr n fun i hi => hh i (by omega)
    obtain ⟨h1, h2⟩ := hh n (by omega)
    cases hp : p n with
    | true => rw [selm_t hp, selm_t (by rw [← h1]; exact hp), ih, h2 hp]
    | false => rw [selm_f hp, selm_f (by rw [← h1]; exact hp), ih]
def slV (z : V) (k : Nat) (l : List Nat) : V := match l with | [] => z | x :: xs => .sl k 0 (x :: xs).length
def slH (k es : Nat) (c : List Nat → List V) (l : List Nat) : List Blk := match l with | [] => [] | x :: xs => [⟨c (x :: xs), es, k, some 0, false⟩]
abbrev idn : Nat → Nat := fun i => i
def monoL (n : Nat) : List Nat := selm (monoB n) idn (R2 (R2 n))
-- spec.l07All
def m125_0 : MC := (.seq (.seq (.region [⟨(.mov (.t 4)), (some 7), none⟩, ⟨(.mov (.t 0)), (some 8), none⟩, ⟨(.call 130 [(.t 8)]), (some 9), none⟩, ⟨(.bin .leq (.t 7) (.t 9)), (some 10), none⟩] false) (.cond (.t 10) .skip (.exit 0))) (.seq (.block 1 (.seq (.region [⟨(.mov (.t 0)), (some 13), none⟩, ⟨(.mov (.t 4)), (some 14), none⟩, ⟨(.build [(.int .i64 0), (.int .i64 0)] [(0, (1, (.t 13))), (1, (1, (.t 14)))]), (some 15), none⟩, ⟨(.alloc [(.int .i64 0), (.int .i64 0)]), (some 5), none⟩, ⟨(.store 2 (.t 5) (.t 15)), none, none⟩] false) (.seq (.region [⟨(.load (some 2) (.t 5)), (some 16), none⟩, ⟨(.call 104 [(.t 16)]), (some 17), none⟩] false) (.cond (.t 17) (.region [⟨(.mov (.t 3)), (some 18), none⟩, ⟨(.load (some 2) (.t 5)), (some 19), none⟩, ⟨(.bslice 2 [(.int .i64 0), (.int .i64 0)] 1 [(0, (2, (.t 19)))]), (some 20), none⟩, ⟨(.append 2 16 (.t 18) (.t 20)), (some 21), none⟩, ⟨(.mov (.t 21)), (some 3), none⟩] false) .skip)))) (.region [⟨(.mov (.t 4)), (some 11), none⟩, ⟨(.bin .add (.t 11) (.k (.int .i64 1))), (some 12), none⟩, ⟨(.mov (.t 12)), (some 4), none⟩] false)))
def m125 : MC := (.seq (.region [⟨(.mov (.k .nils)), (some 2), none⟩] false) (.seq (.region [⟨.empt, (some 6), none⟩, ⟨(.mov (.t 6)), (some 3), none⟩] false) (.seq (.seq (.region [⟨(.mov (.k (.int .i64 0))), (some 4), none⟩] false) (.block 0 (.loop m125_0))) (.seq (.region [⟨(.mov (.t 3)), (some 22), none⟩, ⟨(.mov (.t 22)), (some 2), none⟩] false) .ret))))
theorem has125 : Has cx 125 23 m125 [(.tmp 2)] :=
  ⟨⟨Try.f125, Try.f125.body.getD .skip, by kernel_rfl, by kernel_rfl, by kernel_rfl, by kernel_rfl, by kernel_rfl, by kernel_rfl⟩⟩
theorem lp125_0 (n : Nat) (hn : n ≤ 4) (o : Out) (ho : (match selm (monoB n) (idn) (R2 (R2 n)) with | [] => (⟨.exit 0, [(3, .emp)], []⟩ : Out) | x :: xs => ⟨.exit 0, [(3, .sl 0 0 (x :: xs).length)], [⟨prs n (x :: xs), 2, 0, some 0, false⟩]⟩) = o) :
    LpS cx 23 0 m125_0 [(0, .int .i64 (n : Nat)), (3, .emp), (4, .int .i64 (0 : Nat))] [] o.x o.e o.h := by
  obtain ⟨h1, h2, h3, h4⟩ := shN hn
  subst ho
  refine lp_st (R2 (R2 n)) (selm (monoB n) (idn)) (fun i s => match s with | [] => [(0, .int .i64 (n : Nat)), (3, .emp), (4, .int .i64 (i : Nat))] | x :: xs => [(0, .int .i64 (n : Nat)), (3, .sl 0 0 (x :: xs).length), (4, .int .i64 (i : Nat))]) (fun i s => match s with | [] => [] | x :: xs => [⟨prs n (x :: xs), 2, 0, some 0, false⟩]) (fun s => match s with | [] => ⟨.exit 0, [(3, .emp)], []⟩ | x :: xs => ⟨.exit 0, [(3, .sl 0 0 (x :: xs).length)], [⟨prs n (x :: xs), 2, 0, some 0, false⟩]⟩) ?_ ?_ (R2 (R2 n)) 0 (by omega)
  · intro i s hi hs
    have hlt : decide ((i : Int) < (R2 (R2 n) : Nat)) = true := decide_eq_true (by omega)
    have hle : decide ((i : Int) ≤ (R2 (R2 n) : Nat) - 1) = true := decide_eq_true (by omega)
    have hlen : s.length ≤ 65536 := by have := selm_len (monoB n) (idn) i; rw [hs] at this; omega
    cases hp : (monoB n) i with
    | true =>
      have hp' : ((monoB n) i) = true := hp
      cases s with
      | nil =>
        refine ⟨[(idn) i], by rw [selm_t (p := monoB n) hp, hs]; try rfl, ?_⟩
        unfold m125_0
        repeat' (first
          | (refine g_op ?_; first
            | refine ep_mov rfl ?_ | refine sp_loadN rfl rfl rfl rfl rfl ?_
            | refine ep_call0 rfl (by first | exact ev130 _ hn | exact ev104 _ _ hn (by omega)) rfl rfl ?_
            | refine sp_call rfl rfl rfl rfl (by first | exact ev130 _ hn | exact ev104 _ _ hn (by omega)) ⟨rfl, rfl, rfl, rfl⟩ rfl rfl rfl ?_
            | refine ep_bin rfl rfl (by first | exact b_add (by omega) (by omega) | exact b_leq) ?_ | refine sp_store rfl rfl rfl rfl rfl rfl rfl rfl rfl rfl ?_ | refine sp_alloc rfl rfl ?_ | refine sp_build rfl rfl ?_
            | refine sp_bslice rfl rfl rfl rfl rfl ?_ | refine sp_push0 rfl (by first | exact .inl rfl | exact .inr rfl) rfl rfl rfl rfl rfl (by decide) rfl rfl rfl ?_ | refine sp_push rfl rfl rfl rfl rfl rfl rfl (by first | exact ints_len _ | exact prs_len _ _ | exact zints_len _) (by omega) (Nat.zero_le _) rfl rfl rfl rfl rfl ?_)
          | (refine g_ops ?_; first | refine eo_none ?_ | refine eo_nil ?_)
          | (refine g_code ?_; first | refine ec_seq ?_ | refine ec_region ?_ | refine ec_block ?_ | refine ec_skip ?_ | refine ec_exit ?_ | refine ec_condT rfl ?_ | refine ec_condF rfl ?_ | refine ec_condTH rfl (by assumption) ?_ | refine ec_condFH rfl (by assumption) ?_)
          | refine ek_seqN ?_ | refine ek_seqX ?_ | refine ek_blkN ?_ | refine ek_blkR ?_ | refine ek_blkX ?_ | refine ek_blkY rfl ?_)
        exact rnd_on (by rfl) (scmp2 (by rfl) (by rfl) (by exact ⟨rfl, rfl, rfl⟩) (by rfl) (by first | rfl | (simp; done) | (simp [ints, prs]; done)) (by rfl) (by first | rfl | (simp; done) | (simp [ints, prs]; done)))
      | cons x xs =>
        refine ⟨(x :: xs) ++ [(idn) i], by rw [selm_t (p := monoB n) hp, hs]; try rfl, ?_⟩
        unfold m125_0
        repeat' (first
          | (refine g_op ?_; first
            | refine ep_mov rfl ?_ | refine sp_loadN rfl rfl rfl rfl rfl ?_
            | refine ep_call0 rfl (by first | exact ev130 _ hn | exact ev104 _ _ hn (by omega)) rfl rfl ?_
            | refine sp_call rfl rfl rfl rfl (by first | exact ev130 _ hn | exact ev104 _ _ hn (by omega)) ⟨rfl, rfl, rfl, rfl⟩ rfl rfl rfl ?_
            | refine ep_bin rfl rfl (by first | exact b_add (by omega) (by omega) | exact b_leq) ?_ | refine sp_store rfl rfl rfl rfl rfl rfl rfl rfl rfl rfl ?_ | refine sp_alloc rfl rfl ?_ | refine sp_build rfl rfl ?_
            | refine sp_bslice rfl rfl rfl rfl rfl ?_ | refine sp_push0 rfl (by first | exact .inl rfl | exact .inr rfl) rfl rfl rfl rfl rfl (by decide) rfl rfl rfl ?_ | refine sp_push rfl rfl rfl rfl rfl rfl rfl (by first | exact ints_len _ | exact prs_len _ _ | exact zints_len _) (by omega) (Nat.zero_le _) rfl rfl rfl rfl rfl ?_)
          | (refine g_ops ?_; first | refine eo_none ?_ | refine eo_nil ?_)
          | (refine g_code ?_; first | refine ec_seq ?_ | refine ec_region ?_ | refine ec_block ?_ | refine ec_skip ?_ | refine ec_exit ?_ | refine ec_condT rfl ?_ | refine ec_condF rfl ?_ | refine ec_condTH rfl (by assumption) ?_ | refine ec_condFH rfl (by assumption) ?_)
          | refine ek_seqN ?_ | refine ek_seqX ?_ | refine ek_blkN ?_ | refine ek_blkR ?_ | refine ek_blkX ?_ | refine ek_blkY rfl ?_)
        exact rnd_on (by rfl) (scmp2 (by rfl) (by rfl) (by exact ⟨rfl, rfl, rfl⟩) (by rfl) (by first | rfl | (simp; done) | (simp [ints, prs]; done)) (by rfl) (by first | rfl | (simp; done) | (simp [ints, prs]; done)))
    | false =>
      have hp' : ((monoB n) i) = false := hp
      cases s with
      | nil =>
        refine ⟨[], by rw [selm_f (p := monoB n) hp, hs]; try rfl, ?_⟩
        unfold m125_0
        repeat' (first
          | (refine g_op ?_; first
            | refine ep_mov rfl ?_ | refine sp_loadN rfl rfl rfl rfl rfl ?_
            | refine ep_call0 rfl (by first | exact ev130 _ hn | exact ev104 _ _ hn (by omega)) rfl rfl ?_
            | refine sp_call rfl rfl rfl rfl (by first | exact ev130 _ hn | exact ev104 _ _ hn (by omega)) ⟨rfl, rfl, rfl, rfl⟩ rfl rfl rfl ?_
            | refine ep_bin rfl rfl (by first | exact b_add (by omega) (by omega) | exact b_leq) ?_ | refine sp_store rfl rfl rfl rfl rfl rfl rfl rfl rfl rfl ?_ | refine sp_alloc rfl rfl ?_ | refine sp_build rfl rfl ?_
            | refine sp_bslice rfl rfl rfl rfl rfl ?_ | refine sp_push0 rfl (by first | exact .inl rfl | exact .inr rfl) rfl rfl rfl rfl rfl (by decide) rfl rfl rfl ?_ | refine sp_push rfl rfl rfl rfl rfl rfl rfl (by first | exact ints_len _ | exact prs_len _ _ | exact zints_len _) (by omega) (Nat.zero_le _) rfl rfl rfl rfl rfl ?_)
          | (refine g_ops ?_; first | refine eo_none ?_ | refine eo_nil ?_)
          | (refine g_code ?_; first | refine ec_seq ?_ | refine ec_region ?_ | refine ec_block ?_ | refine ec_skip ?_ | refine ec_exit ?_ | refine ec_condT rfl ?_ | refine ec_condF rfl ?_ | refine ec_condTH rfl (by assumption) ?_ | refine ec_condFH rfl (by assumption) ?_)
          | refine ek_seqN ?_ | refine ek_seqX ?_ | refine ek_blkN ?_ | refine ek_blkR ?_ | refine ek_blkX ?_ | refine ek_blkY rfl ?_)
        exact rnd_on (by rfl) (scmp2 (by rfl) (by rfl) (by exact ⟨rfl, rfl, rfl⟩) (by rfl) (by first | rfl | (simp; done) | (simp [ints, prs]; done)) (by rfl) (by first | rfl | (simp; done) | (simp [ints, prs]; done)))
      | cons x xs =>
        refine ⟨x :: xs, by rw [selm_f (p := monoB n) hp, hs]; try rfl, ?_⟩
        unfold m125_0
        repeat' (first
          | (refine g_op ?_; first
            | refine ep_mov rfl ?_ | refine sp_loadN rfl rfl rfl rfl rfl ?_
            | refine ep_call0 rfl (by first | exact ev130 _ hn | exact ev104 _ _ hn (by omega)) rfl rfl ?_
            | refine sp_call rfl rfl rfl rfl (by first | exact ev130 _ hn | exact ev104 _ _ hn (by omega)) ⟨rfl, rfl, rfl, rfl⟩ rfl rfl rfl ?_
            | refine ep_bin rfl rfl (by first | exact b_add (by omega) (by omega) | exact b_leq) ?_ | refine sp_store rfl rfl rfl rfl rfl rfl rfl rfl rfl rfl ?_ | refine sp_alloc rfl rfl ?_ | refine sp_build rfl rfl ?_
            | refine sp_bslice rfl rfl rfl rfl rfl ?_ | refine sp_push0 rfl (by first | exact .inl rfl | exact .inr rfl) rfl rfl rfl rfl rfl (by decide) rfl rfl rfl ?_ | refine sp_push rfl rfl rfl rfl rfl rfl rfl (by first | exact ints_len _ | exact prs_len _ _ | exact zints_len _) (by omega) (Nat.zero_le _) rfl rfl rfl rfl rfl ?_)
          | (refine g_ops ?_; first | refine eo_none ?_ | refine eo_nil ?_)
          | (refine g_code ?_; first | refine ec_seq ?_ | refine ec_region ?_ | refine ec_block ?_ | refine ec_skip ?_ | refine ec_exit ?_ | refine ec_condT rfl ?_ | refine ec_condF rfl ?_ | refine ec_condTH rfl (by assumption) ?_ | refine ec_condFH rfl (by assumption) ?_)
          | refine ek_seqN ?_ | refine ek_seqX ?_ | refine ek_blkN ?_ | refine ek_blkR ?_ | refine ek_blkX ?_ | refine ek_blkY rfl ?_)
        exact rnd_on (by rfl) (scmp2 (by rfl) (by rfl) (by exact ⟨rfl, rfl, rfl⟩) (by rfl) (by first | rfl | (simp; done) | (simp [ints, prs]; done)) (by rfl) (by first | rfl | (simp; done) | (simp [ints, prs]; done)))
  · intro s hs
    have hlt : decide (((R2 (R2 n) : Nat) : Int) < (R2 (R2 n) : Nat)) = false := decide_eq_false (by omega)
    have hle : decide (((R2 (R2 n) : Nat) : Int) ≤ (R2 (R2 n) : Nat) - 1) = false := decide_eq_false (by omega)
    cases s with
    | nil =>
      unfold m125_0
      repeat' (first
        | (refine g_op ?_; first
          | refine ep_mov rfl ?_ | refine sp_loadN rfl rfl rfl rfl rfl ?_
          | refine ep_call0 rfl (by first | exact ev130 _ hn | exact ev104 _ _ hn (by omega)) rfl rfl ?_
          | refine sp_call rfl rfl rfl rfl (by first | exact ev130 _ hn | exact ev104 _ _ hn (by omega)) ⟨rfl, rfl, rfl, rfl⟩ rfl rfl rfl ?_
          | refine ep_bin rfl rfl (by first | exact b_add (by omega) (by omega) | exact b_leq) ?_ | refine sp_store rfl rfl rfl rfl rfl rfl rfl rfl rfl rfl ?_ | refine sp_alloc rfl rfl ?_ | refine sp_build rfl rfl ?_
          | refine sp_bslice rfl rfl rfl rfl rfl ?_ | refine sp_push0 rfl (by first | exact .inl rfl | exact .inr rfl) rfl rfl rfl rfl rfl (by decide) rfl rfl rfl ?_ | refine sp_push rfl rfl rfl rfl rfl rfl rfl (by first | exact ints_len _ | exact prs_len _ _ | exact zints_len _) (by omega) (Nat.zero_le _) rfl rfl rfl rfl rfl ?_)
        | (refine g_ops ?_; first | refine eo_none ?_ | refine eo_nil ?_)
        | (refine g_code ?_; first | refine ec_seq ?_ | refine ec_region ?_ | refine ec_block ?_ | refine ec_skip ?_ | refine ec_exit ?_ | refine ec_condT rfl ?_ | refine ec_condF rfl ?_ | refine ec_condTH rfl (by assumption) ?_ | refine ec_condFH rfl (by assumption) ?_)
        | refine ek_seqN ?_ | refine ek_seqX ?_ | refine ek_blkN ?_ | refine ek_blkR ?_ | refine ek_blkX ?_ | refine ek_blkY rfl ?_)
      exact rnd_out (by rfl) (by simp) (scmp2 (by rfl) (by rfl) (by exact ⟨rfl, rfl, rfl⟩) (by rfl) (by first | rfl | (simp; done) | (simp [ints, prs]; done)) (by rfl) (by first | rfl | (simp; done) | (simp [ints, prs]; done)))
    | cons x xs =>
      unfold m125_0
      repeat' (first
        | (refine g_op ?_; first
          | refine ep_mov rfl ?_ | refine sp_loadN rfl rfl rfl rfl rfl ?_
          | refine ep_call0 rfl (by first | exact ev130 _ hn | exact ev104 _ _ hn (by omega)) rfl rfl ?_
          | refine sp_call rfl rfl rfl rfl (by first | exact ev130 _ hn | exact ev104 _ _ hn (by omega)) ⟨rfl, rfl, rfl, rfl⟩ rfl rfl rfl ?_
          | refine ep_bin rfl rfl (by first | exact b_add (by omega) (by omega) | exact b_leq) ?_ | refine sp_store rfl rfl rfl rfl rfl rfl rfl rfl rfl rfl ?_ | refine sp_alloc rfl rfl ?_ | refine sp_build rfl rfl ?_
          | refine sp_bslice rfl rfl rfl rfl rfl ?_ | refine sp_push0 rfl (by first | exact .inl rfl | exact .inr rfl) rfl rfl rfl rfl rfl (by decide) rfl rfl rfl ?_ | refine sp_push rfl rfl rfl rfl rfl rfl rfl (by first | exact ints_len _ | exact prs_len _ _ | exact zints_len _) (by omega) (Nat.zero_le _) rfl rfl rfl rfl rfl ?_)
        | (refine g_ops ?_; first | refine eo_none ?_ | refine eo_nil ?_)
        | (refine g_code ?_; first | refine ec_seq ?_ | refine ec_region ?_ | refine ec_block ?_ | refine ec_skip ?_ | refine ec_exit ?_ | refine ec_condT rfl ?_ | refine ec_condF rfl ?_ | refine ec_condTH rfl (by assumption) ?_ | refine ec_condFH rfl (by assumption) ?_)
        | refine ek_seqN ?_ | refine ek_seqX ?_ | refine ek_blkN ?_ | refine ek_blkR ?_ | refine ek_blkX ?_ | refine ek_blkY rfl ?_)
      exact rnd_out (by rfl) (by simp) (scmp2 (by rfl) (by rfl) (by exact ⟨rfl, rfl, rfl⟩) (by rfl) (by first | rfl | (simp; done) | (simp [ints, prs]; done)) (by rfl) (by first | rfl | (simp; done) | (simp [ints, prs]; done)))

theorem ev125 (n : Nat) (hn : n ≤ 4) : Ev cx 125 [.int .i64 n] [] (slV .emp 0 (monoL n)) (slH 0 2 (prs n) (monoL n)) := by
  cases hs : monoL n with
  | nil =>
    have lp := lp125_0 n hn _ (by rw [show selm (monoB n) idn (R2 (R2 n)) = _ from hs])
    refine has125.eev rfl rfl ?_
    unfold m125
    repeat' (first
      | refine sc_loop lp rfl rfl ⟨rfl, rfl, rfl⟩ rfl rfl rfl ?_
      | (refine g_op ?_; first
        | refine ep_mov rfl ?_
        | refine ep_empt ?_)
      | (refine g_ops ?_; first | refine eo_none ?_ | refine eo_nil ?_)
      | (refine g_code ?_; first | refine ec_seq ?_ | refine ec_region ?_ | refine ec_block ?_ | refine ec_ret ?_)
      | refine ek_seqN ?_ | refine ek_seqX ?_ | refine ek_seqR ?_ | refine ek_blkN ?_ | refine ek_blkR ?_ | refine ek_blkX ?_ | refine ek_blkY rfl ?_)
    refine sfin (.inr rfl) (by rfl) (by rfl) (by exact ⟨rfl, rfl, rfl⟩) (by rfl) (by rfl) (by rfl) (by first | rfl | (simp; done) | (simp [ints, prs]; done))
  | cons x xs =>
    have lp := lp125_0 n hn _ (by rw [show selm (monoB n) idn (R2 (R2 n)) = _ from hs])
    refine has125.eev rfl rfl ?_
    unfold m125
    repeat' (first
      | refine sc_loop lp rfl rfl ⟨rfl, rfl, rfl⟩ rfl rfl rfl ?_
      | (refine g_op ?_; first
        | refine ep_mov rfl ?_
        | refine ep_empt ?_)
      | (refine g_ops ?_; first | refine eo_none ?_ | refine eo_nil ?_)
      | (refine g_code ?_; first | refine ec_seq ?_ | refine ec_region ?_ | refine ec_block ?_ | refine ec_ret ?_)
      | refine ek_seqN ?_ | refine ek_seqX ?_ | refine ek_seqR ?_ | refine ek_blkN ?_ | refine ek_blkR ?_ | refine ek_blkX ?_ | refine ek_blkY rfl ?_)
    refine sfin (.inr rfl) (by rfl) (by rfl) (by exact ⟨rfl, rfl, rfl⟩) (by rfl) (by rfl) (by rfl) (by first | rfl | (simp; done) | (simp [ints, prs]; done))
theorem bt_tb (b r : Nat) : bt b r = (b.testBit r).toNat := by
  unfold bt
  rw [Nat.testBit, Nat.and_comm]
  have : 1 &&& b >>> r = (b >>> r) % 2 := by rw [Nat.and_comm, Nat.and_one_is_mod]
  rw [this]
  have := Nat.mod_two_eq_zero_or_one (b >>> r)
  rcases this with h | h <;> rw [h] <;> rfl
def pk (g : Nat → Nat) : Nat → Nat
  | 0 => 0
  | n + 1 => pk g n ||| (g n <<< n)
theorem pk_tb {g : Nat → Nat} : ∀ {n : Nat}, (∀ r, r < n → g r ≤ 1) → ∀ r, (pk g n).testBit r = (decide (r < n) && decide (g r = 1))
  | 0, _, r => by simp [pk]
  | n + 1, h, r => by
    rw [pk, Nat.testBit_or, pk_tb (fun r hr => h r (by omega)), Nat.testBit_shiftLeft]
    have hn := h n (by omega)
    by_cases e : r = n
    · subst e
      have : g r = 0 ∨ g r = 1 := by omega
      rcases this with h | h <;> simp [h]
    · by_cases hl : r < n
      · have : ¬ n ≤ r := by omega
        have : r < n + 1 := by omega
        simp [*]
      · have h1 : n ≤ r := by omega
        have h2 : ¬ r < n + 1 := by omega
        simp only [hl, h1, h2, decide_false, Bool.false_and, Bool.false_or, ge_iff_le, decide_true, Bool.true_and]
        exact Nat.testBit_lt_two_pow (Nat.lt_of_le_of_lt hn (Nat.one_lt_two_pow (by omega)))
theorem lt_R2 {x n : Nat} (h : ∀ r, n ≤ r → x.testBit r = false) : x < R2 n := by
  unfold R2; exact Nat.lt_pow_two_of_testBit x fun i hi => h i hi
theorem pk_lt {g : Nat → Nat} {n : Nat} (h : ∀ r, r < n → g r ≤ 1) : pk g n < R2 n := by
  refine lt_R2 fun r hr => ?_
  rw [pk_tb h]; have : ¬ r < n := by omega
  simp [this]
theorem sl_lt {x i m : Nat} (hx : x ≤ 1) (hi : i < m) : x <<< i < R2 m := by
  rw [Nat.shiftLeft_eq]; unfold R2
  have h1 : 2 ^ i < 2 ^ m := Nat.pow_lt_pow_right (by omega) hi
  have h2 : x * 2 ^ i ≤ 1 * 2 ^ i := Nat.mul_le_mul_right _ hx
  omega
theorem R2_mono {i n : Nat} (h : i ≤ n) : R2 i ≤ R2 n := by unfold R2; exact Nat.pow_le_pow_right (by omega) h
theorem tb_ge {x n r : Nat} (h : x < R2 n) (hr : n ≤ r) : x.testBit r = false := by
  unfold R2 at h
  exact Nat.testBit_lt_two_pow (Nat.lt_of_lt_of_le h (Nat.pow_le_pow_right (by omega) hr))
theorem ext_bt {x y n : Nat} (hx : x < R2 n) (hy : y < R2 n) (h : ∀ r, r < n → bt x r = bt y r) : x = y := by
  apply Nat.eq_of_testBit_eq
  intro r
  by_cases hr : r < n
  · have := h r hr
    rw [bt_tb, bt_tb] at this
    revert this; cases x.testBit r <;> cases y.testBit r <;> simp
  · rw [tb_ge hx (by omega), tb_ge hy (by omega)]
theorem bt_pk {g : Nat → Nat} {n : Nat} (h : ∀ r, r < n → g r ≤ 1) {r : Nat} (hr : r < n) : bt (pk g n) r = g r := by
  rw [bt_tb, pk_tb h]
  have := h r hr
  have : g r = 0 ∨ g r = 1 := by omega
  rcases this with h | h <;> simp [h, hr]
theorem pk_add {g : Nat → Nat} {n : Nat} (h : ∀ r, r < n → g r ≤ 1) : pk g n + (g n <<< n) = pk g (n + 1) := by
  have hl := pk_lt h
  rw [pk, Nat.or_comm, Nat.shiftLeft_eq, Nat.add_comm]
  unfold R2 at hl
  rw [Nat.mul_comm (g n), Nat.two_pow_add_eq_or_of_lt hl]
theorem pk_congr {g h : Nat → Nat} : ∀ {n : Nat}, (∀ r, r < n → g r = h r) → pk g n = pk h n
  | 0, _ => rfl
  | n + 1, hh => by rw [pk, pk, pk_congr fun r hr => hh r (by omega), hh n (by omega)]
theorem pk_self {b n : Nat} (h : b < R2 n) : pk (bt b) n = b :=
  ext_bt (pk_lt fun r _ => bt_le b r) h fun r hr => bt_pk (fun r _ => bt_le b r) hr
def bn (P : Nat → Bool) (t : Nat) : Nat := if P t then 1 else 0
theorem bn_le (P : Nat → Bool) (t : Nat) : bn P t ≤ 1 := by unfold bn; split <;> omega
-- impl.funcsThat
def m124_0 : MC := (.seq (.region [⟨(.bin .lss (.t 10) (.t 9)), (some 11), none⟩] false) (.seq (.cond (.t 11) .skip (.exit 0)) (.seq (.block 1 (.seq (.region [⟨(.mov (.t 10)), (some 12), none⟩, ⟨(.mov (.t 12)), (some 6), none⟩] false) (.seq (.region [⟨(.mov (.t 0)), (some 13), none⟩, ⟨(.mov (.t 6)), (some 14), none⟩, ⟨(.build [(.int .i64 0), (.int .i64 0)] [(0, (1, (.t 13))), (1, (1, (.t 14)))]), (some 15), none⟩, ⟨(.alloc [(.int .i64 0), (.int .i64 0)]), (some 7), none⟩, ⟨(.store 2 (.t 7) (.t 15)), none, none⟩] false) (.seq (.region [⟨(.mov (.t 1)), (some 16), none⟩, ⟨(.load (some 2) (.t 7)), (some 17), none⟩, ⟨(.callv (.t 16) [(.t 17)]), (some 18), none⟩] false) (.cond (.t 18) (.region [⟨(.mov (.t 5)), (some 19), none⟩, ⟨(.load (some 2) (.t 7)), (some 20), none⟩, ⟨(.bslice 2 [(.int .i64 0), (.int .i64 0)] 1 [(0, (2, (.t 20)))]), (some 21), none⟩, ⟨(.append 2 16 (.t 19) (.t 21)), (some 22), none⟩, ⟨(.mov (.t 22)), (some 5), none⟩] false) .skip))))) (.region [⟨(.bin .add (.t 10) (.k (.int .i64 1))), (some 23), none⟩, ⟨(.mov (.t 23)), (some 10), none⟩] false))))
def m124 : MC := (.seq (.region [⟨(.mov (.k .nils)), (some 4), none⟩] false) (.seq (.region [⟨(.mov (.k .nils)), (some 5), none⟩] false) (.seq (.seq (.region [⟨(.mov (.t 0)), (some 8), none⟩, ⟨(.call 171 [(.t 8)]), (some 9), none⟩, ⟨(.mov (.k (.int .i64 0))), (some 10), none⟩] false) (.block 0 (.loop m124_0))) (.seq (.region [⟨(.mov (.t 5)), (some 24), none⟩, ⟨(.mov (.t 24)), (some 4), none⟩] false) .ret))))
theorem has124 : Has cx 124 25 m124 [(.tmp 4)] :=
  ⟨⟨Try.f124, Try.f124.body.getD .skip, by kernel_rfl, by kernel_rfl, by kernel_rfl, by kernel_rfl, by kernel_rfl, by kernel_rfl⟩⟩

theorem lpft_mono (n : Nat) (hn : n ≤ 4) (o : Out) (ho : (match selm (monoB n) (idn) (R2 (R2 n)) with | [] => (⟨.exit 0, [(5, .nils)], []⟩ : Out) | x :: xs => ⟨.exit 0, [(5, .sl 0 0 (x :: xs).length)], [⟨prs n (x :: xs), 2, 0, some 0, false⟩]⟩) = o) :
    LpS cx 25 0 m124_0 [(0, .int .i64 (n : Nat)), (1, .fn 96 []), (5, .nils), (9, .int .i64 (R2 (R2 n) : Nat)), (10, .int .i64 (0 : Nat))] [] o.x o.e o.h := by
  obtain ⟨h1, h2, h3, h4⟩ := shN hn
  subst ho
  refine lp_st (R2 (R2 n)) (selm (monoB n) (idn)) (fun i s => match s with | [] => [(0, .int .i64 (n : Nat)), (1, .fn 96 []), (5, .nils), (9, .int .i64 (R2 (R2 n) : Nat)), (10, .int .i64 (i : Nat))] | x :: xs => [(0, .int .i64 (n : Nat)), (1, .fn 96 []), (5, .sl 0 0 (x :: xs).length), (9, .int .i64 (R2 (R2 n) : Nat)), (10, .int .i64 (i : Nat))]) (fun i s => match s with | [] => [] | x :: xs => [⟨prs n (x :: xs), 2, 0, some 0, false⟩]) (fun s => match s with | [] => ⟨.exit 0, [(5, .nils)], []⟩ | x :: xs => ⟨.exit 0, [(5, .sl 0 0 (x :: xs).length)], [⟨prs n (x :: xs), 2, 0, some 0, false⟩]⟩) ?_ ?_ (R2 (R2 n)) 0 (by omega)
  · intro i s hi hs
    have hlt : decide ((i : Int) < (R2 (R2 n) : Nat)) = true := decide_eq_true (by omega)
    have hle : decide ((i : Int) ≤ (R2 (R2 n) : Nat) - 1) = true := decide_eq_true (by omega)
    have hlen : s.length ≤ 65536 := by have := selm_len (monoB n) (idn) i; rw [hs] at this; omega
    cases hp : (monoB n) i with
    | true =>
      have hp' : ((monoB n) i) = true := hp
      cases s with
      | nil =>
        refine ⟨[(idn) i], by rw [selm_t (p := monoB n) hp, hs]; try rfl, ?_⟩
        unfold m124_0
        repeat' (first
          | (refine g_op ?_; first
            | refine ep_mov rfl ?_ | refine sp_loadN rfl rfl rfl rfl rfl ?_
            | refine sp_callv rfl rfl rfl rfl rfl rfl (by first | exact ev96 _ _ hn (by omega)) ⟨rfl, rfl, rfl, rfl⟩ rfl rfl rfl ?_
            | refine sp_callb rfl rfl rfl rfl rfl rfl (by first | exact ev96 _ _ hn (by omega)) ⟨rfl, rfl, rfl, rfl⟩ rfl rfl rfl ?_
            | refine ep_bin rfl rfl (by first | exact b_add (by omega) (by omega) | exact b_lss) ?_ | refine sp_store rfl rfl rfl rfl rfl rfl rfl rfl rfl rfl ?_ | refine sp_alloc rfl rfl ?_ | refine sp_build rfl rfl ?_
            | refine sp_bslice rfl rfl rfl rfl rfl ?_ | refine sp_push0 rfl (by first | exact .inl rfl | exact .inr rfl) rfl rfl rfl rfl rfl (by decide) rfl rfl rfl ?_ | refine sp_push rfl rfl rfl rfl rfl rfl rfl (by first | exact ints_len _ | exact prs_len _ _ | exact zints_len _) (by omega) (Nat.zero_le _) rfl rfl rfl rfl rfl ?_)
          | (refine g_ops ?_; first | refine eo_none ?_ | refine eo_nil ?_)
          | (refine g_code ?_; first | refine ec_seq ?_ | refine ec_region ?_ | refine ec_block ?_ | refine ec_skip ?_ | refine ec_exit ?_ | refine ec_condT rfl ?_ | refine ec_condF rfl ?_ | refine ec_condTH rfl (by assumption) ?_ | refine ec_condFH rfl (by assumption) ?_)
          | refine ek_seqN ?_ | refine ek_seqX ?_ | refine ek_blkN ?_ | refine ek_blkR ?_ | refine ek_blkX ?_ | refine ek_blkY rfl ?_)
        exact rnd_on (by rfl) (scmp2 (by rfl) (by rfl) (by exact ⟨rfl, rfl, rfl⟩) (by rfl) (by first | rfl | (simp; done) | (simp [ints, prs]; done)) (by rfl) (by first | rfl | (simp; done) | (simp [ints, prs]; done)))
      | cons x xs =>
        refine ⟨(x :: xs) ++ [(idn) i], by rw [selm_t (p := monoB n) hp, hs]; try rfl, ?_⟩
        unfold m124_0
        repeat' (first
          | (refine g_op ?_; first
            | refine ep_mov rfl ?_ | refine sp_loadN rfl rfl rfl rfl rfl ?_
            | refine sp_callv rfl rfl rfl rfl rfl rfl (by first | exact ev96 _ _ hn (by omega)) ⟨rfl, rfl, rfl, rfl⟩ rfl rfl rfl ?_
            | refine sp_callb rfl rfl rfl rfl rfl rfl (by first | exact ev96 _ _ hn (by omega)) ⟨rfl, rfl, rfl, rfl⟩ rfl rfl rfl ?_
            | refine ep_bin rfl rfl (by first | exact b_add (by omega) (by omega) | exact b_lss) ?_ | refine sp_store rfl rfl rfl rfl rfl rfl rfl rfl rfl rfl ?_ | refine sp_alloc rfl rfl ?_ | refine sp_build rfl rfl ?_
            | refine sp_bslice rfl rfl rfl rfl rfl ?_ | refine sp_push0 rfl (by first | exact .inl rfl | exact .inr rfl) rfl rfl rfl rfl rfl (by decide) rfl rfl rfl ?_ | refine sp_push rfl rfl rfl rfl rfl rfl rfl (by first | exact ints_len _ | exact prs_len _ _ | exact zints_len _) (by omega) (Nat.zero_le _) rfl rfl rfl rfl rfl ?_)
          | (refine g_ops ?_; first | refine eo_none ?_ | refine eo_nil ?_)
          | (refine g_code ?_; first | refine ec_seq ?_ | refine ec_region ?_ | refine ec_block ?_ | refine ec_skip ?_ | refine ec_exit ?_ | refine ec_condT rfl ?_ | refine ec_condF rfl ?_ | refine ec_condTH rfl (by assumption) ?_ | refine ec_condFH rfl (by assumption) ?_)
          | refine ek_seqN ?_ | refine ek_seqX ?_ | refine ek_blkN ?_ | refine ek_blkR ?_ | refine ek_blkX ?_ | refine ek_blkY rfl ?_)
        exact rnd_on (by rfl) (scmp2 (by rfl) (by rfl) (by exact ⟨rfl, rfl, rfl⟩) (by rfl) (by first | rfl | (simp; done) | (simp [ints, prs]; done)) (by rfl) (by first | rfl | (simp; done) | (simp [ints, prs]; done)))
    | false =>
      have hp' : ((monoB n) i) = false := hp
      cases s with
      | nil =>
        refine ⟨[], by rw [selm_f (p := monoB n) hp, hs]; try rfl, ?_⟩
        unfold m124_0
        repeat' (first
          | (refine g_op ?_; first
            | refine ep_mov rfl ?_ | refine sp_loadN rfl rfl rfl rfl rfl ?_
            | refine sp_callv rfl rfl rfl rfl rfl rfl (by first | exact ev96 _ _ hn (by omega)) ⟨rfl, rfl, rfl, rfl⟩ rfl rfl rfl ?_
            | refine sp_callb rfl rfl rfl rfl rfl rfl (by first | exact ev96 _ _ hn (by omega)) ⟨rfl, rfl, rfl, rfl⟩ rfl rfl rfl ?_
            | refine ep_bin rfl rfl (by first | exact b_add (by omega) (by omega) | exact b_lss) ?_ | refine sp_store rfl rfl rfl rfl rfl rfl rfl rfl rfl rfl ?_ | refine sp_alloc rfl rfl ?_ | refine sp_build rfl rfl ?_
            | refine sp_bslice rfl rfl rfl rfl rfl ?_ | refine sp_push0 rfl (by first | exact .inl rfl | exact .inr rfl) rfl rfl rfl rfl rfl (by decide) rfl rfl rfl ?_ | refine sp_push rfl rfl rfl rfl rfl rfl rfl (by first | exact ints_len _ | exact prs_len _ _ | exact zints_len _) (by omega) (Nat.zero_le _) rfl rfl rfl rfl rfl ?_)
          | (refine g_ops ?_; first | refine eo_none ?_ | refine eo_nil ?_)
          | (refine g_code ?_; first | refine ec_seq ?_ | refine ec_region ?_ | refine ec_block ?_ | refine ec_skip ?_ | refine ec_exit ?_ | refine ec_condT rfl ?_ | refine ec_condF rfl ?_ | refine ec_condTH rfl (by assumption) ?_ | refine ec_condFH rfl (by assumption) ?_)
          | refine ek_seqN ?_ | refine ek_seqX ?_ | refine ek_blkN ?_ | refine ek_blkR ?_ | refine ek_blkX ?_ | refine ek_blkY rfl ?_)
        exact rnd_on (by rfl) (scmp2 (by rfl) (by rfl) (by exact ⟨rfl, rfl, rfl⟩) (by rfl) (by first | rfl | (simp; done) | (simp [ints, prs]; done)) (by rfl) (by first | rfl | (simp; done) | (simp [ints, prs]; done)))
      | cons x xs =>
        refine ⟨x :: xs, by rw [selm_f (p := monoB n) hp, hs]; try rfl, ?_⟩
        unfold m124_0
        repeat' (first
          | (refine g_op ?_; first
            | refine ep_mov rfl ?_ | refine sp_loadN rfl rfl rfl rfl rfl ?_
            | refine sp_callv rfl rfl rfl rfl rfl rfl (by first | exact ev96 _ _ hn (by omega)) ⟨rfl, rfl, rfl, rfl⟩ rfl rfl rfl ?_
            | refine sp_callb rfl rfl rfl rfl rfl rfl (by first | exact ev96 _ _ hn (by omega)) ⟨rfl, rfl, rfl, rfl⟩ rfl rfl rfl ?_
            | refine ep_bin rfl rfl (by first | exact b_add (by omega) (by omega) | exact b_lss) ?_ | refine sp_store rfl rfl rfl rfl rfl rfl rfl rfl rfl rfl ?_ | refine sp_alloc rfl rfl ?_ | refine sp_build rfl rfl ?_
            | refine sp_bslice rfl rfl rfl rfl rfl ?_ | refine sp_push0 rfl (by first | exact .inl rfl | exact .inr rfl) rfl rfl rfl rfl rfl (by decide) rfl rfl rfl ?_ | refine sp_push rfl rfl rfl rfl rfl rfl rfl (by first | exact ints_len _ | exact prs_len _ _ | exact zints_len _) (by omega) (Nat.zero_le _) rfl rfl rfl rfl rfl ?_)
          | (refine g_ops ?_; first | refine eo_none ?_ | refine eo_nil ?_)
          | (refine g_code ?_; first | refine ec_seq ?_ | refine ec_region ?_ | refine ec_block ?_ | refine ec_skip ?_ | refine ec_exit ?_ | refine ec_condT rfl ?_ | refine ec_condF rfl ?_ | refine ec_condTH rfl (by assumption) ?_ | refine ec_condFH rfl (by assumption) ?_)
          | refine ek_seqN ?_ | refine ek_seqX ?_ | refine ek_blkN ?_ | refine ek_blkR ?_ | refine ek_blkX ?_ | refine ek_blkY rfl ?_)
        exact rnd_on (by rfl) (scmp2 (by rfl) (by rfl) (by exact ⟨rfl, rfl, rfl⟩) (by rfl) (by first | rfl | (simp; done) | (simp [ints, prs]; done)) (by rfl) (by first | rfl | (simp; done) | (simp [ints, prs]; done)))
  · intro s hs
    have hlt : decide (((R2 (R2 n) : Nat) : Int) < (R2 (R2 n) : Nat)) = false := decide_eq_false (by omega)
    have hle : decide (((R2 (R2 n) : Nat) : Int) ≤ (R2 (R2 n) : Nat) - 1) = false := decide_eq_false (by omega)
    cases s with
    | nil =>
      unfold m124_0
      repeat' (first
        | (refine g_op ?_; first
          | refine ep_mov rfl ?_ | refine sp_loadN rfl rfl rfl rfl rfl ?_
          | refine sp_callv rfl rfl rfl rfl rfl rfl (by first | exact ev96 _ _ hn (by omega)) ⟨rfl, rfl, rfl, rfl⟩ rfl rfl rfl ?_
          | refine sp_callb rfl rfl rfl rfl rfl rfl (by first | exact ev96 _ _ hn (by omega)) ⟨rfl, rfl, rfl, rfl⟩ rfl rfl rfl ?_
          | refine ep_bin rfl rfl (by first | exact b_add (by omega) (by omega) | exact b_lss) ?_ | refine sp_store rfl rfl rfl rfl rfl rfl rfl rfl rfl rfl ?_ | refine sp_alloc rfl rfl ?_ | refine sp_build rfl rfl ?_
          | refine sp_bslice rfl rfl rfl rfl rfl ?_ | refine sp_push0 rfl (by first | exact .inl rfl | exact .inr rfl) rfl rfl rfl rfl rfl (by decide) rfl rfl rfl ?_ | refine sp_push rfl rfl rfl rfl rfl rfl rfl (by first | exact ints_len _ | exact prs_len _ _ | exact zints_len _) (by omega) (Nat.zero_le _) rfl rfl rfl rfl rfl ?_)
        | (refine g_ops ?_; first | refine eo_none ?_ | refine eo_nil ?_)
        | (refine g_code ?_; first | refine ec_seq ?_ | refine ec_region ?_ | refine ec_block ?_ | refine ec_skip ?_ | refine ec_exit ?_ | refine ec_condT rfl ?_ | refine ec_condF rfl ?_ | refine ec_condTH rfl (by assumption) ?_ | refine ec_condFH rfl (by assumption) ?_)
        | refine ek_seqN ?_ | refine ek_seqX ?_ | refine ek_blkN ?_ | refine ek_blkR ?_ | refine ek_blkX ?_ | refine ek_blkY rfl ?_)
      exact rnd_out (by rfl) (by simp) (scmp2 (by rfl) (by rfl) (by exact ⟨rfl, rfl, rfl⟩) (by rfl) (by first | rfl | (simp; done) | (simp [ints, prs]; done)) (by rfl) (by first | rfl | (simp; done) | (simp [ints, prs]; done)))
    | cons x xs =>
      unfold m124_0
      repeat' (first
        | (refine g_op ?_; first
          | refine ep_mov rfl ?_ | refine sp_loadN rfl rfl rfl rfl rfl ?_
          | refine sp_callv rfl rfl rfl rfl rfl rfl (by first | exact ev96 _ _ hn (by omega)) ⟨rfl, rfl, rfl, rfl⟩ rfl rfl rfl ?_
          | refine sp_callb rfl rfl rfl rfl rfl rfl (by first | exact ev96 _ _ hn (by omega)) ⟨rfl, rfl, rfl, rfl⟩ rfl rfl rfl ?_
          | refine ep_bin rfl rfl (by first | exact b_add (by omega) (by omega) | exact b_lss) ?_ | refine sp_store rfl rfl rfl rfl rfl rfl rfl rfl rfl rfl ?_ | refine sp_alloc rfl rfl ?_ | refine sp_build rfl rfl ?_
          | refine sp_bslice rfl rfl rfl rfl rfl ?_ | refine sp_push0 rfl (by first | exact .inl rfl | exact .inr rfl) rfl rfl rfl rfl rfl (by decide) rfl rfl rfl ?_ | refine sp_push rfl rfl rfl rfl rfl rfl rfl (by first | exact ints_len _ | exact prs_len _ _ | exact zints_len _) (by omega) (Nat.zero_le _) rfl rfl rfl rfl rfl ?_)
        | (refine g_ops ?_; first | refine eo_none ?_ | refine eo_nil ?_)
        | (refine g_code ?_; first | refine ec_seq ?_ | refine ec_region ?_ | refine ec_block ?_ | refine ec_skip ?_ | refine ec_exit ?_ | refine ec_condT rfl ?_ | refine ec_condF rfl ?_ | refine ec_condTH rfl (by assumption) ?_ | refine ec_condFH rfl (by assumption) ?_)
        | refine ek_seqN ?_ | refine ek_seqX ?_ | refine ek_blkN ?_ | refine ek_blkR ?_ | refine ek_blkX ?_ | refine ek_blkY rfl ?_)
      exact rnd_out (by rfl) (by simp) (scmp2 (by rfl) (by rfl) (by exact ⟨rfl, rfl, rfl⟩) (by rfl) (by first | rfl | (simp; done) | (simp [ints, prs]; done)) (by rfl) (by first | rfl | (simp; done) | (simp [ints, prs]; done)))

theorem evft_mono (n : Nat) (hn : n ≤ 4) : Ev cx 124 [.int .i64 n, .fn 96 []] [] (slV .nils 0 (monoL n)) (slH 0 2 (prs n) (monoL n)) := by
  cases hs : monoL n with
  | nil =>
    have lp := lpft_mono n hn _ (by rw [show selm (monoB n) idn (R2 (R2 n)) = _ from hs])
    refine has124.eev rfl rfl ?_
    unfold m124
    repeat' (first
      | refine sc_loop lp rfl rfl ⟨rfl, rfl, rfl⟩ rfl rfl rfl ?_
      | (refine g_op ?_; first
        | refine ep_mov rfl ?_
        | refine ep_call0 rfl (by first | exact ev171 _ hn) rfl rfl ?_
        | refine sp_call rfl rfl rfl rfl (by first | exact ev171 _ hn) ⟨rfl, rfl, rfl, rfl⟩ rfl rfl rfl ?_)
      | (refine g_ops ?_; first | refine eo_none ?_ | refine eo_nil ?_)
      | (refine g_code ?_; first | refine ec_seq ?_ | refine ec_region ?_ | refine ec_block ?_ | refine ec_ret ?_)
      | refine ek_seqN ?_ | refine ek_seqX ?_ | refine ek_seqR ?_ | refine ek_blkN ?_ | refine ek_blkR ?_ | refine ek_blkX ?_ | refine ek_blkY rfl ?_)
    refine sfin (.inr rfl) (by rfl) (by rfl) (by exact ⟨rfl, rfl, rfl⟩) (by rfl) (by rfl) (by rfl) (by first | rfl | (simp; done) | (simp [ints, prs]; done))
  | cons x xs =>
    have lp := lpft_mono n hn _ (by rw [show selm (monoB n) idn (R2 (R2 n)) = _ from hs])
    refine has124.eev rfl rfl ?_
    unfold m124
    repeat' (first
      | refine sc_loop lp rfl rfl ⟨rfl, rfl, rfl⟩ rfl rfl rfl ?_
      | (refine g_op ?_; first
        | refine ep_mov rfl ?_
        | refine ep_call0 rfl (by first | exact ev171 _ hn) rfl rfl ?_
        | refine sp_call rfl rfl rfl rfl (by first | exact ev171 _ hn) ⟨rfl, rfl, rfl, rfl⟩ rfl rfl rfl ?_)
      | (refine g_ops ?_; first | refine eo_none ?_ | refine eo_nil ?_)
      | (refine g_code ?_; first | refine ec_seq ?_ | refine ec_region ?_ | refine ec_block ?_ | refine ec_ret ?_)
      | refine ek_seqN ?_ | refine ek_seqX ?_ | refine ek_seqR ?_ | refine ek_blkN ?_ | refine ek_blkR ?_ | refine ek_blkX ?_ | refine ek_blkY rfl ?_)
    refine sfin (.inr rfl) (by rfl) (by rfl) (by exact ⟨rfl, rfl, rfl⟩) (by rfl) (by rfl) (by rfl) (by first | rfl | (simp; done) | (simp [ints, prs]; done))
def mfL (z : Int) : List Nat := if 0 ≤ z ∧ z ≤ 4 then monoL z.toNat else []
def mfC (z : Int) : Int := if 0 ≤ z ∧ z ≤ 4 then 0 else 2
-- impl.MonotoneFuncs
def m20 : MC := (.seq (.region [⟨(.mov (.k .nils)), (some 2), none⟩, ⟨(.mov (.k (.int .i64 0))), (some 3), none⟩] false) (.seq (.seq (.region [⟨(.mov (.t 0)), (some 4), none⟩, ⟨(.call 108 [(.t 4)]), (some 5), none⟩, ⟨(.un .not (.t 5)), (some 6), none⟩] false) (.cond (.t 6) (.seq (.region [⟨(.mov (.k .nils)), (some 2), none⟩, ⟨(.mov (.k (.int .i64 2))), (some 3), none⟩] false) .ret) .skip)) (.seq (.region [⟨(.mov (.t 0)), (some 7), none⟩, ⟨(.call 124 [(.t 7), (.k (.fn 96 []))]), (some 8), none⟩, ⟨(.mov (.t 8)), (some 2), none⟩, ⟨(.mov (.k (.int .i64 0))), (some 3), none⟩] false) .ret)))
theorem has20 : Has cx 20 9 m20 [(.tmp 2), (.tmp 3)] :=
  ⟨⟨Try.f20, Try.f20.body.getD .skip, by kernel_rfl, by kernel_rfl, by kernel_rfl, by kernel_rfl, by kernel_rfl, by kernel_rfl⟩⟩
theorem ev20 (z : Int) : Ev cx 20 [.int .i64 z] [] (.tup [slV .nils 0 (mfL z), .int .i64 (mfC z)]) (slH 0 2 (prs z.toNat) (mfL z)) := by
  have e1 := ev108 z
  by_cases h : 0 ≤ z ∧ z ≤ 4
  · rw [decide_eq_true h] at e1
    obtain ⟨n, rfl⟩ := Int.eq_ofNat_of_zero_le h.1
    have hn : n ≤ 4 := by omega
    have e2 := evft_mono _ hn
    have hc : mfC (n : Int) = 0 := if_pos h
    have hl : mfL (n : Int) = monoL n := if_pos h
    rw [hl, hc, Int.toNat_natCast]
    cases hs : monoL n with
    | nil =>
      rw [hs] at e2
      refine has20.eev rfl rfl ?_
      unfold m20
      repeat' (first
        | (refine g_op ?_; first
          | refine ep_mov rfl ?_
          | refine ep_call0 rfl (by first | exact e1 | exact e2) rfl rfl ?_
          | refine sp_call rfl rfl rfl rfl (by first | exact e1 | exact e2) ⟨rfl, rfl, rfl, rfl⟩ rfl rfl rfl ?_
          | refine ep_not rfl ?_)
        | (refine g_ops ?_; first | refine eo_none ?_ | refine eo_nil ?_)
        | (refine g_code ?_; first | refine ec_seq ?_ | refine ec_region ?_ | refine ec_skip ?_ | refine ec_ret ?_ | refine ec_condT rfl ?_ | refine ec_condF rfl ?_ | refine ec_condTH rfl (by assumption) ?_ | refine ec_condFH rfl (by assumption) ?_)
        | refine ek_seqN ?_ | refine ek_seqR ?_)
      refine sfin (.inr rfl) (by rfl) (by rfl) (by exact ⟨rfl, rfl, rfl⟩) (by rfl) (by rfl) (by first | rfl | (rw [if_pos h]; rfl)) (by first | rfl | (simp; done) | (simp [ints, prs]; done))
    | cons x xs =>
      rw [hs] at e2
      refine has20.eev rfl rfl ?_
      unfold m20
      repeat' (first
        | (refine g_op ?_; first
          | refine ep_mov rfl ?_
          | refine ep_call0 rfl (by first | exact e1 | exact e2) rfl rfl ?_
          | refine sp_call rfl rfl rfl rfl (by first | exact e1 | exact e2) ⟨rfl, rfl, rfl, rfl⟩ rfl rfl rfl ?_
          | refine ep_not rfl ?_)
        | (refine g_ops ?_; first | refine eo_none ?_ | refine eo_nil ?_)
        | (refine g_code ?_; first | refine ec_seq ?_ | refine ec_region ?_ | refine ec_skip ?_ | refine ec_ret ?_ | refine ec_condT rfl ?_ | refine ec_condF rfl ?_ | refine ec_condTH rfl (by assumption) ?_ | refine ec_condFH rfl (by assumption) ?_)
        | refine ek_seqN ?_ | refine ek_seqR ?_)
      refine sfin (.inr rfl) (by rfl) (by rfl) (by exact ⟨rfl, rfl, rfl⟩) (by rfl) (by rfl) (by rfl) (by first | rfl | (simp; done) | (simp [ints, prs]; done))
  · rw [decide_eq_false h] at e1
    have hc : mfC z = 2 := if_neg h
    have hl : mfL z = [] := if_neg h
    rw [hl, hc]
    refine has20.eev rfl rfl ?_
    unfold m20
    repeat' (first
      | (refine g_op ?_; first
        | refine ep_mov rfl ?_
        | refine ep_call0 rfl (by first | exact e1) rfl rfl ?_
        | refine sp_call rfl rfl rfl rfl (by first | exact e1) ⟨rfl, rfl, rfl, rfl⟩ rfl rfl rfl ?_
        | refine ep_not rfl ?_)
      | (refine g_ops ?_; first | refine eo_none ?_ | refine eo_nil ?_)
      | (refine g_code ?_; first | refine ec_seq ?_ | refine ec_region ?_ | refine ec_skip ?_ | refine ec_ret ?_ | refine ec_condT rfl ?_ | refine ec_condF rfl ?_ | refine ec_condTH rfl (by assumption) ?_ | refine ec_condFH rfl (by assumption) ?_)
      | refine ek_seqN ?_ | refine ek_seqR ?_)
    refine sfin (.inr rfl) (by rfl) (by rfl) (by exact ⟨rfl, rfl, rfl⟩) (by rfl) (by rfl) (by first | rfl | (rw [if_neg h]; rfl)) (by first | rfl | (simp; done) | (simp [ints, prs]; done))
-- spec.MonotoneFuncs
def m21 : MC := (.seq (.region [⟨(.mov (.k .nils)), (some 2), none⟩, ⟨(.mov (.k (.int .i64 0))), (some 3), none⟩] false) (.seq (.seq (.region [⟨(.mov (.t 0)), (some 4), none⟩, ⟨(.call 122 [(.t 4), (.k (.int .i64 0)), (.k (.int .i64 4))]), (some 5), none⟩, ⟨(.un .not (.t 5)), (some 6), none⟩] false) (.cond (.t 6) (.seq (.region [⟨(.mov (.k .nils)), (some 2), none⟩, ⟨(.mov (.k (.int .i64 2))), (some 3), none⟩] false) .ret) .skip)) (.seq (.region [⟨(.mov (.t 0)), (some 7), none⟩, ⟨(.call 125 [(.t 7)]), (some 8), none⟩, ⟨(.mov (.t 8)), (some 2), none⟩, ⟨(.mov (.k (.int .i64 0))), (some 3), none⟩] false) .ret)))
theorem has21 : Has cx 21 9 m21 [(.tmp 2), (.tmp 3)] :=
  ⟨⟨Try.f21, Try.f21.body.getD .skip, by kernel_rfl, by kernel_rfl, by kernel_rfl, by kernel_rfl, by kernel_rfl, by kernel_rfl⟩⟩
theorem ev21 (z : Int) : Ev cx 21 [.int .i64 z] [] (.tup [slV (if 0 ≤ z ∧ z ≤ 4 then .emp else .nils) 0 (mfL z), .int .i64 (mfC z)]) (slH 0 2 (prs z.toNat) (mfL z)) := by
  have e1 := ev122 z 0 4
  by_cases h : 0 ≤ z ∧ z ≤ 4
  · rw [decide_eq_true h] at e1
    obtain ⟨n, rfl⟩ := Int.eq_ofNat_of_zero_le h.1
    have hn : n ≤ 4 := by omega
    have e2 := ev125 _ hn
    have hc : mfC (n : Int) = 0 := if_pos h
    have hl : mfL (n : Int) = monoL n := if_pos h
    rw [hl, hc, Int.toNat_natCast]
    cases hs : monoL n with
    | nil =>
      rw [hs] at e2
      refine has21.eev rfl rfl ?_
      unfold m21
      repeat' (first
        | (refine g_op ?_; first
          | refine ep_mov rfl ?_
          | refine ep_call0 rfl (by first | exact e1 | exact e2) rfl rfl ?_
          | refine sp_call rfl rfl rfl rfl (by first | exact e1 | exact e2) ⟨rfl, rfl, rfl, rfl⟩ rfl rfl rfl ?_
          | refine ep_not rfl ?_)
        | (refine g_ops ?_; first | refine eo_none ?_ | refine eo_nil ?_)
        | (refine g_code ?_; first | refine ec_seq ?_ | refine ec_region ?_ | refine ec_skip ?_ | refine ec_ret ?_ | refine ec_condT rfl ?_ | refine ec_condF rfl ?_ | refine ec_condTH rfl (by assumption) ?_ | refine ec_condFH rfl (by assumption) ?_)
        | refine ek_seqN ?_ | refine ek_seqR ?_)
      refine sfin (.inr rfl) (by rfl) (by rfl) (by exact ⟨rfl, rfl, rfl⟩) (by rfl) (by rfl) (by first | rfl | (rw [if_pos h]; rfl)) (by first | rfl | (simp; done) | (simp [ints, prs]; done))
    | cons x xs =>
      rw [hs] at e2
      refine has21.eev rfl rfl ?_
      unfold m21
      repeat' (first
        | (refine g_op ?_; first
          | refine ep_mov rfl ?_
          | refine ep_call0 rfl (by first | exact e1 | exact e2) rfl rfl ?_
          | refine sp_call rfl rfl rfl rfl (by first | exact e1 | exact e2) ⟨rfl, rfl, rfl, rfl⟩ rfl rfl rfl ?_
          | refine ep_not rfl ?_)
        | (refine g_ops ?_; first | refine eo_none ?_ | refine eo_nil ?_)
        | (refine g_code ?_; first | refine ec_seq ?_ | refine ec_region ?_ | refine ec_skip ?_ | refine ec_ret ?_ | refine ec_condT rfl ?_ | refine ec_condF rfl ?_ | refine ec_condTH rfl (by assumption) ?_ | refine ec_condFH rfl (by assumption) ?_)
        | refine ek_seqN ?_ | refine ek_seqR ?_)
      refine sfin (.inr rfl) (by rfl) (by rfl) (by exact ⟨rfl, rfl, rfl⟩) (by rfl) (by rfl) (by rfl) (by first | rfl | (simp; done) | (simp [ints, prs]; done))
  · rw [decide_eq_false h] at e1
    have hc : mfC z = 2 := if_neg h
    have hl : mfL z = [] := if_neg h
    rw [hl, hc]
    refine has21.eev rfl rfl ?_
    unfold m21
    repeat' (first
      | (refine g_op ?_; first
        | refine ep_mov rfl ?_
        | refine ep_call0 rfl (by first | exact e1) rfl rfl ?_
        | refine sp_call rfl rfl rfl rfl (by first | exact e1) ⟨rfl, rfl, rfl, rfl⟩ rfl rfl rfl ?_
        | refine ep_not rfl ?_)
      | (refine g_ops ?_; first | refine eo_none ?_ | refine eo_nil ?_)
      | (refine g_code ?_; first | refine ec_seq ?_ | refine ec_region ?_ | refine ec_skip ?_ | refine ec_ret ?_ | refine ec_condT rfl ?_ | refine ec_condF rfl ?_ | refine ec_condTH rfl (by assumption) ?_ | refine ec_condFH rfl (by assumption) ?_)
      | refine ek_seqN ?_ | refine ek_seqR ?_)
    refine sfin (.inr rfl) (by rfl) (by rfl) (by exact ⟨rfl, rfl, rfl⟩) (by rfl) (by rfl) (by first | rfl | (rw [if_neg h]; rfl)) (by first | rfl | (simp; done) | (simp [ints, prs]; done))
-- impl.CountMonotone
def m22 : MC := (.seq (.region [⟨(.mov (.k (.int .i64 0))), (some 2), none⟩, ⟨(.mov (.k (.int .i64 0))), (some 3), none⟩] false) (.seq (.region [⟨(.mov (.t 0)), (some 7), none⟩, ⟨(.call 20 [(.t 7)]), (some 8), none⟩, ⟨(.mov (.t 8)), (some 6), none⟩, ⟨(.extract (.t 6) 0), (some 9), none⟩, ⟨(.extract (.t 6) 1), (some 10), none⟩, ⟨(.mov (.t 9)), (some 4), none⟩, ⟨(.mov (.t 10)), (some 5), none⟩] false) (.seq (.region [⟨(.mov (.t 4)), (some 11), none⟩, ⟨(.len (.t 11)), (some 12), none⟩, ⟨(.mov (.t 5)), (some 13), none⟩, ⟨(.mov (.t 12)), (some 2), none⟩, ⟨(.mov (.t 13)), (some 3), none⟩] false) .ret)))
theorem has22 : Has cx 22 14 m22 [(.tmp 2), (.tmp 3)] :=
  ⟨⟨Try.f22, Try.f22.body.getD .skip, by kernel_rfl, by kernel_rfl, by kernel_rfl, by kernel_rfl, by kernel_rfl, by kernel_rfl⟩⟩
theorem ev22 (z : Int) : Ev cx 22 [.int .i64 z] [] (.tup [.int .i64 ((mfL z).length : Nat), .int .i64 (mfC z)]) [] := by
  have e1 := ev20 z
  cases hs : mfL z with
  | nil =>
    rw [hs] at e1
    refine has22.eev rfl rfl ?_
    unfold m22
    repeat' (first
      | (refine g_op ?_; first
        | refine ep_mov rfl ?_
        | refine ep_call0 rfl (by first | exact e1) rfl rfl ?_
        | refine sp_call rfl rfl rfl rfl (by first | exact e1) ⟨rfl, rfl, rfl, rfl⟩ rfl rfl rfl ?_
        | refine ep_extract rfl rfl ?_ | refine ep_lenS rfl ?_ | refine ep_lenN rfl ?_ | refine ep_lenE rfl ?_)
      | (refine g_ops ?_; first | refine eo_none ?_ | refine eo_nil ?_)
      | (refine g_code ?_; first | refine ec_seq ?_ | refine ec_region ?_ | refine ec_ret ?_)
      | refine ek_seqN ?_ | refine ek_seqR ?_)
    refine sfin (.inr rfl) (by rfl) (by rfl) (by exact ⟨rfl, rfl, rfl⟩) (by rfl) (by rfl) (by rfl) (by first | rfl | (simp; done) | (simp [ints, prs]; done))
  | cons x xs =>
    rw [hs] at e1
    refine has22.eev rfl rfl ?_
    unfold m22
    repeat' (first
      | (refine g_op ?_; first
        | refine ep_mov rfl ?_
        | refine ep_call0 rfl (by first | exact e1) rfl rfl ?_
        | refine sp_call rfl rfl rfl rfl (by first | exact e1) ⟨rfl, rfl, rfl, rfl⟩ rfl rfl rfl ?_
        | refine ep_extract rfl rfl ?_ | refine ep_lenS rfl ?_ | refine ep_lenN rfl ?_ | refine ep_lenE rfl ?_)
      | (refine g_ops ?_; first | refine eo_none ?_ | refine eo_nil ?_)
      | (refine g_code ?_; first | refine ec_seq ?_ | refine ec_region ?_ | refine ec_ret ?_)
      | refine ek_seqN ?_ | refine ek_seqR ?_)
    refine sfin (.inr rfl) (by rfl) (by rfl) (by exact ⟨rfl, rfl, rfl⟩) (by rfl) (by rfl) (by rfl) (by first | rfl | (simp; done) | (simp [ints, prs]; done))
-- impl.one
def m114 : MC := (.seq (.region [⟨(.mov (.k (.int .i64 0))), (some 2), none⟩] false) (.seq (.seq (.region [⟨(.mov (.t 0)), (some 3), none⟩] false) (.cond (.t 3) (.seq (.region [⟨(.mov (.k (.int .i64 1))), (some 2), none⟩] false) .ret) .skip)) (.seq (.region [⟨(.mov (.k (.int .i64 0))), (some 2), none⟩] false) .ret)))
theorem has114 : Has cx 114 4 m114 [(.tmp 2)] :=
  ⟨⟨Try.f114, Try.f114.body.getD .skip, by kernel_rfl, by kernel_rfl, by kernel_rfl, by kernel_rfl, by kernel_rfl, by kernel_rfl⟩⟩
theorem ev114 (b : Bool) : Ev cx 114 [.bool b] [] (.int .i64 ((if b then 1 else 0 : Nat) : Int)) [] := by
  cases b
  · refine has114.eev rfl rfl ?_
    unfold m114
    repeat' (first
      | (refine g_op ?_; first
        | refine ep_mov rfl ?_)
      | (refine g_ops ?_; first | refine eo_none ?_ | refine eo_nil ?_)
      | (refine g_code ?_; first | refine ec_seq ?_ | refine ec_region ?_ | refine ec_skip ?_ | refine ec_ret ?_ | refine ec_condT rfl ?_ | refine ec_condF rfl ?_ | refine ec_condTH rfl (by assumption) ?_ | refine ec_condFH rfl (by assumption) ?_)
      | refine ek_seqN ?_ | refine ek_seqR ?_)
    refine sfin (.inr rfl) (by rfl) (by rfl) (by exact ⟨rfl, rfl, rfl⟩) (by rfl) (by rfl) (by rfl) (by first | rfl | (simp; done) | (simp [ints, prs]; done))
  · refine has114.eev rfl rfl ?_
    unfold m114
    repeat' (first
      | (refine g_op ?_; first
        | refine ep_mov rfl ?_)
      | (refine g_ops ?_; first | refine eo_none ?_ | refine eo_nil ?_)
      | (refine g_code ?_; first | refine ec_seq ?_ | refine ec_region ?_ | refine ec_skip ?_ | refine ec_ret ?_ | refine ec_condT rfl ?_ | refine ec_condF rfl ?_ | refine ec_condTH rfl (by assumption) ?_ | refine ec_condFH rfl (by assumption) ?_)
      | refine ek_seqN ?_ | refine ek_seqR ?_)
    refine sfin (.inr rfl) (by rfl) (by rfl) (by exact ⟨rfl, rfl, rfl⟩) (by rfl) (by rfl) (by rfl) (by first | rfl | (simp; done) | (simp [ints, prs]; done))
-- impl.funcBy
def m112_0 : MC := (.seq (.region [⟨(.bin .lss (.t 11) (.t 10)), (some 12), none⟩] false) (.seq (.cond (.t 12) .skip (.exit 0)) (.seq (.block 1 (.seq (.region [⟨(.mov (.t 11)), (some 13), none⟩, ⟨(.mov (.t 13)), (some 6), none⟩] false) (.region [⟨(.fieldAddr 1 (.t 5)), (some 14), none⟩, ⟨(.load none (.t 14)), (some 15), none⟩, ⟨(.mov (.t 1)), (some 16), none⟩, ⟨(.mov (.t 6)), (some 17), none⟩, ⟨(.callv (.t 16) [(.t 17)]), (some 18), none⟩, ⟨(.mov (.t 6)), (some 19), none⟩, ⟨(.bin .shl (.t 18) (.t 19)), (some 20), none⟩, ⟨(.bin .or (.t 15) (.t 20)), (some 21), none⟩, ⟨(.fieldAddr 1 (.t 5)), (some 22), none⟩, ⟨(.store 1 (.t 22) (.t 21)), none, none⟩] true))) (.region [⟨(.bin .add (.t 11) (.k (.int .i64 1))), (some 23), none⟩, ⟨(.mov (.t 23)), (some 11), none⟩] false))))
def m112 : MC := (.seq (.region [⟨(.alloc [(.int .i64 0), (.int .i64 0)]), (some 4), none⟩] false) (.seq (.region [⟨(.mov (.t 0)), (some 7), none⟩, ⟨(.build [(.int .i64 0), (.int .i64 0)] [(0, (1, (.t 7)))]), (some 8), none⟩, ⟨(.alloc [(.int .i64 0), (.int .i64 0)]), (some 5), none⟩, ⟨(.store 2 (.t 5) (.t 8)), none, none⟩] false) (.seq (.seq (.region [⟨(.mov (.t 0)), (some 9), none⟩, ⟨(.call 111 [(.t 9)]), (some 10), none⟩, ⟨(.mov (.k (.int .i64 0))), (some 11), none⟩] false) (.block 0 (.loop m112_0))) (.seq (.region [⟨(.load (some 2) (.t 5)), (some 24), none⟩, ⟨(.store 2 (.t 4) (.t 24)), none, none⟩] false) .ret))))
theorem has112 : Has cx 112 25 m112 [(.cell 4 (some 2))] :=
  ⟨⟨Try.f112, Try.f112.body.getD .skip, by kernel_rfl, by kernel_rfl, by kernel_rfl, by kernel_rfl, by kernel_rfl, by kernel_rfl⟩⟩

theorem R2_pos (n : Nat) : 1 ≤ R2 n := by unfold R2; exact Nat.one_le_two_pow
theorem and_le_l (x y : Nat) : x &&& y ≤ x := Nat.and_le_left
theorem ieq (x y : Nat) : (((x : Nat) : Int) == ((y : Nat) : Int)) = (x == y) := by rw [Bool.eq_iff_iff]; simp only [beq_iff_eq]; omega
theorem ine (x y : Nat) : (((x : Nat) : Int) != ((y : Nat) : Int)) = (x != y) := by rw [bne, bne, ieq]
theorem ieq1 (x : Nat) : (((x : Nat) : Int) == 1) = (x == 1) := ieq x 1
theorem ieq0 (x : Nat) : (((x : Nat) : Int) == 0) = (x == 0) := ieq x 0
theorem ints_get {l : List Nat} {j : Nat} (h : j < l.length) : (ints l)[0 + j * 1]? = some (.int .i64 (l.getD j 0 : Nat)) := by
  simp [ints, h]
theorem zints_get {l : List Int} {j : Nat} (h : j < l.length) : (zints l)[0 + j * 1]? = some (.int .i64 (l.getD j 0)) := by
  simp [zints, h]
theorem prs_get {n : Nat} : ∀ {l : List Nat} {j : Nat} (_ : j < l.length), [V.int .i64 (n : Nat), V.int .i64 (l.getD j 0 : Nat)].length = 2 ∧ (0 + j * 2) + 2 ≤ (prs n l).length ∧ ((prs n l).drop (0 + j * 2)).take 2 = [V.int .i64 (n : Nat), V.int .i64 (l.getD j 0 : Nat)]
  | [], j, h => by simp at h
  | x :: xs, 0, h => by simp [prs]
  | x :: xs, j + 1, h => by
    obtain ⟨_, h2, h3⟩ := prs_get (n := n) (l := xs) (j := j) (by simpa using h)
    have e : (0 + (j + 1) * 2) = (0 + j * 2) + 2 := by omega
    rw [e]
    have e2 : prs n (x :: xs) = .int .i64 (n : Nat) :: .int .i64 (x : Nat) :: prs n xs := by simp [prs]
    rw [e2]
    refine ⟨rfl, by simp; omega, ?_⟩
    rw [List.drop_succ_cons, List.drop_succ_cons, h3]; simp
def fns (l : List (Int × Int)) : List V := l.flatMap fun (f : Int × Int) => [.int .i64 f.1, .int .i64 f.2]
theorem fns_get : ∀ {l : List (Int × Int)} {j : Nat} (_ : j < l.length), [V.int .i64 (l.getD j (0, 0)).1, V.int .i64 (l.getD j (0, 0)).2].length = 2 ∧ (0 + j * 2) + 2 ≤ (fns l).length ∧ ((fns l).drop (0 + j * 2)).take 2 = [V.int .i64 (l.getD j (0, 0)).1, V.int .i64 (l.getD j (0, 0)).2]
  | [], j, h => by simp at h
  | x :: xs, 0, h => by simp [fns]
  | x :: xs, j + 1, h => by
    obtain ⟨_, h2, h3⟩ := fns_get (l := xs) (j := j) (by simpa using h)
    have e : (0 + (j + 1) * 2) = (0 + j * 2) + 2 := by omega
    rw [e]
    have e2 : fns (x :: xs) = .int .i64 x.1 :: .int .i64 x.2 :: fns xs := by simp [fns]
    rw [e2]
    refine ⟨rfl, by simp; omega, ?_⟩
    rw [List.drop_succ_cons, List.drop_succ_cons, h3]; simp
theorem selm_all {g : Nat → Nat} (n : Nat) : (selm (fun _ => true) g n).length = n ∧ ∀ r, r < n → (selm (fun _ => true) g n).getD r 0 = g r := by
  have e : selm (fun _ => true) g n = (List.range n).map g := by unfold selm; rw [List.filter_eq_self.mpr (fun _ _ => rfl)]
  rw [e]; refine ⟨by simp, fun r hr => by simp [List.getD_eq_getElem?_getD, hr]⟩
-- spec.l01Of
def m107_0 : MC := (.seq (.seq (.region [⟨(.mov (.t 6)), (some 9), none⟩, ⟨(.mov (.t 0)), (some 10), none⟩, ⟨(.call 106 [(.t 10)]), (some 11), none⟩, ⟨(.bin .lss (.t 9) (.t 11)), (some 12), none⟩] false) (.cond (.t 12) .skip (.exit 0))) (.seq (.block 1 (.region [⟨(.fieldAddr 1 (.t 5)), (some 15), none⟩, ⟨(.load none (.t 15)), (some 16), none⟩, ⟨(.mov (.t 1)), (some 17), none⟩, ⟨(.mov (.t 6)), (some 18), none⟩, ⟨(.indexAddr 1 (.t 17) (.t 18)), (some 19), none⟩, ⟨(.load none (.t 19)), (some 20), none⟩, ⟨(.mov (.t 6)), (some 21), none⟩, ⟨(.conv .u64 (.t 21)), (some 22), none⟩, ⟨(.bin .shl (.t 20) (.t 22)), (some 23), none⟩, ⟨(.bin .add (.t 16) (.t 23)), (some 24), none⟩, ⟨(.fieldAddr 1 (.t 5)), (some 25), none⟩, ⟨(.store 1 (.t 25) (.t 24)), none, none⟩] true)) (.region [⟨(.mov (.t 6)), (some 13), none⟩, ⟨(.bin .add (.t 13) (.k (.int .i64 1))), (some 14), none⟩, ⟨(.mov (.t 14)), (some 6), none⟩] false)))
def m107 : MC := (.seq (.region [⟨(.alloc [(.int .i64 0), (.int .i64 0)]), (some 4), none⟩] false) (.seq (.region [⟨(.mov (.t 0)), (some 7), none⟩, ⟨(.build [(.int .i64 0), (.int .i64 0)] [(0, (1, (.t 7)))]), (some 8), none⟩, ⟨(.alloc [(.int .i64 0), (.int .i64 0)]), (some 5), none⟩, ⟨(.store 2 (.t 5) (.t 8)), none, none⟩] false) (.seq (.seq (.region [⟨(.mov (.k (.int .i64 0))), (some 6), none⟩] false) (.block 0 (.loop m107_0))) (.seq (.region [⟨(.load (some 2) (.t 5)), (some 26), none⟩, ⟨(.store 2 (.t 4) (.t 26)), none, none⟩] false) .ret))))
theorem has107 : Has cx 107 27 m107 [(.cell 4 (some 2))] :=
  ⟨⟨Try.f107, Try.f107.body.getD .skip, by kernel_rfl, by kernel_rfl, by kernel_rfl, by kernel_rfl, by kernel_rfl, by kernel_rfl⟩⟩
theorem lp107_0 (n p : Nat) (l : List Nat) (hn : n ≤ 4) (hl : R2 n ≤ l.length) (h01 : ∀ r, r < R2 n → l.getD r 0 ≤ 1) :
    LpS cx 27 1 m107_0 [(0, .int .i64 (n : Nat)), (1, .sl 0 0 l.length), (4, .ptr 1 0), (5, .ptr 2 0), (6, .int .i64 (0 : Nat))] [⟨ints l, 1, 0, some p, false⟩, ⟨[.int .i64 0, .int .i64 0], 1, 1, some 0, true⟩, ⟨[.int .i64 (n : Nat), .int .i64 (pk (fun r => l.getD r 0) (0) : Nat)], 1, 2, some 0, true⟩] (⟨.exit 0, [(4, .ptr 1 0), (5, .ptr 2 0)], [⟨ints l, 1, 0, some p, false⟩, ⟨[.int .i64 0, .int .i64 0], 1, 1, some 0, true⟩, ⟨[.int .i64 (n : Nat), .int .i64 (pk (fun r => l.getD r 0) (R2 n) : Nat)], 1, 2, some 0, true⟩]⟩ : Out).x (⟨.exit 0, [(4, .ptr 1 0), (5, .ptr 2 0)], [⟨ints l, 1, 0, some p, false⟩, ⟨[.int .i64 0, .int .i64 0], 1, 1, some 0, true⟩, ⟨[.int .i64 (n : Nat), .int .i64 (pk (fun r => l.getD r 0) (R2 n) : Nat)], 1, 2, some 0, true⟩]⟩ : Out).e (⟨.exit 0, [(4, .ptr 1 0), (5, .ptr 2 0)], [⟨ints l, 1, 0, some p, false⟩, ⟨[.int .i64 0, .int .i64 0], 1, 1, some 0, true⟩, ⟨[.int .i64 (n : Nat), .int .i64 (pk (fun r => l.getD r 0) (R2 n) : Nat)], 1, 2, some 0, true⟩]⟩ : Out).h := by
  obtain ⟨h1, h2, h3, h4⟩ := shN hn
  refine lp_st (R2 n) (fun _ => ()) (fun i _ => [(0, .int .i64 (n : Nat)), (1, .sl 0 0 l.length), (4, .ptr 1 0), (5, .ptr 2 0), (6, .int .i64 (i : Nat))]) (fun i _ => [⟨ints l, 1, 0, some p, false⟩, ⟨[.int .i64 0, .int .i64 0], 1, 1, some 0, true⟩, ⟨[.int .i64 (n : Nat), .int .i64 (pk (fun r => l.getD r 0) (i) : Nat)], 1, 2, some 0, true⟩]) (fun _ => (⟨.exit 0, [(4, .ptr 1 0), (5, .ptr 2 0)], [⟨ints l, 1, 0, some p, false⟩, ⟨[.int .i64 0, .int .i64 0], 1, 1, some 0, true⟩, ⟨[.int .i64 (n : Nat), .int .i64 (pk (fun r => l.getD r 0) (R2 n) : Nat)], 1, 2, some 0, true⟩]⟩ : Out)) ?_ ?_ (R2 n) 0 (by omega)
  · intro i u_ hi hu_
    refine ⟨(), rfl, ?_⟩
    have hlt : decide ((i : Int) < (R2 n : Nat)) = true := decide_eq_true (by omega)
    have hg := h01 i hi
    have hp0 := pk_lt (g := fun r => l.getD r 0) (n := i + 1) fun r hr => h01 r (by omega)
    have hp3 := pk_add (g := fun r => l.getD r 0) (n := i) fun r hr => h01 r (by omega)
    have hp1 := R2_mono (i := i + 1) (n := R2 n) (by omega)
    have hs1 := sl_lt hg hi
    have hb0 : binV .add (.int .i64 (pk (fun r => l.getD r 0) i : Nat)) (.int .i64 (l.getD i 0 <<< i : Nat)) = some (.int .i64 (pk (fun r => l.getD r 0) (i + 1) : Nat)) := by
      rw [← hp3] at hp0 ⊢; exact b_addN (by omega)
    unfold m107_0
    repeat' (first
      | (refine g_op ?_; first
        | refine ep_mov rfl ?_ | refine ep_load1 rfl rfl rfl rfl ?_ | refine ep_fieldAddr rfl ?_
        | refine ep_call0 rfl (by first | exact ev106 _ hn) rfl rfl ?_
        | refine sp_call rfl rfl rfl rfl (by first | exact ev106 _ hn) ⟨rfl, rfl, rfl, rfl⟩ rfl rfl rfl ?_
        | refine ep_bin rfl rfl (by first | exact hb0 | exact b_shl (x := l.getD i 0) (by omega) (by omega) | exact b_add (by omega) (by omega) | exact b_shl (by omega) (by omega) | exact b_lss) ?_ | refine sp_store rfl rfl rfl rfl rfl rfl rfl rfl rfl rfl ?_
        | refine ep_conv rfl (by first | exact w_u64 (by omega) (by omega) | exact wrap_id (by omega) (by omega) | rfl) ?_ | refine sp_idx rfl rfl rfl (by omega) rfl ?_ | refine ep_loadS rfl rfl rfl (by first | exact ints_get (by omega) | exact zints_get (by omega) | exact fget (by omega) | assumption) ?_)
      | (refine g_ops ?_; first | refine eo_none ?_ | refine eo_nil ?_)
      | (refine g_dops ?_; first | refine ed_none ?_ | refine ed_nil ?_)
      | refine ed_same rfl ?_ | refine ed_one rfl rfl rfl rfl ?_ | refine ed_two rfl rfl rfl rfl rfl rfl rfl ?_ | refine ed_write rfl rfl ?_
      | (refine g_code ?_; first | refine ec_seq ?_ | refine ec_region ?_ | refine ec_draw ?_ | refine ec_block ?_ | refine ec_skip ?_ | refine ec_exit ?_ | refine ec_condT rfl ?_ | refine ec_condF rfl ?_ | refine ec_condTH rfl (by assumption) ?_ | refine ec_condFH rfl (by assumption) ?_)
      | refine ek_seqN ?_ | refine ek_seqX ?_ | refine ek_blkN ?_ | refine ek_blkR ?_ | refine ek_blkX ?_ | refine ek_blkY rfl ?_)
    exact rnd_on (by rfl) (scmp2 (by rfl) (by rfl) (by exact ⟨rfl, rfl, rfl⟩) (by rfl) (by first | rfl | (simp; done) | (simp [ints, prs]; done)) (by rfl) (by first | rfl | (simp; done) | (simp [ints, prs]; done)))
  · intro u_ hu_
    have hlt : decide (((R2 n : Nat) : Int) < (R2 n : Nat)) = false := decide_eq_false (by omega)
    unfold m107_0
    repeat' (first
      | (refine g_op ?_; first
        | refine ep_mov rfl ?_ | refine ep_load1 rfl rfl rfl rfl ?_ | refine ep_fieldAddr rfl ?_
        | refine ep_call0 rfl (by first | exact ev106 _ hn) rfl rfl ?_
        | refine sp_call rfl rfl rfl rfl (by first | exact ev106 _ hn) ⟨rfl, rfl, rfl, rfl⟩ rfl rfl rfl ?_
        | refine ep_bin rfl rfl (by first | exact hb0 | exact b_shl (x := l.getD i 0) (by omega) (by omega) | exact b_add (by omega) (by omega) | exact b_shl (by omega) (by omega) | exact b_lss) ?_ | refine sp_store rfl rfl rfl rfl rfl rfl rfl rfl rfl rfl ?_
        | refine ep_conv rfl (by first | exact w_u64 (by omega) (by omega) | exact wrap_id (by omega) (by omega) | rfl) ?_ | refine sp_idx rfl rfl rfl (by omega) rfl ?_ | refine ep_loadS rfl rfl rfl (by first | exact ints_get (by omega) | exact zints_get (by omega) | exact fget (by omega) | assumption) ?_)
      | (refine g_ops ?_; first | refine eo_none ?_ | refine eo_nil ?_)
      | (refine g_dops ?_; first | refine ed_none ?_ | refine ed_nil ?_)
      | refine ed_same rfl ?_ | refine ed_one rfl rfl rfl rfl ?_ | refine ed_two rfl rfl rfl rfl rfl rfl rfl ?_ | refine ed_write rfl rfl ?_
      | (refine g_code ?_; first | refine ec_seq ?_ | refine ec_region ?_ | refine ec_draw ?_ | refine ec_block ?_ | refine ec_skip ?_ | refine ec_exit ?_ | refine ec_condT rfl ?_ | refine ec_condF rfl ?_ | refine ec_condTH rfl (by assumption) ?_ | refine ec_condFH rfl (by assumption) ?_)
      | refine ek_seqN ?_ | refine ek_seqX ?_ | refine ek_blkN ?_ | refine ek_blkR ?_ | refine ek_blkX ?_ | refine ek_blkY rfl ?_)
    exact rnd_out (by rfl) (by simp) (scmp2 (by rfl) (by rfl) (by exact ⟨rfl, rfl, rfl⟩) (by rfl) (by first | rfl | (simp; done) | (simp [ints, prs]; done)) (by rfl) (by first | rfl | (simp; done) | (simp [ints, prs]; done)))

theorem ev107 (n p : Nat) (l : List Nat) (hn : n ≤ 4) (hl : R2 n ≤ l.length) (h01 : ∀ r, r < R2 n → l.getD r 0 ≤ 1) : Ev cx 107 [.int .i64 n, .sl 0 0 l.length] [⟨ints l, 1, 0, some p, false⟩] (.agg [.int .i64 n, .int .i64 (pk (fun r => l.getD r 0) (R2 n) : Nat)]) [⟨ints l, 1, 0, some p, false⟩] := by
  have lp := lp107_0 n p l hn hl h01
  refine has107.eev rfl rfl ?_
  unfold m107
  repeat' (first
    | refine sc_loop lp rfl rfl ⟨rfl, rfl, rfl⟩ rfl rfl rfl ?_
    | (refine g_op ?_; first
      | refine ep_mov rfl ?_ | refine sp_loadN rfl rfl rfl rfl rfl ?_
      | refine sp_store rfl rfl rfl rfl rfl rfl rfl rfl rfl rfl ?_ | refine sp_alloc rfl rfl ?_ | refine sp_build rfl rfl ?_)
    | (refine g_ops ?_; first | refine eo_none ?_ | refine eo_nil ?_)
    | (refine g_code ?_; first | refine ec_seq ?_ | refine ec_region ?_ | refine ec_block ?_ | refine ec_ret ?_)
    | refine ek_seqN ?_ | refine ek_seqX ?_ | refine ek_seqR ?_ | refine ek_blkN ?_ | refine ek_blkR ?_ | refine ek_blkX ?_ | refine ek_blkY rfl ?_)
  refine sfin (.inr rfl) (by rfl) (by rfl) (by exact ⟨rfl, rfl, rfl⟩) (by rfl) (by rfl) (by rfl) (by first | rfl | (simp; done) | (simp [ints, prs]; done))
-- spec.l01Fix
def m153_0 : MC := (.seq (.seq (.region [⟨(.mov (.t 8)), (some 10), none⟩, ⟨(.fieldAddr 0 (.t 3)), (some 11), none⟩, ⟨(.load none (.t 11)), (some 12), none⟩, ⟨(.call 106 [(.t 12)]), (some 13), none⟩, ⟨(.bin .lss (.t 10) (.t 13)), (some 14), none⟩] false) (.cond (.t 14) .skip (.exit 0))) (.seq (.block 1 (.seq (.region [⟨(.mov (.t 8)), (some 17), none⟩, ⟨(.mov (.t 1)), (some 18), none⟩, ⟨(.conv .u64 (.t 18)), (some 19), none⟩, ⟨(.bin .shr (.t 17) (.t 19)), (some 20), none⟩, ⟨(.bin .and (.t 20) (.k (.int .i64 1))), (some 21), none⟩, ⟨(.mov (.t 2)), (some 22), none⟩, ⟨(.bin .eql (.t 21) (.t 22)), (some 23), none⟩] false) (.cond (.t 23) (.region [⟨(.mov (.t 7)), (some 24), none⟩, ⟨(.load (some 2) (.t 3)), (some 25), none⟩, ⟨(.mov (.t 8)), (some 26), none⟩, ⟨(.call 157 [(.t 25), (.t 26)]), (some 27), none⟩, ⟨(.bslice 1 [(.int .i64 0)] 1 [(0, (1, (.t 27)))]), (some 28), none⟩, ⟨(.append 1 8 (.t 24) (.t 28)), (some 29), none⟩, ⟨(.mov (.t 29)), (some 7), none⟩] false) .skip))) (.region [⟨(.mov (.t 8)), (some 15), none⟩, ⟨(.bin .add (.t 15) (.k (.int .i64 1))), (some 16), none⟩, ⟨(.mov (.t 16)), (some 8), none⟩] false)))
def m153 : MC := (.seq (.region [⟨(.box (.t 0)), (some 3), none⟩, ⟨(.alloc [(.int .i64 0), (.int .i64 0)]), (some 6), none⟩] false) (.seq (.region [⟨.empt, (some 9), none⟩, ⟨(.mov (.t 9)), (some 7), none⟩] false) (.seq (.seq (.region [⟨(.mov (.k (.int .i64 0))), (some 8), none⟩] false) (.block 0 (.loop m153_0))) (.seq (.region [⟨(.fieldAddr 0 (.t 3)), (some 30), none⟩, ⟨(.load none (.t 30)), (some 31), none⟩, ⟨(.bin .sub (.t 31) (.k (.int .i64 1))), (some 32), none⟩, ⟨(.mov (.t 7)), (some 33), none⟩, ⟨(.call 107 [(.t 32), (.t 33)]), (some 34), none⟩, ⟨(.store 2 (.t 6) (.t 34)), none, none⟩] false) .ret))))
theorem has153 : Has cx 153 35 m153 [(.cell 6 (some 2))] :=
  ⟨⟨Try.f153, Try.f153.body.getD .skip, by kernel_rfl, by kernel_rfl, by kernel_rfl, by kernel_rfl, by kernel_rfl, by kernel_rfl⟩⟩
theorem allF_succ (p : Nat → Bool) : ∀ (n i : Nat), allF p i (n + 1) = (allF p i n && p (i + n))
  | 0, i => by simp [allF]
  | n + 1, i => by
    rw [allF, allF_succ p n (i + 1), allF, Bool.and_assoc, show i + 1 + n = i + (n + 1) by omega]
theorem allF_s (p : Nat → Bool) (n : Nat) : allF p 0 (n + 1) = (allF p 0 n && p n) := by rw [allF_succ, Nat.zero_add]
def firstF (p : Nat → Bool) : Nat → Nat → Option Nat
  | _, 0 => none
  | i, j + 1 => if p i = true then firstF p (i + 1) j else some i
theorem firstF_none {p : Nat → Bool} : ∀ {j i : Nat}, (∀ x, i ≤ x → x < i + j → p x = true) → firstF p i j = none
  | 0, _, _ => rfl
  | j + 1, i, h => by
    rw [firstF, if_pos (h i (Nat.le_refl _) (by omega))]
    exact firstF_none fun x h1 h2 => h x (by omega) (by omega)
theorem firstF_some {p : Nat → Bool} : ∀ {j i x : Nat}, i ≤ x → x < i + j → p x = false → (∀ y, i ≤ y → y < x → p y = true) → firstF p i j = some x
  | 0, i, x, h1, h2, _, _ => by omega
  | j + 1, i, x, h1, h2, h3, h4 => by
    rw [firstF]
    by_cases e : i = x
    · subst e; rw [h3]; rfl
    · rw [if_pos (h4 i (Nat.le_refl _) (by omega))]
      exact firstF_some (by omega) (by omega) h3 fun y g1 g2 => h4 y (by omega) g2
theorem firstF_allT {p : Nat → Bool} : ∀ {j i : Nat}, firstF p i j = none → allF p i j = true
  | 0, _, _ => rfl
  | j + 1, i, h => by
    rw [firstF] at h
    by_cases e : p i = true
    · rw [if_pos e] at h; rw [allF, e, firstF_allT h]; rfl
    · rw [if_neg e] at h; simp at h
theorem firstF_allF {p : Nat → Bool} : ∀ {j i x : Nat}, firstF p i j = some x → allF p i j = false
  | 0, _, _, h => by simp [firstF] at h
  | j + 1, i, x, h => by
    rw [firstF] at h
    by_cases e : p i = true
    · rw [if_pos e] at h; rw [allF, e, firstF_allF h]; rfl
    · rw [allF]; simp [e]
theorem fget {o j : Nat} {l : List Int} (h : j < l.length) : (List.replicate o V.any ++ nums .i64 l)[o + j * 1]? = some (.int .i64 (l.getD j 0)) := by
  rw [List.getElem?_append_right (by simp)]
  simp [nums, h]
def inR (n : Nat) (r : Int) : Bool := decide (0 ≤ r ∧ r ≤ (R2 n : Nat) - 1)
-- impl.isAbove
def m102 : MC := (.seq (.region [⟨(.mov (.k (.bool false))), (some 4), none⟩] false) (.seq (.region [⟨(.mov (.t 1)), (some 5), none⟩, ⟨(.mov (.t 0)), (some 6), none⟩, ⟨(.bin .andNot (.t 5) (.t 6)), (some 7), none⟩, ⟨(.bin .eql (.t 7) (.k (.int .i64 0))), (some 8), none⟩, ⟨(.mov (.t 8)), (some 4), none⟩] false) .ret))
theorem has102 : Has cx 102 9 m102 [(.tmp 4)] :=
  ⟨⟨Try.f102, Try.f102.body.getD .skip, by kernel_rfl, by kernel_rfl, by kernel_rfl, by kernel_rfl, by kernel_rfl, by kernel_rfl⟩⟩
theorem ev102 (r s : Nat) (hr : r < 65536) (hs : s < 65536) : Ev cx 102 [.int .i64 r, .int .i64 s] [] (.bool (r &&& s == s)) [] := by
  have h1 := and_le_l s r
  have hq : (((s - (s &&& r) : Nat) : Int) == 0) = (r &&& s == s) := by
    rw [Bool.eq_iff_iff]; simp only [beq_iff_eq]; rw [Nat.and_comm r s]; omega
  refine has102.eev rfl rfl ?_
  unfold m102
  repeat' (first
    | (refine g_op ?_; first
      | refine ep_mov rfl ?_
      | refine ep_bin rfl rfl (by first | exact b_andNot (by omega) (by omega) | exact b_eql) ?_)
    | (refine g_ops ?_; first | refine eo_none ?_ | refine eo_nil ?_)
    | (refine g_code ?_; first | refine ec_seq ?_ | refine ec_region ?_ | refine ec_ret ?_)
    | refine ek_seqN ?_ | refine ek_seqR ?_)
  refine sfin (.inr rfl) (by rfl) (by rfl) (by exact ⟨rfl, rfl, rfl⟩) (by rfl) (by rfl) (by exact congrArg V.bool hq) (by first | rfl | (simp; done) | (simp [ints, prs]; done))
-- spec.l03Has
def m189 : MC := (.seq (.region [⟨(.mov (.k (.bool false))), (some 4), none⟩] false) (.seq (.region [⟨(.mov (.t 0)), (some 5), none⟩, ⟨(.mov (.t 1)), (some 6), none⟩, ⟨(.bin .and (.t 5) (.t 6)), (some 7), none⟩, ⟨(.mov (.t 1)), (some 8), none⟩, ⟨(.bin .eql (.t 7) (.t 8)), (some 9), none⟩, ⟨(.mov (.t 9)), (some 4), none⟩] false) .ret))
theorem has189 : Has cx 189 10 m189 [(.tmp 4)] :=
  ⟨⟨Try.f189, Try.f189.body.getD .skip, by kernel_rfl, by kernel_rfl, by kernel_rfl, by kernel_rfl, by kernel_rfl, by kernel_rfl⟩⟩
theorem ev189 (r s : Nat) (hr : r < 65536) (hs : s < 65536) : Ev cx 189 [.int .i64 r, .int .i64 s] [] (.bool (r &&& s == s)) [] := by
  have hq := ieq (r &&& s) s
  refine has189.eev rfl rfl ?_
  unfold m189
  repeat' (first
    | (refine g_op ?_; first
      | refine ep_mov rfl ?_
      | refine ep_bin rfl rfl (by first | exact b_and (by omega) (by omega) | exact b_eql) ?_)
    | (refine g_ops ?_; first | refine eo_none ?_ | refine eo_nil ?_)
    | (refine g_code ?_; first | refine ec_seq ?_ | refine ec_region ?_ | refine ec_ret ?_)
    | refine ek_seqN ?_ | refine ek_seqR ?_)
  refine sfin (.inr rfl) (by rfl) (by rfl) (by exact ⟨rfl, rfl, rfl⟩) (by rfl) (by rfl) (by exact congrArg V.bool hq) (by first | rfl | (simp; done) | (simp [ints, prs]; done))
-- impl.FuncOfRows$1
def m109 : MC := (.seq (.region [⟨(.mov (.k (.bool false))), (some 3), none⟩] false) (.seq (.region [⟨(.mov (.t 0)), (some 4), none⟩, ⟨(.load none (.t 1)), (some 5), none⟩, ⟨(.call 111 [(.t 5)]), (some 6), none⟩, ⟨(.bin .sub (.t 6) (.k (.int .i64 1))), (some 7), none⟩, ⟨(.call 110 [(.t 4), (.k (.int .i64 0)), (.t 7)]), (some 8), none⟩, ⟨(.un .not (.t 8)), (some 9), none⟩, ⟨(.mov (.t 9)), (some 3), none⟩] false) .ret))
theorem has109 : Has cx 109 10 m109 [(.tmp 3)] :=
  ⟨⟨Try.f109, Try.f109.body.getD .skip, by kernel_rfl, by kernel_rfl, by kernel_rfl, by kernel_rfl, by kernel_rfl, by kernel_rfl⟩⟩
theorem ev109 (n : Nat) (r : Int) (hn : n ≤ 4) : Ev cx 109 [.int .i64 r, .ptr 0 0] [⟨[.int .i64 n], 1, 0, some 0, true⟩] (.bool (!inR n r)) [⟨[.int .i64 n], 1, 0, some 0, true⟩] := by
  obtain ⟨h1, h2, h3, h4⟩ := shN hn
  have e1 := ev110 r 0 ((R2 n : Nat) - 1)
  refine has109.eev rfl rfl ?_
  unfold m109
  repeat' (first
    | (refine g_op ?_; first
      | refine ep_mov rfl ?_ | refine ep_load1 rfl rfl rfl rfl ?_
      | refine ep_call0 rfl (by first | exact ev111 _ hn | exact e1) rfl rfl ?_
      | refine sp_call rfl rfl rfl rfl (by first | exact ev111 _ hn | exact e1) ⟨rfl, rfl, rfl, rfl⟩ rfl rfl rfl ?_
      | refine ep_bin rfl rfl (by exact b_sub (by omega) (by omega)) ?_ | refine ep_not rfl ?_)
    | (refine g_ops ?_; first | refine eo_none ?_ | refine eo_nil ?_)
    | (refine g_code ?_; first | refine ec_seq ?_ | refine ec_region ?_ | refine ec_ret ?_)
    | refine ek_seqN ?_ | refine ek_seqR ?_)
  refine sfin (.inr rfl) (by rfl) (by rfl) (by exact ⟨rfl, rfl, rfl⟩) (by rfl) (by rfl) (by rfl) (by first | rfl | (simp; done) | (simp [ints, prs]; done))
-- slices.IndexFunc[[]int64,int64]
def m188_0 : MC := (.seq (.region [⟨(.bin .lss (.t 8) (.t 7)), (some 9), none⟩] false) (.seq (.cond (.t 9) .skip (.exit 0)) (.seq (.block 1 (.seq (.region [⟨(.mov (.t 8)), (some 10), none⟩, ⟨(.mov (.t 10)), (some 5), none⟩] false) (.seq (.region [⟨(.mov (.t 1)), (some 11), none⟩, ⟨(.mov (.t 0)), (some 12), none⟩, ⟨(.mov (.t 5)), (some 13), none⟩, ⟨(.indexAddr 1 (.t 12) (.t 13)), (some 14), none⟩, ⟨(.load none (.t 14)), (some 15), none⟩, ⟨(.callv (.t 11) [(.t 15)]), (some 16), none⟩] false) (.cond (.t 16) (.seq (.region [⟨(.mov (.t 5)), (some 17), none⟩, ⟨(.mov (.t 17)), (some 4), none⟩] false) .ret) .skip)))) (.region [⟨(.bin .add (.t 8) (.k (.int .i64 1))), (some 18), none⟩, ⟨(.mov (.t 18)), (some 8), none⟩] false))))
def m188 : MC := (.seq (.region [⟨(.mov (.k (.int .i64 0))), (some 4), none⟩] false) (.seq (.seq (.region [⟨(.mov (.t 0)), (some 6), none⟩, ⟨(.len (.t 6)), (some 7), none⟩, ⟨(.mov (.k (.int .i64 0))), (some 8), none⟩] false) (.block 0 (.loop m188_0))) (.seq (.region [⟨(.mov (.k (.int .i64 (-1)))), (some 4), none⟩] false) .ret)))
theorem has188 : Has cx 188 19 m188 [(.tmp 4)] :=
  ⟨⟨Try.f188, Try.f188.body.getD .skip, by kernel_rfl, by kernel_rfl, by kernel_rfl, by kernel_rfl, by kernel_rfl, by kernel_rfl⟩⟩

-- slices.ContainsFunc[[]int64,int64]
def m100 : MC := (.seq (.region [⟨(.mov (.k (.bool false))), (some 4), none⟩] false) (.seq (.region [⟨(.mov (.t 0)), (some 5), none⟩, ⟨(.mov (.t 1)), (some 6), none⟩, ⟨(.call 188 [(.t 5), (.t 6)]), (some 7), none⟩, ⟨(.bin .geq (.t 7) (.k (.int .i64 0))), (some 8), none⟩, ⟨(.mov (.t 8)), (some 4), none⟩] false) .ret))
theorem has100 : Has cx 100 9 m100 [(.tmp 4)] :=
  ⟨⟨Try.f100, Try.f100.body.getD .skip, by kernel_rfl, by kernel_rfl, by kernel_rfl, by kernel_rfl, by kernel_rfl, by kernel_rfl⟩⟩

theorem lpix_for1 (n : Nat) (c : List Int) (hn : n ≤ 4) (hlen : c.length ≤ 1048576) (o : Out) (ho : (match firstF (fun i => !(fun j => !inR n (c.getD j 0)) i) 0 (c.length) with | none => (⟨.exit 0, [], [⟨zints c, 1, 0, some 0, false⟩, ⟨[.int .i64 (n : Nat)], 1, 1, some 0, true⟩]⟩ : Out) | some x => ⟨.ret, [(4, .int .i64 (x : Nat))], [⟨zints c, 1, 0, some 0, false⟩, ⟨[.int .i64 (n : Nat)], 1, 1, some 0, true⟩]⟩) = o) :
    LpS cx 19 2 m188_0 [(0, .sl 0 0 c.length), (1, .fn 109 [.ptr 1 0]), (7, .int .i64 (c.length : Nat)), (8, .int .i64 (0 : Nat))] [⟨zints c, 1, 0, some 0, false⟩, ⟨[.int .i64 (n : Nat)], 1, 1, some 0, true⟩] o.x o.e o.h := by
  refine lp_brk (c.length) (fun i => !(fun j => !inR n (c.getD j 0)) i) (fun _ => ()) (fun i _ => [(0, .sl 0 0 c.length), (1, .fn 109 [.ptr 1 0]), (7, .int .i64 (c.length : Nat)), (8, .int .i64 (i : Nat))]) (fun i _ => [⟨zints c, 1, 0, some 0, false⟩, ⟨[.int .i64 (n : Nat)], 1, 1, some 0, true⟩]) (fun _ => ⟨.exit 0, [], [⟨zints c, 1, 0, some 0, false⟩, ⟨[.int .i64 (n : Nat)], 1, 1, some 0, true⟩]⟩) (fun i _ => ⟨.ret, [(4, .int .i64 (i : Nat))], [⟨zints c, 1, 0, some 0, false⟩, ⟨[.int .i64 (n : Nat)], 1, 1, some 0, true⟩]⟩) ?_ ?_ ?_ (c.length) 0 o (by omega) (fun h => by rw [← ho, firstF_none fun x h1 h2 => h x h1 (by omega)]) (fun x h1 h2 h3 h4 => by rw [← ho, firstF_some h1 (by omega) h3 h4])
  · intro i s hi hs hp
    have hlt : decide ((i : Int) < (c.length : Nat)) = true := decide_eq_true (by omega)
    have hp' : (!(fun j => !inR n (c.getD j 0)) i) = true := hp
    refine ⟨(), rfl, ?_⟩
    have e0 := ev109 n (c.getD i 0) hn
    have hq : (!inR n (c.getD i 0)) = !((!(fun j => !inR n (c.getD j 0)) i)) := by simp
    rw [hp'] at hq
    rw [hq] at e0
    unfold m188_0
    repeat' (first
      | (refine g_op ?_; first
        | refine ep_mov rfl ?_ | refine ep_load1 rfl rfl rfl rfl ?_
        | refine sp_callv rfl rfl rfl rfl rfl rfl (by first | exact e0) ⟨rfl, rfl, rfl, rfl⟩ rfl rfl rfl ?_
        | refine sp_callb rfl rfl rfl rfl rfl rfl (by first | exact e0) ⟨rfl, rfl, rfl, rfl⟩ rfl rfl rfl ?_
        | refine ep_bin rfl rfl (by first | exact b_add (by omega) (by omega) | exact b_lss) ?_ | refine sp_idx rfl rfl rfl (by omega) rfl ?_ | refine ep_loadS rfl rfl rfl (by first | exact ints_get (by omega) | exact zints_get (by omega) | exact fget (by omega) | assumption) ?_)
      | (refine g_ops ?_; first | refine eo_none ?_ | refine eo_nil ?_)
      | (refine g_code ?_; first | refine ec_seq ?_ | refine ec_region ?_ | refine ec_block ?_ | refine ec_skip ?_ | refine ec_exit ?_ | refine ec_ret ?_ | refine ec_condT rfl ?_ | refine ec_condF rfl ?_ | refine ec_condTH rfl (by assumption) ?_ | refine ec_condFH rfl (by assumption) ?_)
      | refine ek_seqN ?_ | refine ek_seqX ?_ | refine ek_seqR ?_ | refine ek_blkN ?_ | refine ek_blkR ?_ | refine ek_blkX ?_ | refine ek_blkY rfl ?_)
    exact rnd_on (by rfl) (scmp2 (by rfl) (by rfl) (by exact ⟨rfl, rfl, rfl⟩) (by rfl) (by first | rfl | (simp; done) | (simp [ints, prs]; done)) (by rfl) (by first | rfl | (simp; done) | (simp [ints, prs]; done)))
  · intro i s hi hs hp
    have hlt : decide ((i : Int) < (c.length : Nat)) = true := decide_eq_true (by omega)
    have hp' : (!(fun j => !inR n (c.getD j 0)) i) = false := hp
    have e0 := ev109 n (c.getD i 0) hn
    have hq : (!inR n (c.getD i 0)) = !((!(fun j => !inR n (c.getD j 0)) i)) := by simp
    rw [hp'] at hq
    rw [hq] at e0
    unfold m188_0
    repeat' (first
      | (refine g_op ?_; first
        | refine ep_mov rfl ?_ | refine ep_load1 rfl rfl rfl rfl ?_
        | refine sp_callv rfl rfl rfl rfl rfl rfl (by first | exact e0) ⟨rfl, rfl, rfl, rfl⟩ rfl rfl rfl ?_
        | refine sp_callb rfl rfl rfl rfl rfl rfl (by first | exact e0) ⟨rfl, rfl, rfl, rfl⟩ rfl rfl rfl ?_
        | refine ep_bin rfl rfl (by first | exact b_add (by omega) (by omega) | exact b_lss) ?_ | refine sp_idx rfl rfl rfl (by omega) rfl ?_ | refine ep_loadS rfl rfl rfl (by first | exact ints_get (by omega) | exact zints_get (by omega) | exact fget (by omega) | assumption) ?_)
      | (refine g_ops ?_; first | refine eo_none ?_ | refine eo_nil ?_)
      | (refine g_code ?_; first | refine ec_seq ?_ | refine ec_region ?_ | refine ec_block ?_ | refine ec_skip ?_ | refine ec_exit ?_ | refine ec_ret ?_ | refine ec_condT rfl ?_ | refine ec_condF rfl ?_ | refine ec_condTH rfl (by assumption) ?_ | refine ec_condFH rfl (by assumption) ?_)
      | refine ek_seqN ?_ | refine ek_seqX ?_ | refine ek_seqR ?_ | refine ek_blkN ?_ | refine ek_blkR ?_ | refine ek_blkX ?_ | refine ek_blkY rfl ?_)
    exact rnd_out (by rfl) (by simp) (scmp2 (by rfl) (by rfl) (by exact ⟨rfl, rfl, rfl⟩) (by rfl) (by first | rfl | (simp; done) | (simp [ints, prs]; done)) (by rfl) (by first | rfl | (simp; done) | (simp [ints, prs]; done)))
  · intro s hs
    have hlt : decide (((c.length : Nat) : Int) < (c.length : Nat)) = false := decide_eq_false (by omega)
    unfold m188_0
    repeat' (first
      | (refine g_op ?_; first
        | refine ep_mov rfl ?_ | refine ep_load1 rfl rfl rfl rfl ?_
        | refine sp_callv rfl rfl rfl rfl rfl rfl (by first | exact e0) ⟨rfl, rfl, rfl, rfl⟩ rfl rfl rfl ?_
        | refine sp_callb rfl rfl rfl rfl rfl rfl (by first | exact e0) ⟨rfl, rfl, rfl, rfl⟩ rfl rfl rfl ?_
        | refine ep_bin rfl rfl (by first | exact b_add (by omega) (by omega) | exact b_lss) ?_ | refine sp_idx rfl rfl rfl (by omega) rfl ?_ | refine ep_loadS rfl rfl rfl (by first | exact ints_get (by omega) | exact zints_get (by omega) | exact fget (by omega) | assumption) ?_)
      | (refine g_ops ?_; first | refine eo_none ?_ | refine eo_nil ?_)
      | (refine g_code ?_; first | refine ec_seq ?_ | refine ec_region ?_ | refine ec_block ?_ | refine ec_skip ?_ | refine ec_exit ?_ | refine ec_ret ?_ | refine ec_condT rfl ?_ | refine ec_condF rfl ?_ | refine ec_condTH rfl (by assumption) ?_ | refine ec_condFH rfl (by assumption) ?_)
      | refine ek_seqN ?_ | refine ek_seqX ?_ | refine ek_seqR ?_ | refine ek_blkN ?_ | refine ek_blkR ?_ | refine ek_blkX ?_ | refine ek_blkY rfl ?_)
    exact rnd_out (by rfl) (by simp) (scmp2 (by rfl) (by rfl) (by exact ⟨rfl, rfl, rfl⟩) (by rfl) (by first | rfl | (simp; done) | (simp [ints, prs]; done)) (by rfl) (by first | rfl | (simp; done) | (simp [ints, prs]; done)))
theorem evix_for1 (n : Nat) (c : List Int) (hn : n ≤ 4) (hlen : c.length ≤ 1048576) : Ev cx 188 [.sl 0 0 c.length, .fn 109 [.ptr 1 0]] [⟨zints c, 1, 0, some 0, false⟩, ⟨[.int .i64 (n : Nat)], 1, 1, some 0, true⟩] (.int .i64 (match firstF (fun i => !(fun j => !inR n (c.getD j 0)) i) 0 (c.length) with | none => -1 | some x => ((x : Nat) : Int))) [⟨zints c, 1, 0, some 0, false⟩, ⟨[.int .i64 (n : Nat)], 1, 1, some 0, true⟩] := by
  cases hs : firstF (fun i => !(fun j => !inR n (c.getD j 0)) i) 0 (c.length) with
  | none =>
    have lp := lpix_for1 n c hn hlen _ (by rw [hs])
    refine has188.eev rfl rfl ?_
    unfold m188
    repeat' (first
      | refine sc_loop lp rfl rfl ⟨rfl, rfl, rfl⟩ rfl rfl rfl ?_
      | (refine g_op ?_; first
        | refine ep_mov rfl ?_
        | refine ep_lenS rfl ?_ | refine ep_lenN rfl ?_ | refine ep_lenE rfl ?_)
      | (refine g_ops ?_; first | refine eo_none ?_ | refine eo_nil ?_)
      | (refine g_code ?_; first | refine ec_seq ?_ | refine ec_region ?_ | refine ec_block ?_ | refine ec_ret ?_)
      | refine ek_seqN ?_ | refine ek_seqX ?_ | refine ek_seqR ?_ | refine ek_blkN ?_ | refine ek_blkR ?_ | refine ek_blkX ?_ | refine ek_blkY rfl ?_)
    refine sfin (.inr rfl) (by rfl) (by rfl) (by exact ⟨rfl, rfl, rfl⟩) (by rfl) (by rfl) (by rfl) (by first | rfl | (simp; done) | (simp [ints, prs]; done))
  | some x =>
    have lp := lpix_for1 n c hn hlen _ (by rw [hs])
    refine has188.eev rfl rfl ?_
    unfold m188
    repeat' (first
      | refine sc_loop lp rfl rfl ⟨rfl, rfl, rfl⟩ rfl rfl rfl ?_
      | (refine g_op ?_; first
        | refine ep_mov rfl ?_
        | refine ep_lenS rfl ?_ | refine ep_lenN rfl ?_ | refine ep_lenE rfl ?_)
      | (refine g_ops ?_; first | refine eo_none ?_ | refine eo_nil ?_)
      | (refine g_code ?_; first | refine ec_seq ?_ | refine ec_region ?_ | refine ec_block ?_ | refine ec_ret ?_)
      | refine ek_seqN ?_ | refine ek_seqX ?_ | refine ek_seqR ?_ | refine ek_blkN ?_ | refine ek_blkR ?_ | refine ek_blkX ?_ | refine ek_blkY rfl ?_)
    refine sfin (.inr rfl) (by rfl) (by rfl) (by exact ⟨rfl, rfl, rfl⟩) (by rfl) (by rfl) (by rfl) (by first | rfl | (simp; done) | (simp [ints, prs]; done))
theorem evcf_for1 (n : Nat) (c : List Int) (hn : n ≤ 4) (hlen : c.length ≤ 1048576) : Ev cx 100 [.sl 0 0 c.length, .fn 109 [.ptr 1 0]] [⟨zints c, 1, 0, some 0, false⟩, ⟨[.int .i64 (n : Nat)], 1, 1, some 0, true⟩] (.bool (!allF (fun i => !(fun j => !inR n (c.getD j 0)) i) 0 (c.length))) [⟨zints c, 1, 0, some 0, false⟩, ⟨[.int .i64 (n : Nat)], 1, 1, some 0, true⟩] := by
  have e1 := evix_for1 n c hn hlen
  cases hs : firstF (fun i => !(fun j => !inR n (c.getD j 0)) i) 0 (c.length) with
  | none =>
    rw [hs] at e1
    refine has100.eev rfl rfl ?_
    unfold m100
    repeat' (first
      | (refine g_op ?_; first
        | refine ep_mov rfl ?_
        | refine ep_call0 rfl (by first | exact e1) rfl rfl ?_
        | refine sp_call rfl rfl rfl rfl (by first | exact e1) ⟨rfl, rfl, rfl, rfl⟩ rfl rfl rfl ?_
        | refine ep_bin rfl rfl (by exact b_geq) ?_)
      | (refine g_ops ?_; first | refine eo_none ?_ | refine eo_nil ?_)
      | (refine g_code ?_; first | refine ec_seq ?_ | refine ec_region ?_ | refine ec_ret ?_)
      | refine ek_seqN ?_ | refine ek_seqR ?_)
    refine sfin (.inr rfl) (by rfl) (by rfl) (by exact ⟨rfl, rfl, rfl⟩) (by rfl) (by rfl) (by rw [firstF_allT hs]; rfl) (by first | rfl | (simp; done) | (simp [ints, prs]; done))
  | some x =>
    rw [hs] at e1
    have hge : decide (((x : Nat) : Int) ≥ 0) = true := decide_eq_true (by omega)
    refine has100.eev rfl rfl ?_
    unfold m100
    repeat' (first
      | (refine g_op ?_; first
        | refine ep_mov rfl ?_
        | refine ep_call0 rfl (by first | exact e1) rfl rfl ?_
        | refine sp_call rfl rfl rfl rfl (by first | exact e1) ⟨rfl, rfl, rfl, rfl⟩ rfl rfl rfl ?_
        | refine ep_bin rfl rfl (by exact b_geq) ?_)
      | (refine g_ops ?_; first | refine eo_none ?_ | refine eo_nil ?_)
      | (refine g_code ?_; first | refine ec_seq ?_ | refine ec_region ?_ | refine ec_ret ?_)
      | refine ek_seqN ?_ | refine ek_seqR ?_)
    refine sfin (.inr rfl) (by rfl) (by rfl) (by exact ⟨rfl, rfl, rfl⟩) (by rfl) (by rfl) (by rw [firstF_allF hs]; first | rfl | exact congrArg V.bool hge) (by first | rfl | (simp; done) | (simp [ints, prs]; done))

-- impl.FuncOfRows$2$1
def m115 : MC := (.seq (.region [⟨(.mov (.k (.bool false))), (some 3), none⟩] false) (.seq (.region [⟨(.load none (.t 1)), (some 4), none⟩, ⟨(.mov (.t 0)), (some 5), none⟩, ⟨(.call 102 [(.t 4), (.t 5)]), (some 6), none⟩, ⟨(.mov (.t 6)), (some 3), none⟩] false) .ret))
theorem has115 : Has cx 115 7 m115 [(.tmp 3)] :=
  ⟨⟨Try.f115, Try.f115.body.getD .skip, by kernel_rfl, by kernel_rfl, by kernel_rfl, by kernel_rfl, by kernel_rfl, by kernel_rfl⟩⟩
theorem ev115 (r s : Nat) (hr : r < 65536) (hs : s < 65536) : Ev cx 115 [.int .i64 s, .ptr 0 0] [⟨[.int .i64 r], 1, 0, some 0, true⟩] (.bool (r &&& s == s)) [⟨[.int .i64 r], 1, 0, some 0, true⟩] := by
  refine has115.eev rfl rfl ?_
  unfold m115
  repeat' (first
    | (refine g_op ?_; first
      | refine ep_mov rfl ?_ | refine ep_load1 rfl rfl rfl rfl ?_
      | refine ep_call0 rfl (by first | exact ev102 _ _ hr hs) rfl rfl ?_
      | refine sp_call rfl rfl rfl rfl (by first | exact ev102 _ _ hr hs) ⟨rfl, rfl, rfl, rfl⟩ rfl rfl rfl ?_)
    | (refine g_ops ?_; first | refine eo_none ?_ | refine eo_nil ?_)
    | (refine g_code ?_; first | refine ec_seq ?_ | refine ec_region ?_ | refine ec_ret ?_)
    | refine ek_seqN ?_ | refine ek_seqR ?_)
  refine sfin (.inr rfl) (by rfl) (by rfl) (by exact ⟨rfl, rfl, rfl⟩) (by rfl) (by rfl) (by rfl) (by first | rfl | (simp; done) | (simp [ints, prs]; done))
theorem lpix_for2 (r : Nat) (l : List Nat) (hr : r < 65536) (hln : l.length ≤ 1048576) (hl : ∀ j, j < l.length → l.getD j 0 < 65536) (o : Out) (ho : (match firstF (fun i => !(fun j => r &&& (l.getD j 0) == l.getD j 0) i) 0 (l.length) with | none => (⟨.exit 0, [], [⟨ints l, 1, 0, some 0, false⟩, ⟨[.int .i64 (r : Nat)], 1, 1, some 0, true⟩]⟩ : Out) | some x => ⟨.ret, [(4, .int .i64 (x : Nat))], [⟨ints l, 1, 0, some 0, false⟩, ⟨[.int .i64 (r : Nat)], 1, 1, some 0, true⟩]⟩) = o) :
    LpS cx 19 2 m188_0 [(0, .sl 0 0 l.length), (1, .fn 115 [.ptr 1 0]), (7, .int .i64 (l.length : Nat)), (8, .int .i64 (0 : Nat))] [⟨ints l, 1, 0, some 0, false⟩, ⟨[.int .i64 (r : Nat)], 1, 1, some 0, true⟩] o.x o.e o.h := by
  refine lp_brk (l.length) (fun i => !(fun j => r &&& (l.getD j 0) == l.getD j 0) i) (fun _ => ()) (fun i _ => [(0, .sl 0 0 l.length), (1, .fn 115 [.ptr 1 0]), (7, .int .i64 (l.length : Nat)), (8, .int .i64 (i : Nat))]) (fun i _ => [⟨ints l, 1, 0, some 0, false⟩, ⟨[.int .i64 (r : Nat)], 1, 1, some 0, true⟩]) (fun _ => ⟨.exit 0, [], [⟨ints l, 1, 0, some 0, false⟩, ⟨[.int .i64 (r : Nat)], 1, 1, some 0, true⟩]⟩) (fun i _ => ⟨.ret, [(4, .int .i64 (i : Nat))], [⟨ints l, 1, 0, some 0, false⟩, ⟨[.int .i64 (r : Nat)], 1, 1, some 0, true⟩]⟩) ?_ ?_ ?_ (l.length) 0 o (by omega) (fun h => by rw [← ho, firstF_none fun x h1 h2 => h x h1 (by omega)]) (fun x h1 h2 h3 h4 => by rw [← ho, firstF_some h1 (by omega) h3 h4])
  · intro i s hi hs hp
    have hlt : decide ((i : Int) < (l.length : Nat)) = true := decide_eq_true (by omega)
    have hp' : (!(fun j => r &&& (l.getD j 0) == l.getD j 0) i) = true := hp
    refine ⟨(), rfl, ?_⟩
    have e0 := ev115 r (l.getD i 0) hr (hl i hi)
    have hq : (r &&& (l.getD i 0) == l.getD i 0) = !((!(fun j => r &&& (l.getD j 0) == l.getD j 0) i)) := by simp
    rw [hp'] at hq
    rw [hq] at e0
    unfold m188_0
    repeat' (first
      | (refine g_op ?_; first
        | refine ep_mov rfl ?_ | refine ep_load1 rfl rfl rfl rfl ?_
        | refine sp_callv rfl rfl rfl rfl rfl rfl (by first | exact e0) ⟨rfl, rfl, rfl, rfl⟩ rfl rfl rfl ?_
        | refine sp_callb rfl rfl rfl rfl rfl rfl (by first | exact e0) ⟨rfl, rfl, rfl, rfl⟩ rfl rfl rfl ?_
        | refine ep_bin rfl rfl (by first | exact b_add (by omega) (by omega) | exact b_lss) ?_ | refine sp_idx rfl rfl rfl (by omega) rfl ?_ | refine ep_loadS rfl rfl rfl (by first | exact ints_get (by omega) | exact zints_get (by omega) | exact fget (by omega) | assumption) ?_)
      | (refine g_ops ?_; first | refine eo_none ?_ | refine eo_nil ?_)
      | (refine g_code ?_; first | refine ec_seq ?_ | refine ec_region ?_ | refine ec_block ?_ | refine ec_skip ?_ | refine ec_exit ?_ | refine ec_ret ?_ | refine ec_condT rfl ?_ | refine ec_condF rfl ?_ | refine ec_condTH rfl (by assumption) ?_ | refine ec_condFH rfl (by assumption) ?_)
      | refine ek_seqN ?_ | refine ek_seqX ?_ | refine ek_seqR ?_ | refine ek_blkN ?_ | refine ek_blkR ?_ | refine ek_blkX ?_ | refine ek_blkY rfl ?_)
    exact rnd_on (by rfl) (scmp2 (by rfl) (by rfl) (by exact ⟨rfl, rfl, rfl⟩) (by rfl) (by first | rfl | (simp; done) | (simp [ints, prs]; done)) (by rfl) (by first | rfl | (simp; done) | (simp [ints, prs]; done)))
  · intro i s hi hs hp
    have hlt : decide ((i : Int) < (l.length : Nat)) = true := decide_eq_true (by omega)
    have hp' : (!(fun j => r &&& (l.getD j 0) == l.getD j 0) i) = false := hp
    have e0 := ev115 r (l.getD i 0) hr (hl i hi)
    have hq : (r &&& (l.getD i 0) == l.getD i 0) = !((!(fun j => r &&& (l.getD j 0) == l.getD j 0) i)) := by simp
    rw [hp'] at hq
    rw [hq] at e0
    unfold m188_0
    repeat' (first
      | (refine g_op ?_; first
        | refine ep_mov rfl ?_ | refine ep_load1 rfl rfl rfl rfl ?_
        | refine sp_callv rfl rfl rfl rfl rfl rfl (by first | exact e0) ⟨rfl, rfl, rfl, rfl⟩ rfl rfl rfl ?_
        | refine sp_callb rfl rfl rfl rfl rfl rfl (by first | exact e0) ⟨rfl, rfl, rfl, rfl⟩ rfl rfl rfl ?_
        | refine ep_bin rfl rfl (by first | exact b_add (by omega) (by omega) | exact b_lss) ?_ | refine sp_idx rfl rfl rfl (by omega) rfl ?_ | refine ep_loadS rfl rfl rfl (by first | exact ints_get (by omega) | exact zints_get (by omega) | exact fget (by omega) | assumption) ?_)
      | (refine g_ops ?_; first | refine eo_none ?_ | refine eo_nil ?_)
      | (refine g_code ?_; first | refine ec_seq ?_ | refine ec_region ?_ | refine ec_block ?_ | refine ec_skip ?_ | refine ec_exit ?_ | refine ec_ret ?_ | refine ec_condT rfl ?_ | refine ec_condF rfl ?_ | refine ec_condTH rfl (by assumption) ?_ | refine ec_condFH rfl (by assumption) ?_)
      | refine ek_seqN ?_ | refine ek_seqX ?_ | refine ek_seqR ?_ | refine ek_blkN ?_ | refine ek_blkR ?_ | refine ek_blkX ?_ | refine ek_blkY rfl ?_)
    exact rnd_out (by rfl) (by simp) (scmp2 (by rfl) (by rfl) (by exact ⟨rfl, rfl, rfl⟩) (by rfl) (by first | rfl | (simp; done) | (simp [ints, prs]; done)) (by rfl) (by first | rfl | (simp; done) | (simp [ints, prs]; done)))
  · intro s hs
    have hlt : decide (((l.length : Nat) : Int) < (l.length : Nat)) = false := decide_eq_false (by omega)
    unfold m188_0
    repeat' (first
      | (refine g_op ?_; first
        | refine ep_mov rfl ?_ | refine ep_load1 rfl rfl rfl rfl ?_
        | refine sp_callv rfl rfl rfl rfl rfl rfl (by first | exact e0) ⟨rfl, rfl, rfl, rfl⟩ rfl rfl rfl ?_
        | refine sp_callb rfl rfl rfl rfl rfl rfl (by first | exact e0) ⟨rfl, rfl, rfl, rfl⟩ rfl rfl rfl ?_
        | refine ep_bin rfl rfl (by first | exact b_add (by omega) (by omega) | exact b_lss) ?_ | refine sp_idx rfl rfl rfl (by omega) rfl ?_ | refine ep_loadS rfl rfl rfl (by first | exact ints_get (by omega) | exact zints_get (by omega) | exact fget (by omega) | assumption) ?_)
      | (refine g_ops ?_; first | refine eo_none ?_ | refine eo_nil ?_)
      | (refine g_code ?_; first | refine ec_seq ?_ | refine ec_region ?_ | refine ec_block ?_ | refine ec_skip ?_ | refine ec_exit ?_ | refine ec_ret ?_ | refine ec_condT rfl ?_ | refine ec_condF rfl ?_ | refine ec_condTH rfl (by assumption) ?_ | refine ec_condFH rfl (by assumption) ?_)
      | refine ek_seqN ?_ | refine ek_seqX ?_ | refine ek_seqR ?_ | refine ek_blkN ?_ | refine ek_blkR ?_ | refine ek_blkX ?_ | refine ek_blkY rfl ?_)
    exact rnd_out (by rfl) (by simp) (scmp2 (by rfl) (by rfl) (by exact ⟨rfl, rfl, rfl⟩) (by rfl) (by first | rfl | (simp; done) | (simp [ints, prs]; done)) (by rfl) (by first | rfl | (simp; done) | (simp [ints, prs]; done)))
theorem evix_for2 (r : Nat) (l : List Nat) (hr : r < 65536) (hln : l.length ≤ 1048576) (hl : ∀ j, j < l.length → l.getD j 0 < 65536) : Ev cx 188 [.sl 0 0 l.length, .fn 115 [.ptr 1 0]] [⟨ints l, 1, 0, some 0, false⟩, ⟨[.int .i64 (r : Nat)], 1, 1, some 0, true⟩] (.int .i64 (match firstF (fun i => !(fun j => r &&& (l.getD j 0) == l.getD j 0) i) 0 (l.length) with | none => -1 | some x => ((x : Nat) : Int))) [⟨ints l, 1, 0, some 0, false⟩, ⟨[.int .i64 (r : Nat)], 1, 1, some 0, true⟩] := by
  cases hs : firstF (fun i => !(fun j => r &&& (l.getD j 0) == l.getD j 0) i) 0 (l.length) with
  | none =>
    have lp := lpix_for2 r l hr hln hl _ (by rw [hs])
    refine has188.eev rfl rfl ?_
    unfold m188
    repeat' (first
      | refine sc_loop lp rfl rfl ⟨rfl, rfl, rfl⟩ rfl rfl rfl ?_
      | (refine g_op ?_; first
        | refine ep_mov rfl ?_
        | refine ep_lenS rfl ?_ | refine ep_lenN rfl ?_ | refine ep_lenE rfl ?_)
      | (refine g_ops ?_; first | refine eo_none ?_ | refine eo_nil ?_)
      | (refine g_code ?_; first | refine ec_seq ?_ | refine ec_region ?_ | refine ec_block ?_ | refine ec_ret ?_)
      | refine ek_seqN ?_ | refine ek_seqX ?_ | refine ek_seqR ?_ | refine ek_blkN ?_ | refine ek_blkR ?_ | refine ek_blkX ?_ | refine ek_blkY rfl ?_)
    refine sfin (.inr rfl) (by rfl) (by rfl) (by exact ⟨rfl, rfl, rfl⟩) (by rfl) (by rfl) (by rfl) (by first | rfl | (simp; done) | (simp [ints, prs]; done))
  | some x =>
    have lp := lpix_for2 r l hr hln hl _ (by rw [hs])
    refine has188.eev rfl rfl ?_
    unfold m188
    repeat' (first
      | refine sc_loop lp rfl rfl ⟨rfl, rfl, rfl⟩ rfl rfl rfl ?_
      | (refine g_op ?_; first
        | refine ep_mov rfl ?_
        | refine ep_lenS rfl ?_ | refine ep_lenN rfl ?_ | refine ep_lenE rfl ?_)
      | (refine g_ops ?_; first | refine eo_none ?_ | refine eo_nil ?_)
      | (refine g_code ?_; first | refine ec_seq ?_ | refine ec_region ?_ | refine ec_block ?_ | refine ec_ret ?_)
      | refine ek_seqN ?_ | refine ek_seqX ?_ | refine ek_seqR ?_ | refine ek_blkN ?_ | refine ek_blkR ?_ | refine ek_blkX ?_ | refine ek_blkY rfl ?_)
    refine sfin (.inr rfl) (by rfl) (by rfl) (by exact ⟨rfl, rfl, rfl⟩) (by rfl) (by rfl) (by rfl) (by first | rfl | (simp; done) | (simp [ints, prs]; done))
theorem evcf_for2 (r : Nat) (l : List Nat) (hr : r < 65536) (hln : l.length ≤ 1048576) (hl : ∀ j, j < l.length → l.getD j 0 < 65536) : Ev cx 100 [.sl 0 0 l.length, .fn 115 [.ptr 1 0]] [⟨ints l, 1, 0, some 0, false⟩, ⟨[.int .i64 (r : Nat)], 1, 1, some 0, true⟩] (.bool (!allF (fun i => !(fun j => r &&& (l.getD j 0) == l.getD j 0) i) 0 (l.length))) [⟨ints l, 1, 0, some 0, false⟩, ⟨[.int .i64 (r : Nat)], 1, 1, some 0, true⟩] := by
  have e1 := evix_for2 r l hr hln hl
  cases hs : firstF (fun i => !(fun j => r &&& (l.getD j 0) == l.getD j 0) i) 0 (l.length) with
  | none =>
    rw [hs] at e1
    refine has100.eev rfl rfl ?_
    unfold m100
    repeat' (first
      | (refine g_op ?_; first
        | refine ep_mov rfl ?_
        | refine ep_call0 rfl (by first | exact e1) rfl rfl ?_
        | refine sp_call rfl rfl rfl rfl (by first | exact e1) ⟨rfl, rfl, rfl, rfl⟩ rfl rfl rfl ?_
        | refine ep_bin rfl rfl (by exact b_geq) ?_)
      | (refine g_ops ?_; first | refine eo_none ?_ | refine eo_nil ?_)
      | (refine g_code ?_; first | refine ec_seq ?_ | refine ec_region ?_ | refine ec_ret ?_)
      | refine ek_seqN ?_ | refine ek_seqR ?_)
    refine sfin (.inr rfl) (by rfl) (by rfl) (by exact ⟨rfl, rfl, rfl⟩) (by rfl) (by rfl) (by rw [firstF_allT hs]; rfl) (by first | rfl | (simp; done) | (simp [ints, prs]; done))
  | some x =>
    rw [hs] at e1
    have hge : decide (((x : Nat) : Int) ≥ 0) = true := decide_eq_true (by omega)
    refine has100.eev rfl rfl ?_
    unfold m100
    repeat' (first
      | (refine g_op ?_; first
        | refine ep_mov rfl ?_
        | refine ep_call0 rfl (by first | exact e1) rfl rfl ?_
        | refine sp_call rfl rfl rfl rfl (by first | exact e1) ⟨rfl, rfl, rfl, rfl⟩ rfl rfl rfl ?_
        | refine ep_bin rfl rfl (by exact b_geq) ?_)
      | (refine g_ops ?_; first | refine eo_none ?_ | refine eo_nil ?_)
      | (refine g_code ?_; first | refine ec_seq ?_ | refine ec_region ?_ | refine ec_ret ?_)
      | refine ek_seqN ?_ | refine ek_seqR ?_)
    refine sfin (.inr rfl) (by rfl) (by rfl) (by exact ⟨rfl, rfl, rfl⟩) (by rfl) (by rfl) (by rw [firstF_allF hs]; first | rfl | exact congrArg V.bool hge) (by first | rfl | (simp; done) | (simp [ints, prs]; done))

def hasR (l : List Nat) (r : Nat) : Bool := !allF (fun j => !(r &&& (l.getD j 0) == l.getD j 0)) 0 l.length
-- impl.FuncOfRows$2
def m113 : MC := (.seq (.region [⟨(.box (.t 0)), (some 2), none⟩, ⟨(.mov (.k (.int .i64 0))), (some 3), none⟩] false) (.seq (.region [⟨(.load none (.t 1)), (some 4), none⟩, ⟨(.mkfn 115 [(.t 2)]), (some 5), none⟩, ⟨(.call 100 [(.t 4), (.t 5)]), (some 6), none⟩, ⟨(.call 114 [(.t 6)]), (some 7), none⟩, ⟨(.mov (.t 7)), (some 3), none⟩] false) .ret))
theorem has113 : Has cx 113 8 m113 [(.tmp 3)] :=
  ⟨⟨Try.f113, Try.f113.body.getD .skip, by kernel_rfl, by kernel_rfl, by kernel_rfl, by kernel_rfl, by kernel_rfl, by kernel_rfl⟩⟩
theorem ev113 (r : Nat) (l : List Nat) (hr : r < 65536) (hln : l.length ≤ 1048576) (hl : ∀ j, j < l.length → l.getD j 0 < 65536) : Ev cx 113 [.int .i64 r, .ptr 0 0] [⟨[.sl 1 0 l.length], 1, 0, some 0, true⟩, ⟨ints l, 1, 1, some 0, false⟩] (.int .i64 (bn (hasR l) r : Nat)) [⟨[.sl 1 0 l.length], 1, 0, some 0, true⟩, ⟨ints l, 1, 1, some 0, false⟩] := by
  have e1 := evcf_for2 r l hr hln hl
  refine has113.eev rfl rfl ?_
  unfold m113
  repeat' (first
    | (refine g_op ?_; first
      | refine ep_mov rfl ?_ | refine ep_load1 rfl rfl rfl rfl ?_
      | refine ep_call0 rfl (by first | exact e1 | exact ev114 _) rfl rfl ?_
      | refine sp_call rfl rfl rfl rfl (by first | exact e1 | exact ev114 _) ⟨rfl, rfl, rfl, rfl⟩ rfl rfl rfl ?_
      | refine sp_box rfl rfl rfl rfl rfl ?_ | refine ep_mkfn rfl ?_)
    | (refine g_ops ?_; first | refine eo_none ?_ | refine eo_nil ?_)
    | (refine g_code ?_; first | refine ec_seq ?_ | refine ec_region ?_ | refine ec_ret ?_)
    | refine ek_seqN ?_ | refine ek_seqR ?_)
  refine sfin (.inr rfl) (by rfl) (by rfl) (by exact ⟨rfl, rfl, rfl⟩) (by rfl) (by rfl) (by rfl) (by first | rfl | (simp; done) | (simp [ints, prs]; done))
theorem lpfb_for (n : Nat) (l : List Nat) (hn : n ≤ 4) (hln : l.length ≤ 1048576) (hl : ∀ j, j < l.length → l.getD j 0 < 65536) :
    LpS cx 25 2 m112_0 [(1, .fn 113 [.ptr 0 0]), (4, .ptr 2 0), (5, .ptr 3 0), (10, .int .i64 (R2 (n) : Nat)), (11, .int .i64 (0 : Nat))] [⟨[.sl 1 0 l.length], 1, 0, some 0, true⟩, ⟨ints l, 1, 1, some 0, false⟩, ⟨[.int .i64 0, .int .i64 0], 1, 2, some 0, true⟩, ⟨[.int .i64 (n : Nat), .int .i64 (pk (bn (hasR l)) (0) : Nat)], 1, 3, some 0, true⟩] (⟨.exit 0, [(4, .ptr 2 0), (5, .ptr 3 0)], [⟨[.sl 1 0 l.length], 1, 0, some 0, true⟩, ⟨ints l, 1, 1, some 0, false⟩, ⟨[.int .i64 0, .int .i64 0], 1, 2, some 0, true⟩, ⟨[.int .i64 (n : Nat), .int .i64 (pk (bn (hasR l)) (R2 (n)) : Nat)], 1, 3, some 0, true⟩]⟩ : Out).x (⟨.exit 0, [(4, .ptr 2 0), (5, .ptr 3 0)], [⟨[.sl 1 0 l.length], 1, 0, some 0, true⟩, ⟨ints l, 1, 1, some 0, false⟩, ⟨[.int .i64 0, .int .i64 0], 1, 2, some 0, true⟩, ⟨[.int .i64 (n : Nat), .int .i64 (pk (bn (hasR l)) (R2 (n)) : Nat)], 1, 3, some 0, true⟩]⟩ : Out).e (⟨.exit 0, [(4, .ptr 2 0), (5, .ptr 3 0)], [⟨[.sl 1 0 l.length], 1, 0, some 0, true⟩, ⟨ints l, 1, 1, some 0, false⟩, ⟨[.int .i64 0, .int .i64 0], 1, 2, some 0, true⟩, ⟨[.int .i64 (n : Nat), .int .i64 (pk (bn (hasR l)) (R2 (n)) : Nat)], 1, 3, some 0, true⟩]⟩ : Out).h := by
  obtain ⟨h1, h2, h3, h4⟩ := shN hn
  have hgl : ∀ r, r < R2 (n) → (bn (hasR l)) r ≤ 1 := fun r _ => bn_le _ r
  refine lp_st (R2 (n)) (fun _ => ()) (fun i _ => [(1, .fn 113 [.ptr 0 0]), (4, .ptr 2 0), (5, .ptr 3 0), (10, .int .i64 (R2 (n) : Nat)), (11, .int .i64 (i : Nat))]) (fun i _ => [⟨[.sl 1 0 l.length], 1, 0, some 0, true⟩, ⟨ints l, 1, 1, some 0, false⟩, ⟨[.int .i64 0, .int .i64 0], 1, 2, some 0, true⟩, ⟨[.int .i64 (n : Nat), .int .i64 (pk (bn (hasR l)) (i) : Nat)], 1, 3, some 0, true⟩]) (fun _ => (⟨.exit 0, [(4, .ptr 2 0), (5, .ptr 3 0)], [⟨[.sl 1 0 l.length], 1, 0, some 0, true⟩, ⟨ints l, 1, 1, some 0, false⟩, ⟨[.int .i64 0, .int .i64 0], 1, 2, some 0, true⟩, ⟨[.int .i64 (n : Nat), .int .i64 (pk (bn (hasR l)) (R2 (n)) : Nat)], 1, 3, some 0, true⟩]⟩ : Out)) ?_ ?_ (R2 (n)) 0 (by omega)
  · intro i u_ hi hu_
    refine ⟨(), rfl, ?_⟩
    have hlt : decide ((i : Int) < (R2 (n) : Nat)) = true := decide_eq_true (by omega)
    have hg := hgl i hi
    have hp0 := pk_lt (g := bn (hasR l)) (n := i) fun r hr => hgl r (by omega)
    have hp1 := R2_mono (i := i) (n := R2 (n)) (by omega)
    have hs := sl_lt hg hi
    have hp2 := or_lt (n := R2 (n)) (show pk (bn (hasR l)) i < R2 (R2 (n)) by omega) hs
    unfold m112_0
    repeat' (first
      | (refine g_op ?_; first
        | refine ep_mov rfl ?_ | refine ep_load1 rfl rfl rfl rfl ?_ | refine ep_fieldAddr rfl ?_
        | refine sp_callv rfl rfl rfl rfl rfl rfl (by first | exact ev113 i l (by omega) hln hl) ⟨rfl, rfl, rfl, rfl⟩ rfl rfl rfl ?_
        | refine sp_callb rfl rfl rfl rfl rfl rfl (by first | exact ev113 i l (by omega) hln hl) ⟨rfl, rfl, rfl, rfl⟩ rfl rfl rfl ?_
        | refine ep_bin rfl rfl (by first | exact b_add (by omega) (by omega) | exact b_or (by omega) (by omega) | exact b_shl (by omega) (by omega) | exact b_lss) ?_ | refine sp_store rfl rfl rfl rfl rfl rfl rfl rfl rfl rfl ?_)
      | (refine g_ops ?_; first | refine eo_none ?_ | refine eo_nil ?_)
      | (refine g_dops ?_; first | refine ed_none ?_ | refine ed_nil ?_)
      | refine ed_same rfl ?_ | refine ed_one rfl rfl rfl rfl ?_ | refine ed_two rfl rfl rfl rfl rfl rfl rfl ?_ | refine ed_write rfl rfl ?_
      | (refine g_code ?_; first | refine ec_seq ?_ | refine ec_region ?_ | refine ec_draw ?_ | refine ec_block ?_ | refine ec_skip ?_ | refine ec_exit ?_ | refine ec_condT rfl ?_ | refine ec_condF rfl ?_ | refine ec_condTH rfl (by assumption) ?_ | refine ec_condFH rfl (by assumption) ?_)
      | refine ek_seqN ?_ | refine ek_seqX ?_ | refine ek_blkN ?_ | refine ek_blkR ?_ | refine ek_blkX ?_ | refine ek_blkY rfl ?_)
    exact rnd_on (by rfl) (scmp2 (by rfl) (by rfl) (by exact ⟨rfl, rfl, rfl⟩) (by rfl) (by first | rfl | (simp; done) | (simp [ints, prs]; done)) (by rfl) (by first | rfl | (simp; done) | (simp [ints, prs]; done)))
  · intro u_ hu_
    have hlt : decide (((R2 (n) : Nat) : Int) < (R2 (n) : Nat)) = false := decide_eq_false (by omega)
    unfold m112_0
    repeat' (first
      | (refine g_op ?_; first
        | refine ep_mov rfl ?_ | refine ep_load1 rfl rfl rfl rfl ?_ | refine ep_fieldAddr rfl ?_
        | refine sp_callv rfl rfl rfl rfl rfl rfl (by first | exact ev113 i l (by omega) hln hl) ⟨rfl, rfl, rfl, rfl⟩ rfl rfl rfl ?_
        | refine sp_callb rfl rfl rfl rfl rfl rfl (by first | exact ev113 i l (by omega) hln hl) ⟨rfl, rfl, rfl, rfl⟩ rfl rfl rfl ?_
        | refine ep_bin rfl rfl (by first | exact b_add (by omega) (by omega) | exact b_or (by omega) (by omega) | exact b_shl (by omega) (by omega) | exact b_lss) ?_ | refine sp_store rfl rfl rfl rfl rfl rfl rfl rfl rfl rfl ?_)
      | (refine g_ops ?_; first | refine eo_none ?_ | refine eo_nil ?_)
      | (refine g_dops ?_; first | refine ed_none ?_ | refine ed_nil ?_)
      | refine ed_same rfl ?_ | refine ed_one rfl rfl rfl rfl ?_ | refine ed_two rfl rfl rfl rfl rfl rfl rfl ?_ | refine ed_write rfl rfl ?_
      | (refine g_code ?_; first | refine ec_seq ?_ | refine ec_region ?_ | refine ec_draw ?_ | refine ec_block ?_ | refine ec_skip ?_ | refine ec_exit ?_ | refine ec_condT rfl ?_ | refine ec_condF rfl ?_ | refine ec_condTH rfl (by assumption) ?_ | refine ec_condFH rfl (by assumption) ?_)
      | refine ek_seqN ?_ | refine ek_seqX ?_ | refine ek_blkN ?_ | refine ek_blkR ?_ | refine ek_blkX ?_ | refine ek_blkY rfl ?_)
    exact rnd_out (by rfl) (by simp) (scmp2 (by rfl) (by rfl) (by exact ⟨rfl, rfl, rfl⟩) (by rfl) (by first | rfl | (simp; done) | (simp [ints, prs]; done)) (by rfl) (by first | rfl | (simp; done) | (simp [ints, prs]; done)))
theorem evfb_for (n : Nat) (l : List Nat) (hn : n ≤ 4) (hln : l.length ≤ 1048576) (hl : ∀ j, j < l.length → l.getD j 0 < 65536) : Ev cx 112 [.int .i64 (n : Nat), .fn 113 [.ptr 0 0]] [⟨[.sl 1 0 l.length], 1, 0, some 0, true⟩, ⟨ints l, 1, 1, some 0, false⟩] (.agg [.int .i64 (n : Nat), .int .i64 (pk (bn (hasR l)) (R2 (n)) : Nat)]) [⟨[.sl 1 0 l.length], 1, 0, some 0, true⟩, ⟨ints l, 1, 1, some 0, false⟩] := by
  obtain ⟨h1, h2, h3, h4⟩ := shN hn
  have lp := lpfb_for n l hn hln hl
  refine has112.eev rfl rfl ?_
  unfold m112
  repeat' (first
    | refine sc_loop lp rfl rfl ⟨rfl, rfl, rfl⟩ rfl rfl rfl ?_
    | (refine g_op ?_; first
      | refine ep_mov rfl ?_ | refine sp_loadN rfl rfl rfl rfl rfl ?_
      | refine ep_call0 rfl (by first | exact ev111 _ hn) rfl rfl ?_
      | refine sp_call rfl rfl rfl rfl (by first | exact ev111 _ hn) ⟨rfl, rfl, rfl, rfl⟩ rfl rfl rfl ?_
      | refine sp_store rfl rfl rfl rfl rfl rfl rfl rfl rfl rfl ?_ | refine sp_alloc rfl rfl ?_ | refine sp_build rfl rfl ?_)
    | (refine g_ops ?_; first | refine eo_none ?_ | refine eo_nil ?_)
    | (refine g_code ?_; first | refine ec_seq ?_ | refine ec_region ?_ | refine ec_block ?_ | refine ec_ret ?_)
    | refine ek_seqN ?_ | refine ek_seqX ?_ | refine ek_seqR ?_ | refine ek_blkN ?_ | refine ek_blkR ?_ | refine ek_blkX ?_ | refine ek_blkY rfl ?_)
  refine sfin (.inr rfl) (by rfl) (by rfl) (by exact ⟨rfl, rfl, rfl⟩) (by rfl) (by rfl) (by rfl) (by first | rfl | (simp; done) | (simp [ints, prs]; done))

def rowsOK (n : Nat) (c : List Int) : Bool := allF (fun j => inR n (c.getD j 0)) 0 c.length
def forR (z : Int) (c : List Int) : RR := if (0 ≤ z ∧ z ≤ 4) ∧ c.length ≤ 16 ∧ rowsOK z.toNat c = true then ⟨z, (pk (bn (hasR (c.map Int.toNat))) (R2 z.toNat) : Nat), 0⟩ else ⟨0, 0, 2⟩
theorem rowsOK_nat {n : Nat} {c : List Int} (h : rowsOK n c = true) : zints c = ints (c.map Int.toNat) ∧ ∀ j, j < (c.map Int.toNat).length → (c.map Int.toNat).getD j 0 < R2 n := by
  rw [rowsOK, allF_iff] at h
  have key : ∀ j (hj : j < c.length), 0 ≤ c[j] ∧ c[j] < (R2 n : Nat) := by
    intro j hj
    have := h j (Nat.zero_le _) (by omega)
    simp only [inR, decide_eq_true_eq, List.getD_eq_getElem?_getD, List.getElem?_eq_getElem hj, Option.getD_some] at this
    omega
  refine ⟨?_, fun j hj => ?_⟩
  · simp only [zints, ints, List.map_map]
    apply List.map_congr_left
    intro x hx
    obtain ⟨j, hj, rfl⟩ := List.getElem_of_mem hx
    have := key j hj
    simp only [Function.comp]; congr 1; omega
  · simp only [List.length_map] at hj
    have := key j hj
    rw [List.getD_eq_getElem?_getD, List.getElem?_map, List.getElem?_eq_getElem hj]
    simp only [Option.map_some, Option.getD_some]; omega
-- impl.FuncOfRows
def m13 : MC := (.seq (.region [⟨(.box (.t 0)), (some 2), none⟩, ⟨(.box (.t 1)), (some 3), none⟩, ⟨(.alloc [(.int .i64 0), (.int .i64 0)]), (some 4), none⟩, ⟨(.mov (.k (.int .i64 0))), (some 5), none⟩] false) (.seq (.seq (.region [⟨(.load none (.t 2)), (some 6), none⟩, ⟨(.call 108 [(.t 6)]), (some 7), none⟩, ⟨(.un .not (.t 7)), (some 8), none⟩, ⟨(.mov (.t 8)), (some 9), none⟩, ⟨(.load none (.t 3)), (some 10), (some (9, false))⟩, ⟨(.len (.t 10)), (some 11), (some (9, false))⟩, ⟨(.bin .gtr (.t 11) (.k (.int .i64 16))), (some 12), (some (9, false))⟩, ⟨(.pick (.t 9) (.k (.bool true)) (.t 12)), (some 13), none⟩, ⟨(.mov (.t 13)), (some 14), none⟩, ⟨(.load none (.t 3)), (some 15), (some (14, false))⟩, ⟨(.mkfn 109 [(.t 2)]), (some 16), (some (14, false))⟩, ⟨(.call 100 [(.t 15), (.t 16)]), (some 17), (some (14, false))⟩, ⟨(.pick (.t 14) (.k (.bool true)) (.t 17)), (some 18), none⟩] false) (.cond (.t 18) (.seq (.region [⟨(.build [(.int .i64 0), (.int .i64 0)] []), (some 19), none⟩, ⟨(.store 2 (.t 4) (.t 19)), none, none⟩, ⟨(.mov (.k (.int .i64 2))), (some 5), none⟩] false) .ret) .skip)) (.seq (.region [⟨(.load none (.t 2)), (some 20), none⟩, ⟨(.mkfn 113 [(.t 3)]), (some 21), none⟩, ⟨(.call 112 [(.t 20), (.t 21)]), (some 22), none⟩, ⟨(.store 2 (.t 4) (.t 22)), none, none⟩, ⟨(.mov (.k (.int .i64 0))), (some 5), none⟩] false) .ret)))
theorem has13 : Has cx 13 23 m13 [(.cell 4 (some 2)), (.tmp 5)] :=
  ⟨⟨Try.f13, Try.f13.body.getD .skip, by kernel_rfl, by kernel_rfl, by kernel_rfl, by kernel_rfl, by kernel_rfl, by kernel_rfl⟩⟩
theorem ev13 (z : Int) (c : List Int) (hlen : c.length ≤ 1048576) : Ev cx 13 [.int .i64 z, .sl 0 0 c.length] [⟨zints c, 1, 0, some 0, false⟩] (rr (forR z c)) [⟨zints c, 1, 0, some 0, false⟩] := by
  have e1 := ev108 z
  by_cases h1 : 0 ≤ z ∧ z ≤ 4
  · rw [decide_eq_true h1] at e1
    obtain ⟨n, rfl⟩ := Int.eq_ofNat_of_zero_le h1.1
    have hn : n ≤ 4 := by omega
    by_cases h2 : c.length ≤ 16
    · have g2 : decide (((c.length : Nat) : Int) > 16) = false := decide_eq_false (by omega)
      have e2 := evcf_for1 n c hn hlen
      rw [show (fun i => !(fun j => !inR n (c.getD j 0)) i) = fun j => inR n (c.getD j 0) by funext j; simp] at e2
      rw [show allF (fun j => inR n (c.getD j 0)) 0 c.length = rowsOK n c from rfl] at e2
      cases h3 : rowsOK n c
      · rw [h3] at e2
        refine has13.eev rfl rfl ?_
        unfold m13
        repeat' (first
          | (refine g_op ?_; first
            | refine ep_mov rfl ?_ | refine ep_load1 rfl rfl rfl rfl ?_
            | refine ep_call0 rfl (by first | exact e1 | exact e2) rfl rfl ?_
            | refine sp_call rfl rfl rfl rfl (by first | exact e1 | exact e2) ⟨rfl, rfl, rfl, rfl⟩ rfl rfl rfl ?_
            | refine ep_bin rfl rfl (by exact b_gtr) ?_ | refine ep_pickT rfl rfl ?_ | refine ep_pickF rfl rfl ?_ | refine ep_pickTH rfl (by assumption) rfl ?_ | refine ep_pickFH rfl (by assumption) rfl ?_
            | refine sp_store rfl rfl rfl rfl rfl rfl rfl rfl rfl rfl ?_ | refine ep_not rfl ?_ | refine ep_lenS rfl ?_ | refine ep_lenN rfl ?_ | refine ep_lenE rfl ?_ | refine sp_box rfl rfl rfl rfl rfl ?_
            | refine sp_alloc rfl rfl ?_ | refine sp_build rfl rfl ?_ | refine ep_mkfn rfl ?_)
          | (refine g_ops ?_; first | refine eo_none ?_ | refine eo_nil ?_ | refine eo_yes rfl ?_ | refine eo_no rfl ?_ | refine eo_und rfl ?_ | refine eo_yesH rfl (by assumption) ?_ | refine eo_noH rfl (by assumption) ?_)
          | (refine g_code ?_; first | refine ec_seq ?_ | refine ec_region ?_ | refine ec_skip ?_ | refine ec_ret ?_ | refine ec_condT rfl ?_ | refine ec_condF rfl ?_ | refine ec_condTH rfl (by assumption) ?_ | refine ec_condFH rfl (by assumption) ?_)
          | refine ek_seqN ?_ | refine ek_seqR ?_)
        refine sfin (.inr rfl) (by rfl) (by rfl) (by exact ⟨rfl, rfl, rfl⟩) (by rfl) (by rfl) (by rw [forR, if_neg (fun h => by rw [Int.toNat_natCast, h3] at h; simp at h)]) (by first | rfl | (simp; done) | (simp [ints, prs]; done))
      · rw [h3] at e2
        obtain ⟨k1, k2⟩ := rowsOK_nat h3
        obtain ⟨q1, q2, q3, q4⟩ := shN hn
        have e3 := evfb_for n (c.map Int.toNat) hn (by simpa using hlen) (fun j hj => by have := k2 j hj; omega)
        rw [← k1, List.length_map] at e3
        refine has13.eev rfl rfl ?_
        unfold m13
        repeat' (first
          | (refine g_op ?_; first
            | refine ep_mov rfl ?_ | refine ep_load1 rfl rfl rfl rfl ?_
            | refine ep_call0 rfl (by first | exact e1 | exact e2 | exact e3) rfl rfl ?_
            | refine sp_call rfl rfl rfl rfl (by first | exact e1 | exact e2 | exact e3) ⟨rfl, rfl, rfl, rfl⟩ rfl rfl rfl ?_
            | refine ep_bin rfl rfl (by exact b_gtr) ?_ | refine ep_pickT rfl rfl ?_ | refine ep_pickF rfl rfl ?_ | refine ep_pickTH rfl (by assumption) rfl ?_ | refine ep_pickFH rfl (by assumption) rfl ?_
            | refine sp_store rfl rfl rfl rfl rfl rfl rfl rfl rfl rfl ?_ | refine ep_not rfl ?_ | refine ep_lenS rfl ?_ | refine ep_lenN rfl ?_ | refine ep_lenE rfl ?_ | refine sp_box rfl rfl rfl rfl rfl ?_
            | refine sp_alloc rfl rfl ?_ | refine sp_build rfl rfl ?_ | refine ep_mkfn rfl ?_)
          | (refine g_ops ?_; first | refine eo_none ?_ | refine eo_nil ?_ | refine eo_yes rfl ?_ | refine eo_no rfl ?_ | refine eo_und rfl ?_ | refine eo_yesH rfl (by assumption) ?_ | refine eo_noH rfl (by assumption) ?_)
          | (refine g_code ?_; first | refine ec_seq ?_ | refine ec_region ?_ | refine ec_skip ?_ | refine ec_ret ?_ | refine ec_condT rfl ?_ | refine ec_condF rfl ?_ | refine ec_condTH rfl (by assumption) ?_ | refine ec_condFH rfl (by assumption) ?_)
          | refine ek_seqN ?_ | refine ek_seqR ?_)
        refine sfin (.inr rfl) (by rfl) (by rfl) (by exact ⟨rfl, rfl, rfl⟩) (by rfl) (by rfl) (by rw [forR, if_pos ⟨h1, h2, by rw [Int.toNat_natCast]; exact h3⟩]; try rfl) (by first | rfl | (simp; done) | (simp [ints, prs]; done))
    · have g2 : decide (((c.length : Nat) : Int) > 16) = true := decide_eq_true (by omega)
      refine has13.eev rfl rfl ?_
      unfold m13
      repeat' (first
        | (refine g_op ?_; first
          | refine ep_mov rfl ?_ | refine ep_load1 rfl rfl rfl rfl ?_
          | refine ep_call0 rfl (by first | exact e1) rfl rfl ?_
          | refine sp_call rfl rfl rfl rfl (by first | exact e1) ⟨rfl, rfl, rfl, rfl⟩ rfl rfl rfl ?_
          | refine ep_bin rfl rfl (by exact b_gtr) ?_ | refine ep_pickT rfl rfl ?_ | refine ep_pickF rfl rfl ?_ | refine ep_pickTH rfl (by assumption) rfl ?_ | refine ep_pickFH rfl (by assumption) rfl ?_
          | refine sp_store rfl rfl rfl rfl rfl rfl rfl rfl rfl rfl ?_ | refine ep_not rfl ?_ | refine ep_lenS rfl ?_ | refine ep_lenN rfl ?_ | refine ep_lenE rfl ?_ | refine sp_box rfl rfl rfl rfl rfl ?_
          | refine sp_alloc rfl rfl ?_ | refine sp_build rfl rfl ?_ | refine ep_mkfn rfl ?_)
        | (refine g_ops ?_; first | refine eo_none ?_ | refine eo_nil ?_ | refine eo_yes rfl ?_ | refine eo_no rfl ?_ | refine eo_und rfl ?_ | refine eo_yesH rfl (by assumption) ?_ | refine eo_noH rfl (by assumption) ?_)
        | (refine g_code ?_; first | refine ec_seq ?_ | refine ec_region ?_ | refine ec_skip ?_ | refine ec_ret ?_ | refine ec_condT rfl ?_ | refine ec_condF rfl ?_ | refine ec_condTH rfl (by assumption) ?_ | refine ec_condFH rfl (by assumption) ?_)
        | refine ek_seqN ?_ | refine ek_seqR ?_)
      refine sfin (.inr rfl) (by rfl) (by rfl) (by exact ⟨rfl, rfl, rfl⟩) (by rfl) (by rfl) (by rw [forR, if_neg (fun h => h2 h.2.1)]) (by first | rfl | (simp; done) | (simp [ints, prs]; done))
  · rw [decide_eq_false h1] at e1
    refine has13.eev rfl rfl ?_
    unfold m13
    repeat' (first
      | (refine g_op ?_; first
        | refine ep_mov rfl ?_ | refine ep_load1 rfl rfl rfl rfl ?_
        | refine ep_call0 rfl (by first | exact e1) rfl rfl ?_
        | refine sp_call rfl rfl rfl rfl (by first | exact e1) ⟨rfl, rfl, rfl, rfl⟩ rfl rfl rfl ?_
        | refine ep_bin rfl rfl (by exact b_gtr) ?_ | refine ep_pickT rfl rfl ?_ | refine ep_pickF rfl rfl ?_ | refine ep_pickTH rfl (by assumption) rfl ?_ | refine ep_pickFH rfl (by assumption) rfl ?_
        | refine sp_store rfl rfl rfl rfl rfl rfl rfl rfl rfl rfl ?_ | refine ep_not rfl ?_ | refine ep_lenS rfl ?_ | refine ep_lenN rfl ?_ | refine ep_lenE rfl ?_ | refine sp_box rfl rfl rfl rfl rfl ?_
        | refine sp_alloc rfl rfl ?_ | refine sp_build rfl rfl ?_ | refine ep_mkfn rfl ?_)
      | (refine g_ops ?_; first | refine eo_none ?_ | refine eo_nil ?_ | refine eo_yes rfl ?_ | refine eo_no rfl ?_ | refine eo_und rfl ?_ | refine eo_yesH rfl (by assumption) ?_ | refine eo_noH rfl (by assumption) ?_)
      | (refine g_code ?_; first | refine ec_seq ?_ | refine ec_region ?_ | refine ec_skip ?_ | refine ec_ret ?_ | refine ec_condT rfl ?_ | refine ec_condF rfl ?_ | refine ec_condTH rfl (by assumption) ?_ | refine ec_condFH rfl (by assumption) ?_)
      | refine ek_seqN ?_ | refine ek_seqR ?_)
    refine sfin (.inr rfl) (by rfl) (by rfl) (by exact ⟨rfl, rfl, rfl⟩) (by rfl) (by rfl) (by rw [forR, if_neg (fun h => h1 h.1)]) (by first | rfl | (simp; done) | (simp [ints, prs]; done))
-- spec.l07Made
def m123_1 : MC := (.seq (.seq (.region [⟨(.mov (.t 8)), (some 16), none⟩, ⟨(.mov (.t 1)), (some 17), none⟩, ⟨(.len (.t 17)), (some 18), none⟩, ⟨(.bin .lss (.t 16) (.t 18)), (some 19), none⟩] false) (.cond (.t 19) .skip (.exit 2))) (.seq (.block 3 (.seq (.region [⟨(.mov (.t 6)), (some 22), none⟩, ⟨(.mov (.t 1)), (some 23), none⟩, ⟨(.mov (.t 8)), (some 24), none⟩, ⟨(.indexAddr 1 (.t 23) (.t 24)), (some 25), none⟩, ⟨(.load none (.t 25)), (some 26), none⟩, ⟨(.call 189 [(.t 22), (.t 26)]), (some 27), none⟩] false) (.cond (.t 27) (.region [⟨(.mov (.k (.int .i64 1))), (some 7), none⟩] false) .skip))) (.region [⟨(.mov (.t 8)), (some 20), none⟩, ⟨(.bin .add (.t 20) (.k (.int .i64 1))), (some 21), none⟩, ⟨(.mov (.t 21)), (some 8), none⟩] false)))
def m123_0 : MC := (.seq (.seq (.region [⟨(.mov (.t 6)), (some 10), none⟩, ⟨(.mov (.t 0)), (some 11), none⟩, ⟨(.call 106 [(.t 11)]), (some 12), none⟩, ⟨(.bin .lss (.t 10) (.t 12)), (some 13), none⟩] false) (.cond (.t 13) .skip (.exit 0))) (.seq (.block 1 (.seq (.region [⟨(.mov (.k (.int .i64 0))), (some 7), none⟩] false) (.seq (.seq (.region [⟨(.mov (.k (.int .i64 0))), (some 8), none⟩] false) (.block 2 (.loop m123_1))) (.region [⟨(.mov (.t 5)), (some 28), none⟩, ⟨(.mov (.t 7)), (some 29), none⟩, ⟨(.bslice 1 [(.int .i64 0)] 1 [(0, (1, (.t 29)))]), (some 30), none⟩, ⟨(.append 1 8 (.t 28) (.t 30)), (some 31), none⟩, ⟨(.mov (.t 31)), (some 5), none⟩] false)))) (.region [⟨(.mov (.t 6)), (some 14), none⟩, ⟨(.bin .add (.t 14) (.k (.int .i64 1))), (some 15), none⟩, ⟨(.mov (.t 15)), (some 6), none⟩] false)))
def m123 : MC := (.seq (.region [⟨(.alloc [(.int .i64 0), (.int .i64 0)]), (some 4), none⟩] false) (.seq (.region [⟨.empt, (some 9), none⟩, ⟨(.mov (.t 9)), (some 5), none⟩] false) (.seq (.seq (.region [⟨(.mov (.k (.int .i64 0))), (some 6), none⟩] false) (.block 0 (.loop m123_0))) (.seq (.region [⟨(.mov (.t 0)), (some 32), none⟩, ⟨(.mov (.t 5)), (some 33), none⟩, ⟨(.call 107 [(.t 32), (.t 33)]), (some 34), none⟩, ⟨(.store 2 (.t 4) (.t 34)), none, none⟩] false) .ret))))
theorem has123 : Has cx 123 35 m123 [(.cell 4 (some 2))] :=
  ⟨⟨Try.f123, Try.f123.body.getD .skip, by kernel_rfl, by kernel_rfl, by kernel_rfl, by kernel_rfl, by kernel_rfl, by kernel_rfl⟩⟩
theorem lpmd_e (n r : Nat) (l : List Nat) (hn : n ≤ 4) (hln : l.length ≤ 1048576) (hl : ∀ j, j < l.length → l.getD j 0 < 65536) (hr : r < 65536) :
    LpS cx 35 1 m123_1 [(0, .int .i64 (n : Nat)), (1, .sl 0 0 l.length), (4, .ptr 1 0), (5, .emp), (6, .int .i64 (r : Nat)), (7, .int .i64 ((if allF (fun j => !(r &&& (l.getD j 0) == l.getD j 0)) 0 (0) = true then 0 else 1) : Nat)), (8, .int .i64 (0 : Nat))] [⟨ints l, 1, 0, some 0, false⟩, ⟨[.int .i64 0, .int .i64 0], 1, 1, some 0, true⟩] (⟨.exit 2, [(0, .int .i64 (n : Nat)), (1, .sl 0 0 l.length), (4, .ptr 1 0), (5, .emp), (6, .int .i64 (r : Nat)), (7, .int .i64 ((if allF (fun j => !(r &&& (l.getD j 0) == l.getD j 0)) 0 (l.length) = true then 0 else 1) : Nat))], [⟨ints l, 1, 0, some 0, false⟩, ⟨[.int .i64 0, .int .i64 0], 1, 1, some 0, true⟩]⟩ : Out).x (⟨.exit 2, [(0, .int .i64 (n : Nat)), (1, .sl 0 0 l.length), (4, .ptr 1 0), (5, .emp), (6, .int .i64 (r : Nat)), (7, .int .i64 ((if allF (fun j => !(r &&& (l.getD j 0) == l.getD j 0)) 0 (l.length) = true then 0 else 1) : Nat))], [⟨ints l, 1, 0, some 0, false⟩, ⟨[.int .i64 0, .int .i64 0], 1, 1, some 0, true⟩]⟩ : Out).e (⟨.exit 2, [(0, .int .i64 (n : Nat)), (1, .sl 0 0 l.length), (4, .ptr 1 0), (5, .emp), (6, .int .i64 (r : Nat)), (7, .int .i64 ((if allF (fun j => !(r &&& (l.getD j 0) == l.getD j 0)) 0 (l.length) = true then 0 else 1) : Nat))], [⟨ints l, 1, 0, some 0, false⟩, ⟨[.int .i64 0, .int .i64 0], 1, 1, some 0, true⟩]⟩ : Out).h := by
  refine lp_st (l.length) (fun _ => ()) (fun i _ => [(0, .int .i64 (n : Nat)), (1, .sl 0 0 l.length), (4, .ptr 1 0), (5, .emp), (6, .int .i64 (r : Nat)), (7, .int .i64 ((if allF (fun j => !(r &&& (l.getD j 0) == l.getD j 0)) 0 (i) = true then 0 else 1) : Nat)), (8, .int .i64 (i : Nat))]) (fun i _ => [⟨ints l, 1, 0, some 0, false⟩, ⟨[.int .i64 0, .int .i64 0], 1, 1, some 0, true⟩]) (fun _ => (⟨.exit 2, [(0, .int .i64 (n : Nat)), (1, .sl 0 0 l.length), (4, .ptr 1 0), (5, .emp), (6, .int .i64 (r : Nat)), (7, .int .i64 ((if allF (fun j => !(r &&& (l.getD j 0) == l.getD j 0)) 0 (l.length) = true then 0 else 1) : Nat))], [⟨ints l, 1, 0, some 0, false⟩, ⟨[.int .i64 0, .int .i64 0], 1, 1, some 0, true⟩]⟩ : Out)) ?_ ?_ (l.length) 0 (by omega)
  · intro i u_ hi hu_
    refine ⟨(), rfl, ?_⟩
    have hlt : decide ((i : Int) < (l.length : Nat)) = true := decide_eq_true (by omega)
    have e1 := ev189 r (l.getD i 0) (by omega) (hl i hi)
    have hz := allF_s (fun j => !(r &&& (l.getD j 0) == l.getD j 0)) i
    cases hq : (r &&& (l.getD i 0) == l.getD i 0)
    · rw [hq] at e1
      have hz2 : allF (fun j => !(r &&& (l.getD j 0) == l.getD j 0)) 0 (i + 1) = allF (fun j => !(r &&& (l.getD j 0) == l.getD j 0)) 0 i := by rw [hz, hq]; simp
      rw [hz2]
      unfold m123_1
      repeat' (first
        | (refine g_op ?_; first
          | refine ep_mov rfl ?_ | refine ep_load1 rfl rfl rfl rfl ?_
          | refine ep_call0 rfl (by first | exact e1) rfl rfl ?_
          | refine sp_call rfl rfl rfl rfl (by first | exact e1) ⟨rfl, rfl, rfl, rfl⟩ rfl rfl rfl ?_
          | refine ep_bin rfl rfl (by first | exact b_add (by omega) (by omega) | exact b_lss) ?_ | refine ep_lenS rfl ?_ | refine ep_lenN rfl ?_ | refine ep_lenE rfl ?_ | refine sp_idx rfl rfl rfl (by omega) rfl ?_
          | refine ep_loadS rfl rfl rfl (by first | exact ints_get (by omega) | exact zints_get (by omega) | exact fget (by omega) | assumption) ?_)
        | (refine g_ops ?_; first | refine eo_none ?_ | refine eo_nil ?_)
        | (refine g_code ?_; first | refine ec_seq ?_ | refine ec_region ?_ | refine ec_block ?_ | refine ec_skip ?_ | refine ec_exit ?_ | refine ec_condT rfl ?_ | refine ec_condF rfl ?_ | refine ec_condTH rfl (by assumption) ?_ | refine ec_condFH rfl (by assumption) ?_)
        | refine ek_seqN ?_ | refine ek_seqX ?_ | refine ek_blkN ?_ | refine ek_blkR ?_ | refine ek_blkX ?_ | refine ek_blkY rfl ?_)
      exact rnd_on (by rfl) (scmp2 (by rfl) (by rfl) (by exact ⟨rfl, rfl, rfl⟩) (by rfl) (by first | rfl | (simp; done) | (simp [ints, prs]; done)) (by rfl) (by first | rfl | (simp; done) | (simp [ints, prs]; done)))
    rw [hq] at e1
    have hz2 : allF (fun j => !(r &&& (l.getD j 0) == l.getD j 0)) 0 (i + 1) = false := by rw [hz, hq]; simp
    rw [hz2]
    unfold m123_1
    repeat' (first
      | (refine g_op ?_; first
        | refine ep_mov rfl ?_ | refine ep_load1 rfl rfl rfl rfl ?_
        | refine ep_call0 rfl (by first | exact e1) rfl rfl ?_
        | refine sp_call rfl rfl rfl rfl (by first | exact e1) ⟨rfl, rfl, rfl, rfl⟩ rfl rfl rfl ?_
        | refine ep_bin rfl rfl (by first | exact b_add (by omega) (by omega) | exact b_lss) ?_ | refine ep_lenS rfl ?_ | refine ep_lenN rfl ?_ | refine ep_lenE rfl ?_ | refine sp_idx rfl rfl rfl (by omega) rfl ?_
        | refine ep_loadS rfl rfl rfl (by first | exact ints_get (by omega) | exact zints_get (by omega) | exact fget (by omega) | assumption) ?_)
      | (refine g_ops ?_; first | refine eo_none ?_ | refine eo_nil ?_)
      | (refine g_code ?_; first | refine ec_seq ?_ | refine ec_region ?_ | refine ec_block ?_ | refine ec_skip ?_ | refine ec_exit ?_ | refine ec_condT rfl ?_ | refine ec_condF rfl ?_ | refine ec_condTH rfl (by assumption) ?_ | refine ec_condFH rfl (by assumption) ?_)
      | refine ek_seqN ?_ | refine ek_seqX ?_ | refine ek_blkN ?_ | refine ek_blkR ?_ | refine ek_blkX ?_ | refine ek_blkY rfl ?_)
    exact rnd_on (by rfl) (scmp2 (by rfl) (by rfl) (by exact ⟨rfl, rfl, rfl⟩) (by rfl) (by first | rfl | (simp; done) | (simp [ints, prs]; done)) (by rfl) (by first | rfl | (simp; done) | (simp [ints, prs]; done)))
  · intro u_ hu_
    have hlt : decide (((l.length : Nat) : Int) < (l.length : Nat)) = false := decide_eq_false (by omega)
    unfold m123_1
    repeat' (first
      | (refine g_op ?_; first
        | refine ep_mov rfl ?_ | refine ep_load1 rfl rfl rfl rfl ?_
        | refine ep_bin rfl rfl (by first | exact b_add (by omega) (by omega) | exact b_lss) ?_ | refine ep_lenS rfl ?_ | refine ep_lenN rfl ?_ | refine ep_lenE rfl ?_ | refine sp_idx rfl rfl rfl (by omega) rfl ?_
        | refine ep_loadS rfl rfl rfl (by first | exact ints_get (by omega) | exact zints_get (by omega) | exact fget (by omega) | assumption) ?_)
      | (refine g_ops ?_; first | refine eo_none ?_ | refine eo_nil ?_)
      | (refine g_code ?_; first | refine ec_seq ?_ | refine ec_region ?_ | refine ec_block ?_ | refine ec_skip ?_ | refine ec_exit ?_ | refine ec_condT rfl ?_ | refine ec_condF rfl ?_ | refine ec_condTH rfl (by assumption) ?_ | refine ec_condFH rfl (by assumption) ?_)
      | refine ek_seqN ?_ | refine ek_seqX ?_ | refine ek_blkN ?_ | refine ek_blkR ?_ | refine ek_blkX ?_ | refine ek_blkY rfl ?_)
    exact rnd_out (by rfl) (by simp) (scmp2 (by rfl) (by rfl) (by exact ⟨rfl, rfl, rfl⟩) (by rfl) (by first | rfl | (simp; done) | (simp [ints, prs]; done)) (by rfl) (by first | rfl | (simp; done) | (simp [ints, prs]; done)))

theorem lpmd_c (n r : Nat) (l : List Nat) (hn : n ≤ 4) (hln : l.length ≤ 1048576) (hl : ∀ j, j < l.length → l.getD j 0 < 65536) (x : Nat) (xs : List Nat) (hr : r < 65536) :
    LpS cx 35 1 m123_1 [(0, .int .i64 (n : Nat)), (1, .sl 0 0 l.length), (4, .ptr 1 0), (5, .sl 2 0 (x :: xs).length), (6, .int .i64 (r : Nat)), (7, .int .i64 ((if allF (fun j => !(r &&& (l.getD j 0) == l.getD j 0)) 0 (0) = true then 0 else 1) : Nat)), (8, .int .i64 (0 : Nat))] [⟨ints l, 1, 0, some 0, false⟩, ⟨[.int .i64 0, .int .i64 0], 1, 1, some 0, true⟩, ⟨ints (x :: xs), 1, 2, some 0, false⟩] (⟨.exit 2, [(0, .int .i64 (n : Nat)), (1, .sl 0 0 l.length), (4, .ptr 1 0), (5, .sl 2 0 (x :: xs).length), (6, .int .i64 (r : Nat)), (7, .int .i64 ((if allF (fun j => !(r &&& (l.getD j 0) == l.getD j 0)) 0 (l.length) = true then 0 else 1) : Nat))], [⟨ints l, 1, 0, some 0, false⟩, ⟨[.int .i64 0, .int .i64 0], 1, 1, some 0, true⟩, ⟨ints (x :: xs), 1, 2, some 0, false⟩]⟩ : Out).x (⟨.exit 2, [(0, .int .i64 (n : Nat)), (1, .sl 0 0 l.length), (4, .ptr 1 0), (5, .sl 2 0 (x :: xs).length), (6, .int .i64 (r : Nat)), (7, .int .i64 ((if allF (fun j => !(r &&& (l.getD j 0) == l.getD j 0)) 0 (l.length) = true then 0 else 1) : Nat))], [⟨ints l, 1, 0, some 0, false⟩, ⟨[.int .i64 0, .int .i64 0], 1, 1, some 0, true⟩, ⟨ints (x :: xs), 1, 2, some 0, false⟩]⟩ : Out).e (⟨.exit 2, [(0, .int .i64 (n : Nat)), (1, .sl 0 0 l.length), (4, .ptr 1 0), (5, .sl 2 0 (x :: xs).length), (6, .int .i64 (r : Nat)), (7, .int .i64 ((if allF (fun j => !(r &&& (l.getD j 0) == l.getD j 0)) 0 (l.length) = true then 0 else 1) : Nat))], [⟨ints l, 1, 0, some 0, false⟩, ⟨[.int .i64 0, .int .i64 0], 1, 1, some 0, true⟩, ⟨ints (x :: xs), 1, 2, some 0, false⟩]⟩ : Out).h := by
  refine lp_st (l.length) (fun _ => ()) (fun i _ => [(0, .int .i64 (n : Nat)), (1, .sl 0 0 l.length), (4, .ptr 1 0), (5, .sl 2 0 (x :: xs).length), (6, .int .i64 (r : Nat)), (7, .int .i64 ((if allF (fun j => !(r &&& (l.getD j 0) == l.getD j 0)) 0 (i) = true then 0 else 1) : Nat)), (8, .int .i64 (i : Nat))]) (fun i _ => [⟨ints l, 1, 0, some 0, false⟩, ⟨[.int .i64 0, .int .i64 0], 1, 1, some 0, true⟩, ⟨ints (x :: xs), 1, 2, some 0, false⟩]) (fun _ => (⟨.exit 2, [(0, .int .i64 (n : Nat)), (1, .sl 0 0 l.length), (4, .ptr 1 0), (5, .sl 2 0 (x :: xs).length), (6, .int .i64 (r : Nat)), (7, .int .i64 ((if allF (fun j => !(r &&& (l.getD j 0) == l.getD j 0)) 0 (l.length) = true then 0 else 1) : Nat))], [⟨ints l, 1, 0, some 0, false⟩, ⟨[.int .i64 0, .int .i64 0], 1, 1, some 0, true⟩, ⟨ints (x :: xs), 1, 2, some 0, false⟩]⟩ : Out)) ?_ ?_ (l.length) 0 (by omega)
  · intro i u_ hi hu_
    refine ⟨(), rfl, ?_⟩
    have hlt : decide ((i : Int) < (l.length : Nat)) = true := decide_eq_true (by omega)
    have e1 := ev189 r (l.getD i 0) (by omega) (hl i hi)
    have hz := allF_s (fun j => !(r &&& (l.getD j 0) == l.getD j 0)) i
    cases hq : (r &&& (l.getD i 0) == l.getD i 0)
    · rw [hq] at e1
      have hz2 : allF (fun j => !(r &&& (l.getD j 0) == l.getD j 0)) 0 (i + 1) = allF (fun j => !(r &&& (l.getD j 0) == l.getD j 0)) 0 i := by rw [hz, hq]; simp
      rw [hz2]
      unfold m123_1
      repeat' (first
        | (refine g_op ?_; first
          | refine ep_mov rfl ?_ | refine ep_load1 rfl rfl rfl rfl ?_
          | refine ep_call0 rfl (by first | exact e1) rfl rfl ?_
          | refine sp_call rfl rfl rfl rfl (by first | exact e1) ⟨rfl, rfl, rfl, rfl⟩ rfl rfl rfl ?_
          | refine ep_bin rfl rfl (by first | exact b_add (by omega) (by omega) | exact b_lss) ?_ | refine ep_lenS rfl ?_ | refine ep_lenN rfl ?_ | refine ep_lenE rfl ?_ | refine sp_idx rfl rfl rfl (by omega) rfl ?_
          | refine ep_loadS rfl rfl rfl (by first | exact ints_get (by omega) | exact zints_get (by omega) | exact fget (by omega) | assumption) ?_)
        | (refine g_ops ?_; first | refine eo_none ?_ | refine eo_nil ?_)
        | (refine g_code ?_; first | refine ec_seq ?_ | refine ec_region ?_ | refine ec_block ?_ | refine ec_skip ?_ | refine ec_exit ?_ | refine ec_condT rfl ?_ | refine ec_condF rfl ?_ | refine ec_condTH rfl (by assumption) ?_ | refine ec_condFH rfl (by assumption) ?_)
        | refine ek_seqN ?_ | refine ek_seqX ?_ | refine ek_blkN ?_ | refine ek_blkR ?_ | refine ek_blkX ?_ | refine ek_blkY rfl ?_)
      exact rnd_on (by rfl) (scmp2 (by rfl) (by rfl) (by exact ⟨rfl, rfl, rfl⟩) (by rfl) (by first | rfl | (simp; done) | (simp [ints, prs]; done)) (by rfl) (by first | rfl | (simp; done) | (simp [ints, prs]; done)))
    rw [hq] at e1
    have hz2 : allF (fun j => !(r &&& (l.getD j 0) == l.getD j 0)) 0 (i + 1) = false := by rw [hz, hq]; simp
    rw [hz2]
    unfold m123_1
    repeat' (first
      | (refine g_op ?_; first
        | refine ep_mov rfl ?_ | refine ep_load1 rfl rfl rfl rfl ?_
        | refine ep_call0 rfl (by first | exact e1) rfl rfl ?_
        | refine sp_call rfl rfl rfl rfl (by first | exact e1) ⟨rfl, rfl, rfl, rfl⟩ rfl rfl rfl ?_
        | refine ep_bin rfl rfl (by first | exact b_add (by omega) (by omega) | exact b_lss) ?_ | refine ep_lenS rfl ?_ | refine ep_lenN rfl ?_ | refine ep_lenE rfl ?_ | refine sp_idx rfl rfl rfl (by omega) rfl ?_
        | refine ep_loadS rfl rfl rfl (by first | exact ints_get (by omega) | exact zints_get (by omega) | exact fget (by omega) | assumption) ?_)
      | (refine g_ops ?_; first | refine eo_none ?_ | refine eo_nil ?_)
      | (refine g_code ?_; first | refine ec_seq ?_ | refine ec_region ?_ | refine ec_block ?_ | refine ec_skip ?_ | refine ec_exit ?_ | refine ec_condT rfl ?_ | refine ec_condF rfl ?_ | refine ec_condTH rfl (by assumption) ?_ | refine ec_condFH rfl (by assumption) ?_)
      | refine ek_seqN ?_ | refine ek_seqX ?_ | refine ek_blkN ?_ | refine ek_blkR ?_ | refine ek_blkX ?_ | refine ek_blkY rfl ?_)
    exact rnd_on (by rfl) (scmp2 (by rfl) (by rfl) (by exact ⟨rfl, rfl, rfl⟩) (by rfl) (by first | rfl | (simp; done) | (simp [ints, prs]; done)) (by rfl) (by first | rfl | (simp; done) | (simp [ints, prs]; done)))
  · intro u_ hu_
    have hlt : decide (((l.length : Nat) : Int) < (l.length : Nat)) = false := decide_eq_false (by omega)
    unfold m123_1
    repeat' (first
      | (refine g_op ?_; first
        | refine ep_mov rfl ?_ | refine ep_load1 rfl rfl rfl rfl ?_
        | refine ep_bin rfl rfl (by first | exact b_add (by omega) (by omega) | exact b_lss) ?_ | refine ep_lenS rfl ?_ | refine ep_lenN rfl ?_ | refine ep_lenE rfl ?_ | refine sp_idx rfl rfl rfl (by omega) rfl ?_
        | refine ep_loadS rfl rfl rfl (by first | exact ints_get (by omega) | exact zints_get (by omega) | exact fget (by omega) | assumption) ?_)
      | (refine g_ops ?_; first | refine eo_none ?_ | refine eo_nil ?_)
      | (refine g_code ?_; first | refine ec_seq ?_ | refine ec_region ?_ | refine ec_block ?_ | refine ec_skip ?_ | refine ec_exit ?_ | refine ec_condT rfl ?_ | refine ec_condF rfl ?_ | refine ec_condTH rfl (by assumption) ?_ | refine ec_condFH rfl (by assumption) ?_)
      | refine ek_seqN ?_ | refine ek_seqX ?_ | refine ek_blkN ?_ | refine ek_blkR ?_ | refine ek_blkX ?_ | refine ek_blkY rfl ?_)
    exact rnd_out (by rfl) (by simp) (scmp2 (by rfl) (by rfl) (by exact ⟨rfl, rfl, rfl⟩) (by rfl) (by first | rfl | (simp; done) | (simp [ints, prs]; done)) (by rfl) (by first | rfl | (simp; done) | (simp [ints, prs]; done)))

theorem lp123_0 (n : Nat) (l : List Nat) (hn : n ≤ 4) (hln : l.length ≤ 1048576) (hl : ∀ j, j < l.length → l.getD j 0 < 65536) (o : Out) (ho : (match selm (fun _ => true) (bn (hasR l)) (R2 n) with | [] => (⟨.exit 0, [(0, .int .i64 (n : Nat)), (4, .ptr 1 0), (5, .emp)], [⟨ints l, 1, 0, some 0, false⟩, ⟨[.int .i64 0, .int .i64 0], 1, 1, some 0, true⟩]⟩ : Out) | x :: xs => ⟨.exit 0, [(0, .int .i64 (n : Nat)), (4, .ptr 1 0), (5, .sl 2 0 (x :: xs).length)], [⟨ints l, 1, 0, some 0, false⟩, ⟨[.int .i64 0, .int .i64 0], 1, 1, some 0, true⟩, ⟨ints (x :: xs), 1, 2, some 0, false⟩]⟩) = o) :
    LpS cx 35 1 m123_0 [(0, .int .i64 (n : Nat)), (1, .sl 0 0 l.length), (4, .ptr 1 0), (5, .emp), (6, .int .i64 (0 : Nat))] [⟨ints l, 1, 0, some 0, false⟩, ⟨[.int .i64 0, .int .i64 0], 1, 1, some 0, true⟩] o.x o.e o.h := by
  obtain ⟨h1, h2, h3, h4⟩ := shN hn
  subst ho
  refine lp_st (R2 n) (selm (fun _ => true) (bn (hasR l))) (fun i s => match s with | [] => [(0, .int .i64 (n : Nat)), (1, .sl 0 0 l.length), (4, .ptr 1 0), (5, .emp), (6, .int .i64 (i : Nat))] | x :: xs => [(0, .int .i64 (n : Nat)), (1, .sl 0 0 l.length), (4, .ptr 1 0), (5, .sl 2 0 (x :: xs).length), (6, .int .i64 (i : Nat))]) (fun i s => match s with | [] => [⟨ints l, 1, 0, some 0, false⟩, ⟨[.int .i64 0, .int .i64 0], 1, 1, some 0, true⟩] | x :: xs => [⟨ints l, 1, 0, some 0, false⟩, ⟨[.int .i64 0, .int .i64 0], 1, 1, some 0, true⟩, ⟨ints (x :: xs), 1, 2, some 0, false⟩]) (fun s => match s with | [] => ⟨.exit 0, [(0, .int .i64 (n : Nat)), (4, .ptr 1 0), (5, .emp)], [⟨ints l, 1, 0, some 0, false⟩, ⟨[.int .i64 0, .int .i64 0], 1, 1, some 0, true⟩]⟩ | x :: xs => ⟨.exit 0, [(0, .int .i64 (n : Nat)), (4, .ptr 1 0), (5, .sl 2 0 (x :: xs).length)], [⟨ints l, 1, 0, some 0, false⟩, ⟨[.int .i64 0, .int .i64 0], 1, 1, some 0, true⟩, ⟨ints (x :: xs), 1, 2, some 0, false⟩]⟩) ?_ ?_ (R2 n) 0 (by omega)
  · intro i s hi hs
    have hlt : decide ((i : Int) < (R2 n : Nat)) = true := decide_eq_true (by omega)
    have hle : decide ((i : Int) ≤ (R2 n : Nat) - 1) = true := decide_eq_true (by omega)
    have hlen : s.length ≤ 16 := by have := selm_len (fun _ => true) (bn (hasR l)) i; rw [hs] at this; omega
    have hp : (fun _ => true) i = true := rfl
    have hr : i < 65536 := by omega
    have lpe := lpmd_e n i l hn hln hl hr
    have lpc := lpmd_c n i l hn hln hl
    rw [show (if allF (fun j => !(i &&& (l.getD j 0) == l.getD j 0)) 0 0 = true then 0 else 1) = 0 from rfl] at lpe
    have hbn : (if allF (fun j => !(i &&& (l.getD j 0) == l.getD j 0)) 0 l.length = true then 0 else 1) = bn (hasR l) i := by
      unfold bn hasR; cases allF (fun j => !(i &&& (l.getD j 0) == l.getD j 0)) 0 l.length <;> rfl
    rw [hbn] at lpe
    have lpc2 : ∀ x xs, _ := fun x xs => lpc x xs hr
    simp only [show ∀ i : Nat, (if allF (fun j => !(i &&& (l.getD j 0) == l.getD j 0)) 0 0 = true then 0 else 1) = 0 from fun _ => rfl, hbn] at lpc2
    cases s with
    | nil =>
      refine ⟨[(bn (hasR l)) i], by rw [selm_t (p := fun _ => true) hp, hs]; try rfl, ?_⟩
      unfold m123_0
      repeat' (first
        | refine sc_loop lpe rfl rfl ⟨rfl, rfl, rfl⟩ rfl rfl rfl ?_
        | refine sc_loop (lpc2 _ _) rfl rfl ⟨rfl, rfl, rfl⟩ rfl rfl rfl ?_
        | (refine g_op ?_; first
          | refine ep_mov rfl ?_
          | refine ep_call0 rfl (by first | exact ev106 _ hn) rfl rfl ?_
          | refine sp_call rfl rfl rfl rfl (by first | exact ev106 _ hn) ⟨rfl, rfl, rfl, rfl⟩ rfl rfl rfl ?_
          | refine ep_bin rfl rfl (by first | exact b_add (by omega) (by omega) | exact b_lss) ?_ | refine sp_bslice rfl rfl rfl rfl rfl ?_ | refine sp_push0 rfl (by first | exact .inl rfl | exact .inr rfl) rfl rfl rfl rfl rfl (by decide) rfl rfl rfl ?_
          | refine sp_push rfl rfl rfl rfl rfl rfl rfl (by first | exact ints_len _ | exact prs_len _ _ | exact zints_len _) (by omega) (Nat.zero_le _) rfl rfl rfl rfl rfl ?_)
        | (refine g_ops ?_; first | refine eo_none ?_ | refine eo_nil ?_)
        | (refine g_code ?_; first | refine ec_seq ?_ | refine ec_region ?_ | refine ec_block ?_ | refine ec_skip ?_ | refine ec_exit ?_ | refine ec_condT rfl ?_ | refine ec_condF rfl ?_ | refine ec_condTH rfl (by assumption) ?_ | refine ec_condFH rfl (by assumption) ?_)
        | refine ek_seqN ?_ | refine ek_seqX ?_ | refine ek_seqR ?_ | refine ek_blkN ?_ | refine ek_blkR ?_ | refine ek_blkX ?_ | refine ek_blkY rfl ?_)
      exact rnd_on (by rfl) (scmp2 (by rfl) (by rfl) (by exact ⟨rfl, rfl, rfl⟩) (by rfl) (by first | rfl | (simp; done) | (simp [ints, prs]; done)) (by rfl) (by first | rfl | (simp; done) | (simp [ints, prs]; done)))
    | cons x xs =>
      refine ⟨(x :: xs) ++ [(bn (hasR l)) i], by rw [selm_t (p := fun _ => true) hp, hs]; try rfl, ?_⟩
      unfold m123_0
      repeat' (first
        | refine sc_loop lpe rfl rfl ⟨rfl, rfl, rfl⟩ rfl rfl rfl ?_
        | refine sc_loop (lpc2 _ _) rfl rfl ⟨rfl, rfl, rfl⟩ rfl rfl rfl ?_
        | (refine g_op ?_; first
          | refine ep_mov rfl ?_
          | refine ep_call0 rfl (by first | exact ev106 _ hn) rfl rfl ?_
          | refine sp_call rfl rfl rfl rfl (by first | exact ev106 _ hn) ⟨rfl, rfl, rfl, rfl⟩ rfl rfl rfl ?_
          | refine ep_bin rfl rfl (by first | exact b_add (by omega) (by omega) | exact b_lss) ?_ | refine sp_bslice rfl rfl rfl rfl rfl ?_ | refine sp_push0 rfl (by first | exact .inl rfl | exact .inr rfl) rfl rfl rfl rfl rfl (by decide) rfl rfl rfl ?_
          | refine sp_push rfl rfl rfl rfl rfl rfl rfl (by first | exact ints_len _ | exact prs_len _ _ | exact zints_len _) (by omega) (Nat.zero_le _) rfl rfl rfl rfl rfl ?_)
        | (refine g_ops ?_; first | refine eo_none ?_ | refine eo_nil ?_)
        | (refine g_code ?_; first | refine ec_seq ?_ | refine ec_region ?_ | refine ec_block ?_ | refine ec_skip ?_ | refine ec_exit ?_ | refine ec_condT rfl ?_ | refine ec_condF rfl ?_ | refine ec_condTH rfl (by assumption) ?_ | refine ec_condFH rfl (by assumption) ?_)
        | refine ek_seqN ?_ | refine ek_seqX ?_ | refine ek_seqR ?_ | refine ek_blkN ?_ | refine ek_blkR ?_ | refine ek_blkX ?_ | refine ek_blkY rfl ?_)
      exact rnd_on (by rfl) (scmp2 (by rfl) (by rfl) (by exact ⟨rfl, rfl, rfl⟩) (by rfl) (by first | rfl | (simp; done) | (simp [ints, prs]; done)) (by rfl) (by first | rfl | (simp; done) | (simp [ints, prs]; done)))
  · intro s hs
    have hlt : decide (((R2 n : Nat) : Int) < (R2 n : Nat)) = false := decide_eq_false (by omega)
    have hle : decide (((R2 n : Nat) : Int) ≤ (R2 n : Nat) - 1) = false := decide_eq_false (by omega)
    cases s with
    | nil =>
      unfold m123_0
      repeat' (first
        | (refine g_op ?_; first
          | refine ep_mov rfl ?_
          | refine ep_call0 rfl (by first | exact ev106 _ hn) rfl rfl ?_
          | refine sp_call rfl rfl rfl rfl (by first | exact ev106 _ hn) ⟨rfl, rfl, rfl, rfl⟩ rfl rfl rfl ?_
          | refine ep_bin rfl rfl (by first | exact b_add (by omega) (by omega) | exact b_lss) ?_ | refine sp_bslice rfl rfl rfl rfl rfl ?_ | refine sp_push0 rfl (by first | exact .inl rfl | exact .inr rfl) rfl rfl rfl rfl rfl (by decide) rfl rfl rfl ?_
          | refine sp_push rfl rfl rfl rfl rfl rfl rfl (by first | exact ints_len _ | exact prs_len _ _ | exact zints_len _) (by omega) (Nat.zero_le _) rfl rfl rfl rfl rfl ?_)
        | (refine g_ops ?_; first | refine eo_none ?_ | refine eo_nil ?_)
        | (refine g_code ?_; first | refine ec_seq ?_ | refine ec_region ?_ | refine ec_block ?_ | refine ec_skip ?_ | refine ec_exit ?_ | refine ec_condT rfl ?_ | refine ec_condF rfl ?_ | refine ec_condTH rfl (by assumption) ?_ | refine ec_condFH rfl (by assumption) ?_)
        | refine ek_seqN ?_ | refine ek_seqX ?_ | refine ek_seqR ?_ | refine ek_blkN ?_ | refine ek_blkR ?_ | refine ek_blkX ?_ | refine ek_blkY rfl ?_)
      exact rnd_out (by rfl) (by simp) (scmp2 (by rfl) (by rfl) (by exact ⟨rfl, rfl, rfl⟩) (by rfl) (by first | rfl | (simp; done) | (simp [ints, prs]; done)) (by rfl) (by first | rfl | (simp; done) | (simp [ints, prs]; done)))
    | cons x xs =>
      unfold m123_0
      repeat' (first
        | (refine g_op ?_; first
          | refine ep_mov rfl ?_
          | refine ep_call0 rfl (by first | exact ev106 _ hn) rfl rfl ?_
          | refine sp_call rfl rfl rfl rfl (by first | exact ev106 _ hn) ⟨rfl, rfl, rfl, rfl⟩ rfl rfl rfl ?_
          | refine ep_bin rfl rfl (by first | exact b_add (by omega) (by omega) | exact b_lss) ?_ | refine sp_bslice rfl rfl rfl rfl rfl ?_ | refine sp_push0 rfl (by first | exact .inl rfl | exact .inr rfl) rfl rfl rfl rfl rfl (by decide) rfl rfl rfl ?_
          | refine sp_push rfl rfl rfl rfl rfl rfl rfl (by first | exact ints_len _ | exact prs_len _ _ | exact zints_len _) (by omega) (Nat.zero_le _) rfl rfl rfl rfl rfl ?_)
        | (refine g_ops ?_; first | refine eo_none ?_ | refine eo_nil ?_)
        | (refine g_code ?_; first | refine ec_seq ?_ | refine ec_region ?_ | refine ec_block ?_ | refine ec_skip ?_ | refine ec_exit ?_ | refine ec_condT rfl ?_ | refine ec_condF rfl ?_ | refine ec_condTH rfl (by assumption) ?_ | refine ec_condFH rfl (by assumption) ?_)
        | refine ek_seqN ?_ | refine ek_seqX ?_ | refine ek_seqR ?_ | refine ek_blkN ?_ | refine ek_blkR ?_ | refine ek_blkX ?_ | refine ek_blkY rfl ?_)
      exact rnd_out (by rfl) (by simp) (scmp2 (by rfl) (by rfl) (by exact ⟨rfl, rfl, rfl⟩) (by rfl) (by first | rfl | (simp; done) | (simp [ints, prs]; done)) (by rfl) (by first | rfl | (simp; done) | (simp [ints, prs]; done)))

theorem ev123 (n : Nat) (l : List Nat) (hn : n ≤ 4) (hln : l.length ≤ 1048576) (hl : ∀ j, j < l.length → l.getD j 0 < 65536) : Ev cx 123 [.int .i64 n, .sl 0 0 l.length] [⟨ints l, 1, 0, some 0, false⟩] (.agg [.int .i64 n, .int .i64 (pk (bn (hasR l)) (R2 n) : Nat)]) [⟨ints l, 1, 0, some 0, false⟩] := by
  obtain ⟨k1, k2⟩ := selm_all (g := bn (hasR l)) (R2 n)
  have hpos := R2_pos n
  have e2 := fun p => ev107 n p (selm (fun _ => true) (bn (hasR l)) (R2 n)) hn (by omega) (fun r hr => by rw [k2 r hr]; exact bn_le _ r)
  rw [show pk (fun r => (selm (fun _ => true) (bn (hasR l)) (R2 n)).getD r 0) (R2 n) = pk (bn (hasR l)) (R2 n) from pk_congr fun r hr => k2 r hr] at e2
  cases hs : selm (fun _ => true) (bn (hasR l)) (R2 n) with
  | nil => rw [hs] at k1; simp at k1; omega
  | cons x xs =>
    rw [hs] at e2
    have lp := lp123_0 n l hn hln hl _ (by rw [hs])
    refine has123.eev rfl rfl ?_
    unfold m123
    repeat' (first
      | refine sc_loop lp rfl rfl ⟨rfl, rfl, rfl⟩ rfl rfl rfl ?_
      | (refine g_op ?_; first
        | refine ep_mov rfl ?_
        | refine ep_call0 rfl (by first | exact e2 _) rfl rfl ?_
        | refine sp_call rfl rfl rfl rfl (by first | exact e2 _) ⟨rfl, rfl, rfl, rfl⟩ rfl rfl rfl ?_
        | refine sp_store rfl rfl rfl rfl rfl rfl rfl rfl rfl rfl ?_ | refine sp_alloc rfl rfl ?_ | refine ep_empt ?_)
      | (refine g_ops ?_; first | refine eo_none ?_ | refine eo_nil ?_)
      | (refine g_code ?_; first | refine ec_seq ?_ | refine ec_region ?_ | refine ec_block ?_ | refine ec_ret ?_)
      | refine ek_seqN ?_ | refine ek_seqX ?_ | refine ek_seqR ?_ | refine ek_blkN ?_ | refine ek_blkR ?_ | refine ek_blkX ?_ | refine ek_blkY rfl ?_)
    refine sfin (.inr rfl) (by rfl) (by rfl) (by exact ⟨rfl, rfl, rfl⟩) (by rfl) (by rfl) (by rfl) (by first | rfl | (simp; done) | (simp [ints, prs]; done))
-- spec.FuncOfRows
def m18_0 : MC := (.seq (.seq (.region [⟨(.mov (.t 6)), (some 16), none⟩, ⟨(.mov (.t 1)), (some 17), none⟩, ⟨(.len (.t 17)), (some 18), none⟩, ⟨(.bin .lss (.t 16) (.t 18)), (some 19), none⟩] false) (.cond (.t 19) .skip (.exit 0))) (.seq (.block 1 (.seq (.region [⟨(.mov (.t 1)), (some 22), none⟩, ⟨(.mov (.t 6)), (some 23), none⟩, ⟨(.indexAddr 1 (.t 22) (.t 23)), (some 24), none⟩, ⟨(.load none (.t 24)), (some 25), none⟩, ⟨(.mov (.t 0)), (some 26), none⟩, ⟨(.call 106 [(.t 26)]), (some 27), none⟩, ⟨(.bin .sub (.t 27) (.k (.int .i64 1))), (some 28), none⟩, ⟨(.callw 122 [(.t 25), (.k (.int .i64 0)), (.t 28)]), (some 29), none⟩, ⟨(.un .not (.t 29)), (some 30), none⟩] true) (.cond (.t 30) (.seq (.region [⟨(.build [(.int .i64 0), (.int .i64 0)] []), (some 31), none⟩, ⟨(.store 2 (.t 4) (.t 31)), none, none⟩, ⟨(.mov (.k (.int .i64 2))), (some 5), none⟩] false) .ret) .skip))) (.region [⟨(.mov (.t 6)), (some 20), none⟩, ⟨(.bin .add (.t 20) (.k (.int .i64 1))), (some 21), none⟩, ⟨(.mov (.t 21)), (some 6), none⟩] false)))
def m18 : MC := (.seq (.region [⟨(.alloc [(.int .i64 0), (.int .i64 0)]), (some 4), none⟩, ⟨(.mov (.k (.int .i64 0))), (some 5), none⟩] false) (.seq (.seq (.region [⟨(.mov (.t 0)), (some 7), none⟩, ⟨(.call 122 [(.t 7), (.k (.int .i64 0)), (.k (.int .i64 4))]), (some 8), none⟩, ⟨(.un .not (.t 8)), (some 9), none⟩, ⟨(.mov (.t 9)), (some 10), none⟩, ⟨(.mov (.t 1)), (some 11), (some (10, false))⟩, ⟨(.len (.t 11)), (some 12), (some (10, false))⟩, ⟨(.bin .gtr (.t 12) (.k (.int .i64 16))), (some 13), (some (10, false))⟩, ⟨(.pick (.t 10) (.k (.bool true)) (.t 13)), (some 14), none⟩] false) (.cond (.t 14) (.seq (.region [⟨(.build [(.int .i64 0), (.int .i64 0)] []), (some 15), none⟩, ⟨(.store 2 (.t 4) (.t 15)), none, none⟩, ⟨(.mov (.k (.int .i64 2))), (some 5), none⟩] false) .ret) .skip)) (.seq (.seq (.region [⟨(.mov (.k (.int .i64 0))), (some 6), none⟩] false) (.block 0 (.loop m18_0))) (.seq (.region [⟨(.mov (.t 0)), (some 32), none⟩, ⟨(.mov (.t 1)), (some 33), none⟩, ⟨(.call 123 [(.t 32), (.t 33)]), (some 34), none⟩, ⟨(.store 2 (.t 4) (.t 34)), none, none⟩, ⟨(.mov (.k (.int .i64 0))), (some 5), none⟩] false) .ret))))
theorem has18 : Has cx 18 35 m18 [(.cell 4 (some 2)), (.tmp 5)] :=
  ⟨⟨Try.f18, Try.f18.body.getD .skip, by kernel_rfl, by kernel_rfl, by kernel_rfl, by kernel_rfl, by kernel_rfl, by kernel_rfl⟩⟩
theorem lp18_0 (n : Nat) (c : List Int) (hn : n ≤ 4) (hlen : c.length ≤ 1048576) (o : Out) (ho : (if allF (fun j => inR n (c.getD j 0)) 0 (c.length) = true then (⟨.exit 0, [(0, .int .i64 (n : Nat)), (1, .sl 0 0 c.length), (4, .ptr 1 0)], [⟨zints c, 1, 0, some 0, false⟩, ⟨[.int .i64 0, .int .i64 0], 1, 1, some 0, true⟩]⟩ : Out) else ⟨.ret, [(4, .ptr 1 0), (5, .int .i64 2)], [⟨zints c, 1, 0, some 0, false⟩, ⟨[.int .i64 0, .int .i64 0], 1, 1, some 0, true⟩]⟩) = o) :
    LpS cx 35 1 m18_0 [(0, .int .i64 (n : Nat)), (1, .sl 0 0 c.length), (4, .ptr 1 0), (6, .int .i64 (0 : Nat))] [⟨zints c, 1, 0, some 0, false⟩, ⟨[.int .i64 0, .int .i64 0], 1, 1, some 0, true⟩] o.x o.e o.h := by
  obtain ⟨h1, h2, h3, h4⟩ := shN hn
  refine lp_all (c.length) (fun j => inR n (c.getD j 0)) (fun i => [(0, .int .i64 (n : Nat)), (1, .sl 0 0 c.length), (4, .ptr 1 0), (6, .int .i64 (i : Nat))]) (fun i => [⟨zints c, 1, 0, some 0, false⟩, ⟨[.int .i64 0, .int .i64 0], 1, 1, some 0, true⟩]) _ _ ?_ ?_ ?_ (c.length) 0 o (by omega) ho
  · intro i hi hp
    have hlt : decide ((i : Int) < (c.length : Nat)) = true := decide_eq_true (by omega)
    have hp' : (inR n (c.getD i 0)) = true := hp
    have e1 := ev122 (c.getD i 0) 0 ((R2 n : Nat) - 1)
    rw [show decide (0 ≤ c.getD i 0 ∧ c.getD i 0 ≤ ((R2 n : Nat) : Int) - 1) = _ from hp] at e1
    unfold m18_0
    repeat' (first
      | (refine g_op ?_; first
        | refine ep_mov rfl ?_ | refine ep_load1 rfl rfl rfl rfl ?_
        | refine ep_call0 rfl (by first | exact e1 | exact ev106 _ hn) rfl rfl ?_
        | refine sp_call rfl rfl rfl rfl (by first | exact e1 | exact ev106 _ hn) ⟨rfl, rfl, rfl, rfl⟩ rfl rfl rfl ?_
        | refine ep_callw0 rfl (by first | exact e1 | exact ev106 _ hn) rfl rfl ?_
        | refine sp_callw rfl rfl rfl rfl (by first | exact e1 | exact ev106 _ hn) ⟨rfl, rfl, rfl, rfl⟩ rfl rfl rfl (by first | exact WrP_refl _ _ | (repeat' (first | exact rfl | exact True.intro | refine And.intro ?_ ?_))) ?_
        | refine ep_bin rfl rfl (by first | exact b_add (by omega) (by omega) | exact b_sub (by omega) (by omega) | exact b_lss) ?_ | refine sp_store rfl rfl rfl rfl rfl rfl rfl rfl rfl rfl ?_ | refine ep_not rfl ?_
        | refine ep_lenS rfl ?_ | refine ep_lenN rfl ?_ | refine ep_lenE rfl ?_ | refine sp_build rfl rfl ?_ | refine sp_idx rfl rfl rfl (by omega) rfl ?_ | refine ep_loadS rfl rfl rfl (by first | exact ints_get (by omega) | exact zints_get (by omega) | exact fget (by omega) | assumption) ?_)
      | (refine g_ops ?_; first | refine eo_none ?_ | refine eo_nil ?_)
      | (refine g_dops ?_; first | refine ed_none ?_ | refine ed_nil ?_)
      | refine ed_same rfl ?_ | refine ed_one rfl rfl rfl rfl ?_ | refine ed_two rfl rfl rfl rfl rfl rfl rfl ?_ | refine ed_write rfl rfl ?_
      | (refine g_code ?_; first | refine ec_seq ?_ | refine ec_region ?_ | refine ec_draw ?_ | refine ec_block ?_ | refine ec_skip ?_ | refine ec_exit ?_ | refine ec_ret ?_ | refine ec_condT rfl ?_ | refine ec_condF rfl ?_ | refine ec_condTH rfl (by assumption) ?_ | refine ec_condFH rfl (by assumption) ?_)
      | refine ek_seqN ?_ | refine ek_seqX ?_ | refine ek_seqR ?_ | refine ek_blkN ?_ | refine ek_blkR ?_ | refine ek_blkX ?_ | refine ek_blkY rfl ?_)
    exact rnd_on (by rfl) (scmp2 (by rfl) (by rfl) (by exact ⟨rfl, rfl, rfl⟩) (by rfl) (by first | rfl | (simp; done) | (simp [ints, prs]; done)) (by rfl) (by first | rfl | (simp; done) | (simp [ints, prs]; done)))
  · intro i hi hp
    have hlt : decide ((i : Int) < (c.length : Nat)) = true := decide_eq_true (by omega)
    have hp' : (inR n (c.getD i 0)) = false := hp
    have e1 := ev122 (c.getD i 0) 0 ((R2 n : Nat) - 1)
    rw [show decide (0 ≤ c.getD i 0 ∧ c.getD i 0 ≤ ((R2 n : Nat) : Int) - 1) = _ from hp] at e1
    unfold m18_0
    repeat' (first
      | (refine g_op ?_; first
        | refine ep_mov rfl ?_ | refine ep_load1 rfl rfl rfl rfl ?_
        | refine ep_call0 rfl (by first | exact e1 | exact ev106 _ hn) rfl rfl ?_
        | refine sp_call rfl rfl rfl rfl (by first | exact e1 | exact ev106 _ hn) ⟨rfl, rfl, rfl, rfl⟩ rfl rfl rfl ?_
        | refine ep_callw0 rfl (by first | exact e1 | exact ev106 _ hn) rfl rfl ?_
        | refine sp_callw rfl rfl rfl rfl (by first | exact e1 | exact ev106 _ hn) ⟨rfl, rfl, rfl, rfl⟩ rfl rfl rfl (by first | exact WrP_refl _ _ | (repeat' (first | exact rfl | exact True.intro | refine And.intro ?_ ?_))) ?_
        | refine ep_bin rfl rfl (by first | exact b_add (by omega) (by omega) | exact b_sub (by omega) (by omega) | exact b_lss) ?_ | refine sp_store rfl rfl rfl rfl rfl rfl rfl rfl rfl rfl ?_ | refine ep_not rfl ?_
        | refine ep_lenS rfl ?_ | refine ep_lenN rfl ?_ | refine ep_lenE rfl ?_ | refine sp_build rfl rfl ?_ | refine sp_idx rfl rfl rfl (by omega) rfl ?_ | refine ep_loadS rfl rfl rfl (by first | exact ints_get (by omega) | exact zints_get (by omega) | exact fget (by omega) | assumption) ?_)
      | (refine g_ops ?_; first | refine eo_none ?_ | refine eo_nil ?_)
      | (refine g_dops ?_; first | refine ed_none ?_ | refine ed_nil ?_)
      | refine ed_same rfl ?_ | refine ed_one rfl rfl rfl rfl ?_ | refine ed_two rfl rfl rfl rfl rfl rfl rfl ?_ | refine ed_write rfl rfl ?_
      | (refine g_code ?_; first | refine ec_seq ?_ | refine ec_region ?_ | refine ec_draw ?_ | refine ec_block ?_ | refine ec_skip ?_ | refine ec_exit ?_ | refine ec_ret ?_ | refine ec_condT rfl ?_ | refine ec_condF rfl ?_ | refine ec_condTH rfl (by assumption) ?_ | refine ec_condFH rfl (by assumption) ?_)
      | refine ek_seqN ?_ | refine ek_seqX ?_ | refine ek_seqR ?_ | refine ek_blkN ?_ | refine ek_blkR ?_ | refine ek_blkX ?_ | refine ek_blkY rfl ?_)
    exact rnd_out (by rfl) (by simp) (scmp2 (by rfl) (by rfl) (by exact ⟨rfl, rfl, rfl⟩) (by rfl) (by first | rfl | (simp; done) | (simp [ints, prs]; done)) (by rfl) (by first | rfl | (simp; done) | (simp [ints, prs]; done)))
  · have hlt : decide (((c.length : Nat) : Int) < (c.length : Nat)) = false := decide_eq_false (by omega)
    unfold m18_0
    repeat' (first
      | (refine g_op ?_; first
        | refine ep_mov rfl ?_ | refine ep_load1 rfl rfl rfl rfl ?_
        | refine ep_call0 rfl (by first | exact e1 | exact ev106 _ hn) rfl rfl ?_
        | refine sp_call rfl rfl rfl rfl (by first | exact e1 | exact ev106 _ hn) ⟨rfl, rfl, rfl, rfl⟩ rfl rfl rfl ?_
        | refine ep_callw0 rfl (by first | exact e1 | exact ev106 _ hn) rfl rfl ?_
        | refine sp_callw rfl rfl rfl rfl (by first | exact e1 | exact ev106 _ hn) ⟨rfl, rfl, rfl, rfl⟩ rfl rfl rfl (by first | exact WrP_refl _ _ | (repeat' (first | exact rfl | exact True.intro | refine And.intro ?_ ?_))) ?_
        | refine ep_bin rfl rfl (by first | exact b_add (by omega) (by omega) | exact b_sub (by omega) (by omega) | exact b_lss) ?_ | refine sp_store rfl rfl rfl rfl rfl rfl rfl rfl rfl rfl ?_ | refine ep_not rfl ?_
        | refine ep_lenS rfl ?_ | refine ep_lenN rfl ?_ | refine ep_lenE rfl ?_ | refine sp_build rfl rfl ?_ | refine sp_idx rfl rfl rfl (by omega) rfl ?_ | refine ep_loadS rfl rfl rfl (by first | exact ints_get (by omega) | exact zints_get (by omega) | exact fget (by omega) | assumption) ?_)
      | (refine g_ops ?_; first | refine eo_none ?_ | refine eo_nil ?_)
      | (refine g_dops ?_; first | refine ed_none ?_ | refine ed_nil ?_)
      | refine ed_same rfl ?_ | refine ed_one rfl rfl rfl rfl ?_ | refine ed_two rfl rfl rfl rfl rfl rfl rfl ?_ | refine ed_write rfl rfl ?_
      | (refine g_code ?_; first | refine ec_seq ?_ | refine ec_region ?_ | refine ec_draw ?_ | refine ec_block ?_ | refine ec_skip ?_ | refine ec_exit ?_ | refine ec_ret ?_ | refine ec_condT rfl ?_ | refine ec_condF rfl ?_ | refine ec_condTH rfl (by assumption) ?_ | refine ec_condFH rfl (by assumption) ?_)
      | refine ek_seqN ?_ | refine ek_seqX ?_ | refine ek_seqR ?_ | refine ek_blkN ?_ | refine ek_blkR ?_ | refine ek_blkX ?_ | refine ek_blkY rfl ?_)
    exact rnd_out (by rfl) (by simp) (scmp2 (by rfl) (by rfl) (by exact ⟨rfl, rfl, rfl⟩) (by rfl) (by first | rfl | (simp; done) | (simp [ints, prs]; done)) (by rfl) (by first | rfl | (simp; done) | (simp [ints, prs]; done)))

theorem ev18 (z : Int) (c : List Int) (hlen : c.length ≤ 1048576) : Ev cx 18 [.int .i64 z, .sl 0 0 c.length] [⟨zints c, 1, 0, some 0, false⟩] (rr (forR z c)) [⟨zints c, 1, 0, some 0, false⟩] := by
  have e1 := ev122 z 0 4
  by_cases h1 : 0 ≤ z ∧ z ≤ 4
  · rw [decide_eq_true h1] at e1
    obtain ⟨n, rfl⟩ := Int.eq_ofNat_of_zero_le h1.1
    have hn : n ≤ 4 := by omega
    by_cases h2 : c.length ≤ 16
    · have g2 : decide (((c.length : Nat) : Int) > 16) = false := decide_eq_false (by omega)
      cases h3 : rowsOK n c
      · have lp := lp18_0 n c hn hlen _ (if_neg (by rw [show allF (fun j => inR n (c.getD j 0)) 0 c.length = _ from h3]; simp))
        refine has18.eev rfl rfl ?_
        unfold m18
        repeat' (first
          | refine sc_loop lp rfl rfl ⟨rfl, rfl, rfl⟩ rfl rfl rfl ?_
          | (refine g_op ?_; first
            | refine ep_mov rfl ?_
            | refine ep_call0 rfl (by first | exact e1) rfl rfl ?_
            | refine sp_call rfl rfl rfl rfl (by first | exact e1) ⟨rfl, rfl, rfl, rfl⟩ rfl rfl rfl ?_
            | refine ep_bin rfl rfl (by exact b_gtr) ?_ | refine ep_pickT rfl rfl ?_ | refine ep_pickF rfl rfl ?_ | refine ep_pickTH rfl (by assumption) rfl ?_ | refine ep_pickFH rfl (by assumption) rfl ?_
            | refine sp_store rfl rfl rfl rfl rfl rfl rfl rfl rfl rfl ?_ | refine ep_not rfl ?_ | refine ep_lenS rfl ?_ | refine ep_lenN rfl ?_ | refine ep_lenE rfl ?_ | refine sp_alloc rfl rfl ?_ | refine sp_build rfl rfl ?_)
          | (refine g_ops ?_; first | refine eo_none ?_ | refine eo_nil ?_ | refine eo_yes rfl ?_ | refine eo_no rfl ?_ | refine eo_und rfl ?_ | refine eo_yesH rfl (by assumption) ?_ | refine eo_noH rfl (by assumption) ?_)
          | (refine g_code ?_; first | refine ec_seq ?_ | refine ec_region ?_ | refine ec_block ?_ | refine ec_skip ?_ | refine ec_ret ?_ | refine ec_condT rfl ?_ | refine ec_condF rfl ?_ | refine ec_condTH rfl (by assumption) ?_ | refine ec_condFH rfl (by assumption) ?_)
          | refine ek_seqN ?_ | refine ek_seqX ?_ | refine ek_seqR ?_ | refine ek_blkN ?_ | refine ek_blkR ?_ | refine ek_blkX ?_ | refine ek_blkY rfl ?_)
        refine sfin (.inr rfl) (by rfl) (by rfl) (by exact ⟨rfl, rfl, rfl⟩) (by rfl) (by rfl) (by rw [forR, if_neg (fun h => by rw [Int.toNat_natCast, h3] at h; simp at h)]) (by first | rfl | (simp; done) | (simp [ints, prs]; done))
      · have lp := lp18_0 n c hn hlen _ (if_pos h3)
        obtain ⟨k1, k2⟩ := rowsOK_nat h3
        obtain ⟨q1, q2, q3, q4⟩ := shN hn
        have e3 := ev123 n (c.map Int.toNat) hn (by simpa using hlen) (fun j hj => by have := k2 j hj; omega)
        rw [← k1, List.length_map] at e3
        refine has18.eev rfl rfl ?_
        unfold m18
        repeat' (first
          | refine sc_loop lp rfl rfl ⟨rfl, rfl, rfl⟩ rfl rfl rfl ?_
          | (refine g_op ?_; first
            | refine ep_mov rfl ?_
            | refine ep_call0 rfl (by first | exact e1 | exact e3) rfl rfl ?_
            | refine sp_call rfl rfl rfl rfl (by first | exact e1 | exact e3) ⟨rfl, rfl, rfl, rfl⟩ rfl rfl rfl ?_
            | refine ep_bin rfl rfl (by exact b_gtr) ?_ | refine ep_pickT rfl rfl ?_ | refine ep_pickF rfl rfl ?_ | refine ep_pickTH rfl (by assumption) rfl ?_ | refine ep_pickFH rfl (by assumption) rfl ?_
            | refine sp_store rfl rfl rfl rfl rfl rfl rfl rfl rfl rfl ?_ | refine ep_not rfl ?_ | refine ep_lenS rfl ?_ | refine ep_lenN rfl ?_ | refine ep_lenE rfl ?_ | refine sp_alloc rfl rfl ?_ | refine sp_build rfl rfl ?_)
          | (refine g_ops ?_; first | refine eo_none ?_ | refine eo_nil ?_ | refine eo_yes rfl ?_ | refine eo_no rfl ?_ | refine eo_und rfl ?_ | refine eo_yesH rfl (by assumption) ?_ | refine eo_noH rfl (by assumption) ?_)
          | (refine g_code ?_; first | refine ec_seq ?_ | refine ec_region ?_ | refine ec_block ?_ | refine ec_skip ?_ | refine ec_ret ?_ | refine ec_condT rfl ?_ | refine ec_condF rfl ?_ | refine ec_condTH rfl (by assumption) ?_ | refine ec_condFH rfl (by assumption) ?_)
          | refine ek_seqN ?_ | refine ek_seqX ?_ | refine ek_seqR ?_ | refine ek_blkN ?_ | refine ek_blkR ?_ | refine ek_blkX ?_ | refine ek_blkY rfl ?_)
        refine sfin (.inr rfl) (by rfl) (by rfl) (by exact ⟨rfl, rfl, rfl⟩) (by rfl) (by rfl) (by rw [forR, if_pos ⟨h1, h2, by rw [Int.toNat_natCast]; exact h3⟩]; try rfl) (by first | rfl | (simp; done) | (simp [ints, prs]; done))
    · have g2 : decide (((c.length : Nat) : Int) > 16) = true := decide_eq_true (by omega)
      refine has18.eev rfl rfl ?_
      unfold m18
      repeat' (first
        | (refine g_op ?_; first
          | refine ep_mov rfl ?_
          | refine ep_call0 rfl (by first | exact e1) rfl rfl ?_
          | refine sp_call rfl rfl rfl rfl (by first | exact e1) ⟨rfl, rfl, rfl, rfl⟩ rfl rfl rfl ?_
          | refine ep_bin rfl rfl (by exact b_gtr) ?_ | refine ep_pickT rfl rfl ?_ | refine ep_pickF rfl rfl ?_ | refine ep_pickTH rfl (by assumption) rfl ?_ | refine ep_pickFH rfl (by assumption) rfl ?_
          | refine sp_store rfl rfl rfl rfl rfl rfl rfl rfl rfl rfl ?_ | refine ep_not rfl ?_ | refine ep_lenS rfl ?_ | refine ep_lenN rfl ?_ | refine ep_lenE rfl ?_ | refine sp_alloc rfl rfl ?_ | refine sp_build rfl rfl ?_)
        | (refine g_ops ?_; first | refine eo_none ?_ | refine eo_nil ?_ | refine eo_yes rfl ?_ | refine eo_no rfl ?_ | refine eo_und rfl ?_ | refine eo_yesH rfl (by assumption) ?_ | refine eo_noH rfl (by assumption) ?_)
        | (refine g_code ?_; first | refine ec_seq ?_ | refine ec_region ?_ | refine ec_block ?_ | refine ec_skip ?_ | refine ec_ret ?_ | refine ec_condT rfl ?_ | refine ec_condF rfl ?_ | refine ec_condTH rfl (by assumption) ?_ | refine ec_condFH rfl (by assumption) ?_)
        | refine ek_seqN ?_ | refine ek_seqX ?_ | refine ek_seqR ?_ | refine ek_blkN ?_ | refine ek_blkR ?_ | refine ek_blkX ?_ | refine ek_blkY rfl ?_)
      refine sfin (.inr rfl) (by rfl) (by rfl) (by exact ⟨rfl, rfl, rfl⟩) (by rfl) (by rfl) (by rw [forR, if_neg (fun h => h2 h.2.1)]) (by first | rfl | (simp; done) | (simp [ints, prs]; done))
  · rw [decide_eq_false h1] at e1
    refine has18.eev rfl rfl ?_
    unfold m18
    repeat' (first
      | (refine g_op ?_; first
        | refine ep_mov rfl ?_
        | refine ep_call0 rfl (by first | exact e1) rfl rfl ?_
        | refine sp_call rfl rfl rfl rfl (by first | exact e1) ⟨rfl, rfl, rfl, rfl⟩ rfl rfl rfl ?_
        | refine ep_bin rfl rfl (by exact b_gtr) ?_ | refine ep_pickT rfl rfl ?_ | refine ep_pickF rfl rfl ?_ | refine ep_pickTH rfl (by assumption) rfl ?_ | refine ep_pickFH rfl (by assumption) rfl ?_
        | refine sp_store rfl rfl rfl rfl rfl rfl rfl rfl rfl rfl ?_ | refine ep_not rfl ?_ | refine ep_lenS rfl ?_ | refine ep_lenN rfl ?_ | refine ep_lenE rfl ?_ | refine sp_alloc rfl rfl ?_ | refine sp_build rfl rfl ?_)
      | (refine g_ops ?_; first | refine eo_none ?_ | refine eo_nil ?_ | refine eo_yes rfl ?_ | refine eo_no rfl ?_ | refine eo_und rfl ?_ | refine eo_yesH rfl (by assumption) ?_ | refine eo_noH rfl (by assumption) ?_)
      | (refine g_code ?_; first | refine ec_seq ?_ | refine ec_region ?_ | refine ec_block ?_ | refine ec_skip ?_ | refine ec_ret ?_ | refine ec_condT rfl ?_ | refine ec_condF rfl ?_ | refine ec_condTH rfl (by assumption) ?_ | refine ec_condFH rfl (by assumption) ?_)
      | refine ek_seqN ?_ | refine ek_seqX ?_ | refine ek_seqR ?_ | refine ek_blkN ?_ | refine ek_blkR ?_ | refine ek_blkX ?_ | refine ek_blkY rfl ?_)
    refine sfin (.inr rfl) (by rfl) (by rfl) (by exact ⟨rfl, rfl, rfl⟩) (by rfl) (by rfl) (by rw [forR, if_neg (fun h => h1 h.1)]) (by first | rfl | (simp; done) | (simp [ints, prs]; done))
-- spec.l01Bits
def m156_0 : MC := (.seq (.seq (.region [⟨(.mov (.t 3)), (some 4), none⟩, ⟨(.mov (.t 0)), (some 5), none⟩, ⟨(.len (.t 5)), (some 6), none⟩, ⟨(.bin .lss (.t 4) (.t 6)), (some 7), none⟩] false) (.cond (.t 7) .skip (.exit 0))) (.seq (.block 1 (.seq (.region [⟨(.mov (.t 0)), (some 10), none⟩, ⟨(.mov (.t 3)), (some 11), none⟩, ⟨(.indexAddr 1 (.t 10) (.t 11)), (some 12), none⟩, ⟨(.load none (.t 12)), (some 13), none⟩, ⟨(.call 122 [(.t 13), (.k (.int .i64 0)), (.k (.int .i64 1))]), (some 14), none⟩, ⟨(.un .not (.t 14)), (some 15), none⟩] false) (.cond (.t 15) (.seq (.region [⟨(.mov (.k (.bool false))), (some 2), none⟩] false) .ret) .skip))) (.region [⟨(.mov (.t 3)), (some 8), none⟩, ⟨(.bin .add (.t 8) (.k (.int .i64 1))), (some 9), none⟩, ⟨(.mov (.t 9)), (some 3), none⟩] false)))
def m156 : MC := (.seq (.region [⟨(.mov (.k (.bool false))), (some 2), none⟩] false) (.seq (.seq (.region [⟨(.mov (.k (.int .i64 0))), (some 3), none⟩] false) (.block 0 (.loop m156_0))) (.seq (.region [⟨(.mov (.k (.bool true))), (some 2), none⟩] false) .ret)))
theorem has156 : Has cx 156 16 m156 [(.tmp 2)] :=
  ⟨⟨Try.f156, Try.f156.body.getD .skip, by kernel_rfl, by kernel_rfl, by kernel_rfl, by kernel_rfl, by kernel_rfl, by kernel_rfl⟩⟩
theorem go_flat : ∀ q : Nat, ints (List.replicate q 0) = (List.replicate q [V.int .i64 0]).flatten
  | 0 => rfl
  | q + 1 => by
    have := go_flat q
    simp only [ints, List.replicate_succ, List.map_cons, List.flatten_cons, List.singleton_append] at this ⊢
    rw [this]; rfl
-- slices.Clone[[]int64,int64]
def m185 : MC := (.seq (.region [⟨(.mov (.k .nils)), (some 2), none⟩] false) (.seq (.seq (.region [⟨(.mov (.t 0)), (some 3), none⟩, ⟨(.isnil false (.t 3)), (some 4), none⟩] false) (.cond (.t 4) (.seq (.region [⟨(.mov (.k .nils)), (some 2), none⟩] false) .ret) .skip)) (.seq (.region [⟨.empt, (some 5), none⟩, ⟨(.mov (.t 0)), (some 6), none⟩, ⟨(.append 1 8 (.t 5) (.t 6)), (some 7), none⟩, ⟨(.mov (.t 7)), (some 2), none⟩] false) .ret)))
theorem has185 : Has cx 185 8 m185 [(.tmp 2)] :=
  ⟨⟨Try.f185, Try.f185.body.getD .skip, by kernel_rfl, by kernel_rfl, by kernel_rfl, by kernel_rfl, by kernel_rfl, by kernel_rfl⟩⟩
theorem ev185 (l : List Nat) (n : Nat) (hn : l.length = n) (h1 : 1 ≤ n) (h2 : n ≤ 65536) : Ev cx 185 [.sl 0 0 n] [⟨ints l, 1, 0, some 0, false⟩] (.sl 1 0 n) [⟨ints l, 1, 0, some 0, false⟩, ⟨ints l, 1, 1, some 0, false⟩] := by
  have hr : rowOf [⟨ints l, 1, 0, some 0, false⟩] 1 (.sl 0 0 n) = some (ints l, n) := by
    simp only [rowOf, List.getElem?_cons_zero, List.drop_zero, Nat.mul_one]; rw [List.take_of_length_le (by rw [ints_len]; omega)]
  refine has185.eev rfl rfl ?_
  unfold m185
  repeat' (first
    | refine sp_app0 (l := ints l) rfl (.inr rfl) rfl hr ⟨by rw [ints_len]; omega, by omega, by omega⟩ (.inr ⟨0, 0, _, rfl, rfl, rfl⟩) rfl rfl ?_
    | (refine g_op ?_; first
      | refine ep_mov rfl ?_
      | refine sp_push0 rfl (by first | exact .inl rfl | exact .inr rfl) rfl rfl rfl rfl rfl (by decide) rfl rfl rfl ?_ | refine sp_push rfl rfl rfl rfl rfl rfl rfl (by first | exact ints_len _ | exact prs_len _ _ | exact zints_len _) (by omega) (Nat.zero_le _) rfl rfl rfl rfl rfl ?_
      | refine ep_empt ?_ | refine ep_isnilN rfl ?_ | refine ep_isnilS rfl ?_ | refine ep_isnilE rfl ?_)
    | (refine g_ops ?_; first | refine eo_none ?_ | refine eo_nil ?_)
    | (refine g_code ?_; first | refine ec_seq ?_ | refine ec_region ?_ | refine ec_skip ?_ | refine ec_ret ?_ | refine ec_condT rfl ?_ | refine ec_condF rfl ?_ | refine ec_condTH rfl (by assumption) ?_ | refine ec_condFH rfl (by assumption) ?_)
    | refine ek_seqN ?_ | refine ek_seqR ?_)
  refine sfin (.inr rfl) (by rfl) (by rfl) (by exact ⟨rfl, rfl, rfl⟩) (by rfl) (by rfl) (by rfl) (by first | rfl | (simp; done) | (simp [ints, prs]; done))
abbrev dualG (n b : Nat) : Nat → Nat := fun r => 1 - bt b (R2 n - 1 - r)
-- (impl.Func).dual$1
def m190 : MC := (.seq (.region [⟨(.mov (.k (.int .i64 0))), (some 3), none⟩] false) (.seq (.region [⟨(.load (some 2) (.t 1)), (some 4), none⟩, ⟨(.load (some 2) (.t 1)), (some 5), none⟩, ⟨(.call 182 [(.t 5)]), (some 6), none⟩, ⟨(.bin .sub (.t 6) (.k (.int .i64 1))), (some 7), none⟩, ⟨(.mov (.t 0)), (some 8), none⟩, ⟨(.bin .sub (.t 7) (.t 8)), (some 9), none⟩, ⟨(.callw 118 [(.t 4), (.t 9)]), (some 10), none⟩, ⟨(.bin .sub (.k (.int .i64 1)) (.t 10)), (some 11), none⟩, ⟨(.mov (.t 11)), (some 3), none⟩] true) .ret))
theorem has190 : Has cx 190 12 m190 [(.tmp 3)] :=
  ⟨⟨Try.f190, Try.f190.body.getD .skip, by kernel_rfl, by kernel_rfl, by kernel_rfl, by kernel_rfl, by kernel_rfl, by kernel_rfl⟩⟩
theorem ev190 (n b r : Nat) (hn : n ≤ 4) (hb : b < 65536) (hr : r < R2 n) : Ev cx 190 [.int .i64 r, .ptr 0 0] [⟨[.int .i64 n, .int .i64 b], 1, 0, some 0, true⟩] (.int .i64 (dualG n b r : Nat)) [⟨[.int .i64 n, .int .i64 b], 1, 0, some 0, true⟩] := by
  obtain ⟨h1, h2, h3, h4⟩ := shN hn
  have s1 := b_sub1 (a := R2 n) (by omega) (by omega)
  have s2 := b_subN (a := R2 n - 1) (b := r) (by omega) (by omega)
  have hle := bt_le b (R2 n - 1 - r)
  have s3 : binV .sub (.int .i64 1) (.int .i64 (bt b (R2 n - 1 - r) : Nat)) = some (.int .i64 (1 - bt b (R2 n - 1 - r) : Nat)) := b_subN (a := 1) hle (by omega)
  refine has190.eev rfl rfl ?_
  unfold m190
  repeat' (first
    | (refine g_op ?_; first
      | refine ep_mov rfl ?_ | refine sp_loadN rfl rfl rfl rfl rfl ?_
      | refine ep_call0 rfl (by first | exact ev182 _ _ hn | exact ev118 n b (R2 n - 1 - r) (by omega) (by omega)) rfl rfl ?_
      | refine sp_call rfl rfl rfl rfl (by first | exact ev182 _ _ hn | exact ev118 n b (R2 n - 1 - r) (by omega) (by omega)) ⟨rfl, rfl, rfl, rfl⟩ rfl rfl rfl ?_
      | refine ep_callw0 rfl (by first | exact ev182 _ _ hn | exact ev118 n b (R2 n - 1 - r) (by omega) (by omega)) rfl rfl ?_
      | refine sp_callw rfl rfl rfl rfl (by first | exact ev182 _ _ hn | exact ev118 n b (R2 n - 1 - r) (by omega) (by omega)) ⟨rfl, rfl, rfl, rfl⟩ rfl rfl rfl (by first | exact WrP_refl _ _ | (repeat' (first | exact rfl | exact True.intro | refine And.intro ?_ ?_))) ?_
      | refine ep_bin rfl rfl (by first | exact s1 | exact s2 | exact s3 | exact b_sub (by omega) (by omega)) ?_)
    | (refine g_ops ?_; first | refine eo_none ?_ | refine eo_nil ?_)
    | (refine g_dops ?_; first | refine ed_none ?_ | refine ed_nil ?_)
    | refine ed_same rfl ?_ | refine ed_one rfl rfl rfl rfl ?_ | refine ed_two rfl rfl rfl rfl rfl rfl rfl ?_ | refine ed_write rfl rfl ?_
    | (refine g_code ?_; first | refine ec_seq ?_ | refine ec_region ?_ | refine ec_draw ?_ | refine ec_ret ?_)
    | refine ek_seqN ?_ | refine ek_seqR ?_)
  refine sfin (.inr rfl) (by rfl) (by rfl) (by exact ⟨rfl, rfl, rfl⟩) (by rfl) (by rfl) (by rfl) (by first | rfl | (simp; done) | (simp [ints, prs]; done))
-- (impl.Func).dual
def m116 : MC := (.seq (.region [⟨(.box (.t 0)), (some 1), none⟩, ⟨(.alloc [(.int .i64 0), (.int .i64 0)]), (some 2), none⟩] false) (.seq (.region [⟨(.fieldAddr 0 (.t 1)), (some 3), none⟩, ⟨(.load none (.t 3)), (some 4), none⟩, ⟨(.mkfn 190 [(.t 1)]), (some 5), none⟩, ⟨(.call 112 [(.t 4), (.t 5)]), (some 6), none⟩, ⟨(.store 2 (.t 2) (.t 6)), none, none⟩] false) .ret))
theorem has116 : Has cx 116 7 m116 [(.cell 2 (some 2))] :=
  ⟨⟨Try.f116, Try.f116.body.getD .skip, by kernel_rfl, by kernel_rfl, by kernel_rfl, by kernel_rfl, by kernel_rfl, by kernel_rfl⟩⟩
theorem lpfb_dual (n b : Nat) (hn : n ≤ 4) (hb : b < 65536) :
    LpS cx 25 1 m112_0 [(1, .fn 190 [.ptr 0 0]), (4, .ptr 1 0), (5, .ptr 2 0), (10, .int .i64 (R2 (n) : Nat)), (11, .int .i64 (0 : Nat))] [⟨[.int .i64 n, .int .i64 b], 1, 0, some 0, true⟩, ⟨[.int .i64 0, .int .i64 0], 1, 1, some 0, true⟩, ⟨[.int .i64 (n : Nat), .int .i64 (pk (dualG n b) (0) : Nat)], 1, 2, some 0, true⟩] (⟨.exit 0, [(4, .ptr 1 0), (5, .ptr 2 0)], [⟨[.int .i64 n, .int .i64 b], 1, 0, some 0, true⟩, ⟨[.int .i64 0, .int .i64 0], 1, 1, some 0, true⟩, ⟨[.int .i64 (n : Nat), .int .i64 (pk (dualG n b) (R2 (n)) : Nat)], 1, 2, some 0, true⟩]⟩ : Out).x (⟨.exit 0, [(4, .ptr 1 0), (5, .ptr 2 0)], [⟨[.int .i64 n, .int .i64 b], 1, 0, some 0, true⟩, ⟨[.int .i64 0, .int .i64 0], 1, 1, some 0, true⟩, ⟨[.int .i64 (n : Nat), .int .i64 (pk (dualG n b) (R2 (n)) : Nat)], 1, 2, some 0, true⟩]⟩ : Out).e (⟨.exit 0, [(4, .ptr 1 0), (5, .ptr 2 0)], [⟨[.int .i64 n, .int .i64 b], 1, 0, some 0, true⟩, ⟨[.int .i64 0, .int .i64 0], 1, 1, some 0, true⟩, ⟨[.int .i64 (n : Nat), .int .i64 (pk (dualG n b) (R2 (n)) : Nat)], 1, 2, some 0, true⟩]⟩ : Out).h := by
  obtain ⟨h1, h2, h3, h4⟩ := shN hn
  have hgl : ∀ r, r < R2 (n) → (dualG n b) r ≤ 1 := fun r _ => by simp only [dualG]; omega
  refine lp_st (R2 (n)) (fun _ => ()) (fun i _ => [(1, .fn 190 [.ptr 0 0]), (4, .ptr 1 0), (5, .ptr 2 0), (10, .int .i64 (R2 (n) : Nat)), (11, .int .i64 (i : Nat))]) (fun i _ => [⟨[.int .i64 n, .int .i64 b], 1, 0, some 0, true⟩, ⟨[.int .i64 0, .int .i64 0], 1, 1, some 0, true⟩, ⟨[.int .i64 (n : Nat), .int .i64 (pk (dualG n b) (i) : Nat)], 1, 2, some 0, true⟩]) (fun _ => (⟨.exit 0, [(4, .ptr 1 0), (5, .ptr 2 0)], [⟨[.int .i64 n, .int .i64 b], 1, 0, some 0, true⟩, ⟨[.int .i64 0, .int .i64 0], 1, 1, some 0, true⟩, ⟨[.int .i64 (n : Nat), .int .i64 (pk (dualG n b) (R2 (n)) : Nat)], 1, 2, some 0, true⟩]⟩ : Out)) ?_ ?_ (R2 (n)) 0 (by omega)
  · intro i u_ hi hu_
    refine ⟨(), rfl, ?_⟩
    have hlt : decide ((i : Int) < (R2 (n) : Nat)) = true := decide_eq_true (by omega)
    have hg := hgl i hi
    have hp0 := pk_lt (g := dualG n b) (n := i) fun r hr => hgl r (by omega)
    have hp1 := R2_mono (i := i) (n := R2 (n)) (by omega)
    have hs := sl_lt hg hi
    have hp2 := or_lt (n := R2 (n)) (show pk (dualG n b) i < R2 (R2 (n)) by omega) hs
    unfold m112_0
    repeat' (first
      | (refine g_op ?_; first
        | refine ep_mov rfl ?_ | refine ep_load1 rfl rfl rfl rfl ?_ | refine ep_fieldAddr rfl ?_
        | refine sp_callv rfl rfl rfl rfl rfl rfl (by first | exact ev190 n b i hn hb (by omega)) ⟨rfl, rfl, rfl, rfl⟩ rfl rfl rfl ?_
        | refine sp_callb rfl rfl rfl rfl rfl rfl (by first | exact ev190 n b i hn hb (by omega)) ⟨rfl, rfl, rfl, rfl⟩ rfl rfl rfl ?_
        | refine ep_bin rfl rfl (by first | exact b_add (by omega) (by omega) | exact b_or (by omega) (by omega) | exact b_shl (by omega) (by omega) | exact b_lss) ?_ | refine sp_store rfl rfl rfl rfl rfl rfl rfl rfl rfl rfl ?_)
      | (refine g_ops ?_; first | refine eo_none ?_ | refine eo_nil ?_)
      | (refine g_dops ?_; first | refine ed_none ?_ | refine ed_nil ?_)
      | refine ed_same rfl ?_ | refine ed_one rfl rfl rfl rfl ?_ | refine ed_two rfl rfl rfl rfl rfl rfl rfl ?_ | refine ed_write rfl rfl ?_
      | (refine g_code ?_; first | refine ec_seq ?_ | refine ec_region ?_ | refine ec_draw ?_ | refine ec_block ?_ | refine ec_skip ?_ | refine ec_exit ?_ | refine ec_condT rfl ?_ | refine ec_condF rfl ?_ | refine ec_condTH rfl (by assumption) ?_ | refine ec_condFH rfl (by assumption) ?_)
      | refine ek_seqN ?_ | refine ek_seqX ?_ | refine ek_blkN ?_ | refine ek_blkR ?_ | refine ek_blkX ?_ | refine ek_blkY rfl ?_)
    exact rnd_on (by rfl) (scmp2 (by rfl) (by rfl) (by exact ⟨rfl, rfl, rfl⟩) (by rfl) (by first | rfl | (simp; done) | (simp [ints, prs]; done)) (by rfl) (by first | rfl | (simp; done) | (simp [ints, prs]; done)))
  · intro u_ hu_
    have hlt : decide (((R2 (n) : Nat) : Int) < (R2 (n) : Nat)) = false := decide_eq_false (by omega)
    unfold m112_0
    repeat' (first
      | (refine g_op ?_; first
        | refine ep_mov rfl ?_ | refine ep_load1 rfl rfl rfl rfl ?_ | refine ep_fieldAddr rfl ?_
        | refine sp_callv rfl rfl rfl rfl rfl rfl (by first | exact ev190 n b i hn hb (by omega)) ⟨rfl, rfl, rfl, rfl⟩ rfl rfl rfl ?_
        | refine sp_callb rfl rfl rfl rfl rfl rfl (by first | exact ev190 n b i hn hb (by omega)) ⟨rfl, rfl, rfl, rfl⟩ rfl rfl rfl ?_
        | refine ep_bin rfl rfl (by first | exact b_add (by omega) (by omega) | exact b_or (by omega) (by omega) | exact b_shl (by omega) (by omega) | exact b_lss) ?_ | refine sp_store rfl rfl rfl rfl rfl rfl rfl rfl rfl rfl ?_)
      | (refine g_ops ?_; first | refine eo_none ?_ | refine eo_nil ?_)
      | (refine g_dops ?_; first | refine ed_none ?_ | refine ed_nil ?_)
      | refine ed_same rfl ?_ | refine ed_one rfl rfl rfl rfl ?_ | refine ed_two rfl rfl rfl rfl rfl rfl rfl ?_ | refine ed_write rfl rfl ?_
      | (refine g_code ?_; first | refine ec_seq ?_ | refine ec_region ?_ | refine ec_draw ?_ | refine ec_block ?_ | refine ec_skip ?_ | refine ec_exit ?_ | refine ec_condT rfl ?_ | refine ec_condF rfl ?_ | refine ec_condTH rfl (by assumption) ?_ | refine ec_condFH rfl (by assumption) ?_)
      | refine ek_seqN ?_ | refine ek_seqX ?_ | refine ek_blkN ?_ | refine ek_blkR ?_ | refine ek_blkX ?_ | refine ek_blkY rfl ?_)
    exact rnd_out (by rfl) (by simp) (scmp2 (by rfl) (by rfl) (by exact ⟨rfl, rfl, rfl⟩) (by rfl) (by first | rfl | (simp; done) | (simp [ints, prs]; done)) (by rfl) (by first | rfl | (simp; done) | (simp [ints, prs]; done)))
theorem evfb_dual (n b : Nat) (hn : n ≤ 4) (hb : b < 65536) : Ev cx 112 [.int .i64 (n : Nat), .fn 190 [.ptr 0 0]] [⟨[.int .i64 n, .int .i64 b], 1, 0, some 0, true⟩] (.agg [.int .i64 (n : Nat), .int .i64 (pk (dualG n b) (R2 (n)) : Nat)]) [⟨[.int .i64 n, .int .i64 b], 1, 0, some 0, true⟩] := by
  obtain ⟨h1, h2, h3, h4⟩ := shN hn
  have lp := lpfb_dual n b hn hb
  refine has112.eev rfl rfl ?_
  unfold m112
  repeat' (first
    | refine sc_loop lp rfl rfl ⟨rfl, rfl, rfl⟩ rfl rfl rfl ?_
    | (refine g_op ?_; first
      | refine ep_mov rfl ?_ | refine sp_loadN rfl rfl rfl rfl rfl ?_
      | refine ep_call0 rfl (by first | exact ev111 _ hn) rfl rfl ?_
      | refine sp_call rfl rfl rfl rfl (by first | exact ev111 _ hn) ⟨rfl, rfl, rfl, rfl⟩ rfl rfl rfl ?_
      | refine sp_store rfl rfl rfl rfl rfl rfl rfl rfl rfl rfl ?_ | refine sp_alloc rfl rfl ?_ | refine sp_build rfl rfl ?_)
    | (refine g_ops ?_; first | refine eo_none ?_ | refine eo_nil ?_)
    | (refine g_code ?_; first | refine ec_seq ?_ | refine ec_region ?_ | refine ec_block ?_ | refine ec_ret ?_)
    | refine ek_seqN ?_ | refine ek_seqX ?_ | refine ek_seqR ?_ | refine ek_blkN ?_ | refine ek_blkR ?_ | refine ek_blkX ?_ | refine ek_blkY rfl ?_)
  refine sfin (.inr rfl) (by rfl) (by rfl) (by exact ⟨rfl, rfl, rfl⟩) (by rfl) (by rfl) (by rfl) (by first | rfl | (simp; done) | (simp [ints, prs]; done))

theorem ev116 (n b : Nat) (hn : n ≤ 4) (hb : b < 65536) : Ev cx 116 [.agg [.int .i64 n, .int .i64 b]] [] (.agg [.int .i64 n, .int .i64 (pk (dualG n b) (R2 n) : Nat)]) [] := by
  have e1 := evfb_dual n b hn hb
  refine has116.eev rfl rfl ?_
  unfold m116
  repeat' (first
    | (refine g_op ?_; first
      | refine ep_load1 rfl rfl rfl rfl ?_ | refine ep_fieldAddr rfl ?_
      | refine ep_call0 rfl (by first | exact e1) rfl rfl ?_
      | refine sp_call rfl rfl rfl rfl (by first | exact e1) ⟨rfl, rfl, rfl, rfl⟩ rfl rfl rfl ?_
      | refine sp_store rfl rfl rfl rfl rfl rfl rfl rfl rfl rfl ?_ | refine sp_box rfl rfl rfl rfl rfl ?_ | refine sp_alloc rfl rfl ?_ | refine ep_mkfn rfl ?_)
    | (refine g_ops ?_; first | refine eo_none ?_ | refine eo_nil ?_)
    | (refine g_code ?_; first | refine ec_seq ?_ | refine ec_region ?_ | refine ec_ret ?_)
    | refine ek_seqN ?_ | refine ek_seqR ?_)
  refine sfin (.inr rfl) (by rfl) (by rfl) (by exact ⟨rfl, rfl, rfl⟩) (by rfl) (by rfl) (by rfl) (by first | rfl | (simp; done) | (simp [ints, prs]; done))
def kpt (q : Nat → Bool) (l : List Nat) (j : Nat) : List Nat := (l.take j).filter fun x => !q x
def dls (q : Nat → Bool) (l : List Nat) (j : Nat) : List Nat := kpt q l j ++ l.drop (kpt q l j).length
theorem kpt_len (q : Nat → Bool) (l : List Nat) (j : Nat) : (kpt q l j).length ≤ j := by
  have := List.length_filter_le (fun x => !q x) (l.take j)
  unfold kpt; rw [List.length_take] at this; omega
theorem kpt_t {q : Nat → Bool} {l : List Nat} {j : Nat} (hj : j < l.length) (h : q (l.getD j 0) = false) : kpt q l (j + 1) = kpt q l j ++ [l.getD j 0] := by
  unfold kpt
  rw [List.take_add_one, List.getElem?_eq_getElem hj, List.filter_append]
  rw [List.getD_eq_getElem?_getD, List.getElem?_eq_getElem hj] at *
  simp only [Option.getD_some] at *
  simp [h]
theorem kpt_f {q : Nat → Bool} {l : List Nat} {j : Nat} (hj : j < l.length) (h : q (l.getD j 0) = true) : kpt q l (j + 1) = kpt q l j := by
  unfold kpt
  rw [List.take_add_one, List.getElem?_eq_getElem hj, List.filter_append]
  rw [List.getD_eq_getElem?_getD, List.getElem?_eq_getElem hj] at h
  simp only [Option.getD_some] at h
  simp [h]
theorem dls_len {q : Nat → Bool} {l : List Nat} {j : Nat} (hj : j ≤ l.length) : (dls q l j).length = l.length := by
  have := kpt_len q l j
  unfold dls; rw [List.length_append, List.length_drop]; omega
theorem dls_get {q : Nat → Bool} {l : List Nat} {j : Nat} (hj : j < l.length) : (ints (dls q l j))[0 + j * 1]? = some (.int .i64 (l.getD j 0 : Nat)) := by
  have := kpt_len q l j
  rw [show 0 + j * 1 = j by omega]
  unfold ints dls
  rw [List.getElem?_map, List.getElem?_append_right this, List.getElem?_drop, show (kpt q l j).length + (j - (kpt q l j).length) = j by omega, List.getElem?_eq_getElem hj, List.getD_eq_getElem?_getD, List.getElem?_eq_getElem hj]
  rfl
theorem dls_set {q : Nat → Bool} {l : List Nat} {j : Nat} (hj : j < l.length) (h : q (l.getD j 0) = false) : (ints (dls q l j)).take (0 + (kpt q l j).length * 1) ++ [V.int .i64 (l.getD j 0 : Nat)] ++ (ints (dls q l j)).drop (0 + (kpt q l j).length * 1 + 1) = ints (dls q l (j + 1)) := by
  have := kpt_len q l j
  unfold dls
  rw [kpt_t hj h, show 0 + (kpt q l j).length * 1 = (kpt q l j).length by omega]
  unfold ints
  rw [List.map_append, List.take_append_of_le_length (by simp), List.take_of_length_le (by simp), List.drop_append, List.drop_eq_nil_of_le (by simp), List.length_map, show (kpt q l j).length + 1 - (kpt q l j).length = 1 by omega]
  simp [List.drop_drop]
theorem dls_f {q : Nat → Bool} {l : List Nat} {j : Nat} (hj : j < l.length) (h : q (l.getD j 0) = true) : dls q l (j + 1) = dls q l j := by
  unfold dls; rw [kpt_f hj h]
theorem dls_clear {q : Nat → Bool} {l : List Nat} {j : Nat} (hj : j = l.length) : (ints (dls q l j)).take (0 + (kpt q l j).length * 1) ++ (List.replicate (l.length - (kpt q l j).length) [V.int .i64 0]).flatten ++ (ints (dls q l j)).drop (0 + (kpt q l j).length * 1 + (l.length - (kpt q l j).length) * 1) = ints (kpt q l j ++ List.replicate (l.length - (kpt q l j).length) 0) := by
  have h1 := kpt_len q l j
  have h2 := dls_len (q := q) (l := l) (j := j) (by omega)
  rw [← go_flat, show 0 + (kpt q l j).length * 1 = (kpt q l j).length by omega, List.drop_eq_nil_of_le (by rw [ints_len, h2]; omega), List.append_nil]
  unfold dls ints
  rw [List.map_append, List.take_append_of_le_length (by simp), List.take_of_length_le (by simp), List.map_append]
-- slices.DeleteFunc[[]int64,int64]
def m184_0 : MC := (.seq (.seq (.region [⟨(.mov (.t 6)), (some 16), none⟩, ⟨(.mov (.t 0)), (some 17), none⟩, ⟨(.len (.t 17)), (some 18), none⟩, ⟨(.bin .lss (.t 16) (.t 18)), (some 19), none⟩] false) (.cond (.t 19) .skip (.exit 0))) (.seq (.block 1 (.seq (.region [⟨(.mov (.t 0)), (some 22), none⟩, ⟨(.mov (.t 6)), (some 23), none⟩, ⟨(.indexAddr 1 (.t 22) (.t 23)), (some 24), none⟩, ⟨(.load none (.t 24)), (some 25), none⟩, ⟨(.mov (.t 25)), (some 7), none⟩] false) (.seq (.region [⟨(.mov (.t 1)), (some 26), none⟩, ⟨(.mov (.t 7)), (some 27), none⟩, ⟨(.callv (.t 26) [(.t 27)]), (some 28), none⟩, ⟨(.un .not (.t 28)), (some 29), none⟩] false) (.cond (.t 29) (.seq (.region [⟨(.mov (.t 0)), (some 30), none⟩, ⟨(.mov (.t 5)), (some 31), none⟩, ⟨(.mov (.t 7)), (some 32), none⟩, ⟨(.indexAddr 1 (.t 30) (.t 31)), (some 33), none⟩, ⟨(.store 1 (.t 33) (.t 32)), none, none⟩] false) (.region [⟨(.mov (.t 5)), (some 34), none⟩, ⟨(.bin .add (.t 34) (.k (.int .i64 1))), (some 35), none⟩, ⟨(.mov (.t 35)), (some 5), none⟩] false)) .skip)))) (.region [⟨(.mov (.t 6)), (some 20), none⟩, ⟨(.bin .add (.t 20) (.k (.int .i64 1))), (some 21), none⟩, ⟨(.mov (.t 21)), (some 6), none⟩] false)))
def m184 : MC := (.seq (.region [⟨(.mov (.k .nils)), (some 4), none⟩] false) (.seq (.region [⟨(.mov (.t 0)), (some 8), none⟩, ⟨(.mov (.t 1)), (some 9), none⟩, ⟨(.call 188 [(.t 8), (.t 9)]), (some 10), none⟩, ⟨(.mov (.t 10)), (some 5), none⟩] false) (.seq (.seq (.region [⟨(.mov (.t 5)), (some 11), none⟩, ⟨(.bin .eql (.t 11) (.k (.int .i64 (-1)))), (some 12), none⟩] false) (.cond (.t 12) (.seq (.region [⟨(.mov (.t 0)), (some 13), none⟩, ⟨(.mov (.t 13)), (some 4), none⟩] false) .ret) .skip)) (.seq (.seq (.region [⟨(.mov (.t 5)), (some 14), none⟩, ⟨(.bin .add (.t 14) (.k (.int .i64 1))), (some 15), none⟩, ⟨(.mov (.t 15)), (some 6), none⟩] false) (.block 0 (.loop m184_0))) (.seq (.region [⟨(.mov (.t 0)), (some 36), none⟩, ⟨(.mov (.t 5)), (some 37), none⟩, ⟨(.slice 1 (.t 36) (some (.t 37)) none), (some 38), none⟩, ⟨(.clear 1 [(.int .i64 0)] (.t 38)), none, none⟩] false) (.seq (.region [⟨(.mov (.t 0)), (some 39), none⟩, ⟨(.mov (.t 5)), (some 40), none⟩, ⟨(.slice 1 (.t 39) none (some (.t 40))), (some 41), none⟩, ⟨(.mov (.t 41)), (some 4), none⟩] false) .ret))))))
theorem has184 : Has cx 184 42 m184 [(.tmp 4)] :=
  ⟨⟨Try.f184, Try.f184.body.getD .skip, by kernel_rfl, by kernel_rfl, by kernel_rfl, by kernel_rfl, by kernel_rfl, by kernel_rfl⟩⟩

def delQ (rs : List Nat) (bel : Nat → Nat → Bool) (r : Nat) : Bool := !allF (fun j => !(rs.getD j 0 != r && bel r (rs.getD j 0))) 0 rs.length
-- (impl.Func).ends$1$1
def m187 : MC := (.seq (.region [⟨(.mov (.k (.bool false))), (some 4), none⟩] false) (.seq (.region [⟨(.mov (.t 0)), (some 5), none⟩, ⟨(.load none (.t 1)), (some 6), none⟩, ⟨(.bin .neq (.t 5) (.t 6)), (some 7), none⟩, ⟨(.mov (.t 7)), (some 8), none⟩, ⟨(.load none (.t 2)), (some 9), (some (8, true))⟩, ⟨(.load none (.t 1)), (some 10), (some (8, true))⟩, ⟨(.mov (.t 0)), (some 11), (some (8, true))⟩, ⟨(.callv (.t 9) [(.t 10), (.t 11)]), (some 12), (some (8, true))⟩, ⟨(.pick (.t 8) (.t 12) (.k (.bool false))), (some 13), none⟩, ⟨(.mov (.t 13)), (some 4), none⟩] false) .ret))
theorem has187 : Has cx 187 14 m187 [(.tmp 4)] :=
  ⟨⟨Try.f187, Try.f187.body.getD .skip, by kernel_rfl, by kernel_rfl, by kernel_rfl, by kernel_rfl, by kernel_rfl, by kernel_rfl⟩⟩
theorem ev187 (fb : Nat) (bel : Nat → Nat → Bool) (r s : Nat) (hbel : Ev cx fb [.int .i64 r, .int .i64 s] [] (.bool (bel r s)) []) : Ev cx 187 [.int .i64 s, .ptr 0 0, .ptr 1 0] [⟨[.int .i64 r], 1, 0, some 0, true⟩, ⟨[.fn fb []], 1, 1, some 0, true⟩] (.bool (s != r && bel r s)) [⟨[.int .i64 r], 1, 0, some 0, true⟩, ⟨[.fn fb []], 1, 1, some 0, true⟩] := by
  have hq := ine s r
  cases h : (s != r)
  · rw [h] at hq
    refine has187.eev rfl rfl ?_
    unfold m187
    repeat' (first
      | (refine g_op ?_; first
        | refine ep_mov rfl ?_ | refine ep_load1 rfl rfl rfl rfl ?_
        | refine ep_bin rfl rfl (by exact b_neq) ?_ | refine ep_pickT rfl rfl ?_ | refine ep_pickF rfl rfl ?_ | refine ep_pickTH rfl (by assumption) rfl ?_ | refine ep_pickFH rfl (by assumption) rfl ?_)
      | (refine g_ops ?_; first | refine eo_none ?_ | refine eo_nil ?_ | refine eo_yes rfl ?_ | refine eo_no rfl ?_ | refine eo_und rfl ?_ | refine eo_yesH rfl (by assumption) ?_ | refine eo_noH rfl (by assumption) ?_)
      | (refine g_code ?_; first | refine ec_seq ?_ | refine ec_region ?_ | refine ec_ret ?_)
      | refine ek_seqN ?_ | refine ek_seqR ?_)
    refine sfin (.inr rfl) (by rfl) (by rfl) (by exact ⟨rfl, rfl, rfl⟩) (by rfl) (by rfl) (by rfl) (by first | rfl | (simp; done) | (simp [ints, prs]; done))
  · rw [h] at hq
    refine has187.eev rfl rfl ?_
    unfold m187
    repeat' (first
      | (refine g_op ?_; first
        | refine ep_mov rfl ?_ | refine ep_load1 rfl rfl rfl rfl ?_
        | refine sp_callv rfl rfl rfl rfl rfl rfl (by first | exact hbel) ⟨rfl, rfl, rfl, rfl⟩ rfl rfl rfl ?_
        | refine sp_callb rfl rfl rfl rfl rfl rfl (by first | exact hbel) ⟨rfl, rfl, rfl, rfl⟩ rfl rfl rfl ?_
        | refine ep_bin rfl rfl (by exact b_neq) ?_ | refine ep_pickT rfl rfl ?_ | refine ep_pickF rfl rfl ?_ | refine ep_pickTH rfl (by assumption) rfl ?_ | refine ep_pickFH rfl (by assumption) rfl ?_)
      | (refine g_ops ?_; first | refine eo_none ?_ | refine eo_nil ?_ | refine eo_yes rfl ?_ | refine eo_no rfl ?_ | refine eo_und rfl ?_ | refine eo_yesH rfl (by assumption) ?_ | refine eo_noH rfl (by assumption) ?_)
      | (refine g_code ?_; first | refine ec_seq ?_ | refine ec_region ?_ | refine ec_ret ?_)
      | refine ek_seqN ?_ | refine ek_seqR ?_)
    refine sfin (.inr rfl) (by rfl) (by rfl) (by exact ⟨rfl, rfl, rfl⟩) (by rfl) (by rfl) (by rfl) (by first | rfl | (simp; done) | (simp [ints, prs]; done))
-- (impl.Func).ends$1
def m186 : MC := (.seq (.region [⟨(.box (.t 0)), (some 3), none⟩, ⟨(.mov (.k (.bool false))), (some 4), none⟩] false) (.seq (.region [⟨(.load none (.t 1)), (some 5), none⟩, ⟨(.mkfn 187 [(.t 3), (.t 2)]), (some 6), none⟩, ⟨(.call 100 [(.t 5), (.t 6)]), (some 7), none⟩, ⟨(.mov (.t 7)), (some 4), none⟩] false) .ret))
theorem has186 : Has cx 186 8 m186 [(.tmp 4)] :=
  ⟨⟨Try.f186, Try.f186.body.getD .skip, by kernel_rfl, by kernel_rfl, by kernel_rfl, by kernel_rfl, by kernel_rfl, by kernel_rfl⟩⟩
theorem lpix_ends1 (fb : Nat) (bel : Nat → Nat → Bool) (hbel : ∀ r s : Nat, r < 65536 → s < 65536 → Ev cx fb [.int .i64 r, .int .i64 s] [] (.bool (bel r s)) []) (rs : List Nat) (hrn : rs.length ≤ 16) (hrl : ∀ j, j < rs.length → rs.getD j 0 < 65536) (r : Nat) (hr : r < 65536) (o : Out) (ho : (match firstF (fun i => !(fun j => (rs.getD j 0 != r && bel r (rs.getD j 0))) i) 0 (rs.length) with | none => (⟨.exit 0, [], [⟨ints rs, 1, 0, some 0, false⟩, ⟨[.int .i64 r], 1, 1, some 0, true⟩, ⟨[.fn fb []], 1, 2, some 0, true⟩]⟩ : Out) | some x => ⟨.ret, [(4, .int .i64 (x : Nat))], [⟨ints rs, 1, 0, some 0, false⟩, ⟨[.int .i64 r], 1, 1, some 0, true⟩, ⟨[.fn fb []], 1, 2, some 0, true⟩]⟩) = o) :
    LpS cx 19 3 m188_0 [(0, .sl 0 0 rs.length), (1, .fn 187 [.ptr 1 0, .ptr 2 0]), (7, .int .i64 (rs.length : Nat)), (8, .int .i64 (0 : Nat))] [⟨ints rs, 1, 0, some 0, false⟩, ⟨[.int .i64 r], 1, 1, some 0, true⟩, ⟨[.fn fb []], 1, 2, some 0, true⟩] o.x o.e o.h := by
  refine lp_brk (rs.length) (fun i => !(fun j => (rs.getD j 0 != r && bel r (rs.getD j 0))) i) (fun _ => ()) (fun i _ => [(0, .sl 0 0 rs.length), (1, .fn 187 [.ptr 1 0, .ptr 2 0]), (7, .int .i64 (rs.length : Nat)), (8, .int .i64 (i : Nat))]) (fun i _ => [⟨ints rs, 1, 0, some 0, false⟩, ⟨[.int .i64 r], 1, 1, some 0, true⟩, ⟨[.fn fb []], 1, 2, some 0, true⟩]) (fun _ => ⟨.exit 0, [], [⟨ints rs, 1, 0, some 0, false⟩, ⟨[.int .i64 r], 1, 1, some 0, true⟩, ⟨[.fn fb []], 1, 2, some 0, true⟩]⟩) (fun i _ => ⟨.ret, [(4, .int .i64 (i : Nat))], [⟨ints rs, 1, 0, some 0, false⟩, ⟨[.int .i64 r], 1, 1, some 0, true⟩, ⟨[.fn fb []], 1, 2, some 0, true⟩]⟩) ?_ ?_ ?_ (rs.length) 0 o (by omega) (fun h => by rw [← ho, firstF_none fun x h1 h2 => h x h1 (by omega)]) (fun x h1 h2 h3 h4 => by rw [← ho, firstF_some h1 (by omega) h3 h4])
  · intro i s hi hs hp
    have hlt : decide ((i : Int) < (rs.length : Nat)) = true := decide_eq_true (by omega)
    have hp' : (!(fun j => (rs.getD j 0 != r && bel r (rs.getD j 0))) i) = true := hp
    refine ⟨(), rfl, ?_⟩
    have e0 := ev187 fb bel r (rs.getD i 0) (hbel r _ hr (hrl i hi))
    have hq : ((rs.getD i 0 != r && bel r (rs.getD i 0))) = !((!(fun j => (rs.getD j 0 != r && bel r (rs.getD j 0))) i)) := by simp
    rw [hp'] at hq
    rw [hq] at e0
    unfold m188_0
    repeat' (first
      | (refine g_op ?_; first
        | refine ep_mov rfl ?_ | refine ep_load1 rfl rfl rfl rfl ?_
        | refine sp_callv rfl rfl rfl rfl rfl rfl (by first | exact e0) ⟨rfl, rfl, rfl, rfl⟩ rfl rfl rfl ?_
        | refine sp_callb rfl rfl rfl rfl rfl rfl (by first | exact e0) ⟨rfl, rfl, rfl, rfl⟩ rfl rfl rfl ?_
        | refine ep_bin rfl rfl (by first | exact b_add (by omega) (by omega) | exact b_lss) ?_ | refine sp_idx rfl rfl rfl (by omega) rfl ?_ | refine ep_loadS rfl rfl rfl (by first | exact ints_get (by omega) | exact zints_get (by omega) | exact fget (by omega) | assumption) ?_)
      | (refine g_ops ?_; first | refine eo_none ?_ | refine eo_nil ?_)
      | (refine g_code ?_; first | refine ec_seq ?_ | refine ec_region ?_ | refine ec_block ?_ | refine ec_skip ?_ | refine ec_exit ?_ | refine ec_ret ?_ | refine ec_condT rfl ?_ | refine ec_condF rfl ?_ | refine ec_condTH rfl (by assumption) ?_ | refine ec_condFH rfl (by assumption) ?_)
      | refine ek_seqN ?_ | refine ek_seqX ?_ | refine ek_seqR ?_ | refine ek_blkN ?_ | refine ek_blkR ?_ | refine ek_blkX ?_ | refine ek_blkY rfl ?_)
    exact rnd_on (by rfl) (scmp2 (by rfl) (by rfl) (by exact ⟨rfl, rfl, rfl⟩) (by rfl) (by first | rfl | (simp; done) | (simp [ints, prs]; done)) (by rfl) (by first | rfl | (simp; done) | (simp [ints, prs]; done)))
  · intro i s hi hs hp
    have hlt : decide ((i : Int) < (rs.length : Nat)) = true := decide_eq_true (by omega)
    have hp' : (!(fun j => (rs.getD j 0 != r && bel r (rs.getD j 0))) i) = false := hp
    have e0 := ev187 fb bel r (rs.getD i 0) (hbel r _ hr (hrl i hi))
    have hq : ((rs.getD i 0 != r && bel r (rs.getD i 0))) = !((!(fun j => (rs.getD j 0 != r && bel r (rs.getD j 0))) i)) := by simp
    rw [hp'] at hq
    rw [hq] at e0
    unfold m188_0
    repeat' (first
      | (refine g_op ?_; first
        | refine ep_mov rfl ?_ | refine ep_load1 rfl rfl rfl rfl ?_
        | refine sp_callv rfl rfl rfl rfl rfl rfl (by first | exact e0) ⟨rfl, rfl, rfl, rfl⟩ rfl rfl rfl ?_
        | refine sp_callb rfl rfl rfl rfl rfl rfl (by first | exact e0) ⟨rfl, rfl, rfl, rfl⟩ rfl rfl rfl ?_
        | refine ep_bin rfl rfl (by first | exact b_add (by omega) (by omega) | exact b_lss) ?_ | refine sp_idx rfl rfl rfl (by omega) rfl ?_ | refine ep_loadS rfl rfl rfl (by first | exact ints_get (by omega) | exact zints_get (by omega) | exact fget (by omega) | assumption) ?_)
      | (refine g_ops ?_; first | refine eo_none ?_ | refine eo_nil ?_)
      | (refine g_code ?_; first | refine ec_seq ?_ | refine ec_region ?_ | refine ec_block ?_ | refine ec_skip ?_ | refine ec_exit ?_ | refine ec_ret ?_ | refine ec_condT rfl ?_ | refine ec_condF rfl ?_ | refine ec_condTH rfl (by assumption) ?_ | refine ec_condFH rfl (by assumption) ?_)
      | refine ek_seqN ?_ | refine ek_seqX ?_ | refine ek_seqR ?_ | refine ek_blkN ?_ | refine ek_blkR ?_ | refine ek_blkX ?_ | refine ek_blkY rfl ?_)
    exact rnd_out (by rfl) (by simp) (scmp2 (by rfl) (by rfl) (by exact ⟨rfl, rfl, rfl⟩) (by rfl) (by first | rfl | (simp; done) | (simp [ints, prs]; done)) (by rfl) (by first | rfl | (simp; done) | (simp [ints, prs]; done)))
  · intro s hs
    have hlt : decide (((rs.length : Nat) : Int) < (rs.length : Nat)) = false := decide_eq_false (by omega)
    unfold m188_0
    repeat' (first
      | (refine g_op ?_; first
        | refine ep_mov rfl ?_ | refine ep_load1 rfl rfl rfl rfl ?_
        | refine sp_callv rfl rfl rfl rfl rfl rfl (by first | exact e0) ⟨rfl, rfl, rfl, rfl⟩ rfl rfl rfl ?_
        | refine sp_callb rfl rfl rfl rfl rfl rfl (by first | exact e0) ⟨rfl, rfl, rfl, rfl⟩ rfl rfl rfl ?_
        | refine ep_bin rfl rfl (by first | exact b_add (by omega) (by omega) | exact b_lss) ?_ | refine sp_idx rfl rfl rfl (by omega) rfl ?_ | refine ep_loadS rfl rfl rfl (by first | exact ints_get (by omega) | exact zints_get (by omega) | exact fget (by omega) | assumption) ?_)
      | (refine g_ops ?_; first | refine eo_none ?_ | refine eo_nil ?_)
      | (refine g_code ?_; first | refine ec_seq ?_ | refine ec_region ?_ | refine ec_block ?_ | refine ec_skip ?_ | refine ec_exit ?_ | refine ec_ret ?_ | refine ec_condT rfl ?_ | refine ec_condF rfl ?_ | refine ec_condTH rfl (by assumption) ?_ | refine ec_condFH rfl (by assumption) ?_)
      | refine ek_seqN ?_ | refine ek_seqX ?_ | refine ek_seqR ?_ | refine ek_blkN ?_ | refine ek_blkR ?_ | refine ek_blkX ?_ | refine ek_blkY rfl ?_)
    exact rnd_out (by rfl) (by simp) (scmp2 (by rfl) (by rfl) (by exact ⟨rfl, rfl, rfl⟩) (by rfl) (by first | rfl | (simp; done) | (simp [ints, prs]; done)) (by rfl) (by first | rfl | (simp; done) | (simp [ints, prs]; done)))
theorem evix_ends1 (fb : Nat) (bel : Nat → Nat → Bool) (hbel : ∀ r s : Nat, r < 65536 → s < 65536 → Ev cx fb [.int .i64 r, .int .i64 s] [] (.bool (bel r s)) []) (rs : List Nat) (hrn : rs.length ≤ 16) (hrl : ∀ j, j < rs.length → rs.getD j 0 < 65536) (r : Nat) (hr : r < 65536) : Ev cx 188 [.sl 0 0 rs.length, .fn 187 [.ptr 1 0, .ptr 2 0]] [⟨ints rs, 1, 0, some 0, false⟩, ⟨[.int .i64 r], 1, 1, some 0, true⟩, ⟨[.fn fb []], 1, 2, some 0, true⟩] (.int .i64 (match firstF (fun i => !(fun j => (rs.getD j 0 != r && bel r (rs.getD j 0))) i) 0 (rs.length) with | none => -1 | some x => ((x : Nat) : Int))) [⟨ints rs, 1, 0, some 0, false⟩, ⟨[.int .i64 r], 1, 1, some 0, true⟩, ⟨[.fn fb []], 1, 2, some 0, true⟩] := by
  cases hs : firstF (fun i => !(fun j => (rs.getD j 0 != r && bel r (rs.getD j 0))) i) 0 (rs.length) with
  | none =>
    have lp := lpix_ends1 fb bel hbel rs hrn hrl r hr _ (by rw [hs])
    refine has188.eev rfl rfl ?_
    unfold m188
    repeat' (first
      | refine sc_loop lp rfl rfl ⟨rfl, rfl, rfl⟩ rfl rfl rfl ?_
      | (refine g_op ?_; first
        | refine ep_mov rfl ?_
        | refine ep_lenS rfl ?_ | refine ep_lenN rfl ?_ | refine ep_lenE rfl ?_)
      | (refine g_ops ?_; first | refine eo_none ?_ | refine eo_nil ?_)
      | (refine g_code ?_; first | refine ec_seq ?_ | refine ec_region ?_ | refine ec_block ?_ | refine ec_ret ?_)
      | refine ek_seqN ?_ | refine ek_seqX ?_ | refine ek_seqR ?_ | refine ek_blkN ?_ | refine ek_blkR ?_ | refine ek_blkX ?_ | refine ek_blkY rfl ?_)
    refine sfin (.inr rfl) (by rfl) (by rfl) (by exact ⟨rfl, rfl, rfl⟩) (by rfl) (by rfl) (by rfl) (by first | rfl | (simp; done) | (simp [ints, prs]; done))
  | some x =>
    have lp := lpix_ends1 fb bel hbel rs hrn hrl r hr _ (by rw [hs])
    refine has188.eev rfl rfl ?_
    unfold m188
    repeat' (first
      | refine sc_loop lp rfl rfl ⟨rfl, rfl, rfl⟩ rfl rfl rfl ?_
      | (refine g_op ?_; first
        | refine ep_mov rfl ?_
        | refine ep_lenS rfl ?_ | refine ep_lenN rfl ?_ | refine ep_lenE rfl ?_)
      | (refine g_ops ?_; first | refine eo_none ?_ | refine eo_nil ?_)
      | (refine g_code ?_; first | refine ec_seq ?_ | refine ec_region ?_ | refine ec_block ?_ | refine ec_ret ?_)
      | refine ek_seqN ?_ | refine ek_seqX ?_ | refine ek_seqR ?_ | refine ek_blkN ?_ | refine ek_blkR ?_ | refine ek_blkX ?_ | refine ek_blkY rfl ?_)
    refine sfin (.inr rfl) (by rfl) (by rfl) (by exact ⟨rfl, rfl, rfl⟩) (by rfl) (by rfl) (by rfl) (by first | rfl | (simp; done) | (simp [ints, prs]; done))
theorem evcf_ends1 (fb : Nat) (bel : Nat → Nat → Bool) (hbel : ∀ r s : Nat, r < 65536 → s < 65536 → Ev cx fb [.int .i64 r, .int .i64 s] [] (.bool (bel r s)) []) (rs : List Nat) (hrn : rs.length ≤ 16) (hrl : ∀ j, j < rs.length → rs.getD j 0 < 65536) (r : Nat) (hr : r < 65536) : Ev cx 100 [.sl 0 0 rs.length, .fn 187 [.ptr 1 0, .ptr 2 0]] [⟨ints rs, 1, 0, some 0, false⟩, ⟨[.int .i64 r], 1, 1, some 0, true⟩, ⟨[.fn fb []], 1, 2, some 0, true⟩] (.bool (!allF (fun i => !(fun j => (rs.getD j 0 != r && bel r (rs.getD j 0))) i) 0 (rs.length))) [⟨ints rs, 1, 0, some 0, false⟩, ⟨[.int .i64 r], 1, 1, some 0, true⟩, ⟨[.fn fb []], 1, 2, some 0, true⟩] := by
  have e1 := evix_ends1 fb bel hbel rs hrn hrl r hr
  cases hs : firstF (fun i => !(fun j => (rs.getD j 0 != r && bel r (rs.getD j 0))) i) 0 (rs.length) with
  | none =>
    rw [hs] at e1
    refine has100.eev rfl rfl ?_
    unfold m100
    repeat' (first
      | (refine g_op ?_; first
        | refine ep_mov rfl ?_
        | refine ep_call0 rfl (by first | exact e1) rfl rfl ?_
        | refine sp_call rfl rfl rfl rfl (by first | exact e1) ⟨rfl, rfl, rfl, rfl⟩ rfl rfl rfl ?_
        | refine ep_bin rfl rfl (by exact b_geq) ?_)
      | (refine g_ops ?_; first | refine eo_none ?_ | refine eo_nil ?_)
      | (refine g_code ?_; first | refine ec_seq ?_ | refine ec_region ?_ | refine ec_ret ?_)
      | refine ek_seqN ?_ | refine ek_seqR ?_)
    refine sfin (.inr rfl) (by rfl) (by rfl) (by exact ⟨rfl, rfl, rfl⟩) (by rfl) (by rfl) (by rw [firstF_allT hs]; rfl) (by first | rfl | (simp; done) | (simp [ints, prs]; done))
  | some x =>
    rw [hs] at e1
    have hge : decide (((x : Nat) : Int) ≥ 0) = true := decide_eq_true (by omega)
    refine has100.eev rfl rfl ?_
    unfold m100
    repeat' (first
      | (refine g_op ?_; first
        | refine ep_mov rfl ?_
        | refine ep_call0 rfl (by first | exact e1) rfl rfl ?_
        | refine sp_call rfl rfl rfl rfl (by first | exact e1) ⟨rfl, rfl, rfl, rfl⟩ rfl rfl rfl ?_
        | refine ep_bin rfl rfl (by exact b_geq) ?_)
      | (refine g_ops ?_; first | refine eo_none ?_ | refine eo_nil ?_)
      | (refine g_code ?_; first | refine ec_seq ?_ | refine ec_region ?_ | refine ec_ret ?_)
      | refine ek_seqN ?_ | refine ek_seqR ?_)
    refine sfin (.inr rfl) (by rfl) (by rfl) (by exact ⟨rfl, rfl, rfl⟩) (by rfl) (by rfl) (by rw [firstF_allF hs]; first | rfl | exact congrArg V.bool hge) (by first | rfl | (simp; done) | (simp [ints, prs]; done))

theorem ev186 (fb : Nat) (bel : Nat → Nat → Bool) (hbel : ∀ r s : Nat, r < 65536 → s < 65536 → Ev cx fb [.int .i64 r, .int .i64 s] [] (.bool (bel r s)) []) (rs : List Nat) (hrn : rs.length ≤ 16) (hrl : ∀ j, j < rs.length → rs.getD j 0 < 65536) (r : Nat) (hr : r < 65536) : Ev cx 186 [.int .i64 r, .ptr 0 0, .ptr 2 0] [⟨[.sl 1 0 rs.length], 1, 0, some 0, true⟩, ⟨ints rs, 1, 1, some 0, false⟩, ⟨[.fn fb []], 1, 2, some 0, true⟩] (.bool (delQ rs bel r)) [⟨[.sl 1 0 rs.length], 1, 0, some 0, true⟩, ⟨ints rs, 1, 1, some 0, false⟩, ⟨[.fn fb []], 1, 2, some 0, true⟩] := by
  have e1 := evcf_ends1 fb bel hbel rs hrn hrl r hr
  refine has186.eev rfl rfl ?_
  unfold m186
  repeat' (first
    | (refine g_op ?_; first
      | refine ep_mov rfl ?_ | refine ep_load1 rfl rfl rfl rfl ?_
      | refine ep_call0 rfl (by first | exact e1) rfl rfl ?_
      | refine sp_call rfl rfl rfl rfl (by first | exact e1) ⟨rfl, rfl, rfl, rfl⟩ rfl rfl rfl ?_
      | refine sp_box rfl rfl rfl rfl rfl ?_ | refine ep_mkfn rfl ?_)
    | (refine g_ops ?_; first | refine eo_none ?_ | refine eo_nil ?_)
    | (refine g_code ?_; first | refine ec_seq ?_ | refine ec_region ?_ | refine ec_ret ?_)
    | refine ek_seqN ?_ | refine ek_seqR ?_)
  refine sfin (.inr rfl) (by rfl) (by rfl) (by exact ⟨rfl, rfl, rfl⟩) (by rfl) (by rfl) (by rfl) (by first | rfl | (simp; done) | (simp [ints, prs]; done))

end Go.Proofs.Ytokoboflpaklaaa
