/- What each function that the statement reaches returns. -/
import Derived.Test.YtlhhbhmobllafaaMiD
import Derived.Test.YtlhhbhmobllafaaChecked
import Derived.KernelRfl
import Derived.WalkKit
import Derived.WalkSpells
import Derived.Maps.RangeWalk
import Derived.Maps.OwnSet
import Derived.Lib.Strings
import Derived.Lib.Slices
import Derived.Lib.Walk
import Derived.Lib.Bytealg
import Derived.OwnWalk
import Derived.Lib.SliceRun
import Derived.Maps.AppendAt
import Derived.Deep.RegionWith
import Derived.Deep.Cut
import Derived.Deep.CutRange
set_option linter.unusedVariables false
set_option linter.unusedSimpArgs false
set_option maxRecDepth 100000
set_option maxHeartbeats 4000000
namespace Go.Proofs.Ytlhhbhmobllafaa
open Go Go.Proofs.Ytlhhbhmobllafaa.Mi
noncomputable def cx : Cx := ⟨Try.prog, id, id, by kernel_rfl⟩
attribute [local irreducible] code opsK opsDK gopK opK seqK blockK callK binV
def R2 (n : Nat) : Nat := 2 ^ n
theorem shR (n : Nat) : 1 <<< n = R2 n := by simp [R2, Nat.shiftLeft_eq]
theorem shN {n : Nat} (h : n ≤ 4) : R2 n ≤ 16 ∧ R2 (R2 n) ≤ 65536 ∧ 1 ≤ R2 n ∧ 1 ≤ R2 (R2 n) := by
  have : n = 0 ∨ n = 1 ∨ n = 2 ∨ n = 3 ∨ n = 4 := by omega
  rcases this with rfl | rfl | rfl | rfl | rfl <;> decide
theorem b_shl1 {k' : IntKind} {y : Nat} (h : R2 y < 9223372036854775808) (hy : y ≤ 64) : binV .shl (.int .i64 1) (.int k' y) = some (.int .i64 (R2 y : Nat)) := by
  rw [← shR]; exact b_shl (x := 1) (by rw [shR]; exact h) hy
attribute [local irreducible] R2
def isFn (p t : Int) : Bool := decide (0 ≤ p ∧ p ≤ 4) && decide (0 ≤ t ∧ t ≤ (R2 (R2 p.toNat) : Nat) - 1)
-- impl.within
def m36 : MC := (.seq (.region [⟨(.mov (.k (.bool false))), (some 6), none⟩] false) (.seq (.region [⟨(.mov (.t 0)), (some 7), none⟩, ⟨(.mov (.t 1)), (some 8), none⟩, ⟨(.bin .geq (.t 7) (.t 8)), (some 9), none⟩, ⟨(.mov (.t 9)), (some 10), none⟩, ⟨(.mov (.t 0)), (some 11), (some (10, true))⟩, ⟨(.mov (.t 2)), (some 12), (some (10, true))⟩, ⟨(.bin .leq (.t 11) (.t 12)), (some 13), (some (10, true))⟩, ⟨(.pick (.t 10) (.t 13) (.k (.bool false))), (some 14), none⟩, ⟨(.mov (.t 14)), (some 6), none⟩] false) .ret))
theorem has36 : Has cx 36 15 m36 [(.tmp 6)] :=
  ⟨⟨Try.f36, Try.f36.body.getD .skip, by kernel_rfl, by kernel_rfl, by kernel_rfl, by kernel_rfl, by kernel_rfl, by kernel_rfl⟩⟩
theorem ev36 (z lo hi : Int) : Ev cx 36 [.int .i64 z, .int .i64 lo, .int .i64 hi] [] (.bool (decide (lo ≤ z ∧ z ≤ hi))) [] := by
  by_cases h1 : lo ≤ z
  · have h2 : decide (z ≥ lo) = true := decide_eq_true h1
    refine has36.eev rfl rfl ?_
    unfold m36
    repeat' (first
      | (refine g_op ?_; first
        | refine ep_mov rfl ?_
        | refine ep_bin rfl rfl (by first | exact b_leq | exact b_geq) ?_ | refine ep_pickT rfl rfl ?_ | refine ep_pickF rfl rfl ?_ | refine ep_pickTH rfl (by assumption) rfl ?_ | refine ep_pickFH rfl (by assumption) rfl ?_)
      | (refine g_ops ?_; first | refine eo_none ?_ | refine eo_nil ?_ | refine eo_yes rfl ?_ | refine eo_no rfl ?_ | refine eo_und rfl ?_ | refine eo_yesH rfl (by assumption) ?_ | refine eo_noH rfl (by assumption) ?_)
      | (refine g_code ?_; first | refine ec_seq ?_ | refine ec_region ?_ | refine ec_ret ?_)
      | refine ek_seqN ?_ | refine ek_seqR ?_)
    refine sfin (.inr rfl) (by rfl) (by rfl) (by exact ⟨rfl, rfl, rfl⟩) (by rfl) (by rfl) (by exact congrArg V.bool (by simp [h1])) (by first | rfl | (simp; done) | (simp [ints, prs]; done))
  · have h2 : decide (z ≥ lo) = false := decide_eq_false h1
    refine has36.eev rfl rfl ?_
    unfold m36
    repeat' (first
      | (refine g_op ?_; first
        | refine ep_mov rfl ?_
        | refine ep_bin rfl rfl (by first | exact b_leq | exact b_geq) ?_ | refine ep_pickT rfl rfl ?_ | refine ep_pickF rfl rfl ?_ | refine ep_pickTH rfl (by assumption) rfl ?_ | refine ep_pickFH rfl (by assumption) rfl ?_)
      | (refine g_ops ?_; first | refine eo_none ?_ | refine eo_nil ?_ | refine eo_yes rfl ?_ | refine eo_no rfl ?_ | refine eo_und rfl ?_ | refine eo_yesH rfl (by assumption) ?_ | refine eo_noH rfl (by assumption) ?_)
      | (refine g_code ?_; first | refine ec_seq ?_ | refine ec_region ?_ | refine ec_ret ?_)
      | refine ek_seqN ?_ | refine ek_seqR ?_)
    refine sfin (.inr rfl) (by rfl) (by rfl) (by exact ⟨rfl, rfl, rfl⟩) (by rfl) (by rfl) (by exact congrArg V.bool (by simp [h1])) (by first | rfl | (simp; done) | (simp [ints, prs]; done))
-- spec.l01In
def m43 : MC := (.seq (.region [⟨(.mov (.k (.bool false))), (some 6), none⟩] false) (.seq (.region [⟨(.mov (.t 0)), (some 7), none⟩, ⟨(.mov (.t 1)), (some 8), none⟩, ⟨(.bin .geq (.t 7) (.t 8)), (some 9), none⟩, ⟨(.mov (.t 9)), (some 10), none⟩, ⟨(.mov (.t 0)), (some 11), (some (10, true))⟩, ⟨(.mov (.t 2)), (some 12), (some (10, true))⟩, ⟨(.bin .leq (.t 11) (.t 12)), (some 13), (some (10, true))⟩, ⟨(.pick (.t 10) (.t 13) (.k (.bool false))), (some 14), none⟩, ⟨(.mov (.t 14)), (some 6), none⟩] false) .ret))
theorem has43 : Has cx 43 15 m43 [(.tmp 6)] :=
  ⟨⟨Try.f43, Try.f43.body.getD .skip, by kernel_rfl, by kernel_rfl, by kernel_rfl, by kernel_rfl, by kernel_rfl, by kernel_rfl⟩⟩
theorem ev43 (z lo hi : Int) : Ev cx 43 [.int .i64 z, .int .i64 lo, .int .i64 hi] [] (.bool (decide (lo ≤ z ∧ z ≤ hi))) [] := by
  by_cases h1 : lo ≤ z
  · have h2 : decide (z ≥ lo) = true := decide_eq_true h1
    refine has43.eev rfl rfl ?_
    unfold m43
    repeat' (first
      | (refine g_op ?_; first
        | refine ep_mov rfl ?_
        | refine ep_bin rfl rfl (by first | exact b_leq | exact b_geq) ?_ | refine ep_pickT rfl rfl ?_ | refine ep_pickF rfl rfl ?_ | refine ep_pickTH rfl (by assumption) rfl ?_ | refine ep_pickFH rfl (by assumption) rfl ?_)
      | (refine g_ops ?_; first | refine eo_none ?_ | refine eo_nil ?_ | refine eo_yes rfl ?_ | refine eo_no rfl ?_ | refine eo_und rfl ?_ | refine eo_yesH rfl (by assumption) ?_ | refine eo_noH rfl (by assumption) ?_)
      | (refine g_code ?_; first | refine ec_seq ?_ | refine ec_region ?_ | refine ec_ret ?_)
      | refine ek_seqN ?_ | refine ek_seqR ?_)
    refine sfin (.inr rfl) (by rfl) (by rfl) (by exact ⟨rfl, rfl, rfl⟩) (by rfl) (by rfl) (by exact congrArg V.bool (by simp [h1])) (by first | rfl | (simp; done) | (simp [ints, prs]; done))
  · have h2 : decide (z ≥ lo) = false := decide_eq_false h1
    refine has43.eev rfl rfl ?_
    unfold m43
    repeat' (first
      | (refine g_op ?_; first
        | refine ep_mov rfl ?_
        | refine ep_bin rfl rfl (by first | exact b_leq | exact b_geq) ?_ | refine ep_pickT rfl rfl ?_ | refine ep_pickF rfl rfl ?_ | refine ep_pickTH rfl (by assumption) rfl ?_ | refine ep_pickFH rfl (by assumption) rfl ?_)
      | (refine g_ops ?_; first | refine eo_none ?_ | refine eo_nil ?_ | refine eo_yes rfl ?_ | refine eo_no rfl ?_ | refine eo_und rfl ?_ | refine eo_yesH rfl (by assumption) ?_ | refine eo_noH rfl (by assumption) ?_)
      | (refine g_code ?_; first | refine ec_seq ?_ | refine ec_region ?_ | refine ec_ret ?_)
      | refine ek_seqN ?_ | refine ek_seqR ?_)
    refine sfin (.inr rfl) (by rfl) (by rfl) (by exact ⟨rfl, rfl, rfl⟩) (by rfl) (by rfl) (by exact congrArg V.bool (by simp [h1])) (by first | rfl | (simp; done) | (simp [ints, prs]; done))
-- impl.rowsOf
def m32 : MC := (.seq (.region [⟨(.mov (.k (.int .i64 0))), (some 2), none⟩] false) (.seq (.region [⟨(.mov (.t 0)), (some 3), none⟩, ⟨(.bin .shl (.k (.int .i64 1)) (.t 3)), (some 4), none⟩, ⟨(.mov (.t 4)), (some 2), none⟩] false) .ret))
theorem has32 : Has cx 32 5 m32 [(.tmp 2)] :=
  ⟨⟨Try.f32, Try.f32.body.getD .skip, by kernel_rfl, by kernel_rfl, by kernel_rfl, by kernel_rfl, by kernel_rfl, by kernel_rfl⟩⟩
theorem ev32 (n : Nat) (h : n ≤ 4) : Ev cx 32 [.int .i64 n] [] (.int .i64 (R2 n : Nat)) [] := by
  obtain ⟨h1, h2, h3, h4⟩ := shN h
  refine has32.eev rfl rfl ?_
  unfold m32
  repeat' (first
    | (refine g_op ?_; first
      | refine ep_mov rfl ?_
      | refine ep_bin rfl rfl (by first | exact b_shl1 (by omega) (by omega) | exact b_shl (by omega) (by omega)) ?_)
    | (refine g_ops ?_; first | refine eo_none ?_ | refine eo_nil ?_)
    | (refine g_code ?_; first | refine ec_seq ?_ | refine ec_region ?_ | refine ec_ret ?_)
    | refine ek_seqN ?_ | refine ek_seqR ?_)
  refine sfin (.inr rfl) (by rfl) (by rfl) (by exact ⟨rfl, rfl, rfl⟩) (by rfl) (by rfl) (by rfl) (by first | rfl | (simp; done) | (simp [ints, prs]; done))
-- impl.funcsOf
def m64 : MC := (.seq (.region [⟨(.mov (.k (.int .i64 0))), (some 2), none⟩] false) (.seq (.region [⟨(.mov (.t 0)), (some 3), none⟩, ⟨(.call 32 [(.t 3)]), (some 4), none⟩, ⟨(.bin .shl (.k (.int .i64 1)) (.t 4)), (some 5), none⟩, ⟨(.mov (.t 5)), (some 2), none⟩] false) .ret))
theorem has64 : Has cx 64 6 m64 [(.tmp 2)] :=
  ⟨⟨Try.f64, Try.f64.body.getD .skip, by kernel_rfl, by kernel_rfl, by kernel_rfl, by kernel_rfl, by kernel_rfl, by kernel_rfl⟩⟩
theorem ev64 (n : Nat) (h : n ≤ 4) : Ev cx 64 [.int .i64 n] [] (.int .i64 (R2 (R2 n) : Nat)) [] := by
  obtain ⟨h1, h2, h3, h4⟩ := shN h
  refine has64.eev rfl rfl ?_
  unfold m64
  repeat' (first
    | (refine g_op ?_; first
      | refine ep_mov rfl ?_
      | refine ep_call0 rfl (by first | exact ev32 _ h) rfl rfl ?_
      | refine sp_call rfl rfl rfl rfl (by first | exact ev32 _ h) ⟨rfl, rfl, rfl, rfl⟩ rfl rfl rfl ?_
      | refine ep_bin rfl rfl (by first | exact b_shl1 (by omega) (by omega) | exact b_shl (by omega) (by omega)) ?_)
    | (refine g_ops ?_; first | refine eo_none ?_ | refine eo_nil ?_)
    | (refine g_code ?_; first | refine ec_seq ?_ | refine ec_region ?_ | refine ec_ret ?_)
    | refine ek_seqN ?_ | refine ek_seqR ?_)
  refine sfin (.inr rfl) (by rfl) (by rfl) (by exact ⟨rfl, rfl, rfl⟩) (by rfl) (by rfl) (by rfl) (by first | rfl | (simp; done) | (simp [ints, prs]; done))
-- spec.l01Rows
def m53 : MC := (.seq (.region [⟨(.mov (.k (.int .i64 0))), (some 2), none⟩] false) (.seq (.region [⟨(.mov (.t 0)), (some 3), none⟩, ⟨(.conv .u64 (.t 3)), (some 4), none⟩, ⟨(.bin .shl (.k (.int .i64 1)) (.t 4)), (some 5), none⟩, ⟨(.mov (.t 5)), (some 2), none⟩] false) .ret))
theorem has53 : Has cx 53 6 m53 [(.tmp 2)] :=
  ⟨⟨Try.f53, Try.f53.body.getD .skip, by kernel_rfl, by kernel_rfl, by kernel_rfl, by kernel_rfl, by kernel_rfl, by kernel_rfl⟩⟩
theorem ev53 (n : Nat) (h : n ≤ 4) : Ev cx 53 [.int .i64 n] [] (.int .i64 (R2 n : Nat)) [] := by
  obtain ⟨h1, h2, h3, h4⟩ := shN h
  refine has53.eev rfl rfl ?_
  unfold m53
  repeat' (first
    | (refine g_op ?_; first
      | refine ep_mov rfl ?_
      | refine ep_bin rfl rfl (by first | exact b_shl1 (by omega) (by omega) | exact b_shl (by omega) (by omega)) ?_ | refine ep_conv rfl (by first | exact w_u64 (by omega) (by omega) | exact wrap_id (by omega) (by omega) | rfl) ?_)
    | (refine g_ops ?_; first | refine eo_none ?_ | refine eo_nil ?_)
    | (refine g_code ?_; first | refine ec_seq ?_ | refine ec_region ?_ | refine ec_ret ?_)
    | refine ek_seqN ?_ | refine ek_seqR ?_)
  refine sfin (.inr rfl) (by rfl) (by rfl) (by exact ⟨rfl, rfl, rfl⟩) (by rfl) (by rfl) (by rfl) (by first | rfl | (simp; done) | (simp [ints, prs]; done))
-- spec.l01All
def m61 : MC := (.seq (.region [⟨(.mov (.k (.int .i64 0))), (some 2), none⟩] false) (.seq (.region [⟨(.mov (.t 0)), (some 3), none⟩, ⟨(.call 53 [(.t 3)]), (some 4), none⟩, ⟨(.conv .u64 (.t 4)), (some 5), none⟩, ⟨(.bin .shl (.k (.int .i64 1)) (.t 5)), (some 6), none⟩, ⟨(.bin .sub (.t 6) (.k (.int .i64 1))), (some 7), none⟩, ⟨(.mov (.t 7)), (some 2), none⟩] false) .ret))
theorem has61 : Has cx 61 8 m61 [(.tmp 2)] :=
  ⟨⟨Try.f61, Try.f61.body.getD .skip, by kernel_rfl, by kernel_rfl, by kernel_rfl, by kernel_rfl, by kernel_rfl, by kernel_rfl⟩⟩
theorem ev61 (n : Nat) (h : n ≤ 4) : Ev cx 61 [.int .i64 n] [] (.int .i64 ((R2 (R2 n) : Nat) - 1)) [] := by
  obtain ⟨h1, h2, h3, h4⟩ := shN h
  refine has61.eev rfl rfl ?_
  unfold m61
  repeat' (first
    | (refine g_op ?_; first
      | refine ep_mov rfl ?_
      | refine ep_call0 rfl (by first | exact ev53 _ h) rfl rfl ?_
      | refine sp_call rfl rfl rfl rfl (by first | exact ev53 _ h) ⟨rfl, rfl, rfl, rfl⟩ rfl rfl rfl ?_
      | refine ep_bin rfl rfl (by first | exact b_shl1 (by omega) (by omega) | exact b_sub (by omega) (by omega) | exact b_shl (by omega) (by omega)) ?_ | refine ep_conv rfl (by first | exact w_u64 (by omega) (by omega) | exact wrap_id (by omega) (by omega) | rfl) ?_)
    | (refine g_ops ?_; first | refine eo_none ?_ | refine eo_nil ?_)
    | (refine g_code ?_; first | refine ec_seq ?_ | refine ec_region ?_ | refine ec_ret ?_)
    | refine ek_seqN ?_ | refine ek_seqR ?_)
  refine sfin (.inr rfl) (by rfl) (by rfl) (by exact ⟨rfl, rfl, rfl⟩) (by rfl) (by rfl) (by rfl) (by first | rfl | (simp; done) | (simp [ints, prs]; done))
-- impl.isArity
def m31 : MC := (.seq (.region [⟨(.mov (.k (.bool false))), (some 2), none⟩] false) (.seq (.region [⟨(.mov (.t 0)), (some 3), none⟩, ⟨(.call 36 [(.t 3), (.k (.int .i64 0)), (.k (.int .i64 4))]), (some 4), none⟩, ⟨(.mov (.t 4)), (some 2), none⟩] false) .ret))
theorem has31 : Has cx 31 5 m31 [(.tmp 2)] :=
  ⟨⟨Try.f31, Try.f31.body.getD .skip, by kernel_rfl, by kernel_rfl, by kernel_rfl, by kernel_rfl, by kernel_rfl, by kernel_rfl⟩⟩
theorem ev31 (z : Int) : Ev cx 31 [.int .i64 z] [] (.bool (decide (0 ≤ z ∧ z ≤ 4))) [] := by
  refine has31.eev rfl rfl ?_
  unfold m31
  repeat' (first
    | (refine g_op ?_; first
      | refine ep_mov rfl ?_
      | refine ep_call0 rfl (by first | exact ev36 _ _ _) rfl rfl ?_
      | refine sp_call rfl rfl rfl rfl (by first | exact ev36 _ _ _) ⟨rfl, rfl, rfl, rfl⟩ rfl rfl rfl ?_)
    | (refine g_ops ?_; first | refine eo_none ?_ | refine eo_nil ?_)
    | (refine g_code ?_; first | refine ec_seq ?_ | refine ec_region ?_ | refine ec_ret ?_)
    | refine ek_seqN ?_ | refine ek_seqR ?_)
  refine sfin (.inr rfl) (by rfl) (by rfl) (by exact ⟨rfl, rfl, rfl⟩) (by rfl) (by rfl) (by rfl) (by first | rfl | (simp; done) | (simp [ints, prs]; done))
structure RR where
  a : Int
  b : Int
  c : Int
abbrev rr (x : RR) : V := .tup [.agg [.int .i64 x.a, .int .i64 x.b], .int .i64 x.c]
theorem isFn_nat {p t : Int} (h : isFn p t = true) : ∃ n b : Nat, p = n ∧ t = b ∧ n ≤ 4 ∧ b < R2 (R2 n) ∧ b < 65536 := by
  simp only [isFn, Bool.and_eq_true, decide_eq_true_eq] at h
  obtain ⟨⟨h1, h2⟩, h3, h4⟩ := h
  obtain ⟨n, rfl⟩ := Int.eq_ofNat_of_zero_le (show 0 ≤ p by omega)
  obtain ⟨b, rfl⟩ := Int.eq_ofNat_of_zero_le h3
  simp only [Int.toNat_natCast] at h4
  obtain ⟨_, q, _⟩ := shN (n := n) (by omega)
  exact ⟨n, b, rfl, rfl, by omega, by omega, by omega⟩
def bt (b r : Nat) : Nat := (b >>> r) &&& 1
theorem bt_le (b r : Nat) : bt b r ≤ 1 := by unfold bt; exact Nat.and_le_right
theorem shr_lt {b r : Nat} (h : b < 9223372036854775808) : b >>> r < 9223372036854775808 := Nat.lt_of_le_of_lt (Nat.shiftRight_le b r) h
theorem b_bt {b r : Nat} (h : b < 9223372036854775808) : binV .and (.int .i64 (b >>> r : Nat)) (.int .i64 1) = some (.int .i64 (bt b r : Nat)) := b_and (y := 1) (shr_lt h) (by omega)
theorem R2_le {j n : Nat} (h : j < n) : 2 * R2 j ≤ R2 n := by
  unfold R2; rw [← Nat.pow_succ']; exact Nat.pow_le_pow_right (by omega) (by omega)
theorem or_lt {x y n : Nat} (hx : x < R2 n) (hy : y < R2 n) : x ||| y < R2 n := by unfold R2 at *; exact Nat.or_lt_two_pow hx hy
attribute [local irreducible] bt
-- impl.bit
def m72 : MC := (.seq (.region [⟨(.mov (.k (.int .i64 0))), (some 4), none⟩] false) (.seq (.region [⟨(.mov (.t 0)), (some 5), none⟩, ⟨(.mov (.t 1)), (some 6), none⟩, ⟨(.bin .shr (.t 5) (.t 6)), (some 7), none⟩, ⟨(.bin .and (.t 7) (.k (.int .i64 1))), (some 8), none⟩, ⟨(.mov (.t 8)), (some 4), none⟩] false) .ret))
theorem has72 : Has cx 72 9 m72 [(.tmp 4)] :=
  ⟨⟨Try.f72, Try.f72.body.getD .skip, by kernel_rfl, by kernel_rfl, by kernel_rfl, by kernel_rfl, by kernel_rfl, by kernel_rfl⟩⟩
theorem ev72 (b r : Nat) (hb : b < 9223372036854775808) (hr : r ≤ 64) : Ev cx 72 [.int .i64 b, .int .i64 r] [] (.int .i64 (bt b r : Nat)) [] := by
  refine has72.eev rfl rfl ?_
  unfold m72
  repeat' (first
    | (refine g_op ?_; first
      | refine ep_mov rfl ?_
      | refine ep_bin rfl rfl (by first | exact b_shr hr | exact b_bt hb | exact b_and (by omega) (by omega) | exact b_shr (by omega)) ?_)
    | (refine g_ops ?_; first | refine eo_none ?_ | refine eo_nil ?_)
    | (refine g_code ?_; first | refine ec_seq ?_ | refine ec_region ?_ | refine ec_ret ?_)
    | refine ek_seqN ?_ | refine ek_seqR ?_)
  refine sfin (.inr rfl) (by rfl) (by rfl) (by exact ⟨rfl, rfl, rfl⟩) (by rfl) (by rfl) (by rfl) (by first | rfl | (simp; done) | (simp [ints, prs]; done))
-- (impl.Func).at
def m73 : MC := (.seq (.region [⟨(.box (.t 0)), (some 2), none⟩, ⟨(.mov (.k (.int .i64 0))), (some 4), none⟩] false) (.seq (.region [⟨(.fieldAddr 1 (.t 2)), (some 5), none⟩, ⟨(.load none (.t 5)), (some 6), none⟩, ⟨(.mov (.t 1)), (some 7), none⟩, ⟨(.call 72 [(.t 6), (.t 7)]), (some 8), none⟩, ⟨(.mov (.t 8)), (some 4), none⟩] false) .ret))
theorem has73 : Has cx 73 9 m73 [(.tmp 4)] :=
  ⟨⟨Try.f73, Try.f73.body.getD .skip, by kernel_rfl, by kernel_rfl, by kernel_rfl, by kernel_rfl, by kernel_rfl, by kernel_rfl⟩⟩
theorem ev73 (n : Int) (b r : Nat) (hb : b < 9223372036854775808) (hr : r ≤ 64) : Ev cx 73 [.agg [.int .i64 n, .int .i64 b], .int .i64 r] [] (.int .i64 (bt b r : Nat)) [] := by
  refine has73.eev rfl rfl ?_
  unfold m73
  repeat' (first
    | (refine g_op ?_; first
      | refine ep_mov rfl ?_ | refine ep_load1 rfl rfl rfl rfl ?_ | refine ep_fieldAddr rfl ?_
      | refine ep_call0 rfl (by first | exact ev72 _ _ hb hr) rfl rfl ?_
      | refine sp_call rfl rfl rfl rfl (by first | exact ev72 _ _ hb hr) ⟨rfl, rfl, rfl, rfl⟩ rfl rfl rfl ?_
      | refine sp_box rfl rfl rfl rfl rfl ?_)
    | (refine g_ops ?_; first | refine eo_none ?_ | refine eo_nil ?_)
    | (refine g_code ?_; first | refine ec_seq ?_ | refine ec_region ?_ | refine ec_ret ?_)
    | refine ek_seqN ?_ | refine ek_seqR ?_)
  refine sfin (.inr rfl) (by rfl) (by rfl) (by exact ⟨rfl, rfl, rfl⟩) (by rfl) (by rfl) (by rfl) (by first | rfl | (simp; done) | (simp [ints, prs]; done))
-- (impl.Func).rows
def m71 : MC := (.seq (.region [⟨(.box (.t 0)), (some 1), none⟩, ⟨(.mov (.k (.int .i64 0))), (some 2), none⟩] false) (.seq (.region [⟨(.fieldAddr 0 (.t 1)), (some 3), none⟩, ⟨(.load none (.t 3)), (some 4), none⟩, ⟨(.call 32 [(.t 4)]), (some 5), none⟩, ⟨(.mov (.t 5)), (some 2), none⟩] false) .ret))
theorem has71 : Has cx 71 6 m71 [(.tmp 2)] :=
  ⟨⟨Try.f71, Try.f71.body.getD .skip, by kernel_rfl, by kernel_rfl, by kernel_rfl, by kernel_rfl, by kernel_rfl, by kernel_rfl⟩⟩
theorem ev71 (n : Nat) (b : Int) (h : n ≤ 4) : Ev cx 71 [.agg [.int .i64 n, .int .i64 b]] [] (.int .i64 (R2 n : Nat)) [] := by
  refine has71.eev rfl rfl ?_
  unfold m71
  repeat' (first
    | (refine g_op ?_; first
      | refine ep_mov rfl ?_ | refine ep_load1 rfl rfl rfl rfl ?_ | refine ep_fieldAddr rfl ?_
      | refine ep_call0 rfl (by first | exact ev32 _ h) rfl rfl ?_
      | refine sp_call rfl rfl rfl rfl (by first | exact ev32 _ h) ⟨rfl, rfl, rfl, rfl⟩ rfl rfl rfl ?_
      | refine sp_box rfl rfl rfl rfl rfl ?_)
    | (refine g_ops ?_; first | refine eo_none ?_ | refine eo_nil ?_)
    | (refine g_code ?_; first | refine ec_seq ?_ | refine ec_region ?_ | refine ec_ret ?_)
    | refine ek_seqN ?_ | refine ek_seqR ?_)
  refine sfin (.inr rfl) (by rfl) (by rfl) (by exact ⟨rfl, rfl, rfl⟩) (by rfl) (by rfl) (by rfl) (by first | rfl | (simp; done) | (simp [ints, prs]; done))
def monoP (b r i : Nat) : Bool := decide (¬ (bt b r > bt b (r ||| R2 i)))
def monoB (n b : Nat) : Bool := allF (fun r => allF (monoP b r) 0 n) 0 (R2 n)
-- (impl.Func).isMonotone
def m46_1 : MC := (.seq (.region [⟨(.bin .lss (.t 12) (.t 11)), (some 13), none⟩] false) (.seq (.cond (.t 13) .skip (.exit 2)) (.seq (.block 3 (.seq (.region [⟨(.mov (.t 12)), (some 14), none⟩, ⟨(.mov (.t 14)), (some 4), none⟩] false) (.seq (.region [⟨(.load (some 2) (.t 1)), (some 15), none⟩, ⟨(.mov (.t 3)), (some 16), none⟩, ⟨(.call 73 [(.t 15), (.t 16)]), (some 17), none⟩, ⟨(.load (some 2) (.t 1)), (some 18), none⟩, ⟨(.mov (.t 3)), (some 19), none⟩, ⟨(.mov (.t 4)), (some 20), none⟩, ⟨(.bin .shl (.k (.int .i64 1)) (.t 20)), (some 21), none⟩, ⟨(.bin .or (.t 19) (.t 21)), (some 22), none⟩, ⟨(.callw 73 [(.t 18), (.t 22)]), (some 23), none⟩, ⟨(.bin .gtr (.t 17) (.t 23)), (some 24), none⟩] true) (.cond (.t 24) (.seq (.region [⟨(.mov (.k (.bool false))), (some 2), none⟩] false) .ret) .skip)))) (.region [⟨(.bin .add (.t 12) (.k (.int .i64 1))), (some 25), none⟩, ⟨(.mov (.t 25)), (some 12), none⟩] false))))
def m46_0 : MC := (.seq (.region [⟨(.bin .lss (.t 7) (.t 6)), (some 8), none⟩] false) (.seq (.cond (.t 8) .skip (.exit 0)) (.seq (.block 1 (.seq (.region [⟨(.mov (.t 7)), (some 9), none⟩, ⟨(.mov (.t 9)), (some 3), none⟩] false) (.seq (.region [⟨(.fieldAddr 0 (.t 1)), (some 10), none⟩, ⟨(.load none (.t 10)), (some 11), none⟩, ⟨(.mov (.k (.int .i64 0))), (some 12), none⟩] false) (.block 2 (.loop m46_1))))) (.region [⟨(.bin .add (.t 7) (.k (.int .i64 1))), (some 26), none⟩, ⟨(.mov (.t 26)), (some 7), none⟩] false))))
def m46 : MC := (.seq (.region [⟨(.box (.t 0)), (some 1), none⟩, ⟨(.mov (.k (.bool false))), (some 2), none⟩] false) (.seq (.seq (.region [⟨(.load (some 2) (.t 1)), (some 5), none⟩, ⟨(.call 71 [(.t 5)]), (some 6), none⟩, ⟨(.mov (.k (.int .i64 0))), (some 7), none⟩] false) (.block 0 (.loop m46_0))) (.seq (.region [⟨(.mov (.k (.bool true))), (some 2), none⟩] false) .ret)))
theorem has46 : Has cx 46 27 m46 [(.tmp 2)] :=
  ⟨⟨Try.f46, Try.f46.body.getD .skip, by kernel_rfl, by kernel_rfl, by kernel_rfl, by kernel_rfl, by kernel_rfl, by kernel_rfl⟩⟩
theorem lp46_1 (n b r : Nat) (hn : n ≤ 4) (hb : b < 65536) (hr : r < R2 n) (o : Out)
    (ho : (if allF (monoP b r) 0 n = true then (⟨.exit 2, [(1, .ptr 0 0), (6, .int .i64 (R2 n : Nat)), (7, .int .i64 r)], [⟨[.int .i64 n, .int .i64 b], 1, 0, some 0, true⟩]⟩ : Out) else ⟨.ret, [(2, .bool false)], []⟩) = o) :
    LpS cx 27 0 m46_1 [(1, .ptr 0 0), (3, .int .i64 r), (6, .int .i64 (R2 n : Nat)), (7, .int .i64 r), (11, .int .i64 n), (12, .int .i64 (0 : Nat))] [⟨[.int .i64 n, .int .i64 b], 1, 0, some 0, true⟩] o.x o.e o.h := by
  obtain ⟨h1, h2, h3, h4⟩ := shN hn
  refine lp_all n (monoP b r) (fun j => [(1, .ptr 0 0), (3, .int .i64 r), (6, .int .i64 (R2 n : Nat)), (7, .int .i64 r), (11, .int .i64 n), (12, .int .i64 (j : Nat))]) (fun _ => [⟨[.int .i64 n, .int .i64 b], 1, 0, some 0, true⟩]) _ _ ?_ ?_ ?_ n 0 o (by omega) ho
  · intro j hj hp
    have h5 := R2_le hj
    have h6 := or_lt hr (show R2 j < R2 n by omega)
    have h7 : decide ((j : Int) < (n : Nat)) = true := decide_eq_true (by omega)
    have h8 : decide (((bt b r : Nat) : Int) > (bt b (r ||| R2 j) : Nat)) = false := by simp only [monoP, decide_eq_true_eq] at hp; exact decide_eq_false (by omega)
    unfold m46_1
    repeat' (first
      | (refine g_op ?_; first
        | refine ep_mov rfl ?_ | refine sp_loadN rfl rfl rfl rfl rfl ?_
        | refine ep_call0 rfl (by first | exact ev73 _ _ _ (by omega) (by omega)) rfl rfl ?_
        | refine sp_call rfl rfl rfl rfl (by first | exact ev73 _ _ _ (by omega) (by omega)) ⟨rfl, rfl, rfl, rfl⟩ rfl rfl rfl ?_
        | refine ep_callw0 rfl (by first | exact ev73 _ _ _ (by omega) (by omega)) rfl rfl ?_
        | refine sp_callw rfl rfl rfl rfl (by first | exact ev73 _ _ _ (by omega) (by omega)) ⟨rfl, rfl, rfl, rfl⟩ rfl rfl rfl (by first | exact WrP_refl _ _ | (repeat' (first | exact rfl | exact True.intro | refine And.intro ?_ ?_))) ?_
        | refine ep_bin rfl rfl (by first | exact b_shl1 (by omega) (by omega) | exact b_add (by omega) (by omega) | exact b_or (by omega) (by omega) | exact b_shl (by omega) (by omega) | exact b_lss | exact b_gtr) ?_)
      | (refine g_ops ?_; first | refine eo_none ?_ | refine eo_nil ?_)
      | (refine g_dops ?_; first | refine ed_none ?_ | refine ed_nil ?_)
      | refine ed_same rfl ?_ | refine ed_one rfl rfl rfl rfl ?_ | refine ed_two rfl rfl rfl rfl rfl rfl rfl ?_ | refine ed_write rfl rfl ?_
      | (refine g_code ?_; first | refine ec_seq ?_ | refine ec_region ?_ | refine ec_draw ?_ | refine ec_block ?_ | refine ec_skip ?_ | refine ec_exit ?_ | refine ec_ret ?_ | refine ec_condT rfl ?_ | refine ec_condF rfl ?_ | refine ec_condTH rfl (by assumption) ?_ | refine ec_condFH rfl (by assumption) ?_)
      | refine ek_seqN ?_ | refine ek_seqX ?_ | refine ek_seqR ?_ | refine ek_blkN ?_ | refine ek_blkR ?_ | refine ek_blkX ?_ | refine ek_blkY rfl ?_)
    exact rnd_on (by rfl) (scmp (by rfl) (by rfl) (by exact ⟨rfl, rfl, rfl⟩) (by rfl) (by rfl) (by rfl))
  · intro j hj hp
    have h5 := R2_le hj
    have h6 := or_lt hr (show R2 j < R2 n by omega)
    have h7 : decide ((j : Int) < (n : Nat)) = true := decide_eq_true (by omega)
    have h8 : decide (((bt b r : Nat) : Int) > (bt b (r ||| R2 j) : Nat)) = true := by simp only [monoP, decide_eq_false_iff_not] at hp; exact decide_eq_true (by omega)
    unfold m46_1
    repeat' (first
      | (refine g_op ?_; first
        | refine ep_mov rfl ?_ | refine sp_loadN rfl rfl rfl rfl rfl ?_
        | refine ep_call0 rfl (by first | exact ev73 _ _ _ (by omega) (by omega)) rfl rfl ?_
        | refine sp_call rfl rfl rfl rfl (by first | exact ev73 _ _ _ (by omega) (by omega)) ⟨rfl, rfl, rfl, rfl⟩ rfl rfl rfl ?_
        | refine ep_callw0 rfl (by first | exact ev73 _ _ _ (by omega) (by omega)) rfl rfl ?_
        | refine sp_callw rfl rfl rfl rfl (by first | exact ev73 _ _ _ (by omega) (by omega)) ⟨rfl, rfl, rfl, rfl⟩ rfl rfl rfl (by first | exact WrP_refl _ _ | (repeat' (first | exact rfl | exact True.intro | refine And.intro ?_ ?_))) ?_
        | refine ep_bin rfl rfl (by first | exact b_shl1 (by omega) (by omega) | exact b_add (by omega) (by omega) | exact b_or (by omega) (by omega) | exact b_shl (by omega) (by omega) | exact b_lss | exact b_gtr) ?_)
      | (refine g_ops ?_; first | refine eo_none ?_ | refine eo_nil ?_)
      | (refine g_dops ?_; first | refine ed_none ?_ | refine ed_nil ?_)
      | refine ed_same rfl ?_ | refine ed_one rfl rfl rfl rfl ?_ | refine ed_two rfl rfl rfl rfl rfl rfl rfl ?_ | refine ed_write rfl rfl ?_
      | (refine g_code ?_; first | refine ec_seq ?_ | refine ec_region ?_ | refine ec_draw ?_ | refine ec_block ?_ | refine ec_skip ?_ | refine ec_exit ?_ | refine ec_ret ?_ | refine ec_condT rfl ?_ | refine ec_condF rfl ?_ | refine ec_condTH rfl (by assumption) ?_ | refine ec_condFH rfl (by assumption) ?_)
      | refine ek_seqN ?_ | refine ek_seqX ?_ | refine ek_seqR ?_ | refine ek_blkN ?_ | refine ek_blkR ?_ | refine ek_blkX ?_ | refine ek_blkY rfl ?_)
    exact rnd_out (by rfl) (by simp) (scmp (by rfl) (by rfl) (by exact ⟨rfl, rfl, rfl⟩) (by rfl) (by rfl) (by rfl))
  · have h7 : decide ((n : Int) < (n : Nat)) = false := decide_eq_false (by omega)
    unfold m46_1
    repeat' (first
      | (refine g_op ?_; first
        | refine ep_mov rfl ?_ | refine sp_loadN rfl rfl rfl rfl rfl ?_
        | refine ep_bin rfl rfl (by first | exact b_add (by omega) (by omega) | exact b_or (by omega) (by omega) | exact b_shl (by omega) (by omega) | exact b_lss | exact b_gtr) ?_)
      | (refine g_ops ?_; first | refine eo_none ?_ | refine eo_nil ?_)
      | (refine g_dops ?_; first | refine ed_none ?_ | refine ed_nil ?_)
      | refine ed_same rfl ?_ | refine ed_one rfl rfl rfl rfl ?_ | refine ed_two rfl rfl rfl rfl rfl rfl rfl ?_ | refine ed_write rfl rfl ?_
      | (refine g_code ?_; first | refine ec_seq ?_ | refine ec_region ?_ | refine ec_draw ?_ | refine ec_block ?_ | refine ec_skip ?_ | refine ec_exit ?_ | refine ec_ret ?_ | refine ec_condT rfl ?_ | refine ec_condF rfl ?_ | refine ec_condTH rfl (by assumption) ?_ | refine ec_condFH rfl (by assumption) ?_)
      | refine ek_seqN ?_ | refine ek_seqX ?_ | refine ek_seqR ?_ | refine ek_blkN ?_ | refine ek_blkR ?_ | refine ek_blkX ?_ | refine ek_blkY rfl ?_)
    exact rnd_out (by rfl) (by simp) (scmp (by rfl) (by rfl) (by exact ⟨rfl, rfl, rfl⟩) (by rfl) (by rfl) (by rfl))
theorem lp46_0 (n b : Nat) (hn : n ≤ 4) (hb : b < 65536) (o : Out) (ho : (if monoB n b = true then (⟨.exit 0, [], []⟩ : Out) else ⟨.ret, [(2, .bool false)], []⟩) = o) :
    LpS cx 27 0 m46_0 [(1, .ptr 0 0), (6, .int .i64 (R2 n : Nat)), (7, .int .i64 (0 : Nat))] [⟨[.int .i64 n, .int .i64 b], 1, 0, some 0, true⟩] o.x o.e o.h := by
  obtain ⟨h1, h2, h3, h4⟩ := shN hn
  refine lp_all (R2 n) (fun r => allF (monoP b r) 0 n) (fun r => [(1, .ptr 0 0), (6, .int .i64 (R2 n : Nat)), (7, .int .i64 (r : Nat))]) (fun _ => [⟨[.int .i64 n, .int .i64 b], 1, 0, some 0, true⟩]) _ _ ?_ ?_ ?_ (R2 n) 0 o (by omega) ho
  · intro r hr hp
    have h7 : decide ((r : Int) < (R2 n : Nat)) = true := decide_eq_true (by omega)
    have lp := lp46_1 n b r hn hb hr _ (if_pos hp)
    unfold m46_0
    repeat' (first
      | refine sc_loop lp rfl rfl ⟨rfl, rfl, rfl⟩ rfl rfl rfl ?_
      | (refine g_op ?_; first
        | refine ep_mov rfl ?_ | refine ep_load1 rfl rfl rfl rfl ?_ | refine ep_fieldAddr rfl ?_
        | refine ep_bin rfl rfl (by first | exact b_add (by omega) (by omega) | exact b_lss) ?_)
      | (refine g_ops ?_; first | refine eo_none ?_ | refine eo_nil ?_)
      | (refine g_code ?_; first | refine ec_seq ?_ | refine ec_region ?_ | refine ec_block ?_ | refine ec_skip ?_ | refine ec_exit ?_ | refine ec_condT rfl ?_ | refine ec_condF rfl ?_ | refine ec_condTH rfl (by assumption) ?_ | refine ec_condFH rfl (by assumption) ?_)
      | refine ek_seqN ?_ | refine ek_seqX ?_ | refine ek_seqR ?_ | refine ek_blkN ?_ | refine ek_blkR ?_ | refine ek_blkX ?_ | refine ek_blkY rfl ?_)
    exact rnd_on (by rfl) (scmp (by rfl) (by rfl) (by exact ⟨rfl, rfl, rfl⟩) (by rfl) (by rfl) (by rfl))
  · intro r hr hp
    have h7 : decide ((r : Int) < (R2 n : Nat)) = true := decide_eq_true (by omega)
    have lp := lp46_1 n b r hn hb hr _ (if_neg (by rw [hp]; simp))
    unfold m46_0
    repeat' (first
      | refine sc_loop lp rfl rfl ⟨rfl, rfl, rfl⟩ rfl rfl rfl ?_
      | (refine g_op ?_; first
        | refine ep_mov rfl ?_ | refine ep_load1 rfl rfl rfl rfl ?_ | refine ep_fieldAddr rfl ?_
        | refine ep_bin rfl rfl (by first | exact b_add (by omega) (by omega) | exact b_lss) ?_)
      | (refine g_ops ?_; first | refine eo_none ?_ | refine eo_nil ?_)
      | (refine g_code ?_; first | refine ec_seq ?_ | refine ec_region ?_ | refine ec_block ?_ | refine ec_skip ?_ | refine ec_exit ?_ | refine ec_condT rfl ?_ | refine ec_condF rfl ?_ | refine ec_condTH rfl (by assumption) ?_ | refine ec_condFH rfl (by assumption) ?_)
      | refine ek_seqN ?_ | refine ek_seqX ?_ | refine ek_seqR ?_ | refine ek_blkN ?_ | refine ek_blkR ?_ | refine ek_blkX ?_ | refine ek_blkY rfl ?_)
    exact rnd_out (by rfl) (by simp) (scmp (by rfl) (by rfl) (by exact ⟨rfl, rfl, rfl⟩) (by rfl) (by rfl) (by rfl))
  · have h7 : decide (((R2 n : Nat) : Int) < (R2 n : Nat)) = false := decide_eq_false (by omega)
    unfold m46_0
    repeat' (first
      | (refine g_op ?_; first
        | refine ep_mov rfl ?_ | refine ep_load1 rfl rfl rfl rfl ?_ | refine ep_fieldAddr rfl ?_
        | refine ep_bin rfl rfl (by first | exact b_add (by omega) (by omega) | exact b_lss) ?_)
      | (refine g_ops ?_; first | refine eo_none ?_ | refine eo_nil ?_)
      | (refine g_code ?_; first | refine ec_seq ?_ | refine ec_region ?_ | refine ec_block ?_ | refine ec_skip ?_ | refine ec_exit ?_ | refine ec_condT rfl ?_ | refine ec_condF rfl ?_ | refine ec_condTH rfl (by assumption) ?_ | refine ec_condFH rfl (by assumption) ?_)
      | refine ek_seqN ?_ | refine ek_seqX ?_ | refine ek_seqR ?_ | refine ek_blkN ?_ | refine ek_blkR ?_ | refine ek_blkX ?_ | refine ek_blkY rfl ?_)
    exact rnd_out (by rfl) (by simp) (scmp (by rfl) (by rfl) (by exact ⟨rfl, rfl, rfl⟩) (by rfl) (by rfl) (by rfl))
theorem ev46 (n b : Nat) (hn : n ≤ 4) (hb : b < 65536) : Ev cx 46 [.agg [.int .i64 n, .int .i64 b]] [] (.bool (monoB n b)) [] := by
  cases h : monoB n b
  · have lp := lp46_0 n b hn hb _ (if_neg (by rw [h]; simp))
    refine has46.eev rfl rfl ?_
    unfold m46
    repeat' (first
      | refine sc_loop lp rfl rfl ⟨rfl, rfl, rfl⟩ rfl rfl rfl ?_
      | (refine g_op ?_; first
        | refine ep_mov rfl ?_ | refine sp_loadN rfl rfl rfl rfl rfl ?_
        | refine ep_call0 rfl (by first | exact ev71 _ _ hn) rfl rfl ?_
        | refine sp_call rfl rfl rfl rfl (by first | exact ev71 _ _ hn) ⟨rfl, rfl, rfl, rfl⟩ rfl rfl rfl ?_
        | refine sp_box rfl rfl rfl rfl rfl ?_)
      | (refine g_ops ?_; first | refine eo_none ?_ | refine eo_nil ?_)
      | (refine g_code ?_; first | refine ec_seq ?_ | refine ec_region ?_ | refine ec_block ?_ | refine ec_ret ?_)
      | refine ek_seqN ?_ | refine ek_seqX ?_ | refine ek_seqR ?_ | refine ek_blkN ?_ | refine ek_blkR ?_ | refine ek_blkX ?_ | refine ek_blkY rfl ?_)
    refine sfin (.inr rfl) (by rfl) (by rfl) (by exact ⟨rfl, rfl, rfl⟩) (by rfl) (by rfl) (by rfl) (by first | rfl | (simp; done) | (simp [ints, prs]; done))
  · have lp := lp46_0 n b hn hb _ (if_pos h)
    refine has46.eev rfl rfl ?_
    unfold m46
    repeat' (first
      | refine sc_loop lp rfl rfl ⟨rfl, rfl, rfl⟩ rfl rfl rfl ?_
      | (refine g_op ?_; first
        | refine ep_mov rfl ?_ | refine sp_loadN rfl rfl rfl rfl rfl ?_
        | refine ep_call0 rfl (by first | exact ev71 _ _ hn) rfl rfl ?_
        | refine sp_call rfl rfl rfl rfl (by first | exact ev71 _ _ hn) ⟨rfl, rfl, rfl, rfl⟩ rfl rfl rfl ?_
        | refine sp_box rfl rfl rfl rfl rfl ?_)
      | (refine g_ops ?_; first | refine eo_none ?_ | refine eo_nil ?_)
      | (refine g_code ?_; first | refine ec_seq ?_ | refine ec_region ?_ | refine ec_block ?_ | refine ec_ret ?_)
      | refine ek_seqN ?_ | refine ek_seqX ?_ | refine ek_seqR ?_ | refine ek_blkN ?_ | refine ek_blkR ?_ | refine ek_blkX ?_ | refine ek_blkY rfl ?_)
    refine sfin (.inr rfl) (by rfl) (by rfl) (by exact ⟨rfl, rfl, rfl⟩) (by rfl) (by rfl) (by rfl) (by first | rfl | (simp; done) | (simp [ints, prs]; done))
-- impl.IsFunc
def m27 : MC := (.seq (.region [⟨(.box (.t 0)), (some 1), none⟩, ⟨(.mov (.k (.bool false))), (some 2), none⟩] false) (.seq (.region [⟨(.fieldAddr 0 (.t 1)), (some 3), none⟩, ⟨(.load none (.t 3)), (some 4), none⟩, ⟨(.callw 31 [(.t 4)]), (some 5), none⟩, ⟨(.mov (.t 5)), (some 6), none⟩, ⟨(.fieldAddr 1 (.t 1)), (some 7), (some (6, true))⟩, ⟨(.load none (.t 7)), (some 8), (some (6, true))⟩, ⟨(.fieldAddr 0 (.t 1)), (some 9), (some (6, true))⟩, ⟨(.load none (.t 9)), (some 10), (some (6, true))⟩, ⟨(.call 64 [(.t 10)]), (some 11), (some (6, true))⟩, ⟨(.bin .sub (.t 11) (.k (.int .i64 1))), (some 12), (some (6, true))⟩, ⟨(.callw 36 [(.t 8), (.k (.int .i64 0)), (.t 12)]), (some 13), (some (6, true))⟩, ⟨(.pick (.t 6) (.t 13) (.k (.bool false))), (some 14), none⟩, ⟨(.mov (.t 14)), (some 2), none⟩] true) .ret))
theorem has27 : Has cx 27 15 m27 [(.tmp 2)] :=
  ⟨⟨Try.f27, Try.f27.body.getD .skip, by kernel_rfl, by kernel_rfl, by kernel_rfl, by kernel_rfl, by kernel_rfl, by kernel_rfl⟩⟩
theorem ev27 (p t : Int) : Ev cx 27 [.agg [.int .i64 p, .int .i64 t]] [] (.bool (isFn p t)) [] := by
  by_cases h1 : 0 ≤ p ∧ p ≤ 4
  · have h2 : decide (0 ≤ p ∧ p ≤ 4) = true := decide_eq_true h1
    obtain ⟨n, rfl⟩ := Int.eq_ofNat_of_zero_le (show 0 ≤ p by omega)
    have h3 : n ≤ 4 := by omega
    obtain ⟨h4, h5, h6, h7⟩ := shN h3
    refine has27.eev rfl rfl ?_
    unfold m27
    repeat' (first
      | (refine g_op ?_; first
        | refine ep_mov rfl ?_ | refine ep_load1 rfl rfl rfl rfl ?_ | refine ep_fieldAddr rfl ?_
        | refine ep_call0 rfl (by first | exact ev31 _ | exact ev36 _ _ _ | exact ev64 _ h3) rfl rfl ?_
        | refine sp_call rfl rfl rfl rfl (by first | exact ev31 _ | exact ev36 _ _ _ | exact ev64 _ h3) ⟨rfl, rfl, rfl, rfl⟩ rfl rfl rfl ?_
        | refine ep_callw0 rfl (by first | exact ev31 _ | exact ev36 _ _ _ | exact ev64 _ h3) rfl rfl ?_
        | refine sp_callw rfl rfl rfl rfl (by first | exact ev31 _ | exact ev36 _ _ _ | exact ev64 _ h3) ⟨rfl, rfl, rfl, rfl⟩ rfl rfl rfl (by first | exact WrP_refl _ _ | (repeat' (first | exact rfl | exact True.intro | refine And.intro ?_ ?_))) ?_
        | refine ep_bin rfl rfl (by exact b_sub (by omega) (by omega)) ?_ | refine ep_pickT rfl rfl ?_ | refine ep_pickF rfl rfl ?_ | refine ep_pickTH rfl (by assumption) rfl ?_ | refine ep_pickFH rfl (by assumption) rfl ?_
        | refine sp_box rfl rfl rfl rfl rfl ?_)
      | (refine g_ops ?_; first | refine eo_none ?_ | refine eo_nil ?_ | refine eo_yes rfl ?_ | refine eo_no rfl ?_ | refine eo_und rfl ?_ | refine eo_yesH rfl (by assumption) ?_ | refine eo_noH rfl (by assumption) ?_)
      | (refine g_dops ?_; first | refine ed_none ?_ | refine ed_nil ?_ | refine ed_yes rfl ?_ | refine ed_no rfl ?_ | refine ed_und rfl ?_ | refine ed_yesH rfl (by assumption) ?_ | refine ed_noH rfl (by assumption) ?_)
      | refine ed_same rfl ?_ | refine ed_one rfl rfl rfl rfl ?_ | refine ed_two rfl rfl rfl rfl rfl rfl rfl ?_ | refine ed_write rfl rfl ?_
      | (refine g_code ?_; first | refine ec_seq ?_ | refine ec_region ?_ | refine ec_draw ?_ | refine ec_ret ?_)
      | refine ek_seqN ?_ | refine ek_seqR ?_)
    refine sfin (.inr rfl) (by rfl) (by rfl) (by exact ⟨rfl, rfl, rfl⟩) (by rfl) (by rfl) (by exact congrArg V.bool (by simp [isFn, h1])) (by first | rfl | (simp; done) | (simp [ints, prs]; done))
  · have h2 : decide (0 ≤ p ∧ p ≤ 4) = false := decide_eq_false h1
    refine has27.eev rfl rfl ?_
    unfold m27
    repeat' (first
      | (refine g_op ?_; first
        | refine ep_mov rfl ?_ | refine ep_load1 rfl rfl rfl rfl ?_ | refine ep_fieldAddr rfl ?_
        | refine ep_call0 rfl (by first | exact ev31 _ | exact ev36 _ _ _) rfl rfl ?_
        | refine sp_call rfl rfl rfl rfl (by first | exact ev31 _ | exact ev36 _ _ _) ⟨rfl, rfl, rfl, rfl⟩ rfl rfl rfl ?_
        | refine ep_callw0 rfl (by first | exact ev31 _ | exact ev36 _ _ _) rfl rfl ?_
        | refine sp_callw rfl rfl rfl rfl (by first | exact ev31 _ | exact ev36 _ _ _) ⟨rfl, rfl, rfl, rfl⟩ rfl rfl rfl (by first | exact WrP_refl _ _ | (repeat' (first | exact rfl | exact True.intro | refine And.intro ?_ ?_))) ?_
        | refine ep_bin rfl rfl (by exact b_sub (by omega) (by omega)) ?_ | refine ep_pickT rfl rfl ?_ | refine ep_pickF rfl rfl ?_ | refine ep_pickTH rfl (by assumption) rfl ?_ | refine ep_pickFH rfl (by assumption) rfl ?_
        | refine sp_box rfl rfl rfl rfl rfl ?_)
      | (refine g_ops ?_; first | refine eo_none ?_ | refine eo_nil ?_ | refine eo_yes rfl ?_ | refine eo_no rfl ?_ | refine eo_und rfl ?_ | refine eo_yesH rfl (by assumption) ?_ | refine eo_noH rfl (by assumption) ?_)
      | (refine g_dops ?_; first | refine ed_none ?_ | refine ed_nil ?_ | refine ed_yes rfl ?_ | refine ed_no rfl ?_ | refine ed_und rfl ?_ | refine ed_yesH rfl (by assumption) ?_ | refine ed_noH rfl (by assumption) ?_)
      | refine ed_same rfl ?_ | refine ed_one rfl rfl rfl rfl ?_ | refine ed_two rfl rfl rfl rfl rfl rfl rfl ?_ | refine ed_write rfl rfl ?_
      | (refine g_code ?_; first | refine ec_seq ?_ | refine ec_region ?_ | refine ec_draw ?_ | refine ec_ret ?_)
      | refine ek_seqN ?_ | refine ek_seqR ?_)
    refine sfin (.inr rfl) (by rfl) (by rfl) (by exact ⟨rfl, rfl, rfl⟩) (by rfl) (by rfl) (by exact congrArg V.bool (by simp [isFn, h1])) (by first | rfl | (simp; done) | (simp [ints, prs]; done))
-- spec.l01Is
def m29 : MC := (.seq (.region [⟨(.box (.t 0)), (some 1), none⟩, ⟨(.mov (.k (.bool false))), (some 2), none⟩] false) (.seq (.region [⟨(.fieldAddr 0 (.t 1)), (some 3), none⟩, ⟨(.load none (.t 3)), (some 4), none⟩, ⟨(.callw 43 [(.t 4), (.k (.int .i64 0)), (.k (.int .i64 4))]), (some 5), none⟩, ⟨(.mov (.t 5)), (some 6), none⟩, ⟨(.fieldAddr 1 (.t 1)), (some 7), (some (6, true))⟩, ⟨(.load none (.t 7)), (some 8), (some (6, true))⟩, ⟨(.fieldAddr 0 (.t 1)), (some 9), (some (6, true))⟩, ⟨(.load none (.t 9)), (some 10), (some (6, true))⟩, ⟨(.call 61 [(.t 10)]), (some 11), (some (6, true))⟩, ⟨(.callw 43 [(.t 8), (.k (.int .i64 0)), (.t 11)]), (some 12), (some (6, true))⟩, ⟨(.pick (.t 6) (.t 12) (.k (.bool false))), (some 13), none⟩, ⟨(.mov (.t 13)), (some 2), none⟩] true) .ret))
theorem has29 : Has cx 29 14 m29 [(.tmp 2)] :=
  ⟨⟨Try.f29, Try.f29.body.getD .skip, by kernel_rfl, by kernel_rfl, by kernel_rfl, by kernel_rfl, by kernel_rfl, by kernel_rfl⟩⟩
theorem ev29 (p t : Int) : Ev cx 29 [.agg [.int .i64 p, .int .i64 t]] [] (.bool (isFn p t)) [] := by
  by_cases h1 : 0 ≤ p ∧ p ≤ 4
  · have h2 : decide (0 ≤ p ∧ p ≤ 4) = true := decide_eq_true h1
    obtain ⟨n, rfl⟩ := Int.eq_ofNat_of_zero_le (show 0 ≤ p by omega)
    have h3 : n ≤ 4 := by omega
    obtain ⟨h4, h5, h6, h7⟩ := shN h3
    refine has29.eev rfl rfl ?_
    unfold m29
    repeat' (first
      | (refine g_op ?_; first
        | refine ep_mov rfl ?_ | refine ep_load1 rfl rfl rfl rfl ?_ | refine ep_fieldAddr rfl ?_
        | refine ep_call0 rfl (by first | exact ev43 _ _ _ | exact ev61 _ h3) rfl rfl ?_
        | refine sp_call rfl rfl rfl rfl (by first | exact ev43 _ _ _ | exact ev61 _ h3) ⟨rfl, rfl, rfl, rfl⟩ rfl rfl rfl ?_
        | refine ep_callw0 rfl (by first | exact ev43 _ _ _ | exact ev61 _ h3) rfl rfl ?_
        | refine sp_callw rfl rfl rfl rfl (by first | exact ev43 _ _ _ | exact ev61 _ h3) ⟨rfl, rfl, rfl, rfl⟩ rfl rfl rfl (by first | exact WrP_refl _ _ | (repeat' (first | exact rfl | exact True.intro | refine And.intro ?_ ?_))) ?_
        | refine ep_pickT rfl rfl ?_ | refine ep_pickF rfl rfl ?_ | refine ep_pickTH rfl (by assumption) rfl ?_ | refine ep_pickFH rfl (by assumption) rfl ?_ | refine sp_box rfl rfl rfl rfl rfl ?_)
      | (refine g_ops ?_; first | refine eo_none ?_ | refine eo_nil ?_ | refine eo_yes rfl ?_ | refine eo_no rfl ?_ | refine eo_und rfl ?_ | refine eo_yesH rfl (by assumption) ?_ | refine eo_noH rfl (by assumption) ?_)
      | (refine g_dops ?_; first | refine ed_none ?_ | refine ed_nil ?_ | refine ed_yes rfl ?_ | refine ed_no rfl ?_ | refine ed_und rfl ?_ | refine ed_yesH rfl (by assumption) ?_ | refine ed_noH rfl (by assumption) ?_)
      | refine ed_same rfl ?_ | refine ed_one rfl rfl rfl rfl ?_ | refine ed_two rfl rfl rfl rfl rfl rfl rfl ?_ | refine ed_write rfl rfl ?_
      | (refine g_code ?_; first | refine ec_seq ?_ | refine ec_region ?_ | refine ec_draw ?_ | refine ec_ret ?_)
      | refine ek_seqN ?_ | refine ek_seqR ?_)
    refine sfin (.inr rfl) (by rfl) (by rfl) (by exact ⟨rfl, rfl, rfl⟩) (by rfl) (by rfl) (by exact congrArg V.bool (by simp [isFn, h1])) (by first | rfl | (simp; done) | (simp [ints, prs]; done))
  · have h2 : decide (0 ≤ p ∧ p ≤ 4) = false := decide_eq_false h1
    refine has29.eev rfl rfl ?_
    unfold m29
    repeat' (first
      | (refine g_op ?_; first
        | refine ep_mov rfl ?_ | refine ep_load1 rfl rfl rfl rfl ?_ | refine ep_fieldAddr rfl ?_
        | refine ep_call0 rfl (by first | exact ev43 _ _ _) rfl rfl ?_
        | refine sp_call rfl rfl rfl rfl (by first | exact ev43 _ _ _) ⟨rfl, rfl, rfl, rfl⟩ rfl rfl rfl ?_
        | refine ep_callw0 rfl (by first | exact ev43 _ _ _) rfl rfl ?_
        | refine sp_callw rfl rfl rfl rfl (by first | exact ev43 _ _ _) ⟨rfl, rfl, rfl, rfl⟩ rfl rfl rfl (by first | exact WrP_refl _ _ | (repeat' (first | exact rfl | exact True.intro | refine And.intro ?_ ?_))) ?_
        | refine ep_pickT rfl rfl ?_ | refine ep_pickF rfl rfl ?_ | refine ep_pickTH rfl (by assumption) rfl ?_ | refine ep_pickFH rfl (by assumption) rfl ?_ | refine sp_box rfl rfl rfl rfl rfl ?_)
      | (refine g_ops ?_; first | refine eo_none ?_ | refine eo_nil ?_ | refine eo_yes rfl ?_ | refine eo_no rfl ?_ | refine eo_und rfl ?_ | refine eo_yesH rfl (by assumption) ?_ | refine eo_noH rfl (by assumption) ?_)
      | (refine g_dops ?_; first | refine ed_none ?_ | refine ed_nil ?_ | refine ed_yes rfl ?_ | refine ed_no rfl ?_ | refine ed_und rfl ?_ | refine ed_yesH rfl (by assumption) ?_ | refine ed_noH rfl (by assumption) ?_)
      | refine ed_same rfl ?_ | refine ed_one rfl rfl rfl rfl ?_ | refine ed_two rfl rfl rfl rfl rfl rfl rfl ?_ | refine ed_write rfl rfl ?_
      | (refine g_code ?_; first | refine ec_seq ?_ | refine ec_region ?_ | refine ec_draw ?_ | refine ec_ret ?_)
      | refine ek_seqN ?_ | refine ek_seqR ?_)
    refine sfin (.inr rfl) (by rfl) (by rfl) (by exact ⟨rfl, rfl, rfl⟩) (by rfl) (by rfl) (by exact congrArg V.bool (by simp [isFn, h1])) (by first | rfl | (simp; done) | (simp [ints, prs]; done))
-- spec.l01At
def m52 : MC := (.seq (.region [⟨(.box (.t 0)), (some 2), none⟩, ⟨(.mov (.k (.int .i64 0))), (some 4), none⟩] false) (.seq (.region [⟨(.fieldAddr 1 (.t 2)), (some 5), none⟩, ⟨(.load none (.t 5)), (some 6), none⟩, ⟨(.mov (.t 1)), (some 7), none⟩, ⟨(.conv .u64 (.t 7)), (some 8), none⟩, ⟨(.bin .shr (.t 6) (.t 8)), (some 9), none⟩, ⟨(.bin .and (.t 9) (.k (.int .i64 1))), (some 10), none⟩, ⟨(.mov (.t 10)), (some 4), none⟩] false) .ret))
theorem has52 : Has cx 52 11 m52 [(.tmp 4)] :=
  ⟨⟨Try.f52, Try.f52.body.getD .skip, by kernel_rfl, by kernel_rfl, by kernel_rfl, by kernel_rfl, by kernel_rfl, by kernel_rfl⟩⟩
theorem ev52 (n : Int) (b r : Nat) (hb : b < 9223372036854775808) (hr : r ≤ 64) : Ev cx 52 [.agg [.int .i64 n, .int .i64 b], .int .i64 r] [] (.int .i64 (bt b r : Nat)) [] := by
  refine has52.eev rfl rfl ?_
  unfold m52
  repeat' (first
    | (refine g_op ?_; first
      | refine ep_mov rfl ?_ | refine ep_load1 rfl rfl rfl rfl ?_ | refine ep_fieldAddr rfl ?_
      | refine ep_bin rfl rfl (by first | exact b_shr hr | exact b_bt hb | exact b_and (by omega) (by omega) | exact b_shr (by omega)) ?_ | refine ep_conv rfl (by first | exact w_u64 (by omega) (by omega) | exact wrap_id (by omega) (by omega) | rfl) ?_
      | refine sp_box rfl rfl rfl rfl rfl ?_)
    | (refine g_ops ?_; first | refine eo_none ?_ | refine eo_nil ?_)
    | (refine g_code ?_; first | refine ec_seq ?_ | refine ec_region ?_ | refine ec_ret ?_)
    | refine ek_seqN ?_ | refine ek_seqR ?_)
  refine sfin (.inr rfl) (by rfl) (by rfl) (by exact ⟨rfl, rfl, rfl⟩) (by rfl) (by rfl) (by rfl) (by first | rfl | (simp; done) | (simp [ints, prs]; done))
-- spec.l07Monotone
def m47_1 : MC := (.seq (.seq (.region [⟨(.mov (.t 4)), (some 12), none⟩, ⟨(.fieldAddr 0 (.t 1)), (some 13), none⟩, ⟨(.load none (.t 13)), (some 14), none⟩, ⟨(.bin .lss (.t 12) (.t 14)), (some 15), none⟩] false) (.cond (.t 15) .skip (.exit 2))) (.seq (.block 3 (.seq (.region [⟨(.load (some 2) (.t 1)), (some 18), none⟩, ⟨(.mov (.t 3)), (some 19), none⟩, ⟨(.call 52 [(.t 18), (.t 19)]), (some 20), none⟩, ⟨(.bin .eql (.t 20) (.k (.int .i64 1))), (some 21), none⟩, ⟨(.mov (.t 21)), (some 22), none⟩, ⟨(.load (some 2) (.t 1)), (some 23), (some (22, true))⟩, ⟨(.mov (.t 3)), (some 24), (some (22, true))⟩, ⟨(.mov (.t 4)), (some 25), (some (22, true))⟩, ⟨(.conv .u64 (.t 25)), (some 26), (some (22, true))⟩, ⟨(.bin .shl (.k (.int .i64 1)) (.t 26)), (some 27), (some (22, true))⟩, ⟨(.bin .or (.t 24) (.t 27)), (some 28), (some (22, true))⟩, ⟨(.call 52 [(.t 23), (.t 28)]), (some 29), (some (22, true))⟩, ⟨(.bin .eql (.t 29) (.k (.int .i64 0))), (some 30), (some (22, true))⟩, ⟨(.pick (.t 22) (.t 30) (.k (.bool false))), (some 31), none⟩] false) (.cond (.t 31) (.seq (.region [⟨(.mov (.k (.bool false))), (some 2), none⟩] false) .ret) .skip))) (.region [⟨(.mov (.t 4)), (some 16), none⟩, ⟨(.bin .add (.t 16) (.k (.int .i64 1))), (some 17), none⟩, ⟨(.mov (.t 17)), (some 4), none⟩] false)))
def m47_0 : MC := (.seq (.seq (.region [⟨(.mov (.t 3)), (some 5), none⟩, ⟨(.fieldAddr 0 (.t 1)), (some 6), none⟩, ⟨(.load none (.t 6)), (some 7), none⟩, ⟨(.call 53 [(.t 7)]), (some 8), none⟩, ⟨(.bin .lss (.t 5) (.t 8)), (some 9), none⟩] false) (.cond (.t 9) .skip (.exit 0))) (.seq (.block 1 (.seq (.region [⟨(.mov (.k (.int .i64 0))), (some 4), none⟩] false) (.block 2 (.loop m47_1)))) (.region [⟨(.mov (.t 3)), (some 10), none⟩, ⟨(.bin .add (.t 10) (.k (.int .i64 1))), (some 11), none⟩, ⟨(.mov (.t 11)), (some 3), none⟩] false)))
def m47 : MC := (.seq (.region [⟨(.box (.t 0)), (some 1), none⟩, ⟨(.mov (.k (.bool false))), (some 2), none⟩] false) (.seq (.seq (.region [⟨(.mov (.k (.int .i64 0))), (some 3), none⟩] false) (.block 0 (.loop m47_0))) (.seq (.region [⟨(.mov (.k (.bool true))), (some 2), none⟩] false) .ret)))
theorem has47 : Has cx 47 32 m47 [(.tmp 2)] :=
  ⟨⟨Try.f47, Try.f47.body.getD .skip, by kernel_rfl, by kernel_rfl, by kernel_rfl, by kernel_rfl, by kernel_rfl, by kernel_rfl⟩⟩
theorem lp47_1 (n b r : Nat) (hn : n ≤ 4) (hb : b < 65536) (hr : r < R2 n) (o : Out)
    (ho : (if allF (monoP b r) 0 n = true then (⟨.exit 2, [(1, .ptr 0 0), (3, .int .i64 r)], [⟨[.int .i64 n, .int .i64 b], 1, 0, some 0, true⟩]⟩ : Out) else ⟨.ret, [(2, .bool false)], []⟩) = o) :
    LpS cx 32 0 m47_1 [(1, .ptr 0 0), (3, .int .i64 r), (4, .int .i64 (0 : Nat))] [⟨[.int .i64 n, .int .i64 b], 1, 0, some 0, true⟩] o.x o.e o.h := by
  obtain ⟨h1, h2, h3, h4⟩ := shN hn
  refine lp_all n (monoP b r) (fun j => [(1, .ptr 0 0), (3, .int .i64 r), (4, .int .i64 (j : Nat))]) (fun _ => [⟨[.int .i64 n, .int .i64 b], 1, 0, some 0, true⟩]) _ _ ?_ ?_ ?_ n 0 o (by omega) ho
  · intro j hj hp
    have h5 := R2_le hj
    have h6 := or_lt hr (show R2 j < R2 n by omega)
    have h7 : decide ((j : Int) < (n : Nat)) = true := decide_eq_true (by omega)
    simp only [monoP, decide_eq_true_eq] at hp
    by_cases hx : bt b r = 1
    · have h8 : (((bt b r : Nat) : Int) == 1) = true := by simp [hx]
      have h9 : (((bt b (r ||| R2 j) : Nat) : Int) == 0) = false := by
        have : bt b (r ||| R2 j) ≠ 0 := by omega
        simpa using this
      unfold m47_1
      repeat' (first
        | (refine g_op ?_; first
          | refine ep_mov rfl ?_ | refine ep_load1 rfl rfl rfl rfl ?_ | refine ep_fieldAddr rfl ?_ | refine sp_loadN rfl rfl rfl rfl rfl ?_
          | refine ep_call0 rfl (by first | exact ev52 _ _ _ (by omega) (by omega)) rfl rfl ?_
          | refine sp_call rfl rfl rfl rfl (by first | exact ev52 _ _ _ (by omega) (by omega)) ⟨rfl, rfl, rfl, rfl⟩ rfl rfl rfl ?_
          | refine ep_bin rfl rfl (by first | exact b_shl1 (by omega) (by omega) | exact b_add (by omega) (by omega) | exact b_or (by omega) (by omega) | exact b_shl (by omega) (by omega) | exact b_lss | exact b_eql) ?_
          | refine ep_pickT rfl rfl ?_ | refine ep_pickF rfl rfl ?_ | refine ep_pickTH rfl (by assumption) rfl ?_ | refine ep_pickFH rfl (by assumption) rfl ?_ | refine ep_conv rfl (by first | exact w_u64 (by omega) (by omega) | exact wrap_id (by omega) (by omega) | rfl) ?_)
        | (refine g_ops ?_; first | refine eo_none ?_ | refine eo_nil ?_ | refine eo_yes rfl ?_ | refine eo_no rfl ?_ | refine eo_und rfl ?_ | refine eo_yesH rfl (by assumption) ?_ | refine eo_noH rfl (by assumption) ?_)
        | (refine g_code ?_; first | refine ec_seq ?_ | refine ec_region ?_ | refine ec_block ?_ | refine ec_skip ?_ | refine ec_exit ?_ | refine ec_ret ?_ | refine ec_condT rfl ?_ | refine ec_condF rfl ?_ | refine ec_condTH rfl (by assumption) ?_ | refine ec_condFH rfl (by assumption) ?_)
        | refine ek_seqN ?_ | refine ek_seqX ?_ | refine ek_seqR ?_ | refine ek_blkN ?_ | refine ek_blkR ?_ | refine ek_blkX ?_ | refine ek_blkY rfl ?_)
      exact rnd_on (by rfl) (scmp (by rfl) (by rfl) (by exact ⟨rfl, rfl, rfl⟩) (by rfl) (by rfl) (by rfl))
    · have h8 : (((bt b r : Nat) : Int) == 1) = false := by
        simp only [beq_eq_false_iff_ne, ne_eq]; omega
      unfold m47_1
      repeat' (first
        | (refine g_op ?_; first
          | refine ep_mov rfl ?_ | refine ep_load1 rfl rfl rfl rfl ?_ | refine ep_fieldAddr rfl ?_ | refine sp_loadN rfl rfl rfl rfl rfl ?_
          | refine ep_call0 rfl (by first | exact ev52 _ _ _ (by omega) (by omega)) rfl rfl ?_
          | refine sp_call rfl rfl rfl rfl (by first | exact ev52 _ _ _ (by omega) (by omega)) ⟨rfl, rfl, rfl, rfl⟩ rfl rfl rfl ?_
          | refine ep_bin rfl rfl (by first | exact b_shl1 (by omega) (by omega) | exact b_add (by omega) (by omega) | exact b_or (by omega) (by omega) | exact b_shl (by omega) (by omega) | exact b_lss | exact b_eql) ?_
          | refine ep_pickT rfl rfl ?_ | refine ep_pickF rfl rfl ?_ | refine ep_pickTH rfl (by assumption) rfl ?_ | refine ep_pickFH rfl (by assumption) rfl ?_ | refine ep_conv rfl (by first | exact w_u64 (by omega) (by omega) | exact wrap_id (by omega) (by omega) | rfl) ?_)
        | (refine g_ops ?_; first | refine eo_none ?_ | refine eo_nil ?_ | refine eo_yes rfl ?_ | refine eo_no rfl ?_ | refine eo_und rfl ?_ | refine eo_yesH rfl (by assumption) ?_ | refine eo_noH rfl (by assumption) ?_)
        | (refine g_code ?_; first | refine ec_seq ?_ | refine ec_region ?_ | refine ec_block ?_ | refine ec_skip ?_ | refine ec_exit ?_ | refine ec_ret ?_ | refine ec_condT rfl ?_ | refine ec_condF rfl ?_ | refine ec_condTH rfl (by assumption) ?_ | refine ec_condFH rfl (by assumption) ?_)
        | refine ek_seqN ?_ | refine ek_seqX ?_ | refine ek_seqR ?_ | refine ek_blkN ?_ | refine ek_blkR ?_ | refine ek_blkX ?_ | refine ek_blkY rfl ?_)
      exact rnd_on (by rfl) (scmp (by rfl) (by rfl) (by exact ⟨rfl, rfl, rfl⟩) (by rfl) (by rfl) (by rfl))
  · intro j hj hp
    have h5 := R2_le hj
    have h6 := or_lt hr (show R2 j < R2 n by omega)
    have h7 : decide ((j : Int) < (n : Nat)) = true := decide_eq_true (by omega)
    simp only [monoP, decide_eq_false_iff_not, Classical.not_not] at hp
    have hx := bt_le b r
    have h8 : (((bt b r : Nat) : Int) == 1) = true := by simp only [beq_iff_eq]; omega
    have h9 : (((bt b (r ||| R2 j) : Nat) : Int) == 0) = true := by simp only [beq_iff_eq]; omega
    unfold m47_1
    repeat' (first
      | (refine g_op ?_; first
        | refine ep_mov rfl ?_ | refine ep_load1 rfl rfl rfl rfl ?_ | refine ep_fieldAddr rfl ?_ | refine sp_loadN rfl rfl rfl rfl rfl ?_
        | refine ep_call0 rfl (by first | exact ev52 _ _ _ (by omega) (by omega)) rfl rfl ?_
        | refine sp_call rfl rfl rfl rfl (by first | exact ev52 _ _ _ (by omega) (by omega)) ⟨rfl, rfl, rfl, rfl⟩ rfl rfl rfl ?_
        | refine ep_bin rfl rfl (by first | exact b_shl1 (by omega) (by omega) | exact b_add (by omega) (by omega) | exact b_or (by omega) (by omega) | exact b_shl (by omega) (by omega) | exact b_lss | exact b_eql) ?_
        | refine ep_pickT rfl rfl ?_ | refine ep_pickF rfl rfl ?_ | refine ep_pickTH rfl (by assumption) rfl ?_ | refine ep_pickFH rfl (by assumption) rfl ?_ | refine ep_conv rfl (by first | exact w_u64 (by omega) (by omega) | exact wrap_id (by omega) (by omega) | rfl) ?_)
      | (refine g_ops ?_; first | refine eo_none ?_ | refine eo_nil ?_ | refine eo_yes rfl ?_ | refine eo_no rfl ?_ | refine eo_und rfl ?_ | refine eo_yesH rfl (by assumption) ?_ | refine eo_noH rfl (by assumption) ?_)
      | (refine g_code ?_; first | refine ec_seq ?_ | refine ec_region ?_ | refine ec_block ?_ | refine ec_skip ?_ | refine ec_exit ?_ | refine ec_ret ?_ | refine ec_condT rfl ?_ | refine ec_condF rfl ?_ | refine ec_condTH rfl (by assumption) ?_ | refine ec_condFH rfl (by assumption) ?_)
      | refine ek_seqN ?_ | refine ek_seqX ?_ | refine ek_seqR ?_ | refine ek_blkN ?_ | refine ek_blkR ?_ | refine ek_blkX ?_ | refine ek_blkY rfl ?_)
    exact rnd_out (by rfl) (by simp) (scmp (by rfl) (by rfl) (by exact ⟨rfl, rfl, rfl⟩) (by rfl) (by rfl) (by rfl))
  · have h7 : decide ((n : Int) < (n : Nat)) = false := decide_eq_false (by omega)
    unfold m47_1
    repeat' (first
      | (refine g_op ?_; first
        | refine ep_mov rfl ?_ | refine ep_load1 rfl rfl rfl rfl ?_ | refine ep_fieldAddr rfl ?_ | refine sp_loadN rfl rfl rfl rfl rfl ?_
        | refine ep_bin rfl rfl (by first | exact b_add (by omega) (by omega) | exact b_or (by omega) (by omega) | exact b_shl (by omega) (by omega) | exact b_lss | exact b_eql) ?_ | refine ep_pickT rfl rfl ?_
        | refine ep_pickF rfl rfl ?_ | refine ep_pickTH rfl (by assumption) rfl ?_ | refine ep_pickFH rfl (by assumption) rfl ?_ | refine ep_conv rfl (by first | exact w_u64 (by omega) (by omega) | exact wrap_id (by omega) (by omega) | rfl) ?_)
      | (refine g_ops ?_; first | refine eo_none ?_ | refine eo_nil ?_ | refine eo_yes rfl ?_ | refine eo_no rfl ?_ | refine eo_und rfl ?_ | refine eo_yesH rfl (by assumption) ?_ | refine eo_noH rfl (by assumption) ?_)
      | (refine g_code ?_; first | refine ec_seq ?_ | refine ec_region ?_ | refine ec_block ?_ | refine ec_skip ?_ | refine ec_exit ?_ | refine ec_ret ?_ | refine ec_condT rfl ?_ | refine ec_condF rfl ?_ | refine ec_condTH rfl (by assumption) ?_ | refine ec_condFH rfl (by assumption) ?_)
      | refine ek_seqN ?_ | refine ek_seqX ?_ | refine ek_seqR ?_ | refine ek_blkN ?_ | refine ek_blkR ?_ | refine ek_blkX ?_ | refine ek_blkY rfl ?_)
    exact rnd_out (by rfl) (by simp) (scmp (by rfl) (by rfl) (by exact ⟨rfl, rfl, rfl⟩) (by rfl) (by rfl) (by rfl))
theorem lp47_0 (n b : Nat) (hn : n ≤ 4) (hb : b < 65536) (o : Out) (ho : (if monoB n b = true then (⟨.exit 0, [], []⟩ : Out) else ⟨.ret, [(2, .bool false)], []⟩) = o) :
    LpS cx 32 0 m47_0 [(1, .ptr 0 0), (3, .int .i64 (0 : Nat))] [⟨[.int .i64 n, .int .i64 b], 1, 0, some 0, true⟩] o.x o.e o.h := by
  obtain ⟨h1, h2, h3, h4⟩ := shN hn
  refine lp_all (R2 n) (fun r => allF (monoP b r) 0 n) (fun r => [(1, .ptr 0 0), (3, .int .i64 (r : Nat))]) (fun _ => [⟨[.int .i64 n, .int .i64 b], 1, 0, some 0, true⟩]) _ _ ?_ ?_ ?_ (R2 n) 0 o (by omega) ho
  · intro r hr hp
    have h7 : decide ((r : Int) < (R2 n : Nat)) = true := decide_eq_true (by omega)
    have lp := lp47_1 n b r hn hb hr _ (if_pos hp)
    unfold m47_0
    repeat' (first
      | refine sc_loop lp rfl rfl ⟨rfl, rfl, rfl⟩ rfl rfl rfl ?_
      | (refine g_op ?_; first
        | refine ep_mov rfl ?_ | refine ep_load1 rfl rfl rfl rfl ?_ | refine ep_fieldAddr rfl ?_
        | refine ep_call0 rfl (by first | exact ev53 _ hn) rfl rfl ?_
        | refine sp_call rfl rfl rfl rfl (by first | exact ev53 _ hn) ⟨rfl, rfl, rfl, rfl⟩ rfl rfl rfl ?_
        | refine ep_bin rfl rfl (by first | exact b_add (by omega) (by omega) | exact b_lss) ?_)
      | (refine g_ops ?_; first | refine eo_none ?_ | refine eo_nil ?_)
      | (refine g_code ?_; first | refine ec_seq ?_ | refine ec_region ?_ | refine ec_block ?_ | refine ec_skip ?_ | refine ec_exit ?_ | refine ec_condT rfl ?_ | refine ec_condF rfl ?_ | refine ec_condTH rfl (by assumption) ?_ | refine ec_condFH rfl (by assumption) ?_)
      | refine ek_seqN ?_ | refine ek_seqX ?_ | refine ek_seqR ?_ | refine ek_blkN ?_ | refine ek_blkR ?_ | refine ek_blkX ?_ | refine ek_blkY rfl ?_)
    exact rnd_on (by rfl) (scmp (by rfl) (by rfl) (by exact ⟨rfl, rfl, rfl⟩) (by rfl) (by rfl) (by rfl))
  · intro r hr hp
    have h7 : decide ((r : Int) < (R2 n : Nat)) = true := decide_eq_true (by omega)
    have lp := lp47_1 n b r hn hb hr _ (if_neg (by rw [hp]; simp))
    unfold m47_0
    repeat' (first
      | refine sc_loop lp rfl rfl ⟨rfl, rfl, rfl⟩ rfl rfl rfl ?_
      | (refine g_op ?_; first
        | refine ep_mov rfl ?_ | refine ep_load1 rfl rfl rfl rfl ?_ | refine ep_fieldAddr rfl ?_
        | refine ep_call0 rfl (by first | exact ev53 _ hn) rfl rfl ?_
        | refine sp_call rfl rfl rfl rfl (by first | exact ev53 _ hn) ⟨rfl, rfl, rfl, rfl⟩ rfl rfl rfl ?_
        | refine ep_bin rfl rfl (by first | exact b_add (by omega) (by omega) | exact b_lss) ?_)
      | (refine g_ops ?_; first | refine eo_none ?_ | refine eo_nil ?_)
      | (refine g_code ?_; first | refine ec_seq ?_ | refine ec_region ?_ | refine ec_block ?_ | refine ec_skip ?_ | refine ec_exit ?_ | refine ec_condT rfl ?_ | refine ec_condF rfl ?_ | refine ec_condTH rfl (by assumption) ?_ | refine ec_condFH rfl (by assumption) ?_)
      | refine ek_seqN ?_ | refine ek_seqX ?_ | refine ek_seqR ?_ | refine ek_blkN ?_ | refine ek_blkR ?_ | refine ek_blkX ?_ | refine ek_blkY rfl ?_)
    exact rnd_out (by rfl) (by simp) (scmp (by rfl) (by rfl) (by exact ⟨rfl, rfl, rfl⟩) (by rfl) (by rfl) (by rfl))
  · have h7 : decide (((R2 n : Nat) : Int) < (R2 n : Nat)) = false := decide_eq_false (by omega)
    unfold m47_0
    repeat' (first
      | (refine g_op ?_; first
        | refine ep_mov rfl ?_ | refine ep_load1 rfl rfl rfl rfl ?_ | refine ep_fieldAddr rfl ?_
        | refine ep_call0 rfl (by first | exact ev53 _ hn) rfl rfl ?_
        | refine sp_call rfl rfl rfl rfl (by first | exact ev53 _ hn) ⟨rfl, rfl, rfl, rfl⟩ rfl rfl rfl ?_
        | refine ep_bin rfl rfl (by first | exact b_add (by omega) (by omega) | exact b_lss) ?_)
      | (refine g_ops ?_; first | refine eo_none ?_ | refine eo_nil ?_)
      | (refine g_code ?_; first | refine ec_seq ?_ | refine ec_region ?_ | refine ec_block ?_ | refine ec_skip ?_ | refine ec_exit ?_ | refine ec_condT rfl ?_ | refine ec_condF rfl ?_ | refine ec_condTH rfl (by assumption) ?_ | refine ec_condFH rfl (by assumption) ?_)
      | refine ek_seqN ?_ | refine ek_seqX ?_ | refine ek_seqR ?_ | refine ek_blkN ?_ | refine ek_blkR ?_ | refine ek_blkX ?_ | refine ek_blkY rfl ?_)
    exact rnd_out (by rfl) (by simp) (scmp (by rfl) (by rfl) (by exact ⟨rfl, rfl, rfl⟩) (by rfl) (by rfl) (by rfl))
theorem ev47 (n b : Nat) (hn : n ≤ 4) (hb : b < 65536) : Ev cx 47 [.agg [.int .i64 n, .int .i64 b]] [] (.bool (monoB n b)) [] := by
  cases h : monoB n b
  · have lp := lp47_0 n b hn hb _ (if_neg (by rw [h]; simp))
    refine has47.eev rfl rfl ?_
    unfold m47
    repeat' (first
      | refine sc_loop lp rfl rfl ⟨rfl, rfl, rfl⟩ rfl rfl rfl ?_
      | (refine g_op ?_; first
        | refine ep_mov rfl ?_
        | refine sp_box rfl rfl rfl rfl rfl ?_)
      | (refine g_ops ?_; first | refine eo_none ?_ | refine eo_nil ?_)
      | (refine g_code ?_; first | refine ec_seq ?_ | refine ec_region ?_ | refine ec_block ?_ | refine ec_ret ?_)
      | refine ek_seqN ?_ | refine ek_seqX ?_ | refine ek_seqR ?_ | refine ek_blkN ?_ | refine ek_blkR ?_ | refine ek_blkX ?_ | refine ek_blkY rfl ?_)
    refine sfin (.inr rfl) (by rfl) (by rfl) (by exact ⟨rfl, rfl, rfl⟩) (by rfl) (by rfl) (by rfl) (by first | rfl | (simp; done) | (simp [ints, prs]; done))
  · have lp := lp47_0 n b hn hb _ (if_pos h)
    refine has47.eev rfl rfl ?_
    unfold m47
    repeat' (first
      | refine sc_loop lp rfl rfl ⟨rfl, rfl, rfl⟩ rfl rfl rfl ?_
      | (refine g_op ?_; first
        | refine ep_mov rfl ?_
        | refine sp_box rfl rfl rfl rfl rfl ?_)
      | (refine g_ops ?_; first | refine eo_none ?_ | refine eo_nil ?_)
      | (refine g_code ?_; first | refine ec_seq ?_ | refine ec_region ?_ | refine ec_block ?_ | refine ec_ret ?_)
      | refine ek_seqN ?_ | refine ek_seqX ?_ | refine ek_seqR ?_ | refine ek_blkN ?_ | refine ek_blkR ?_ | refine ek_blkX ?_ | refine ek_blkY rfl ?_)
    refine sfin (.inr rfl) (by rfl) (by rfl) (by exact ⟨rfl, rfl, rfl⟩) (by rfl) (by rfl) (by rfl) (by first | rfl | (simp; done) | (simp [ints, prs]; done))
def strP (b i j r : Nat) : Bool := !(decide (bt r i = 0) && decide (bt r j = 0) && decide (bt b (r ||| R2 i) < bt b (r ||| R2 j)))
def strB (n b i j : Nat) : Bool := allF (strP b i j) 0 (R2 n)
-- (impl.Func).isAsStrong
def m37_0 : MC := (.seq (.region [⟨(.bin .lss (.t 10) (.t 9)), (some 11), none⟩] false) (.seq (.cond (.t 11) .skip (.exit 0)) (.seq (.block 1 (.seq (.region [⟨(.mov (.t 10)), (some 12), none⟩, ⟨(.mov (.t 12)), (some 7), none⟩] false) (.seq (.region [⟨(.mov (.t 7)), (some 13), none⟩, ⟨(.mov (.t 1)), (some 14), none⟩, ⟨(.callw 72 [(.t 13), (.t 14)]), (some 15), none⟩, ⟨(.bin .eql (.t 15) (.k (.int .i64 0))), (some 16), none⟩, ⟨(.mov (.t 16)), (some 17), none⟩, ⟨(.mov (.t 7)), (some 18), (some (17, true))⟩, ⟨(.mov (.t 2)), (some 19), (some (17, true))⟩, ⟨(.callw 72 [(.t 18), (.t 19)]), (some 20), (some (17, true))⟩, ⟨(.bin .eql (.t 20) (.k (.int .i64 0))), (some 21), (some (17, true))⟩, ⟨(.pick (.t 17) (.t 21) (.k (.bool false))), (some 22), none⟩, ⟨(.mov (.t 22)), (some 23), none⟩, ⟨(.load (some 2) (.t 3)), (some 24), (some (23, true))⟩, ⟨(.mov (.t 7)), (some 25), (some (23, true))⟩, ⟨(.mov (.t 1)), (some 26), (some (23, true))⟩, ⟨(.bin .shl (.k (.int .i64 1)) (.t 26)), (some 27), (some (23, true))⟩, ⟨(.bin .or (.t 25) (.t 27)), (some 28), (some (23, true))⟩, ⟨(.call 73 [(.t 24), (.t 28)]), (some 29), (some (23, true))⟩, ⟨(.load (some 2) (.t 3)), (some 30), (some (23, true))⟩, ⟨(.mov (.t 7)), (some 31), (some (23, true))⟩, ⟨(.mov (.t 2)), (some 32), (some (23, true))⟩, ⟨(.bin .shl (.k (.int .i64 1)) (.t 32)), (some 33), (some (23, true))⟩, ⟨(.bin .or (.t 31) (.t 33)), (some 34), (some (23, true))⟩, ⟨(.callw 73 [(.t 30), (.t 34)]), (some 35), (some (23, true))⟩, ⟨(.bin .lss (.t 29) (.t 35)), (some 36), (some (23, true))⟩, ⟨(.pick (.t 23) (.t 36) (.k (.bool false))), (some 37), none⟩] true) (.cond (.t 37) (.seq (.region [⟨(.mov (.k (.bool false))), (some 6), none⟩] false) .ret) .skip)))) (.region [⟨(.bin .add (.t 10) (.k (.int .i64 1))), (some 38), none⟩, ⟨(.mov (.t 38)), (some 10), none⟩] false))))
def m37 : MC := (.seq (.region [⟨(.box (.t 0)), (some 3), none⟩, ⟨(.mov (.k (.bool false))), (some 6), none⟩] false) (.seq (.seq (.region [⟨(.load (some 2) (.t 3)), (some 8), none⟩, ⟨(.call 71 [(.t 8)]), (some 9), none⟩, ⟨(.mov (.k (.int .i64 0))), (some 10), none⟩] false) (.block 0 (.loop m37_0))) (.seq (.region [⟨(.mov (.k (.bool true))), (some 6), none⟩] false) .ret)))
theorem has37 : Has cx 37 39 m37 [(.tmp 6)] :=
  ⟨⟨Try.f37, Try.f37.body.getD .skip, by kernel_rfl, by kernel_rfl, by kernel_rfl, by kernel_rfl, by kernel_rfl, by kernel_rfl⟩⟩
theorem lp37_0 (n b i j : Nat) (hn : n ≤ 4) (hb : b < 65536) (hi : i < n) (hj : j < n) (o : Out) (ho : (if strB n b i j = true then (⟨.exit 0, [], []⟩ : Out) else ⟨.ret, [(6, .bool false)], []⟩) = o) :
    LpS cx 39 0 m37_0 [(1, .int .i64 i), (2, .int .i64 j), (3, .ptr 0 0), (9, .int .i64 (R2 n : Nat)), (10, .int .i64 (0 : Nat))] [⟨[.int .i64 n, .int .i64 b], 1, 0, some 0, true⟩] o.x o.e o.h := by
  obtain ⟨h1, h2, h3, h4⟩ := shN hn
  have h5 := R2_le hi
  have h6 := R2_le hj
  refine lp_all (R2 n) (strP b i j) (fun r => [(1, .int .i64 i), (2, .int .i64 j), (3, .ptr 0 0), (9, .int .i64 (R2 n : Nat)), (10, .int .i64 (r : Nat))]) (fun _ => [⟨[.int .i64 n, .int .i64 b], 1, 0, some 0, true⟩]) _ _ ?_ ?_ ?_ (R2 n) 0 o (by omega) ho
  · intro r hr hp
    have h7 : decide ((r : Int) < (R2 n : Nat)) = true := decide_eq_true (by omega)
    have h8 := or_lt hr (show R2 i < R2 n by omega)
    have h9 := or_lt hr (show R2 j < R2 n by omega)
    unfold m37_0
    repeat' (first
      | (refine g_op ?_; first
        | refine ep_mov rfl ?_ | refine sp_loadN rfl rfl rfl rfl rfl ?_
        | refine ep_call0 rfl (by first | exact ev72 _ _ (by omega) (by omega) | exact ev73 _ _ _ (by omega) (by omega)) rfl rfl ?_
        | refine sp_call rfl rfl rfl rfl (by first | exact ev72 _ _ (by omega) (by omega) | exact ev73 _ _ _ (by omega) (by omega)) ⟨rfl, rfl, rfl, rfl⟩ rfl rfl rfl ?_
        | refine ep_callw0 rfl (by first | exact ev72 _ _ (by omega) (by omega) | exact ev73 _ _ _ (by omega) (by omega)) rfl rfl ?_
        | refine sp_callw rfl rfl rfl rfl (by first | exact ev72 _ _ (by omega) (by omega) | exact ev73 _ _ _ (by omega) (by omega)) ⟨rfl, rfl, rfl, rfl⟩ rfl rfl rfl (by first | exact WrP_refl _ _ | (repeat' (first | exact rfl | exact True.intro | refine And.intro ?_ ?_))) ?_
        | refine ep_bin rfl rfl (by first | exact b_shl1 (by omega) (by omega) | exact b_add (by omega) (by omega) | exact b_or (by omega) (by omega) | exact b_shl (by omega) (by omega) | exact b_lss | exact b_eql) ?_
        | refine ep_pickT rfl rfl ?_ | refine ep_pickF rfl rfl ?_ | refine ep_pickTH rfl (by assumption) rfl ?_ | refine ep_pickFH rfl (by assumption) rfl ?_)
      | (refine g_ops ?_; first | refine eo_none ?_ | refine eo_nil ?_ | refine eo_yes rfl ?_ | refine eo_no rfl ?_ | refine eo_und rfl ?_ | refine eo_yesH rfl (by assumption) ?_ | refine eo_noH rfl (by assumption) ?_)
      | (refine g_dops ?_; first | refine ed_none ?_ | refine ed_nil ?_ | refine ed_yes rfl ?_ | refine ed_no rfl ?_ | refine ed_und rfl ?_ | refine ed_yesH rfl (by assumption) ?_ | refine ed_noH rfl (by assumption) ?_)
      | refine ed_same rfl ?_ | refine ed_one rfl rfl rfl rfl ?_ | refine ed_two rfl rfl rfl rfl rfl rfl rfl ?_ | refine ed_write rfl rfl ?_
      | (refine g_code ?_; first | refine ec_seq ?_ | refine ec_region ?_ | refine ec_draw ?_ | refine ec_block ?_ | refine ec_skip ?_ | refine ec_exit ?_ | refine ec_ret ?_ | refine ec_condT rfl ?_ | refine ec_condF rfl ?_ | refine ec_condTH rfl (by assumption) ?_ | refine ec_condFH rfl (by assumption) ?_)
      | refine ek_seqN ?_ | refine ek_seqX ?_ | refine ek_seqR ?_ | refine ek_blkN ?_ | refine ek_blkR ?_ | refine ek_blkX ?_ | refine ek_blkY rfl ?_
      | (refine eo_split rfl ?_ ?_ <;> intro hsp) | (refine ed_split rfl ?_ ?_ <;> intro hsp) | (refine ec_cond rfl ?_ ?_ <;> intro hsp))
    all_goals first
      | exact rnd_on (by rfl) (scmp (by rfl) (by rfl) (by exact ⟨rfl, rfl, rfl⟩) (by rfl) (by rfl) (by rfl))
      | (exfalso; simp_all [strP]; done)
      | (exfalso; simp_all [strP]; omega)
  · intro r hr hp
    have h7 : decide ((r : Int) < (R2 n : Nat)) = true := decide_eq_true (by omega)
    have h8 := or_lt hr (show R2 i < R2 n by omega)
    have h9 := or_lt hr (show R2 j < R2 n by omega)
    unfold m37_0
    repeat' (first
      | (refine g_op ?_; first
        | refine ep_mov rfl ?_ | refine sp_loadN rfl rfl rfl rfl rfl ?_
        | refine ep_call0 rfl (by first | exact ev72 _ _ (by omega) (by omega) | exact ev73 _ _ _ (by omega) (by omega)) rfl rfl ?_
        | refine sp_call rfl rfl rfl rfl (by first | exact ev72 _ _ (by omega) (by omega) | exact ev73 _ _ _ (by omega) (by omega)) ⟨rfl, rfl, rfl, rfl⟩ rfl rfl rfl ?_
        | refine ep_callw0 rfl (by first | exact ev72 _ _ (by omega) (by omega) | exact ev73 _ _ _ (by omega) (by omega)) rfl rfl ?_
        | refine sp_callw rfl rfl rfl rfl (by first | exact ev72 _ _ (by omega) (by omega) | exact ev73 _ _ _ (by omega) (by omega)) ⟨rfl, rfl, rfl, rfl⟩ rfl rfl rfl (by first | exact WrP_refl _ _ | (repeat' (first | exact rfl | exact True.intro | refine And.intro ?_ ?_))) ?_
        | refine ep_bin rfl rfl (by first | exact b_shl1 (by omega) (by omega) | exact b_add (by omega) (by omega) | exact b_or (by omega) (by omega) | exact b_shl (by omega) (by omega) | exact b_lss | exact b_eql) ?_
        | refine ep_pickT rfl rfl ?_ | refine ep_pickF rfl rfl ?_ | refine ep_pickTH rfl (by assumption) rfl ?_ | refine ep_pickFH rfl (by assumption) rfl ?_)
      | (refine g_ops ?_; first | refine eo_none ?_ | refine eo_nil ?_ | refine eo_yes rfl ?_ | refine eo_no rfl ?_ | refine eo_und rfl ?_ | refine eo_yesH rfl (by assumption) ?_ | refine eo_noH rfl (by assumption) ?_)
      | (refine g_dops ?_; first | refine ed_none ?_ | refine ed_nil ?_ | refine ed_yes rfl ?_ | refine ed_no rfl ?_ | refine ed_und rfl ?_ | refine ed_yesH rfl (by assumption) ?_ | refine ed_noH rfl (by assumption) ?_)
      | refine ed_same rfl ?_ | refine ed_one rfl rfl rfl rfl ?_ | refine ed_two rfl rfl rfl rfl rfl rfl rfl ?_ | refine ed_write rfl rfl ?_
      | (refine g_code ?_; first | refine ec_seq ?_ | refine ec_region ?_ | refine ec_draw ?_ | refine ec_block ?_ | refine ec_skip ?_ | refine ec_exit ?_ | refine ec_ret ?_ | refine ec_condT rfl ?_ | refine ec_condF rfl ?_ | refine ec_condTH rfl (by assumption) ?_ | refine ec_condFH rfl (by assumption) ?_)
      | refine ek_seqN ?_ | refine ek_seqX ?_ | refine ek_seqR ?_ | refine ek_blkN ?_ | refine ek_blkR ?_ | refine ek_blkX ?_ | refine ek_blkY rfl ?_
      | (refine eo_split rfl ?_ ?_ <;> intro hsp) | (refine ed_split rfl ?_ ?_ <;> intro hsp) | (refine ec_cond rfl ?_ ?_ <;> intro hsp))
    all_goals first
      | exact rnd_out (by rfl) (by simp) (scmp (by rfl) (by rfl) (by exact ⟨rfl, rfl, rfl⟩) (by rfl) (by rfl) (by rfl))
      | (exfalso; simp_all [strP]; done)
      | (exfalso; simp_all [strP]; omega)
  · have h7 : decide (((R2 n : Nat) : Int) < (R2 n : Nat)) = false := decide_eq_false (by omega)
    unfold m37_0
    repeat' (first
      | (refine g_op ?_; first
        | refine ep_mov rfl ?_ | refine sp_loadN rfl rfl rfl rfl rfl ?_
        | refine ep_bin rfl rfl (by first | exact b_add (by omega) (by omega) | exact b_or (by omega) (by omega) | exact b_shl (by omega) (by omega) | exact b_lss | exact b_eql) ?_ | refine ep_pickT rfl rfl ?_
        | refine ep_pickF rfl rfl ?_ | refine ep_pickTH rfl (by assumption) rfl ?_ | refine ep_pickFH rfl (by assumption) rfl ?_)
      | (refine g_ops ?_; first | refine eo_none ?_ | refine eo_nil ?_ | refine eo_yes rfl ?_ | refine eo_no rfl ?_ | refine eo_und rfl ?_ | refine eo_yesH rfl (by assumption) ?_ | refine eo_noH rfl (by assumption) ?_)
      | (refine g_dops ?_; first | refine ed_none ?_ | refine ed_nil ?_ | refine ed_yes rfl ?_ | refine ed_no rfl ?_ | refine ed_und rfl ?_ | refine ed_yesH rfl (by assumption) ?_ | refine ed_noH rfl (by assumption) ?_)
      | refine ed_same rfl ?_ | refine ed_one rfl rfl rfl rfl ?_ | refine ed_two rfl rfl rfl rfl rfl rfl rfl ?_ | refine ed_write rfl rfl ?_
      | (refine g_code ?_; first | refine ec_seq ?_ | refine ec_region ?_ | refine ec_draw ?_ | refine ec_block ?_ | refine ec_skip ?_ | refine ec_exit ?_ | refine ec_ret ?_ | refine ec_condT rfl ?_ | refine ec_condF rfl ?_ | refine ec_condTH rfl (by assumption) ?_ | refine ec_condFH rfl (by assumption) ?_)
      | refine ek_seqN ?_ | refine ek_seqX ?_ | refine ek_seqR ?_ | refine ek_blkN ?_ | refine ek_blkR ?_ | refine ek_blkX ?_ | refine ek_blkY rfl ?_)
    exact rnd_out (by rfl) (by simp) (scmp (by rfl) (by rfl) (by exact ⟨rfl, rfl, rfl⟩) (by rfl) (by rfl) (by rfl))
theorem ev37 (n b i j : Nat) (hn : n ≤ 4) (hb : b < 65536) (hi : i < n) (hj : j < n) : Ev cx 37 [.agg [.int .i64 n, .int .i64 b], .int .i64 i, .int .i64 j] [] (.bool (strB n b i j)) [] := by
  cases h : strB n b i j
  · have lp := lp37_0 n b i j hn hb hi hj _ (if_neg (by rw [h]; simp))
    refine has37.eev rfl rfl ?_
    unfold m37
    repeat' (first
      | refine sc_loop lp rfl rfl ⟨rfl, rfl, rfl⟩ rfl rfl rfl ?_
      | (refine g_op ?_; first
        | refine ep_mov rfl ?_ | refine sp_loadN rfl rfl rfl rfl rfl ?_
        | refine ep_call0 rfl (by first | exact ev71 _ _ hn) rfl rfl ?_
        | refine sp_call rfl rfl rfl rfl (by first | exact ev71 _ _ hn) ⟨rfl, rfl, rfl, rfl⟩ rfl rfl rfl ?_
        | refine sp_box rfl rfl rfl rfl rfl ?_)
      | (refine g_ops ?_; first | refine eo_none ?_ | refine eo_nil ?_)
      | (refine g_code ?_; first | refine ec_seq ?_ | refine ec_region ?_ | refine ec_block ?_ | refine ec_ret ?_)
      | refine ek_seqN ?_ | refine ek_seqX ?_ | refine ek_seqR ?_ | refine ek_blkN ?_ | refine ek_blkR ?_ | refine ek_blkX ?_ | refine ek_blkY rfl ?_)
    refine sfin (.inr rfl) (by rfl) (by rfl) (by exact ⟨rfl, rfl, rfl⟩) (by rfl) (by rfl) (by rfl) (by first | rfl | (simp; done) | (simp [ints, prs]; done))
  · have lp := lp37_0 n b i j hn hb hi hj _ (if_pos h)
    refine has37.eev rfl rfl ?_
    unfold m37
    repeat' (first
      | refine sc_loop lp rfl rfl ⟨rfl, rfl, rfl⟩ rfl rfl rfl ?_
      | (refine g_op ?_; first
        | refine ep_mov rfl ?_ | refine sp_loadN rfl rfl rfl rfl rfl ?_
        | refine ep_call0 rfl (by first | exact ev71 _ _ hn) rfl rfl ?_
        | refine sp_call rfl rfl rfl rfl (by first | exact ev71 _ _ hn) ⟨rfl, rfl, rfl, rfl⟩ rfl rfl rfl ?_
        | refine sp_box rfl rfl rfl rfl rfl ?_)
      | (refine g_ops ?_; first | refine eo_none ?_ | refine eo_nil ?_)
      | (refine g_code ?_; first | refine ec_seq ?_ | refine ec_region ?_ | refine ec_block ?_ | refine ec_ret ?_)
      | refine ek_seqN ?_ | refine ek_seqX ?_ | refine ek_seqR ?_ | refine ek_blkN ?_ | refine ek_blkR ?_ | refine ek_blkX ?_ | refine ek_blkY rfl ?_)
    refine sfin (.inr rfl) (by rfl) (by rfl) (by exact ⟨rfl, rfl, rfl⟩) (by rfl) (by rfl) (by rfl) (by first | rfl | (simp; done) | (simp [ints, prs]; done))
theorem and_R2 (r i : Nat) : (r &&& R2 i = 0) ↔ bt r i = 0 := by
  have h2 : bt r i = 0 ↔ r.testBit i = false := by
    unfold bt
    rw [Nat.testBit_eq_decide_div_mod_eq, Nat.shiftRight_eq_div_pow, Nat.and_one_is_mod]
    simp only [decide_eq_false_iff_not]
    omega
  rw [h2]
  unfold R2
  constructor
  · intro h
    have := congrArg (fun x => x.testBit i) h
    simpa [Nat.testBit_and, Nat.testBit_two_pow_self] using this
  · intro h
    apply Nat.eq_of_testBit_eq
    intro k
    rw [Nat.testBit_and, Nat.testBit_two_pow, Nat.zero_testBit]
    by_cases e : i = k
    · subst e; simp [h]
    · simp [e]
-- spec.l07Strong
def m44_0 : MC := (.seq (.seq (.region [⟨(.mov (.t 9)), (some 16), none⟩, ⟨(.fieldAddr 0 (.t 3)), (some 17), none⟩, ⟨(.load none (.t 17)), (some 18), none⟩, ⟨(.call 53 [(.t 18)]), (some 19), none⟩, ⟨(.bin .lss (.t 16) (.t 19)), (some 20), none⟩] false) (.cond (.t 20) .skip (.exit 0))) (.seq (.block 1 (.seq (.region [⟨(.mov (.t 9)), (some 23), none⟩, ⟨(.mov (.t 7)), (some 24), none⟩, ⟨(.bin .and (.t 23) (.t 24)), (some 25), none⟩, ⟨(.bin .eql (.t 25) (.k (.int .i64 0))), (some 26), none⟩, ⟨(.mov (.t 26)), (some 27), none⟩, ⟨(.mov (.t 9)), (some 28), (some (27, true))⟩, ⟨(.mov (.t 8)), (some 29), (some (27, true))⟩, ⟨(.bin .and (.t 28) (.t 29)), (some 30), (some (27, true))⟩, ⟨(.bin .eql (.t 30) (.k (.int .i64 0))), (some 31), (some (27, true))⟩, ⟨(.pick (.t 27) (.t 31) (.k (.bool false))), (some 32), none⟩, ⟨(.mov (.t 32)), (some 33), none⟩, ⟨(.load (some 2) (.t 3)), (some 34), (some (33, true))⟩, ⟨(.mov (.t 9)), (some 35), (some (33, true))⟩, ⟨(.mov (.t 7)), (some 36), (some (33, true))⟩, ⟨(.bin .or (.t 35) (.t 36)), (some 37), (some (33, true))⟩, ⟨(.call 52 [(.t 34), (.t 37)]), (some 38), (some (33, true))⟩, ⟨(.load (some 2) (.t 3)), (some 39), (some (33, true))⟩, ⟨(.mov (.t 9)), (some 40), (some (33, true))⟩, ⟨(.mov (.t 8)), (some 41), (some (33, true))⟩, ⟨(.bin .or (.t 40) (.t 41)), (some 42), (some (33, true))⟩, ⟨(.callw 52 [(.t 39), (.t 42)]), (some 43), (some (33, true))⟩, ⟨(.bin .lss (.t 38) (.t 43)), (some 44), (some (33, true))⟩, ⟨(.pick (.t 33) (.t 44) (.k (.bool false))), (some 45), none⟩] true) (.cond (.t 45) (.seq (.region [⟨(.mov (.k (.bool false))), (some 6), none⟩] false) .ret) .skip))) (.region [⟨(.mov (.t 9)), (some 21), none⟩, ⟨(.bin .add (.t 21) (.k (.int .i64 1))), (some 22), none⟩, ⟨(.mov (.t 22)), (some 9), none⟩] false)))
def m44 : MC := (.seq (.region [⟨(.box (.t 0)), (some 3), none⟩, ⟨(.mov (.k (.bool false))), (some 6), none⟩] false) (.seq (.region [⟨(.mov (.t 1)), (some 10), none⟩, ⟨(.conv .u64 (.t 10)), (some 11), none⟩, ⟨(.bin .shl (.k (.int .i64 1)) (.t 11)), (some 12), none⟩, ⟨(.mov (.t 2)), (some 13), none⟩, ⟨(.conv .u64 (.t 13)), (some 14), none⟩, ⟨(.bin .shl (.k (.int .i64 1)) (.t 14)), (some 15), none⟩, ⟨(.mov (.t 12)), (some 7), none⟩, ⟨(.mov (.t 15)), (some 8), none⟩] false) (.seq (.seq (.region [⟨(.mov (.k (.int .i64 0))), (some 9), none⟩] false) (.block 0 (.loop m44_0))) (.seq (.region [⟨(.mov (.k (.bool true))), (some 6), none⟩] false) .ret))))
theorem has44 : Has cx 44 46 m44 [(.tmp 6)] :=
  ⟨⟨Try.f44, Try.f44.body.getD .skip, by kernel_rfl, by kernel_rfl, by kernel_rfl, by kernel_rfl, by kernel_rfl, by kernel_rfl⟩⟩
theorem lp44_0 (n b i j : Nat) (hn : n ≤ 4) (hb : b < 65536) (hi : i < n) (hj : j < n) (o : Out) (ho : (if strB n b i j = true then (⟨.exit 0, [], []⟩ : Out) else ⟨.ret, [(6, .bool false)], []⟩) = o) :
    LpS cx 46 0 m44_0 [(3, .ptr 0 0), (7, .int .i64 (R2 i : Nat)), (8, .int .i64 (R2 j : Nat)), (9, .int .i64 (0 : Nat))] [⟨[.int .i64 n, .int .i64 b], 1, 0, some 0, true⟩] o.x o.e o.h := by
  obtain ⟨h1, h2, h3, h4⟩ := shN hn
  have h5 := R2_le hi
  have h6 := R2_le hj
  refine lp_all (R2 n) (strP b i j) (fun r => [(3, .ptr 0 0), (7, .int .i64 (R2 i : Nat)), (8, .int .i64 (R2 j : Nat)), (9, .int .i64 (r : Nat))]) (fun _ => [⟨[.int .i64 n, .int .i64 b], 1, 0, some 0, true⟩]) _ _ ?_ ?_ ?_ (R2 n) 0 o (by omega) ho
  · intro r hr hp
    have h7 : decide ((r : Int) < (R2 n : Nat)) = true := decide_eq_true (by omega)
    have h8 := or_lt hr (show R2 i < R2 n by omega)
    have h9 := or_lt hr (show R2 j < R2 n by omega)
    simp only [strP, ← and_R2] at hp
    unfold m44_0
    repeat' (first
      | (refine g_op ?_; first
        | refine ep_mov rfl ?_ | refine ep_load1 rfl rfl rfl rfl ?_ | refine ep_fieldAddr rfl ?_ | refine sp_loadN rfl rfl rfl rfl rfl ?_
        | refine ep_call0 rfl (by first | exact ev53 _ hn | exact ev52 _ _ _ (by omega) (by omega)) rfl rfl ?_
        | refine sp_call rfl rfl rfl rfl (by first | exact ev53 _ hn | exact ev52 _ _ _ (by omega) (by omega)) ⟨rfl, rfl, rfl, rfl⟩ rfl rfl rfl ?_
        | refine ep_callw0 rfl (by first | exact ev53 _ hn | exact ev52 _ _ _ (by omega) (by omega)) rfl rfl ?_
        | refine sp_callw rfl rfl rfl rfl (by first | exact ev53 _ hn | exact ev52 _ _ _ (by omega) (by omega)) ⟨rfl, rfl, rfl, rfl⟩ rfl rfl rfl (by first | exact WrP_refl _ _ | (repeat' (first | exact rfl | exact True.intro | refine And.intro ?_ ?_))) ?_
        | refine ep_bin rfl rfl (by first | exact b_add (by omega) (by omega) | exact b_and (by omega) (by omega) | exact b_or (by omega) (by omega) | exact b_lss | exact b_eql) ?_ | refine ep_pickT rfl rfl ?_
        | refine ep_pickF rfl rfl ?_ | refine ep_pickTH rfl (by assumption) rfl ?_ | refine ep_pickFH rfl (by assumption) rfl ?_)
      | (refine g_ops ?_; first | refine eo_none ?_ | refine eo_nil ?_ | refine eo_yes rfl ?_ | refine eo_no rfl ?_ | refine eo_und rfl ?_ | refine eo_yesH rfl (by assumption) ?_ | refine eo_noH rfl (by assumption) ?_)
      | (refine g_dops ?_; first | refine ed_none ?_ | refine ed_nil ?_ | refine ed_yes rfl ?_ | refine ed_no rfl ?_ | refine ed_und rfl ?_ | refine ed_yesH rfl (by assumption) ?_ | refine ed_noH rfl (by assumption) ?_)
      | refine ed_same rfl ?_ | refine ed_one rfl rfl rfl rfl ?_ | refine ed_two rfl rfl rfl rfl rfl rfl rfl ?_ | refine ed_write rfl rfl ?_
      | (refine g_code ?_; first | refine ec_seq ?_ | refine ec_region ?_ | refine ec_draw ?_ | refine ec_block ?_ | refine ec_skip ?_ | refine ec_exit ?_ | refine ec_ret ?_ | refine ec_condT rfl ?_ | refine ec_condF rfl ?_ | refine ec_condTH rfl (by assumption) ?_ | refine ec_condFH rfl (by assumption) ?_)
      | refine ek_seqN ?_ | refine ek_seqX ?_ | refine ek_seqR ?_ | refine ek_blkN ?_ | refine ek_blkR ?_ | refine ek_blkX ?_ | refine ek_blkY rfl ?_
      | (refine eo_split rfl ?_ ?_ <;> intro hsp) | (refine ed_split rfl ?_ ?_ <;> intro hsp) | (refine ec_cond rfl ?_ ?_ <;> intro hsp))
    all_goals first
      | exact rnd_on (by rfl) (scmp (by rfl) (by rfl) (by exact ⟨rfl, rfl, rfl⟩) (by rfl) (by rfl) (by rfl))
      | (exfalso; simp_all; done)
      | (exfalso; simp_all; omega)
  · intro r hr hp
    have h7 : decide ((r : Int) < (R2 n : Nat)) = true := decide_eq_true (by omega)
    have h8 := or_lt hr (show R2 i < R2 n by omega)
    have h9 := or_lt hr (show R2 j < R2 n by omega)
    simp only [strP, ← and_R2] at hp
    unfold m44_0
    repeat' (first
      | (refine g_op ?_; first
        | refine ep_mov rfl ?_ | refine ep_load1 rfl rfl rfl rfl ?_ | refine ep_fieldAddr rfl ?_ | refine sp_loadN rfl rfl rfl rfl rfl ?_
        | refine ep_call0 rfl (by first | exact ev53 _ hn | exact ev52 _ _ _ (by omega) (by omega)) rfl rfl ?_
        | refine sp_call rfl rfl rfl rfl (by first | exact ev53 _ hn | exact ev52 _ _ _ (by omega) (by omega)) ⟨rfl, rfl, rfl, rfl⟩ rfl rfl rfl ?_
        | refine ep_callw0 rfl (by first | exact ev53 _ hn | exact ev52 _ _ _ (by omega) (by omega)) rfl rfl ?_
        | refine sp_callw rfl rfl rfl rfl (by first | exact ev53 _ hn | exact ev52 _ _ _ (by omega) (by omega)) ⟨rfl, rfl, rfl, rfl⟩ rfl rfl rfl (by first | exact WrP_refl _ _ | (repeat' (first | exact rfl | exact True.intro | refine And.intro ?_ ?_))) ?_
        | refine ep_bin rfl rfl (by first | exact b_add (by omega) (by omega) | exact b_and (by omega) (by omega) | exact b_or (by omega) (by omega) | exact b_lss | exact b_eql) ?_ | refine ep_pickT rfl rfl ?_
        | refine ep_pickF rfl rfl ?_ | refine ep_pickTH rfl (by assumption) rfl ?_ | refine ep_pickFH rfl (by assumption) rfl ?_)
      | (refine g_ops ?_; first | refine eo_none ?_ | refine eo_nil ?_ | refine eo_yes rfl ?_ | refine eo_no rfl ?_ | refine eo_und rfl ?_ | refine eo_yesH rfl (by assumption) ?_ | refine eo_noH rfl (by assumption) ?_)
      | (refine g_dops ?_; first | refine ed_none ?_ | refine ed_nil ?_ | refine ed_yes rfl ?_ | refine ed_no rfl ?_ | refine ed_und rfl ?_ | refine ed_yesH rfl (by assumption) ?_ | refine ed_noH rfl (by assumption) ?_)
      | refine ed_same rfl ?_ | refine ed_one rfl rfl rfl rfl ?_ | refine ed_two rfl rfl rfl rfl rfl rfl rfl ?_ | refine ed_write rfl rfl ?_
      | (refine g_code ?_; first | refine ec_seq ?_ | refine ec_region ?_ | refine ec_draw ?_ | refine ec_block ?_ | refine ec_skip ?_ | refine ec_exit ?_ | refine ec_ret ?_ | refine ec_condT rfl ?_ | refine ec_condF rfl ?_ | refine ec_condTH rfl (by assumption) ?_ | refine ec_condFH rfl (by assumption) ?_)
      | refine ek_seqN ?_ | refine ek_seqX ?_ | refine ek_seqR ?_ | refine ek_blkN ?_ | refine ek_blkR ?_ | refine ek_blkX ?_ | refine ek_blkY rfl ?_
      | (refine eo_split rfl ?_ ?_ <;> intro hsp) | (refine ed_split rfl ?_ ?_ <;> intro hsp) | (refine ec_cond rfl ?_ ?_ <;> intro hsp))
    all_goals first
      | exact rnd_out (by rfl) (by simp) (scmp (by rfl) (by rfl) (by exact ⟨rfl, rfl, rfl⟩) (by rfl) (by rfl) (by rfl))
      | (exfalso; simp_all; done)
      | (exfalso; simp_all; omega)
  · have h7 : decide (((R2 n : Nat) : Int) < (R2 n : Nat)) = false := decide_eq_false (by omega)
    unfold m44_0
    repeat' (first
      | (refine g_op ?_; first
        | refine ep_mov rfl ?_ | refine ep_load1 rfl rfl rfl rfl ?_ | refine ep_fieldAddr rfl ?_ | refine sp_loadN rfl rfl rfl rfl rfl ?_
        | refine ep_call0 rfl (by first | exact ev53 _ hn) rfl rfl ?_
        | refine sp_call rfl rfl rfl rfl (by first | exact ev53 _ hn) ⟨rfl, rfl, rfl, rfl⟩ rfl rfl rfl ?_
        | refine ep_callw0 rfl (by first | exact ev53 _ hn) rfl rfl ?_
        | refine sp_callw rfl rfl rfl rfl (by first | exact ev53 _ hn) ⟨rfl, rfl, rfl, rfl⟩ rfl rfl rfl (by first | exact WrP_refl _ _ | (repeat' (first | exact rfl | exact True.intro | refine And.intro ?_ ?_))) ?_
        | refine ep_bin rfl rfl (by first | exact b_add (by omega) (by omega) | exact b_and (by omega) (by omega) | exact b_or (by omega) (by omega) | exact b_lss | exact b_eql) ?_ | refine ep_pickT rfl rfl ?_
        | refine ep_pickF rfl rfl ?_ | refine ep_pickTH rfl (by assumption) rfl ?_ | refine ep_pickFH rfl (by assumption) rfl ?_)
      | (refine g_ops ?_; first | refine eo_none ?_ | refine eo_nil ?_ | refine eo_yes rfl ?_ | refine eo_no rfl ?_ | refine eo_und rfl ?_ | refine eo_yesH rfl (by assumption) ?_ | refine eo_noH rfl (by assumption) ?_)
      | (refine g_dops ?_; first | refine ed_none ?_ | refine ed_nil ?_ | refine ed_yes rfl ?_ | refine ed_no rfl ?_ | refine ed_und rfl ?_ | refine ed_yesH rfl (by assumption) ?_ | refine ed_noH rfl (by assumption) ?_)
      | refine ed_same rfl ?_ | refine ed_one rfl rfl rfl rfl ?_ | refine ed_two rfl rfl rfl rfl rfl rfl rfl ?_ | refine ed_write rfl rfl ?_
      | (refine g_code ?_; first | refine ec_seq ?_ | refine ec_region ?_ | refine ec_draw ?_ | refine ec_block ?_ | refine ec_skip ?_ | refine ec_exit ?_ | refine ec_ret ?_ | refine ec_condT rfl ?_ | refine ec_condF rfl ?_ | refine ec_condTH rfl (by assumption) ?_ | refine ec_condFH rfl (by assumption) ?_)
      | refine ek_seqN ?_ | refine ek_seqX ?_ | refine ek_seqR ?_ | refine ek_blkN ?_ | refine ek_blkR ?_ | refine ek_blkX ?_ | refine ek_blkY rfl ?_)
    exact rnd_out (by rfl) (by simp) (scmp (by rfl) (by rfl) (by exact ⟨rfl, rfl, rfl⟩) (by rfl) (by rfl) (by rfl))
theorem ev44 (n b i j : Nat) (hn : n ≤ 4) (hb : b < 65536) (hi : i < n) (hj : j < n) : Ev cx 44 [.agg [.int .i64 n, .int .i64 b], .int .i64 i, .int .i64 j] [] (.bool (strB n b i j)) [] := by
  obtain ⟨h1, h2, h3, h4⟩ := shN hn
  have h5 := R2_le hi
  have h6 := R2_le hj
  cases h : strB n b i j
  · have lp := lp44_0 n b i j hn hb hi hj _ (if_neg (by rw [h]; simp))
    refine has44.eev rfl rfl ?_
    unfold m44
    repeat' (first
      | refine sc_loop lp rfl rfl ⟨rfl, rfl, rfl⟩ rfl rfl rfl ?_
      | (refine g_op ?_; first
        | refine ep_mov rfl ?_
        | refine ep_bin rfl rfl (by first | exact b_shl1 (by omega) (by omega) | exact b_shl (by omega) (by omega)) ?_ | refine ep_conv rfl (by first | exact w_u64 (by omega) (by omega) | exact wrap_id (by omega) (by omega) | rfl) ?_
        | refine sp_box rfl rfl rfl rfl rfl ?_)
      | (refine g_ops ?_; first | refine eo_none ?_ | refine eo_nil ?_)
      | (refine g_code ?_; first | refine ec_seq ?_ | refine ec_region ?_ | refine ec_block ?_ | refine ec_ret ?_)
      | refine ek_seqN ?_ | refine ek_seqX ?_ | refine ek_seqR ?_ | refine ek_blkN ?_ | refine ek_blkR ?_ | refine ek_blkX ?_ | refine ek_blkY rfl ?_)
    refine sfin (.inr rfl) (by rfl) (by rfl) (by exact ⟨rfl, rfl, rfl⟩) (by rfl) (by rfl) (by rfl) (by first | rfl | (simp; done) | (simp [ints, prs]; done))
  · have lp := lp44_0 n b i j hn hb hi hj _ (if_pos h)
    refine has44.eev rfl rfl ?_
    unfold m44
    repeat' (first
      | refine sc_loop lp rfl rfl ⟨rfl, rfl, rfl⟩ rfl rfl rfl ?_
      | (refine g_op ?_; first
        | refine ep_mov rfl ?_
        | refine ep_bin rfl rfl (by first | exact b_shl1 (by omega) (by omega) | exact b_shl (by omega) (by omega)) ?_ | refine ep_conv rfl (by first | exact w_u64 (by omega) (by omega) | exact wrap_id (by omega) (by omega) | rfl) ?_
        | refine sp_box rfl rfl rfl rfl rfl ?_)
      | (refine g_ops ?_; first | refine eo_none ?_ | refine eo_nil ?_)
      | (refine g_code ?_; first | refine ec_seq ?_ | refine ec_region ?_ | refine ec_block ?_ | refine ec_ret ?_)
      | refine ek_seqN ?_ | refine ek_seqX ?_ | refine ek_seqR ?_ | refine ek_blkN ?_ | refine ek_blkR ?_ | refine ek_blkX ?_ | refine ek_blkY rfl ?_)
    refine sfin (.inr rfl) (by rfl) (by rfl) (by exact ⟨rfl, rfl, rfl⟩) (by rfl) (by rfl) (by rfl) (by first | rfl | (simp; done) | (simp [ints, prs]; done))
def strR (p t i j : Int) : Bool × Int := if isFn p t = true then (if (0 ≤ i ∧ i ≤ p - 1) ∧ (0 ≤ j ∧ j ≤ p - 1) then (strB p.toNat t.toNat i.toNat j.toNat, 0) else (false, 2)) else (false, 1)
-- impl.IsAsStrong
def m11 : MC := (.seq (.region [⟨(.box (.t 0)), (some 3), none⟩, ⟨(.mov (.k (.bool false))), (some 6), none⟩, ⟨(.mov (.k (.int .i64 0))), (some 7), none⟩] false) (.seq (.seq (.region [⟨(.load (some 2) (.t 3)), (some 8), none⟩, ⟨(.call 27 [(.t 8)]), (some 9), none⟩, ⟨(.un .not (.t 9)), (some 10), none⟩] false) (.cond (.t 10) (.seq (.region [⟨(.mov (.k (.bool false))), (some 6), none⟩, ⟨(.mov (.k (.int .i64 1))), (some 7), none⟩] false) .ret) .skip)) (.seq (.seq (.region [⟨(.mov (.t 1)), (some 11), none⟩, ⟨(.fieldAddr 0 (.t 3)), (some 12), none⟩, ⟨(.load none (.t 12)), (some 13), none⟩, ⟨(.bin .sub (.t 13) (.k (.int .i64 1))), (some 14), none⟩, ⟨(.call 36 [(.t 11), (.k (.int .i64 0)), (.t 14)]), (some 15), none⟩, ⟨(.un .not (.t 15)), (some 16), none⟩, ⟨(.mov (.t 16)), (some 17), none⟩, ⟨(.mov (.t 2)), (some 18), (some (17, false))⟩, ⟨(.fieldAddr 0 (.t 3)), (some 19), (some (17, false))⟩, ⟨(.load none (.t 19)), (some 20), (some (17, false))⟩, ⟨(.bin .sub (.t 20) (.k (.int .i64 1))), (some 21), (some (17, false))⟩, ⟨(.call 36 [(.t 18), (.k (.int .i64 0)), (.t 21)]), (some 22), (some (17, false))⟩, ⟨(.un .not (.t 22)), (some 23), (some (17, false))⟩, ⟨(.pick (.t 17) (.k (.bool true)) (.t 23)), (some 24), none⟩] false) (.cond (.t 24) (.seq (.region [⟨(.mov (.k (.bool false))), (some 6), none⟩, ⟨(.mov (.k (.int .i64 2))), (some 7), none⟩] false) .ret) .skip)) (.seq (.region [⟨(.load (some 2) (.t 3)), (some 25), none⟩, ⟨(.mov (.t 1)), (some 26), none⟩, ⟨(.mov (.t 2)), (some 27), none⟩, ⟨(.call 37 [(.t 25), (.t 26), (.t 27)]), (some 28), none⟩, ⟨(.mov (.t 28)), (some 6), none⟩, ⟨(.mov (.k (.int .i64 0))), (some 7), none⟩] false) .ret))))
theorem has11 : Has cx 11 29 m11 [(.tmp 6), (.tmp 7)] :=
  ⟨⟨Try.f11, Try.f11.body.getD .skip, by kernel_rfl, by kernel_rfl, by kernel_rfl, by kernel_rfl, by kernel_rfl, by kernel_rfl⟩⟩
theorem ev11 (p t i j : Int) : Ev cx 11 [.agg [.int .i64 p, .int .i64 t], .int .i64 i, .int .i64 j] [] (.tup [.bool (strR p t i j).1, .int .i64 (strR p t i j).2]) [] := by
  have e1 := ev27 p t
  cases h1 : isFn p t
  · rw [h1] at e1
    refine has11.eev rfl rfl ?_
    unfold m11
    repeat' (first
      | (refine g_op ?_; first
        | refine ep_mov rfl ?_ | refine ep_load1 rfl rfl rfl rfl ?_ | refine ep_fieldAddr rfl ?_ | refine sp_loadN rfl rfl rfl rfl rfl ?_
        | refine ep_call0 rfl (by first | exact e1) rfl rfl ?_
        | refine sp_call rfl rfl rfl rfl (by first | exact e1) ⟨rfl, rfl, rfl, rfl⟩ rfl rfl rfl ?_
        | refine ep_bin rfl rfl (by exact b_sub (by omega) (by omega)) ?_ | refine ep_pickT rfl rfl ?_ | refine ep_pickF rfl rfl ?_ | refine ep_pickTH rfl (by assumption) rfl ?_ | refine ep_pickFH rfl (by assumption) rfl ?_
        | refine ep_not rfl ?_ | refine sp_box rfl rfl rfl rfl rfl ?_)
      | (refine g_ops ?_; first | refine eo_none ?_ | refine eo_nil ?_ | refine eo_yes rfl ?_ | refine eo_no rfl ?_ | refine eo_und rfl ?_ | refine eo_yesH rfl (by assumption) ?_ | refine eo_noH rfl (by assumption) ?_)
      | (refine g_code ?_; first | refine ec_seq ?_ | refine ec_region ?_ | refine ec_skip ?_ | refine ec_ret ?_ | refine ec_condT rfl ?_ | refine ec_condF rfl ?_ | refine ec_condTH rfl (by assumption) ?_ | refine ec_condFH rfl (by assumption) ?_)
      | refine ek_seqN ?_ | refine ek_seqR ?_)
    refine sfin (.inr rfl) (by rfl) (by rfl) (by exact ⟨rfl, rfl, rfl⟩) (by rfl) (by rfl) (by rw [strR, if_neg (by rw [h1]; simp)]; try rfl) (by first | rfl | (simp; done) | (simp [ints, prs]; done))
  · rw [h1] at e1
    obtain ⟨n, b, rfl, rfl, h2, h3, h4⟩ := isFn_nat h1
    have e2 := ev36 i 0 ((n : Int) - 1)
    have e3 := ev36 j 0 ((n : Int) - 1)
    by_cases h5 : 0 ≤ i ∧ i ≤ (n : Int) - 1
    · rw [decide_eq_true h5] at e2
      by_cases h6 : 0 ≤ j ∧ j ≤ (n : Int) - 1
      · rw [decide_eq_true h6] at e3
        obtain ⟨x, rfl⟩ := Int.eq_ofNat_of_zero_le h5.1
        obtain ⟨y, rfl⟩ := Int.eq_ofNat_of_zero_le h6.1
        refine has11.eev rfl rfl ?_
        unfold m11
        repeat' (first
          | (refine g_op ?_; first
            | refine ep_mov rfl ?_ | refine ep_load1 rfl rfl rfl rfl ?_ | refine ep_fieldAddr rfl ?_ | refine sp_loadN rfl rfl rfl rfl rfl ?_
            | refine ep_call0 rfl (by first | exact e1 | exact e2 | exact e3 | exact ev37 _ _ _ _ h2 h4 (by omega) (by omega)) rfl rfl ?_
            | refine sp_call rfl rfl rfl rfl (by first | exact e1 | exact e2 | exact e3 | exact ev37 _ _ _ _ h2 h4 (by omega) (by omega)) ⟨rfl, rfl, rfl, rfl⟩ rfl rfl rfl ?_
            | refine ep_bin rfl rfl (by exact b_sub (by omega) (by omega)) ?_ | refine ep_pickT rfl rfl ?_ | refine ep_pickF rfl rfl ?_ | refine ep_pickTH rfl (by assumption) rfl ?_ | refine ep_pickFH rfl (by assumption) rfl ?_
            | refine ep_not rfl ?_ | refine sp_box rfl rfl rfl rfl rfl ?_)
          | (refine g_ops ?_; first | refine eo_none ?_ | refine eo_nil ?_ | refine eo_yes rfl ?_ | refine eo_no rfl ?_ | refine eo_und rfl ?_ | refine eo_yesH rfl (by assumption) ?_ | refine eo_noH rfl (by assumption) ?_)
          | (refine g_code ?_; first | refine ec_seq ?_ | refine ec_region ?_ | refine ec_skip ?_ | refine ec_ret ?_ | refine ec_condT rfl ?_ | refine ec_condF rfl ?_ | refine ec_condTH rfl (by assumption) ?_ | refine ec_condFH rfl (by assumption) ?_)
          | refine ek_seqN ?_ | refine ek_seqR ?_)
        refine sfin (.inr rfl) (by rfl) (by rfl) (by exact ⟨rfl, rfl, rfl⟩) (by rfl) (by rfl) (by rw [strR, if_pos h1, if_pos ⟨h5, h6⟩]; try rfl) (by first | rfl | (simp; done) | (simp [ints, prs]; done))
      · rw [decide_eq_false h6] at e3
        refine has11.eev rfl rfl ?_
        unfold m11
        repeat' (first
          | (refine g_op ?_; first
            | refine ep_mov rfl ?_ | refine ep_load1 rfl rfl rfl rfl ?_ | refine ep_fieldAddr rfl ?_ | refine sp_loadN rfl rfl rfl rfl rfl ?_
            | refine ep_call0 rfl (by first | exact e1 | exact e2 | exact e3) rfl rfl ?_
            | refine sp_call rfl rfl rfl rfl (by first | exact e1 | exact e2 | exact e3) ⟨rfl, rfl, rfl, rfl⟩ rfl rfl rfl ?_
            | refine ep_bin rfl rfl (by exact b_sub (by omega) (by omega)) ?_ | refine ep_pickT rfl rfl ?_ | refine ep_pickF rfl rfl ?_ | refine ep_pickTH rfl (by assumption) rfl ?_ | refine ep_pickFH rfl (by assumption) rfl ?_
            | refine ep_not rfl ?_ | refine sp_box rfl rfl rfl rfl rfl ?_)
          | (refine g_ops ?_; first | refine eo_none ?_ | refine eo_nil ?_ | refine eo_yes rfl ?_ | refine eo_no rfl ?_ | refine eo_und rfl ?_ | refine eo_yesH rfl (by assumption) ?_ | refine eo_noH rfl (by assumption) ?_)
          | (refine g_code ?_; first | refine ec_seq ?_ | refine ec_region ?_ | refine ec_skip ?_ | refine ec_ret ?_ | refine ec_condT rfl ?_ | refine ec_condF rfl ?_ | refine ec_condTH rfl (by assumption) ?_ | refine ec_condFH rfl (by assumption) ?_)
          | refine ek_seqN ?_ | refine ek_seqR ?_)
        refine sfin (.inr rfl) (by rfl) (by rfl) (by exact ⟨rfl, rfl, rfl⟩) (by rfl) (by rfl) (by rw [strR, if_pos h1, if_neg (fun h => h6 h.2)]; try rfl) (by first | rfl | (simp; done) | (simp [ints, prs]; done))
    · rw [decide_eq_false h5] at e2
      refine has11.eev rfl rfl ?_
      unfold m11
      repeat' (first
        | (refine g_op ?_; first
          | refine ep_mov rfl ?_ | refine ep_load1 rfl rfl rfl rfl ?_ | refine ep_fieldAddr rfl ?_ | refine sp_loadN rfl rfl rfl rfl rfl ?_
          | refine ep_call0 rfl (by first | exact e1 | exact e2) rfl rfl ?_
          | refine sp_call rfl rfl rfl rfl (by first | exact e1 | exact e2) ⟨rfl, rfl, rfl, rfl⟩ rfl rfl rfl ?_
          | refine ep_bin rfl rfl (by exact b_sub (by omega) (by omega)) ?_ | refine ep_pickT rfl rfl ?_ | refine ep_pickF rfl rfl ?_ | refine ep_pickTH rfl (by assumption) rfl ?_ | refine ep_pickFH rfl (by assumption) rfl ?_
          | refine ep_not rfl ?_ | refine sp_box rfl rfl rfl rfl rfl ?_)
        | (refine g_ops ?_; first | refine eo_none ?_ | refine eo_nil ?_ | refine eo_yes rfl ?_ | refine eo_no rfl ?_ | refine eo_und rfl ?_ | refine eo_yesH rfl (by assumption) ?_ | refine eo_noH rfl (by assumption) ?_)
        | (refine g_code ?_; first | refine ec_seq ?_ | refine ec_region ?_ | refine ec_skip ?_ | refine ec_ret ?_ | refine ec_condT rfl ?_ | refine ec_condF rfl ?_ | refine ec_condTH rfl (by assumption) ?_ | refine ec_condFH rfl (by assumption) ?_)
        | refine ek_seqN ?_ | refine ek_seqR ?_)
      refine sfin (.inr rfl) (by rfl) (by rfl) (by exact ⟨rfl, rfl, rfl⟩) (by rfl) (by rfl) (by rw [strR, if_pos h1, if_neg (fun h => h5 h.1)]; try rfl) (by first | rfl | (simp; done) | (simp [ints, prs]; done))
-- spec.IsAsStrong
def m13 : MC := (.seq (.region [⟨(.box (.t 0)), (some 3), none⟩, ⟨(.mov (.k (.bool false))), (some 6), none⟩, ⟨(.mov (.k (.int .i64 0))), (some 7), none⟩] false) (.seq (.block 0 (.seq (.region [⟨(.load (some 2) (.t 3)), (some 9), none⟩, ⟨(.call 29 [(.t 9)]), (some 10), none⟩, ⟨(.un .not (.t 10)), (some 11), none⟩, ⟨(.mov (.t 11)), (some 8), none⟩] false) (.cond (.t 8) (.seq (.region [⟨(.mov (.k (.bool false))), (some 6), none⟩, ⟨(.mov (.k (.int .i64 1))), (some 7), none⟩] false) .ret) (.seq (.region [⟨(.mov (.t 1)), (some 13), none⟩, ⟨(.fieldAddr 0 (.t 3)), (some 14), none⟩, ⟨(.load none (.t 14)), (some 15), none⟩, ⟨(.bin .sub (.t 15) (.k (.int .i64 1))), (some 16), none⟩, ⟨(.call 43 [(.t 13), (.k (.int .i64 0)), (.t 16)]), (some 17), none⟩, ⟨(.un .not (.t 17)), (some 18), none⟩, ⟨(.mov (.t 18)), (some 19), none⟩, ⟨(.mov (.t 2)), (some 20), (some (19, false))⟩, ⟨(.fieldAddr 0 (.t 3)), (some 21), (some (19, false))⟩, ⟨(.load none (.t 21)), (some 22), (some (19, false))⟩, ⟨(.bin .sub (.t 22) (.k (.int .i64 1))), (some 23), (some (19, false))⟩, ⟨(.call 43 [(.t 20), (.k (.int .i64 0)), (.t 23)]), (some 24), (some (19, false))⟩, ⟨(.un .not (.t 24)), (some 25), (some (19, false))⟩, ⟨(.pick (.t 19) (.k (.bool true)) (.t 25)), (some 26), none⟩, ⟨(.mov (.t 26)), (some 12), none⟩] false) (.cond (.t 12) (.seq (.region [⟨(.mov (.k (.bool false))), (some 6), none⟩, ⟨(.mov (.k (.int .i64 2))), (some 7), none⟩] false) .ret) .skip))))) (.seq (.region [⟨(.load (some 2) (.t 3)), (some 27), none⟩, ⟨(.mov (.t 1)), (some 28), none⟩, ⟨(.mov (.t 2)), (some 29), none⟩, ⟨(.call 44 [(.t 27), (.t 28), (.t 29)]), (some 30), none⟩, ⟨(.mov (.t 30)), (some 6), none⟩, ⟨(.mov (.k (.int .i64 0))), (some 7), none⟩] false) .ret)))
theorem has13 : Has cx 13 31 m13 [(.tmp 6), (.tmp 7)] :=
  ⟨⟨Try.f13, Try.f13.body.getD .skip, by kernel_rfl, by kernel_rfl, by kernel_rfl, by kernel_rfl, by kernel_rfl, by kernel_rfl⟩⟩
theorem ev13 (p t i j : Int) : Ev cx 13 [.agg [.int .i64 p, .int .i64 t], .int .i64 i, .int .i64 j] [] (.tup [.bool (strR p t i j).1, .int .i64 (strR p t i j).2]) [] := by
  have e1 := ev29 p t
  cases h1 : isFn p t
  · rw [h1] at e1
    refine has13.eev rfl rfl ?_
    unfold m13
    repeat' (first
      | (refine g_op ?_; first
        | refine ep_mov rfl ?_ | refine ep_load1 rfl rfl rfl rfl ?_ | refine ep_fieldAddr rfl ?_ | refine sp_loadN rfl rfl rfl rfl rfl ?_
        | refine ep_call0 rfl (by first | exact e1) rfl rfl ?_
        | refine sp_call rfl rfl rfl rfl (by first | exact e1) ⟨rfl, rfl, rfl, rfl⟩ rfl rfl rfl ?_
        | refine ep_bin rfl rfl (by exact b_sub (by omega) (by omega)) ?_ | refine ep_pickT rfl rfl ?_ | refine ep_pickF rfl rfl ?_ | refine ep_pickTH rfl (by assumption) rfl ?_ | refine ep_pickFH rfl (by assumption) rfl ?_
        | refine ep_not rfl ?_ | refine sp_box rfl rfl rfl rfl rfl ?_)
      | (refine g_ops ?_; first | refine eo_none ?_ | refine eo_nil ?_ | refine eo_yes rfl ?_ | refine eo_no rfl ?_ | refine eo_und rfl ?_ | refine eo_yesH rfl (by assumption) ?_ | refine eo_noH rfl (by assumption) ?_)
      | (refine g_code ?_; first | refine ec_seq ?_ | refine ec_region ?_ | refine ec_block ?_ | refine ec_skip ?_ | refine ec_ret ?_ | refine ec_condT rfl ?_ | refine ec_condF rfl ?_ | refine ec_condTH rfl (by assumption) ?_ | refine ec_condFH rfl (by assumption) ?_)
      | refine ek_seqN ?_ | refine ek_seqR ?_ | refine ek_blkN ?_ | refine ek_blkR ?_ | refine ek_blkX ?_ | refine ek_blkY rfl ?_)
    refine sfin (.inr rfl) (by rfl) (by rfl) (by exact ⟨rfl, rfl, rfl⟩) (by rfl) (by rfl) (by rw [strR, if_neg (by rw [h1]; simp)]; try rfl) (by first | rfl | (simp; done) | (simp [ints, prs]; done))
  · rw [h1] at e1
    obtain ⟨n, b, rfl, rfl, h2, h3, h4⟩ := isFn_nat h1
    have e2 := ev43 i 0 ((n : Int) - 1)
    have e3 := ev43 j 0 ((n : Int) - 1)
    by_cases h5 : 0 ≤ i ∧ i ≤ (n : Int) - 1
    · rw [decide_eq_true h5] at e2
      by_cases h6 : 0 ≤ j ∧ j ≤ (n : Int) - 1
      · rw [decide_eq_true h6] at e3
        obtain ⟨x, rfl⟩ := Int.eq_ofNat_of_zero_le h5.1
        obtain ⟨y, rfl⟩ := Int.eq_ofNat_of_zero_le h6.1
        refine has13.eev rfl rfl ?_
        unfold m13
        repeat' (first
          | (refine g_op ?_; first
            | refine ep_mov rfl ?_ | refine ep_load1 rfl rfl rfl rfl ?_ | refine ep_fieldAddr rfl ?_ | refine sp_loadN rfl rfl rfl rfl rfl ?_
            | refine ep_call0 rfl (by first | exact e1 | exact e2 | exact e3 | exact ev44 _ _ _ _ h2 h4 (by omega) (by omega)) rfl rfl ?_
            | refine sp_call rfl rfl rfl rfl (by first | exact e1 | exact e2 | exact e3 | exact ev44 _ _ _ _ h2 h4 (by omega) (by omega)) ⟨rfl, rfl, rfl, rfl⟩ rfl rfl rfl ?_
            | refine ep_bin rfl rfl (by exact b_sub (by omega) (by omega)) ?_ | refine ep_pickT rfl rfl ?_ | refine ep_pickF rfl rfl ?_ | refine ep_pickTH rfl (by assumption) rfl ?_ | refine ep_pickFH rfl (by assumption) rfl ?_
            | refine ep_not rfl ?_ | refine sp_box rfl rfl rfl rfl rfl ?_)
          | (refine g_ops ?_; first | refine eo_none ?_ | refine eo_nil ?_ | refine eo_yes rfl ?_ | refine eo_no rfl ?_ | refine eo_und rfl ?_ | refine eo_yesH rfl (by assumption) ?_ | refine eo_noH rfl (by assumption) ?_)
          | (refine g_code ?_; first | refine ec_seq ?_ | refine ec_region ?_ | refine ec_block ?_ | refine ec_skip ?_ | refine ec_ret ?_ | refine ec_condT rfl ?_ | refine ec_condF rfl ?_ | refine ec_condTH rfl (by assumption) ?_ | refine ec_condFH rfl (by assumption) ?_)
          | refine ek_seqN ?_ | refine ek_seqR ?_ | refine ek_blkN ?_ | refine ek_blkR ?_ | refine ek_blkX ?_ | refine ek_blkY rfl ?_)
        refine sfin (.inr rfl) (by rfl) (by rfl) (by exact ⟨rfl, rfl, rfl⟩) (by rfl) (by rfl) (by rw [strR, if_pos h1, if_pos ⟨h5, h6⟩]; try rfl) (by first | rfl | (simp; done) | (simp [ints, prs]; done))
      · rw [decide_eq_false h6] at e3
        refine has13.eev rfl rfl ?_
        unfold m13
        repeat' (first
          | (refine g_op ?_; first
            | refine ep_mov rfl ?_ | refine ep_load1 rfl rfl rfl rfl ?_ | refine ep_fieldAddr rfl ?_ | refine sp_loadN rfl rfl rfl rfl rfl ?_
            | refine ep_call0 rfl (by first | exact e1 | exact e2 | exact e3) rfl rfl ?_
            | refine sp_call rfl rfl rfl rfl (by first | exact e1 | exact e2 | exact e3) ⟨rfl, rfl, rfl, rfl⟩ rfl rfl rfl ?_
            | refine ep_bin rfl rfl (by exact b_sub (by omega) (by omega)) ?_ | refine ep_pickT rfl rfl ?_ | refine ep_pickF rfl rfl ?_ | refine ep_pickTH rfl (by assumption) rfl ?_ | refine ep_pickFH rfl (by assumption) rfl ?_
            | refine ep_not rfl ?_ | refine sp_box rfl rfl rfl rfl rfl ?_)
          | (refine g_ops ?_; first | refine eo_none ?_ | refine eo_nil ?_ | refine eo_yes rfl ?_ | refine eo_no rfl ?_ | refine eo_und rfl ?_ | refine eo_yesH rfl (by assumption) ?_ | refine eo_noH rfl (by assumption) ?_)
          | (refine g_code ?_; first | refine ec_seq ?_ | refine ec_region ?_ | refine ec_block ?_ | refine ec_skip ?_ | refine ec_ret ?_ | refine ec_condT rfl ?_ | refine ec_condF rfl ?_ | refine ec_condTH rfl (by assumption) ?_ | refine ec_condFH rfl (by assumption) ?_)
          | refine ek_seqN ?_ | refine ek_seqR ?_ | refine ek_blkN ?_ | refine ek_blkR ?_ | refine ek_blkX ?_ | refine ek_blkY rfl ?_)
        refine sfin (.inr rfl) (by rfl) (by rfl) (by exact ⟨rfl, rfl, rfl⟩) (by rfl) (by rfl) (by rw [strR, if_pos h1, if_neg (fun h => h6 h.2)]; try rfl) (by first | rfl | (simp; done) | (simp [ints, prs]; done))
    · rw [decide_eq_false h5] at e2
      refine has13.eev rfl rfl ?_
      unfold m13
      repeat' (first
        | (refine g_op ?_; first
          | refine ep_mov rfl ?_ | refine ep_load1 rfl rfl rfl rfl ?_ | refine ep_fieldAddr rfl ?_ | refine sp_loadN rfl rfl rfl rfl rfl ?_
          | refine ep_call0 rfl (by first | exact e1 | exact e2) rfl rfl ?_
          | refine sp_call rfl rfl rfl rfl (by first | exact e1 | exact e2) ⟨rfl, rfl, rfl, rfl⟩ rfl rfl rfl ?_
          | refine ep_bin rfl rfl (by exact b_sub (by omega) (by omega)) ?_ | refine ep_pickT rfl rfl ?_ | refine ep_pickF rfl rfl ?_ | refine ep_pickTH rfl (by assumption) rfl ?_ | refine ep_pickFH rfl (by assumption) rfl ?_
          | refine ep_not rfl ?_ | refine sp_box rfl rfl rfl rfl rfl ?_)
        | (refine g_ops ?_; first | refine eo_none ?_ | refine eo_nil ?_ | refine eo_yes rfl ?_ | refine eo_no rfl ?_ | refine eo_und rfl ?_ | refine eo_yesH rfl (by assumption) ?_ | refine eo_noH rfl (by assumption) ?_)
        | (refine g_code ?_; first | refine ec_seq ?_ | refine ec_region ?_ | refine ec_block ?_ | refine ec_skip ?_ | refine ec_ret ?_ | refine ec_condT rfl ?_ | refine ec_condF rfl ?_ | refine ec_condTH rfl (by assumption) ?_ | refine ec_condFH rfl (by assumption) ?_)
        | refine ek_seqN ?_ | refine ek_seqR ?_ | refine ek_blkN ?_ | refine ek_blkR ?_ | refine ek_blkX ?_ | refine ek_blkY rfl ?_)
      refine sfin (.inr rfl) (by rfl) (by rfl) (by exact ⟨rfl, rfl, rfl⟩) (by rfl) (by rfl) (by rw [strR, if_pos h1, if_neg (fun h => h5 h.1)]; try rfl) (by first | rfl | (simp; done) | (simp [ints, prs]; done))
def ints (l : List Nat) : List V := l.map fun (x : Nat) => .int .i64 (x : Int)
def zints (l : List Int) : List V := l.map fun x => .int .i64 x
def prs (n : Nat) (l : List Nat) : List V := l.flatMap fun (b : Nat) => [.int .i64 n, .int .i64 b]
theorem ints_len (l : List Nat) : (ints l).length = l.length * 1 := by simp [ints]
theorem zints_len (l : List Int) : (zints l).length = l.length * 1 := by simp [zints]
theorem prs_len (n : Nat) : ∀ (l : List Nat), (prs n l).length = l.length * 2
  | [] => rfl
  | x :: xs => by have := prs_len n xs; simp [prs] at this ⊢; omega
def selm (p : Nat → Bool) (g : Nat → Nat) (n : Nat) : List Nat := ((List.range n).filter p).map g
theorem selm_t {p : Nat → Bool} {g : Nat → Nat} {i : Nat} (h : p i = true) : selm p g (i + 1) = selm p g i ++ [g i] := by
  simp [selm, List.range_succ, List.filter_append, h]
theorem selm_f {p : Nat → Bool} {g : Nat → Nat} {i : Nat} (h : p i = false) : selm p g (i + 1) = selm p g i := by
  simp [selm, List.range_succ, List.filter_append, h]
theorem selm_len (p : Nat → Bool) (g : Nat → Nat) : ∀ n, (selm p g n).length ≤ n
  | 0 => by simp [selm]
  | n + 1 => by
    have := selm_len p g n
    cases h : p n with
    | true => rw [selm_t h]; simp; omega
    | false => rw [selm_f h]; omega
def slV (z : V) (k : Nat) (l : List Nat) : V := match l with | [] => z | x :: xs => .sl k 0 (x :: xs).length
def slH (k es : Nat) (c : List Nat → List V) (l : List Nat) : List Blk := match l with | [] => [] | x :: xs => [⟨c (x :: xs), es, k, some 0, false⟩]
abbrev idn : Nat → Nat := fun i => i
theorem bt_tb (b r : Nat) : bt b r = (b.testBit r).toNat := by
  unfold bt
  rw [Nat.testBit, Nat.and_comm]
  have : 1 &&& b >>> r = (b >>> r) % 2 := by rw [Nat.and_comm, Nat.and_one_is_mod]
  rw [this]
  have := Nat.mod_two_eq_zero_or_one (b >>> r)
  rcases this with h | h <;> rw [h] <;> rfl
def pk (g : Nat → Nat) : Nat → Nat
  | 0 => 0
  | n + 1 => pk g n ||| (g n <<< n)
theorem pk_tb {g : Nat → Nat} : ∀ {n : Nat}, (∀ r, r < n → g r ≤ 1) → ∀ r, (pk g n).testBit r = (decide (r < n) && decide (g r = 1))
  | 0, _, r => by simp [pk]
  | n + 1, h, r => by
    rw [pk, Nat.testBit_or, pk_tb (fun r hr => h r (by omega)), Nat.testBit_shiftLeft]
    have hn := h n (by omega)
    by_cases e : r = n
    · subst e
      have : g r = 0 ∨ g r = 1 := by omega
      rcases this with h | h <;> simp [h]
    · by_cases hl : r < n
      · have : ¬ n ≤ r := by omega
        have : r < n + 1 := by omega
        simp [*]
      · have h1 : n ≤ r := by omega
        have h2 : ¬ r < n + 1 := by omega
        simp only [hl, h1, h2, decide_false, Bool.false_and, Bool.false_or, ge_iff_le, decide_true, Bool.true_and]
        exact Nat.testBit_lt_two_pow (Nat.lt_of_le_of_lt hn (Nat.one_lt_two_pow (by omega)))
theorem lt_R2 {x n : Nat} (h : ∀ r, n ≤ r → x.testBit r = false) : x < R2 n := by
  unfold R2; exact Nat.lt_pow_two_of_testBit x fun i hi => h i hi
theorem pk_lt {g : Nat → Nat} {n : Nat} (h : ∀ r, r < n → g r ≤ 1) : pk g n < R2 n := by
  refine lt_R2 fun r hr => ?_
  rw [pk_tb h]; have : ¬ r < n := by omega
  simp [this]
theorem sl_lt {x i m : Nat} (hx : x ≤ 1) (hi : i < m) : x <<< i < R2 m := by
  rw [Nat.shiftLeft_eq]; unfold R2
  have h1 : 2 ^ i < 2 ^ m := Nat.pow_lt_pow_right (by omega) hi
  have h2 : x * 2 ^ i ≤ 1 * 2 ^ i := Nat.mul_le_mul_right _ hx
  omega
theorem R2_mono {i n : Nat} (h : i ≤ n) : R2 i ≤ R2 n := by unfold R2; exact Nat.pow_le_pow_right (by omega) h
theorem tb_ge {x n r : Nat} (h : x < R2 n) (hr : n ≤ r) : x.testBit r = false := by
  unfold R2 at h
  exact Nat.testBit_lt_two_pow (Nat.lt_of_lt_of_le h (Nat.pow_le_pow_right (by omega) hr))
theorem ext_bt {x y n : Nat} (hx : x < R2 n) (hy : y < R2 n) (h : ∀ r, r < n → bt x r = bt y r) : x = y := by
  apply Nat.eq_of_testBit_eq
  intro r
  by_cases hr : r < n
  · have := h r hr
    rw [bt_tb, bt_tb] at this
    revert this; cases x.testBit r <;> cases y.testBit r <;> simp
  · rw [tb_ge hx (by omega), tb_ge hy (by omega)]
theorem bt_pk {g : Nat → Nat} {n : Nat} (h : ∀ r, r < n → g r ≤ 1) {r : Nat} (hr : r < n) : bt (pk g n) r = g r := by
  rw [bt_tb, pk_tb h]
  have := h r hr
  have : g r = 0 ∨ g r = 1 := by omega
  rcases this with h | h <;> simp [h, hr]
theorem pk_add {g : Nat → Nat} {n : Nat} (h : ∀ r, r < n → g r ≤ 1) : pk g n + (g n <<< n) = pk g (n + 1) := by
  have hl := pk_lt h
  rw [pk, Nat.or_comm, Nat.shiftLeft_eq, Nat.add_comm]
  unfold R2 at hl
  rw [Nat.mul_comm (g n), Nat.two_pow_add_eq_or_of_lt hl]
theorem pk_congr {g h : Nat → Nat} : ∀ {n : Nat}, (∀ r, r < n → g r = h r) → pk g n = pk h n
  | 0, _ => rfl
  | n + 1, hh => by rw [pk, pk, pk_congr fun r hr => hh r (by omega), hh n (by omega)]
theorem pk_self {b n : Nat} (h : b < R2 n) : pk (bt b) n = b :=
  ext_bt (pk_lt fun r _ => bt_le b r) h fun r hr => bt_pk (fun r _ => bt_le b r) hr
/-- A set of numbers as bits. -/
-- impl.funcsThat
def m59_0 : MC := (.seq (.region [⟨(.bin .lss (.t 10) (.t 9)), (some 11), none⟩] false) (.seq (.cond (.t 11) .skip (.exit 0)) (.seq (.block 1 (.seq (.region [⟨(.mov (.t 10)), (some 12), none⟩, ⟨(.mov (.t 12)), (some 6), none⟩] false) (.seq (.region [⟨(.mov (.t 0)), (some 13), none⟩, ⟨(.mov (.t 6)), (some 14), none⟩, ⟨(.build [(.int .i64 0), (.int .i64 0)] [(0, (1, (.t 13))), (1, (1, (.t 14)))]), (some 15), none⟩, ⟨(.alloc [(.int .i64 0), (.int .i64 0)]), (some 7), none⟩, ⟨(.store 2 (.t 7) (.t 15)), none, none⟩] false) (.seq (.region [⟨(.mov (.t 1)), (some 16), none⟩, ⟨(.load (some 2) (.t 7)), (some 17), none⟩, ⟨(.callv (.t 16) [(.t 17)]), (some 18), none⟩] false) (.cond (.t 18) (.region [⟨(.mov (.t 5)), (some 19), none⟩, ⟨(.load (some 2) (.t 7)), (some 20), none⟩, ⟨(.bslice 2 [(.int .i64 0), (.int .i64 0)] 1 [(0, (2, (.t 20)))]), (some 21), none⟩, ⟨(.append 2 16 (.t 19) (.t 21)), (some 22), none⟩, ⟨(.mov (.t 22)), (some 5), none⟩] false) .skip))))) (.region [⟨(.bin .add (.t 10) (.k (.int .i64 1))), (some 23), none⟩, ⟨(.mov (.t 23)), (some 10), none⟩] false))))
def m59 : MC := (.seq (.region [⟨(.mov (.k .nils)), (some 4), none⟩] false) (.seq (.region [⟨(.mov (.k .nils)), (some 5), none⟩] false) (.seq (.seq (.region [⟨(.mov (.t 0)), (some 8), none⟩, ⟨(.call 64 [(.t 8)]), (some 9), none⟩, ⟨(.mov (.k (.int .i64 0))), (some 10), none⟩] false) (.block 0 (.loop m59_0))) (.seq (.region [⟨(.mov (.t 5)), (some 24), none⟩, ⟨(.mov (.t 24)), (some 4), none⟩] false) .ret))))
theorem has59 : Has cx 59 25 m59 [(.tmp 4)] :=
  ⟨⟨Try.f59, Try.f59.body.getD .skip, by kernel_rfl, by kernel_rfl, by kernel_rfl, by kernel_rfl, by kernel_rfl, by kernel_rfl⟩⟩

-- impl.funcBy
def m55_0 : MC := (.seq (.region [⟨(.bin .lss (.t 11) (.t 10)), (some 12), none⟩] false) (.seq (.cond (.t 12) .skip (.exit 0)) (.seq (.block 1 (.seq (.region [⟨(.mov (.t 11)), (some 13), none⟩, ⟨(.mov (.t 13)), (some 6), none⟩] false) (.region [⟨(.fieldAddr 1 (.t 5)), (some 14), none⟩, ⟨(.load none (.t 14)), (some 15), none⟩, ⟨(.mov (.t 1)), (some 16), none⟩, ⟨(.mov (.t 6)), (some 17), none⟩, ⟨(.callv (.t 16) [(.t 17)]), (some 18), none⟩, ⟨(.mov (.t 6)), (some 19), none⟩, ⟨(.bin .shl (.t 18) (.t 19)), (some 20), none⟩, ⟨(.bin .or (.t 15) (.t 20)), (some 21), none⟩, ⟨(.fieldAddr 1 (.t 5)), (some 22), none⟩, ⟨(.store 1 (.t 22) (.t 21)), none, none⟩] true))) (.region [⟨(.bin .add (.t 11) (.k (.int .i64 1))), (some 23), none⟩, ⟨(.mov (.t 23)), (some 11), none⟩] false))))
def m55 : MC := (.seq (.region [⟨(.alloc [(.int .i64 0), (.int .i64 0)]), (some 4), none⟩] false) (.seq (.region [⟨(.mov (.t 0)), (some 7), none⟩, ⟨(.build [(.int .i64 0), (.int .i64 0)] [(0, (1, (.t 7)))]), (some 8), none⟩, ⟨(.alloc [(.int .i64 0), (.int .i64 0)]), (some 5), none⟩, ⟨(.store 2 (.t 5) (.t 8)), none, none⟩] false) (.seq (.seq (.region [⟨(.mov (.t 0)), (some 9), none⟩, ⟨(.call 32 [(.t 9)]), (some 10), none⟩, ⟨(.mov (.k (.int .i64 0))), (some 11), none⟩] false) (.block 0 (.loop m55_0))) (.seq (.region [⟨(.load (some 2) (.t 5)), (some 24), none⟩, ⟨(.store 2 (.t 4) (.t 24)), none, none⟩] false) .ret))))
theorem has55 : Has cx 55 25 m55 [(.cell 4 (some 2))] :=
  ⟨⟨Try.f55, Try.f55.body.getD .skip, by kernel_rfl, by kernel_rfl, by kernel_rfl, by kernel_rfl, by kernel_rfl, by kernel_rfl⟩⟩

theorem R2_pos (n : Nat) : 1 ≤ R2 n := by unfold R2; exact Nat.one_le_two_pow
theorem R2_succ (n : Nat) : R2 (n + 1) = 2 * R2 n := by unfold R2; rw [Nat.pow_succ]; omega
def pop (b : Nat) : Nat → Nat
  | 0 => 0
  | n + 1 => pop b n + bt b n
def swar (b : Nat) : Nat :=
  (fun x1 : Nat => (fun x2 => (fun x3 => (fun x4 => (fun x5 => (fun x6 => x6 &&& 127) (x5 + x5 >>> 32)) (x4 + x4 >>> 16)) (x3 + x3 >>> 8)) ((x2 >>> 4 + x2) &&& 1085102592571150095)) ((x1 >>> 2 &&& 3689348814741910323) + (x1 &&& 3689348814741910323))) ((b >>> 1 &&& 6148914691236517205) + (b &&& 6148914691236517205))
theorem pop_le (b : Nat) : ∀ n, pop b n ≤ n
  | 0 => by simp [pop]
  | n + 1 => by have := pop_le b n; have := bt_le b n; simp only [pop]; omega
theorem and_le_r (x y : Nat) : x &&& y ≤ y := Nat.and_le_right
theorem and_le_l (x y : Nat) : x &&& y ≤ x := Nat.and_le_left
theorem shr_le (x y : Nat) : x >>> y ≤ x := Nat.shiftRight_le x y
-- math/bits.OnesCount64
def m83 : MC := (.seq (.region [⟨(.mov (.k (.int .i64 0))), (some 2), none⟩] false) (.seq (.region [⟨(.mov (.t 0)), (some 3), none⟩, ⟨(.bin .shr (.t 3) (.k (.int .u64 1))), (some 4), none⟩, ⟨(.bin .and (.t 4) (.k (.int .u64 6148914691236517205))), (some 5), none⟩, ⟨(.mov (.t 0)), (some 6), none⟩, ⟨(.bin .and (.t 6) (.k (.int .u64 6148914691236517205))), (some 7), none⟩, ⟨(.bin .add (.t 5) (.t 7)), (some 8), none⟩, ⟨(.mov (.t 8)), (some 0), none⟩] false) (.seq (.region [⟨(.mov (.t 0)), (some 9), none⟩, ⟨(.bin .shr (.t 9) (.k (.int .u64 2))), (some 10), none⟩, ⟨(.bin .and (.t 10) (.k (.int .u64 3689348814741910323))), (some 11), none⟩, ⟨(.mov (.t 0)), (some 12), none⟩, ⟨(.bin .and (.t 12) (.k (.int .u64 3689348814741910323))), (some 13), none⟩, ⟨(.bin .add (.t 11) (.t 13)), (some 14), none⟩, ⟨(.mov (.t 14)), (some 0), none⟩] false) (.seq (.region [⟨(.mov (.t 0)), (some 15), none⟩, ⟨(.bin .shr (.t 15) (.k (.int .u64 4))), (some 16), none⟩, ⟨(.mov (.t 0)), (some 17), none⟩, ⟨(.bin .add (.t 16) (.t 17)), (some 18), none⟩, ⟨(.bin .and (.t 18) (.k (.int .u64 1085102592571150095))), (some 19), none⟩, ⟨(.mov (.t 19)), (some 0), none⟩] false) (.seq (.region [⟨(.mov (.t 0)), (some 20), none⟩, ⟨(.mov (.t 0)), (some 21), none⟩, ⟨(.bin .shr (.t 21) (.k (.int .u64 8))), (some 22), none⟩, ⟨(.bin .add (.t 20) (.t 22)), (some 23), none⟩, ⟨(.mov (.t 23)), (some 0), none⟩] false) (.seq (.region [⟨(.mov (.t 0)), (some 24), none⟩, ⟨(.mov (.t 0)), (some 25), none⟩, ⟨(.bin .shr (.t 25) (.k (.int .u64 16))), (some 26), none⟩, ⟨(.bin .add (.t 24) (.t 26)), (some 27), none⟩, ⟨(.mov (.t 27)), (some 0), none⟩] false) (.seq (.region [⟨(.mov (.t 0)), (some 28), none⟩, ⟨(.mov (.t 0)), (some 29), none⟩, ⟨(.bin .shr (.t 29) (.k (.int .u64 32))), (some 30), none⟩, ⟨(.bin .add (.t 28) (.t 30)), (some 31), none⟩, ⟨(.mov (.t 31)), (some 0), none⟩] false) (.seq (.region [⟨(.mov (.t 0)), (some 32), none⟩, ⟨(.conv .i64 (.t 32)), (some 33), none⟩, ⟨(.bin .and (.t 33) (.k (.int .i64 127))), (some 34), none⟩, ⟨(.mov (.t 34)), (some 2), none⟩] false) .ret))))))))
theorem has83 : Has cx 83 35 m83 [(.tmp 2)] :=
  ⟨⟨Try.f83, Try.f83.body.getD .skip, by kernel_rfl, by kernel_rfl, by kernel_rfl, by kernel_rfl, by kernel_rfl, by kernel_rfl⟩⟩
theorem ev83 (b : Nat) (h : b < 65536) (hsw : swar b = pop b 16) : Ev cx 83 [.int .u64 b] [] (.int .i64 (pop b 16 : Nat)) [] := by
  rw [← hsw]
  unfold swar
  have a1 := shr_le b 1
  have a2 := and_le_l (b >>> 1) 6148914691236517205
  have a3 := and_le_l b 6148914691236517205
  generalize hx1 : (b >>> 1 &&& 6148914691236517205) + (b &&& 6148914691236517205) = x1
  have b1 := shr_le x1 2
  have b2 := and_le_l (x1 >>> 2) 3689348814741910323
  have b3 := and_le_l x1 3689348814741910323
  generalize hx2 : (x1 >>> 2 &&& 3689348814741910323) + (x1 &&& 3689348814741910323) = x2
  have c1 := shr_le x2 4
  have c2 := and_le_l (x2 >>> 4 + x2) 1085102592571150095
  generalize hx3 : (x2 >>> 4 + x2) &&& 1085102592571150095 = x3
  have d1 := shr_le x3 8
  generalize hx4 : x3 + x3 >>> 8 = x4
  have d2 := shr_le x4 16
  generalize hx5 : x4 + x4 >>> 16 = x5
  have d3 := shr_le x5 32
  generalize hx6 : x5 + x5 >>> 32 = x6
  have d4 := and_le_r x6 127
  have s1 : binV .add (.int .u64 (b >>> 1 &&& 6148914691236517205 : Nat)) (.int .u64 (b &&& 6148914691236517205 : Nat)) = some (.int .u64 (x1 : Nat)) := by rw [← hx1]; exact b_addU (by omega)
  have s2 : binV .add (.int .u64 (x1 >>> 2 &&& 3689348814741910323 : Nat)) (.int .u64 (x1 &&& 3689348814741910323 : Nat)) = some (.int .u64 (x2 : Nat)) := by rw [← hx2]; exact b_addU (by omega)
  have s3 : binV .and (.int .u64 (x2 >>> 4 + x2 : Nat)) (.int .u64 1085102592571150095) = some (.int .u64 (x3 : Nat)) := by rw [← hx3]; exact b_andU (y := 1085102592571150095) (by omega) (by omega)
  have s4 : binV .add (.int .u64 (x3 : Nat)) (.int .u64 (x3 >>> 8 : Nat)) = some (.int .u64 (x4 : Nat)) := by rw [← hx4]; exact b_addU (by omega)
  have s5 : binV .add (.int .u64 (x4 : Nat)) (.int .u64 (x4 >>> 16 : Nat)) = some (.int .u64 (x5 : Nat)) := by rw [← hx5]; exact b_addU (by omega)
  have s6 : binV .add (.int .u64 (x5 : Nat)) (.int .u64 (x5 >>> 32 : Nat)) = some (.int .u64 (x6 : Nat)) := by rw [← hx6]; exact b_addU (by omega)
  have hc : IntKind.i64.wrap (x6 : Nat) = (x6 : Nat) := wrap_id (by omega) (by omega)
  refine has83.eev rfl rfl ?_
  unfold m83
  repeat' (first
    | (refine g_op ?_; first
      | refine ep_mov rfl ?_
      | refine ep_bin rfl rfl (by first | exact s1 | exact s2 | exact s3 | exact s4 | exact s5 | exact s6 | exact b_shrU (y := 1) (by omega) | exact b_shrU (y := 2) (by omega) | exact b_shrU (y := 4) (by omega) | exact b_shrU (y := 8) (by omega) | exact b_shrU (y := 16) (by omega) | exact b_shrU (y := 32) (by omega) | exact b_andU (y := 6148914691236517205) (by omega) (by omega) | exact b_andU (y := 3689348814741910323) (by omega) (by omega) | exact b_addU (by omega) | exact b_and (y := 127) (by omega) (by omega) | exact b_add (by omega) (by omega) | exact b_and (by omega) (by omega) | exact b_shr (by omega)) ?_
      | refine ep_conv rfl (by first | exact w_u64 (by omega) (by omega) | exact wrap_id (by omega) (by omega) | rfl) ?_)
    | (refine g_ops ?_; first | refine eo_none ?_ | refine eo_nil ?_)
    | (refine g_code ?_; first | refine ec_seq ?_ | refine ec_region ?_ | refine ec_ret ?_)
    | refine ek_seqN ?_ | refine ek_seqR ?_)
  refine sfin (.inr rfl) (by rfl) (by rfl) (by exact ⟨rfl, rfl, rfl⟩) (by rfl) (by rfl) (by (subst hx6; subst hx5; subst hx4; subst hx3; subst hx2; rfl)) (by first | rfl | (simp; done) | (simp [ints, prs]; done))
-- impl.ones
def m57 : MC := (.seq (.region [⟨(.mov (.k (.int .i64 0))), (some 2), none⟩] false) (.seq (.region [⟨(.mov (.t 0)), (some 3), none⟩, ⟨(.conv .u64 (.t 3)), (some 4), none⟩, ⟨(.call 83 [(.t 4)]), (some 5), none⟩, ⟨(.mov (.t 5)), (some 2), none⟩] false) .ret))
theorem has57 : Has cx 57 6 m57 [(.tmp 2)] :=
  ⟨⟨Try.f57, Try.f57.body.getD .skip, by kernel_rfl, by kernel_rfl, by kernel_rfl, by kernel_rfl, by kernel_rfl, by kernel_rfl⟩⟩
theorem swar16 : ∀ b : Nat, b < 16 → swar b = pop b 16 := by decide +kernel
theorem ev57 (b : Nat) (h : b < 65536) (hsw : swar b = pop b 16) : Ev cx 57 [.int .i64 b] [] (.int .i64 (pop b 16 : Nat)) [] := by
  refine has57.eev rfl rfl ?_
  unfold m57
  repeat' (first
    | (refine g_op ?_; first
      | refine ep_mov rfl ?_
      | refine ep_call0 rfl (by first | exact ev83 _ h hsw) rfl rfl ?_
      | refine sp_call rfl rfl rfl rfl (by first | exact ev83 _ h hsw) ⟨rfl, rfl, rfl, rfl⟩ rfl rfl rfl ?_
      | refine ep_conv rfl (by first | exact w_u64 (by omega) (by omega) | exact wrap_id (by omega) (by omega) | rfl) ?_)
    | (refine g_ops ?_; first | refine eo_none ?_ | refine eo_nil ?_)
    | (refine g_code ?_; first | refine ec_seq ?_ | refine ec_region ?_ | refine ec_ret ?_)
    | refine ek_seqN ?_ | refine ek_seqR ?_)
  refine sfin (.inr rfl) (by rfl) (by rfl) (by exact ⟨rfl, rfl, rfl⟩) (by rfl) (by rfl) (by rfl) (by first | rfl | (simp; done) | (simp [ints, prs]; done))
theorem pop_ge {b n : Nat} (h : b < R2 n) : ∀ m, n ≤ m → pop b m = pop b n
  | 0, hm => by have : n = 0 := by omega
                subst this; rfl
  | m + 1, hm => by
    by_cases e : n = m + 1
    · subst e; rfl
    · rw [pop, pop_ge h m (by omega), bt_tb, tb_ge h (by omega)]; rfl
theorem ints_get {l : List Nat} {j : Nat} (h : j < l.length) : (ints l)[0 + j * 1]? = some (.int .i64 (l.getD j 0 : Nat)) := by
  simp [ints, h]
theorem zints_get {l : List Int} {j : Nat} (h : j < l.length) : (zints l)[0 + j * 1]? = some (.int .i64 (l.getD j 0)) := by
  simp [zints, h]
theorem prs_get {n : Nat} : ∀ {l : List Nat} {j : Nat} (_ : j < l.length), [V.int .i64 (n : Nat), V.int .i64 (l.getD j 0 : Nat)].length = 2 ∧ (0 + j * 2) + 2 ≤ (prs n l).length ∧ ((prs n l).drop (0 + j * 2)).take 2 = [V.int .i64 (n : Nat), V.int .i64 (l.getD j 0 : Nat)]
  | [], j, h => by simp at h
  | x :: xs, 0, h => by simp [prs]
  | x :: xs, j + 1, h => by
    obtain ⟨_, h2, h3⟩ := prs_get (n := n) (l := xs) (j := j) (by simpa using h)
    have e : (0 + (j + 1) * 2) = (0 + j * 2) + 2 := by omega
    rw [e]
    have e2 : prs n (x :: xs) = .int .i64 (n : Nat) :: .int .i64 (x : Nat) :: prs n xs := by simp [prs]
    rw [e2]
    refine ⟨rfl, by simp; omega, ?_⟩
    rw [List.drop_succ_cons, List.drop_succ_cons, h3]; simp
def fns (l : List (Int × Int)) : List V := l.flatMap fun (f : Int × Int) => [.int .i64 f.1, .int .i64 f.2]
theorem fns_get : ∀ {l : List (Int × Int)} {j : Nat} (_ : j < l.length), [V.int .i64 (l.getD j (0, 0)).1, V.int .i64 (l.getD j (0, 0)).2].length = 2 ∧ (0 + j * 2) + 2 ≤ (fns l).length ∧ ((fns l).drop (0 + j * 2)).take 2 = [V.int .i64 (l.getD j (0, 0)).1, V.int .i64 (l.getD j (0, 0)).2]
  | [], j, h => by simp at h
  | x :: xs, 0, h => by simp [fns]
  | x :: xs, j + 1, h => by
    obtain ⟨_, h2, h3⟩ := fns_get (l := xs) (j := j) (by simpa using h)
    have e : (0 + (j + 1) * 2) = (0 + j * 2) + 2 := by omega
    rw [e]
    have e2 : fns (x :: xs) = .int .i64 x.1 :: .int .i64 x.2 :: fns xs := by simp [fns]
    rw [e2]
    refine ⟨rfl, by simp; omega, ?_⟩
    rw [List.drop_succ_cons, List.drop_succ_cons, h3]; simp
theorem selm_all {g : Nat → Nat} (n : Nat) : (selm (fun _ => true) g n).length = n ∧ ∀ r, r < n → (selm (fun _ => true) g n).getD r 0 = g r := by
  have e : selm (fun _ => true) g n = (List.range n).map g := by unfold selm; rw [List.filter_eq_self.mpr (fun _ _ => rfl)]
  rw [e]; refine ⟨by simp, fun r hr => by simp [List.getD_eq_getElem?_getD, hr]⟩
-- spec.l01Of
def m63_0 : MC := (.seq (.seq (.region [⟨(.mov (.t 6)), (some 9), none⟩, ⟨(.mov (.t 0)), (some 10), none⟩, ⟨(.call 53 [(.t 10)]), (some 11), none⟩, ⟨(.bin .lss (.t 9) (.t 11)), (some 12), none⟩] false) (.cond (.t 12) .skip (.exit 0))) (.seq (.block 1 (.region [⟨(.fieldAddr 1 (.t 5)), (some 15), none⟩, ⟨(.load none (.t 15)), (some 16), none⟩, ⟨(.mov (.t 1)), (some 17), none⟩, ⟨(.mov (.t 6)), (some 18), none⟩, ⟨(.indexAddr 1 (.t 17) (.t 18)), (some 19), none⟩, ⟨(.load none (.t 19)), (some 20), none⟩, ⟨(.mov (.t 6)), (some 21), none⟩, ⟨(.conv .u64 (.t 21)), (some 22), none⟩, ⟨(.bin .shl (.t 20) (.t 22)), (some 23), none⟩, ⟨(.bin .add (.t 16) (.t 23)), (some 24), none⟩, ⟨(.fieldAddr 1 (.t 5)), (some 25), none⟩, ⟨(.store 1 (.t 25) (.t 24)), none, none⟩] true)) (.region [⟨(.mov (.t 6)), (some 13), none⟩, ⟨(.bin .add (.t 13) (.k (.int .i64 1))), (some 14), none⟩, ⟨(.mov (.t 14)), (some 6), none⟩] false)))
def m63 : MC := (.seq (.region [⟨(.alloc [(.int .i64 0), (.int .i64 0)]), (some 4), none⟩] false) (.seq (.region [⟨(.mov (.t 0)), (some 7), none⟩, ⟨(.build [(.int .i64 0), (.int .i64 0)] [(0, (1, (.t 7)))]), (some 8), none⟩, ⟨(.alloc [(.int .i64 0), (.int .i64 0)]), (some 5), none⟩, ⟨(.store 2 (.t 5) (.t 8)), none, none⟩] false) (.seq (.seq (.region [⟨(.mov (.k (.int .i64 0))), (some 6), none⟩] false) (.block 0 (.loop m63_0))) (.seq (.region [⟨(.load (some 2) (.t 5)), (some 26), none⟩, ⟨(.store 2 (.t 4) (.t 26)), none, none⟩] false) .ret))))
theorem has63 : Has cx 63 27 m63 [(.cell 4 (some 2))] :=
  ⟨⟨Try.f63, Try.f63.body.getD .skip, by kernel_rfl, by kernel_rfl, by kernel_rfl, by kernel_rfl, by kernel_rfl, by kernel_rfl⟩⟩
theorem lp63_0 (n p : Nat) (l : List Nat) (hn : n ≤ 4) (hl : R2 n ≤ l.length) (h01 : ∀ r, r < R2 n → l.getD r 0 ≤ 1) :
    LpS cx 27 1 m63_0 [(0, .int .i64 (n : Nat)), (1, .sl 0 0 l.length), (4, .ptr 1 0), (5, .ptr 2 0), (6, .int .i64 (0 : Nat))] [⟨ints l, 1, 0, some p, false⟩, ⟨[.int .i64 0, .int .i64 0], 1, 1, some 0, true⟩, ⟨[.int .i64 (n : Nat), .int .i64 (pk (fun r => l.getD r 0) (0) : Nat)], 1, 2, some 0, true⟩] (⟨.exit 0, [(4, .ptr 1 0), (5, .ptr 2 0)], [⟨ints l, 1, 0, some p, false⟩, ⟨[.int .i64 0, .int .i64 0], 1, 1, some 0, true⟩, ⟨[.int .i64 (n : Nat), .int .i64 (pk (fun r => l.getD r 0) (R2 n) : Nat)], 1, 2, some 0, true⟩]⟩ : Out).x (⟨.exit 0, [(4, .ptr 1 0), (5, .ptr 2 0)], [⟨ints l, 1, 0, some p, false⟩, ⟨[.int .i64 0, .int .i64 0], 1, 1, some 0, true⟩, ⟨[.int .i64 (n : Nat), .int .i64 (pk (fun r => l.getD r 0) (R2 n) : Nat)], 1, 2, some 0, true⟩]⟩ : Out).e (⟨.exit 0, [(4, .ptr 1 0), (5, .ptr 2 0)], [⟨ints l, 1, 0, some p, false⟩, ⟨[.int .i64 0, .int .i64 0], 1, 1, some 0, true⟩, ⟨[.int .i64 (n : Nat), .int .i64 (pk (fun r => l.getD r 0) (R2 n) : Nat)], 1, 2, some 0, true⟩]⟩ : Out).h := by
  obtain ⟨h1, h2, h3, h4⟩ := shN hn
  refine lp_st (R2 n) (fun _ => ()) (fun i _ => [(0, .int .i64 (n : Nat)), (1, .sl 0 0 l.length), (4, .ptr 1 0), (5, .ptr 2 0), (6, .int .i64 (i : Nat))]) (fun i _ => [⟨ints l, 1, 0, some p, false⟩, ⟨[.int .i64 0, .int .i64 0], 1, 1, some 0, true⟩, ⟨[.int .i64 (n : Nat), .int .i64 (pk (fun r => l.getD r 0) (i) : Nat)], 1, 2, some 0, true⟩]) (fun _ => (⟨.exit 0, [(4, .ptr 1 0), (5, .ptr 2 0)], [⟨ints l, 1, 0, some p, false⟩, ⟨[.int .i64 0, .int .i64 0], 1, 1, some 0, true⟩, ⟨[.int .i64 (n : Nat), .int .i64 (pk (fun r => l.getD r 0) (R2 n) : Nat)], 1, 2, some 0, true⟩]⟩ : Out)) ?_ ?_ (R2 n) 0 (by omega)
  · intro i u_ hi hu_
    refine ⟨(), rfl, ?_⟩
    have hlt : decide ((i : Int) < (R2 n : Nat)) = true := decide_eq_true (by omega)
    have hg := h01 i hi
    have hp0 := pk_lt (g := fun r => l.getD r 0) (n := i + 1) fun r hr => h01 r (by omega)
    have hp3 := pk_add (g := fun r => l.getD r 0) (n := i) fun r hr => h01 r (by omega)
    have hp1 := R2_mono (i := i + 1) (n := R2 n) (by omega)
    have hs1 := sl_lt hg hi
    have hb0 : binV .add (.int .i64 (pk (fun r => l.getD r 0) i : Nat)) (.int .i64 (l.getD i 0 <<< i : Nat)) = some (.int .i64 (pk (fun r => l.getD r 0) (i + 1) : Nat)) := by
      rw [← hp3] at hp0 ⊢; exact b_addN (by omega)
    unfold m63_0
    repeat' (first
      | (refine g_op ?_; first
        | refine ep_mov rfl ?_ | refine ep_load1 rfl rfl rfl rfl ?_ | refine ep_fieldAddr rfl ?_
        | refine ep_call0 rfl (by first | exact ev53 _ hn) rfl rfl ?_
        | refine sp_call rfl rfl rfl rfl (by first | exact ev53 _ hn) ⟨rfl, rfl, rfl, rfl⟩ rfl rfl rfl ?_
        | refine ep_bin rfl rfl (by first | exact hb0 | exact b_shl (x := l.getD i 0) (by omega) (by omega) | exact b_add (by omega) (by omega) | exact b_shl (by omega) (by omega) | exact b_lss) ?_ | refine sp_store rfl rfl rfl rfl rfl rfl rfl rfl rfl rfl ?_
        | refine ep_conv rfl (by first | exact w_u64 (by omega) (by omega) | exact wrap_id (by omega) (by omega) | rfl) ?_ | refine sp_idx rfl rfl rfl (by omega) rfl ?_ | refine ep_loadS rfl rfl rfl (by first | exact ints_get (by omega) | exact zints_get (by omega) | exact fget (by omega) | assumption) ?_)
      | (refine g_ops ?_; first | refine eo_none ?_ | refine eo_nil ?_)
      | (refine g_dops ?_; first | refine ed_none ?_ | refine ed_nil ?_)
      | refine ed_same rfl ?_ | refine ed_one rfl rfl rfl rfl ?_ | refine ed_two rfl rfl rfl rfl rfl rfl rfl ?_ | refine ed_write rfl rfl ?_
      | (refine g_code ?_; first | refine ec_seq ?_ | refine ec_region ?_ | refine ec_draw ?_ | refine ec_block ?_ | refine ec_skip ?_ | refine ec_exit ?_ | refine ec_condT rfl ?_ | refine ec_condF rfl ?_ | refine ec_condTH rfl (by assumption) ?_ | refine ec_condFH rfl (by assumption) ?_)
      | refine ek_seqN ?_ | refine ek_seqX ?_ | refine ek_blkN ?_ | refine ek_blkR ?_ | refine ek_blkX ?_ | refine ek_blkY rfl ?_)
    exact rnd_on (by rfl) (scmp2 (by rfl) (by rfl) (by exact ⟨rfl, rfl, rfl⟩) (by rfl) (by first | rfl | (simp; done) | (simp [ints, prs]; done)) (by rfl) (by first | rfl | (simp; done) | (simp [ints, prs]; done)))
  · intro u_ hu_
    have hlt : decide (((R2 n : Nat) : Int) < (R2 n : Nat)) = false := decide_eq_false (by omega)
    unfold m63_0
    repeat' (first
      | (refine g_op ?_; first
        | refine ep_mov rfl ?_ | refine ep_load1 rfl rfl rfl rfl ?_ | refine ep_fieldAddr rfl ?_
        | refine ep_call0 rfl (by first | exact ev53 _ hn) rfl rfl ?_
        | refine sp_call rfl rfl rfl rfl (by first | exact ev53 _ hn) ⟨rfl, rfl, rfl, rfl⟩ rfl rfl rfl ?_
        | refine ep_bin rfl rfl (by first | exact hb0 | exact b_shl (x := l.getD i 0) (by omega) (by omega) | exact b_add (by omega) (by omega) | exact b_shl (by omega) (by omega) | exact b_lss) ?_ | refine sp_store rfl rfl rfl rfl rfl rfl rfl rfl rfl rfl ?_
        | refine ep_conv rfl (by first | exact w_u64 (by omega) (by omega) | exact wrap_id (by omega) (by omega) | rfl) ?_ | refine sp_idx rfl rfl rfl (by omega) rfl ?_ | refine ep_loadS rfl rfl rfl (by first | exact ints_get (by omega) | exact zints_get (by omega) | exact fget (by omega) | assumption) ?_)
      | (refine g_ops ?_; first | refine eo_none ?_ | refine eo_nil ?_)
      | (refine g_dops ?_; first | refine ed_none ?_ | refine ed_nil ?_)
      | refine ed_same rfl ?_ | refine ed_one rfl rfl rfl rfl ?_ | refine ed_two rfl rfl rfl rfl rfl rfl rfl ?_ | refine ed_write rfl rfl ?_
      | (refine g_code ?_; first | refine ec_seq ?_ | refine ec_region ?_ | refine ec_draw ?_ | refine ec_block ?_ | refine ec_skip ?_ | refine ec_exit ?_ | refine ec_condT rfl ?_ | refine ec_condF rfl ?_ | refine ec_condTH rfl (by assumption) ?_ | refine ec_condFH rfl (by assumption) ?_)
      | refine ek_seqN ?_ | refine ek_seqX ?_ | refine ek_blkN ?_ | refine ek_blkR ?_ | refine ek_blkX ?_ | refine ek_blkY rfl ?_)
    exact rnd_out (by rfl) (by simp) (scmp2 (by rfl) (by rfl) (by exact ⟨rfl, rfl, rfl⟩) (by rfl) (by first | rfl | (simp; done) | (simp [ints, prs]; done)) (by rfl) (by first | rfl | (simp; done) | (simp [ints, prs]; done)))

theorem ev63 (n p : Nat) (l : List Nat) (hn : n ≤ 4) (hl : R2 n ≤ l.length) (h01 : ∀ r, r < R2 n → l.getD r 0 ≤ 1) : Ev cx 63 [.int .i64 n, .sl 0 0 l.length] [⟨ints l, 1, 0, some p, false⟩] (.agg [.int .i64 n, .int .i64 (pk (fun r => l.getD r 0) (R2 n) : Nat)]) [⟨ints l, 1, 0, some p, false⟩] := by
  have lp := lp63_0 n p l hn hl h01
  refine has63.eev rfl rfl ?_
  unfold m63
  repeat' (first
    | refine sc_loop lp rfl rfl ⟨rfl, rfl, rfl⟩ rfl rfl rfl ?_
    | (refine g_op ?_; first
      | refine ep_mov rfl ?_ | refine sp_loadN rfl rfl rfl rfl rfl ?_
      | refine sp_store rfl rfl rfl rfl rfl rfl rfl rfl rfl rfl ?_ | refine sp_alloc rfl rfl ?_ | refine sp_build rfl rfl ?_)
    | (refine g_ops ?_; first | refine eo_none ?_ | refine eo_nil ?_)
    | (refine g_code ?_; first | refine ec_seq ?_ | refine ec_region ?_ | refine ec_block ?_ | refine ec_ret ?_)
    | refine ek_seqN ?_ | refine ek_seqX ?_ | refine ek_seqR ?_ | refine ek_blkN ?_ | refine ek_blkR ?_ | refine ek_blkX ?_ | refine ek_blkY rfl ?_)
  refine sfin (.inr rfl) (by rfl) (by rfl) (by exact ⟨rfl, rfl, rfl⟩) (by rfl) (by rfl) (by rfl) (by first | rfl | (simp; done) | (simp [ints, prs]; done))
-- spec.l01Fix
def m80_0 : MC := (.seq (.seq (.region [⟨(.mov (.t 8)), (some 10), none⟩, ⟨(.fieldAddr 0 (.t 3)), (some 11), none⟩, ⟨(.load none (.t 11)), (some 12), none⟩, ⟨(.call 53 [(.t 12)]), (some 13), none⟩, ⟨(.bin .lss (.t 10) (.t 13)), (some 14), none⟩] false) (.cond (.t 14) .skip (.exit 0))) (.seq (.block 1 (.seq (.region [⟨(.mov (.t 8)), (some 17), none⟩, ⟨(.mov (.t 1)), (some 18), none⟩, ⟨(.conv .u64 (.t 18)), (some 19), none⟩, ⟨(.bin .shr (.t 17) (.t 19)), (some 20), none⟩, ⟨(.bin .and (.t 20) (.k (.int .i64 1))), (some 21), none⟩, ⟨(.mov (.t 2)), (some 22), none⟩, ⟨(.bin .eql (.t 21) (.t 22)), (some 23), none⟩] false) (.cond (.t 23) (.region [⟨(.mov (.t 7)), (some 24), none⟩, ⟨(.load (some 2) (.t 3)), (some 25), none⟩, ⟨(.mov (.t 8)), (some 26), none⟩, ⟨(.call 52 [(.t 25), (.t 26)]), (some 27), none⟩, ⟨(.bslice 1 [(.int .i64 0)] 1 [(0, (1, (.t 27)))]), (some 28), none⟩, ⟨(.append 1 8 (.t 24) (.t 28)), (some 29), none⟩, ⟨(.mov (.t 29)), (some 7), none⟩] false) .skip))) (.region [⟨(.mov (.t 8)), (some 15), none⟩, ⟨(.bin .add (.t 15) (.k (.int .i64 1))), (some 16), none⟩, ⟨(.mov (.t 16)), (some 8), none⟩] false)))
def m80 : MC := (.seq (.region [⟨(.box (.t 0)), (some 3), none⟩, ⟨(.alloc [(.int .i64 0), (.int .i64 0)]), (some 6), none⟩] false) (.seq (.region [⟨.empt, (some 9), none⟩, ⟨(.mov (.t 9)), (some 7), none⟩] false) (.seq (.seq (.region [⟨(.mov (.k (.int .i64 0))), (some 8), none⟩] false) (.block 0 (.loop m80_0))) (.seq (.region [⟨(.fieldAddr 0 (.t 3)), (some 30), none⟩, ⟨(.load none (.t 30)), (some 31), none⟩, ⟨(.bin .sub (.t 31) (.k (.int .i64 1))), (some 32), none⟩, ⟨(.mov (.t 7)), (some 33), none⟩, ⟨(.call 63 [(.t 32), (.t 33)]), (some 34), none⟩, ⟨(.store 2 (.t 6) (.t 34)), none, none⟩] false) .ret))))
theorem has80 : Has cx 80 35 m80 [(.cell 6 (some 2))] :=
  ⟨⟨Try.f80, Try.f80.body.getD .skip, by kernel_rfl, by kernel_rfl, by kernel_rfl, by kernel_rfl, by kernel_rfl, by kernel_rfl⟩⟩
theorem allF_succ (p : Nat → Bool) : ∀ (n i : Nat), allF p i (n + 1) = (allF p i n && p (i + n))
  | 0, i => by simp [allF]
  | n + 1, i => by
    rw [allF, allF_succ p n (i + 1), allF, Bool.and_assoc, show i + 1 + n = i + (n + 1) by omega]
theorem allF_s (p : Nat → Bool) (n : Nat) : allF p 0 (n + 1) = (allF p 0 n && p n) := by rw [allF_succ, Nat.zero_add]
def regI (n b i : Nat) : Bool := allF (fun j => strB n b i j || strB n b j i) 0 i
def regB (n b : Nat) : Bool := allF (regI n b) 0 n
-- impl.IsRegular
def m15_1 : MC := (.seq (.region [⟨(.bin .lss (.t 15) (.t 14)), (some 16), none⟩] false) (.seq (.cond (.t 16) .skip (.exit 2)) (.seq (.block 3 (.seq (.region [⟨(.mov (.t 15)), (some 17), none⟩, ⟨(.mov (.t 17)), (some 5), none⟩] false) (.seq (.region [⟨(.load (some 2) (.t 1)), (some 18), none⟩, ⟨(.mov (.t 4)), (some 19), none⟩, ⟨(.mov (.t 5)), (some 20), none⟩, ⟨(.call 37 [(.t 18), (.t 19), (.t 20)]), (some 21), none⟩, ⟨(.un .not (.t 21)), (some 22), none⟩, ⟨(.mov (.t 22)), (some 23), none⟩, ⟨(.load (some 2) (.t 1)), (some 24), (some (23, true))⟩, ⟨(.mov (.t 5)), (some 25), (some (23, true))⟩, ⟨(.mov (.t 4)), (some 26), (some (23, true))⟩, ⟨(.call 37 [(.t 24), (.t 25), (.t 26)]), (some 27), (some (23, true))⟩, ⟨(.un .not (.t 27)), (some 28), (some (23, true))⟩, ⟨(.pick (.t 23) (.t 28) (.k (.bool false))), (some 29), none⟩] false) (.cond (.t 29) (.seq (.region [⟨(.mov (.k (.bool false))), (some 2), none⟩, ⟨(.mov (.k (.int .i64 0))), (some 3), none⟩] false) .ret) .skip)))) (.region [⟨(.bin .add (.t 15) (.k (.int .i64 1))), (some 30), none⟩, ⟨(.mov (.t 30)), (some 15), none⟩] false))))
def m15_0 : MC := (.seq (.region [⟨(.bin .lss (.t 11) (.t 10)), (some 12), none⟩] false) (.seq (.cond (.t 12) .skip (.exit 0)) (.seq (.block 1 (.seq (.region [⟨(.mov (.t 11)), (some 13), none⟩, ⟨(.mov (.t 13)), (some 4), none⟩] false) (.seq (.region [⟨(.mov (.t 4)), (some 14), none⟩, ⟨(.mov (.k (.int .i64 0))), (some 15), none⟩] false) (.block 2 (.loop m15_1))))) (.region [⟨(.bin .add (.t 11) (.k (.int .i64 1))), (some 31), none⟩, ⟨(.mov (.t 31)), (some 11), none⟩] false))))
def m15 : MC := (.seq (.region [⟨(.box (.t 0)), (some 1), none⟩, ⟨(.mov (.k (.bool false))), (some 2), none⟩, ⟨(.mov (.k (.int .i64 0))), (some 3), none⟩] false) (.seq (.seq (.region [⟨(.load (some 2) (.t 1)), (some 6), none⟩, ⟨(.call 27 [(.t 6)]), (some 7), none⟩, ⟨(.un .not (.t 7)), (some 8), none⟩] false) (.cond (.t 8) (.seq (.region [⟨(.mov (.k (.bool false))), (some 2), none⟩, ⟨(.mov (.k (.int .i64 1))), (some 3), none⟩] false) .ret) .skip)) (.seq (.seq (.region [⟨(.fieldAddr 0 (.t 1)), (some 9), none⟩, ⟨(.load none (.t 9)), (some 10), none⟩, ⟨(.mov (.k (.int .i64 0))), (some 11), none⟩] false) (.block 0 (.loop m15_0))) (.seq (.region [⟨(.load (some 2) (.t 1)), (some 32), none⟩, ⟨(.call 46 [(.t 32)]), (some 33), none⟩, ⟨(.mov (.t 33)), (some 2), none⟩, ⟨(.mov (.k (.int .i64 0))), (some 3), none⟩] false) .ret))))
theorem has15 : Has cx 15 34 m15 [(.tmp 2), (.tmp 3)] :=
  ⟨⟨Try.f15, Try.f15.body.getD .skip, by kernel_rfl, by kernel_rfl, by kernel_rfl, by kernel_rfl, by kernel_rfl, by kernel_rfl⟩⟩
theorem lp15_1 (n b q : Nat) (hn : n ≤ 4) (hb : b < 65536) (hq : q < n) (o : Out) (ho : (if allF (fun j => strB n b q j || strB n b j q) 0 (q) = true then (⟨.exit 2, [(1, .ptr 0 0), (10, .int .i64 (n : Nat)), (11, .int .i64 (q : Nat))], [⟨[.int .i64 n, .int .i64 b], 1, 0, some 0, true⟩]⟩ : Out) else ⟨.ret, [(2, .bool false), (3, .int .i64 0)], []⟩) = o) :
    LpS cx 34 0 m15_1 [(1, .ptr 0 0), (4, .int .i64 (q : Nat)), (10, .int .i64 (n : Nat)), (11, .int .i64 (q : Nat)), (14, .int .i64 (q : Nat)), (15, .int .i64 (0 : Nat))] [⟨[.int .i64 n, .int .i64 b], 1, 0, some 0, true⟩] o.x o.e o.h := by
  refine lp_all (q) (fun j => strB n b q j || strB n b j q) (fun i => [(1, .ptr 0 0), (4, .int .i64 (q : Nat)), (10, .int .i64 (n : Nat)), (11, .int .i64 (q : Nat)), (14, .int .i64 (q : Nat)), (15, .int .i64 (i : Nat))]) (fun i => [⟨[.int .i64 n, .int .i64 b], 1, 0, some 0, true⟩]) _ _ ?_ ?_ ?_ (q) 0 o (by omega) ho
  · intro i hi hp
    have hlt : decide ((i : Int) < (q : Nat)) = true := decide_eq_true (by omega)
    have hp' : (strB n b q i || strB n b i q) = true := hp
    have e1 := ev37 n b q i hn hb hq (by omega)
    have e2 := ev37 n b i q hn hb (by omega) hq
    cases hs1 : strB n b q i
    · have hs2 : strB n b i q = true := by rw [hs1] at hp'; simpa using hp'
      rw [hs1] at e1; rw [hs2] at e2
      unfold m15_1
      repeat' (first
        | (refine g_op ?_; first
          | refine ep_mov rfl ?_ | refine sp_loadN rfl rfl rfl rfl rfl ?_
          | refine ep_call0 rfl (by first | exact e1 | exact e2) rfl rfl ?_
          | refine sp_call rfl rfl rfl rfl (by first | exact e1 | exact e2) ⟨rfl, rfl, rfl, rfl⟩ rfl rfl rfl ?_
          | refine ep_bin rfl rfl (by first | exact b_add (by omega) (by omega) | exact b_lss) ?_ | refine ep_pickT rfl rfl ?_ | refine ep_pickF rfl rfl ?_ | refine ep_pickTH rfl (by assumption) rfl ?_
          | refine ep_pickFH rfl (by assumption) rfl ?_ | refine ep_not rfl ?_)
        | (refine g_ops ?_; first | refine eo_none ?_ | refine eo_nil ?_ | refine eo_yes rfl ?_ | refine eo_no rfl ?_ | refine eo_und rfl ?_ | refine eo_yesH rfl (by assumption) ?_ | refine eo_noH rfl (by assumption) ?_)
        | (refine g_code ?_; first | refine ec_seq ?_ | refine ec_region ?_ | refine ec_block ?_ | refine ec_skip ?_ | refine ec_exit ?_ | refine ec_ret ?_ | refine ec_condT rfl ?_ | refine ec_condF rfl ?_ | refine ec_condTH rfl (by assumption) ?_ | refine ec_condFH rfl (by assumption) ?_)
        | refine ek_seqN ?_ | refine ek_seqX ?_ | refine ek_seqR ?_ | refine ek_blkN ?_ | refine ek_blkR ?_ | refine ek_blkX ?_ | refine ek_blkY rfl ?_)
      exact rnd_on (by rfl) (scmp2 (by rfl) (by rfl) (by exact ⟨rfl, rfl, rfl⟩) (by rfl) (by first | rfl | (simp; done) | (simp [ints, prs]; done)) (by rfl) (by first | rfl | (simp; done) | (simp [ints, prs]; done)))
    rw [hs1] at e1
    unfold m15_1
    repeat' (first
      | (refine g_op ?_; first
        | refine ep_mov rfl ?_ | refine sp_loadN rfl rfl rfl rfl rfl ?_
        | refine ep_call0 rfl (by first | exact e1 | exact e2) rfl rfl ?_
        | refine sp_call rfl rfl rfl rfl (by first | exact e1 | exact e2) ⟨rfl, rfl, rfl, rfl⟩ rfl rfl rfl ?_
        | refine ep_bin rfl rfl (by first | exact b_add (by omega) (by omega) | exact b_lss) ?_ | refine ep_pickT rfl rfl ?_ | refine ep_pickF rfl rfl ?_ | refine ep_pickTH rfl (by assumption) rfl ?_
        | refine ep_pickFH rfl (by assumption) rfl ?_ | refine ep_not rfl ?_)
      | (refine g_ops ?_; first | refine eo_none ?_ | refine eo_nil ?_ | refine eo_yes rfl ?_ | refine eo_no rfl ?_ | refine eo_und rfl ?_ | refine eo_yesH rfl (by assumption) ?_ | refine eo_noH rfl (by assumption) ?_)
      | (refine g_code ?_; first | refine ec_seq ?_ | refine ec_region ?_ | refine ec_block ?_ | refine ec_skip ?_ | refine ec_exit ?_ | refine ec_ret ?_ | refine ec_condT rfl ?_ | refine ec_condF rfl ?_ | refine ec_condTH rfl (by assumption) ?_ | refine ec_condFH rfl (by assumption) ?_)
      | refine ek_seqN ?_ | refine ek_seqX ?_ | refine ek_seqR ?_ | refine ek_blkN ?_ | refine ek_blkR ?_ | refine ek_blkX ?_ | refine ek_blkY rfl ?_)
    exact rnd_on (by rfl) (scmp2 (by rfl) (by rfl) (by exact ⟨rfl, rfl, rfl⟩) (by rfl) (by first | rfl | (simp; done) | (simp [ints, prs]; done)) (by rfl) (by first | rfl | (simp; done) | (simp [ints, prs]; done)))
  · intro i hi hp
    have hlt : decide ((i : Int) < (q : Nat)) = true := decide_eq_true (by omega)
    have hp' : (strB n b q i || strB n b i q) = false := hp
    have e1 := ev37 n b q i hn hb hq (by omega)
    have e2 := ev37 n b i q hn hb (by omega) hq
    simp only [Bool.or_eq_false_iff] at hp'
    rw [hp'.1] at e1; rw [hp'.2] at e2
    unfold m15_1
    repeat' (first
      | (refine g_op ?_; first
        | refine ep_mov rfl ?_ | refine sp_loadN rfl rfl rfl rfl rfl ?_
        | refine ep_call0 rfl (by first | exact e1 | exact e2) rfl rfl ?_
        | refine sp_call rfl rfl rfl rfl (by first | exact e1 | exact e2) ⟨rfl, rfl, rfl, rfl⟩ rfl rfl rfl ?_
        | refine ep_bin rfl rfl (by first | exact b_add (by omega) (by omega) | exact b_lss) ?_ | refine ep_pickT rfl rfl ?_ | refine ep_pickF rfl rfl ?_ | refine ep_pickTH rfl (by assumption) rfl ?_
        | refine ep_pickFH rfl (by assumption) rfl ?_ | refine ep_not rfl ?_)
      | (refine g_ops ?_; first | refine eo_none ?_ | refine eo_nil ?_ | refine eo_yes rfl ?_ | refine eo_no rfl ?_ | refine eo_und rfl ?_ | refine eo_yesH rfl (by assumption) ?_ | refine eo_noH rfl (by assumption) ?_)
      | (refine g_code ?_; first | refine ec_seq ?_ | refine ec_region ?_ | refine ec_block ?_ | refine ec_skip ?_ | refine ec_exit ?_ | refine ec_ret ?_ | refine ec_condT rfl ?_ | refine ec_condF rfl ?_ | refine ec_condTH rfl (by assumption) ?_ | refine ec_condFH rfl (by assumption) ?_)
      | refine ek_seqN ?_ | refine ek_seqX ?_ | refine ek_seqR ?_ | refine ek_blkN ?_ | refine ek_blkR ?_ | refine ek_blkX ?_ | refine ek_blkY rfl ?_)
    exact rnd_out (by rfl) (by simp) (scmp2 (by rfl) (by rfl) (by exact ⟨rfl, rfl, rfl⟩) (by rfl) (by first | rfl | (simp; done) | (simp [ints, prs]; done)) (by rfl) (by first | rfl | (simp; done) | (simp [ints, prs]; done)))
  · have hlt : decide (((q : Nat) : Int) < (q : Nat)) = false := decide_eq_false (by omega)
    unfold m15_1
    repeat' (first
      | (refine g_op ?_; first
        | refine ep_mov rfl ?_ | refine sp_loadN rfl rfl rfl rfl rfl ?_
        | refine ep_call0 rfl (by first | exact e1 | exact e2) rfl rfl ?_
        | refine sp_call rfl rfl rfl rfl (by first | exact e1 | exact e2) ⟨rfl, rfl, rfl, rfl⟩ rfl rfl rfl ?_
        | refine ep_bin rfl rfl (by first | exact b_add (by omega) (by omega) | exact b_lss) ?_ | refine ep_pickT rfl rfl ?_ | refine ep_pickF rfl rfl ?_ | refine ep_pickTH rfl (by assumption) rfl ?_
        | refine ep_pickFH rfl (by assumption) rfl ?_ | refine ep_not rfl ?_)
      | (refine g_ops ?_; first | refine eo_none ?_ | refine eo_nil ?_ | refine eo_yes rfl ?_ | refine eo_no rfl ?_ | refine eo_und rfl ?_ | refine eo_yesH rfl (by assumption) ?_ | refine eo_noH rfl (by assumption) ?_)
      | (refine g_code ?_; first | refine ec_seq ?_ | refine ec_region ?_ | refine ec_block ?_ | refine ec_skip ?_ | refine ec_exit ?_ | refine ec_ret ?_ | refine ec_condT rfl ?_ | refine ec_condF rfl ?_ | refine ec_condTH rfl (by assumption) ?_ | refine ec_condFH rfl (by assumption) ?_)
      | refine ek_seqN ?_ | refine ek_seqX ?_ | refine ek_seqR ?_ | refine ek_blkN ?_ | refine ek_blkR ?_ | refine ek_blkX ?_ | refine ek_blkY rfl ?_)
    exact rnd_out (by rfl) (by simp) (scmp2 (by rfl) (by rfl) (by exact ⟨rfl, rfl, rfl⟩) (by rfl) (by first | rfl | (simp; done) | (simp [ints, prs]; done)) (by rfl) (by first | rfl | (simp; done) | (simp [ints, prs]; done)))

theorem lp15_0 (n b : Nat) (hn : n ≤ 4) (hb : b < 65536) (o : Out) (ho : (if allF (regI n b) 0 (n) = true then (⟨.exit 0, [(1, .ptr 0 0)], [⟨[.int .i64 n, .int .i64 b], 1, 0, some 0, true⟩]⟩ : Out) else ⟨.ret, [(2, .bool false), (3, .int .i64 0)], []⟩) = o) :
    LpS cx 34 0 m15_0 [(1, .ptr 0 0), (10, .int .i64 (n : Nat)), (11, .int .i64 (0 : Nat))] [⟨[.int .i64 n, .int .i64 b], 1, 0, some 0, true⟩] o.x o.e o.h := by
  refine lp_all (n) (regI n b) (fun i => [(1, .ptr 0 0), (10, .int .i64 (n : Nat)), (11, .int .i64 (i : Nat))]) (fun i => [⟨[.int .i64 n, .int .i64 b], 1, 0, some 0, true⟩]) _ _ ?_ ?_ ?_ (n) 0 o (by omega) ho
  · intro i hi hp
    have hlt : decide ((i : Int) < (n : Nat)) = true := decide_eq_true (by omega)
    have hp' : ((regI n b) i) = true := hp
    have lp := lp15_1 n b i hn hb hi _ (if_pos hp)
    unfold m15_0
    repeat' (first
      | refine sc_loop lp rfl rfl ⟨rfl, rfl, rfl⟩ rfl rfl rfl ?_
      | (refine g_op ?_; first
        | refine ep_mov rfl ?_
        | refine ep_bin rfl rfl (by first | exact b_add (by omega) (by omega) | exact b_lss) ?_)
      | (refine g_ops ?_; first | refine eo_none ?_ | refine eo_nil ?_)
      | (refine g_code ?_; first | refine ec_seq ?_ | refine ec_region ?_ | refine ec_block ?_ | refine ec_skip ?_ | refine ec_exit ?_ | refine ec_condT rfl ?_ | refine ec_condF rfl ?_ | refine ec_condTH rfl (by assumption) ?_ | refine ec_condFH rfl (by assumption) ?_)
      | refine ek_seqN ?_ | refine ek_seqX ?_ | refine ek_seqR ?_ | refine ek_blkN ?_ | refine ek_blkR ?_ | refine ek_blkX ?_ | refine ek_blkY rfl ?_)
    exact rnd_on (by rfl) (scmp2 (by rfl) (by rfl) (by exact ⟨rfl, rfl, rfl⟩) (by rfl) (by first | rfl | (simp; done) | (simp [ints, prs]; done)) (by rfl) (by first | rfl | (simp; done) | (simp [ints, prs]; done)))
  · intro i hi hp
    have hlt : decide ((i : Int) < (n : Nat)) = true := decide_eq_true (by omega)
    have hp' : ((regI n b) i) = false := hp
    have lp := lp15_1 n b i hn hb hi _ (if_neg (by rw [show allF (fun j => strB n b i j || strB n b j i) 0 i = _ from hp]; simp))
    unfold m15_0
    repeat' (first
      | refine sc_loop lp rfl rfl ⟨rfl, rfl, rfl⟩ rfl rfl rfl ?_
      | (refine g_op ?_; first
        | refine ep_mov rfl ?_
        | refine ep_bin rfl rfl (by first | exact b_add (by omega) (by omega) | exact b_lss) ?_)
      | (refine g_ops ?_; first | refine eo_none ?_ | refine eo_nil ?_)
      | (refine g_code ?_; first | refine ec_seq ?_ | refine ec_region ?_ | refine ec_block ?_ | refine ec_skip ?_ | refine ec_exit ?_ | refine ec_condT rfl ?_ | refine ec_condF rfl ?_ | refine ec_condTH rfl (by assumption) ?_ | refine ec_condFH rfl (by assumption) ?_)
      | refine ek_seqN ?_ | refine ek_seqX ?_ | refine ek_seqR ?_ | refine ek_blkN ?_ | refine ek_blkR ?_ | refine ek_blkX ?_ | refine ek_blkY rfl ?_)
    exact rnd_out (by rfl) (by simp) (scmp2 (by rfl) (by rfl) (by exact ⟨rfl, rfl, rfl⟩) (by rfl) (by first | rfl | (simp; done) | (simp [ints, prs]; done)) (by rfl) (by first | rfl | (simp; done) | (simp [ints, prs]; done)))
  · have hlt : decide (((n : Nat) : Int) < (n : Nat)) = false := decide_eq_false (by omega)
    unfold m15_0
    repeat' (first
      | (refine g_op ?_; first
        | refine ep_mov rfl ?_
        | refine ep_bin rfl rfl (by first | exact b_add (by omega) (by omega) | exact b_lss) ?_)
      | (refine g_ops ?_; first | refine eo_none ?_ | refine eo_nil ?_)
      | (refine g_code ?_; first | refine ec_seq ?_ | refine ec_region ?_ | refine ec_block ?_ | refine ec_skip ?_ | refine ec_exit ?_ | refine ec_condT rfl ?_ | refine ec_condF rfl ?_ | refine ec_condTH rfl (by assumption) ?_ | refine ec_condFH rfl (by assumption) ?_)
      | refine ek_seqN ?_ | refine ek_seqX ?_ | refine ek_seqR ?_ | refine ek_blkN ?_ | refine ek_blkR ?_ | refine ek_blkX ?_ | refine ek_blkY rfl ?_)
    exact rnd_out (by rfl) (by simp) (scmp2 (by rfl) (by rfl) (by exact ⟨rfl, rfl, rfl⟩) (by rfl) (by first | rfl | (simp; done) | (simp [ints, prs]; done)) (by rfl) (by first | rfl | (simp; done) | (simp [ints, prs]; done)))

def regR (p t : Int) : Bool × Int := if isFn p t = true then (regB p.toNat t.toNat && monoB p.toNat t.toNat, 0) else (false, 1)
theorem ev15 (p t : Int) : Ev cx 15 [.agg [.int .i64 p, .int .i64 t]] [] (.tup [.bool (regR p t).1, .int .i64 (regR p t).2]) [] := by
  have e1 := ev27 p t
  cases h1 : isFn p t
  · rw [h1] at e1
    refine has15.eev rfl rfl ?_
    unfold m15
    repeat' (first
      | (refine g_op ?_; first
        | refine ep_mov rfl ?_ | refine ep_load1 rfl rfl rfl rfl ?_ | refine ep_fieldAddr rfl ?_ | refine sp_loadN rfl rfl rfl rfl rfl ?_
        | refine ep_call0 rfl (by first | exact e1) rfl rfl ?_
        | refine sp_call rfl rfl rfl rfl (by first | exact e1) ⟨rfl, rfl, rfl, rfl⟩ rfl rfl rfl ?_
        | refine ep_not rfl ?_ | refine sp_box rfl rfl rfl rfl rfl ?_)
      | (refine g_ops ?_; first | refine eo_none ?_ | refine eo_nil ?_)
      | (refine g_code ?_; first | refine ec_seq ?_ | refine ec_region ?_ | refine ec_block ?_ | refine ec_skip ?_ | refine ec_ret ?_ | refine ec_condT rfl ?_ | refine ec_condF rfl ?_ | refine ec_condTH rfl (by assumption) ?_ | refine ec_condFH rfl (by assumption) ?_)
      | refine ek_seqN ?_ | refine ek_seqX ?_ | refine ek_seqR ?_ | refine ek_blkN ?_ | refine ek_blkR ?_ | refine ek_blkX ?_ | refine ek_blkY rfl ?_)
    refine sfin (.inr rfl) (by rfl) (by rfl) (by exact ⟨rfl, rfl, rfl⟩) (by rfl) (by rfl) (by rw [regR, if_neg (by rw [h1]; simp)]; try rfl) (by first | rfl | (simp; done) | (simp [ints, prs]; done))
  · rw [h1] at e1
    obtain ⟨n, b, rfl, rfl, h2, h3, h4⟩ := isFn_nat h1
    rw [show regR n b = (regB n b && monoB n b, 0) from if_pos h1]
    cases h : regB n b
    · have lp := lp15_0 n b h2 h4 _ (if_neg (by rw [show allF (regI n b) 0 n = _ from h]; simp))
      refine has15.eev rfl rfl ?_
      unfold m15
      repeat' (first
        | refine sc_loop lp rfl rfl ⟨rfl, rfl, rfl⟩ rfl rfl rfl ?_
        | (refine g_op ?_; first
          | refine ep_mov rfl ?_ | refine ep_load1 rfl rfl rfl rfl ?_ | refine ep_fieldAddr rfl ?_ | refine sp_loadN rfl rfl rfl rfl rfl ?_
          | refine ep_call0 rfl (by first | exact e1) rfl rfl ?_
          | refine sp_call rfl rfl rfl rfl (by first | exact e1) ⟨rfl, rfl, rfl, rfl⟩ rfl rfl rfl ?_
          | refine ep_not rfl ?_ | refine sp_box rfl rfl rfl rfl rfl ?_)
        | (refine g_ops ?_; first | refine eo_none ?_ | refine eo_nil ?_)
        | (refine g_code ?_; first | refine ec_seq ?_ | refine ec_region ?_ | refine ec_block ?_ | refine ec_skip ?_ | refine ec_ret ?_ | refine ec_condT rfl ?_ | refine ec_condF rfl ?_ | refine ec_condTH rfl (by assumption) ?_ | refine ec_condFH rfl (by assumption) ?_)
        | refine ek_seqN ?_ | refine ek_seqX ?_ | refine ek_seqR ?_ | refine ek_blkN ?_ | refine ek_blkR ?_ | refine ek_blkX ?_ | refine ek_blkY rfl ?_)
      refine sfin (.inr rfl) (by rfl) (by rfl) (by exact ⟨rfl, rfl, rfl⟩) (by rfl) (by rfl) (by rfl) (by first | rfl | (simp; done) | (simp [ints, prs]; done))
    · have lp := lp15_0 n b h2 h4 _ (if_pos h)
      have e2 := ev46 n b h2 h4
      refine has15.eev rfl rfl ?_
      unfold m15
      repeat' (first
        | refine sc_loop lp rfl rfl ⟨rfl, rfl, rfl⟩ rfl rfl rfl ?_
        | (refine g_op ?_; first
          | refine ep_mov rfl ?_ | refine ep_load1 rfl rfl rfl rfl ?_ | refine ep_fieldAddr rfl ?_ | refine sp_loadN rfl rfl rfl rfl rfl ?_
          | refine ep_call0 rfl (by first | exact e1 | exact e2) rfl rfl ?_
          | refine sp_call rfl rfl rfl rfl (by first | exact e1 | exact e2) ⟨rfl, rfl, rfl, rfl⟩ rfl rfl rfl ?_
          | refine ep_not rfl ?_ | refine sp_box rfl rfl rfl rfl rfl ?_)
        | (refine g_ops ?_; first | refine eo_none ?_ | refine eo_nil ?_)
        | (refine g_code ?_; first | refine ec_seq ?_ | refine ec_region ?_ | refine ec_block ?_ | refine ec_skip ?_ | refine ec_ret ?_ | refine ec_condT rfl ?_ | refine ec_condF rfl ?_ | refine ec_condTH rfl (by assumption) ?_ | refine ec_condFH rfl (by assumption) ?_)
        | refine ek_seqN ?_ | refine ek_seqX ?_ | refine ek_seqR ?_ | refine ek_blkN ?_ | refine ek_blkR ?_ | refine ek_blkX ?_ | refine ek_blkY rfl ?_)
      refine sfin (.inr rfl) (by rfl) (by rfl) (by exact ⟨rfl, rfl, rfl⟩) (by rfl) (by rfl) (by rfl) (by first | rfl | (simp; done) | (simp [ints, prs]; done))
-- spec.IsRegular
def m16_1 : MC := (.seq (.seq (.region [⟨(.mov (.t 6)), (some 18), none⟩, ⟨(.mov (.t 5)), (some 19), none⟩, ⟨(.bin .lss (.t 18) (.t 19)), (some 20), none⟩] false) (.cond (.t 20) .skip (.exit 2))) (.seq (.block 3 (.region [⟨(.mov (.t 4)), (some 23), none⟩, ⟨(.mov (.t 23)), (some 24), none⟩, ⟨(.load (some 2) (.t 1)), (some 25), (some (24, true))⟩, ⟨(.mov (.t 5)), (some 26), (some (24, true))⟩, ⟨(.mov (.t 6)), (some 27), (some (24, true))⟩, ⟨(.call 44 [(.t 25), (.t 26), (.t 27)]), (some 28), (some (24, true))⟩, ⟨(.mov (.t 28)), (some 29), (some (24, true))⟩, ⟨(.load (some 2) (.t 1)), (some 30), (some (29, false))⟩, ⟨(.mov (.t 6)), (some 31), (some (29, false))⟩, ⟨(.mov (.t 5)), (some 32), (some (29, false))⟩, ⟨(.call 44 [(.t 30), (.t 31), (.t 32)]), (some 33), (some (29, false))⟩, ⟨(.pick (.t 29) (.k (.bool true)) (.t 33)), (some 34), (some (24, true))⟩, ⟨(.pick (.t 24) (.t 34) (.k (.bool false))), (some 35), none⟩, ⟨(.mov (.t 35)), (some 4), none⟩] false)) (.region [⟨(.mov (.t 6)), (some 21), none⟩, ⟨(.bin .add (.t 21) (.k (.int .i64 1))), (some 22), none⟩, ⟨(.mov (.t 22)), (some 6), none⟩] false)))
def m16_0 : MC := (.seq (.seq (.region [⟨(.mov (.t 5)), (some 12), none⟩, ⟨(.fieldAddr 0 (.t 1)), (some 13), none⟩, ⟨(.load none (.t 13)), (some 14), none⟩, ⟨(.bin .lss (.t 12) (.t 14)), (some 15), none⟩] false) (.cond (.t 15) .skip (.exit 0))) (.seq (.block 1 (.seq (.region [⟨(.mov (.k (.int .i64 0))), (some 6), none⟩] false) (.block 2 (.loop m16_1)))) (.region [⟨(.mov (.t 5)), (some 16), none⟩, ⟨(.bin .add (.t 16) (.k (.int .i64 1))), (some 17), none⟩, ⟨(.mov (.t 17)), (some 5), none⟩] false)))
def m16 : MC := (.seq (.region [⟨(.box (.t 0)), (some 1), none⟩, ⟨(.mov (.k (.bool false))), (some 2), none⟩, ⟨(.mov (.k (.int .i64 0))), (some 3), none⟩] false) (.seq (.seq (.region [⟨(.load (some 2) (.t 1)), (some 7), none⟩, ⟨(.call 29 [(.t 7)]), (some 8), none⟩, ⟨(.un .not (.t 8)), (some 9), none⟩] false) (.cond (.t 9) (.seq (.region [⟨(.mov (.k (.bool false))), (some 2), none⟩, ⟨(.mov (.k (.int .i64 1))), (some 3), none⟩] false) .ret) .skip)) (.seq (.region [⟨(.load (some 2) (.t 1)), (some 10), none⟩, ⟨(.call 47 [(.t 10)]), (some 11), none⟩, ⟨(.mov (.t 11)), (some 4), none⟩] false) (.seq (.seq (.region [⟨(.mov (.k (.int .i64 0))), (some 5), none⟩] false) (.block 0 (.loop m16_0))) (.seq (.region [⟨(.mov (.t 4)), (some 36), none⟩, ⟨(.mov (.t 36)), (some 2), none⟩, ⟨(.mov (.k (.int .i64 0))), (some 3), none⟩] false) .ret)))))
theorem has16 : Has cx 16 37 m16 [(.tmp 2), (.tmp 3)] :=
  ⟨⟨Try.f16, Try.f16.body.getD .skip, by kernel_rfl, by kernel_rfl, by kernel_rfl, by kernel_rfl, by kernel_rfl, by kernel_rfl⟩⟩
theorem lp16_1 (n b q : Nat) (hn : n ≤ 4) (hb : b < 65536) (hq : q < n) :
    LpS cx 37 0 m16_1 [(1, .ptr 0 0), (4, .bool (monoB n b && allF (regI n b) 0 q && allF (fun j => strB n b q j || strB n b j q) 0 (0))), (5, .int .i64 (q : Nat)), (6, .int .i64 (0 : Nat))] [⟨[.int .i64 n, .int .i64 b], 1, 0, some 0, true⟩] (⟨.exit 2, [(1, .ptr 0 0), (4, .bool (monoB n b && allF (regI n b) 0 q && allF (fun j => strB n b q j || strB n b j q) 0 (q))), (5, .int .i64 (q : Nat))], [⟨[.int .i64 n, .int .i64 b], 1, 0, some 0, true⟩]⟩ : Out).x (⟨.exit 2, [(1, .ptr 0 0), (4, .bool (monoB n b && allF (regI n b) 0 q && allF (fun j => strB n b q j || strB n b j q) 0 (q))), (5, .int .i64 (q : Nat))], [⟨[.int .i64 n, .int .i64 b], 1, 0, some 0, true⟩]⟩ : Out).e (⟨.exit 2, [(1, .ptr 0 0), (4, .bool (monoB n b && allF (regI n b) 0 q && allF (fun j => strB n b q j || strB n b j q) 0 (q))), (5, .int .i64 (q : Nat))], [⟨[.int .i64 n, .int .i64 b], 1, 0, some 0, true⟩]⟩ : Out).h := by
  refine lp_st (q) (fun _ => ()) (fun i _ => [(1, .ptr 0 0), (4, .bool (monoB n b && allF (regI n b) 0 q && allF (fun j => strB n b q j || strB n b j q) 0 (i))), (5, .int .i64 (q : Nat)), (6, .int .i64 (i : Nat))]) (fun i _ => [⟨[.int .i64 n, .int .i64 b], 1, 0, some 0, true⟩]) (fun _ => (⟨.exit 2, [(1, .ptr 0 0), (4, .bool (monoB n b && allF (regI n b) 0 q && allF (fun j => strB n b q j || strB n b j q) 0 (q))), (5, .int .i64 (q : Nat))], [⟨[.int .i64 n, .int .i64 b], 1, 0, some 0, true⟩]⟩ : Out)) ?_ ?_ (q) 0 (by omega)
  · intro i u_ hi hu_
    refine ⟨(), rfl, ?_⟩
    have hlt : decide ((i : Int) < (q : Nat)) = true := decide_eq_true (by omega)
    have e1 := ev44 n b q i hn hb hq (by omega)
    have e2 := ev44 n b i q hn hb (by omega) hq
    have hz := allF_s (fun j => strB n b q j || strB n b j q) i
    cases hg : (monoB n b && allF (regI n b) 0 q && allF (fun j => strB n b q j || strB n b j q) 0 i)
    · have hz2 : (monoB n b && allF (regI n b) 0 q && allF (fun j => strB n b q j || strB n b j q) 0 (i + 1)) = false := by rw [hz, ← Bool.and_assoc, hg]; rfl
      rw [hz2]
      unfold m16_1
      repeat' (first
        | (refine g_op ?_; first
          | refine ep_mov rfl ?_ | refine sp_loadN rfl rfl rfl rfl rfl ?_
          | refine ep_call0 rfl (by first | exact e1 | exact e2) rfl rfl ?_
          | refine sp_call rfl rfl rfl rfl (by first | exact e1 | exact e2) ⟨rfl, rfl, rfl, rfl⟩ rfl rfl rfl ?_
          | refine ep_bin rfl rfl (by first | exact b_add (by omega) (by omega) | exact b_lss) ?_ | refine ep_pickT rfl rfl ?_ | refine ep_pickF rfl rfl ?_ | refine ep_pickTH rfl (by assumption) rfl ?_
          | refine ep_pickFH rfl (by assumption) rfl ?_)
        | (refine g_ops ?_; first | refine eo_none ?_ | refine eo_nil ?_ | refine eo_yes rfl ?_ | refine eo_no rfl ?_ | refine eo_und rfl ?_ | refine eo_yesH rfl (by assumption) ?_ | refine eo_noH rfl (by assumption) ?_)
        | (refine g_code ?_; first | refine ec_seq ?_ | refine ec_region ?_ | refine ec_block ?_ | refine ec_skip ?_ | refine ec_exit ?_ | refine ec_condT rfl ?_ | refine ec_condF rfl ?_ | refine ec_condTH rfl (by assumption) ?_ | refine ec_condFH rfl (by assumption) ?_)
        | refine ek_seqN ?_ | refine ek_seqX ?_ | refine ek_blkN ?_ | refine ek_blkR ?_ | refine ek_blkX ?_ | refine ek_blkY rfl ?_)
      exact rnd_on (by rfl) (scmp2 (by rfl) (by rfl) (by exact ⟨rfl, rfl, rfl⟩) (by rfl) (by first | rfl | (simp; done) | (simp [ints, prs]; done)) (by rfl) (by first | rfl | (simp; done) | (simp [ints, prs]; done)))
    cases hs1 : strB n b q i
    · rw [hs1] at e1
      have hz2 : (monoB n b && allF (regI n b) 0 q && allF (fun j => strB n b q j || strB n b j q) 0 (i + 1)) = strB n b i q := by rw [hz, ← Bool.and_assoc, hg, hs1]; rfl
      rw [hz2]
      unfold m16_1
      repeat' (first
        | (refine g_op ?_; first
          | refine ep_mov rfl ?_ | refine sp_loadN rfl rfl rfl rfl rfl ?_
          | refine ep_call0 rfl (by first | exact e1 | exact e2) rfl rfl ?_
          | refine sp_call rfl rfl rfl rfl (by first | exact e1 | exact e2) ⟨rfl, rfl, rfl, rfl⟩ rfl rfl rfl ?_
          | refine ep_bin rfl rfl (by first | exact b_add (by omega) (by omega) | exact b_lss) ?_ | refine ep_pickT rfl rfl ?_ | refine ep_pickF rfl rfl ?_ | refine ep_pickTH rfl (by assumption) rfl ?_
          | refine ep_pickFH rfl (by assumption) rfl ?_)
        | (refine g_ops ?_; first | refine eo_none ?_ | refine eo_nil ?_ | refine eo_yes rfl ?_ | refine eo_no rfl ?_ | refine eo_und rfl ?_ | refine eo_yesH rfl (by assumption) ?_ | refine eo_noH rfl (by assumption) ?_)
        | (refine g_code ?_; first | refine ec_seq ?_ | refine ec_region ?_ | refine ec_block ?_ | refine ec_skip ?_ | refine ec_exit ?_ | refine ec_condT rfl ?_ | refine ec_condF rfl ?_ | refine ec_condTH rfl (by assumption) ?_ | refine ec_condFH rfl (by assumption) ?_)
        | refine ek_seqN ?_ | refine ek_seqX ?_ | refine ek_blkN ?_ | refine ek_blkR ?_ | refine ek_blkX ?_ | refine ek_blkY rfl ?_)
      exact rnd_on (by rfl) (scmp2 (by rfl) (by rfl) (by exact ⟨rfl, rfl, rfl⟩) (by rfl) (by first | rfl | (simp; done) | (simp [ints, prs]; done)) (by rfl) (by first | rfl | (simp; done) | (simp [ints, prs]; done)))
    rw [hs1] at e1
    have hz2 : (monoB n b && allF (regI n b) 0 q && allF (fun j => strB n b q j || strB n b j q) 0 (i + 1)) = true := by rw [hz, ← Bool.and_assoc, hg, hs1]; rfl
    rw [hz2]
    unfold m16_1
    repeat' (first
      | (refine g_op ?_; first
        | refine ep_mov rfl ?_ | refine sp_loadN rfl rfl rfl rfl rfl ?_
        | refine ep_call0 rfl (by first | exact e1 | exact e2) rfl rfl ?_
        | refine sp_call rfl rfl rfl rfl (by first | exact e1 | exact e2) ⟨rfl, rfl, rfl, rfl⟩ rfl rfl rfl ?_
        | refine ep_bin rfl rfl (by first | exact b_add (by omega) (by omega) | exact b_lss) ?_ | refine ep_pickT rfl rfl ?_ | refine ep_pickF rfl rfl ?_ | refine ep_pickTH rfl (by assumption) rfl ?_
        | refine ep_pickFH rfl (by assumption) rfl ?_)
      | (refine g_ops ?_; first | refine eo_none ?_ | refine eo_nil ?_ | refine eo_yes rfl ?_ | refine eo_no rfl ?_ | refine eo_und rfl ?_ | refine eo_yesH rfl (by assumption) ?_ | refine eo_noH rfl (by assumption) ?_)
      | (refine g_code ?_; first | refine ec_seq ?_ | refine ec_region ?_ | refine ec_block ?_ | refine ec_skip ?_ | refine ec_exit ?_ | refine ec_condT rfl ?_ | refine ec_condF rfl ?_ | refine ec_condTH rfl (by assumption) ?_ | refine ec_condFH rfl (by assumption) ?_)
      | refine ek_seqN ?_ | refine ek_seqX ?_ | refine ek_blkN ?_ | refine ek_blkR ?_ | refine ek_blkX ?_ | refine ek_blkY rfl ?_)
    exact rnd_on (by rfl) (scmp2 (by rfl) (by rfl) (by exact ⟨rfl, rfl, rfl⟩) (by rfl) (by first | rfl | (simp; done) | (simp [ints, prs]; done)) (by rfl) (by first | rfl | (simp; done) | (simp [ints, prs]; done)))
  · intro u_ hu_
    have hlt : decide (((q : Nat) : Int) < (q : Nat)) = false := decide_eq_false (by omega)
    unfold m16_1
    repeat' (first
      | (refine g_op ?_; first
        | refine ep_mov rfl ?_ | refine sp_loadN rfl rfl rfl rfl rfl ?_
        | refine ep_bin rfl rfl (by first | exact b_add (by omega) (by omega) | exact b_lss) ?_ | refine ep_pickT rfl rfl ?_ | refine ep_pickF rfl rfl ?_ | refine ep_pickTH rfl (by assumption) rfl ?_
        | refine ep_pickFH rfl (by assumption) rfl ?_)
      | (refine g_ops ?_; first | refine eo_none ?_ | refine eo_nil ?_ | refine eo_yes rfl ?_ | refine eo_no rfl ?_ | refine eo_und rfl ?_ | refine eo_yesH rfl (by assumption) ?_ | refine eo_noH rfl (by assumption) ?_)
      | (refine g_code ?_; first | refine ec_seq ?_ | refine ec_region ?_ | refine ec_block ?_ | refine ec_skip ?_ | refine ec_exit ?_ | refine ec_condT rfl ?_ | refine ec_condF rfl ?_ | refine ec_condTH rfl (by assumption) ?_ | refine ec_condFH rfl (by assumption) ?_)
      | refine ek_seqN ?_ | refine ek_seqX ?_ | refine ek_blkN ?_ | refine ek_blkR ?_ | refine ek_blkX ?_ | refine ek_blkY rfl ?_)
    exact rnd_out (by rfl) (by simp) (scmp2 (by rfl) (by rfl) (by exact ⟨rfl, rfl, rfl⟩) (by rfl) (by first | rfl | (simp; done) | (simp [ints, prs]; done)) (by rfl) (by first | rfl | (simp; done) | (simp [ints, prs]; done)))

theorem lp16_0 (n b : Nat) (hn : n ≤ 4) (hb : b < 65536) :
    LpS cx 37 0 m16_0 [(1, .ptr 0 0), (4, .bool (monoB n b && allF (regI n b) 0 (0))), (5, .int .i64 (0 : Nat))] [⟨[.int .i64 n, .int .i64 b], 1, 0, some 0, true⟩] (⟨.exit 0, [(4, .bool (monoB n b && allF (regI n b) 0 (n)))], []⟩ : Out).x (⟨.exit 0, [(4, .bool (monoB n b && allF (regI n b) 0 (n)))], []⟩ : Out).e (⟨.exit 0, [(4, .bool (monoB n b && allF (regI n b) 0 (n)))], []⟩ : Out).h := by
  refine lp_st (n) (fun _ => ()) (fun i _ => [(1, .ptr 0 0), (4, .bool (monoB n b && allF (regI n b) 0 (i))), (5, .int .i64 (i : Nat))]) (fun i _ => [⟨[.int .i64 n, .int .i64 b], 1, 0, some 0, true⟩]) (fun _ => (⟨.exit 0, [(4, .bool (monoB n b && allF (regI n b) 0 (n)))], []⟩ : Out)) ?_ ?_ (n) 0 (by omega)
  · intro i u_ hi hu_
    refine ⟨(), rfl, ?_⟩
    have hlt : decide ((i : Int) < (n : Nat)) = true := decide_eq_true (by omega)
    have lp := lp16_1 n b i hn hb hi
    rw [show (monoB n b && allF (regI n b) 0 i && allF (fun j => strB n b i j || strB n b j i) 0 0) = (monoB n b && allF (regI n b) 0 i) by simp [allF]] at lp
    rw [show (monoB n b && allF (regI n b) 0 i && allF (fun j => strB n b i j || strB n b j i) 0 i) = (monoB n b && allF (regI n b) 0 (i + 1)) by rw [allF_s, ← Bool.and_assoc]; rfl] at lp
    unfold m16_0
    repeat' (first
      | refine sc_loop lp rfl rfl ⟨rfl, rfl, rfl⟩ rfl rfl rfl ?_
      | (refine g_op ?_; first
        | refine ep_mov rfl ?_ | refine ep_load1 rfl rfl rfl rfl ?_ | refine ep_fieldAddr rfl ?_
        | refine ep_bin rfl rfl (by first | exact b_add (by omega) (by omega) | exact b_lss) ?_)
      | (refine g_ops ?_; first | refine eo_none ?_ | refine eo_nil ?_)
      | (refine g_code ?_; first | refine ec_seq ?_ | refine ec_region ?_ | refine ec_block ?_ | refine ec_skip ?_ | refine ec_exit ?_ | refine ec_condT rfl ?_ | refine ec_condF rfl ?_ | refine ec_condTH rfl (by assumption) ?_ | refine ec_condFH rfl (by assumption) ?_)
      | refine ek_seqN ?_ | refine ek_seqX ?_ | refine ek_seqR ?_ | refine ek_blkN ?_ | refine ek_blkR ?_ | refine ek_blkX ?_ | refine ek_blkY rfl ?_)
    exact rnd_on (by rfl) (scmp2 (by rfl) (by rfl) (by exact ⟨rfl, rfl, rfl⟩) (by rfl) (by first | rfl | (simp; done) | (simp [ints, prs]; done)) (by rfl) (by first | rfl | (simp; done) | (simp [ints, prs]; done)))
  · intro u_ hu_
    have hlt : decide (((n : Nat) : Int) < (n : Nat)) = false := decide_eq_false (by omega)
    unfold m16_0
    repeat' (first
      | (refine g_op ?_; first
        | refine ep_mov rfl ?_ | refine ep_load1 rfl rfl rfl rfl ?_ | refine ep_fieldAddr rfl ?_
        | refine ep_bin rfl rfl (by first | exact b_add (by omega) (by omega) | exact b_lss) ?_)
      | (refine g_ops ?_; first | refine eo_none ?_ | refine eo_nil ?_)
      | (refine g_code ?_; first | refine ec_seq ?_ | refine ec_region ?_ | refine ec_block ?_ | refine ec_skip ?_ | refine ec_exit ?_ | refine ec_condT rfl ?_ | refine ec_condF rfl ?_ | refine ec_condTH rfl (by assumption) ?_ | refine ec_condFH rfl (by assumption) ?_)
      | refine ek_seqN ?_ | refine ek_seqX ?_ | refine ek_seqR ?_ | refine ek_blkN ?_ | refine ek_blkR ?_ | refine ek_blkX ?_ | refine ek_blkY rfl ?_)
    exact rnd_out (by rfl) (by simp) (scmp2 (by rfl) (by rfl) (by exact ⟨rfl, rfl, rfl⟩) (by rfl) (by first | rfl | (simp; done) | (simp [ints, prs]; done)) (by rfl) (by first | rfl | (simp; done) | (simp [ints, prs]; done)))

theorem ev16 (p t : Int) : Ev cx 16 [.agg [.int .i64 p, .int .i64 t]] [] (.tup [.bool (regR p t).1, .int .i64 (regR p t).2]) [] := by
  have e1 := ev29 p t
  cases h1 : isFn p t
  · rw [h1] at e1
    refine has16.eev rfl rfl ?_
    unfold m16
    repeat' (first
      | (refine g_op ?_; first
        | refine ep_mov rfl ?_ | refine sp_loadN rfl rfl rfl rfl rfl ?_
        | refine ep_call0 rfl (by first | exact e1) rfl rfl ?_
        | refine sp_call rfl rfl rfl rfl (by first | exact e1) ⟨rfl, rfl, rfl, rfl⟩ rfl rfl rfl ?_
        | refine ep_not rfl ?_ | refine sp_box rfl rfl rfl rfl rfl ?_)
      | (refine g_ops ?_; first | refine eo_none ?_ | refine eo_nil ?_)
      | (refine g_code ?_; first | refine ec_seq ?_ | refine ec_region ?_ | refine ec_block ?_ | refine ec_skip ?_ | refine ec_ret ?_ | refine ec_condT rfl ?_ | refine ec_condF rfl ?_ | refine ec_condTH rfl (by assumption) ?_ | refine ec_condFH rfl (by assumption) ?_)
      | refine ek_seqN ?_ | refine ek_seqX ?_ | refine ek_seqR ?_ | refine ek_blkN ?_ | refine ek_blkR ?_ | refine ek_blkX ?_ | refine ek_blkY rfl ?_)
    refine sfin (.inr rfl) (by rfl) (by rfl) (by exact ⟨rfl, rfl, rfl⟩) (by rfl) (by rfl) (by rw [regR, if_neg (by rw [h1]; simp)]; try rfl) (by first | rfl | (simp; done) | (simp [ints, prs]; done))
  · rw [h1] at e1
    obtain ⟨n, b, rfl, rfl, h2, h3, h4⟩ := isFn_nat h1
    rw [show regR n b = (regB n b && monoB n b, 0) from if_pos h1]
    have lp := lp16_0 n b h2 h4
    rw [show (monoB n b && allF (regI n b) 0 0) = monoB n b by simp [allF]] at lp
    refine has16.eev rfl rfl ?_
    unfold m16
    repeat' (first
      | refine sc_loop lp rfl rfl ⟨rfl, rfl, rfl⟩ rfl rfl rfl ?_
      | (refine g_op ?_; first
        | refine ep_mov rfl ?_ | refine sp_loadN rfl rfl rfl rfl rfl ?_
        | refine ep_call0 rfl (by first | exact e1 | exact ev47 _ _ h2 h4) rfl rfl ?_
        | refine sp_call rfl rfl rfl rfl (by first | exact e1 | exact ev47 _ _ h2 h4) ⟨rfl, rfl, rfl, rfl⟩ rfl rfl rfl ?_
        | refine ep_not rfl ?_ | refine sp_box rfl rfl rfl rfl rfl ?_)
      | (refine g_ops ?_; first | refine eo_none ?_ | refine eo_nil ?_)
      | (refine g_code ?_; first | refine ec_seq ?_ | refine ec_region ?_ | refine ec_block ?_ | refine ec_skip ?_ | refine ec_ret ?_ | refine ec_condT rfl ?_ | refine ec_condF rfl ?_ | refine ec_condTH rfl (by assumption) ?_ | refine ec_condFH rfl (by assumption) ?_)
      | refine ek_seqN ?_ | refine ek_seqX ?_ | refine ek_seqR ?_ | refine ek_blkN ?_ | refine ek_blkR ?_ | refine ek_blkX ?_ | refine ek_blkY rfl ?_)
    refine sfin (.inr rfl) (by rfl) (by rfl) (by exact ⟨rfl, rfl, rfl⟩) (by rfl) (by rfl) (by rw [Bool.and_comm]; rfl) (by first | rfl | (simp; done) | (simp [ints, prs]; done))
def firstF (p : Nat → Bool) : Nat → Nat → Option Nat
  | _, 0 => none
  | i, j + 1 => if p i = true then firstF p (i + 1) j else some i
theorem firstF_none {p : Nat → Bool} : ∀ {j i : Nat}, (∀ x, i ≤ x → x < i + j → p x = true) → firstF p i j = none
  | 0, _, _ => rfl
  | j + 1, i, h => by
    rw [firstF, if_pos (h i (Nat.le_refl _) (by omega))]
    exact firstF_none fun x h1 h2 => h x (by omega) (by omega)
theorem firstF_some {p : Nat → Bool} : ∀ {j i x : Nat}, i ≤ x → x < i + j → p x = false → (∀ y, i ≤ y → y < x → p y = true) → firstF p i j = some x
  | 0, i, x, h1, h2, _, _ => by omega
  | j + 1, i, x, h1, h2, h3, h4 => by
    rw [firstF]
    by_cases e : i = x
    · subst e; rw [h3]; rfl
    · rw [if_pos (h4 i (Nat.le_refl _) (by omega))]
      exact firstF_some (by omega) (by omega) h3 fun y g1 g2 => h4 y (by omega) g2
theorem firstF_allT {p : Nat → Bool} : ∀ {j i : Nat}, firstF p i j = none → allF p i j = true
  | 0, _, _ => rfl
  | j + 1, i, h => by
    rw [firstF] at h
    by_cases e : p i = true
    · rw [if_pos e] at h; rw [allF, e, firstF_allT h]; rfl
    · rw [if_neg e] at h; simp at h
theorem firstF_allF {p : Nat → Bool} : ∀ {j i x : Nat}, firstF p i j = some x → allF p i j = false
  | 0, _, _, h => by simp [firstF] at h
  | j + 1, i, x, h => by
    rw [firstF] at h
    by_cases e : p i = true
    · rw [if_pos e] at h; rw [allF, e, firstF_allF h]; rfl
    · rw [allF]; simp [e]
theorem fget {o j : Nat} {l : List Int} (h : j < l.length) : (List.replicate o V.any ++ nums .i64 l)[o + j * 1]? = some (.int .i64 (l.getD j 0)) := by
  rw [List.getElem?_append_right (by simp)]
  simp [nums, h]
-- spec.l03Has
def m87 : MC := (.seq (.region [⟨(.mov (.k (.bool false))), (some 4), none⟩] false) (.seq (.region [⟨(.mov (.t 0)), (some 5), none⟩, ⟨(.mov (.t 1)), (some 6), none⟩, ⟨(.bin .and (.t 5) (.t 6)), (some 7), none⟩, ⟨(.mov (.t 1)), (some 8), none⟩, ⟨(.bin .eql (.t 7) (.t 8)), (some 9), none⟩, ⟨(.mov (.t 9)), (some 4), none⟩] false) .ret))
theorem has87 : Has cx 87 10 m87 [(.tmp 4)] :=
  ⟨⟨Try.f87, Try.f87.body.getD .skip, by kernel_rfl, by kernel_rfl, by kernel_rfl, by kernel_rfl, by kernel_rfl, by kernel_rfl⟩⟩
-- slices.IndexFunc[[]int64,int64]
def m86_0 : MC := (.seq (.region [⟨(.bin .lss (.t 8) (.t 7)), (some 9), none⟩] false) (.seq (.cond (.t 9) .skip (.exit 0)) (.seq (.block 1 (.seq (.region [⟨(.mov (.t 8)), (some 10), none⟩, ⟨(.mov (.t 10)), (some 5), none⟩] false) (.seq (.region [⟨(.mov (.t 1)), (some 11), none⟩, ⟨(.mov (.t 0)), (some 12), none⟩, ⟨(.mov (.t 5)), (some 13), none⟩, ⟨(.indexAddr 1 (.t 12) (.t 13)), (some 14), none⟩, ⟨(.load none (.t 14)), (some 15), none⟩, ⟨(.callv (.t 11) [(.t 15)]), (some 16), none⟩] false) (.cond (.t 16) (.seq (.region [⟨(.mov (.t 5)), (some 17), none⟩, ⟨(.mov (.t 17)), (some 4), none⟩] false) .ret) .skip)))) (.region [⟨(.bin .add (.t 8) (.k (.int .i64 1))), (some 18), none⟩, ⟨(.mov (.t 18)), (some 8), none⟩] false))))
def m86 : MC := (.seq (.region [⟨(.mov (.k (.int .i64 0))), (some 4), none⟩] false) (.seq (.seq (.region [⟨(.mov (.t 0)), (some 6), none⟩, ⟨(.len (.t 6)), (some 7), none⟩, ⟨(.mov (.k (.int .i64 0))), (some 8), none⟩] false) (.block 0 (.loop m86_0))) (.seq (.region [⟨(.mov (.k (.int .i64 (-1)))), (some 4), none⟩] false) .ret)))
theorem has86 : Has cx 86 19 m86 [(.tmp 4)] :=
  ⟨⟨Try.f86, Try.f86.body.getD .skip, by kernel_rfl, by kernel_rfl, by kernel_rfl, by kernel_rfl, by kernel_rfl, by kernel_rfl⟩⟩

-- slices.ContainsFunc[[]int64,int64]
def m69 : MC := (.seq (.region [⟨(.mov (.k (.bool false))), (some 4), none⟩] false) (.seq (.region [⟨(.mov (.t 0)), (some 5), none⟩, ⟨(.mov (.t 1)), (some 6), none⟩, ⟨(.call 86 [(.t 5), (.t 6)]), (some 7), none⟩, ⟨(.bin .geq (.t 7) (.k (.int .i64 0))), (some 8), none⟩, ⟨(.mov (.t 8)), (some 4), none⟩] false) .ret))
theorem has69 : Has cx 69 9 m69 [(.tmp 4)] :=
  ⟨⟨Try.f69, Try.f69.body.getD .skip, by kernel_rfl, by kernel_rfl, by kernel_rfl, by kernel_rfl, by kernel_rfl, by kernel_rfl⟩⟩

-- spec.l07Made
def m74_1 : MC := (.seq (.seq (.region [⟨(.mov (.t 8)), (some 16), none⟩, ⟨(.mov (.t 1)), (some 17), none⟩, ⟨(.len (.t 17)), (some 18), none⟩, ⟨(.bin .lss (.t 16) (.t 18)), (some 19), none⟩] false) (.cond (.t 19) .skip (.exit 2))) (.seq (.block 3 (.seq (.region [⟨(.mov (.t 6)), (some 22), none⟩, ⟨(.mov (.t 1)), (some 23), none⟩, ⟨(.mov (.t 8)), (some 24), none⟩, ⟨(.indexAddr 1 (.t 23) (.t 24)), (some 25), none⟩, ⟨(.load none (.t 25)), (some 26), none⟩, ⟨(.call 87 [(.t 22), (.t 26)]), (some 27), none⟩] false) (.cond (.t 27) (.region [⟨(.mov (.k (.int .i64 1))), (some 7), none⟩] false) .skip))) (.region [⟨(.mov (.t 8)), (some 20), none⟩, ⟨(.bin .add (.t 20) (.k (.int .i64 1))), (some 21), none⟩, ⟨(.mov (.t 21)), (some 8), none⟩] false)))
def m74_0 : MC := (.seq (.seq (.region [⟨(.mov (.t 6)), (some 10), none⟩, ⟨(.mov (.t 0)), (some 11), none⟩, ⟨(.call 53 [(.t 11)]), (some 12), none⟩, ⟨(.bin .lss (.t 10) (.t 12)), (some 13), none⟩] false) (.cond (.t 13) .skip (.exit 0))) (.seq (.block 1 (.seq (.region [⟨(.mov (.k (.int .i64 0))), (some 7), none⟩] false) (.seq (.seq (.region [⟨(.mov (.k (.int .i64 0))), (some 8), none⟩] false) (.block 2 (.loop m74_1))) (.region [⟨(.mov (.t 5)), (some 28), none⟩, ⟨(.mov (.t 7)), (some 29), none⟩, ⟨(.bslice 1 [(.int .i64 0)] 1 [(0, (1, (.t 29)))]), (some 30), none⟩, ⟨(.append 1 8 (.t 28) (.t 30)), (some 31), none⟩, ⟨(.mov (.t 31)), (some 5), none⟩] false)))) (.region [⟨(.mov (.t 6)), (some 14), none⟩, ⟨(.bin .add (.t 14) (.k (.int .i64 1))), (some 15), none⟩, ⟨(.mov (.t 15)), (some 6), none⟩] false)))
def m74 : MC := (.seq (.region [⟨(.alloc [(.int .i64 0), (.int .i64 0)]), (some 4), none⟩] false) (.seq (.region [⟨.empt, (some 9), none⟩, ⟨(.mov (.t 9)), (some 5), none⟩] false) (.seq (.seq (.region [⟨(.mov (.k (.int .i64 0))), (some 6), none⟩] false) (.block 0 (.loop m74_0))) (.seq (.region [⟨(.mov (.t 0)), (some 32), none⟩, ⟨(.mov (.t 5)), (some 33), none⟩, ⟨(.call 63 [(.t 32), (.t 33)]), (some 34), none⟩, ⟨(.store 2 (.t 4) (.t 34)), none, none⟩] false) .ret))))
theorem has74 : Has cx 74 35 m74 [(.cell 4 (some 2))] :=
  ⟨⟨Try.f74, Try.f74.body.getD .skip, by kernel_rfl, by kernel_rfl, by kernel_rfl, by kernel_rfl, by kernel_rfl, by kernel_rfl⟩⟩
def d01 (z : Int) : Bool := decide (0 ≤ z ∧ z ≤ 1)
def digs (c : List Int) : Bool := allF (fun j => d01 (c.getD j 0)) 0 c.length
-- impl.areDigits$1
def m70 : MC := (.seq (.region [⟨(.mov (.k (.bool false))), (some 2), none⟩] false) (.seq (.region [⟨(.mov (.t 0)), (some 3), none⟩, ⟨(.call 36 [(.t 3), (.k (.int .i64 0)), (.k (.int .i64 1))]), (some 4), none⟩, ⟨(.un .not (.t 4)), (some 5), none⟩, ⟨(.mov (.t 5)), (some 2), none⟩] false) .ret))
theorem has70 : Has cx 70 6 m70 [(.tmp 2)] :=
  ⟨⟨Try.f70, Try.f70.body.getD .skip, by kernel_rfl, by kernel_rfl, by kernel_rfl, by kernel_rfl, by kernel_rfl, by kernel_rfl⟩⟩
theorem ev70 (z : Int) : Ev cx 70 [.int .i64 z] [] (.bool (!d01 z)) [] := by
  refine has70.eev rfl rfl ?_
  unfold m70
  repeat' (first
    | (refine g_op ?_; first
      | refine ep_mov rfl ?_
      | refine ep_call0 rfl (by first | exact ev36 _ _ _) rfl rfl ?_
      | refine sp_call rfl rfl rfl rfl (by first | exact ev36 _ _ _) ⟨rfl, rfl, rfl, rfl⟩ rfl rfl rfl ?_
      | refine ep_not rfl ?_)
    | (refine g_ops ?_; first | refine eo_none ?_ | refine eo_nil ?_)
    | (refine g_code ?_; first | refine ec_seq ?_ | refine ec_region ?_ | refine ec_ret ?_)
    | refine ek_seqN ?_ | refine ek_seqR ?_)
  refine sfin (.inr rfl) (by rfl) (by rfl) (by exact ⟨rfl, rfl, rfl⟩) (by rfl) (by rfl) (by rfl) (by first | rfl | (simp; done) | (simp [ints, prs]; done))
theorem lpix_dig (c : List Int) (hlen : c.length ≤ 1048576) (o : Out) (ho : (match firstF (fun i => !(fun j => !d01 (c.getD j 0)) i) 0 (c.length) with | none => (⟨.exit 0, [], [⟨zints c, 1, 0, some 0, false⟩]⟩ : Out) | some x => ⟨.ret, [(4, .int .i64 (x : Nat))], [⟨zints c, 1, 0, some 0, false⟩]⟩) = o) :
    LpS cx 19 1 m86_0 [(0, .sl 0 0 c.length), (1, .fn 70 []), (7, .int .i64 (c.length : Nat)), (8, .int .i64 (0 : Nat))] [⟨zints c, 1, 0, some 0, false⟩] o.x o.e o.h := by
  refine lp_brk (c.length) (fun i => !(fun j => !d01 (c.getD j 0)) i) (fun _ => ()) (fun i _ => [(0, .sl 0 0 c.length), (1, .fn 70 []), (7, .int .i64 (c.length : Nat)), (8, .int .i64 (i : Nat))]) (fun i _ => [⟨zints c, 1, 0, some 0, false⟩]) (fun _ => ⟨.exit 0, [], [⟨zints c, 1, 0, some 0, false⟩]⟩) (fun i _ => ⟨.ret, [(4, .int .i64 (i : Nat))], [⟨zints c, 1, 0, some 0, false⟩]⟩) ?_ ?_ ?_ (c.length) 0 o (by omega) (fun h => by rw [← ho, firstF_none fun x h1 h2 => h x h1 (by omega)]) (fun x h1 h2 h3 h4 => by rw [← ho, firstF_some h1 (by omega) h3 h4])
  · intro i s hi hs hp
    have hlt : decide ((i : Int) < (c.length : Nat)) = true := decide_eq_true (by omega)
    have hp' : (!(fun j => !d01 (c.getD j 0)) i) = true := hp
    refine ⟨(), rfl, ?_⟩
    have e0 := ev70 (c.getD i 0)
    have hq : (!d01 (c.getD i 0)) = !((!(fun j => !d01 (c.getD j 0)) i)) := by simp
    rw [hp'] at hq
    rw [hq] at e0
    unfold m86_0
    repeat' (first
      | (refine g_op ?_; first
        | refine ep_mov rfl ?_ | refine ep_load1 rfl rfl rfl rfl ?_
        | refine sp_callv rfl rfl rfl rfl rfl rfl (by first | exact e0) ⟨rfl, rfl, rfl, rfl⟩ rfl rfl rfl ?_
        | refine sp_callb rfl rfl rfl rfl rfl rfl (by first | exact e0) ⟨rfl, rfl, rfl, rfl⟩ rfl rfl rfl ?_
        | refine ep_bin rfl rfl (by first | exact b_add (by omega) (by omega) | exact b_lss) ?_ | refine sp_idx rfl rfl rfl (by omega) rfl ?_ | refine ep_loadS rfl rfl rfl (by first | exact ints_get (by omega) | exact zints_get (by omega) | exact fget (by omega) | assumption) ?_)
      | (refine g_ops ?_; first | refine eo_none ?_ | refine eo_nil ?_)
      | (refine g_code ?_; first | refine ec_seq ?_ | refine ec_region ?_ | refine ec_block ?_ | refine ec_skip ?_ | refine ec_exit ?_ | refine ec_ret ?_ | refine ec_condT rfl ?_ | refine ec_condF rfl ?_ | refine ec_condTH rfl (by assumption) ?_ | refine ec_condFH rfl (by assumption) ?_)
      | refine ek_seqN ?_ | refine ek_seqX ?_ | refine ek_seqR ?_ | refine ek_blkN ?_ | refine ek_blkR ?_ | refine ek_blkX ?_ | refine ek_blkY rfl ?_)
    exact rnd_on (by rfl) (scmp2 (by rfl) (by rfl) (by exact ⟨rfl, rfl, rfl⟩) (by rfl) (by first | rfl | (simp; done) | (simp [ints, prs]; done)) (by rfl) (by first | rfl | (simp; done) | (simp [ints, prs]; done)))
  · intro i s hi hs hp
    have hlt : decide ((i : Int) < (c.length : Nat)) = true := decide_eq_true (by omega)
    have hp' : (!(fun j => !d01 (c.getD j 0)) i) = false := hp
    have e0 := ev70 (c.getD i 0)
    have hq : (!d01 (c.getD i 0)) = !((!(fun j => !d01 (c.getD j 0)) i)) := by simp
    rw [hp'] at hq
    rw [hq] at e0
    unfold m86_0
    repeat' (first
      | (refine g_op ?_; first
        | refine ep_mov rfl ?_ | refine ep_load1 rfl rfl rfl rfl ?_
        | refine sp_callv rfl rfl rfl rfl rfl rfl (by first | exact e0) ⟨rfl, rfl, rfl, rfl⟩ rfl rfl rfl ?_
        | refine sp_callb rfl rfl rfl rfl rfl rfl (by first | exact e0) ⟨rfl, rfl, rfl, rfl⟩ rfl rfl rfl ?_
        | refine ep_bin rfl rfl (by first | exact b_add (by omega) (by omega) | exact b_lss) ?_ | refine sp_idx rfl rfl rfl (by omega) rfl ?_ | refine ep_loadS rfl rfl rfl (by first | exact ints_get (by omega) | exact zints_get (by omega) | exact fget (by omega) | assumption) ?_)
      | (refine g_ops ?_; first | refine eo_none ?_ | refine eo_nil ?_)
      | (refine g_code ?_; first | refine ec_seq ?_ | refine ec_region ?_ | refine ec_block ?_ | refine ec_skip ?_ | refine ec_exit ?_ | refine ec_ret ?_ | refine ec_condT rfl ?_ | refine ec_condF rfl ?_ | refine ec_condTH rfl (by assumption) ?_ | refine ec_condFH rfl (by assumption) ?_)
      | refine ek_seqN ?_ | refine ek_seqX ?_ | refine ek_seqR ?_ | refine ek_blkN ?_ | refine ek_blkR ?_ | refine ek_blkX ?_ | refine ek_blkY rfl ?_)
    exact rnd_out (by rfl) (by simp) (scmp2 (by rfl) (by rfl) (by exact ⟨rfl, rfl, rfl⟩) (by rfl) (by first | rfl | (simp; done) | (simp [ints, prs]; done)) (by rfl) (by first | rfl | (simp; done) | (simp [ints, prs]; done)))
  · intro s hs
    have hlt : decide (((c.length : Nat) : Int) < (c.length : Nat)) = false := decide_eq_false (by omega)
    unfold m86_0
    repeat' (first
      | (refine g_op ?_; first
        | refine ep_mov rfl ?_ | refine ep_load1 rfl rfl rfl rfl ?_
        | refine sp_callv rfl rfl rfl rfl rfl rfl (by first | exact e0) ⟨rfl, rfl, rfl, rfl⟩ rfl rfl rfl ?_
        | refine sp_callb rfl rfl rfl rfl rfl rfl (by first | exact e0) ⟨rfl, rfl, rfl, rfl⟩ rfl rfl rfl ?_
        | refine ep_bin rfl rfl (by first | exact b_add (by omega) (by omega) | exact b_lss) ?_ | refine sp_idx rfl rfl rfl (by omega) rfl ?_ | refine ep_loadS rfl rfl rfl (by first | exact ints_get (by omega) | exact zints_get (by omega) | exact fget (by omega) | assumption) ?_)
      | (refine g_ops ?_; first | refine eo_none ?_ | refine eo_nil ?_)
      | (refine g_code ?_; first | refine ec_seq ?_ | refine ec_region ?_ | refine ec_block ?_ | refine ec_skip ?_ | refine ec_exit ?_ | refine ec_ret ?_ | refine ec_condT rfl ?_ | refine ec_condF rfl ?_ | refine ec_condTH rfl (by assumption) ?_ | refine ec_condFH rfl (by assumption) ?_)
      | refine ek_seqN ?_ | refine ek_seqX ?_ | refine ek_seqR ?_ | refine ek_blkN ?_ | refine ek_blkR ?_ | refine ek_blkX ?_ | refine ek_blkY rfl ?_)
    exact rnd_out (by rfl) (by simp) (scmp2 (by rfl) (by rfl) (by exact ⟨rfl, rfl, rfl⟩) (by rfl) (by first | rfl | (simp; done) | (simp [ints, prs]; done)) (by rfl) (by first | rfl | (simp; done) | (simp [ints, prs]; done)))
theorem evix_dig (c : List Int) (hlen : c.length ≤ 1048576) : Ev cx 86 [.sl 0 0 c.length, .fn 70 []] [⟨zints c, 1, 0, some 0, false⟩] (.int .i64 (match firstF (fun i => !(fun j => !d01 (c.getD j 0)) i) 0 (c.length) with | none => -1 | some x => ((x : Nat) : Int))) [⟨zints c, 1, 0, some 0, false⟩] := by
  cases hs : firstF (fun i => !(fun j => !d01 (c.getD j 0)) i) 0 (c.length) with
  | none =>
    have lp := lpix_dig c hlen _ (by rw [hs])
    refine has86.eev rfl rfl ?_
    unfold m86
    repeat' (first
      | refine sc_loop lp rfl rfl ⟨rfl, rfl, rfl⟩ rfl rfl rfl ?_
      | (refine g_op ?_; first
        | refine ep_mov rfl ?_
        | refine ep_lenS rfl ?_ | refine ep_lenN rfl ?_ | refine ep_lenE rfl ?_)
      | (refine g_ops ?_; first | refine eo_none ?_ | refine eo_nil ?_)
      | (refine g_code ?_; first | refine ec_seq ?_ | refine ec_region ?_ | refine ec_block ?_ | refine ec_ret ?_)
      | refine ek_seqN ?_ | refine ek_seqX ?_ | refine ek_seqR ?_ | refine ek_blkN ?_ | refine ek_blkR ?_ | refine ek_blkX ?_ | refine ek_blkY rfl ?_)
    refine sfin (.inr rfl) (by rfl) (by rfl) (by exact ⟨rfl, rfl, rfl⟩) (by rfl) (by rfl) (by rfl) (by first | rfl | (simp; done) | (simp [ints, prs]; done))
  | some x =>
    have lp := lpix_dig c hlen _ (by rw [hs])
    refine has86.eev rfl rfl ?_
    unfold m86
    repeat' (first
      | refine sc_loop lp rfl rfl ⟨rfl, rfl, rfl⟩ rfl rfl rfl ?_
      | (refine g_op ?_; first
        | refine ep_mov rfl ?_
        | refine ep_lenS rfl ?_ | refine ep_lenN rfl ?_ | refine ep_lenE rfl ?_)
      | (refine g_ops ?_; first | refine eo_none ?_ | refine eo_nil ?_)
      | (refine g_code ?_; first | refine ec_seq ?_ | refine ec_region ?_ | refine ec_block ?_ | refine ec_ret ?_)
      | refine ek_seqN ?_ | refine ek_seqX ?_ | refine ek_seqR ?_ | refine ek_blkN ?_ | refine ek_blkR ?_ | refine ek_blkX ?_ | refine ek_blkY rfl ?_)
    refine sfin (.inr rfl) (by rfl) (by rfl) (by exact ⟨rfl, rfl, rfl⟩) (by rfl) (by rfl) (by rfl) (by first | rfl | (simp; done) | (simp [ints, prs]; done))
theorem evcf_dig (c : List Int) (hlen : c.length ≤ 1048576) : Ev cx 69 [.sl 0 0 c.length, .fn 70 []] [⟨zints c, 1, 0, some 0, false⟩] (.bool (!allF (fun i => !(fun j => !d01 (c.getD j 0)) i) 0 (c.length))) [⟨zints c, 1, 0, some 0, false⟩] := by
  have e1 := evix_dig c hlen
  cases hs : firstF (fun i => !(fun j => !d01 (c.getD j 0)) i) 0 (c.length) with
  | none =>
    rw [hs] at e1
    refine has69.eev rfl rfl ?_
    unfold m69
    repeat' (first
      | (refine g_op ?_; first
        | refine ep_mov rfl ?_
        | refine ep_call0 rfl (by first | exact e1) rfl rfl ?_
        | refine sp_call rfl rfl rfl rfl (by first | exact e1) ⟨rfl, rfl, rfl, rfl⟩ rfl rfl rfl ?_
        | refine ep_bin rfl rfl (by exact b_geq) ?_)
      | (refine g_ops ?_; first | refine eo_none ?_ | refine eo_nil ?_)
      | (refine g_code ?_; first | refine ec_seq ?_ | refine ec_region ?_ | refine ec_ret ?_)
      | refine ek_seqN ?_ | refine ek_seqR ?_)
    refine sfin (.inr rfl) (by rfl) (by rfl) (by exact ⟨rfl, rfl, rfl⟩) (by rfl) (by rfl) (by rw [firstF_allT hs]; rfl) (by first | rfl | (simp; done) | (simp [ints, prs]; done))
  | some x =>
    rw [hs] at e1
    have hge : decide (((x : Nat) : Int) ≥ 0) = true := decide_eq_true (by omega)
    refine has69.eev rfl rfl ?_
    unfold m69
    repeat' (first
      | (refine g_op ?_; first
        | refine ep_mov rfl ?_
        | refine ep_call0 rfl (by first | exact e1) rfl rfl ?_
        | refine sp_call rfl rfl rfl rfl (by first | exact e1) ⟨rfl, rfl, rfl, rfl⟩ rfl rfl rfl ?_
        | refine ep_bin rfl rfl (by exact b_geq) ?_)
      | (refine g_ops ?_; first | refine eo_none ?_ | refine eo_nil ?_)
      | (refine g_code ?_; first | refine ec_seq ?_ | refine ec_region ?_ | refine ec_ret ?_)
      | refine ek_seqN ?_ | refine ek_seqR ?_)
    refine sfin (.inr rfl) (by rfl) (by rfl) (by exact ⟨rfl, rfl, rfl⟩) (by rfl) (by rfl) (by rw [firstF_allF hs]; first | rfl | exact congrArg V.bool hge) (by first | rfl | (simp; done) | (simp [ints, prs]; done))

-- impl.areDigits
def m33 : MC := (.seq (.region [⟨(.mov (.k (.bool false))), (some 2), none⟩] false) (.seq (.region [⟨(.mov (.t 0)), (some 3), none⟩, ⟨(.call 69 [(.t 3), (.k (.fn 70 []))]), (some 4), none⟩, ⟨(.un .not (.t 4)), (some 5), none⟩, ⟨(.mov (.t 5)), (some 2), none⟩] false) .ret))
theorem has33 : Has cx 33 6 m33 [(.tmp 2)] :=
  ⟨⟨Try.f33, Try.f33.body.getD .skip, by kernel_rfl, by kernel_rfl, by kernel_rfl, by kernel_rfl, by kernel_rfl, by kernel_rfl⟩⟩
theorem ev33 (c : List Int) (hlen : c.length ≤ 1048576) : Ev cx 33 [.sl 0 0 c.length] [⟨zints c, 1, 0, some 0, false⟩] (.bool (digs c)) [⟨zints c, 1, 0, some 0, false⟩] := by
  have e2 := evcf_dig c hlen
  rw [show (fun i => !(fun j => !d01 (c.getD j 0)) i) = fun j => d01 (c.getD j 0) by funext j; simp] at e2
  rw [show allF (fun j => d01 (c.getD j 0)) 0 c.length = digs c from rfl] at e2
  refine has33.eev rfl rfl ?_
  unfold m33
  repeat' (first
    | (refine g_op ?_; first
      | refine ep_mov rfl ?_
      | refine ep_call0 rfl (by first | exact e2) rfl rfl ?_
      | refine sp_call rfl rfl rfl rfl (by first | exact e2) ⟨rfl, rfl, rfl, rfl⟩ rfl rfl rfl ?_
      | refine ep_not rfl ?_)
    | (refine g_ops ?_; first | refine eo_none ?_ | refine eo_nil ?_)
    | (refine g_code ?_; first | refine ec_seq ?_ | refine ec_region ?_ | refine ec_ret ?_)
    | refine ek_seqN ?_ | refine ek_seqR ?_)
  refine sfin (.inr rfl) (by rfl) (by rfl) (by exact ⟨rfl, rfl, rfl⟩) (by rfl) (by rfl) (by exact congrArg V.bool (by simp)) (by first | rfl | (simp; done) | (simp [ints, prs]; done))
-- spec.l01Bits
def m58_0 : MC := (.seq (.seq (.region [⟨(.mov (.t 3)), (some 4), none⟩, ⟨(.mov (.t 0)), (some 5), none⟩, ⟨(.len (.t 5)), (some 6), none⟩, ⟨(.bin .lss (.t 4) (.t 6)), (some 7), none⟩] false) (.cond (.t 7) .skip (.exit 0))) (.seq (.block 1 (.seq (.region [⟨(.mov (.t 0)), (some 10), none⟩, ⟨(.mov (.t 3)), (some 11), none⟩, ⟨(.indexAddr 1 (.t 10) (.t 11)), (some 12), none⟩, ⟨(.load none (.t 12)), (some 13), none⟩, ⟨(.call 43 [(.t 13), (.k (.int .i64 0)), (.k (.int .i64 1))]), (some 14), none⟩, ⟨(.un .not (.t 14)), (some 15), none⟩] false) (.cond (.t 15) (.seq (.region [⟨(.mov (.k (.bool false))), (some 2), none⟩] false) .ret) .skip))) (.region [⟨(.mov (.t 3)), (some 8), none⟩, ⟨(.bin .add (.t 8) (.k (.int .i64 1))), (some 9), none⟩, ⟨(.mov (.t 9)), (some 3), none⟩] false)))
def m58 : MC := (.seq (.region [⟨(.mov (.k (.bool false))), (some 2), none⟩] false) (.seq (.seq (.region [⟨(.mov (.k (.int .i64 0))), (some 3), none⟩] false) (.block 0 (.loop m58_0))) (.seq (.region [⟨(.mov (.k (.bool true))), (some 2), none⟩] false) .ret)))
theorem has58 : Has cx 58 16 m58 [(.tmp 2)] :=
  ⟨⟨Try.f58, Try.f58.body.getD .skip, by kernel_rfl, by kernel_rfl, by kernel_rfl, by kernel_rfl, by kernel_rfl, by kernel_rfl⟩⟩
theorem lp58_0 (c : List Int) (hlen : c.length ≤ 1048576) (o : Out) (ho : (if allF (fun j => d01 (c.getD j 0)) 0 (c.length) = true then (⟨.exit 0, [], [⟨zints c, 1, 0, some 0, false⟩]⟩ : Out) else ⟨.ret, [(2, .bool false)], [⟨zints c, 1, 0, some 0, false⟩]⟩) = o) :
    LpS cx 16 1 m58_0 [(0, .sl 0 0 c.length), (3, .int .i64 (0 : Nat))] [⟨zints c, 1, 0, some 0, false⟩] o.x o.e o.h := by
  refine lp_all (c.length) (fun j => d01 (c.getD j 0)) (fun i => [(0, .sl 0 0 c.length), (3, .int .i64 (i : Nat))]) (fun i => [⟨zints c, 1, 0, some 0, false⟩]) _ _ ?_ ?_ ?_ (c.length) 0 o (by omega) ho
  · intro i hi hp
    have hlt : decide ((i : Int) < (c.length : Nat)) = true := decide_eq_true (by omega)
    have hp' : (d01 (c.getD i 0)) = true := hp
    have e1 := ev43 (c.getD i 0) 0 1
    rw [show decide (0 ≤ c.getD i 0 ∧ c.getD i 0 ≤ 1) = _ from hp] at e1
    unfold m58_0
    repeat' (first
      | (refine g_op ?_; first
        | refine ep_mov rfl ?_ | refine ep_load1 rfl rfl rfl rfl ?_
        | refine ep_call0 rfl (by first | exact e1) rfl rfl ?_
        | refine sp_call rfl rfl rfl rfl (by first | exact e1) ⟨rfl, rfl, rfl, rfl⟩ rfl rfl rfl ?_
        | refine ep_bin rfl rfl (by first | exact b_add (by omega) (by omega) | exact b_lss) ?_ | refine ep_not rfl ?_ | refine ep_lenS rfl ?_ | refine ep_lenN rfl ?_ | refine ep_lenE rfl ?_ | refine sp_idx rfl rfl rfl (by omega) rfl ?_
        | refine ep_loadS rfl rfl rfl (by first | exact ints_get (by omega) | exact zints_get (by omega) | exact fget (by omega) | assumption) ?_)
      | (refine g_ops ?_; first | refine eo_none ?_ | refine eo_nil ?_)
      | (refine g_code ?_; first | refine ec_seq ?_ | refine ec_region ?_ | refine ec_block ?_ | refine ec_skip ?_ | refine ec_exit ?_ | refine ec_ret ?_ | refine ec_condT rfl ?_ | refine ec_condF rfl ?_ | refine ec_condTH rfl (by assumption) ?_ | refine ec_condFH rfl (by assumption) ?_)
      | refine ek_seqN ?_ | refine ek_seqX ?_ | refine ek_seqR ?_ | refine ek_blkN ?_ | refine ek_blkR ?_ | refine ek_blkX ?_ | refine ek_blkY rfl ?_)
    exact rnd_on (by rfl) (scmp2 (by rfl) (by rfl) (by exact ⟨rfl, rfl, rfl⟩) (by rfl) (by first | rfl | (simp; done) | (simp [ints, prs]; done)) (by rfl) (by first | rfl | (simp; done) | (simp [ints, prs]; done)))
  · intro i hi hp
    have hlt : decide ((i : Int) < (c.length : Nat)) = true := decide_eq_true (by omega)
    have hp' : (d01 (c.getD i 0)) = false := hp
    have e1 := ev43 (c.getD i 0) 0 1
    rw [show decide (0 ≤ c.getD i 0 ∧ c.getD i 0 ≤ 1) = _ from hp] at e1
    unfold m58_0
    repeat' (first
      | (refine g_op ?_; first
        | refine ep_mov rfl ?_ | refine ep_load1 rfl rfl rfl rfl ?_
        | refine ep_call0 rfl (by first | exact e1) rfl rfl ?_
        | refine sp_call rfl rfl rfl rfl (by first | exact e1) ⟨rfl, rfl, rfl, rfl⟩ rfl rfl rfl ?_
        | refine ep_bin rfl rfl (by first | exact b_add (by omega) (by omega) | exact b_lss) ?_ | refine ep_not rfl ?_ | refine ep_lenS rfl ?_ | refine ep_lenN rfl ?_ | refine ep_lenE rfl ?_ | refine sp_idx rfl rfl rfl (by omega) rfl ?_
        | refine ep_loadS rfl rfl rfl (by first | exact ints_get (by omega) | exact zints_get (by omega) | exact fget (by omega) | assumption) ?_)
      | (refine g_ops ?_; first | refine eo_none ?_ | refine eo_nil ?_)
      | (refine g_code ?_; first | refine ec_seq ?_ | refine ec_region ?_ | refine ec_block ?_ | refine ec_skip ?_ | refine ec_exit ?_ | refine ec_ret ?_ | refine ec_condT rfl ?_ | refine ec_condF rfl ?_ | refine ec_condTH rfl (by assumption) ?_ | refine ec_condFH rfl (by assumption) ?_)
      | refine ek_seqN ?_ | refine ek_seqX ?_ | refine ek_seqR ?_ | refine ek_blkN ?_ | refine ek_blkR ?_ | refine ek_blkX ?_ | refine ek_blkY rfl ?_)
    exact rnd_out (by rfl) (by simp) (scmp2 (by rfl) (by rfl) (by exact ⟨rfl, rfl, rfl⟩) (by rfl) (by first | rfl | (simp; done) | (simp [ints, prs]; done)) (by rfl) (by first | rfl | (simp; done) | (simp [ints, prs]; done)))
  · have hlt : decide (((c.length : Nat) : Int) < (c.length : Nat)) = false := decide_eq_false (by omega)
    unfold m58_0
    repeat' (first
      | (refine g_op ?_; first
        | refine ep_mov rfl ?_ | refine ep_load1 rfl rfl rfl rfl ?_
        | refine ep_call0 rfl (by first | exact e1) rfl rfl ?_
        | refine sp_call rfl rfl rfl rfl (by first | exact e1) ⟨rfl, rfl, rfl, rfl⟩ rfl rfl rfl ?_
        | refine ep_bin rfl rfl (by first | exact b_add (by omega) (by omega) | exact b_lss) ?_ | refine ep_not rfl ?_ | refine ep_lenS rfl ?_ | refine ep_lenN rfl ?_ | refine ep_lenE rfl ?_ | refine sp_idx rfl rfl rfl (by omega) rfl ?_
        | refine ep_loadS rfl rfl rfl (by first | exact ints_get (by omega) | exact zints_get (by omega) | exact fget (by omega) | assumption) ?_)
      | (refine g_ops ?_; first | refine eo_none ?_ | refine eo_nil ?_)
      | (refine g_code ?_; first | refine ec_seq ?_ | refine ec_region ?_ | refine ec_block ?_ | refine ec_skip ?_ | refine ec_exit ?_ | refine ec_ret ?_ | refine ec_condT rfl ?_ | refine ec_condF rfl ?_ | refine ec_condTH rfl (by assumption) ?_ | refine ec_condFH rfl (by assumption) ?_)
      | refine ek_seqN ?_ | refine ek_seqX ?_ | refine ek_seqR ?_ | refine ek_blkN ?_ | refine ek_blkR ?_ | refine ek_blkX ?_ | refine ek_blkY rfl ?_)
    exact rnd_out (by rfl) (by simp) (scmp2 (by rfl) (by rfl) (by exact ⟨rfl, rfl, rfl⟩) (by rfl) (by first | rfl | (simp; done) | (simp [ints, prs]; done)) (by rfl) (by first | rfl | (simp; done) | (simp [ints, prs]; done)))

theorem ev58 (c : List Int) (hlen : c.length ≤ 1048576) : Ev cx 58 [.sl 0 0 c.length] [⟨zints c, 1, 0, some 0, false⟩] (.bool (digs c)) [⟨zints c, 1, 0, some 0, false⟩] := by
  cases h3 : digs c
  · have lp := lp58_0 c hlen _ (if_neg (by rw [show allF (fun j => d01 (c.getD j 0)) 0 c.length = _ from h3]; simp))
    refine has58.eev rfl rfl ?_
    unfold m58
    repeat' (first
      | refine sc_loop lp rfl rfl ⟨rfl, rfl, rfl⟩ rfl rfl rfl ?_
      | (refine g_op ?_; first
        | refine ep_mov rfl ?_)
      | (refine g_ops ?_; first | refine eo_none ?_ | refine eo_nil ?_)
      | (refine g_code ?_; first | refine ec_seq ?_ | refine ec_region ?_ | refine ec_block ?_ | refine ec_ret ?_)
      | refine ek_seqN ?_ | refine ek_seqX ?_ | refine ek_seqR ?_ | refine ek_blkN ?_ | refine ek_blkR ?_ | refine ek_blkX ?_ | refine ek_blkY rfl ?_)
    refine sfin (.inr rfl) (by rfl) (by rfl) (by exact ⟨rfl, rfl, rfl⟩) (by rfl) (by rfl) (by rfl) (by first | rfl | (simp; done) | (simp [ints, prs]; done))
  · have lp := lp58_0 c hlen _ (if_pos h3)
    refine has58.eev rfl rfl ?_
    unfold m58
    repeat' (first
      | refine sc_loop lp rfl rfl ⟨rfl, rfl, rfl⟩ rfl rfl rfl ?_
      | (refine g_op ?_; first
        | refine ep_mov rfl ?_)
      | (refine g_ops ?_; first | refine eo_none ?_ | refine eo_nil ?_)
      | (refine g_code ?_; first | refine ec_seq ?_ | refine ec_region ?_ | refine ec_block ?_ | refine ec_ret ?_)
      | refine ek_seqN ?_ | refine ek_seqX ?_ | refine ek_seqR ?_ | refine ek_blkN ?_ | refine ek_blkR ?_ | refine ek_blkX ?_ | refine ek_blkY rfl ?_)
    refine sfin (.inr rfl) (by rfl) (by rfl) (by exact ⟨rfl, rfl, rfl⟩) (by rfl) (by rfl) (by rfl) (by first | rfl | (simp; done) | (simp [ints, prs]; done))
def lvG (l : List Nat) (r : Nat) : Nat := l.getD (pop r 16) 0
theorem pop_n {r n : Nat} (hn : n ≤ 4) (h : r < R2 n) : pop r 16 ≤ n := by
  have : R2 n ≤ R2 4 := R2_mono hn
  have h3 : n < R2 n := by unfold R2; exact Nat.lt_two_pow_self
  have e1 : pop r 16 = pop r n := by
    refine pop_ge (n := n) ?_ 16 (by omega)
    exact h
  rw [e1]; exact pop_le r n
-- impl.FuncOfLevels$1
def m56 : MC := (.seq (.region [⟨(.mov (.k (.int .i64 0))), (some 3), none⟩] false) (.seq (.region [⟨(.load none (.t 1)), (some 4), none⟩, ⟨(.mov (.t 0)), (some 5), none⟩, ⟨(.call 57 [(.t 5)]), (some 6), none⟩, ⟨(.indexAddr 1 (.t 4) (.t 6)), (some 7), none⟩, ⟨(.load none (.t 7)), (some 8), none⟩, ⟨(.mov (.t 8)), (some 3), none⟩] true) .ret))
theorem has56 : Has cx 56 9 m56 [(.tmp 3)] :=
  ⟨⟨Try.f56, Try.f56.body.getD .skip, by kernel_rfl, by kernel_rfl, by kernel_rfl, by kernel_rfl, by kernel_rfl, by kernel_rfl⟩⟩
theorem ev56 (n r : Nat) (l : List Nat) (hn : n ≤ 4) (hl : l.length = n + 1) (hr : r < R2 n) : Ev cx 56 [.int .i64 r, .ptr 0 0] [⟨[.sl 1 0 l.length], 1, 0, some 0, true⟩, ⟨ints l, 1, 1, some 0, false⟩] (.int .i64 (lvG l r : Nat)) [⟨[.sl 1 0 l.length], 1, 0, some 0, true⟩, ⟨ints l, 1, 1, some 0, false⟩] := by
  obtain ⟨h1, h2, h3, h4⟩ := shN hn
  have hp := pop_n hn hr
  refine has56.eev rfl rfl ?_
  unfold m56
  repeat' (first
    | (refine g_op ?_; first
      | refine ep_mov rfl ?_ | refine ep_load1 rfl rfl rfl rfl ?_
      | refine ep_call0 rfl (by first | exact ev57 r (by omega) (swar16 r (by omega))) rfl rfl ?_
      | refine sp_call rfl rfl rfl rfl (by first | exact ev57 r (by omega) (swar16 r (by omega))) ⟨rfl, rfl, rfl, rfl⟩ rfl rfl rfl ?_
      | refine sp_idx rfl rfl rfl (by omega) rfl ?_ | refine ep_loadS rfl rfl rfl (by first | exact ints_get (by omega) | exact zints_get (by omega) | exact fget (by omega) | assumption) ?_)
    | (refine g_ops ?_; first | refine eo_none ?_ | refine eo_nil ?_)
    | (refine g_dops ?_; first | refine ed_none ?_ | refine ed_nil ?_)
    | refine ed_same rfl ?_ | refine ed_one rfl rfl rfl rfl ?_ | refine ed_two rfl rfl rfl rfl rfl rfl rfl ?_ | refine ed_write rfl rfl ?_
    | (refine g_code ?_; first | refine ec_seq ?_ | refine ec_region ?_ | refine ec_draw ?_ | refine ec_ret ?_)
    | refine ek_seqN ?_ | refine ek_seqR ?_)
  refine sfin (.inr rfl) (by rfl) (by rfl) (by exact ⟨rfl, rfl, rfl⟩) (by rfl) (by rfl) (by rfl) (by first | rfl | (simp; done) | (simp [ints, prs]; done))
theorem lpfb_fol (n : Nat) (l : List Nat) (hn : n ≤ 4) (hl : l.length = n + 1) (h01 : ∀ j, j < l.length → l.getD j 0 ≤ 1) :
    LpS cx 25 2 m55_0 [(1, .fn 56 [.ptr 0 0]), (4, .ptr 2 0), (5, .ptr 3 0), (10, .int .i64 (R2 (n) : Nat)), (11, .int .i64 (0 : Nat))] [⟨[.sl 1 0 l.length], 1, 0, some 0, true⟩, ⟨ints l, 1, 1, some 0, false⟩, ⟨[.int .i64 0, .int .i64 0], 1, 2, some 0, true⟩, ⟨[.int .i64 (n : Nat), .int .i64 (pk (lvG l) (0) : Nat)], 1, 3, some 0, true⟩] (⟨.exit 0, [(4, .ptr 2 0), (5, .ptr 3 0)], [⟨[.sl 1 0 l.length], 1, 0, some 0, true⟩, ⟨ints l, 1, 1, some 0, false⟩, ⟨[.int .i64 0, .int .i64 0], 1, 2, some 0, true⟩, ⟨[.int .i64 (n : Nat), .int .i64 (pk (lvG l) (R2 (n)) : Nat)], 1, 3, some 0, true⟩]⟩ : Out).x (⟨.exit 0, [(4, .ptr 2 0), (5, .ptr 3 0)], [⟨[.sl 1 0 l.length], 1, 0, some 0, true⟩, ⟨ints l, 1, 1, some 0, false⟩, ⟨[.int .i64 0, .int .i64 0], 1, 2, some 0, true⟩, ⟨[.int .i64 (n : Nat), .int .i64 (pk (lvG l) (R2 (n)) : Nat)], 1, 3, some 0, true⟩]⟩ : Out).e (⟨.exit 0, [(4, .ptr 2 0), (5, .ptr 3 0)], [⟨[.sl 1 0 l.length], 1, 0, some 0, true⟩, ⟨ints l, 1, 1, some 0, false⟩, ⟨[.int .i64 0, .int .i64 0], 1, 2, some 0, true⟩, ⟨[.int .i64 (n : Nat), .int .i64 (pk (lvG l) (R2 (n)) : Nat)], 1, 3, some 0, true⟩]⟩ : Out).h := by
  obtain ⟨h1, h2, h3, h4⟩ := shN hn
  have hgl : ∀ r, r < R2 (n) → (lvG l) r ≤ 1 := fun r hr => h01 _ (by have := pop_n hn hr; omega)
  refine lp_st (R2 (n)) (fun _ => ()) (fun i _ => [(1, .fn 56 [.ptr 0 0]), (4, .ptr 2 0), (5, .ptr 3 0), (10, .int .i64 (R2 (n) : Nat)), (11, .int .i64 (i : Nat))]) (fun i _ => [⟨[.sl 1 0 l.length], 1, 0, some 0, true⟩, ⟨ints l, 1, 1, some 0, false⟩, ⟨[.int .i64 0, .int .i64 0], 1, 2, some 0, true⟩, ⟨[.int .i64 (n : Nat), .int .i64 (pk (lvG l) (i) : Nat)], 1, 3, some 0, true⟩]) (fun _ => (⟨.exit 0, [(4, .ptr 2 0), (5, .ptr 3 0)], [⟨[.sl 1 0 l.length], 1, 0, some 0, true⟩, ⟨ints l, 1, 1, some 0, false⟩, ⟨[.int .i64 0, .int .i64 0], 1, 2, some 0, true⟩, ⟨[.int .i64 (n : Nat), .int .i64 (pk (lvG l) (R2 (n)) : Nat)], 1, 3, some 0, true⟩]⟩ : Out)) ?_ ?_ (R2 (n)) 0 (by omega)
  · intro i u_ hi hu_
    refine ⟨(), rfl, ?_⟩
    have hlt : decide ((i : Int) < (R2 (n) : Nat)) = true := decide_eq_true (by omega)
    have hg := hgl i hi
    have hp0 := pk_lt (g := lvG l) (n := i) fun r hr => hgl r (by omega)
    have hp1 := R2_mono (i := i) (n := R2 (n)) (by omega)
    have hs := sl_lt hg hi
    have hp2 := or_lt (n := R2 (n)) (show pk (lvG l) i < R2 (R2 (n)) by omega) hs
    unfold m55_0
    repeat' (first
      | (refine g_op ?_; first
        | refine ep_mov rfl ?_ | refine ep_load1 rfl rfl rfl rfl ?_ | refine ep_fieldAddr rfl ?_
        | refine sp_callv rfl rfl rfl rfl rfl rfl (by first | exact ev56 n i l hn hl hi) ⟨rfl, rfl, rfl, rfl⟩ rfl rfl rfl ?_
        | refine sp_callb rfl rfl rfl rfl rfl rfl (by first | exact ev56 n i l hn hl hi) ⟨rfl, rfl, rfl, rfl⟩ rfl rfl rfl ?_
        | refine ep_bin rfl rfl (by first | exact b_add (by omega) (by omega) | exact b_or (by omega) (by omega) | exact b_shl (by omega) (by omega) | exact b_lss) ?_ | refine sp_store rfl rfl rfl rfl rfl rfl rfl rfl rfl rfl ?_)
      | (refine g_ops ?_; first | refine eo_none ?_ | refine eo_nil ?_)
      | (refine g_dops ?_; first | refine ed_none ?_ | refine ed_nil ?_)
      | refine ed_same rfl ?_ | refine ed_one rfl rfl rfl rfl ?_ | refine ed_two rfl rfl rfl rfl rfl rfl rfl ?_ | refine ed_write rfl rfl ?_
      | (refine g_code ?_; first | refine ec_seq ?_ | refine ec_region ?_ | refine ec_draw ?_ | refine ec_block ?_ | refine ec_skip ?_ | refine ec_exit ?_ | refine ec_condT rfl ?_ | refine ec_condF rfl ?_ | refine ec_condTH rfl (by assumption) ?_ | refine ec_condFH rfl (by assumption) ?_)
      | refine ek_seqN ?_ | refine ek_seqX ?_ | refine ek_blkN ?_ | refine ek_blkR ?_ | refine ek_blkX ?_ | refine ek_blkY rfl ?_)
    exact rnd_on (by rfl) (scmp2 (by rfl) (by rfl) (by exact ⟨rfl, rfl, rfl⟩) (by rfl) (by first | rfl | (simp; done) | (simp [ints, prs]; done)) (by rfl) (by first | rfl | (simp; done) | (simp [ints, prs]; done)))
  · intro u_ hu_
    have hlt : decide (((R2 (n) : Nat) : Int) < (R2 (n) : Nat)) = false := decide_eq_false (by omega)
    unfold m55_0
    repeat' (first
      | (refine g_op ?_; first
        | refine ep_mov rfl ?_ | refine ep_load1 rfl rfl rfl rfl ?_ | refine ep_fieldAddr rfl ?_
        | refine sp_callv rfl rfl rfl rfl rfl rfl (by first | exact ev56 n i l hn hl hi) ⟨rfl, rfl, rfl, rfl⟩ rfl rfl rfl ?_
        | refine sp_callb rfl rfl rfl rfl rfl rfl (by first | exact ev56 n i l hn hl hi) ⟨rfl, rfl, rfl, rfl⟩ rfl rfl rfl ?_
        | refine ep_bin rfl rfl (by first | exact b_add (by omega) (by omega) | exact b_or (by omega) (by omega) | exact b_shl (by omega) (by omega) | exact b_lss) ?_ | refine sp_store rfl rfl rfl rfl rfl rfl rfl rfl rfl rfl ?_)
      | (refine g_ops ?_; first | refine eo_none ?_ | refine eo_nil ?_)
      | (refine g_dops ?_; first | refine ed_none ?_ | refine ed_nil ?_)
      | refine ed_same rfl ?_ | refine ed_one rfl rfl rfl rfl ?_ | refine ed_two rfl rfl rfl rfl rfl rfl rfl ?_ | refine ed_write rfl rfl ?_
      | (refine g_code ?_; first | refine ec_seq ?_ | refine ec_region ?_ | refine ec_draw ?_ | refine ec_block ?_ | refine ec_skip ?_ | refine ec_exit ?_ | refine ec_condT rfl ?_ | refine ec_condF rfl ?_ | refine ec_condTH rfl (by assumption) ?_ | refine ec_condFH rfl (by assumption) ?_)
      | refine ek_seqN ?_ | refine ek_seqX ?_ | refine ek_blkN ?_ | refine ek_blkR ?_ | refine ek_blkX ?_ | refine ek_blkY rfl ?_)
    exact rnd_out (by rfl) (by simp) (scmp2 (by rfl) (by rfl) (by exact ⟨rfl, rfl, rfl⟩) (by rfl) (by first | rfl | (simp; done) | (simp [ints, prs]; done)) (by rfl) (by first | rfl | (simp; done) | (simp [ints, prs]; done)))
theorem evfb_fol (n : Nat) (l : List Nat) (hn : n ≤ 4) (hl : l.length = n + 1) (h01 : ∀ j, j < l.length → l.getD j 0 ≤ 1) : Ev cx 55 [.int .i64 (n : Nat), .fn 56 [.ptr 0 0]] [⟨[.sl 1 0 l.length], 1, 0, some 0, true⟩, ⟨ints l, 1, 1, some 0, false⟩] (.agg [.int .i64 (n : Nat), .int .i64 (pk (lvG l) (R2 (n)) : Nat)]) [⟨[.sl 1 0 l.length], 1, 0, some 0, true⟩, ⟨ints l, 1, 1, some 0, false⟩] := by
  obtain ⟨h1, h2, h3, h4⟩ := shN hn
  have lp := lpfb_fol n l hn hl h01
  refine has55.eev rfl rfl ?_
  unfold m55
  repeat' (first
    | refine sc_loop lp rfl rfl ⟨rfl, rfl, rfl⟩ rfl rfl rfl ?_
    | (refine g_op ?_; first
      | refine ep_mov rfl ?_ | refine sp_loadN rfl rfl rfl rfl rfl ?_
      | refine ep_call0 rfl (by first | exact ev32 _ hn) rfl rfl ?_
      | refine sp_call rfl rfl rfl rfl (by first | exact ev32 _ hn) ⟨rfl, rfl, rfl, rfl⟩ rfl rfl rfl ?_
      | refine sp_store rfl rfl rfl rfl rfl rfl rfl rfl rfl rfl ?_ | refine sp_alloc rfl rfl ?_ | refine sp_build rfl rfl ?_)
    | (refine g_ops ?_; first | refine eo_none ?_ | refine eo_nil ?_)
    | (refine g_code ?_; first | refine ec_seq ?_ | refine ec_region ?_ | refine ec_block ?_ | refine ec_ret ?_)
    | refine ek_seqN ?_ | refine ek_seqX ?_ | refine ek_seqR ?_ | refine ek_blkN ?_ | refine ek_blkR ?_ | refine ek_blkX ?_ | refine ek_blkY rfl ?_)
  refine sfin (.inr rfl) (by rfl) (by rfl) (by exact ⟨rfl, rfl, rfl⟩) (by rfl) (by rfl) (by rfl) (by first | rfl | (simp; done) | (simp [ints, prs]; done))

theorem digs_nat {c : List Int} (h : digs c = true) : zints c = ints (c.map Int.toNat) ∧ ∀ j, j < (c.map Int.toNat).length → (c.map Int.toNat).getD j 0 ≤ 1 := by
  rw [digs, allF_iff] at h
  have key : ∀ j (hj : j < c.length), 0 ≤ c[j] ∧ c[j] ≤ 1 := by
    intro j hj
    have := h j (Nat.zero_le _) (by omega)
    simp only [d01, decide_eq_true_eq, List.getD_eq_getElem?_getD, List.getElem?_eq_getElem hj, Option.getD_some] at this
    omega
  refine ⟨?_, fun j hj => ?_⟩
  · simp only [zints, ints, List.map_map]
    apply List.map_congr_left
    intro x hx
    obtain ⟨j, hj, rfl⟩ := List.getElem_of_mem hx
    have := key j hj
    simp only [Function.comp]; congr 1; omega
  · simp only [List.length_map] at hj
    have := key j hj
    rw [List.getD_eq_getElem?_getD, List.getElem?_map, List.getElem?_eq_getElem hj]
    simp only [Option.map_some, Option.getD_some]; omega
def folR (c : List Int) : RR := if (1 ≤ c.length ∧ c.length ≤ 5) ∧ digs c = true then ⟨((c.length - 1 : Nat) : Int), (pk (lvG (c.map Int.toNat)) (R2 (c.length - 1)) : Nat), 0⟩ else ⟨0, 0, 2⟩
-- impl.FuncOfLevels
def m20 : MC := (.seq (.region [⟨(.box (.t 0)), (some 1), none⟩, ⟨(.alloc [(.int .i64 0), (.int .i64 0)]), (some 2), none⟩, ⟨(.mov (.k (.int .i64 0))), (some 3), none⟩] false) (.seq (.region [⟨(.load none (.t 1)), (some 5), none⟩, ⟨(.len (.t 5)), (some 6), none⟩, ⟨(.bin .sub (.t 6) (.k (.int .i64 1))), (some 7), none⟩, ⟨(.mov (.t 7)), (some 4), none⟩] false) (.seq (.seq (.region [⟨(.mov (.t 4)), (some 8), none⟩, ⟨(.call 31 [(.t 8)]), (some 9), none⟩, ⟨(.un .not (.t 9)), (some 10), none⟩, ⟨(.mov (.t 10)), (some 11), none⟩, ⟨(.load none (.t 1)), (some 12), (some (11, false))⟩, ⟨(.call 33 [(.t 12)]), (some 13), (some (11, false))⟩, ⟨(.un .not (.t 13)), (some 14), (some (11, false))⟩, ⟨(.pick (.t 11) (.k (.bool true)) (.t 14)), (some 15), none⟩] false) (.cond (.t 15) (.seq (.region [⟨(.build [(.int .i64 0), (.int .i64 0)] []), (some 16), none⟩, ⟨(.store 2 (.t 2) (.t 16)), none, none⟩, ⟨(.mov (.k (.int .i64 2))), (some 3), none⟩] false) .ret) .skip)) (.seq (.region [⟨(.mov (.t 4)), (some 17), none⟩, ⟨(.mkfn 56 [(.t 1)]), (some 18), none⟩, ⟨(.call 55 [(.t 17), (.t 18)]), (some 19), none⟩, ⟨(.store 2 (.t 2) (.t 19)), none, none⟩, ⟨(.mov (.k (.int .i64 0))), (some 3), none⟩] false) .ret))))
theorem has20 : Has cx 20 20 m20 [(.cell 2 (some 2)), (.tmp 3)] :=
  ⟨⟨Try.f20, Try.f20.body.getD .skip, by kernel_rfl, by kernel_rfl, by kernel_rfl, by kernel_rfl, by kernel_rfl, by kernel_rfl⟩⟩
theorem ev20 (c : List Int) (hlen : c.length ≤ 1048576) : Ev cx 20 [.sl 0 0 c.length] [⟨zints c, 1, 0, some 0, false⟩] (rr (folR c)) [⟨zints c, 1, 0, some 0, false⟩] := by
  have e1 := ev31 ((c.length : Nat) - 1)
  by_cases h1 : 1 ≤ c.length ∧ c.length ≤ 5
  · rw [decide_eq_true (by omega)] at e1
    have e2 := ev33 c hlen
    cases h3 : digs c
    · rw [h3] at e2
      refine has20.eev rfl rfl ?_
      unfold m20
      repeat' (first
        | (refine g_op ?_; first
          | refine ep_mov rfl ?_ | refine ep_load1 rfl rfl rfl rfl ?_
          | refine ep_call0 rfl (by first | exact e1 | exact e2) rfl rfl ?_
          | refine sp_call rfl rfl rfl rfl (by first | exact e1 | exact e2) ⟨rfl, rfl, rfl, rfl⟩ rfl rfl rfl ?_
          | refine ep_bin rfl rfl (by exact b_sub (by omega) (by omega)) ?_ | refine ep_pickT rfl rfl ?_ | refine ep_pickF rfl rfl ?_ | refine ep_pickTH rfl (by assumption) rfl ?_ | refine ep_pickFH rfl (by assumption) rfl ?_
          | refine sp_store rfl rfl rfl rfl rfl rfl rfl rfl rfl rfl ?_ | refine ep_not rfl ?_ | refine ep_lenS rfl ?_ | refine ep_lenN rfl ?_ | refine ep_lenE rfl ?_ | refine sp_box rfl rfl rfl rfl rfl ?_
          | refine sp_alloc rfl rfl ?_ | refine sp_build rfl rfl ?_ | refine ep_mkfn rfl ?_)
        | (refine g_ops ?_; first | refine eo_none ?_ | refine eo_nil ?_ | refine eo_yes rfl ?_ | refine eo_no rfl ?_ | refine eo_und rfl ?_ | refine eo_yesH rfl (by assumption) ?_ | refine eo_noH rfl (by assumption) ?_)
        | (refine g_code ?_; first | refine ec_seq ?_ | refine ec_region ?_ | refine ec_skip ?_ | refine ec_ret ?_ | refine ec_condT rfl ?_ | refine ec_condF rfl ?_ | refine ec_condTH rfl (by assumption) ?_ | refine ec_condFH rfl (by assumption) ?_)
        | refine ek_seqN ?_ | refine ek_seqR ?_)
      refine sfin (.inr rfl) (by rfl) (by rfl) (by exact ⟨rfl, rfl, rfl⟩) (by rfl) (by rfl) (by rw [folR, if_neg (fun h => by rw [h3] at h; simp at h)]) (by first | rfl | (simp; done) | (simp [ints, prs]; done))
    · rw [h3] at e2
      obtain ⟨k1, k2⟩ := digs_nat h3
      have e3 := evfb_fol (c.length - 1) (c.map Int.toNat) (by omega) (by simp; omega) k2
      have hb := b_sub1 (a := c.length) h1.1 (by omega)
      rw [show ((c.length : Nat) : Int) - 1 = ((c.length - 1 : Nat) : Int) by omega] at e1
      rw [← k1, List.length_map] at e3
      refine has20.eev rfl rfl ?_
      unfold m20
      repeat' (first
        | (refine g_op ?_; first
          | refine ep_mov rfl ?_ | refine ep_load1 rfl rfl rfl rfl ?_
          | refine ep_call0 rfl (by first | exact e1 | exact e2 | exact e3) rfl rfl ?_
          | refine sp_call rfl rfl rfl rfl (by first | exact e1 | exact e2 | exact e3) ⟨rfl, rfl, rfl, rfl⟩ rfl rfl rfl ?_
          | refine ep_bin rfl rfl (by first | exact hb | exact b_sub (by omega) (by omega)) ?_ | refine ep_pickT rfl rfl ?_ | refine ep_pickF rfl rfl ?_ | refine ep_pickTH rfl (by assumption) rfl ?_ | refine ep_pickFH rfl (by assumption) rfl ?_
          | refine sp_store rfl rfl rfl rfl rfl rfl rfl rfl rfl rfl ?_ | refine ep_not rfl ?_ | refine ep_lenS rfl ?_ | refine ep_lenN rfl ?_ | refine ep_lenE rfl ?_ | refine sp_box rfl rfl rfl rfl rfl ?_
          | refine sp_alloc rfl rfl ?_ | refine sp_build rfl rfl ?_ | refine ep_mkfn rfl ?_)
        | (refine g_ops ?_; first | refine eo_none ?_ | refine eo_nil ?_ | refine eo_yes rfl ?_ | refine eo_no rfl ?_ | refine eo_und rfl ?_ | refine eo_yesH rfl (by assumption) ?_ | refine eo_noH rfl (by assumption) ?_)
        | (refine g_code ?_; first | refine ec_seq ?_ | refine ec_region ?_ | refine ec_skip ?_ | refine ec_ret ?_ | refine ec_condT rfl ?_ | refine ec_condF rfl ?_ | refine ec_condTH rfl (by assumption) ?_ | refine ec_condFH rfl (by assumption) ?_)
        | refine ek_seqN ?_ | refine ek_seqR ?_)
      refine sfin (.inr rfl) (by rfl) (by rfl) (by exact ⟨rfl, rfl, rfl⟩) (by rfl) (by rfl) (by rw [folR, if_pos ⟨h1, h3⟩]; try rfl) (by first | rfl | (simp; done) | (simp [ints, prs]; done))
  · rw [decide_eq_false (by omega)] at e1
    refine has20.eev rfl rfl ?_
    unfold m20
    repeat' (first
      | (refine g_op ?_; first
        | refine ep_mov rfl ?_ | refine ep_load1 rfl rfl rfl rfl ?_
        | refine ep_call0 rfl (by first | exact e1) rfl rfl ?_
        | refine sp_call rfl rfl rfl rfl (by first | exact e1) ⟨rfl, rfl, rfl, rfl⟩ rfl rfl rfl ?_
        | refine ep_bin rfl rfl (by exact b_sub (by omega) (by omega)) ?_ | refine ep_pickT rfl rfl ?_ | refine ep_pickF rfl rfl ?_ | refine ep_pickTH rfl (by assumption) rfl ?_ | refine ep_pickFH rfl (by assumption) rfl ?_
        | refine sp_store rfl rfl rfl rfl rfl rfl rfl rfl rfl rfl ?_ | refine ep_not rfl ?_ | refine ep_lenS rfl ?_ | refine ep_lenN rfl ?_ | refine ep_lenE rfl ?_ | refine sp_box rfl rfl rfl rfl rfl ?_
        | refine sp_alloc rfl rfl ?_ | refine sp_build rfl rfl ?_ | refine ep_mkfn rfl ?_)
      | (refine g_ops ?_; first | refine eo_none ?_ | refine eo_nil ?_ | refine eo_yes rfl ?_ | refine eo_no rfl ?_ | refine eo_und rfl ?_ | refine eo_yesH rfl (by assumption) ?_ | refine eo_noH rfl (by assumption) ?_)
      | (refine g_code ?_; first | refine ec_seq ?_ | refine ec_region ?_ | refine ec_skip ?_ | refine ec_ret ?_ | refine ec_condT rfl ?_ | refine ec_condF rfl ?_ | refine ec_condTH rfl (by assumption) ?_ | refine ec_condFH rfl (by assumption) ?_)
      | refine ek_seqN ?_ | refine ek_seqR ?_)
    refine sfin (.inr rfl) (by rfl) (by rfl) (by exact ⟨rfl, rfl, rfl⟩) (by rfl) (by rfl) (by rw [folR, if_neg (fun h => h1 h.1)]) (by first | rfl | (simp; done) | (simp [ints, prs]; done))
def bsz (r : Nat) : Nat := if r = 0 then 0 else if r = 1 then 1 else if r < 4 then 2 else if r < 8 then 3 else 4
theorem bszF : ∀ r, r < 16 → (∀ i, i < bsz r → 1 ≤ r / R2 i) ∧ r / R2 (bsz r) = 0 ∧ pop r (bsz r) = pop r 16 ∧ bsz r ≤ 4 := by decide +kernel
theorem bt_div (r i : Nat) : bt r i = r / R2 i % 2 := by
  unfold bt R2; rw [Nat.shiftRight_eq_div_pow, Nat.and_one_is_mod]
theorem div_succ (r i : Nat) : r / R2 i / 2 = r / R2 (i + 1) := by rw [Nat.div_div_eq_div_mul, show R2 (i + 1) = R2 i * 2 by unfold R2; rw [Nat.pow_succ]]
-- spec.l03Size
def m54_0 : MC := (.seq (.seq (.region [⟨(.mov (.t 0)), (some 4), none⟩, ⟨(.bin .gtr (.t 4) (.k (.int .i64 0))), (some 5), none⟩] false) (.cond (.t 5) .skip (.exit 0))) (.seq (.block 1 (.region [⟨(.mov (.t 3)), (some 8), none⟩, ⟨(.mov (.t 0)), (some 9), none⟩, ⟨(.bin .rem (.t 9) (.k (.int .i64 2))), (some 10), none⟩, ⟨(.bin .add (.t 8) (.t 10)), (some 11), none⟩, ⟨(.mov (.t 11)), (some 3), none⟩] false)) (.region [⟨(.mov (.t 0)), (some 6), none⟩, ⟨(.bin .quo (.t 6) (.k (.int .i64 2))), (some 7), none⟩, ⟨(.mov (.t 7)), (some 0), none⟩] false)))
def m54 : MC := (.seq (.region [⟨(.mov (.k (.int .i64 0))), (some 2), none⟩] false) (.seq (.region [⟨(.mov (.k (.int .i64 0))), (some 3), none⟩] false) (.seq (.block 0 (.loop m54_0)) (.seq (.region [⟨(.mov (.t 3)), (some 12), none⟩, ⟨(.mov (.t 12)), (some 2), none⟩] false) .ret))))
theorem has54 : Has cx 54 13 m54 [(.tmp 2)] :=
  ⟨⟨Try.f54, Try.f54.body.getD .skip, by kernel_rfl, by kernel_rfl, by kernel_rfl, by kernel_rfl, by kernel_rfl, by kernel_rfl⟩⟩
theorem lp54_0 (r : Nat) (hr : r < 16) :
    LpS cx 13 0 m54_0 [(0, .int .i64 (r / R2 (0) : Nat)), (3, .int .i64 (pop r (0) : Nat))] [] (⟨.exit 0, [(3, .int .i64 (pop r (bsz r) : Nat))], []⟩ : Out).x (⟨.exit 0, [(3, .int .i64 (pop r (bsz r) : Nat))], []⟩ : Out).e (⟨.exit 0, [(3, .int .i64 (pop r (bsz r) : Nat))], []⟩ : Out).h := by
  obtain ⟨f1, f2, f3, f4⟩ := bszF r hr
  refine lp_st (bsz r) (fun _ => ()) (fun i _ => [(0, .int .i64 (r / R2 (i) : Nat)), (3, .int .i64 (pop r (i) : Nat))]) (fun i _ => []) (fun _ => (⟨.exit 0, [(3, .int .i64 (pop r (bsz r) : Nat))], []⟩ : Out)) ?_ ?_ (bsz r) 0 (by omega)
  · intro i u_ hi hu_
    refine ⟨(), rfl, ?_⟩
    have hlt : decide ((i : Int) < (bsz r : Nat)) = true := decide_eq_true (by omega)
    have g1 := f1 i hi
    have g2 : decide (((r / R2 i : Nat) : Int) > 0) = true := decide_eq_true (by omega)
    have g3 := Nat.div_le_self r (R2 i)
    have g4 := bt_div r i
    have g5 := pop_le r i
    have b1 : binV .rem (.int .i64 (r / R2 i : Nat)) (.int .i64 2) = some (.int .i64 (bt r i : Nat)) := by rw [g4]; exact b_remN (b := 2) (by omega)
    have b2 : binV .quo (.int .i64 (r / R2 i : Nat)) (.int .i64 2) = some (.int .i64 (r / R2 (i + 1) : Nat)) := by rw [← div_succ]; exact b_quoN (b := 2) (by omega) (by omega)
    have b3 : binV .add (.int .i64 (pop r i : Nat)) (.int .i64 (bt r i : Nat)) = some (.int .i64 (pop r (i + 1) : Nat)) := by rw [pop]; exact b_addN (by have := bt_le r i; omega)
    unfold m54_0
    repeat' (first
      | (refine g_op ?_; first
        | refine ep_mov rfl ?_
        | refine ep_bin rfl rfl (by first | exact b1 | exact b2 | exact b3 | exact b_add (by omega) (by omega) | exact b_gtr) ?_)
      | (refine g_ops ?_; first | refine eo_none ?_ | refine eo_nil ?_)
      | (refine g_code ?_; first | refine ec_seq ?_ | refine ec_region ?_ | refine ec_block ?_ | refine ec_skip ?_ | refine ec_exit ?_ | refine ec_condT rfl ?_ | refine ec_condF rfl ?_ | refine ec_condTH rfl (by assumption) ?_ | refine ec_condFH rfl (by assumption) ?_)
      | refine ek_seqN ?_ | refine ek_seqX ?_ | refine ek_blkN ?_ | refine ek_blkR ?_ | refine ek_blkX ?_ | refine ek_blkY rfl ?_)
    exact rnd_on (by rfl) (scmp2 (by rfl) (by rfl) (by exact ⟨rfl, rfl, rfl⟩) (by rfl) (by first | rfl | (simp; done) | (simp [ints, prs]; done)) (by rfl) (by first | rfl | (simp; done) | (simp [ints, prs]; done)))
  · intro u_ hu_
    have hlt : decide (((bsz r : Nat) : Int) < (bsz r : Nat)) = false := decide_eq_false (by omega)
    have g2 : decide (((r / R2 (bsz r) : Nat) : Int) > 0) = false := decide_eq_false (by omega)
    unfold m54_0
    repeat' (first
      | (refine g_op ?_; first
        | refine ep_mov rfl ?_
        | refine ep_bin rfl rfl (by first | exact b_add (by omega) (by omega) | exact b_gtr) ?_)
      | (refine g_ops ?_; first | refine eo_none ?_ | refine eo_nil ?_)
      | (refine g_code ?_; first | refine ec_seq ?_ | refine ec_region ?_ | refine ec_block ?_ | refine ec_skip ?_ | refine ec_exit ?_ | refine ec_condT rfl ?_ | refine ec_condF rfl ?_ | refine ec_condTH rfl (by assumption) ?_ | refine ec_condFH rfl (by assumption) ?_)
      | refine ek_seqN ?_ | refine ek_seqX ?_ | refine ek_blkN ?_ | refine ek_blkR ?_ | refine ek_blkX ?_ | refine ek_blkY rfl ?_)
    exact rnd_out (by rfl) (by simp) (scmp2 (by rfl) (by rfl) (by exact ⟨rfl, rfl, rfl⟩) (by rfl) (by first | rfl | (simp; done) | (simp [ints, prs]; done)) (by rfl) (by first | rfl | (simp; done) | (simp [ints, prs]; done)))

theorem ev54 (r : Nat) (hr : r < 16) : Ev cx 54 [.int .i64 r] [] (.int .i64 (pop r 16 : Nat)) [] := by
  obtain ⟨f1, f2, f3, f4⟩ := bszF r hr
  have lp := lp54_0 r hr
  rw [f3, show pop r 0 = 0 from rfl, show r / R2 0 = r by unfold R2; simp] at lp
  refine has54.eev rfl rfl ?_
  unfold m54
  repeat' (first
    | refine sc_loop lp rfl rfl ⟨rfl, rfl, rfl⟩ rfl rfl rfl ?_
    | (refine g_op ?_; first
      | refine ep_mov rfl ?_)
    | (refine g_ops ?_; first | refine eo_none ?_ | refine eo_nil ?_)
    | (refine g_code ?_; first | refine ec_seq ?_ | refine ec_region ?_ | refine ec_block ?_ | refine ec_ret ?_)
    | refine ek_seqN ?_ | refine ek_seqX ?_ | refine ek_seqR ?_ | refine ek_blkN ?_ | refine ek_blkR ?_ | refine ek_blkX ?_ | refine ek_blkY rfl ?_)
  refine sfin (.inr rfl) (by rfl) (by rfl) (by exact ⟨rfl, rfl, rfl⟩) (by rfl) (by rfl) (by rfl) (by first | rfl | (simp; done) | (simp [ints, prs]; done))
-- spec.l07Symmetric
def m49_0 : MC := (.seq (.seq (.region [⟨(.mov (.t 5)), (some 10), none⟩, ⟨(.mov (.t 3)), (some 11), none⟩, ⟨(.call 53 [(.t 11)]), (some 12), none⟩, ⟨(.bin .lss (.t 10) (.t 12)), (some 13), none⟩] false) (.cond (.t 13) .skip (.exit 0))) (.seq (.block 1 (.region [⟨(.mov (.t 4)), (some 16), none⟩, ⟨(.mov (.t 0)), (some 17), none⟩, ⟨(.mov (.t 5)), (some 18), none⟩, ⟨(.call 54 [(.t 18)]), (some 19), none⟩, ⟨(.indexAddr 1 (.t 17) (.t 19)), (some 20), none⟩, ⟨(.load none (.t 20)), (some 21), none⟩, ⟨(.bslice 1 [(.int .i64 0)] 1 [(0, (1, (.t 21)))]), (some 22), none⟩, ⟨(.append 1 8 (.t 16) (.t 22)), (some 23), none⟩, ⟨(.mov (.t 23)), (some 4), none⟩] false)) (.region [⟨(.mov (.t 5)), (some 14), none⟩, ⟨(.bin .add (.t 14) (.k (.int .i64 1))), (some 15), none⟩, ⟨(.mov (.t 15)), (some 5), none⟩] false)))
def m49 : MC := (.seq (.region [⟨(.alloc [(.int .i64 0), (.int .i64 0)]), (some 2), none⟩] false) (.seq (.region [⟨(.mov (.t 0)), (some 6), none⟩, ⟨(.len (.t 6)), (some 7), none⟩, ⟨(.bin .sub (.t 7) (.k (.int .i64 1))), (some 8), none⟩, ⟨.empt, (some 9), none⟩, ⟨(.mov (.t 8)), (some 3), none⟩, ⟨(.mov (.t 9)), (some 4), none⟩] false) (.seq (.seq (.region [⟨(.mov (.k (.int .i64 0))), (some 5), none⟩] false) (.block 0 (.loop m49_0))) (.seq (.region [⟨(.mov (.t 3)), (some 24), none⟩, ⟨(.mov (.t 4)), (some 25), none⟩, ⟨(.call 63 [(.t 24), (.t 25)]), (some 26), none⟩, ⟨(.store 2 (.t 2) (.t 26)), none, none⟩] false) .ret))))
theorem has49 : Has cx 49 27 m49 [(.cell 2 (some 2))] :=
  ⟨⟨Try.f49, Try.f49.body.getD .skip, by kernel_rfl, by kernel_rfl, by kernel_rfl, by kernel_rfl, by kernel_rfl, by kernel_rfl⟩⟩
theorem lp49_0 (n : Nat) (l : List Nat) (hn : n ≤ 4) (hl : l.length = n + 1) (o : Out) (ho : (match selm (fun _ => true) (lvG l) (R2 n) with | [] => (⟨.exit 0, [(2, .ptr 1 0), (3, .int .i64 (n : Nat)), (4, .emp)], [⟨ints l, 1, 0, some 0, false⟩, ⟨[.int .i64 0, .int .i64 0], 1, 1, some 0, true⟩]⟩ : Out) | x :: xs => ⟨.exit 0, [(2, .ptr 1 0), (3, .int .i64 (n : Nat)), (4, .sl 2 0 (x :: xs).length)], [⟨ints l, 1, 0, some 0, false⟩, ⟨[.int .i64 0, .int .i64 0], 1, 1, some 0, true⟩, ⟨ints (x :: xs), 1, 2, some 0, false⟩]⟩) = o) :
    LpS cx 27 1 m49_0 [(0, .sl 0 0 l.length), (2, .ptr 1 0), (3, .int .i64 (n : Nat)), (4, .emp), (5, .int .i64 (0 : Nat))] [⟨ints l, 1, 0, some 0, false⟩, ⟨[.int .i64 0, .int .i64 0], 1, 1, some 0, true⟩] o.x o.e o.h := by
  obtain ⟨h1, h2, h3, h4⟩ := shN hn
  subst ho
  refine lp_st (R2 n) (selm (fun _ => true) (lvG l)) (fun i s => match s with | [] => [(0, .sl 0 0 l.length), (2, .ptr 1 0), (3, .int .i64 (n : Nat)), (4, .emp), (5, .int .i64 (i : Nat))] | x :: xs => [(0, .sl 0 0 l.length), (2, .ptr 1 0), (3, .int .i64 (n : Nat)), (4, .sl 2 0 (x :: xs).length), (5, .int .i64 (i : Nat))]) (fun i s => match s with | [] => [⟨ints l, 1, 0, some 0, false⟩, ⟨[.int .i64 0, .int .i64 0], 1, 1, some 0, true⟩] | x :: xs => [⟨ints l, 1, 0, some 0, false⟩, ⟨[.int .i64 0, .int .i64 0], 1, 1, some 0, true⟩, ⟨ints (x :: xs), 1, 2, some 0, false⟩]) (fun s => match s with | [] => ⟨.exit 0, [(2, .ptr 1 0), (3, .int .i64 (n : Nat)), (4, .emp)], [⟨ints l, 1, 0, some 0, false⟩, ⟨[.int .i64 0, .int .i64 0], 1, 1, some 0, true⟩]⟩ | x :: xs => ⟨.exit 0, [(2, .ptr 1 0), (3, .int .i64 (n : Nat)), (4, .sl 2 0 (x :: xs).length)], [⟨ints l, 1, 0, some 0, false⟩, ⟨[.int .i64 0, .int .i64 0], 1, 1, some 0, true⟩, ⟨ints (x :: xs), 1, 2, some 0, false⟩]⟩) ?_ ?_ (R2 n) 0 (by omega)
  · intro i s hi hs
    have hlt : decide ((i : Int) < (R2 n : Nat)) = true := decide_eq_true (by omega)
    have hle : decide ((i : Int) ≤ (R2 n : Nat) - 1) = true := decide_eq_true (by omega)
    have hlen : s.length ≤ 16 := by have := selm_len (fun _ => true) (lvG l) i; rw [hs] at this; omega
    have hpn := pop_n hn hi
    have hp : (fun _ => true) i = true := rfl
    cases s with
    | nil =>
      refine ⟨[(lvG l) i], by rw [selm_t (p := fun _ => true) hp, hs]; try rfl, ?_⟩
      unfold m49_0
      repeat' (first
        | (refine g_op ?_; first
          | refine ep_mov rfl ?_ | refine ep_load1 rfl rfl rfl rfl ?_
          | refine ep_call0 rfl (by first | exact ev53 _ hn | exact ev54 i (by omega)) rfl rfl ?_
          | refine sp_call rfl rfl rfl rfl (by first | exact ev53 _ hn | exact ev54 i (by omega)) ⟨rfl, rfl, rfl, rfl⟩ rfl rfl rfl ?_
          | refine ep_bin rfl rfl (by first | exact b_add (by omega) (by omega) | exact b_lss) ?_ | refine sp_bslice rfl rfl rfl rfl rfl ?_ | refine sp_push0 rfl (by first | exact .inl rfl | exact .inr rfl) rfl rfl rfl rfl rfl (by decide) rfl rfl rfl ?_
          | refine sp_push rfl rfl rfl rfl rfl rfl rfl (by first | exact ints_len _ | exact prs_len _ _ | exact zints_len _) (by omega) (Nat.zero_le _) rfl rfl rfl rfl rfl ?_ | refine sp_idx rfl rfl rfl (by omega) rfl ?_
          | refine ep_loadS rfl rfl rfl (by first | exact ints_get (by omega) | exact zints_get (by omega) | exact fget (by omega) | assumption) ?_)
        | (refine g_ops ?_; first | refine eo_none ?_ | refine eo_nil ?_)
        | (refine g_code ?_; first | refine ec_seq ?_ | refine ec_region ?_ | refine ec_block ?_ | refine ec_skip ?_ | refine ec_exit ?_ | refine ec_condT rfl ?_ | refine ec_condF rfl ?_ | refine ec_condTH rfl (by assumption) ?_ | refine ec_condFH rfl (by assumption) ?_)
        | refine ek_seqN ?_ | refine ek_seqX ?_ | refine ek_blkN ?_ | refine ek_blkR ?_ | refine ek_blkX ?_ | refine ek_blkY rfl ?_)
      exact rnd_on (by rfl) (scmp2 (by rfl) (by rfl) (by exact ⟨rfl, rfl, rfl⟩) (by rfl) (by first | rfl | (simp; done) | (simp [ints, prs, lvG]; done)) (by rfl) (by first | rfl | (simp; done) | (simp [ints, prs, lvG]; done)))
    | cons x xs =>
      refine ⟨(x :: xs) ++ [(lvG l) i], by rw [selm_t (p := fun _ => true) hp, hs]; try rfl, ?_⟩
      unfold m49_0
      repeat' (first
        | (refine g_op ?_; first
          | refine ep_mov rfl ?_ | refine ep_load1 rfl rfl rfl rfl ?_
          | refine ep_call0 rfl (by first | exact ev53 _ hn | exact ev54 i (by omega)) rfl rfl ?_
          | refine sp_call rfl rfl rfl rfl (by first | exact ev53 _ hn | exact ev54 i (by omega)) ⟨rfl, rfl, rfl, rfl⟩ rfl rfl rfl ?_
          | refine ep_bin rfl rfl (by first | exact b_add (by omega) (by omega) | exact b_lss) ?_ | refine sp_bslice rfl rfl rfl rfl rfl ?_ | refine sp_push0 rfl (by first | exact .inl rfl | exact .inr rfl) rfl rfl rfl rfl rfl (by decide) rfl rfl rfl ?_
          | refine sp_push rfl rfl rfl rfl rfl rfl rfl (by first | exact ints_len _ | exact prs_len _ _ | exact zints_len _) (by omega) (Nat.zero_le _) rfl rfl rfl rfl rfl ?_ | refine sp_idx rfl rfl rfl (by omega) rfl ?_
          | refine ep_loadS rfl rfl rfl (by first | exact ints_get (by omega) | exact zints_get (by omega) | exact fget (by omega) | assumption) ?_)
        | (refine g_ops ?_; first | refine eo_none ?_ | refine eo_nil ?_)
        | (refine g_code ?_; first | refine ec_seq ?_ | refine ec_region ?_ | refine ec_block ?_ | refine ec_skip ?_ | refine ec_exit ?_ | refine ec_condT rfl ?_ | refine ec_condF rfl ?_ | refine ec_condTH rfl (by assumption) ?_ | refine ec_condFH rfl (by assumption) ?_)
        | refine ek_seqN ?_ | refine ek_seqX ?_ | refine ek_blkN ?_ | refine ek_blkR ?_ | refine ek_blkX ?_ | refine ek_blkY rfl ?_)
      exact rnd_on (by rfl) (scmp2 (by rfl) (by rfl) (by exact ⟨rfl, rfl, rfl⟩) (by rfl) (by first | rfl | (simp; done) | (simp [ints, prs, lvG]; done)) (by rfl) (by first | rfl | (simp; done) | (simp [ints, prs, lvG]; done)))
  · intro s hs
    have hlt : decide (((R2 n : Nat) : Int) < (R2 n : Nat)) = false := decide_eq_false (by omega)
    have hle : decide (((R2 n : Nat) : Int) ≤ (R2 n : Nat) - 1) = false := decide_eq_false (by omega)
    cases s with
    | nil =>
      unfold m49_0
      repeat' (first
        | (refine g_op ?_; first
          | refine ep_mov rfl ?_ | refine ep_load1 rfl rfl rfl rfl ?_
          | refine ep_call0 rfl (by first | exact ev53 _ hn) rfl rfl ?_
          | refine sp_call rfl rfl rfl rfl (by first | exact ev53 _ hn) ⟨rfl, rfl, rfl, rfl⟩ rfl rfl rfl ?_
          | refine ep_bin rfl rfl (by first | exact b_add (by omega) (by omega) | exact b_lss) ?_ | refine sp_bslice rfl rfl rfl rfl rfl ?_ | refine sp_push0 rfl (by first | exact .inl rfl | exact .inr rfl) rfl rfl rfl rfl rfl (by decide) rfl rfl rfl ?_
          | refine sp_push rfl rfl rfl rfl rfl rfl rfl (by first | exact ints_len _ | exact prs_len _ _ | exact zints_len _) (by omega) (Nat.zero_le _) rfl rfl rfl rfl rfl ?_ | refine sp_idx rfl rfl rfl (by omega) rfl ?_
          | refine ep_loadS rfl rfl rfl (by first | exact ints_get (by omega) | exact zints_get (by omega) | exact fget (by omega) | assumption) ?_)
        | (refine g_ops ?_; first | refine eo_none ?_ | refine eo_nil ?_)
        | (refine g_code ?_; first | refine ec_seq ?_ | refine ec_region ?_ | refine ec_block ?_ | refine ec_skip ?_ | refine ec_exit ?_ | refine ec_condT rfl ?_ | refine ec_condF rfl ?_ | refine ec_condTH rfl (by assumption) ?_ | refine ec_condFH rfl (by assumption) ?_)
        | refine ek_seqN ?_ | refine ek_seqX ?_ | refine ek_blkN ?_ | refine ek_blkR ?_ | refine ek_blkX ?_ | refine ek_blkY rfl ?_)
      exact rnd_out (by rfl) (by simp) (scmp2 (by rfl) (by rfl) (by exact ⟨rfl, rfl, rfl⟩) (by rfl) (by first | rfl | (simp; done) | (simp [ints, prs]; done)) (by rfl) (by first | rfl | (simp; done) | (simp [ints, prs]; done)))
    | cons x xs =>
      unfold m49_0
      repeat' (first
        | (refine g_op ?_; first
          | refine ep_mov rfl ?_ | refine ep_load1 rfl rfl rfl rfl ?_
          | refine ep_call0 rfl (by first | exact ev53 _ hn) rfl rfl ?_
          | refine sp_call rfl rfl rfl rfl (by first | exact ev53 _ hn) ⟨rfl, rfl, rfl, rfl⟩ rfl rfl rfl ?_
          | refine ep_bin rfl rfl (by first | exact b_add (by omega) (by omega) | exact b_lss) ?_ | refine sp_bslice rfl rfl rfl rfl rfl ?_ | refine sp_push0 rfl (by first | exact .inl rfl | exact .inr rfl) rfl rfl rfl rfl rfl (by decide) rfl rfl rfl ?_
          | refine sp_push rfl rfl rfl rfl rfl rfl rfl (by first | exact ints_len _ | exact prs_len _ _ | exact zints_len _) (by omega) (Nat.zero_le _) rfl rfl rfl rfl rfl ?_ | refine sp_idx rfl rfl rfl (by omega) rfl ?_
          | refine ep_loadS rfl rfl rfl (by first | exact ints_get (by omega) | exact zints_get (by omega) | exact fget (by omega) | assumption) ?_)
        | (refine g_ops ?_; first | refine eo_none ?_ | refine eo_nil ?_)
        | (refine g_code ?_; first | refine ec_seq ?_ | refine ec_region ?_ | refine ec_block ?_ | refine ec_skip ?_ | refine ec_exit ?_ | refine ec_condT rfl ?_ | refine ec_condF rfl ?_ | refine ec_condTH rfl (by assumption) ?_ | refine ec_condFH rfl (by assumption) ?_)
        | refine ek_seqN ?_ | refine ek_seqX ?_ | refine ek_blkN ?_ | refine ek_blkR ?_ | refine ek_blkX ?_ | refine ek_blkY rfl ?_)
      exact rnd_out (by rfl) (by simp) (scmp2 (by rfl) (by rfl) (by exact ⟨rfl, rfl, rfl⟩) (by rfl) (by first | rfl | (simp; done) | (simp [ints, prs]; done)) (by rfl) (by first | rfl | (simp; done) | (simp [ints, prs]; done)))

theorem ev49 (n : Nat) (l : List Nat) (hn : n ≤ 4) (hl : l.length = n + 1) (h01 : ∀ j, j < l.length → l.getD j 0 ≤ 1) : Ev cx 49 [.sl 0 0 l.length] [⟨ints l, 1, 0, some 0, false⟩] (.agg [.int .i64 n, .int .i64 (pk (lvG l) (R2 n) : Nat)]) [⟨ints l, 1, 0, some 0, false⟩] := by
  obtain ⟨k1, k2⟩ := selm_all (g := lvG l) (R2 n)
  have hpos := R2_pos n
  have e2 := fun p => ev63 n p (selm (fun _ => true) (lvG l) (R2 n)) hn (by omega) (fun r hr => by rw [k2 r hr]; exact h01 _ (by have := pop_n hn hr; omega))
  rw [show pk (fun r => (selm (fun _ => true) (lvG l) (R2 n)).getD r 0) (R2 n) = pk (lvG l) (R2 n) from pk_congr fun r hr => k2 r hr] at e2
  have hb : binV .sub (.int .i64 (l.length : Nat)) (.int .i64 1) = some (.int .i64 (n : Nat)) := by rw [hl]; exact b_sub1 (by omega) (by omega)
  cases hs : selm (fun _ => true) (lvG l) (R2 n) with
  | nil => rw [hs] at k1; simp at k1; omega
  | cons x xs =>
    rw [hs] at e2
    have lp := lp49_0 n l hn hl _ (by rw [hs])
    refine has49.eev rfl rfl ?_
    unfold m49
    repeat' (first
      | refine sc_loop lp rfl rfl ⟨rfl, rfl, rfl⟩ rfl rfl rfl ?_
      | (refine g_op ?_; first
        | refine ep_mov rfl ?_
        | refine ep_call0 rfl (by first | exact e2 _) rfl rfl ?_
        | refine sp_call rfl rfl rfl rfl (by first | exact e2 _) ⟨rfl, rfl, rfl, rfl⟩ rfl rfl rfl ?_
        | refine ep_bin rfl rfl (by first | exact hb | exact b_sub (by omega) (by omega)) ?_ | refine sp_store rfl rfl rfl rfl rfl rfl rfl rfl rfl rfl ?_ | refine ep_lenS rfl ?_ | refine ep_lenN rfl ?_
        | refine ep_lenE rfl ?_ | refine sp_alloc rfl rfl ?_ | refine ep_empt ?_)
      | (refine g_ops ?_; first | refine eo_none ?_ | refine eo_nil ?_)
      | (refine g_code ?_; first | refine ec_seq ?_ | refine ec_region ?_ | refine ec_block ?_ | refine ec_ret ?_)
      | refine ek_seqN ?_ | refine ek_seqX ?_ | refine ek_seqR ?_ | refine ek_blkN ?_ | refine ek_blkR ?_ | refine ek_blkX ?_ | refine ek_blkY rfl ?_)
    refine sfin (.inr rfl) (by rfl) (by rfl) (by exact ⟨rfl, rfl, rfl⟩) (by rfl) (by rfl) (by rfl) (by first | rfl | (simp; done) | (simp [ints, prs]; done))
-- spec.FuncOfLevels
def m22 : MC := (.seq (.region [⟨(.alloc [(.int .i64 0), (.int .i64 0)]), (some 2), none⟩, ⟨(.mov (.k (.int .i64 0))), (some 3), none⟩] false) (.seq (.seq (.region [⟨(.mov (.t 0)), (some 4), none⟩, ⟨(.len (.t 4)), (some 5), none⟩, ⟨(.call 43 [(.t 5), (.k (.int .i64 1)), (.k (.int .i64 5))]), (some 6), none⟩, ⟨(.un .not (.t 6)), (some 7), none⟩, ⟨(.mov (.t 7)), (some 8), none⟩, ⟨(.mov (.t 0)), (some 9), (some (8, false))⟩, ⟨(.call 58 [(.t 9)]), (some 10), (some (8, false))⟩, ⟨(.un .not (.t 10)), (some 11), (some (8, false))⟩, ⟨(.pick (.t 8) (.k (.bool true)) (.t 11)), (some 12), none⟩] false) (.cond (.t 12) (.seq (.region [⟨(.build [(.int .i64 0), (.int .i64 0)] []), (some 13), none⟩, ⟨(.store 2 (.t 2) (.t 13)), none, none⟩, ⟨(.mov (.k (.int .i64 2))), (some 3), none⟩] false) .ret) .skip)) (.seq (.region [⟨(.mov (.t 0)), (some 14), none⟩, ⟨(.call 49 [(.t 14)]), (some 15), none⟩, ⟨(.store 2 (.t 2) (.t 15)), none, none⟩, ⟨(.mov (.k (.int .i64 0))), (some 3), none⟩] false) .ret)))
theorem has22 : Has cx 22 16 m22 [(.cell 2 (some 2)), (.tmp 3)] :=
  ⟨⟨Try.f22, Try.f22.body.getD .skip, by kernel_rfl, by kernel_rfl, by kernel_rfl, by kernel_rfl, by kernel_rfl, by kernel_rfl⟩⟩
theorem ev22 (c : List Int) (hlen : c.length ≤ 1048576) : Ev cx 22 [.sl 0 0 c.length] [⟨zints c, 1, 0, some 0, false⟩] (rr (folR c)) [⟨zints c, 1, 0, some 0, false⟩] := by
  have e1 := ev43 (c.length : Nat) 1 5
  by_cases h1 : 1 ≤ c.length ∧ c.length ≤ 5
  · rw [decide_eq_true (by omega)] at e1
    have e2 := ev58 c hlen
    cases h3 : digs c
    · rw [h3] at e2
      refine has22.eev rfl rfl ?_
      unfold m22
      repeat' (first
        | (refine g_op ?_; first
          | refine ep_mov rfl ?_
          | refine ep_call0 rfl (by first | exact e1 | exact e2) rfl rfl ?_
          | refine sp_call rfl rfl rfl rfl (by first | exact e1 | exact e2) ⟨rfl, rfl, rfl, rfl⟩ rfl rfl rfl ?_
          | refine ep_pickT rfl rfl ?_ | refine ep_pickF rfl rfl ?_ | refine ep_pickTH rfl (by assumption) rfl ?_ | refine ep_pickFH rfl (by assumption) rfl ?_ | refine sp_store rfl rfl rfl rfl rfl rfl rfl rfl rfl rfl ?_
          | refine ep_not rfl ?_ | refine ep_lenS rfl ?_ | refine ep_lenN rfl ?_ | refine ep_lenE rfl ?_ | refine sp_alloc rfl rfl ?_ | refine sp_build rfl rfl ?_)
        | (refine g_ops ?_; first | refine eo_none ?_ | refine eo_nil ?_ | refine eo_yes rfl ?_ | refine eo_no rfl ?_ | refine eo_und rfl ?_ | refine eo_yesH rfl (by assumption) ?_ | refine eo_noH rfl (by assumption) ?_)
        | (refine g_code ?_; first | refine ec_seq ?_ | refine ec_region ?_ | refine ec_skip ?_ | refine ec_ret ?_ | refine ec_condT rfl ?_ | refine ec_condF rfl ?_ | refine ec_condTH rfl (by assumption) ?_ | refine ec_condFH rfl (by assumption) ?_)
        | refine ek_seqN ?_ | refine ek_seqR ?_)
      refine sfin (.inr rfl) (by rfl) (by rfl) (by exact ⟨rfl, rfl, rfl⟩) (by rfl) (by rfl) (by rw [folR, if_neg (fun h => by rw [h3] at h; simp at h)]) (by first | rfl | (simp; done) | (simp [ints, prs]; done))
    · rw [h3] at e2
      obtain ⟨k1, k2⟩ := digs_nat h3
      have e3 := ev49 (c.length - 1) (c.map Int.toNat) (by omega) (by simp; omega) k2
      rw [← k1, List.length_map] at e3
      refine has22.eev rfl rfl ?_
      unfold m22
      repeat' (first
        | (refine g_op ?_; first
          | refine ep_mov rfl ?_
          | refine ep_call0 rfl (by first | exact e1 | exact e2 | exact e3) rfl rfl ?_
          | refine sp_call rfl rfl rfl rfl (by first | exact e1 | exact e2 | exact e3) ⟨rfl, rfl, rfl, rfl⟩ rfl rfl rfl ?_
          | refine ep_pickT rfl rfl ?_ | refine ep_pickF rfl rfl ?_ | refine ep_pickTH rfl (by assumption) rfl ?_ | refine ep_pickFH rfl (by assumption) rfl ?_ | refine sp_store rfl rfl rfl rfl rfl rfl rfl rfl rfl rfl ?_
          | refine ep_not rfl ?_ | refine ep_lenS rfl ?_ | refine ep_lenN rfl ?_ | refine ep_lenE rfl ?_ | refine sp_alloc rfl rfl ?_ | refine sp_build rfl rfl ?_)
        | (refine g_ops ?_; first | refine eo_none ?_ | refine eo_nil ?_ | refine eo_yes rfl ?_ | refine eo_no rfl ?_ | refine eo_und rfl ?_ | refine eo_yesH rfl (by assumption) ?_ | refine eo_noH rfl (by assumption) ?_)
        | (refine g_code ?_; first | refine ec_seq ?_ | refine ec_region ?_ | refine ec_skip ?_ | refine ec_ret ?_ | refine ec_condT rfl ?_ | refine ec_condF rfl ?_ | refine ec_condTH rfl (by assumption) ?_ | refine ec_condFH rfl (by assumption) ?_)
        | refine ek_seqN ?_ | refine ek_seqR ?_)
      refine sfin (.inr rfl) (by rfl) (by rfl) (by exact ⟨rfl, rfl, rfl⟩) (by rfl) (by rfl) (by rw [folR, if_pos ⟨h1, h3⟩]; try rfl) (by first | rfl | (simp; done) | (simp [ints, prs]; done))
  · rw [decide_eq_false (by omega)] at e1
    refine has22.eev rfl rfl ?_
    unfold m22
    repeat' (first
      | (refine g_op ?_; first
        | refine ep_mov rfl ?_
        | refine ep_call0 rfl (by first | exact e1) rfl rfl ?_
        | refine sp_call rfl rfl rfl rfl (by first | exact e1) ⟨rfl, rfl, rfl, rfl⟩ rfl rfl rfl ?_
        | refine ep_pickT rfl rfl ?_ | refine ep_pickF rfl rfl ?_ | refine ep_pickTH rfl (by assumption) rfl ?_ | refine ep_pickFH rfl (by assumption) rfl ?_ | refine sp_store rfl rfl rfl rfl rfl rfl rfl rfl rfl rfl ?_
        | refine ep_not rfl ?_ | refine ep_lenS rfl ?_ | refine ep_lenN rfl ?_ | refine ep_lenE rfl ?_ | refine sp_alloc rfl rfl ?_ | refine sp_build rfl rfl ?_)
      | (refine g_ops ?_; first | refine eo_none ?_ | refine eo_nil ?_ | refine eo_yes rfl ?_ | refine eo_no rfl ?_ | refine eo_und rfl ?_ | refine eo_yesH rfl (by assumption) ?_ | refine eo_noH rfl (by assumption) ?_)
      | (refine g_code ?_; first | refine ec_seq ?_ | refine ec_region ?_ | refine ec_skip ?_ | refine ec_ret ?_ | refine ec_condT rfl ?_ | refine ec_condF rfl ?_ | refine ec_condTH rfl (by assumption) ?_ | refine ec_condFH rfl (by assumption) ?_)
      | refine ek_seqN ?_ | refine ek_seqR ?_)
    refine sfin (.inr rfl) (by rfl) (by rfl) (by exact ⟨rfl, rfl, rfl⟩) (by rfl) (by rfl) (by rw [folR, if_neg (fun h => h1 h.1)]) (by first | rfl | (simp; done) | (simp [ints, prs]; done))
-- slices.Clone[[]int64,int64]
def m84 : MC := (.seq (.region [⟨(.mov (.k .nils)), (some 2), none⟩] false) (.seq (.seq (.region [⟨(.mov (.t 0)), (some 3), none⟩, ⟨(.isnil false (.t 3)), (some 4), none⟩] false) (.cond (.t 4) (.seq (.region [⟨(.mov (.k .nils)), (some 2), none⟩] false) .ret) .skip)) (.seq (.region [⟨.empt, (some 5), none⟩, ⟨(.mov (.t 0)), (some 6), none⟩, ⟨(.append 1 8 (.t 5) (.t 6)), (some 7), none⟩, ⟨(.mov (.t 7)), (some 2), none⟩] false) .ret)))
theorem has84 : Has cx 84 8 m84 [(.tmp 2)] :=
  ⟨⟨Try.f84, Try.f84.body.getD .skip, by kernel_rfl, by kernel_rfl, by kernel_rfl, by kernel_rfl, by kernel_rfl, by kernel_rfl⟩⟩
theorem zints_set {D : List Int} {b : Nat} {d : Int} (h : b < D.length) : (zints D).take (0 + b * 1) ++ [V.int .i64 d] ++ (zints D).drop (0 + b * 1 + 1) = zints (D.set b d) := by
  simp only [zints, Nat.mul_one, Nat.zero_add]
  rw [List.set_eq_take_append_cons_drop, if_pos h]
  simp
-- math/bits.Mul32
def m89 : MC := (.seq (.region [⟨(.mov (.k (.int .u32 0))), (some 4), none⟩, ⟨(.mov (.k (.int .u32 0))), (some 5), none⟩] false) (.seq (.region [⟨(.mov (.t 0)), (some 7), none⟩, ⟨(.conv .u64 (.t 7)), (some 8), none⟩, ⟨(.mov (.t 1)), (some 9), none⟩, ⟨(.conv .u64 (.t 9)), (some 10), none⟩, ⟨(.bin .mul (.t 8) (.t 10)), (some 11), none⟩, ⟨(.mov (.t 11)), (some 6), none⟩] false) (.seq (.region [⟨(.mov (.t 6)), (some 12), none⟩, ⟨(.bin .shr (.t 12) (.k (.int .u64 32))), (some 13), none⟩, ⟨(.conv .u32 (.t 13)), (some 14), none⟩, ⟨(.mov (.t 6)), (some 15), none⟩, ⟨(.conv .u32 (.t 15)), (some 16), none⟩, ⟨(.mov (.t 14)), (some 4), none⟩, ⟨(.mov (.t 16)), (some 5), none⟩] false) .ret)))
theorem has89 : Has cx 89 17 m89 [(.tmp 4), (.tmp 5)] :=
  ⟨⟨Try.f89, Try.f89.body.getD .skip, by kernel_rfl, by kernel_rfl, by kernel_rfl, by kernel_rfl, by kernel_rfl, by kernel_rfl⟩⟩

-- math/bits.Mul64
def m90 : MC := (.seq (.region [⟨(.mov (.k (.int .u64 0))), (some 4), none⟩, ⟨(.mov (.k (.int .u64 0))), (some 5), none⟩] false) (.seq (.region [⟨(.mov (.t 0)), (some 14), none⟩, ⟨(.bin .and (.t 14) (.k (.int .u64 4294967295))), (some 15), none⟩, ⟨(.mov (.t 15)), (some 6), none⟩] false) (.seq (.region [⟨(.mov (.t 0)), (some 16), none⟩, ⟨(.bin .shr (.t 16) (.k (.int .u64 32))), (some 17), none⟩, ⟨(.mov (.t 17)), (some 7), none⟩] false) (.seq (.region [⟨(.mov (.t 1)), (some 18), none⟩, ⟨(.bin .and (.t 18) (.k (.int .u64 4294967295))), (some 19), none⟩, ⟨(.mov (.t 19)), (some 8), none⟩] false) (.seq (.region [⟨(.mov (.t 1)), (some 20), none⟩, ⟨(.bin .shr (.t 20) (.k (.int .u64 32))), (some 21), none⟩, ⟨(.mov (.t 21)), (some 9), none⟩] false) (.seq (.region [⟨(.mov (.t 6)), (some 22), none⟩, ⟨(.mov (.t 8)), (some 23), none⟩, ⟨(.bin .mul (.t 22) (.t 23)), (some 24), none⟩, ⟨(.mov (.t 24)), (some 10), none⟩] false) (.seq (.region [⟨(.mov (.t 7)), (some 25), none⟩, ⟨(.mov (.t 8)), (some 26), none⟩, ⟨(.bin .mul (.t 25) (.t 26)), (some 27), none⟩, ⟨(.mov (.t 10)), (some 28), none⟩, ⟨(.bin .shr (.t 28) (.k (.int .u64 32))), (some 29), none⟩, ⟨(.bin .add (.t 27) (.t 29)), (some 30), none⟩, ⟨(.mov (.t 30)), (some 11), none⟩] false) (.seq (.region [⟨(.mov (.t 11)), (some 31), none⟩, ⟨(.bin .and (.t 31) (.k (.int .u64 4294967295))), (some 32), none⟩, ⟨(.mov (.t 32)), (some 12), none⟩] false) (.seq (.region [⟨(.mov (.t 11)), (some 33), none⟩, ⟨(.bin .shr (.t 33) (.k (.int .u64 32))), (some 34), none⟩, ⟨(.mov (.t 34)), (some 13), none⟩] false) (.seq (.region [⟨(.mov (.t 12)), (some 35), none⟩, ⟨(.mov (.t 6)), (some 36), none⟩, ⟨(.mov (.t 9)), (some 37), none⟩, ⟨(.bin .mul (.t 36) (.t 37)), (some 38), none⟩, ⟨(.bin .add (.t 35) (.t 38)), (some 39), none⟩, ⟨(.mov (.t 39)), (some 12), none⟩] false) (.seq (.region [⟨(.mov (.t 7)), (some 40), none⟩, ⟨(.mov (.t 9)), (some 41), none⟩, ⟨(.bin .mul (.t 40) (.t 41)), (some 42), none⟩, ⟨(.mov (.t 13)), (some 43), none⟩, ⟨(.bin .add (.t 42) (.t 43)), (some 44), none⟩, ⟨(.mov (.t 12)), (some 45), none⟩, ⟨(.bin .shr (.t 45) (.k (.int .u64 32))), (some 46), none⟩, ⟨(.bin .add (.t 44) (.t 46)), (some 47), none⟩, ⟨(.mov (.t 47)), (some 4), none⟩] false) (.seq (.region [⟨(.mov (.t 0)), (some 48), none⟩, ⟨(.mov (.t 1)), (some 49), none⟩, ⟨(.bin .mul (.t 48) (.t 49)), (some 50), none⟩, ⟨(.mov (.t 50)), (some 5), none⟩] false) .ret))))))))))))
theorem has90 : Has cx 90 51 m90 [(.tmp 4), (.tmp 5)] :=
  ⟨⟨Try.f90, Try.f90.body.getD .skip, by kernel_rfl, by kernel_rfl, by kernel_rfl, by kernel_rfl, by kernel_rfl, by kernel_rfl⟩⟩
theorem ev90 (y : Nat) (hy : y < 4294967296) : Ev cx 90 [.int .u64 1, .int .u64 y] [] (.tup [.int .u64 0, .int .u64 y]) [] := by
  have m1 : y &&& 4294967295 = y := by
    rw [show (4294967295 : Nat) = 2 ^ 32 - 1 from rfl, Nat.and_two_pow_sub_one_eq_mod, Nat.mod_eq_of_lt hy]
  have s1 : y >>> 32 = 0 := by rw [Nat.shiftRight_eq_div_pow]; exact Nat.div_eq_of_lt (by simpa using hy)
  have b1 : binV .and (.int .u64 1) (.int .u64 4294967295) = some (.int .u64 1) := by simp only [binV, ne_eq, not_true, if_false]; rfl
  have b2 : binV .shr (.int .u64 1) (.int .u64 32) = some (.int .u64 0) := by simp only [binV]; rw [if_neg (by omega)]; rfl
  have b3 : binV .and (.int .u64 (y : Nat)) (.int .u64 4294967295) = some (.int .u64 (y : Nat)) := by
    have := b_andU (x := y) (y := 4294967295) (by omega) (by omega)
    rw [m1] at this; exact this
  have b4 : binV .shr (.int .u64 (y : Nat)) (.int .u64 32) = some (.int .u64 0) := by
    have := b_shrU (k' := .u64) (x := y) (y := 32) (by omega)
    rw [s1] at this; exact this
  have b5 : binV .mul (.int .u64 1) (.int .u64 (y : Nat)) = some (.int .u64 (y : Nat)) := by
    simp only [binV, ne_eq, not_true, if_false]; rw [w_u64 (by omega) (by omega), Int.one_mul]
  have b6 : binV .mul (.int .u64 0) (.int .u64 (y : Nat)) = some (.int .u64 0) := by
    simp only [binV, ne_eq, not_true, if_false]; rw [Int.zero_mul]; rfl
  have b7 : binV .add (.int .u64 0) (.int .u64 0) = some (.int .u64 0) := by simp only [binV, ne_eq, not_true, if_false]; rfl
  have b8 : binV .and (.int .u64 0) (.int .u64 4294967295) = some (.int .u64 0) := by simp only [binV, ne_eq, not_true, if_false]; rfl
  have b9 : binV .shr (.int .u64 0) (.int .u64 32) = some (.int .u64 0) := by simp only [binV]; rw [if_neg (by omega)]; rfl
  have b10 : binV .mul (.int .u64 1) (.int .u64 0) = some (.int .u64 0) := by simp only [binV, ne_eq, not_true, if_false]; rfl
  have b11 : binV .mul (.int .u64 0) (.int .u64 0) = some (.int .u64 0) := by simp only [binV, ne_eq, not_true, if_false]; rfl
  refine has90.eev rfl rfl ?_
  unfold m90
  repeat' (first
    | (refine g_op ?_; first
      | refine ep_mov rfl ?_
      | refine ep_bin rfl rfl (by first | exact b1 | exact b2 | exact b3 | exact b4 | exact b5 | exact b6 | exact b7 | exact b8 | exact b9 | exact b10 | exact b11 | exact b_add (by omega) (by omega) | exact b_and (by omega) (by omega) | exact b_shr (by omega)) ?_)
    | (refine g_ops ?_; first | refine eo_none ?_ | refine eo_nil ?_)
    | (refine g_code ?_; first | refine ec_seq ?_ | refine ec_region ?_ | refine ec_ret ?_)
    | refine ek_seqN ?_ | refine ek_seqR ?_)
  refine sfin (.inr rfl) (by rfl) (by rfl) (by exact ⟨rfl, rfl, rfl⟩) (by rfl) (by rfl) (by rfl) (by first | rfl | (simp; done) | (simp [ints, prs]; done))
-- math/bits.Mul
def m88 : MC := (.seq (.region [⟨(.mov (.k (.int .u64 0))), (some 4), none⟩, ⟨(.mov (.k (.int .u64 0))), (some 5), none⟩] false) (.seq (.cond (.k (.bool false)) (.seq (.region [⟨(.mov (.t 0)), (some 11), none⟩, ⟨(.conv .u32 (.t 11)), (some 12), none⟩, ⟨(.mov (.t 1)), (some 13), none⟩, ⟨(.conv .u32 (.t 13)), (some 14), none⟩, ⟨(.call 89 [(.t 12), (.t 14)]), (some 15), none⟩, ⟨(.mov (.t 15)), (some 10), none⟩, ⟨(.extract (.t 10) 0), (some 16), none⟩, ⟨(.extract (.t 10) 1), (some 17), none⟩, ⟨(.mov (.t 16)), (some 6), none⟩, ⟨(.mov (.t 17)), (some 7), none⟩] false) (.seq (.region [⟨(.mov (.t 6)), (some 18), none⟩, ⟨(.conv .u64 (.t 18)), (some 19), none⟩, ⟨(.mov (.t 7)), (some 20), none⟩, ⟨(.conv .u64 (.t 20)), (some 21), none⟩, ⟨(.mov (.t 19)), (some 4), none⟩, ⟨(.mov (.t 21)), (some 5), none⟩] false) .ret)) .skip) (.seq (.region [⟨(.mov (.t 0)), (some 23), none⟩, ⟨(.mov (.t 1)), (some 24), none⟩, ⟨(.call 90 [(.t 23), (.t 24)]), (some 25), none⟩, ⟨(.mov (.t 25)), (some 22), none⟩, ⟨(.extract (.t 22) 0), (some 26), none⟩, ⟨(.extract (.t 22) 1), (some 27), none⟩, ⟨(.mov (.t 26)), (some 8), none⟩, ⟨(.mov (.t 27)), (some 9), none⟩] false) (.seq (.region [⟨(.mov (.t 8)), (some 28), none⟩, ⟨(.mov (.t 9)), (some 29), none⟩, ⟨(.mov (.t 28)), (some 4), none⟩, ⟨(.mov (.t 29)), (some 5), none⟩] false) .ret))))
theorem has88 : Has cx 88 30 m88 [(.tmp 4), (.tmp 5)] :=
  ⟨⟨Try.f88, Try.f88.body.getD .skip, by kernel_rfl, by kernel_rfl, by kernel_rfl, by kernel_rfl, by kernel_rfl, by kernel_rfl⟩⟩
theorem ev88 (y : Nat) (hy : y < 4294967296) : Ev cx 88 [.int .u64 1, .int .u64 y] [] (.tup [.int .u64 0, .int .u64 y]) [] := by
  have e := ev90 y hy
  refine has88.eev rfl rfl ?_
  unfold m88
  repeat' (first
    | (refine g_op ?_; first
      | refine ep_mov rfl ?_
      | refine ep_call0 rfl (by first | exact e) rfl rfl ?_
      | refine sp_call rfl rfl rfl rfl (by first | exact e) ⟨rfl, rfl, rfl, rfl⟩ rfl rfl rfl ?_
      | refine ep_extract rfl rfl ?_ | refine ep_conv rfl (by first | exact w_u64 (by omega) (by omega) | exact wrap_id (by omega) (by omega) | rfl) ?_)
    | (refine g_ops ?_; first | refine eo_none ?_ | refine eo_nil ?_)
    | (refine g_code ?_; first | refine ec_seq ?_ | refine ec_region ?_ | refine ec_skip ?_ | refine ec_ret ?_ | refine ec_condT rfl ?_ | refine ec_condF rfl ?_ | refine ec_condTH rfl (by assumption) ?_ | refine ec_condFH rfl (by assumption) ?_)
    | refine ek_seqN ?_ | refine ek_seqR ?_)
  refine sfin (.inr rfl) (by rfl) (by rfl) (by exact ⟨rfl, rfl, rfl⟩) (by rfl) (by rfl) (by rfl) (by first | rfl | (simp; done) | (simp [ints, prs]; done))
theorem zrep_flat (k : Nat) : zints (List.replicate k 0) = (List.replicate k [V.int .i64 0]).flatten := by
  induction k with
  | zero => rfl
  | succ k ih => rw [List.replicate_succ, List.replicate_succ, List.flatten_cons, ← ih]; rfl
-- slices.Repeat[[]int64,int64]
def m82_0 : MC := (.seq (.seq (.region [⟨(.mov (.t 8)), (some 34), none⟩, ⟨(.mov (.t 7)), (some 35), none⟩, ⟨(.len (.t 35)), (some 36), none⟩, ⟨(.bin .lss (.t 34) (.t 36)), (some 37), none⟩] false) (.cond (.t 37) .skip (.exit 0))) (.block 1 (.region [⟨(.mov (.t 8)), (some 38), none⟩, ⟨(.mov (.t 7)), (some 39), none⟩, ⟨(.mov (.t 8)), (some 40), none⟩, ⟨(.slice 1 (.t 39) (some (.t 40)) none), (some 41), none⟩, ⟨(.mov (.t 7)), (some 42), none⟩, ⟨(.mov (.t 8)), (some 43), none⟩, ⟨(.slice 1 (.t 42) none (some (.t 43))), (some 44), none⟩, ⟨(.copy 1 (.t 41) (.t 44)), (some 45), none⟩, ⟨(.bin .add (.t 38) (.t 45)), (some 46), none⟩, ⟨(.mov (.t 46)), (some 8), none⟩] true)))
def m82 : MC := (.seq (.region [⟨(.mov (.k .nils)), (some 4), none⟩] false) (.seq (.seq (.region [⟨(.mov (.t 1)), (some 9), none⟩, ⟨(.bin .lss (.t 9) (.k (.int .i64 0))), (some 10), none⟩] false) (.cond (.t 10) (.region [⟨.bad, (some 11), none⟩, ⟨.bad, none, none⟩] false) .skip)) (.seq (.region [⟨(.mov (.t 0)), (some 13), none⟩, ⟨(.len (.t 13)), (some 14), none⟩, ⟨(.conv .u64 (.t 14)), (some 15), none⟩, ⟨(.mov (.t 1)), (some 16), none⟩, ⟨(.conv .u64 (.t 16)), (some 17), none⟩, ⟨(.call 88 [(.t 15), (.t 17)]), (some 18), none⟩, ⟨(.mov (.t 18)), (some 12), none⟩, ⟨(.extract (.t 12) 0), (some 19), none⟩, ⟨(.extract (.t 12) 1), (some 20), none⟩, ⟨(.mov (.t 19)), (some 5), none⟩, ⟨(.mov (.t 20)), (some 6), none⟩] false) (.seq (.seq (.region [⟨(.mov (.t 5)), (some 21), none⟩, ⟨(.bin .gtr (.t 21) (.k (.int .u64 0))), (some 22), none⟩, ⟨(.mov (.t 22)), (some 23), none⟩, ⟨(.mov (.t 6)), (some 24), (some (23, false))⟩, ⟨(.bin .gtr (.t 24) (.k (.int .u64 9223372036854775807))), (some 25), (some (23, false))⟩, ⟨(.pick (.t 23) (.k (.bool true)) (.t 25)), (some 26), none⟩] false) (.cond (.t 26) (.region [⟨.bad, (some 27), none⟩, ⟨.bad, none, none⟩] false) .skip)) (.seq (.region [⟨(.mov (.t 6)), (some 28), none⟩, ⟨(.conv .i64 (.t 28)), (some 29), none⟩, ⟨(.make 1 8 [(.int .i64 0)] (.t 29)), (some 30), none⟩, ⟨(.mov (.t 30)), (some 7), none⟩] false) (.seq (.region [⟨(.mov (.t 7)), (some 31), none⟩, ⟨(.mov (.t 0)), (some 32), none⟩, ⟨(.copy 1 (.t 31) (.t 32)), (some 33), none⟩, ⟨(.mov (.t 33)), (some 8), none⟩] false) (.seq (.block 0 (.loop m82_0)) (.seq (.region [⟨(.mov (.t 7)), (some 47), none⟩, ⟨(.mov (.t 47)), (some 4), none⟩] false) .ret))))))))
theorem has82 : Has cx 82 48 m82 [(.tmp 4)] :=
  ⟨⟨Try.f82, Try.f82.body.getD .skip, by kernel_rfl, by kernel_rfl, by kernel_rfl, by kernel_rfl, by kernel_rfl, by kernel_rfl⟩⟩
-- spec.l01Projection
def m75_0 : MC := (.seq (.seq (.region [⟨(.mov (.t 6)), (some 8), none⟩, ⟨(.mov (.t 0)), (some 9), none⟩, ⟨(.call 53 [(.t 9)]), (some 10), none⟩, ⟨(.bin .lss (.t 8) (.t 10)), (some 11), none⟩] false) (.cond (.t 11) .skip (.exit 0))) (.seq (.block 1 (.region [⟨(.mov (.t 5)), (some 14), none⟩, ⟨(.mov (.t 6)), (some 15), none⟩, ⟨(.mov (.t 1)), (some 16), none⟩, ⟨(.conv .u64 (.t 16)), (some 17), none⟩, ⟨(.bin .shr (.t 15) (.t 17)), (some 18), none⟩, ⟨(.bin .and (.t 18) (.k (.int .i64 1))), (some 19), none⟩, ⟨(.bslice 1 [(.int .i64 0)] 1 [(0, (1, (.t 19)))]), (some 20), none⟩, ⟨(.append 1 8 (.t 14) (.t 20)), (some 21), none⟩, ⟨(.mov (.t 21)), (some 5), none⟩] false)) (.region [⟨(.mov (.t 6)), (some 12), none⟩, ⟨(.bin .add (.t 12) (.k (.int .i64 1))), (some 13), none⟩, ⟨(.mov (.t 13)), (some 6), none⟩] false)))
def m75 : MC := (.seq (.region [⟨(.alloc [(.int .i64 0), (.int .i64 0)]), (some 4), none⟩] false) (.seq (.region [⟨.empt, (some 7), none⟩, ⟨(.mov (.t 7)), (some 5), none⟩] false) (.seq (.seq (.region [⟨(.mov (.k (.int .i64 0))), (some 6), none⟩] false) (.block 0 (.loop m75_0))) (.seq (.region [⟨(.mov (.t 0)), (some 22), none⟩, ⟨(.mov (.t 5)), (some 23), none⟩, ⟨(.call 63 [(.t 22), (.t 23)]), (some 24), none⟩, ⟨(.store 2 (.t 4) (.t 24)), none, none⟩] false) .ret))))
theorem has75 : Has cx 75 25 m75 [(.cell 4 (some 2))] :=
  ⟨⟨Try.f75, Try.f75.body.getD .skip, by kernel_rfl, by kernel_rfl, by kernel_rfl, by kernel_rfl, by kernel_rfl, by kernel_rfl⟩⟩
def a3 (fs : List (Int × Int)) : Bool := allF (fun j => !decide ((fs.getD j (0, 0)).1 > 2)) 0 fs.length
def rpG (m : Nat) (v : Int) (q : Nat) : List Int := List.replicate q v ++ List.replicate (m - q) 0
theorem rpG_1 (m : Nat) (v : Int) (hm : 1 ≤ m) : (zints (List.replicate m 0)).take 0 ++ [V.int .i64 v].take (1 * 1) ++ (zints (List.replicate m 0)).drop (0 + 1 * 1) = zints (rpG m v 1) := by
  rw [rpG]; simp [zints]
theorem rpG_row {m : Nat} {v : Int} {q : Nat} : ((zints (rpG m v q)).drop 0).take (q * 1) = zints (List.replicate q v) := by
  rw [rpG]; simp [zints]
theorem rpG_s {m : Nat} {v : Int} {q k : Nat} (hk : k ≤ q) (hm : q + k ≤ m) : (zints (rpG m v q)).take q ++ (zints (List.replicate q v)).take (k * 1) ++ (zints (rpG m v q)).drop (q + k * 1) = zints (rpG m v (q + k)) := by
  rw [rpG, rpG]
  simp only [zints, List.map_append, List.map_replicate, Nat.mul_one]
  rw [List.take_left' (by simp), List.drop_append, List.drop_eq_nil_of_le (by simp)]
  simp only [List.take_replicate, List.length_replicate, List.drop_replicate, List.nil_append]
  rw [List.replicate_append_replicate, Nat.min_eq_left hk, show q + k - q = k by omega]
  try rw [show m - q - k = m - (q + k) by omega]
theorem rpG_len {m : Nat} {v : Int} {q : Nat} (hq : q ≤ m) : (zints (rpG m v q)).length = m := by
  rw [zints_len, rpG]; simp; omega
theorem lprpG (m K : Nat) (v : Int) (hm : m ≤ 65536) (hm1 : 1 ≤ m) (h1 : m ≤ R2 K) (h2 : ∀ i, i < K → R2 i < m) :
    LpS cx 48 1 m82_0 [(7, .sl 1 0 m), (8, .int .i64 (min (R2 (0)) m : Nat))] [⟨[.int .i64 v], 1, 0, some 0, true⟩, ⟨zints (rpG m v (min (R2 (0)) m)), 1, 1, some 0, false⟩] (⟨.exit 0, [(7, .sl 1 0 m)], [⟨[.int .i64 v], 1, 0, some 0, true⟩, ⟨zints (rpG m v (min (R2 (K)) m)), 1, 1, some 0, false⟩]⟩ : Out).x (⟨.exit 0, [(7, .sl 1 0 m)], [⟨[.int .i64 v], 1, 0, some 0, true⟩, ⟨zints (rpG m v (min (R2 (K)) m)), 1, 1, some 0, false⟩]⟩ : Out).e (⟨.exit 0, [(7, .sl 1 0 m)], [⟨[.int .i64 v], 1, 0, some 0, true⟩, ⟨zints (rpG m v (min (R2 (K)) m)), 1, 1, some 0, false⟩]⟩ : Out).h := by
  refine lp_st (K) (fun _ => ()) (fun i _ => [(7, .sl 1 0 m), (8, .int .i64 (min (R2 (i)) m : Nat))]) (fun i _ => [⟨[.int .i64 v], 1, 0, some 0, true⟩, ⟨zints (rpG m v (min (R2 (i)) m)), 1, 1, some 0, false⟩]) (fun _ => (⟨.exit 0, [(7, .sl 1 0 m)], [⟨[.int .i64 v], 1, 0, some 0, true⟩, ⟨zints (rpG m v (min (R2 (K)) m)), 1, 1, some 0, false⟩]⟩ : Out)) ?_ ?_ (K) 0 (by omega)
  · intro i u_ hi hu_
    refine ⟨(), rfl, ?_⟩
    have hlt : decide ((i : Int) < (K : Nat)) = true := decide_eq_true (by omega)
    have g1 := R2_succ i
    have g2 := h2 i hi
    have g3 := R2_pos i
    have hs : min (R2 (i + 1)) m = min (R2 i) m + min (min (R2 i) m) (m - min (R2 i) m) := by omega
    rw [hs]
    have hq1 : 1 ≤ min (R2 i) m := by omega
    have hq2 : min (R2 i) m < m := by omega
    generalize min (R2 i) m = q at *
    have hq : decide (((q : Nat) : Int) < (m : Nat)) = true := decide_eq_true (by omega)
    have hadd := b_addN (a := q) (b := min q (m - q)) (by omega)
    have hl := rpG_len (m := m) (v := v) (q := q) (by omega)
    have hset := rpG_s (m := m) (v := v) (q := q) (k := min q (m - q)) (by omega) (by omega)
    have hrow : rowOf [⟨[.int .i64 v], 1, 0, some 0, true⟩, ⟨zints (rpG m v q), 1, 1, some 0, false⟩] 1 (.sl 1 0 q) = some (zints (List.replicate q v), q) := by
      simp only [rowOf, List.getElem?_cons_succ, List.getElem?_cons_zero]; rw [rpG_row]
    unfold m82_0
    repeat' (first
      | refine ep_slice (p := (q : Nat)) (q := (m : Nat)) (o' := q) (n' := m - q) rfl rfl rfl (.inr ⟨_, rfl⟩) (.inl ⟨rfl, rfl⟩) ⟨by omega, by omega, by omega, by simp, by omega⟩ rfl rfl ?_
      | refine ep_slice (p := 0) (q := (q : Nat)) (o' := 0) (n' := q) rfl rfl rfl (.inl ⟨rfl, rfl⟩) (.inr ⟨_, rfl⟩) ⟨by omega, by omega, by omega, rfl, by omega⟩ rfl rfl ?_
      | refine sp_copy (k := min q (m - q)) rfl rfl hrow rfl ⟨_, rfl, .inl rfl⟩ (Nat.zero_le _) (by simp [zints]) (by omega) (by omega) hset rfl ?_
      | (refine g_op ?_; first
        | refine ep_mov rfl ?_
        | refine ep_bin rfl rfl (by first | exact hadd | exact b_add (by omega) (by omega) | exact b_lss) ?_ | refine ep_lenS rfl ?_ | refine ep_lenN rfl ?_ | refine ep_lenE rfl ?_)
      | (refine g_ops ?_; first | refine eo_none ?_ | refine eo_nil ?_)
      | (refine g_dops ?_; first | refine ed_none ?_ | refine ed_nil ?_)
      | refine ed_same rfl ?_ | refine ed_one rfl rfl rfl rfl ?_ | refine ed_two rfl rfl rfl rfl rfl rfl rfl ?_ | refine ed_write rfl rfl ?_
      | (refine g_code ?_; first | refine ec_seq ?_ | refine ec_region ?_ | refine ec_draw ?_ | refine ec_block ?_ | refine ec_skip ?_ | refine ec_exit ?_ | refine ec_condT rfl ?_ | refine ec_condF rfl ?_ | refine ec_condTH rfl (by assumption) ?_ | refine ec_condFH rfl (by assumption) ?_)
      | refine ek_seqN ?_ | refine ek_seqX ?_ | refine ek_blkN ?_ | refine ek_blkR ?_ | refine ek_blkX ?_ | refine ek_blkY rfl ?_)
    exact rnd_on (by rfl) (scmp2 (by rfl) (by rfl) (by exact ⟨rfl, rfl, rfl⟩) (by rfl) (by first | rfl | (simp; done) | (simp [ints, prs]; done)) (by rfl) (by first | rfl | (simp; done) | (simp [ints, prs]; done)))
  · intro u_ hu_
    have hlt : decide (((K : Nat) : Int) < (K : Nat)) = false := decide_eq_false (by omega)
    have hkm : min (R2 K) m = m := by omega
    rw [hkm]
    have hq : decide (((m : Nat) : Int) < (m : Nat)) = false := decide_eq_false (by omega)
    unfold m82_0
    repeat' (first
      | (refine g_op ?_; first
        | refine ep_mov rfl ?_
        | refine ep_bin rfl rfl (by first | exact b_add (by omega) (by omega) | exact b_lss) ?_ | refine ep_lenS rfl ?_ | refine ep_lenN rfl ?_ | refine ep_lenE rfl ?_)
      | (refine g_ops ?_; first | refine eo_none ?_ | refine eo_nil ?_)
      | (refine g_dops ?_; first | refine ed_none ?_ | refine ed_nil ?_)
      | refine ed_same rfl ?_ | refine ed_one rfl rfl rfl rfl ?_ | refine ed_two rfl rfl rfl rfl rfl rfl rfl ?_ | refine ed_write rfl rfl ?_
      | (refine g_code ?_; first | refine ec_seq ?_ | refine ec_region ?_ | refine ec_draw ?_ | refine ec_block ?_ | refine ec_skip ?_ | refine ec_exit ?_ | refine ec_condT rfl ?_ | refine ec_condF rfl ?_ | refine ec_condTH rfl (by assumption) ?_ | refine ec_condFH rfl (by assumption) ?_)
      | refine ek_seqN ?_ | refine ek_seqX ?_ | refine ek_blkN ?_ | refine ek_blkR ?_ | refine ek_blkX ?_ | refine ek_blkY rfl ?_)
    exact rnd_out (by rfl) (by simp) (scmp2 (by rfl) (by rfl) (by exact ⟨rfl, rfl, rfl⟩) (by rfl) (by first | rfl | (simp; done) | (simp [ints, prs]; done)) (by rfl) (by first | rfl | (simp; done) | (simp [ints, prs]; done)))

theorem evrepG (m K : Nat) (v : Int) (hm : m ≤ 65536) (hm1 : 1 ≤ m) (h1 : m ≤ R2 K) (h2 : ∀ i, i < K → R2 i < m) : Ev cx 82 [.sl 0 0 1, .int .i64 (m : Nat)] [⟨[.int .i64 v], 1, 0, some 0, true⟩] (.sl 1 0 m) [⟨[.int .i64 v], 1, 0, some 0, true⟩, ⟨zints (List.replicate m v), 1, 1, some 0, false⟩] := by
  have lp := lprpG m K v hm hm1 h1 h2
  rw [show min (R2 K) m = m by omega, show min (R2 0) m = 1 by { have h00 : R2 0 = 1 := (by unfold R2; rfl); omega }, show rpG m v m = List.replicate m v by rw [rpG, Nat.sub_self]; simp] at lp
  have e := ev88 m (by omega)
  have hq : decide (((m : Nat) : Int) < 0) = false := decide_eq_false (by omega)
  have hq1 : decide (((m : Nat) : Int) > 9223372036854775807) = false := decide_eq_false (by omega)
  have hz := zrep_flat m
  have hl : (zints (List.replicate m 0)).length = m := by rw [zints_len]; simp
  have hset := rpG_1 m v hm1
  refine has82.eev rfl rfl ?_
  unfold m82
  repeat' (first
    | refine sc_loop lp rfl rfl ⟨rfl, rfl, rfl⟩ rfl rfl rfl ?_
    | refine sp_make (mm := m) (l := zints (List.replicate m 0)) rfl rfl (by omega) hz rfl rfl ?_
    | refine sp_copy (k := 1) (l2 := [.int .i64 v]) rfl rfl rfl rfl ⟨_, rfl, .inr rfl⟩ (Nat.zero_le _) rfl (by omega) (by omega) hset rfl ?_
    | (refine g_op ?_; first
      | refine ep_mov rfl ?_
      | refine ep_call0 rfl (by first | exact e) rfl rfl ?_
      | refine sp_call rfl rfl rfl rfl (by first | exact e) ⟨rfl, rfl, rfl, rfl⟩ rfl rfl rfl ?_
      | refine ep_bin rfl rfl (by first | exact b_lss | exact b_gtr) ?_ | refine ep_pickT rfl rfl ?_ | refine ep_pickF rfl rfl ?_ | refine ep_pickTH rfl (by assumption) rfl ?_ | refine ep_pickFH rfl (by assumption) rfl ?_
      | refine ep_extract rfl rfl ?_ | refine ep_conv rfl (by first | exact w_u64 (by omega) (by omega) | exact wrap_id (by omega) (by omega) | rfl) ?_ | refine ep_lenS rfl ?_ | refine ep_lenN rfl ?_
      | refine ep_lenE rfl ?_)
    | (refine g_ops ?_; first | refine eo_none ?_ | refine eo_nil ?_ | refine eo_yes rfl ?_ | refine eo_no rfl ?_ | refine eo_und rfl ?_ | refine eo_yesH rfl (by assumption) ?_ | refine eo_noH rfl (by assumption) ?_)
    | (refine g_code ?_; first | refine ec_seq ?_ | refine ec_region ?_ | refine ec_block ?_ | refine ec_skip ?_ | refine ec_ret ?_ | refine ec_condT rfl ?_ | refine ec_condF rfl ?_ | refine ec_condTH rfl (by assumption) ?_ | refine ec_condFH rfl (by assumption) ?_)
    | refine ek_seqN ?_ | refine ek_seqX ?_ | refine ek_seqR ?_ | refine ek_blkN ?_ | refine ek_blkR ?_ | refine ek_blkX ?_ | refine ek_blkY rfl ?_)
  refine sfin (.inr rfl) (by rfl) (by rfl) (by exact ⟨rfl, rfl, rfl⟩) (by rfl) (by rfl) (by rfl) (by first | rfl | (simp; done) | (simp [ints, prs]; done))
theorem evrep5 (m : Nat) (v : Int) (hm : m ≤ 5) (hm1 : 1 ≤ m) : Ev cx 82 [.sl 0 0 1, .int .i64 (m : Nat)] [⟨[.int .i64 v], 1, 0, some 0, true⟩] (.sl 1 0 m) [⟨[.int .i64 v], 1, 0, some 0, true⟩, ⟨zints (List.replicate m v), 1, 1, some 0, false⟩] := by
  have r0 : R2 0 = 1 := by unfold R2; rfl
  have r1 : R2 1 = 2 := by unfold R2; rfl
  have r2 : R2 2 = 4 := by unfold R2; rfl
  have r3 : R2 3 = 8 := by unfold R2; rfl
  by_cases h1 : m = 1
  · exact evrepG m 0 v (by omega) hm1 (by omega) (fun i hi => by omega)
  · by_cases h2 : m = 2
    · exact evrepG m 1 v (by omega) hm1 (by omega) (fun i hi => by have h00 : i = 0 := (by omega); rw [h00]; omega)
    · by_cases h4 : m ≤ 4
      · exact evrepG m 2 v (by omega) hm1 (by omega) (fun i hi => by rcases (show i = 0 ∨ i = 1 by omega) with rfl | rfl <;> omega)
      · exact evrepG m 3 v (by omega) hm1 (by omega) (fun i hi => by rcases (show i = 0 ∨ i = 1 ∨ i = 2 by omega) with rfl | rfl | rfl <;> omega)
def levL (n b i : Nat) : List Int := (List.range (n + 1)).map fun k => if R2 k - 1 < i then ((bt b (R2 k - 1) : Nat) : Int) else -1
def lvH (b k : Nat) : Nat := bt b (R2 k - 1)
def lvP (b i : Nat) : Bool := bt b i == bt b (R2 (pop i 16) - 1)
theorem lvF : ∀ i, i < 16 → R2 (pop i 16) - 1 ≤ i ∧ ∀ k, k < 5 → R2 k - 1 = i → pop i 16 = k := by decide +kernel
theorem levL_len (n b i : Nat) : (levL n b i).length = n + 1 := by simp [levL]
theorem levL_at {n b i k : Nat} (hk : k ≤ n) : (levL n b i).getD k 0 = if R2 k - 1 < i then ((bt b (R2 k - 1) : Nat) : Int) else -1 := by
  rw [List.getD_eq_getElem?_getD, levL, List.getElem?_map, List.getElem?_range (by omega)]; rfl
theorem pop_nn {i n : Nat} (hn : n ≤ 4) (hi : i < R2 n) : pop i 16 ≤ n := by rw [pop_ge hi 16 (by omega)]; exact pop_le i n
theorem levL_s {n b i : Nat} (hn : n ≤ 4) (hi : i < R2 n) (hp : lvP b i = true) : (levL n b i).set (pop i 16) ((bt b i : Nat) : Int) = levL n b (i + 1) := by
  have h16 := (shN hn).1
  obtain ⟨f1, f2⟩ := lvF i (by omega)
  have hpn := pop_nn hn hi
  have hp' : bt b i = bt b (R2 (pop i 16) - 1) := by simpa [lvP] using hp
  apply List.ext_getElem?
  intro k
  rw [List.getElem?_set, levL_len, levL, levL, List.getElem?_map, List.getElem?_map]
  by_cases hk : k < n + 1
  · rw [List.getElem?_range hk]
    by_cases e : pop i 16 = k
    · rw [if_pos e, if_pos (by omega)]
      simp only [Option.map_some]
      rw [if_pos (by rw [← e]; omega), hp', e]
    · rw [if_neg e]
      simp only [Option.map_some]
      have : R2 k - 1 ≠ i := fun h => e (f2 k (by omega) h)
      by_cases h1 : R2 k - 1 < i
      · rw [if_pos h1, if_pos (by omega)]
      · rw [if_neg h1, if_neg (by omega)]
  · have h0 : (List.range (n + 1))[k]? = none := by simp; omega
    rw [h0, if_neg (by omega)]; rfl
theorem levL_0 (n b : Nat) : levL n b 0 = List.replicate (n + 1) (-1) := by
  apply List.ext_getElem?
  intro k
  rw [levL, List.getElem?_map, List.getElem?_replicate]
  by_cases hk : k < n + 1
  · rw [List.getElem?_range hk, if_pos hk]; simp
  · rw [if_neg hk, show (List.range (n + 1))[k]? = none by simp; omega]; rfl
theorem levL_n {n b : Nat} : zints (levL n b (R2 n)) = ints (selm (fun _ => true) (lvH b) (n + 1)) := by
  have sa := selm_all (g := lvH b) (n + 1)
  have hz : levL n b (R2 n) = (selm (fun _ => true) (lvH b) (n + 1)).map fun x : Nat => (x : Int) := by
    apply List.ext_getElem?
    intro k
    rw [levL, List.getElem?_map, List.getElem?_map]
    by_cases hk : k < n + 1
    · have h2 := sa.2 k hk
      rw [List.getD_eq_getElem?_getD, List.getElem?_eq_getElem (by omega)] at h2
      rw [List.getElem?_range hk, List.getElem?_eq_getElem (by omega)]
      simp only [Option.map_some, Option.getD_some] at h2 ⊢
      have := R2_mono (i := k) (n := n) (by omega)
      have := R2_pos k
      rw [if_pos (by omega), h2]; rfl
    · rw [show (List.range (n + 1))[k]? = none by simp; omega, List.getElem?_eq_none (by omega)]; rfl
  rw [hz]; simp [zints, ints]

end Go.Proofs.Ytlhhbhmobllafaa
