/- What each function that the statement reaches returns. -/
import Derived.Test.YtgidgffcnamnaaaMiD
import Derived.Test.YtgidgffcnamnaaaChecked
import Derived.KernelRfl
set_option linter.unusedVariables false
set_option linter.unusedSimpArgs false
set_option maxRecDepth 100000
set_option maxHeartbeats 4000000
namespace Go.Proofs.Ytgidgffcnamnaaa
open Go Go.Proofs.Ytgidgffcnamnaaa.Mi
noncomputable def cx : Cx := ⟨Try.prog, id, id, by kernel_rfl⟩
attribute [local irreducible] code opsK opsDK gopK opK seqK blockK callK
def R2 (n : Nat) : Nat := 2 ^ n
theorem shR (n : Nat) : 1 <<< n = R2 n := by simp [R2, Nat.shiftLeft_eq]
theorem shN {n : Nat} (h : n ≤ 4) : R2 n ≤ 16 ∧ R2 (R2 n) ≤ 65536 ∧ 1 ≤ R2 n ∧ 1 ≤ R2 (R2 n) := by
  have : n = 0 ∨ n = 1 ∨ n = 2 ∨ n = 3 ∨ n = 4 := by omega
  rcases this with rfl | rfl | rfl | rfl | rfl <;> decide
theorem b_shl1 {k' : IntKind} {y : Nat} (h : R2 y < 9223372036854775808) (hy : y ≤ 64) : binV .shl (.int .i64 1) (.int k' y) = some (.int .i64 (R2 y : Nat)) := by
  rw [← shR]; exact b_shl (x := 1) (by rw [shR]; exact h) hy
attribute [local irreducible] R2
def isRel (p t : Int) : Bool := decide (1 ≤ p ∧ p ≤ 4) && decide (0 ≤ t ∧ t ≤ (R2 (R2 p.toNat) : Nat) - 1)
def isFn (p t : Int) : Bool := decide (0 ≤ p ∧ p ≤ 4) && decide (0 ≤ t ∧ t ≤ (R2 (R2 p.toNat) : Nat) - 1)
-- loop.example/g01323/impl.within
def m66 : MC := (.seq (.region [⟨(.mov (.k (.bool false))), (some 6), none⟩] false) (.seq (.region [⟨(.mov (.t 0)), (some 7), none⟩, ⟨(.mov (.t 1)), (some 8), none⟩, ⟨(.bin .geq (.t 7) (.t 8)), (some 9), none⟩, ⟨(.mov (.t 9)), (some 10), none⟩, ⟨(.mov (.t 0)), (some 11), (some (10, true))⟩, ⟨(.mov (.t 2)), (some 12), (some (10, true))⟩, ⟨(.bin .leq (.t 11) (.t 12)), (some 13), (some (10, true))⟩, ⟨(.pick (.t 10) (.t 13) (.k (.bool false))), (some 14), none⟩, ⟨(.mov (.t 14)), (some 6), none⟩] false) .ret))
theorem has66 : Has cx 66 15 m66 [(.tmp 6)] :=
  ⟨⟨Try.f66, Try.f66.body.getD .skip, by kernel_rfl, by kernel_rfl, by kernel_rfl, by kernel_rfl, by kernel_rfl, by kernel_rfl⟩⟩
theorem ev66 (z lo hi : Int) : Ev cx 66 [.int .i64 z, .int .i64 lo, .int .i64 hi] [] (.bool (decide (lo ≤ z ∧ z ≤ hi))) [] := by
  by_cases h1 : lo ≤ z
  · have h2 : decide (z ≥ lo) = true := decide_eq_true h1
    refine has66.eev rfl rfl ?_
    unfold m66
    repeat' (first
      | (refine g_op ?_; first
        | refine ep_mov rfl ?_ | refine ep_load1 rfl rfl rfl rfl ?_ | refine ep_fieldAddr rfl ?_ | refine sp_loadN rfl rfl rfl rfl rfl ?_
        | refine ep_bin rfl rfl (by first | exact b_add (by omega) (by omega) | exact b_sub (by omega) (by omega) | exact b_and (by omega) (by omega) | exact b_or (by omega) (by omega) | exact b_shr (by omega) | exact b_shl (by omega) (by omega) | rfl) ?_
        | refine ep_pickT rfl rfl ?_ | refine ep_pickF rfl rfl ?_ | refine ep_pickTH rfl (by assumption) rfl ?_ | refine ep_pickFH rfl (by assumption) rfl ?_
        | refine ep_extract rfl rfl ?_ | refine sp_store rfl rfl rfl rfl rfl rfl rfl rfl rfl rfl ?_ | refine ep_conv rfl (by first | exact w_u64 (by omega) (by omega) | exact wrap_id (by omega) (by omega) | rfl) ?_
        | refine ep_not rfl ?_ | refine ep_lenS rfl ?_ | refine ep_lenN rfl ?_ | refine ep_lenE rfl ?_
        | refine sp_box rfl rfl rfl rfl rfl ?_ | refine sp_alloc rfl rfl ?_ | refine sp_build rfl rfl ?_ | refine sp_bslice rfl rfl rfl rfl rfl ?_ | refine ep_empt ?_
        | refine ep_field1 rfl rfl ?_ | refine sp_fieldN rfl rfl rfl ?_ | refine ep_mkfn rfl ?_ | refine ep_nilckP rfl ?_ | refine ep_nilckF rfl ?_
        | refine ep_eqb0 rfl rfl ?_ | refine ep_eqb1 rfl rfl ?_ | refine ep_eqa0 rfl rfl ?_ | refine ep_eqa1 rfl rfl ?_)
      | (refine g_ops ?_; first | refine eo_none ?_ | refine eo_nil ?_ | refine eo_yes rfl ?_ | refine eo_no rfl ?_ | refine eo_und rfl ?_ | refine eo_yesH rfl (by assumption) ?_ | refine eo_noH rfl (by assumption) ?_)
      | (refine g_dops ?_; first | refine ed_none ?_ | refine ed_nil ?_ | refine ed_yes rfl ?_ | refine ed_no rfl ?_ | refine ed_und rfl ?_ | refine ed_yesH rfl (by assumption) ?_ | refine ed_noH rfl (by assumption) ?_)
      | refine ed_same rfl ?_ | refine ed_one rfl rfl rfl rfl ?_ | refine ed_write rfl rfl ?_
      | (refine g_code ?_; first
        | refine ec_seq ?_ | refine ec_region ?_ | refine ec_draw ?_ | refine ec_block ?_ | refine ec_skip ?_ | refine ec_exit ?_ | refine ec_ret ?_
        | refine ec_condT rfl ?_ | refine ec_condF rfl ?_ | refine ec_condTH rfl (by assumption) ?_ | refine ec_condFH rfl (by assumption) ?_)
      | refine ek_seqN ?_ | refine ek_seqX ?_ | refine ek_seqR ?_ | refine ek_blkN ?_ | refine ek_blkR ?_ | refine ek_blkX ?_ | refine ek_blkY rfl ?_)
    refine sfin (.inr rfl) (by rfl) (by rfl) (by exact ⟨rfl, rfl, rfl⟩) (by rfl) (by rfl) (by exact congrArg V.bool (by simp [h1])) (by rfl)
  · have h2 : decide (z ≥ lo) = false := decide_eq_false h1
    refine has66.eev rfl rfl ?_
    unfold m66
    repeat' (first
      | (refine g_op ?_; first
        | refine ep_mov rfl ?_ | refine ep_load1 rfl rfl rfl rfl ?_ | refine ep_fieldAddr rfl ?_ | refine sp_loadN rfl rfl rfl rfl rfl ?_
        | refine ep_bin rfl rfl (by first | exact b_add (by omega) (by omega) | exact b_sub (by omega) (by omega) | exact b_and (by omega) (by omega) | exact b_or (by omega) (by omega) | exact b_shr (by omega) | exact b_shl (by omega) (by omega) | rfl) ?_
        | refine ep_pickT rfl rfl ?_ | refine ep_pickF rfl rfl ?_ | refine ep_pickTH rfl (by assumption) rfl ?_ | refine ep_pickFH rfl (by assumption) rfl ?_
        | refine ep_extract rfl rfl ?_ | refine sp_store rfl rfl rfl rfl rfl rfl rfl rfl rfl rfl ?_ | refine ep_conv rfl (by first | exact w_u64 (by omega) (by omega) | exact wrap_id (by omega) (by omega) | rfl) ?_
        | refine ep_not rfl ?_ | refine ep_lenS rfl ?_ | refine ep_lenN rfl ?_ | refine ep_lenE rfl ?_
        | refine sp_box rfl rfl rfl rfl rfl ?_ | refine sp_alloc rfl rfl ?_ | refine sp_build rfl rfl ?_ | refine sp_bslice rfl rfl rfl rfl rfl ?_ | refine ep_empt ?_
        | refine ep_field1 rfl rfl ?_ | refine sp_fieldN rfl rfl rfl ?_ | refine ep_mkfn rfl ?_ | refine ep_nilckP rfl ?_ | refine ep_nilckF rfl ?_
        | refine ep_eqb0 rfl rfl ?_ | refine ep_eqb1 rfl rfl ?_ | refine ep_eqa0 rfl rfl ?_ | refine ep_eqa1 rfl rfl ?_)
      | (refine g_ops ?_; first | refine eo_none ?_ | refine eo_nil ?_ | refine eo_yes rfl ?_ | refine eo_no rfl ?_ | refine eo_und rfl ?_ | refine eo_yesH rfl (by assumption) ?_ | refine eo_noH rfl (by assumption) ?_)
      | (refine g_dops ?_; first | refine ed_none ?_ | refine ed_nil ?_ | refine ed_yes rfl ?_ | refine ed_no rfl ?_ | refine ed_und rfl ?_ | refine ed_yesH rfl (by assumption) ?_ | refine ed_noH rfl (by assumption) ?_)
      | refine ed_same rfl ?_ | refine ed_one rfl rfl rfl rfl ?_ | refine ed_write rfl rfl ?_
      | (refine g_code ?_; first
        | refine ec_seq ?_ | refine ec_region ?_ | refine ec_draw ?_ | refine ec_block ?_ | refine ec_skip ?_ | refine ec_exit ?_ | refine ec_ret ?_
        | refine ec_condT rfl ?_ | refine ec_condF rfl ?_ | refine ec_condTH rfl (by assumption) ?_ | refine ec_condFH rfl (by assumption) ?_)
      | refine ek_seqN ?_ | refine ek_seqX ?_ | refine ek_seqR ?_ | refine ek_blkN ?_ | refine ek_blkR ?_ | refine ek_blkX ?_ | refine ek_blkY rfl ?_)
    refine sfin (.inr rfl) (by rfl) (by rfl) (by exact ⟨rfl, rfl, rfl⟩) (by rfl) (by rfl) (by exact congrArg V.bool (by simp [h1])) (by rfl)
-- loop.example/g01323/spec.l01In
def m72 : MC := (.seq (.region [⟨(.mov (.k (.bool false))), (some 6), none⟩] false) (.seq (.region [⟨(.mov (.t 0)), (some 7), none⟩, ⟨(.mov (.t 1)), (some 8), none⟩, ⟨(.bin .geq (.t 7) (.t 8)), (some 9), none⟩, ⟨(.mov (.t 9)), (some 10), none⟩, ⟨(.mov (.t 0)), (some 11), (some (10, true))⟩, ⟨(.mov (.t 2)), (some 12), (some (10, true))⟩, ⟨(.bin .leq (.t 11) (.t 12)), (some 13), (some (10, true))⟩, ⟨(.pick (.t 10) (.t 13) (.k (.bool false))), (some 14), none⟩, ⟨(.mov (.t 14)), (some 6), none⟩] false) .ret))
theorem has72 : Has cx 72 15 m72 [(.tmp 6)] :=
  ⟨⟨Try.f72, Try.f72.body.getD .skip, by kernel_rfl, by kernel_rfl, by kernel_rfl, by kernel_rfl, by kernel_rfl, by kernel_rfl⟩⟩
theorem ev72 (z lo hi : Int) : Ev cx 72 [.int .i64 z, .int .i64 lo, .int .i64 hi] [] (.bool (decide (lo ≤ z ∧ z ≤ hi))) [] := by
  by_cases h1 : lo ≤ z
  · have h2 : decide (z ≥ lo) = true := decide_eq_true h1
    refine has72.eev rfl rfl ?_
    unfold m72
    repeat' (first
      | (refine g_op ?_; first
        | refine ep_mov rfl ?_ | refine ep_load1 rfl rfl rfl rfl ?_ | refine ep_fieldAddr rfl ?_ | refine sp_loadN rfl rfl rfl rfl rfl ?_
        | refine ep_bin rfl rfl (by first | exact b_add (by omega) (by omega) | exact b_sub (by omega) (by omega) | exact b_and (by omega) (by omega) | exact b_or (by omega) (by omega) | exact b_shr (by omega) | exact b_shl (by omega) (by omega) | rfl) ?_
        | refine ep_pickT rfl rfl ?_ | refine ep_pickF rfl rfl ?_ | refine ep_pickTH rfl (by assumption) rfl ?_ | refine ep_pickFH rfl (by assumption) rfl ?_
        | refine ep_extract rfl rfl ?_ | refine sp_store rfl rfl rfl rfl rfl rfl rfl rfl rfl rfl ?_ | refine ep_conv rfl (by first | exact w_u64 (by omega) (by omega) | exact wrap_id (by omega) (by omega) | rfl) ?_
        | refine ep_not rfl ?_ | refine ep_lenS rfl ?_ | refine ep_lenN rfl ?_ | refine ep_lenE rfl ?_
        | refine sp_box rfl rfl rfl rfl rfl ?_ | refine sp_alloc rfl rfl ?_ | refine sp_build rfl rfl ?_ | refine sp_bslice rfl rfl rfl rfl rfl ?_ | refine ep_empt ?_
        | refine ep_field1 rfl rfl ?_ | refine sp_fieldN rfl rfl rfl ?_ | refine ep_mkfn rfl ?_ | refine ep_nilckP rfl ?_ | refine ep_nilckF rfl ?_
        | refine ep_eqb0 rfl rfl ?_ | refine ep_eqb1 rfl rfl ?_ | refine ep_eqa0 rfl rfl ?_ | refine ep_eqa1 rfl rfl ?_)
      | (refine g_ops ?_; first | refine eo_none ?_ | refine eo_nil ?_ | refine eo_yes rfl ?_ | refine eo_no rfl ?_ | refine eo_und rfl ?_ | refine eo_yesH rfl (by assumption) ?_ | refine eo_noH rfl (by assumption) ?_)
      | (refine g_dops ?_; first | refine ed_none ?_ | refine ed_nil ?_ | refine ed_yes rfl ?_ | refine ed_no rfl ?_ | refine ed_und rfl ?_ | refine ed_yesH rfl (by assumption) ?_ | refine ed_noH rfl (by assumption) ?_)
      | refine ed_same rfl ?_ | refine ed_one rfl rfl rfl rfl ?_ | refine ed_write rfl rfl ?_
      | (refine g_code ?_; first
        | refine ec_seq ?_ | refine ec_region ?_ | refine ec_draw ?_ | refine ec_block ?_ | refine ec_skip ?_ | refine ec_exit ?_ | refine ec_ret ?_
        | refine ec_condT rfl ?_ | refine ec_condF rfl ?_ | refine ec_condTH rfl (by assumption) ?_ | refine ec_condFH rfl (by assumption) ?_)
      | refine ek_seqN ?_ | refine ek_seqX ?_ | refine ek_seqR ?_ | refine ek_blkN ?_ | refine ek_blkR ?_ | refine ek_blkX ?_ | refine ek_blkY rfl ?_)
    refine sfin (.inr rfl) (by rfl) (by rfl) (by exact ⟨rfl, rfl, rfl⟩) (by rfl) (by rfl) (by exact congrArg V.bool (by simp [h1])) (by rfl)
  · have h2 : decide (z ≥ lo) = false := decide_eq_false h1
    refine has72.eev rfl rfl ?_
    unfold m72
    repeat' (first
      | (refine g_op ?_; first
        | refine ep_mov rfl ?_ | refine ep_load1 rfl rfl rfl rfl ?_ | refine ep_fieldAddr rfl ?_ | refine sp_loadN rfl rfl rfl rfl rfl ?_
        | refine ep_bin rfl rfl (by first | exact b_add (by omega) (by omega) | exact b_sub (by omega) (by omega) | exact b_and (by omega) (by omega) | exact b_or (by omega) (by omega) | exact b_shr (by omega) | exact b_shl (by omega) (by omega) | rfl) ?_
        | refine ep_pickT rfl rfl ?_ | refine ep_pickF rfl rfl ?_ | refine ep_pickTH rfl (by assumption) rfl ?_ | refine ep_pickFH rfl (by assumption) rfl ?_
        | refine ep_extract rfl rfl ?_ | refine sp_store rfl rfl rfl rfl rfl rfl rfl rfl rfl rfl ?_ | refine ep_conv rfl (by first | exact w_u64 (by omega) (by omega) | exact wrap_id (by omega) (by omega) | rfl) ?_
        | refine ep_not rfl ?_ | refine ep_lenS rfl ?_ | refine ep_lenN rfl ?_ | refine ep_lenE rfl ?_
        | refine sp_box rfl rfl rfl rfl rfl ?_ | refine sp_alloc rfl rfl ?_ | refine sp_build rfl rfl ?_ | refine sp_bslice rfl rfl rfl rfl rfl ?_ | refine ep_empt ?_
        | refine ep_field1 rfl rfl ?_ | refine sp_fieldN rfl rfl rfl ?_ | refine ep_mkfn rfl ?_ | refine ep_nilckP rfl ?_ | refine ep_nilckF rfl ?_
        | refine ep_eqb0 rfl rfl ?_ | refine ep_eqb1 rfl rfl ?_ | refine ep_eqa0 rfl rfl ?_ | refine ep_eqa1 rfl rfl ?_)
      | (refine g_ops ?_; first | refine eo_none ?_ | refine eo_nil ?_ | refine eo_yes rfl ?_ | refine eo_no rfl ?_ | refine eo_und rfl ?_ | refine eo_yesH rfl (by assumption) ?_ | refine eo_noH rfl (by assumption) ?_)
      | (refine g_dops ?_; first | refine ed_none ?_ | refine ed_nil ?_ | refine ed_yes rfl ?_ | refine ed_no rfl ?_ | refine ed_und rfl ?_ | refine ed_yesH rfl (by assumption) ?_ | refine ed_noH rfl (by assumption) ?_)
      | refine ed_same rfl ?_ | refine ed_one rfl rfl rfl rfl ?_ | refine ed_write rfl rfl ?_
      | (refine g_code ?_; first
        | refine ec_seq ?_ | refine ec_region ?_ | refine ec_draw ?_ | refine ec_block ?_ | refine ec_skip ?_ | refine ec_exit ?_ | refine ec_ret ?_
        | refine ec_condT rfl ?_ | refine ec_condF rfl ?_ | refine ec_condTH rfl (by assumption) ?_ | refine ec_condFH rfl (by assumption) ?_)
      | refine ek_seqN ?_ | refine ek_seqX ?_ | refine ek_seqR ?_ | refine ek_blkN ?_ | refine ek_blkR ?_ | refine ek_blkX ?_ | refine ek_blkY rfl ?_)
    refine sfin (.inr rfl) (by rfl) (by rfl) (by exact ⟨rfl, rfl, rfl⟩) (by rfl) (by rfl) (by exact congrArg V.bool (by simp [h1])) (by rfl)
-- loop.example/g01323/impl.rowsOf
def m81 : MC := (.seq (.region [⟨(.mov (.k (.int .i64 0))), (some 2), none⟩] false) (.seq (.region [⟨(.mov (.t 0)), (some 3), none⟩, ⟨(.bin .shl (.k (.int .i64 1)) (.t 3)), (some 4), none⟩, ⟨(.mov (.t 4)), (some 2), none⟩] false) .ret))
theorem has81 : Has cx 81 5 m81 [(.tmp 2)] :=
  ⟨⟨Try.f81, Try.f81.body.getD .skip, by kernel_rfl, by kernel_rfl, by kernel_rfl, by kernel_rfl, by kernel_rfl, by kernel_rfl⟩⟩
theorem ev81 (n : Nat) (h : n ≤ 4) : Ev cx 81 [.int .i64 n] [] (.int .i64 (R2 n : Nat)) [] := by
  obtain ⟨h1, h2, h3, h4⟩ := shN h
  refine has81.eev rfl rfl ?_
  unfold m81
  repeat' (first
    | (refine g_op ?_; first
      | refine ep_mov rfl ?_ | refine ep_load1 rfl rfl rfl rfl ?_ | refine ep_fieldAddr rfl ?_ | refine sp_loadN rfl rfl rfl rfl rfl ?_
      | refine ep_bin rfl rfl (by first | exact b_shl1 (by omega) (by omega) | exact b_add (by omega) (by omega) | exact b_sub (by omega) (by omega) | exact b_and (by omega) (by omega) | exact b_or (by omega) (by omega) | exact b_shr (by omega) | exact b_shl (by omega) (by omega) | rfl) ?_
      | refine ep_pickT rfl rfl ?_ | refine ep_pickF rfl rfl ?_ | refine ep_pickTH rfl (by assumption) rfl ?_ | refine ep_pickFH rfl (by assumption) rfl ?_
      | refine ep_extract rfl rfl ?_ | refine sp_store rfl rfl rfl rfl rfl rfl rfl rfl rfl rfl ?_ | refine ep_conv rfl (by first | exact w_u64 (by omega) (by omega) | exact wrap_id (by omega) (by omega) | rfl) ?_
      | refine ep_not rfl ?_ | refine ep_lenS rfl ?_ | refine ep_lenN rfl ?_ | refine ep_lenE rfl ?_
      | refine sp_box rfl rfl rfl rfl rfl ?_ | refine sp_alloc rfl rfl ?_ | refine sp_build rfl rfl ?_ | refine sp_bslice rfl rfl rfl rfl rfl ?_ | refine ep_empt ?_
      | refine ep_field1 rfl rfl ?_ | refine sp_fieldN rfl rfl rfl ?_ | refine ep_mkfn rfl ?_ | refine ep_nilckP rfl ?_ | refine ep_nilckF rfl ?_
      | refine ep_eqb0 rfl rfl ?_ | refine ep_eqb1 rfl rfl ?_ | refine ep_eqa0 rfl rfl ?_ | refine ep_eqa1 rfl rfl ?_)
    | (refine g_ops ?_; first | refine eo_none ?_ | refine eo_nil ?_ | refine eo_yes rfl ?_ | refine eo_no rfl ?_ | refine eo_und rfl ?_ | refine eo_yesH rfl (by assumption) ?_ | refine eo_noH rfl (by assumption) ?_)
    | (refine g_dops ?_; first | refine ed_none ?_ | refine ed_nil ?_ | refine ed_yes rfl ?_ | refine ed_no rfl ?_ | refine ed_und rfl ?_ | refine ed_yesH rfl (by assumption) ?_ | refine ed_noH rfl (by assumption) ?_)
    | refine ed_same rfl ?_ | refine ed_one rfl rfl rfl rfl ?_ | refine ed_write rfl rfl ?_
    | (refine g_code ?_; first
      | refine ec_seq ?_ | refine ec_region ?_ | refine ec_draw ?_ | refine ec_block ?_ | refine ec_skip ?_ | refine ec_exit ?_ | refine ec_ret ?_
      | refine ec_condT rfl ?_ | refine ec_condF rfl ?_ | refine ec_condTH rfl (by assumption) ?_ | refine ec_condFH rfl (by assumption) ?_)
    | refine ek_seqN ?_ | refine ek_seqX ?_ | refine ek_seqR ?_ | refine ek_blkN ?_ | refine ek_blkR ?_ | refine ek_blkX ?_ | refine ek_blkY rfl ?_)
  refine sfin (.inr rfl) (by rfl) (by rfl) (by exact ⟨rfl, rfl, rfl⟩) (by rfl) (by rfl) (by rfl) (by rfl)
-- loop.example/g01323/impl.funcsOf
def m67 : MC := (.seq (.region [⟨(.mov (.k (.int .i64 0))), (some 2), none⟩] false) (.seq (.region [⟨(.mov (.t 0)), (some 3), none⟩, ⟨(.call 81 [(.t 3)]), (some 4), none⟩, ⟨(.bin .shl (.k (.int .i64 1)) (.t 4)), (some 5), none⟩, ⟨(.mov (.t 5)), (some 2), none⟩] false) .ret))
theorem has67 : Has cx 67 6 m67 [(.tmp 2)] :=
  ⟨⟨Try.f67, Try.f67.body.getD .skip, by kernel_rfl, by kernel_rfl, by kernel_rfl, by kernel_rfl, by kernel_rfl, by kernel_rfl⟩⟩
theorem ev67 (n : Nat) (h : n ≤ 4) : Ev cx 67 [.int .i64 n] [] (.int .i64 (R2 (R2 n) : Nat)) [] := by
  obtain ⟨h1, h2, h3, h4⟩ := shN h
  refine has67.eev rfl rfl ?_
  unfold m67
  repeat' (first
    | (refine g_op ?_; first
      | refine ep_mov rfl ?_ | refine ep_load1 rfl rfl rfl rfl ?_ | refine ep_fieldAddr rfl ?_ | refine sp_loadN rfl rfl rfl rfl rfl ?_
      | refine ep_call0 rfl (by first | exact ev81 _ h) rfl rfl ?_
      | refine sp_call rfl rfl rfl rfl (by first | exact ev81 _ h) ⟨rfl, rfl, rfl, rfl⟩ rfl rfl rfl ?_
      | refine sp_callv rfl rfl rfl rfl rfl rfl (by first | exact ev81 _ h) ⟨rfl, rfl, rfl, rfl⟩ rfl rfl rfl ?_
      | refine ep_bin rfl rfl (by first | exact b_shl1 (by omega) (by omega) | exact b_add (by omega) (by omega) | exact b_sub (by omega) (by omega) | exact b_and (by omega) (by omega) | exact b_or (by omega) (by omega) | exact b_shr (by omega) | exact b_shl (by omega) (by omega) | rfl) ?_
      | refine ep_pickT rfl rfl ?_ | refine ep_pickF rfl rfl ?_ | refine ep_pickTH rfl (by assumption) rfl ?_ | refine ep_pickFH rfl (by assumption) rfl ?_
      | refine ep_extract rfl rfl ?_ | refine sp_store rfl rfl rfl rfl rfl rfl rfl rfl rfl rfl ?_ | refine ep_conv rfl (by first | exact w_u64 (by omega) (by omega) | exact wrap_id (by omega) (by omega) | rfl) ?_
      | refine ep_not rfl ?_ | refine ep_lenS rfl ?_ | refine ep_lenN rfl ?_ | refine ep_lenE rfl ?_
      | refine sp_box rfl rfl rfl rfl rfl ?_ | refine sp_alloc rfl rfl ?_ | refine sp_build rfl rfl ?_ | refine sp_bslice rfl rfl rfl rfl rfl ?_ | refine ep_empt ?_
      | refine ep_field1 rfl rfl ?_ | refine sp_fieldN rfl rfl rfl ?_ | refine ep_mkfn rfl ?_ | refine ep_nilckP rfl ?_ | refine ep_nilckF rfl ?_
      | refine ep_eqb0 rfl rfl ?_ | refine ep_eqb1 rfl rfl ?_ | refine ep_eqa0 rfl rfl ?_ | refine ep_eqa1 rfl rfl ?_)
    | (refine g_ops ?_; first | refine eo_none ?_ | refine eo_nil ?_ | refine eo_yes rfl ?_ | refine eo_no rfl ?_ | refine eo_und rfl ?_ | refine eo_yesH rfl (by assumption) ?_ | refine eo_noH rfl (by assumption) ?_)
    | (refine g_dops ?_; first | refine ed_none ?_ | refine ed_nil ?_ | refine ed_yes rfl ?_ | refine ed_no rfl ?_ | refine ed_und rfl ?_ | refine ed_yesH rfl (by assumption) ?_ | refine ed_noH rfl (by assumption) ?_)
    | refine ed_same rfl ?_ | refine ed_one rfl rfl rfl rfl ?_ | refine ed_write rfl rfl ?_
    | (refine g_code ?_; first
      | refine ec_seq ?_ | refine ec_region ?_ | refine ec_draw ?_ | refine ec_block ?_ | refine ec_skip ?_ | refine ec_exit ?_ | refine ec_ret ?_
      | refine ec_condT rfl ?_ | refine ec_condF rfl ?_ | refine ec_condTH rfl (by assumption) ?_ | refine ec_condFH rfl (by assumption) ?_)
    | refine ek_seqN ?_ | refine ek_seqX ?_ | refine ek_seqR ?_ | refine ek_blkN ?_ | refine ek_blkR ?_ | refine ek_blkX ?_ | refine ek_blkY rfl ?_)
  refine sfin (.inr rfl) (by rfl) (by rfl) (by exact ⟨rfl, rfl, rfl⟩) (by rfl) (by rfl) (by rfl) (by rfl)
-- loop.example/g01323/spec.l01Rows
def m96 : MC := (.seq (.region [⟨(.mov (.k (.int .i64 0))), (some 2), none⟩] false) (.seq (.region [⟨(.mov (.t 0)), (some 3), none⟩, ⟨(.conv .u64 (.t 3)), (some 4), none⟩, ⟨(.bin .shl (.k (.int .i64 1)) (.t 4)), (some 5), none⟩, ⟨(.mov (.t 5)), (some 2), none⟩] false) .ret))
theorem has96 : Has cx 96 6 m96 [(.tmp 2)] :=
  ⟨⟨Try.f96, Try.f96.body.getD .skip, by kernel_rfl, by kernel_rfl, by kernel_rfl, by kernel_rfl, by kernel_rfl, by kernel_rfl⟩⟩
theorem ev96 (n : Nat) (h : n ≤ 4) : Ev cx 96 [.int .i64 n] [] (.int .i64 (R2 n : Nat)) [] := by
  obtain ⟨h1, h2, h3, h4⟩ := shN h
  refine has96.eev rfl rfl ?_
  unfold m96
  repeat' (first
    | (refine g_op ?_; first
      | refine ep_mov rfl ?_ | refine ep_load1 rfl rfl rfl rfl ?_ | refine ep_fieldAddr rfl ?_ | refine sp_loadN rfl rfl rfl rfl rfl ?_
      | refine ep_bin rfl rfl (by first | exact b_shl1 (by omega) (by omega) | exact b_add (by omega) (by omega) | exact b_sub (by omega) (by omega) | exact b_and (by omega) (by omega) | exact b_or (by omega) (by omega) | exact b_shr (by omega) | exact b_shl (by omega) (by omega) | rfl) ?_
      | refine ep_pickT rfl rfl ?_ | refine ep_pickF rfl rfl ?_ | refine ep_pickTH rfl (by assumption) rfl ?_ | refine ep_pickFH rfl (by assumption) rfl ?_
      | refine ep_extract rfl rfl ?_ | refine sp_store rfl rfl rfl rfl rfl rfl rfl rfl rfl rfl ?_ | refine ep_conv rfl (by first | exact w_u64 (by omega) (by omega) | exact wrap_id (by omega) (by omega) | rfl) ?_
      | refine ep_not rfl ?_ | refine ep_lenS rfl ?_ | refine ep_lenN rfl ?_ | refine ep_lenE rfl ?_
      | refine sp_box rfl rfl rfl rfl rfl ?_ | refine sp_alloc rfl rfl ?_ | refine sp_build rfl rfl ?_ | refine sp_bslice rfl rfl rfl rfl rfl ?_ | refine ep_empt ?_
      | refine ep_field1 rfl rfl ?_ | refine sp_fieldN rfl rfl rfl ?_ | refine ep_mkfn rfl ?_ | refine ep_nilckP rfl ?_ | refine ep_nilckF rfl ?_
      | refine ep_eqb0 rfl rfl ?_ | refine ep_eqb1 rfl rfl ?_ | refine ep_eqa0 rfl rfl ?_ | refine ep_eqa1 rfl rfl ?_)
    | (refine g_ops ?_; first | refine eo_none ?_ | refine eo_nil ?_ | refine eo_yes rfl ?_ | refine eo_no rfl ?_ | refine eo_und rfl ?_ | refine eo_yesH rfl (by assumption) ?_ | refine eo_noH rfl (by assumption) ?_)
    | (refine g_dops ?_; first | refine ed_none ?_ | refine ed_nil ?_ | refine ed_yes rfl ?_ | refine ed_no rfl ?_ | refine ed_und rfl ?_ | refine ed_yesH rfl (by assumption) ?_ | refine ed_noH rfl (by assumption) ?_)
    | refine ed_same rfl ?_ | refine ed_one rfl rfl rfl rfl ?_ | refine ed_write rfl rfl ?_
    | (refine g_code ?_; first
      | refine ec_seq ?_ | refine ec_region ?_ | refine ec_draw ?_ | refine ec_block ?_ | refine ec_skip ?_ | refine ec_exit ?_ | refine ec_ret ?_
      | refine ec_condT rfl ?_ | refine ec_condF rfl ?_ | refine ec_condTH rfl (by assumption) ?_ | refine ec_condFH rfl (by assumption) ?_)
    | refine ek_seqN ?_ | refine ek_seqX ?_ | refine ek_seqR ?_ | refine ek_blkN ?_ | refine ek_blkR ?_ | refine ek_blkX ?_ | refine ek_blkY rfl ?_)
  refine sfin (.inr rfl) (by rfl) (by rfl) (by exact ⟨rfl, rfl, rfl⟩) (by rfl) (by rfl) (by rfl) (by rfl)
-- loop.example/g01323/spec.l01All
def m104 : MC := (.seq (.region [⟨(.mov (.k (.int .i64 0))), (some 2), none⟩] false) (.seq (.region [⟨(.mov (.t 0)), (some 3), none⟩, ⟨(.call 96 [(.t 3)]), (some 4), none⟩, ⟨(.conv .u64 (.t 4)), (some 5), none⟩, ⟨(.bin .shl (.k (.int .i64 1)) (.t 5)), (some 6), none⟩, ⟨(.bin .sub (.t 6) (.k (.int .i64 1))), (some 7), none⟩, ⟨(.mov (.t 7)), (some 2), none⟩] false) .ret))
theorem has104 : Has cx 104 8 m104 [(.tmp 2)] :=
  ⟨⟨Try.f104, Try.f104.body.getD .skip, by kernel_rfl, by kernel_rfl, by kernel_rfl, by kernel_rfl, by kernel_rfl, by kernel_rfl⟩⟩
theorem ev104 (n : Nat) (h : n ≤ 4) : Ev cx 104 [.int .i64 n] [] (.int .i64 ((R2 (R2 n) : Nat) - 1)) [] := by
  obtain ⟨h1, h2, h3, h4⟩ := shN h
  refine has104.eev rfl rfl ?_
  unfold m104
  repeat' (first
    | (refine g_op ?_; first
      | refine ep_mov rfl ?_ | refine ep_load1 rfl rfl rfl rfl ?_ | refine ep_fieldAddr rfl ?_ | refine sp_loadN rfl rfl rfl rfl rfl ?_
      | refine ep_call0 rfl (by first | exact ev96 _ h) rfl rfl ?_
      | refine sp_call rfl rfl rfl rfl (by first | exact ev96 _ h) ⟨rfl, rfl, rfl, rfl⟩ rfl rfl rfl ?_
      | refine sp_callv rfl rfl rfl rfl rfl rfl (by first | exact ev96 _ h) ⟨rfl, rfl, rfl, rfl⟩ rfl rfl rfl ?_
      | refine ep_bin rfl rfl (by first | exact b_shl1 (by omega) (by omega) | exact b_add (by omega) (by omega) | exact b_sub (by omega) (by omega) | exact b_and (by omega) (by omega) | exact b_or (by omega) (by omega) | exact b_shr (by omega) | exact b_shl (by omega) (by omega) | rfl) ?_
      | refine ep_pickT rfl rfl ?_ | refine ep_pickF rfl rfl ?_ | refine ep_pickTH rfl (by assumption) rfl ?_ | refine ep_pickFH rfl (by assumption) rfl ?_
      | refine ep_extract rfl rfl ?_ | refine sp_store rfl rfl rfl rfl rfl rfl rfl rfl rfl rfl ?_ | refine ep_conv rfl (by first | exact w_u64 (by omega) (by omega) | exact wrap_id (by omega) (by omega) | rfl) ?_
      | refine ep_not rfl ?_ | refine ep_lenS rfl ?_ | refine ep_lenN rfl ?_ | refine ep_lenE rfl ?_
      | refine sp_box rfl rfl rfl rfl rfl ?_ | refine sp_alloc rfl rfl ?_ | refine sp_build rfl rfl ?_ | refine sp_bslice rfl rfl rfl rfl rfl ?_ | refine ep_empt ?_
      | refine ep_field1 rfl rfl ?_ | refine sp_fieldN rfl rfl rfl ?_ | refine ep_mkfn rfl ?_ | refine ep_nilckP rfl ?_ | refine ep_nilckF rfl ?_
      | refine ep_eqb0 rfl rfl ?_ | refine ep_eqb1 rfl rfl ?_ | refine ep_eqa0 rfl rfl ?_ | refine ep_eqa1 rfl rfl ?_)
    | (refine g_ops ?_; first | refine eo_none ?_ | refine eo_nil ?_ | refine eo_yes rfl ?_ | refine eo_no rfl ?_ | refine eo_und rfl ?_ | refine eo_yesH rfl (by assumption) ?_ | refine eo_noH rfl (by assumption) ?_)
    | (refine g_dops ?_; first | refine ed_none ?_ | refine ed_nil ?_ | refine ed_yes rfl ?_ | refine ed_no rfl ?_ | refine ed_und rfl ?_ | refine ed_yesH rfl (by assumption) ?_ | refine ed_noH rfl (by assumption) ?_)
    | refine ed_same rfl ?_ | refine ed_one rfl rfl rfl rfl ?_ | refine ed_write rfl rfl ?_
    | (refine g_code ?_; first
      | refine ec_seq ?_ | refine ec_region ?_ | refine ec_draw ?_ | refine ec_block ?_ | refine ec_skip ?_ | refine ec_exit ?_ | refine ec_ret ?_
      | refine ec_condT rfl ?_ | refine ec_condF rfl ?_ | refine ec_condTH rfl (by assumption) ?_ | refine ec_condFH rfl (by assumption) ?_)
    | refine ek_seqN ?_ | refine ek_seqX ?_ | refine ek_seqR ?_ | refine ek_blkN ?_ | refine ek_blkR ?_ | refine ek_blkX ?_ | refine ek_blkY rfl ?_)
  refine sfin (.inr rfl) (by rfl) (by rfl) (by exact ⟨rfl, rfl, rfl⟩) (by rfl) (by rfl) (by rfl) (by rfl)
-- loop.example/g01323/impl.isArity
def m80 : MC := (.seq (.region [⟨(.mov (.k (.bool false))), (some 2), none⟩] false) (.seq (.region [⟨(.mov (.t 0)), (some 3), none⟩, ⟨(.call 66 [(.t 3), (.k (.int .i64 0)), (.k (.int .i64 4))]), (some 4), none⟩, ⟨(.mov (.t 4)), (some 2), none⟩] false) .ret))
theorem has80 : Has cx 80 5 m80 [(.tmp 2)] :=
  ⟨⟨Try.f80, Try.f80.body.getD .skip, by kernel_rfl, by kernel_rfl, by kernel_rfl, by kernel_rfl, by kernel_rfl, by kernel_rfl⟩⟩
theorem ev80 (z : Int) : Ev cx 80 [.int .i64 z] [] (.bool (decide (0 ≤ z ∧ z ≤ 4))) [] := by
  refine has80.eev rfl rfl ?_
  unfold m80
  repeat' (first
    | (refine g_op ?_; first
      | refine ep_mov rfl ?_ | refine ep_load1 rfl rfl rfl rfl ?_ | refine ep_fieldAddr rfl ?_ | refine sp_loadN rfl rfl rfl rfl rfl ?_
      | refine ep_call0 rfl (by first | exact ev66 _ _ _) rfl rfl ?_
      | refine sp_call rfl rfl rfl rfl (by first | exact ev66 _ _ _) ⟨rfl, rfl, rfl, rfl⟩ rfl rfl rfl ?_
      | refine sp_callv rfl rfl rfl rfl rfl rfl (by first | exact ev66 _ _ _) ⟨rfl, rfl, rfl, rfl⟩ rfl rfl rfl ?_
      | refine ep_bin rfl rfl (by first | exact b_add (by omega) (by omega) | exact b_sub (by omega) (by omega) | exact b_and (by omega) (by omega) | exact b_or (by omega) (by omega) | exact b_shr (by omega) | exact b_shl (by omega) (by omega) | rfl) ?_
      | refine ep_pickT rfl rfl ?_ | refine ep_pickF rfl rfl ?_ | refine ep_pickTH rfl (by assumption) rfl ?_ | refine ep_pickFH rfl (by assumption) rfl ?_
      | refine ep_extract rfl rfl ?_ | refine sp_store rfl rfl rfl rfl rfl rfl rfl rfl rfl rfl ?_ | refine ep_conv rfl (by first | exact w_u64 (by omega) (by omega) | exact wrap_id (by omega) (by omega) | rfl) ?_
      | refine ep_not rfl ?_ | refine ep_lenS rfl ?_ | refine ep_lenN rfl ?_ | refine ep_lenE rfl ?_
      | refine sp_box rfl rfl rfl rfl rfl ?_ | refine sp_alloc rfl rfl ?_ | refine sp_build rfl rfl ?_ | refine sp_bslice rfl rfl rfl rfl rfl ?_ | refine ep_empt ?_
      | refine ep_field1 rfl rfl ?_ | refine sp_fieldN rfl rfl rfl ?_ | refine ep_mkfn rfl ?_ | refine ep_nilckP rfl ?_ | refine ep_nilckF rfl ?_
      | refine ep_eqb0 rfl rfl ?_ | refine ep_eqb1 rfl rfl ?_ | refine ep_eqa0 rfl rfl ?_ | refine ep_eqa1 rfl rfl ?_)
    | (refine g_ops ?_; first | refine eo_none ?_ | refine eo_nil ?_ | refine eo_yes rfl ?_ | refine eo_no rfl ?_ | refine eo_und rfl ?_ | refine eo_yesH rfl (by assumption) ?_ | refine eo_noH rfl (by assumption) ?_)
    | (refine g_dops ?_; first | refine ed_none ?_ | refine ed_nil ?_ | refine ed_yes rfl ?_ | refine ed_no rfl ?_ | refine ed_und rfl ?_ | refine ed_yesH rfl (by assumption) ?_ | refine ed_noH rfl (by assumption) ?_)
    | refine ed_same rfl ?_ | refine ed_one rfl rfl rfl rfl ?_ | refine ed_write rfl rfl ?_
    | (refine g_code ?_; first
      | refine ec_seq ?_ | refine ec_region ?_ | refine ec_draw ?_ | refine ec_block ?_ | refine ec_skip ?_ | refine ec_exit ?_ | refine ec_ret ?_
      | refine ec_condT rfl ?_ | refine ec_condF rfl ?_ | refine ec_condTH rfl (by assumption) ?_ | refine ec_condFH rfl (by assumption) ?_)
    | refine ek_seqN ?_ | refine ek_seqX ?_ | refine ek_seqR ?_ | refine ek_blkN ?_ | refine ek_blkR ?_ | refine ek_blkX ?_ | refine ek_blkY rfl ?_)
  refine sfin (.inr rfl) (by rfl) (by rfl) (by exact ⟨rfl, rfl, rfl⟩) (by rfl) (by rfl) (by rfl) (by rfl)
structure RR where
  a : Int
  b : Int
  c : Int
abbrev rr (x : RR) : V := .tup [.agg [.int .i64 x.a, .int .i64 x.b], .int .i64 x.c]
theorem isRel_nat {p t : Int} (h : isRel p t = true) : ∃ n b : Nat, p = n ∧ t = b ∧ 1 ≤ n ∧ n ≤ 4 ∧ b < R2 (R2 n) ∧ b < 65536 := by
  simp only [isRel, Bool.and_eq_true, decide_eq_true_eq] at h
  obtain ⟨⟨h1, h2⟩, h3, h4⟩ := h
  obtain ⟨n, rfl⟩ := Int.eq_ofNat_of_zero_le (show 0 ≤ p by omega)
  obtain ⟨b, rfl⟩ := Int.eq_ofNat_of_zero_le h3
  simp only [Int.toNat_natCast] at h4
  obtain ⟨_, q, _⟩ := shN (n := n) (by omega)
  exact ⟨n, b, rfl, rfl, by omega, by omega, by omega, by omega⟩
theorem isFn_nat {p t : Int} (h : isFn p t = true) : ∃ n b : Nat, p = n ∧ t = b ∧ n ≤ 4 ∧ b < R2 (R2 n) ∧ b < 65536 := by
  simp only [isFn, Bool.and_eq_true, decide_eq_true_eq] at h
  obtain ⟨⟨h1, h2⟩, h3, h4⟩ := h
  obtain ⟨n, rfl⟩ := Int.eq_ofNat_of_zero_le (show 0 ≤ p by omega)
  obtain ⟨b, rfl⟩ := Int.eq_ofNat_of_zero_le h3
  simp only [Int.toNat_natCast] at h4
  obtain ⟨_, q, _⟩ := shN (n := n) (by omega)
  exact ⟨n, b, rfl, rfl, by omega, by omega, by omega⟩
def meetR (p t q s : Int) : RR := if isRel p t = true ∧ isRel q s = true then (if p = q then ⟨p, (t.toNat &&& s.toNat : Nat), 0⟩ else ⟨0, 0, 2⟩) else ⟨0, 0, 1⟩
def bt (b r : Nat) : Nat := (b >>> r) &&& 1
theorem bt_le (b r : Nat) : bt b r ≤ 1 := by unfold bt; exact Nat.and_le_right
theorem shr_lt {b r : Nat} (h : b < 9223372036854775808) : b >>> r < 9223372036854775808 := Nat.lt_of_le_of_lt (Nat.shiftRight_le b r) h
theorem b_bt {b r : Nat} (h : b < 9223372036854775808) : binV .and (.int .i64 (b >>> r : Nat)) (.int .i64 1) = some (.int .i64 (bt b r : Nat)) := b_and (y := 1) (shr_lt h) (by omega)
theorem R2_le {j n : Nat} (h : j < n) : 2 * R2 j ≤ R2 n := by
  unfold R2; rw [← Nat.pow_succ']; exact Nat.pow_le_pow_right (by omega) (by omega)
theorem or_lt {x y n : Nat} (hx : x < R2 n) (hy : y < R2 n) : x ||| y < R2 n := by unfold R2 at *; exact Nat.or_lt_two_pow hx hy
attribute [local irreducible] bt
-- loop.example/g01323/impl.bit
def m118 : MC := (.seq (.region [⟨(.mov (.k (.int .i64 0))), (some 4), none⟩] false) (.seq (.region [⟨(.mov (.t 0)), (some 5), none⟩, ⟨(.mov (.t 1)), (some 6), none⟩, ⟨(.bin .shr (.t 5) (.t 6)), (some 7), none⟩, ⟨(.bin .and (.t 7) (.k (.int .i64 1))), (some 8), none⟩, ⟨(.mov (.t 8)), (some 4), none⟩] false) .ret))
theorem has118 : Has cx 118 9 m118 [(.tmp 4)] :=
  ⟨⟨Try.f118, Try.f118.body.getD .skip, by kernel_rfl, by kernel_rfl, by kernel_rfl, by kernel_rfl, by kernel_rfl, by kernel_rfl⟩⟩
theorem ev118 (b r : Nat) (hb : b < 9223372036854775808) (hr : r ≤ 64) : Ev cx 118 [.int .i64 b, .int .i64 r] [] (.int .i64 (bt b r : Nat)) [] := by
  refine has118.eev rfl rfl ?_
  unfold m118
  repeat' (first
    | (refine g_op ?_; first
      | refine ep_mov rfl ?_ | refine ep_load1 rfl rfl rfl rfl ?_ | refine ep_fieldAddr rfl ?_ | refine sp_loadN rfl rfl rfl rfl rfl ?_
      | refine ep_bin rfl rfl (by first | exact b_shr hr | exact b_bt hb | exact b_add (by omega) (by omega) | exact b_sub (by omega) (by omega) | exact b_and (by omega) (by omega) | exact b_or (by omega) (by omega) | exact b_shr (by omega) | exact b_shl (by omega) (by omega) | rfl) ?_
      | refine ep_pickT rfl rfl ?_ | refine ep_pickF rfl rfl ?_ | refine ep_pickTH rfl (by assumption) rfl ?_ | refine ep_pickFH rfl (by assumption) rfl ?_
      | refine ep_extract rfl rfl ?_ | refine sp_store rfl rfl rfl rfl rfl rfl rfl rfl rfl rfl ?_ | refine ep_conv rfl (by first | exact w_u64 (by omega) (by omega) | exact wrap_id (by omega) (by omega) | rfl) ?_
      | refine ep_not rfl ?_ | refine ep_lenS rfl ?_ | refine ep_lenN rfl ?_ | refine ep_lenE rfl ?_
      | refine sp_box rfl rfl rfl rfl rfl ?_ | refine sp_alloc rfl rfl ?_ | refine sp_build rfl rfl ?_ | refine sp_bslice rfl rfl rfl rfl rfl ?_ | refine ep_empt ?_
      | refine ep_field1 rfl rfl ?_ | refine sp_fieldN rfl rfl rfl ?_ | refine ep_mkfn rfl ?_ | refine ep_nilckP rfl ?_ | refine ep_nilckF rfl ?_
      | refine ep_eqb0 rfl rfl ?_ | refine ep_eqb1 rfl rfl ?_ | refine ep_eqa0 rfl rfl ?_ | refine ep_eqa1 rfl rfl ?_)
    | (refine g_ops ?_; first | refine eo_none ?_ | refine eo_nil ?_ | refine eo_yes rfl ?_ | refine eo_no rfl ?_ | refine eo_und rfl ?_ | refine eo_yesH rfl (by assumption) ?_ | refine eo_noH rfl (by assumption) ?_)
    | (refine g_dops ?_; first | refine ed_none ?_ | refine ed_nil ?_ | refine ed_yes rfl ?_ | refine ed_no rfl ?_ | refine ed_und rfl ?_ | refine ed_yesH rfl (by assumption) ?_ | refine ed_noH rfl (by assumption) ?_)
    | refine ed_same rfl ?_ | refine ed_one rfl rfl rfl rfl ?_ | refine ed_write rfl rfl ?_
    | (refine g_code ?_; first
      | refine ec_seq ?_ | refine ec_region ?_ | refine ec_draw ?_ | refine ec_block ?_ | refine ec_skip ?_ | refine ec_exit ?_ | refine ec_ret ?_
      | refine ec_condT rfl ?_ | refine ec_condF rfl ?_ | refine ec_condTH rfl (by assumption) ?_ | refine ec_condFH rfl (by assumption) ?_)
    | refine ek_seqN ?_ | refine ek_seqX ?_ | refine ek_seqR ?_ | refine ek_blkN ?_ | refine ek_blkR ?_ | refine ek_blkX ?_ | refine ek_blkY rfl ?_)
  refine sfin (.inr rfl) (by rfl) (by rfl) (by exact ⟨rfl, rfl, rfl⟩) (by rfl) (by rfl) (by rfl) (by rfl)
-- (loop.example/g01323/impl.Func).at
def m107 : MC := (.seq (.region [⟨(.box (.t 0)), (some 2), none⟩, ⟨(.mov (.k (.int .i64 0))), (some 4), none⟩] false) (.seq (.region [⟨(.fieldAddr 1 (.t 2)), (some 5), none⟩, ⟨(.load none (.t 5)), (some 6), none⟩, ⟨(.mov (.t 1)), (some 7), none⟩, ⟨(.call 118 [(.t 6), (.t 7)]), (some 8), none⟩, ⟨(.mov (.t 8)), (some 4), none⟩] false) .ret))
theorem has107 : Has cx 107 9 m107 [(.tmp 4)] :=
  ⟨⟨Try.f107, Try.f107.body.getD .skip, by kernel_rfl, by kernel_rfl, by kernel_rfl, by kernel_rfl, by kernel_rfl, by kernel_rfl⟩⟩
theorem ev107 (n : Int) (b r : Nat) (hb : b < 9223372036854775808) (hr : r ≤ 64) : Ev cx 107 [.agg [.int .i64 n, .int .i64 b], .int .i64 r] [] (.int .i64 (bt b r : Nat)) [] := by
  refine has107.eev rfl rfl ?_
  unfold m107
  repeat' (first
    | (refine g_op ?_; first
      | refine ep_mov rfl ?_ | refine ep_load1 rfl rfl rfl rfl ?_ | refine ep_fieldAddr rfl ?_ | refine sp_loadN rfl rfl rfl rfl rfl ?_
      | refine ep_call0 rfl (by first | exact ev118 _ _ hb hr) rfl rfl ?_
      | refine sp_call rfl rfl rfl rfl (by first | exact ev118 _ _ hb hr) ⟨rfl, rfl, rfl, rfl⟩ rfl rfl rfl ?_
      | refine sp_callv rfl rfl rfl rfl rfl rfl (by first | exact ev118 _ _ hb hr) ⟨rfl, rfl, rfl, rfl⟩ rfl rfl rfl ?_
      | refine ep_bin rfl rfl (by first | exact b_add (by omega) (by omega) | exact b_sub (by omega) (by omega) | exact b_and (by omega) (by omega) | exact b_or (by omega) (by omega) | exact b_shr (by omega) | exact b_shl (by omega) (by omega) | rfl) ?_
      | refine ep_pickT rfl rfl ?_ | refine ep_pickF rfl rfl ?_ | refine ep_pickTH rfl (by assumption) rfl ?_ | refine ep_pickFH rfl (by assumption) rfl ?_
      | refine ep_extract rfl rfl ?_ | refine sp_store rfl rfl rfl rfl rfl rfl rfl rfl rfl rfl ?_ | refine ep_conv rfl (by first | exact w_u64 (by omega) (by omega) | exact wrap_id (by omega) (by omega) | rfl) ?_
      | refine ep_not rfl ?_ | refine ep_lenS rfl ?_ | refine ep_lenN rfl ?_ | refine ep_lenE rfl ?_
      | refine sp_box rfl rfl rfl rfl rfl ?_ | refine sp_alloc rfl rfl ?_ | refine sp_build rfl rfl ?_ | refine sp_bslice rfl rfl rfl rfl rfl ?_ | refine ep_empt ?_
      | refine ep_field1 rfl rfl ?_ | refine sp_fieldN rfl rfl rfl ?_ | refine ep_mkfn rfl ?_ | refine ep_nilckP rfl ?_ | refine ep_nilckF rfl ?_
      | refine ep_eqb0 rfl rfl ?_ | refine ep_eqb1 rfl rfl ?_ | refine ep_eqa0 rfl rfl ?_ | refine ep_eqa1 rfl rfl ?_)
    | (refine g_ops ?_; first | refine eo_none ?_ | refine eo_nil ?_ | refine eo_yes rfl ?_ | refine eo_no rfl ?_ | refine eo_und rfl ?_ | refine eo_yesH rfl (by assumption) ?_ | refine eo_noH rfl (by assumption) ?_)
    | (refine g_dops ?_; first | refine ed_none ?_ | refine ed_nil ?_ | refine ed_yes rfl ?_ | refine ed_no rfl ?_ | refine ed_und rfl ?_ | refine ed_yesH rfl (by assumption) ?_ | refine ed_noH rfl (by assumption) ?_)
    | refine ed_same rfl ?_ | refine ed_one rfl rfl rfl rfl ?_ | refine ed_write rfl rfl ?_
    | (refine g_code ?_; first
      | refine ec_seq ?_ | refine ec_region ?_ | refine ec_draw ?_ | refine ec_block ?_ | refine ec_skip ?_ | refine ec_exit ?_ | refine ec_ret ?_
      | refine ec_condT rfl ?_ | refine ec_condF rfl ?_ | refine ec_condTH rfl (by assumption) ?_ | refine ec_condFH rfl (by assumption) ?_)
    | refine ek_seqN ?_ | refine ek_seqX ?_ | refine ek_seqR ?_ | refine ek_blkN ?_ | refine ek_blkR ?_ | refine ek_blkX ?_ | refine ek_blkY rfl ?_)
  refine sfin (.inr rfl) (by rfl) (by rfl) (by exact ⟨rfl, rfl, rfl⟩) (by rfl) (by rfl) (by rfl) (by rfl)
-- (loop.example/g01323/impl.Func).rows
def m108 : MC := (.seq (.region [⟨(.box (.t 0)), (some 1), none⟩, ⟨(.mov (.k (.int .i64 0))), (some 2), none⟩] false) (.seq (.region [⟨(.fieldAddr 0 (.t 1)), (some 3), none⟩, ⟨(.load none (.t 3)), (some 4), none⟩, ⟨(.call 81 [(.t 4)]), (some 5), none⟩, ⟨(.mov (.t 5)), (some 2), none⟩] false) .ret))
theorem has108 : Has cx 108 6 m108 [(.tmp 2)] :=
  ⟨⟨Try.f108, Try.f108.body.getD .skip, by kernel_rfl, by kernel_rfl, by kernel_rfl, by kernel_rfl, by kernel_rfl, by kernel_rfl⟩⟩
theorem ev108 (n : Nat) (b : Int) (h : n ≤ 4) : Ev cx 108 [.agg [.int .i64 n, .int .i64 b]] [] (.int .i64 (R2 n : Nat)) [] := by
  refine has108.eev rfl rfl ?_
  unfold m108
  repeat' (first
    | (refine g_op ?_; first
      | refine ep_mov rfl ?_ | refine ep_load1 rfl rfl rfl rfl ?_ | refine ep_fieldAddr rfl ?_ | refine sp_loadN rfl rfl rfl rfl rfl ?_
      | refine ep_call0 rfl (by first | exact ev81 _ h) rfl rfl ?_
      | refine sp_call rfl rfl rfl rfl (by first | exact ev81 _ h) ⟨rfl, rfl, rfl, rfl⟩ rfl rfl rfl ?_
      | refine sp_callv rfl rfl rfl rfl rfl rfl (by first | exact ev81 _ h) ⟨rfl, rfl, rfl, rfl⟩ rfl rfl rfl ?_
      | refine ep_bin rfl rfl (by first | exact b_add (by omega) (by omega) | exact b_sub (by omega) (by omega) | exact b_and (by omega) (by omega) | exact b_or (by omega) (by omega) | exact b_shr (by omega) | exact b_shl (by omega) (by omega) | rfl) ?_
      | refine ep_pickT rfl rfl ?_ | refine ep_pickF rfl rfl ?_ | refine ep_pickTH rfl (by assumption) rfl ?_ | refine ep_pickFH rfl (by assumption) rfl ?_
      | refine ep_extract rfl rfl ?_ | refine sp_store rfl rfl rfl rfl rfl rfl rfl rfl rfl rfl ?_ | refine ep_conv rfl (by first | exact w_u64 (by omega) (by omega) | exact wrap_id (by omega) (by omega) | rfl) ?_
      | refine ep_not rfl ?_ | refine ep_lenS rfl ?_ | refine ep_lenN rfl ?_ | refine ep_lenE rfl ?_
      | refine sp_box rfl rfl rfl rfl rfl ?_ | refine sp_alloc rfl rfl ?_ | refine sp_build rfl rfl ?_ | refine sp_bslice rfl rfl rfl rfl rfl ?_ | refine ep_empt ?_
      | refine ep_field1 rfl rfl ?_ | refine sp_fieldN rfl rfl rfl ?_ | refine ep_mkfn rfl ?_ | refine ep_nilckP rfl ?_ | refine ep_nilckF rfl ?_
      | refine ep_eqb0 rfl rfl ?_ | refine ep_eqb1 rfl rfl ?_ | refine ep_eqa0 rfl rfl ?_ | refine ep_eqa1 rfl rfl ?_)
    | (refine g_ops ?_; first | refine eo_none ?_ | refine eo_nil ?_ | refine eo_yes rfl ?_ | refine eo_no rfl ?_ | refine eo_und rfl ?_ | refine eo_yesH rfl (by assumption) ?_ | refine eo_noH rfl (by assumption) ?_)
    | (refine g_dops ?_; first | refine ed_none ?_ | refine ed_nil ?_ | refine ed_yes rfl ?_ | refine ed_no rfl ?_ | refine ed_und rfl ?_ | refine ed_yesH rfl (by assumption) ?_ | refine ed_noH rfl (by assumption) ?_)
    | refine ed_same rfl ?_ | refine ed_one rfl rfl rfl rfl ?_ | refine ed_write rfl rfl ?_
    | (refine g_code ?_; first
      | refine ec_seq ?_ | refine ec_region ?_ | refine ec_draw ?_ | refine ec_block ?_ | refine ec_skip ?_ | refine ec_exit ?_ | refine ec_ret ?_
      | refine ec_condT rfl ?_ | refine ec_condF rfl ?_ | refine ec_condTH rfl (by assumption) ?_ | refine ec_condFH rfl (by assumption) ?_)
    | refine ek_seqN ?_ | refine ek_seqX ?_ | refine ek_seqR ?_ | refine ek_blkN ?_ | refine ek_blkR ?_ | refine ek_blkX ?_ | refine ek_blkY rfl ?_)
  refine sfin (.inr rfl) (by rfl) (by rfl) (by exact ⟨rfl, rfl, rfl⟩) (by rfl) (by rfl) (by rfl) (by rfl)
def monoP (b r i : Nat) : Bool := decide (¬ (bt b r > bt b (r ||| R2 i)))
def monoB (n b : Nat) : Bool := allF (fun r => allF (monoP b r) 0 n) 0 (R2 n)
-- loop.example/g01323/impl.IsFunc
def m70 : MC := (.seq (.region [⟨(.box (.t 0)), (some 1), none⟩, ⟨(.mov (.k (.bool false))), (some 2), none⟩] false) (.seq (.region [⟨(.fieldAddr 0 (.t 1)), (some 3), none⟩, ⟨(.load none (.t 3)), (some 4), none⟩, ⟨(.call 80 [(.t 4)]), (some 5), none⟩, ⟨(.mov (.t 5)), (some 6), none⟩, ⟨(.fieldAddr 1 (.t 1)), (some 7), (some (6, true))⟩, ⟨(.load none (.t 7)), (some 8), (some (6, true))⟩, ⟨(.fieldAddr 0 (.t 1)), (some 9), (some (6, true))⟩, ⟨(.load none (.t 9)), (some 10), (some (6, true))⟩, ⟨(.call 67 [(.t 10)]), (some 11), (some (6, true))⟩, ⟨(.bin .sub (.t 11) (.k (.int .i64 1))), (some 12), (some (6, true))⟩, ⟨(.call 66 [(.t 8), (.k (.int .i64 0)), (.t 12)]), (some 13), (some (6, true))⟩, ⟨(.pick (.t 6) (.t 13) (.k (.bool false))), (some 14), none⟩, ⟨(.mov (.t 14)), (some 2), none⟩] true) .ret))
theorem has70 : Has cx 70 15 m70 [(.tmp 2)] :=
  ⟨⟨Try.f70, Try.f70.body.getD .skip, by kernel_rfl, by kernel_rfl, by kernel_rfl, by kernel_rfl, by kernel_rfl, by kernel_rfl⟩⟩
theorem ev70 (p t : Int) : Ev cx 70 [.agg [.int .i64 p, .int .i64 t]] [] (.bool (isFn p t)) [] := by
  by_cases h1 : 0 ≤ p ∧ p ≤ 4
  · have h2 : decide (0 ≤ p ∧ p ≤ 4) = true := decide_eq_true h1
    obtain ⟨n, rfl⟩ := Int.eq_ofNat_of_zero_le (show 0 ≤ p by omega)
    have h3 : n ≤ 4 := by omega
    obtain ⟨h4, h5, h6, h7⟩ := shN h3
    refine has70.eev rfl rfl ?_
    unfold m70
    repeat' (first
      | (refine g_op ?_; first
        | refine ep_mov rfl ?_ | refine ep_load1 rfl rfl rfl rfl ?_ | refine ep_fieldAddr rfl ?_ | refine sp_loadN rfl rfl rfl rfl rfl ?_
        | refine ep_call0 rfl (by first | exact ev80 _ | exact ev66 _ _ _ | exact ev67 _ h3) rfl rfl ?_
        | refine sp_call rfl rfl rfl rfl (by first | exact ev80 _ | exact ev66 _ _ _ | exact ev67 _ h3) ⟨rfl, rfl, rfl, rfl⟩ rfl rfl rfl ?_
        | refine sp_callv rfl rfl rfl rfl rfl rfl (by first | exact ev80 _ | exact ev66 _ _ _ | exact ev67 _ h3) ⟨rfl, rfl, rfl, rfl⟩ rfl rfl rfl ?_
        | refine ep_bin rfl rfl (by first | exact b_add (by omega) (by omega) | exact b_sub (by omega) (by omega) | exact b_and (by omega) (by omega) | exact b_or (by omega) (by omega) | exact b_shr (by omega) | exact b_shl (by omega) (by omega) | rfl) ?_
        | refine ep_pickT rfl rfl ?_ | refine ep_pickF rfl rfl ?_ | refine ep_pickTH rfl (by assumption) rfl ?_ | refine ep_pickFH rfl (by assumption) rfl ?_
        | refine ep_extract rfl rfl ?_ | refine sp_store rfl rfl rfl rfl rfl rfl rfl rfl rfl rfl ?_ | refine ep_conv rfl (by first | exact w_u64 (by omega) (by omega) | exact wrap_id (by omega) (by omega) | rfl) ?_
        | refine ep_not rfl ?_ | refine ep_lenS rfl ?_ | refine ep_lenN rfl ?_ | refine ep_lenE rfl ?_
        | refine sp_box rfl rfl rfl rfl rfl ?_ | refine sp_alloc rfl rfl ?_ | refine sp_build rfl rfl ?_ | refine sp_bslice rfl rfl rfl rfl rfl ?_ | refine ep_empt ?_
        | refine ep_field1 rfl rfl ?_ | refine sp_fieldN rfl rfl rfl ?_ | refine ep_mkfn rfl ?_ | refine ep_nilckP rfl ?_ | refine ep_nilckF rfl ?_
        | refine ep_eqb0 rfl rfl ?_ | refine ep_eqb1 rfl rfl ?_ | refine ep_eqa0 rfl rfl ?_ | refine ep_eqa1 rfl rfl ?_)
      | (refine g_ops ?_; first | refine eo_none ?_ | refine eo_nil ?_ | refine eo_yes rfl ?_ | refine eo_no rfl ?_ | refine eo_und rfl ?_ | refine eo_yesH rfl (by assumption) ?_ | refine eo_noH rfl (by assumption) ?_)
      | (refine g_dops ?_; first | refine ed_none ?_ | refine ed_nil ?_ | refine ed_yes rfl ?_ | refine ed_no rfl ?_ | refine ed_und rfl ?_ | refine ed_yesH rfl (by assumption) ?_ | refine ed_noH rfl (by assumption) ?_)
      | refine ed_same rfl ?_ | refine ed_one rfl rfl rfl rfl ?_ | refine ed_write rfl rfl ?_
      | (refine g_code ?_; first
        | refine ec_seq ?_ | refine ec_region ?_ | refine ec_draw ?_ | refine ec_block ?_ | refine ec_skip ?_ | refine ec_exit ?_ | refine ec_ret ?_
        | refine ec_condT rfl ?_ | refine ec_condF rfl ?_ | refine ec_condTH rfl (by assumption) ?_ | refine ec_condFH rfl (by assumption) ?_)
      | refine ek_seqN ?_ | refine ek_seqX ?_ | refine ek_seqR ?_ | refine ek_blkN ?_ | refine ek_blkR ?_ | refine ek_blkX ?_ | refine ek_blkY rfl ?_)
    refine sfin (.inr rfl) (by rfl) (by rfl) (by exact ⟨rfl, rfl, rfl⟩) (by rfl) (by rfl) (by exact congrArg V.bool (by simp [isFn, h1])) (by rfl)
  · have h2 : decide (0 ≤ p ∧ p ≤ 4) = false := decide_eq_false h1
    refine has70.eev rfl rfl ?_
    unfold m70
    repeat' (first
      | (refine g_op ?_; first
        | refine ep_mov rfl ?_ | refine ep_load1 rfl rfl rfl rfl ?_ | refine ep_fieldAddr rfl ?_ | refine sp_loadN rfl rfl rfl rfl rfl ?_
        | refine ep_call0 rfl (by first | exact ev80 _ | exact ev66 _ _ _) rfl rfl ?_
        | refine sp_call rfl rfl rfl rfl (by first | exact ev80 _ | exact ev66 _ _ _) ⟨rfl, rfl, rfl, rfl⟩ rfl rfl rfl ?_
        | refine sp_callv rfl rfl rfl rfl rfl rfl (by first | exact ev80 _ | exact ev66 _ _ _) ⟨rfl, rfl, rfl, rfl⟩ rfl rfl rfl ?_
        | refine ep_bin rfl rfl (by first | exact b_add (by omega) (by omega) | exact b_sub (by omega) (by omega) | exact b_and (by omega) (by omega) | exact b_or (by omega) (by omega) | exact b_shr (by omega) | exact b_shl (by omega) (by omega) | rfl) ?_
        | refine ep_pickT rfl rfl ?_ | refine ep_pickF rfl rfl ?_ | refine ep_pickTH rfl (by assumption) rfl ?_ | refine ep_pickFH rfl (by assumption) rfl ?_
        | refine ep_extract rfl rfl ?_ | refine sp_store rfl rfl rfl rfl rfl rfl rfl rfl rfl rfl ?_ | refine ep_conv rfl (by first | exact w_u64 (by omega) (by omega) | exact wrap_id (by omega) (by omega) | rfl) ?_
        | refine ep_not rfl ?_ | refine ep_lenS rfl ?_ | refine ep_lenN rfl ?_ | refine ep_lenE rfl ?_
        | refine sp_box rfl rfl rfl rfl rfl ?_ | refine sp_alloc rfl rfl ?_ | refine sp_build rfl rfl ?_ | refine sp_bslice rfl rfl rfl rfl rfl ?_ | refine ep_empt ?_
        | refine ep_field1 rfl rfl ?_ | refine sp_fieldN rfl rfl rfl ?_ | refine ep_mkfn rfl ?_ | refine ep_nilckP rfl ?_ | refine ep_nilckF rfl ?_
        | refine ep_eqb0 rfl rfl ?_ | refine ep_eqb1 rfl rfl ?_ | refine ep_eqa0 rfl rfl ?_ | refine ep_eqa1 rfl rfl ?_)
      | (refine g_ops ?_; first | refine eo_none ?_ | refine eo_nil ?_ | refine eo_yes rfl ?_ | refine eo_no rfl ?_ | refine eo_und rfl ?_ | refine eo_yesH rfl (by assumption) ?_ | refine eo_noH rfl (by assumption) ?_)
      | (refine g_dops ?_; first | refine ed_none ?_ | refine ed_nil ?_ | refine ed_yes rfl ?_ | refine ed_no rfl ?_ | refine ed_und rfl ?_ | refine ed_yesH rfl (by assumption) ?_ | refine ed_noH rfl (by assumption) ?_)
      | refine ed_same rfl ?_ | refine ed_one rfl rfl rfl rfl ?_ | refine ed_write rfl rfl ?_
      | (refine g_code ?_; first
        | refine ec_seq ?_ | refine ec_region ?_ | refine ec_draw ?_ | refine ec_block ?_ | refine ec_skip ?_ | refine ec_exit ?_ | refine ec_ret ?_
        | refine ec_condT rfl ?_ | refine ec_condF rfl ?_ | refine ec_condTH rfl (by assumption) ?_ | refine ec_condFH rfl (by assumption) ?_)
      | refine ek_seqN ?_ | refine ek_seqX ?_ | refine ek_seqR ?_ | refine ek_blkN ?_ | refine ek_blkR ?_ | refine ek_blkX ?_ | refine ek_blkY rfl ?_)
    refine sfin (.inr rfl) (by rfl) (by rfl) (by exact ⟨rfl, rfl, rfl⟩) (by rfl) (by rfl) (by exact congrArg V.bool (by simp [isFn, h1])) (by rfl)
-- loop.example/g01323/spec.l01Is
def m68 : MC := (.seq (.region [⟨(.box (.t 0)), (some 1), none⟩, ⟨(.mov (.k (.bool false))), (some 2), none⟩] false) (.seq (.region [⟨(.fieldAddr 0 (.t 1)), (some 3), none⟩, ⟨(.load none (.t 3)), (some 4), none⟩, ⟨(.call 72 [(.t 4), (.k (.int .i64 0)), (.k (.int .i64 4))]), (some 5), none⟩, ⟨(.mov (.t 5)), (some 6), none⟩, ⟨(.fieldAddr 1 (.t 1)), (some 7), (some (6, true))⟩, ⟨(.load none (.t 7)), (some 8), (some (6, true))⟩, ⟨(.fieldAddr 0 (.t 1)), (some 9), (some (6, true))⟩, ⟨(.load none (.t 9)), (some 10), (some (6, true))⟩, ⟨(.call 104 [(.t 10)]), (some 11), (some (6, true))⟩, ⟨(.call 72 [(.t 8), (.k (.int .i64 0)), (.t 11)]), (some 12), (some (6, true))⟩, ⟨(.pick (.t 6) (.t 12) (.k (.bool false))), (some 13), none⟩, ⟨(.mov (.t 13)), (some 2), none⟩] true) .ret))
theorem has68 : Has cx 68 14 m68 [(.tmp 2)] :=
  ⟨⟨Try.f68, Try.f68.body.getD .skip, by kernel_rfl, by kernel_rfl, by kernel_rfl, by kernel_rfl, by kernel_rfl, by kernel_rfl⟩⟩
theorem ev68 (p t : Int) : Ev cx 68 [.agg [.int .i64 p, .int .i64 t]] [] (.bool (isFn p t)) [] := by
  by_cases h1 : 0 ≤ p ∧ p ≤ 4
  · have h2 : decide (0 ≤ p ∧ p ≤ 4) = true := decide_eq_true h1
    obtain ⟨n, rfl⟩ := Int.eq_ofNat_of_zero_le (show 0 ≤ p by omega)
    have h3 : n ≤ 4 := by omega
    obtain ⟨h4, h5, h6, h7⟩ := shN h3
    refine has68.eev rfl rfl ?_
    unfold m68
    repeat' (first
      | (refine g_op ?_; first
        | refine ep_mov rfl ?_ | refine ep_load1 rfl rfl rfl rfl ?_ | refine ep_fieldAddr rfl ?_ | refine sp_loadN rfl rfl rfl rfl rfl ?_
        | refine ep_call0 rfl (by first | exact ev72 _ _ _ | exact ev104 _ h3) rfl rfl ?_
        | refine sp_call rfl rfl rfl rfl (by first | exact ev72 _ _ _ | exact ev104 _ h3) ⟨rfl, rfl, rfl, rfl⟩ rfl rfl rfl ?_
        | refine sp_callv rfl rfl rfl rfl rfl rfl (by first | exact ev72 _ _ _ | exact ev104 _ h3) ⟨rfl, rfl, rfl, rfl⟩ rfl rfl rfl ?_
        | refine ep_bin rfl rfl (by first | exact b_add (by omega) (by omega) | exact b_sub (by omega) (by omega) | exact b_and (by omega) (by omega) | exact b_or (by omega) (by omega) | exact b_shr (by omega) | exact b_shl (by omega) (by omega) | rfl) ?_
        | refine ep_pickT rfl rfl ?_ | refine ep_pickF rfl rfl ?_ | refine ep_pickTH rfl (by assumption) rfl ?_ | refine ep_pickFH rfl (by assumption) rfl ?_
        | refine ep_extract rfl rfl ?_ | refine sp_store rfl rfl rfl rfl rfl rfl rfl rfl rfl rfl ?_ | refine ep_conv rfl (by first | exact w_u64 (by omega) (by omega) | exact wrap_id (by omega) (by omega) | rfl) ?_
        | refine ep_not rfl ?_ | refine ep_lenS rfl ?_ | refine ep_lenN rfl ?_ | refine ep_lenE rfl ?_
        | refine sp_box rfl rfl rfl rfl rfl ?_ | refine sp_alloc rfl rfl ?_ | refine sp_build rfl rfl ?_ | refine sp_bslice rfl rfl rfl rfl rfl ?_ | refine ep_empt ?_
        | refine ep_field1 rfl rfl ?_ | refine sp_fieldN rfl rfl rfl ?_ | refine ep_mkfn rfl ?_ | refine ep_nilckP rfl ?_ | refine ep_nilckF rfl ?_
        | refine ep_eqb0 rfl rfl ?_ | refine ep_eqb1 rfl rfl ?_ | refine ep_eqa0 rfl rfl ?_ | refine ep_eqa1 rfl rfl ?_)
      | (refine g_ops ?_; first | refine eo_none ?_ | refine eo_nil ?_ | refine eo_yes rfl ?_ | refine eo_no rfl ?_ | refine eo_und rfl ?_ | refine eo_yesH rfl (by assumption) ?_ | refine eo_noH rfl (by assumption) ?_)
      | (refine g_dops ?_; first | refine ed_none ?_ | refine ed_nil ?_ | refine ed_yes rfl ?_ | refine ed_no rfl ?_ | refine ed_und rfl ?_ | refine ed_yesH rfl (by assumption) ?_ | refine ed_noH rfl (by assumption) ?_)
      | refine ed_same rfl ?_ | refine ed_one rfl rfl rfl rfl ?_ | refine ed_write rfl rfl ?_
      | (refine g_code ?_; first
        | refine ec_seq ?_ | refine ec_region ?_ | refine ec_draw ?_ | refine ec_block ?_ | refine ec_skip ?_ | refine ec_exit ?_ | refine ec_ret ?_
        | refine ec_condT rfl ?_ | refine ec_condF rfl ?_ | refine ec_condTH rfl (by assumption) ?_ | refine ec_condFH rfl (by assumption) ?_)
      | refine ek_seqN ?_ | refine ek_seqX ?_ | refine ek_seqR ?_ | refine ek_blkN ?_ | refine ek_blkR ?_ | refine ek_blkX ?_ | refine ek_blkY rfl ?_)
    refine sfin (.inr rfl) (by rfl) (by rfl) (by exact ⟨rfl, rfl, rfl⟩) (by rfl) (by rfl) (by exact congrArg V.bool (by simp [isFn, h1])) (by rfl)
  · have h2 : decide (0 ≤ p ∧ p ≤ 4) = false := decide_eq_false h1
    refine has68.eev rfl rfl ?_
    unfold m68
    repeat' (first
      | (refine g_op ?_; first
        | refine ep_mov rfl ?_ | refine ep_load1 rfl rfl rfl rfl ?_ | refine ep_fieldAddr rfl ?_ | refine sp_loadN rfl rfl rfl rfl rfl ?_
        | refine ep_call0 rfl (by first | exact ev72 _ _ _) rfl rfl ?_
        | refine sp_call rfl rfl rfl rfl (by first | exact ev72 _ _ _) ⟨rfl, rfl, rfl, rfl⟩ rfl rfl rfl ?_
        | refine sp_callv rfl rfl rfl rfl rfl rfl (by first | exact ev72 _ _ _) ⟨rfl, rfl, rfl, rfl⟩ rfl rfl rfl ?_
        | refine ep_bin rfl rfl (by first | exact b_add (by omega) (by omega) | exact b_sub (by omega) (by omega) | exact b_and (by omega) (by omega) | exact b_or (by omega) (by omega) | exact b_shr (by omega) | exact b_shl (by omega) (by omega) | rfl) ?_
        | refine ep_pickT rfl rfl ?_ | refine ep_pickF rfl rfl ?_ | refine ep_pickTH rfl (by assumption) rfl ?_ | refine ep_pickFH rfl (by assumption) rfl ?_
        | refine ep_extract rfl rfl ?_ | refine sp_store rfl rfl rfl rfl rfl rfl rfl rfl rfl rfl ?_ | refine ep_conv rfl (by first | exact w_u64 (by omega) (by omega) | exact wrap_id (by omega) (by omega) | rfl) ?_
        | refine ep_not rfl ?_ | refine ep_lenS rfl ?_ | refine ep_lenN rfl ?_ | refine ep_lenE rfl ?_
        | refine sp_box rfl rfl rfl rfl rfl ?_ | refine sp_alloc rfl rfl ?_ | refine sp_build rfl rfl ?_ | refine sp_bslice rfl rfl rfl rfl rfl ?_ | refine ep_empt ?_
        | refine ep_field1 rfl rfl ?_ | refine sp_fieldN rfl rfl rfl ?_ | refine ep_mkfn rfl ?_ | refine ep_nilckP rfl ?_ | refine ep_nilckF rfl ?_
        | refine ep_eqb0 rfl rfl ?_ | refine ep_eqb1 rfl rfl ?_ | refine ep_eqa0 rfl rfl ?_ | refine ep_eqa1 rfl rfl ?_)
      | (refine g_ops ?_; first | refine eo_none ?_ | refine eo_nil ?_ | refine eo_yes rfl ?_ | refine eo_no rfl ?_ | refine eo_und rfl ?_ | refine eo_yesH rfl (by assumption) ?_ | refine eo_noH rfl (by assumption) ?_)
      | (refine g_dops ?_; first | refine ed_none ?_ | refine ed_nil ?_ | refine ed_yes rfl ?_ | refine ed_no rfl ?_ | refine ed_und rfl ?_ | refine ed_yesH rfl (by assumption) ?_ | refine ed_noH rfl (by assumption) ?_)
      | refine ed_same rfl ?_ | refine ed_one rfl rfl rfl rfl ?_ | refine ed_write rfl rfl ?_
      | (refine g_code ?_; first
        | refine ec_seq ?_ | refine ec_region ?_ | refine ec_draw ?_ | refine ec_block ?_ | refine ec_skip ?_ | refine ec_exit ?_ | refine ec_ret ?_
        | refine ec_condT rfl ?_ | refine ec_condF rfl ?_ | refine ec_condTH rfl (by assumption) ?_ | refine ec_condFH rfl (by assumption) ?_)
      | refine ek_seqN ?_ | refine ek_seqX ?_ | refine ek_seqR ?_ | refine ek_blkN ?_ | refine ek_blkR ?_ | refine ek_blkX ?_ | refine ek_blkY rfl ?_)
    refine sfin (.inr rfl) (by rfl) (by rfl) (by exact ⟨rfl, rfl, rfl⟩) (by rfl) (by rfl) (by exact congrArg V.bool (by simp [isFn, h1])) (by rfl)
-- loop.example/g01323/laws.toFunc
def m22 : MC := (.seq (.region [⟨(.box (.t 0)), (some 1), none⟩, ⟨(.alloc [(.int .i64 0), (.int .i64 0)]), (some 2), none⟩] false) (.seq (.region [⟨(.alloc [(.int .i64 0), (.int .i64 0)]), (some 3), none⟩] false) (.seq (.region [⟨(.fieldAddr 0 (.t 1)), (some 4), none⟩, ⟨(.load none (.t 4)), (some 5), none⟩, ⟨(.fieldAddr 0 (.t 3)), (some 6), none⟩, ⟨(.store 1 (.t 6) (.t 5)), none, none⟩] false) (.seq (.region [⟨(.fieldAddr 1 (.t 1)), (some 7), none⟩, ⟨(.load none (.t 7)), (some 8), none⟩, ⟨(.fieldAddr 1 (.t 3)), (some 9), none⟩, ⟨(.store 1 (.t 9) (.t 8)), none, none⟩] false) (.seq (.region [⟨(.load (some 2) (.t 3)), (some 10), none⟩, ⟨(.store 2 (.t 2) (.t 10)), none, none⟩] false) .ret)))))
theorem has22 : Has cx 22 11 m22 [(.cell 2 (some 2))] :=
  ⟨⟨Try.f22, Try.f22.body.getD .skip, by kernel_rfl, by kernel_rfl, by kernel_rfl, by kernel_rfl, by kernel_rfl, by kernel_rfl⟩⟩
theorem ev22 (a b : Int) : Ev cx 22 [.agg [.int .i64 a, .int .i64 b]] [] (.agg [.int .i64 a, .int .i64 b]) [] := by
  refine has22.eev rfl rfl ?_
  unfold m22
  repeat' (first
    | (refine g_op ?_; first
      | refine ep_mov rfl ?_ | refine ep_load1 rfl rfl rfl rfl ?_ | refine ep_fieldAddr rfl ?_ | refine sp_loadN rfl rfl rfl rfl rfl ?_
      | refine ep_bin rfl rfl (by first | exact b_add (by omega) (by omega) | exact b_sub (by omega) (by omega) | exact b_and (by omega) (by omega) | exact b_or (by omega) (by omega) | exact b_shr (by omega) | exact b_shl (by omega) (by omega) | rfl) ?_
      | refine ep_pickT rfl rfl ?_ | refine ep_pickF rfl rfl ?_ | refine ep_pickTH rfl (by assumption) rfl ?_ | refine ep_pickFH rfl (by assumption) rfl ?_
      | refine ep_extract rfl rfl ?_ | refine sp_store rfl rfl rfl rfl rfl rfl rfl rfl rfl rfl ?_ | refine ep_conv rfl (by first | exact w_u64 (by omega) (by omega) | exact wrap_id (by omega) (by omega) | rfl) ?_
      | refine ep_not rfl ?_ | refine ep_lenS rfl ?_ | refine ep_lenN rfl ?_ | refine ep_lenE rfl ?_
      | refine sp_box rfl rfl rfl rfl rfl ?_ | refine sp_alloc rfl rfl ?_ | refine sp_build rfl rfl ?_ | refine sp_bslice rfl rfl rfl rfl rfl ?_ | refine ep_empt ?_
      | refine ep_field1 rfl rfl ?_ | refine sp_fieldN rfl rfl rfl ?_ | refine ep_mkfn rfl ?_ | refine ep_nilckP rfl ?_ | refine ep_nilckF rfl ?_
      | refine ep_eqb0 rfl rfl ?_ | refine ep_eqb1 rfl rfl ?_ | refine ep_eqa0 rfl rfl ?_ | refine ep_eqa1 rfl rfl ?_)
    | (refine g_ops ?_; first | refine eo_none ?_ | refine eo_nil ?_ | refine eo_yes rfl ?_ | refine eo_no rfl ?_ | refine eo_und rfl ?_ | refine eo_yesH rfl (by assumption) ?_ | refine eo_noH rfl (by assumption) ?_)
    | (refine g_dops ?_; first | refine ed_none ?_ | refine ed_nil ?_ | refine ed_yes rfl ?_ | refine ed_no rfl ?_ | refine ed_und rfl ?_ | refine ed_yesH rfl (by assumption) ?_ | refine ed_noH rfl (by assumption) ?_)
    | refine ed_same rfl ?_ | refine ed_one rfl rfl rfl rfl ?_ | refine ed_write rfl rfl ?_
    | (refine g_code ?_; first
      | refine ec_seq ?_ | refine ec_region ?_ | refine ec_draw ?_ | refine ec_block ?_ | refine ec_skip ?_ | refine ec_exit ?_ | refine ec_ret ?_
      | refine ec_condT rfl ?_ | refine ec_condF rfl ?_ | refine ec_condTH rfl (by assumption) ?_ | refine ec_condFH rfl (by assumption) ?_)
    | refine ek_seqN ?_ | refine ek_seqX ?_ | refine ek_seqR ?_ | refine ek_blkN ?_ | refine ek_blkR ?_ | refine ek_blkX ?_ | refine ek_blkY rfl ?_)
  refine sfin (.inr rfl) (by rfl) (by rfl) (by exact ⟨rfl, rfl, rfl⟩) (by rfl) (by rfl) (by rfl) (by rfl)
-- loop.example/g01323/spec.l01At
def m95 : MC := (.seq (.region [⟨(.box (.t 0)), (some 2), none⟩, ⟨(.mov (.k (.int .i64 0))), (some 4), none⟩] false) (.seq (.region [⟨(.fieldAddr 1 (.t 2)), (some 5), none⟩, ⟨(.load none (.t 5)), (some 6), none⟩, ⟨(.mov (.t 1)), (some 7), none⟩, ⟨(.conv .u64 (.t 7)), (some 8), none⟩, ⟨(.bin .shr (.t 6) (.t 8)), (some 9), none⟩, ⟨(.bin .and (.t 9) (.k (.int .i64 1))), (some 10), none⟩, ⟨(.mov (.t 10)), (some 4), none⟩] false) .ret))
theorem has95 : Has cx 95 11 m95 [(.tmp 4)] :=
  ⟨⟨Try.f95, Try.f95.body.getD .skip, by kernel_rfl, by kernel_rfl, by kernel_rfl, by kernel_rfl, by kernel_rfl, by kernel_rfl⟩⟩
theorem ev95 (n : Int) (b r : Nat) (hb : b < 9223372036854775808) (hr : r ≤ 64) : Ev cx 95 [.agg [.int .i64 n, .int .i64 b], .int .i64 r] [] (.int .i64 (bt b r : Nat)) [] := by
  refine has95.eev rfl rfl ?_
  unfold m95
  repeat' (first
    | (refine g_op ?_; first
      | refine ep_mov rfl ?_ | refine ep_load1 rfl rfl rfl rfl ?_ | refine ep_fieldAddr rfl ?_ | refine sp_loadN rfl rfl rfl rfl rfl ?_
      | refine ep_bin rfl rfl (by first | exact b_shr hr | exact b_bt hb | exact b_add (by omega) (by omega) | exact b_sub (by omega) (by omega) | exact b_and (by omega) (by omega) | exact b_or (by omega) (by omega) | exact b_shr (by omega) | exact b_shl (by omega) (by omega) | rfl) ?_
      | refine ep_pickT rfl rfl ?_ | refine ep_pickF rfl rfl ?_ | refine ep_pickTH rfl (by assumption) rfl ?_ | refine ep_pickFH rfl (by assumption) rfl ?_
      | refine ep_extract rfl rfl ?_ | refine sp_store rfl rfl rfl rfl rfl rfl rfl rfl rfl rfl ?_ | refine ep_conv rfl (by first | exact w_u64 (by omega) (by omega) | exact wrap_id (by omega) (by omega) | rfl) ?_
      | refine ep_not rfl ?_ | refine ep_lenS rfl ?_ | refine ep_lenN rfl ?_ | refine ep_lenE rfl ?_
      | refine sp_box rfl rfl rfl rfl rfl ?_ | refine sp_alloc rfl rfl ?_ | refine sp_build rfl rfl ?_ | refine sp_bslice rfl rfl rfl rfl rfl ?_ | refine ep_empt ?_
      | refine ep_field1 rfl rfl ?_ | refine sp_fieldN rfl rfl rfl ?_ | refine ep_mkfn rfl ?_ | refine ep_nilckP rfl ?_ | refine ep_nilckF rfl ?_
      | refine ep_eqb0 rfl rfl ?_ | refine ep_eqb1 rfl rfl ?_ | refine ep_eqa0 rfl rfl ?_ | refine ep_eqa1 rfl rfl ?_)
    | (refine g_ops ?_; first | refine eo_none ?_ | refine eo_nil ?_ | refine eo_yes rfl ?_ | refine eo_no rfl ?_ | refine eo_und rfl ?_ | refine eo_yesH rfl (by assumption) ?_ | refine eo_noH rfl (by assumption) ?_)
    | (refine g_dops ?_; first | refine ed_none ?_ | refine ed_nil ?_ | refine ed_yes rfl ?_ | refine ed_no rfl ?_ | refine ed_und rfl ?_ | refine ed_yesH rfl (by assumption) ?_ | refine ed_noH rfl (by assumption) ?_)
    | refine ed_same rfl ?_ | refine ed_one rfl rfl rfl rfl ?_ | refine ed_write rfl rfl ?_
    | (refine g_code ?_; first
      | refine ec_seq ?_ | refine ec_region ?_ | refine ec_draw ?_ | refine ec_block ?_ | refine ec_skip ?_ | refine ec_exit ?_ | refine ec_ret ?_
      | refine ec_condT rfl ?_ | refine ec_condF rfl ?_ | refine ec_condTH rfl (by assumption) ?_ | refine ec_condFH rfl (by assumption) ?_)
    | refine ek_seqN ?_ | refine ek_seqX ?_ | refine ek_seqR ?_ | refine ek_blkN ?_ | refine ek_blkR ?_ | refine ek_blkX ?_ | refine ek_blkY rfl ?_)
  refine sfin (.inr rfl) (by rfl) (by rfl) (by exact ⟨rfl, rfl, rfl⟩) (by rfl) (by rfl) (by rfl) (by rfl)
def monoR (p t : Int) : Bool × Int := if isFn p t = true then (monoB p.toNat t.toNat, 0) else (false, 1)
def strP (b i j r : Nat) : Bool := !(decide (bt r i = 0) && decide (bt r j = 0) && decide (bt b (r ||| R2 i) < bt b (r ||| R2 j)))
def strB (n b i j : Nat) : Bool := allF (strP b i j) 0 (R2 n)
-- (loop.example/g01323/impl.Func).isAsStrong
def m74_0 : MC := (.seq (.region [⟨(.bin .lss (.t 10) (.t 9)), (some 11), none⟩] false) (.seq (.cond (.t 11) .skip (.exit 0)) (.seq (.block 1 (.seq (.region [⟨(.mov (.t 10)), (some 12), none⟩, ⟨(.mov (.t 12)), (some 7), none⟩] false) (.seq (.region [⟨(.mov (.t 7)), (some 13), none⟩, ⟨(.mov (.t 1)), (some 14), none⟩, ⟨(.call 118 [(.t 13), (.t 14)]), (some 15), none⟩, ⟨(.bin .eql (.t 15) (.k (.int .i64 0))), (some 16), none⟩, ⟨(.mov (.t 16)), (some 17), none⟩, ⟨(.mov (.t 7)), (some 18), (some (17, true))⟩, ⟨(.mov (.t 2)), (some 19), (some (17, true))⟩, ⟨(.call 118 [(.t 18), (.t 19)]), (some 20), (some (17, true))⟩, ⟨(.bin .eql (.t 20) (.k (.int .i64 0))), (some 21), (some (17, true))⟩, ⟨(.pick (.t 17) (.t 21) (.k (.bool false))), (some 22), none⟩, ⟨(.mov (.t 22)), (some 23), none⟩, ⟨(.load (some 2) (.t 3)), (some 24), (some (23, true))⟩, ⟨(.mov (.t 7)), (some 25), (some (23, true))⟩, ⟨(.mov (.t 1)), (some 26), (some (23, true))⟩, ⟨(.bin .shl (.k (.int .i64 1)) (.t 26)), (some 27), (some (23, true))⟩, ⟨(.bin .or (.t 25) (.t 27)), (some 28), (some (23, true))⟩, ⟨(.call 107 [(.t 24), (.t 28)]), (some 29), (some (23, true))⟩, ⟨(.load (some 2) (.t 3)), (some 30), (some (23, true))⟩, ⟨(.mov (.t 7)), (some 31), (some (23, true))⟩, ⟨(.mov (.t 2)), (some 32), (some (23, true))⟩, ⟨(.bin .shl (.k (.int .i64 1)) (.t 32)), (some 33), (some (23, true))⟩, ⟨(.bin .or (.t 31) (.t 33)), (some 34), (some (23, true))⟩, ⟨(.call 107 [(.t 30), (.t 34)]), (some 35), (some (23, true))⟩, ⟨(.bin .lss (.t 29) (.t 35)), (some 36), (some (23, true))⟩, ⟨(.pick (.t 23) (.t 36) (.k (.bool false))), (some 37), none⟩] true) (.cond (.t 37) (.seq (.region [⟨(.mov (.k (.bool false))), (some 6), none⟩] false) .ret) .skip)))) (.region [⟨(.bin .add (.t 10) (.k (.int .i64 1))), (some 38), none⟩, ⟨(.mov (.t 38)), (some 10), none⟩] false))))
def m74 : MC := (.seq (.region [⟨(.box (.t 0)), (some 3), none⟩, ⟨(.mov (.k (.bool false))), (some 6), none⟩] false) (.seq (.seq (.region [⟨(.load (some 2) (.t 3)), (some 8), none⟩, ⟨(.call 108 [(.t 8)]), (some 9), none⟩, ⟨(.mov (.k (.int .i64 0))), (some 10), none⟩] false) (.block 0 (.loop m74_0))) (.seq (.region [⟨(.mov (.k (.bool true))), (some 6), none⟩] false) .ret)))
theorem has74 : Has cx 74 39 m74 [(.tmp 6)] :=
  ⟨⟨Try.f74, Try.f74.body.getD .skip, by kernel_rfl, by kernel_rfl, by kernel_rfl, by kernel_rfl, by kernel_rfl, by kernel_rfl⟩⟩
theorem lp74_0 (n b i j : Nat) (hn : n ≤ 4) (hb : b < 65536) (hi : i < n) (hj : j < n) (o : Out) (ho : (if strB n b i j = true then (⟨.exit 0, [], []⟩ : Out) else ⟨.ret, [(6, .bool false)], []⟩) = o) :
    LpS cx 39 0 m74_0 [(1, .int .i64 i), (2, .int .i64 j), (3, .ptr 0 0), (9, .int .i64 (R2 n : Nat)), (10, .int .i64 (0 : Nat))] [⟨[.int .i64 n, .int .i64 b], 1, 0, some 0, true⟩] o.x o.e o.h := by
  obtain ⟨h1, h2, h3, h4⟩ := shN hn
  have h5 := R2_le hi
  have h6 := R2_le hj
  refine lp_all (R2 n) (strP b i j) (fun r => [(1, .int .i64 i), (2, .int .i64 j), (3, .ptr 0 0), (9, .int .i64 (R2 n : Nat)), (10, .int .i64 (r : Nat))]) (fun _ => [⟨[.int .i64 n, .int .i64 b], 1, 0, some 0, true⟩]) _ _ ?_ ?_ ?_ (R2 n) 0 o (by omega) ho
  · intro r hr hp
    have h7 : decide ((r : Int) < (R2 n : Nat)) = true := decide_eq_true (by omega)
    have h8 := or_lt hr (show R2 i < R2 n by omega)
    have h9 := or_lt hr (show R2 j < R2 n by omega)
    unfold m74_0
    repeat' (first
      | (refine g_op ?_; first
        | refine ep_mov rfl ?_ | refine ep_load1 rfl rfl rfl rfl ?_ | refine ep_fieldAddr rfl ?_ | refine sp_loadN rfl rfl rfl rfl rfl ?_
        | refine ep_call0 rfl (by first | exact ev118 _ _ (by omega) (by omega) | exact ev107 _ _ _ (by omega) (by omega)) rfl rfl ?_
        | refine sp_call rfl rfl rfl rfl (by first | exact ev118 _ _ (by omega) (by omega) | exact ev107 _ _ _ (by omega) (by omega)) ⟨rfl, rfl, rfl, rfl⟩ rfl rfl rfl ?_
        | refine sp_callv rfl rfl rfl rfl rfl rfl (by first | exact ev118 _ _ (by omega) (by omega) | exact ev107 _ _ _ (by omega) (by omega)) ⟨rfl, rfl, rfl, rfl⟩ rfl rfl rfl ?_
        | refine ep_bin rfl rfl (by first | exact b_shl1 (by omega) (by omega) | exact b_add (by omega) (by omega) | exact b_sub (by omega) (by omega) | exact b_and (by omega) (by omega) | exact b_or (by omega) (by omega) | exact b_shr (by omega) | exact b_shl (by omega) (by omega) | rfl) ?_
        | refine ep_pickT rfl rfl ?_ | refine ep_pickF rfl rfl ?_ | refine ep_pickTH rfl (by assumption) rfl ?_ | refine ep_pickFH rfl (by assumption) rfl ?_
        | refine ep_extract rfl rfl ?_ | refine sp_store rfl rfl rfl rfl rfl rfl rfl rfl rfl rfl ?_ | refine ep_conv rfl (by first | exact w_u64 (by omega) (by omega) | exact wrap_id (by omega) (by omega) | rfl) ?_
        | refine ep_not rfl ?_ | refine ep_lenS rfl ?_ | refine ep_lenN rfl ?_ | refine ep_lenE rfl ?_
        | refine sp_box rfl rfl rfl rfl rfl ?_ | refine sp_alloc rfl rfl ?_ | refine sp_build rfl rfl ?_ | refine sp_bslice rfl rfl rfl rfl rfl ?_ | refine ep_empt ?_
        | refine ep_field1 rfl rfl ?_ | refine sp_fieldN rfl rfl rfl ?_ | refine ep_mkfn rfl ?_ | refine ep_nilckP rfl ?_ | refine ep_nilckF rfl ?_
        | refine ep_eqb0 rfl rfl ?_ | refine ep_eqb1 rfl rfl ?_ | refine ep_eqa0 rfl rfl ?_ | refine ep_eqa1 rfl rfl ?_)
      | (refine g_ops ?_; first | refine eo_none ?_ | refine eo_nil ?_ | refine eo_yes rfl ?_ | refine eo_no rfl ?_ | refine eo_und rfl ?_ | refine eo_yesH rfl (by assumption) ?_ | refine eo_noH rfl (by assumption) ?_)
      | (refine g_dops ?_; first | refine ed_none ?_ | refine ed_nil ?_ | refine ed_yes rfl ?_ | refine ed_no rfl ?_ | refine ed_und rfl ?_ | refine ed_yesH rfl (by assumption) ?_ | refine ed_noH rfl (by assumption) ?_)
      | refine ed_same rfl ?_ | refine ed_one rfl rfl rfl rfl ?_ | refine ed_write rfl rfl ?_
      | (refine g_code ?_; first
        | refine ec_seq ?_ | refine ec_region ?_ | refine ec_draw ?_ | refine ec_block ?_ | refine ec_skip ?_ | refine ec_exit ?_ | refine ec_ret ?_
        | refine ec_condT rfl ?_ | refine ec_condF rfl ?_ | refine ec_condTH rfl (by assumption) ?_ | refine ec_condFH rfl (by assumption) ?_)
      | refine ek_seqN ?_ | refine ek_seqX ?_ | refine ek_seqR ?_ | refine ek_blkN ?_ | refine ek_blkR ?_ | refine ek_blkX ?_ | refine ek_blkY rfl ?_
      | (refine eo_split rfl ?_ ?_ <;> intro hsp) | (refine ed_split rfl ?_ ?_ <;> intro hsp) | (refine ec_cond rfl ?_ ?_ <;> intro hsp))
    all_goals first
      | exact rnd_on (by rfl) (scmp (by rfl) (by rfl) (by exact ⟨rfl, rfl, rfl⟩) (by rfl) (by rfl) (by rfl))
      | (exfalso; simp_all [strP]; done)
      | (exfalso; simp_all [strP]; omega)
  · intro r hr hp
    have h7 : decide ((r : Int) < (R2 n : Nat)) = true := decide_eq_true (by omega)
    have h8 := or_lt hr (show R2 i < R2 n by omega)
    have h9 := or_lt hr (show R2 j < R2 n by omega)
    unfold m74_0
    repeat' (first
      | (refine g_op ?_; first
        | refine ep_mov rfl ?_ | refine ep_load1 rfl rfl rfl rfl ?_ | refine ep_fieldAddr rfl ?_ | refine sp_loadN rfl rfl rfl rfl rfl ?_
        | refine ep_call0 rfl (by first | exact ev118 _ _ (by omega) (by omega) | exact ev107 _ _ _ (by omega) (by omega)) rfl rfl ?_
        | refine sp_call rfl rfl rfl rfl (by first | exact ev118 _ _ (by omega) (by omega) | exact ev107 _ _ _ (by omega) (by omega)) ⟨rfl, rfl, rfl, rfl⟩ rfl rfl rfl ?_
        | refine sp_callv rfl rfl rfl rfl rfl rfl (by first | exact ev118 _ _ (by omega) (by omega) | exact ev107 _ _ _ (by omega) (by omega)) ⟨rfl, rfl, rfl, rfl⟩ rfl rfl rfl ?_
        | refine ep_bin rfl rfl (by first | exact b_shl1 (by omega) (by omega) | exact b_add (by omega) (by omega) | exact b_sub (by omega) (by omega) | exact b_and (by omega) (by omega) | exact b_or (by omega) (by omega) | exact b_shr (by omega) | exact b_shl (by omega) (by omega) | rfl) ?_
        | refine ep_pickT rfl rfl ?_ | refine ep_pickF rfl rfl ?_ | refine ep_pickTH rfl (by assumption) rfl ?_ | refine ep_pickFH rfl (by assumption) rfl ?_
        | refine ep_extract rfl rfl ?_ | refine sp_store rfl rfl rfl rfl rfl rfl rfl rfl rfl rfl ?_ | refine ep_conv rfl (by first | exact w_u64 (by omega) (by omega) | exact wrap_id (by omega) (by omega) | rfl) ?_
        | refine ep_not rfl ?_ | refine ep_lenS rfl ?_ | refine ep_lenN rfl ?_ | refine ep_lenE rfl ?_
        | refine sp_box rfl rfl rfl rfl rfl ?_ | refine sp_alloc rfl rfl ?_ | refine sp_build rfl rfl ?_ | refine sp_bslice rfl rfl rfl rfl rfl ?_ | refine ep_empt ?_
        | refine ep_field1 rfl rfl ?_ | refine sp_fieldN rfl rfl rfl ?_ | refine ep_mkfn rfl ?_ | refine ep_nilckP rfl ?_ | refine ep_nilckF rfl ?_
        | refine ep_eqb0 rfl rfl ?_ | refine ep_eqb1 rfl rfl ?_ | refine ep_eqa0 rfl rfl ?_ | refine ep_eqa1 rfl rfl ?_)
      | (refine g_ops ?_; first | refine eo_none ?_ | refine eo_nil ?_ | refine eo_yes rfl ?_ | refine eo_no rfl ?_ | refine eo_und rfl ?_ | refine eo_yesH rfl (by assumption) ?_ | refine eo_noH rfl (by assumption) ?_)
      | (refine g_dops ?_; first | refine ed_none ?_ | refine ed_nil ?_ | refine ed_yes rfl ?_ | refine ed_no rfl ?_ | refine ed_und rfl ?_ | refine ed_yesH rfl (by assumption) ?_ | refine ed_noH rfl (by assumption) ?_)
      | refine ed_same rfl ?_ | refine ed_one rfl rfl rfl rfl ?_ | refine ed_write rfl rfl ?_
      | (refine g_code ?_; first
        | refine ec_seq ?_ | refine ec_region ?_ | refine ec_draw ?_ | refine ec_block ?_ | refine ec_skip ?_ | refine ec_exit ?_ | refine ec_ret ?_
        | refine ec_condT rfl ?_ | refine ec_condF rfl ?_ | refine ec_condTH rfl (by assumption) ?_ | refine ec_condFH rfl (by assumption) ?_)
      | refine ek_seqN ?_ | refine ek_seqX ?_ | refine ek_seqR ?_ | refine ek_blkN ?_ | refine ek_blkR ?_ | refine ek_blkX ?_ | refine ek_blkY rfl ?_
      | (refine eo_split rfl ?_ ?_ <;> intro hsp) | (refine ed_split rfl ?_ ?_ <;> intro hsp) | (refine ec_cond rfl ?_ ?_ <;> intro hsp))
    all_goals first
      | exact rnd_out (by rfl) (by simp) (scmp (by rfl) (by rfl) (by exact ⟨rfl, rfl, rfl⟩) (by rfl) (by rfl) (by rfl))
      | (exfalso; simp_all [strP]; done)
      | (exfalso; simp_all [strP]; omega)
  · have h7 : decide (((R2 n : Nat) : Int) < (R2 n : Nat)) = false := decide_eq_false (by omega)
    unfold m74_0
    repeat' (first
      | (refine g_op ?_; first
        | refine ep_mov rfl ?_ | refine ep_load1 rfl rfl rfl rfl ?_ | refine ep_fieldAddr rfl ?_ | refine sp_loadN rfl rfl rfl rfl rfl ?_
        | refine ep_bin rfl rfl (by first | exact b_add (by omega) (by omega) | exact b_sub (by omega) (by omega) | exact b_and (by omega) (by omega) | exact b_or (by omega) (by omega) | exact b_shr (by omega) | exact b_shl (by omega) (by omega) | rfl) ?_
        | refine ep_pickT rfl rfl ?_ | refine ep_pickF rfl rfl ?_ | refine ep_pickTH rfl (by assumption) rfl ?_ | refine ep_pickFH rfl (by assumption) rfl ?_
        | refine ep_extract rfl rfl ?_ | refine sp_store rfl rfl rfl rfl rfl rfl rfl rfl rfl rfl ?_ | refine ep_conv rfl (by first | exact w_u64 (by omega) (by omega) | exact wrap_id (by omega) (by omega) | rfl) ?_
        | refine ep_not rfl ?_ | refine ep_lenS rfl ?_ | refine ep_lenN rfl ?_ | refine ep_lenE rfl ?_
        | refine sp_box rfl rfl rfl rfl rfl ?_ | refine sp_alloc rfl rfl ?_ | refine sp_build rfl rfl ?_ | refine sp_bslice rfl rfl rfl rfl rfl ?_ | refine ep_empt ?_
        | refine ep_field1 rfl rfl ?_ | refine sp_fieldN rfl rfl rfl ?_ | refine ep_mkfn rfl ?_ | refine ep_nilckP rfl ?_ | refine ep_nilckF rfl ?_
        | refine ep_eqb0 rfl rfl ?_ | refine ep_eqb1 rfl rfl ?_ | refine ep_eqa0 rfl rfl ?_ | refine ep_eqa1 rfl rfl ?_)
      | (refine g_ops ?_; first | refine eo_none ?_ | refine eo_nil ?_ | refine eo_yes rfl ?_ | refine eo_no rfl ?_ | refine eo_und rfl ?_ | refine eo_yesH rfl (by assumption) ?_ | refine eo_noH rfl (by assumption) ?_)
      | (refine g_dops ?_; first | refine ed_none ?_ | refine ed_nil ?_ | refine ed_yes rfl ?_ | refine ed_no rfl ?_ | refine ed_und rfl ?_ | refine ed_yesH rfl (by assumption) ?_ | refine ed_noH rfl (by assumption) ?_)
      | refine ed_same rfl ?_ | refine ed_one rfl rfl rfl rfl ?_ | refine ed_write rfl rfl ?_
      | (refine g_code ?_; first
        | refine ec_seq ?_ | refine ec_region ?_ | refine ec_draw ?_ | refine ec_block ?_ | refine ec_skip ?_ | refine ec_exit ?_ | refine ec_ret ?_
        | refine ec_condT rfl ?_ | refine ec_condF rfl ?_ | refine ec_condTH rfl (by assumption) ?_ | refine ec_condFH rfl (by assumption) ?_)
      | refine ek_seqN ?_ | refine ek_seqX ?_ | refine ek_seqR ?_ | refine ek_blkN ?_ | refine ek_blkR ?_ | refine ek_blkX ?_ | refine ek_blkY rfl ?_)
    exact rnd_out (by rfl) (by simp) (scmp (by rfl) (by rfl) (by exact ⟨rfl, rfl, rfl⟩) (by rfl) (by rfl) (by rfl))
theorem ev74 (n b i j : Nat) (hn : n ≤ 4) (hb : b < 65536) (hi : i < n) (hj : j < n) : Ev cx 74 [.agg [.int .i64 n, .int .i64 b], .int .i64 i, .int .i64 j] [] (.bool (strB n b i j)) [] := by
  cases h : strB n b i j
  · have lp := lp74_0 n b i j hn hb hi hj _ (if_neg (by rw [h]; simp))
    refine has74.eev rfl rfl ?_
    unfold m74
    repeat' (first
      | refine sc_loop lp rfl rfl ⟨rfl, rfl, rfl⟩ rfl rfl rfl ?_
      | (refine g_op ?_; first
        | refine ep_mov rfl ?_ | refine ep_load1 rfl rfl rfl rfl ?_ | refine ep_fieldAddr rfl ?_ | refine sp_loadN rfl rfl rfl rfl rfl ?_
        | refine ep_call0 rfl (by first | exact ev108 _ _ hn) rfl rfl ?_
        | refine sp_call rfl rfl rfl rfl (by first | exact ev108 _ _ hn) ⟨rfl, rfl, rfl, rfl⟩ rfl rfl rfl ?_
        | refine sp_callv rfl rfl rfl rfl rfl rfl (by first | exact ev108 _ _ hn) ⟨rfl, rfl, rfl, rfl⟩ rfl rfl rfl ?_
        | refine ep_bin rfl rfl (by first | exact b_add (by omega) (by omega) | exact b_sub (by omega) (by omega) | exact b_and (by omega) (by omega) | exact b_or (by omega) (by omega) | exact b_shr (by omega) | exact b_shl (by omega) (by omega) | rfl) ?_
        | refine ep_pickT rfl rfl ?_ | refine ep_pickF rfl rfl ?_ | refine ep_pickTH rfl (by assumption) rfl ?_ | refine ep_pickFH rfl (by assumption) rfl ?_
        | refine ep_extract rfl rfl ?_ | refine sp_store rfl rfl rfl rfl rfl rfl rfl rfl rfl rfl ?_ | refine ep_conv rfl (by first | exact w_u64 (by omega) (by omega) | exact wrap_id (by omega) (by omega) | rfl) ?_
        | refine ep_not rfl ?_ | refine ep_lenS rfl ?_ | refine ep_lenN rfl ?_ | refine ep_lenE rfl ?_
        | refine sp_box rfl rfl rfl rfl rfl ?_ | refine sp_alloc rfl rfl ?_ | refine sp_build rfl rfl ?_ | refine sp_bslice rfl rfl rfl rfl rfl ?_ | refine ep_empt ?_
        | refine ep_field1 rfl rfl ?_ | refine sp_fieldN rfl rfl rfl ?_ | refine ep_mkfn rfl ?_ | refine ep_nilckP rfl ?_ | refine ep_nilckF rfl ?_
        | refine ep_eqb0 rfl rfl ?_ | refine ep_eqb1 rfl rfl ?_ | refine ep_eqa0 rfl rfl ?_ | refine ep_eqa1 rfl rfl ?_)
      | (refine g_ops ?_; first | refine eo_none ?_ | refine eo_nil ?_ | refine eo_yes rfl ?_ | refine eo_no rfl ?_ | refine eo_und rfl ?_ | refine eo_yesH rfl (by assumption) ?_ | refine eo_noH rfl (by assumption) ?_)
      | (refine g_dops ?_; first | refine ed_none ?_ | refine ed_nil ?_ | refine ed_yes rfl ?_ | refine ed_no rfl ?_ | refine ed_und rfl ?_ | refine ed_yesH rfl (by assumption) ?_ | refine ed_noH rfl (by assumption) ?_)
      | refine ed_same rfl ?_ | refine ed_one rfl rfl rfl rfl ?_ | refine ed_write rfl rfl ?_
      | (refine g_code ?_; first
        | refine ec_seq ?_ | refine ec_region ?_ | refine ec_draw ?_ | refine ec_block ?_ | refine ec_skip ?_ | refine ec_exit ?_ | refine ec_ret ?_
        | refine ec_condT rfl ?_ | refine ec_condF rfl ?_ | refine ec_condTH rfl (by assumption) ?_ | refine ec_condFH rfl (by assumption) ?_)
      | refine ek_seqN ?_ | refine ek_seqX ?_ | refine ek_seqR ?_ | refine ek_blkN ?_ | refine ek_blkR ?_ | refine ek_blkX ?_ | refine ek_blkY rfl ?_)
    refine sfin (.inr rfl) (by rfl) (by rfl) (by exact ⟨rfl, rfl, rfl⟩) (by rfl) (by rfl) (by rfl) (by rfl)
  · have lp := lp74_0 n b i j hn hb hi hj _ (if_pos h)
    refine has74.eev rfl rfl ?_
    unfold m74
    repeat' (first
      | refine sc_loop lp rfl rfl ⟨rfl, rfl, rfl⟩ rfl rfl rfl ?_
      | (refine g_op ?_; first
        | refine ep_mov rfl ?_ | refine ep_load1 rfl rfl rfl rfl ?_ | refine ep_fieldAddr rfl ?_ | refine sp_loadN rfl rfl rfl rfl rfl ?_
        | refine ep_call0 rfl (by first | exact ev108 _ _ hn) rfl rfl ?_
        | refine sp_call rfl rfl rfl rfl (by first | exact ev108 _ _ hn) ⟨rfl, rfl, rfl, rfl⟩ rfl rfl rfl ?_
        | refine sp_callv rfl rfl rfl rfl rfl rfl (by first | exact ev108 _ _ hn) ⟨rfl, rfl, rfl, rfl⟩ rfl rfl rfl ?_
        | refine ep_bin rfl rfl (by first | exact b_add (by omega) (by omega) | exact b_sub (by omega) (by omega) | exact b_and (by omega) (by omega) | exact b_or (by omega) (by omega) | exact b_shr (by omega) | exact b_shl (by omega) (by omega) | rfl) ?_
        | refine ep_pickT rfl rfl ?_ | refine ep_pickF rfl rfl ?_ | refine ep_pickTH rfl (by assumption) rfl ?_ | refine ep_pickFH rfl (by assumption) rfl ?_
        | refine ep_extract rfl rfl ?_ | refine sp_store rfl rfl rfl rfl rfl rfl rfl rfl rfl rfl ?_ | refine ep_conv rfl (by first | exact w_u64 (by omega) (by omega) | exact wrap_id (by omega) (by omega) | rfl) ?_
        | refine ep_not rfl ?_ | refine ep_lenS rfl ?_ | refine ep_lenN rfl ?_ | refine ep_lenE rfl ?_
        | refine sp_box rfl rfl rfl rfl rfl ?_ | refine sp_alloc rfl rfl ?_ | refine sp_build rfl rfl ?_ | refine sp_bslice rfl rfl rfl rfl rfl ?_ | refine ep_empt ?_
        | refine ep_field1 rfl rfl ?_ | refine sp_fieldN rfl rfl rfl ?_ | refine ep_mkfn rfl ?_ | refine ep_nilckP rfl ?_ | refine ep_nilckF rfl ?_
        | refine ep_eqb0 rfl rfl ?_ | refine ep_eqb1 rfl rfl ?_ | refine ep_eqa0 rfl rfl ?_ | refine ep_eqa1 rfl rfl ?_)
      | (refine g_ops ?_; first | refine eo_none ?_ | refine eo_nil ?_ | refine eo_yes rfl ?_ | refine eo_no rfl ?_ | refine eo_und rfl ?_ | refine eo_yesH rfl (by assumption) ?_ | refine eo_noH rfl (by assumption) ?_)
      | (refine g_dops ?_; first | refine ed_none ?_ | refine ed_nil ?_ | refine ed_yes rfl ?_ | refine ed_no rfl ?_ | refine ed_und rfl ?_ | refine ed_yesH rfl (by assumption) ?_ | refine ed_noH rfl (by assumption) ?_)
      | refine ed_same rfl ?_ | refine ed_one rfl rfl rfl rfl ?_ | refine ed_write rfl rfl ?_
      | (refine g_code ?_; first
        | refine ec_seq ?_ | refine ec_region ?_ | refine ec_draw ?_ | refine ec_block ?_ | refine ec_skip ?_ | refine ec_exit ?_ | refine ec_ret ?_
        | refine ec_condT rfl ?_ | refine ec_condF rfl ?_ | refine ec_condTH rfl (by assumption) ?_ | refine ec_condFH rfl (by assumption) ?_)
      | refine ek_seqN ?_ | refine ek_seqX ?_ | refine ek_seqR ?_ | refine ek_blkN ?_ | refine ek_blkR ?_ | refine ek_blkX ?_ | refine ek_blkY rfl ?_)
    refine sfin (.inr rfl) (by rfl) (by rfl) (by exact ⟨rfl, rfl, rfl⟩) (by rfl) (by rfl) (by rfl) (by rfl)
theorem and_R2 (r i : Nat) : (r &&& R2 i = 0) ↔ bt r i = 0 := by
  have h2 : bt r i = 0 ↔ r.testBit i = false := by
    unfold bt
    rw [Nat.testBit_eq_decide_div_mod_eq, Nat.shiftRight_eq_div_pow, Nat.and_one_is_mod]
    simp only [decide_eq_false_iff_not]
    omega
  rw [h2]
  unfold R2
  constructor
  · intro h
    have := congrArg (fun x => x.testBit i) h
    simpa [Nat.testBit_and, Nat.testBit_two_pow_self] using this
  · intro h
    apply Nat.eq_of_testBit_eq
    intro k
    rw [Nat.testBit_and, Nat.testBit_two_pow, Nat.zero_testBit]
    by_cases e : i = k
    · subst e; simp [h]
    · simp [e]
-- loop.example/g01323/spec.l07Strong
def m73_0 : MC := (.seq (.seq (.region [⟨(.mov (.t 9)), (some 16), none⟩, ⟨(.fieldAddr 0 (.t 3)), (some 17), none⟩, ⟨(.load none (.t 17)), (some 18), none⟩, ⟨(.call 96 [(.t 18)]), (some 19), none⟩, ⟨(.bin .lss (.t 16) (.t 19)), (some 20), none⟩] false) (.cond (.t 20) .skip (.exit 0))) (.seq (.block 1 (.seq (.region [⟨(.mov (.t 9)), (some 23), none⟩, ⟨(.mov (.t 7)), (some 24), none⟩, ⟨(.bin .and (.t 23) (.t 24)), (some 25), none⟩, ⟨(.bin .eql (.t 25) (.k (.int .i64 0))), (some 26), none⟩, ⟨(.mov (.t 26)), (some 27), none⟩, ⟨(.mov (.t 9)), (some 28), (some (27, true))⟩, ⟨(.mov (.t 8)), (some 29), (some (27, true))⟩, ⟨(.bin .and (.t 28) (.t 29)), (some 30), (some (27, true))⟩, ⟨(.bin .eql (.t 30) (.k (.int .i64 0))), (some 31), (some (27, true))⟩, ⟨(.pick (.t 27) (.t 31) (.k (.bool false))), (some 32), none⟩, ⟨(.mov (.t 32)), (some 33), none⟩, ⟨(.load (some 2) (.t 3)), (some 34), (some (33, true))⟩, ⟨(.mov (.t 9)), (some 35), (some (33, true))⟩, ⟨(.mov (.t 7)), (some 36), (some (33, true))⟩, ⟨(.bin .or (.t 35) (.t 36)), (some 37), (some (33, true))⟩, ⟨(.call 95 [(.t 34), (.t 37)]), (some 38), (some (33, true))⟩, ⟨(.load (some 2) (.t 3)), (some 39), (some (33, true))⟩, ⟨(.mov (.t 9)), (some 40), (some (33, true))⟩, ⟨(.mov (.t 8)), (some 41), (some (33, true))⟩, ⟨(.bin .or (.t 40) (.t 41)), (some 42), (some (33, true))⟩, ⟨(.call 95 [(.t 39), (.t 42)]), (some 43), (some (33, true))⟩, ⟨(.bin .lss (.t 38) (.t 43)), (some 44), (some (33, true))⟩, ⟨(.pick (.t 33) (.t 44) (.k (.bool false))), (some 45), none⟩] true) (.cond (.t 45) (.seq (.region [⟨(.mov (.k (.bool false))), (some 6), none⟩] false) .ret) .skip))) (.region [⟨(.mov (.t 9)), (some 21), none⟩, ⟨(.bin .add (.t 21) (.k (.int .i64 1))), (some 22), none⟩, ⟨(.mov (.t 22)), (some 9), none⟩] false)))
def m73 : MC := (.seq (.region [⟨(.box (.t 0)), (some 3), none⟩, ⟨(.mov (.k (.bool false))), (some 6), none⟩] false) (.seq (.region [⟨(.mov (.t 1)), (some 10), none⟩, ⟨(.conv .u64 (.t 10)), (some 11), none⟩, ⟨(.bin .shl (.k (.int .i64 1)) (.t 11)), (some 12), none⟩, ⟨(.mov (.t 2)), (some 13), none⟩, ⟨(.conv .u64 (.t 13)), (some 14), none⟩, ⟨(.bin .shl (.k (.int .i64 1)) (.t 14)), (some 15), none⟩, ⟨(.mov (.t 12)), (some 7), none⟩, ⟨(.mov (.t 15)), (some 8), none⟩] false) (.seq (.seq (.region [⟨(.mov (.k (.int .i64 0))), (some 9), none⟩] false) (.block 0 (.loop m73_0))) (.seq (.region [⟨(.mov (.k (.bool true))), (some 6), none⟩] false) .ret))))
theorem has73 : Has cx 73 46 m73 [(.tmp 6)] :=
  ⟨⟨Try.f73, Try.f73.body.getD .skip, by kernel_rfl, by kernel_rfl, by kernel_rfl, by kernel_rfl, by kernel_rfl, by kernel_rfl⟩⟩
theorem lp73_0 (n b i j : Nat) (hn : n ≤ 4) (hb : b < 65536) (hi : i < n) (hj : j < n) (o : Out) (ho : (if strB n b i j = true then (⟨.exit 0, [], []⟩ : Out) else ⟨.ret, [(6, .bool false)], []⟩) = o) :
    LpS cx 46 0 m73_0 [(3, .ptr 0 0), (7, .int .i64 (R2 i : Nat)), (8, .int .i64 (R2 j : Nat)), (9, .int .i64 (0 : Nat))] [⟨[.int .i64 n, .int .i64 b], 1, 0, some 0, true⟩] o.x o.e o.h := by
  obtain ⟨h1, h2, h3, h4⟩ := shN hn
  have h5 := R2_le hi
  have h6 := R2_le hj
  refine lp_all (R2 n) (strP b i j) (fun r => [(3, .ptr 0 0), (7, .int .i64 (R2 i : Nat)), (8, .int .i64 (R2 j : Nat)), (9, .int .i64 (r : Nat))]) (fun _ => [⟨[.int .i64 n, .int .i64 b], 1, 0, some 0, true⟩]) _ _ ?_ ?_ ?_ (R2 n) 0 o (by omega) ho
  · intro r hr hp
    have h7 : decide ((r : Int) < (R2 n : Nat)) = true := decide_eq_true (by omega)
    have h8 := or_lt hr (show R2 i < R2 n by omega)
    have h9 := or_lt hr (show R2 j < R2 n by omega)
    simp only [strP, ← and_R2] at hp
    unfold m73_0
    repeat' (first
      | (refine g_op ?_; first
        | refine ep_mov rfl ?_ | refine ep_load1 rfl rfl rfl rfl ?_ | refine ep_fieldAddr rfl ?_ | refine sp_loadN rfl rfl rfl rfl rfl ?_
        | refine ep_call0 rfl (by first | exact ev96 _ hn | exact ev95 _ _ _ (by omega) (by omega)) rfl rfl ?_
        | refine sp_call rfl rfl rfl rfl (by first | exact ev96 _ hn | exact ev95 _ _ _ (by omega) (by omega)) ⟨rfl, rfl, rfl, rfl⟩ rfl rfl rfl ?_
        | refine sp_callv rfl rfl rfl rfl rfl rfl (by first | exact ev96 _ hn | exact ev95 _ _ _ (by omega) (by omega)) ⟨rfl, rfl, rfl, rfl⟩ rfl rfl rfl ?_
        | refine ep_bin rfl rfl (by first | exact b_add (by omega) (by omega) | exact b_sub (by omega) (by omega) | exact b_and (by omega) (by omega) | exact b_or (by omega) (by omega) | exact b_shr (by omega) | exact b_shl (by omega) (by omega) | rfl) ?_
        | refine ep_pickT rfl rfl ?_ | refine ep_pickF rfl rfl ?_ | refine ep_pickTH rfl (by assumption) rfl ?_ | refine ep_pickFH rfl (by assumption) rfl ?_
        | refine ep_extract rfl rfl ?_ | refine sp_store rfl rfl rfl rfl rfl rfl rfl rfl rfl rfl ?_ | refine ep_conv rfl (by first | exact w_u64 (by omega) (by omega) | exact wrap_id (by omega) (by omega) | rfl) ?_
        | refine ep_not rfl ?_ | refine ep_lenS rfl ?_ | refine ep_lenN rfl ?_ | refine ep_lenE rfl ?_
        | refine sp_box rfl rfl rfl rfl rfl ?_ | refine sp_alloc rfl rfl ?_ | refine sp_build rfl rfl ?_ | refine sp_bslice rfl rfl rfl rfl rfl ?_ | refine ep_empt ?_
        | refine ep_field1 rfl rfl ?_ | refine sp_fieldN rfl rfl rfl ?_ | refine ep_mkfn rfl ?_ | refine ep_nilckP rfl ?_ | refine ep_nilckF rfl ?_
        | refine ep_eqb0 rfl rfl ?_ | refine ep_eqb1 rfl rfl ?_ | refine ep_eqa0 rfl rfl ?_ | refine ep_eqa1 rfl rfl ?_)
      | (refine g_ops ?_; first | refine eo_none ?_ | refine eo_nil ?_ | refine eo_yes rfl ?_ | refine eo_no rfl ?_ | refine eo_und rfl ?_ | refine eo_yesH rfl (by assumption) ?_ | refine eo_noH rfl (by assumption) ?_)
      | (refine g_dops ?_; first | refine ed_none ?_ | refine ed_nil ?_ | refine ed_yes rfl ?_ | refine ed_no rfl ?_ | refine ed_und rfl ?_ | refine ed_yesH rfl (by assumption) ?_ | refine ed_noH rfl (by assumption) ?_)
      | refine ed_same rfl ?_ | refine ed_one rfl rfl rfl rfl ?_ | refine ed_write rfl rfl ?_
      | (refine g_code ?_; first
        | refine ec_seq ?_ | refine ec_region ?_ | refine ec_draw ?_ | refine ec_block ?_ | refine ec_skip ?_ | refine ec_exit ?_ | refine ec_ret ?_
        | refine ec_condT rfl ?_ | refine ec_condF rfl ?_ | refine ec_condTH rfl (by assumption) ?_ | refine ec_condFH rfl (by assumption) ?_)
      | refine ek_seqN ?_ | refine ek_seqX ?_ | refine ek_seqR ?_ | refine ek_blkN ?_ | refine ek_blkR ?_ | refine ek_blkX ?_ | refine ek_blkY rfl ?_
      | (refine eo_split rfl ?_ ?_ <;> intro hsp) | (refine ed_split rfl ?_ ?_ <;> intro hsp) | (refine ec_cond rfl ?_ ?_ <;> intro hsp))
    all_goals first
      | exact rnd_on (by rfl) (scmp (by rfl) (by rfl) (by exact ⟨rfl, rfl, rfl⟩) (by rfl) (by rfl) (by rfl))
      | (exfalso; simp_all; done)
      | (exfalso; simp_all; omega)
  · intro r hr hp
    have h7 : decide ((r : Int) < (R2 n : Nat)) = true := decide_eq_true (by omega)
    have h8 := or_lt hr (show R2 i < R2 n by omega)
    have h9 := or_lt hr (show R2 j < R2 n by omega)
    simp only [strP, ← and_R2] at hp
    unfold m73_0
    repeat' (first
      | (refine g_op ?_; first
        | refine ep_mov rfl ?_ | refine ep_load1 rfl rfl rfl rfl ?_ | refine ep_fieldAddr rfl ?_ | refine sp_loadN rfl rfl rfl rfl rfl ?_
        | refine ep_call0 rfl (by first | exact ev96 _ hn | exact ev95 _ _ _ (by omega) (by omega)) rfl rfl ?_
        | refine sp_call rfl rfl rfl rfl (by first | exact ev96 _ hn | exact ev95 _ _ _ (by omega) (by omega)) ⟨rfl, rfl, rfl, rfl⟩ rfl rfl rfl ?_
        | refine sp_callv rfl rfl rfl rfl rfl rfl (by first | exact ev96 _ hn | exact ev95 _ _ _ (by omega) (by omega)) ⟨rfl, rfl, rfl, rfl⟩ rfl rfl rfl ?_
        | refine ep_bin rfl rfl (by first | exact b_add (by omega) (by omega) | exact b_sub (by omega) (by omega) | exact b_and (by omega) (by omega) | exact b_or (by omega) (by omega) | exact b_shr (by omega) | exact b_shl (by omega) (by omega) | rfl) ?_
        | refine ep_pickT rfl rfl ?_ | refine ep_pickF rfl rfl ?_ | refine ep_pickTH rfl (by assumption) rfl ?_ | refine ep_pickFH rfl (by assumption) rfl ?_
        | refine ep_extract rfl rfl ?_ | refine sp_store rfl rfl rfl rfl rfl rfl rfl rfl rfl rfl ?_ | refine ep_conv rfl (by first | exact w_u64 (by omega) (by omega) | exact wrap_id (by omega) (by omega) | rfl) ?_
        | refine ep_not rfl ?_ | refine ep_lenS rfl ?_ | refine ep_lenN rfl ?_ | refine ep_lenE rfl ?_
        | refine sp_box rfl rfl rfl rfl rfl ?_ | refine sp_alloc rfl rfl ?_ | refine sp_build rfl rfl ?_ | refine sp_bslice rfl rfl rfl rfl rfl ?_ | refine ep_empt ?_
        | refine ep_field1 rfl rfl ?_ | refine sp_fieldN rfl rfl rfl ?_ | refine ep_mkfn rfl ?_ | refine ep_nilckP rfl ?_ | refine ep_nilckF rfl ?_
        | refine ep_eqb0 rfl rfl ?_ | refine ep_eqb1 rfl rfl ?_ | refine ep_eqa0 rfl rfl ?_ | refine ep_eqa1 rfl rfl ?_)
      | (refine g_ops ?_; first | refine eo_none ?_ | refine eo_nil ?_ | refine eo_yes rfl ?_ | refine eo_no rfl ?_ | refine eo_und rfl ?_ | refine eo_yesH rfl (by assumption) ?_ | refine eo_noH rfl (by assumption) ?_)
      | (refine g_dops ?_; first | refine ed_none ?_ | refine ed_nil ?_ | refine ed_yes rfl ?_ | refine ed_no rfl ?_ | refine ed_und rfl ?_ | refine ed_yesH rfl (by assumption) ?_ | refine ed_noH rfl (by assumption) ?_)
      | refine ed_same rfl ?_ | refine ed_one rfl rfl rfl rfl ?_ | refine ed_write rfl rfl ?_
      | (refine g_code ?_; first
        | refine ec_seq ?_ | refine ec_region ?_ | refine ec_draw ?_ | refine ec_block ?_ | refine ec_skip ?_ | refine ec_exit ?_ | refine ec_ret ?_
        | refine ec_condT rfl ?_ | refine ec_condF rfl ?_ | refine ec_condTH rfl (by assumption) ?_ | refine ec_condFH rfl (by assumption) ?_)
      | refine ek_seqN ?_ | refine ek_seqX ?_ | refine ek_seqR ?_ | refine ek_blkN ?_ | refine ek_blkR ?_ | refine ek_blkX ?_ | refine ek_blkY rfl ?_
      | (refine eo_split rfl ?_ ?_ <;> intro hsp) | (refine ed_split rfl ?_ ?_ <;> intro hsp) | (refine ec_cond rfl ?_ ?_ <;> intro hsp))
    all_goals first
      | exact rnd_out (by rfl) (by simp) (scmp (by rfl) (by rfl) (by exact ⟨rfl, rfl, rfl⟩) (by rfl) (by rfl) (by rfl))
      | (exfalso; simp_all; done)
      | (exfalso; simp_all; omega)
  · have h7 : decide (((R2 n : Nat) : Int) < (R2 n : Nat)) = false := decide_eq_false (by omega)
    unfold m73_0
    repeat' (first
      | (refine g_op ?_; first
        | refine ep_mov rfl ?_ | refine ep_load1 rfl rfl rfl rfl ?_ | refine ep_fieldAddr rfl ?_ | refine sp_loadN rfl rfl rfl rfl rfl ?_
        | refine ep_call0 rfl (by first | exact ev96 _ hn) rfl rfl ?_
        | refine sp_call rfl rfl rfl rfl (by first | exact ev96 _ hn) ⟨rfl, rfl, rfl, rfl⟩ rfl rfl rfl ?_
        | refine sp_callv rfl rfl rfl rfl rfl rfl (by first | exact ev96 _ hn) ⟨rfl, rfl, rfl, rfl⟩ rfl rfl rfl ?_
        | refine ep_bin rfl rfl (by first | exact b_add (by omega) (by omega) | exact b_sub (by omega) (by omega) | exact b_and (by omega) (by omega) | exact b_or (by omega) (by omega) | exact b_shr (by omega) | exact b_shl (by omega) (by omega) | rfl) ?_
        | refine ep_pickT rfl rfl ?_ | refine ep_pickF rfl rfl ?_ | refine ep_pickTH rfl (by assumption) rfl ?_ | refine ep_pickFH rfl (by assumption) rfl ?_
        | refine ep_extract rfl rfl ?_ | refine sp_store rfl rfl rfl rfl rfl rfl rfl rfl rfl rfl ?_ | refine ep_conv rfl (by first | exact w_u64 (by omega) (by omega) | exact wrap_id (by omega) (by omega) | rfl) ?_
        | refine ep_not rfl ?_ | refine ep_lenS rfl ?_ | refine ep_lenN rfl ?_ | refine ep_lenE rfl ?_
        | refine sp_box rfl rfl rfl rfl rfl ?_ | refine sp_alloc rfl rfl ?_ | refine sp_build rfl rfl ?_ | refine sp_bslice rfl rfl rfl rfl rfl ?_ | refine ep_empt ?_
        | refine ep_field1 rfl rfl ?_ | refine sp_fieldN rfl rfl rfl ?_ | refine ep_mkfn rfl ?_ | refine ep_nilckP rfl ?_ | refine ep_nilckF rfl ?_
        | refine ep_eqb0 rfl rfl ?_ | refine ep_eqb1 rfl rfl ?_ | refine ep_eqa0 rfl rfl ?_ | refine ep_eqa1 rfl rfl ?_)
      | (refine g_ops ?_; first | refine eo_none ?_ | refine eo_nil ?_ | refine eo_yes rfl ?_ | refine eo_no rfl ?_ | refine eo_und rfl ?_ | refine eo_yesH rfl (by assumption) ?_ | refine eo_noH rfl (by assumption) ?_)
      | (refine g_dops ?_; first | refine ed_none ?_ | refine ed_nil ?_ | refine ed_yes rfl ?_ | refine ed_no rfl ?_ | refine ed_und rfl ?_ | refine ed_yesH rfl (by assumption) ?_ | refine ed_noH rfl (by assumption) ?_)
      | refine ed_same rfl ?_ | refine ed_one rfl rfl rfl rfl ?_ | refine ed_write rfl rfl ?_
      | (refine g_code ?_; first
        | refine ec_seq ?_ | refine ec_region ?_ | refine ec_draw ?_ | refine ec_block ?_ | refine ec_skip ?_ | refine ec_exit ?_ | refine ec_ret ?_
        | refine ec_condT rfl ?_ | refine ec_condF rfl ?_ | refine ec_condTH rfl (by assumption) ?_ | refine ec_condFH rfl (by assumption) ?_)
      | refine ek_seqN ?_ | refine ek_seqX ?_ | refine ek_seqR ?_ | refine ek_blkN ?_ | refine ek_blkR ?_ | refine ek_blkX ?_ | refine ek_blkY rfl ?_)
    exact rnd_out (by rfl) (by simp) (scmp (by rfl) (by rfl) (by exact ⟨rfl, rfl, rfl⟩) (by rfl) (by rfl) (by rfl))
theorem ev73 (n b i j : Nat) (hn : n ≤ 4) (hb : b < 65536) (hi : i < n) (hj : j < n) : Ev cx 73 [.agg [.int .i64 n, .int .i64 b], .int .i64 i, .int .i64 j] [] (.bool (strB n b i j)) [] := by
  obtain ⟨h1, h2, h3, h4⟩ := shN hn
  have h5 := R2_le hi
  have h6 := R2_le hj
  cases h : strB n b i j
  · have lp := lp73_0 n b i j hn hb hi hj _ (if_neg (by rw [h]; simp))
    refine has73.eev rfl rfl ?_
    unfold m73
    repeat' (first
      | refine sc_loop lp rfl rfl ⟨rfl, rfl, rfl⟩ rfl rfl rfl ?_
      | (refine g_op ?_; first
        | refine ep_mov rfl ?_ | refine ep_load1 rfl rfl rfl rfl ?_ | refine ep_fieldAddr rfl ?_ | refine sp_loadN rfl rfl rfl rfl rfl ?_
        | refine ep_bin rfl rfl (by first | exact b_shl1 (by omega) (by omega) | exact b_add (by omega) (by omega) | exact b_sub (by omega) (by omega) | exact b_and (by omega) (by omega) | exact b_or (by omega) (by omega) | exact b_shr (by omega) | exact b_shl (by omega) (by omega) | rfl) ?_
        | refine ep_pickT rfl rfl ?_ | refine ep_pickF rfl rfl ?_ | refine ep_pickTH rfl (by assumption) rfl ?_ | refine ep_pickFH rfl (by assumption) rfl ?_
        | refine ep_extract rfl rfl ?_ | refine sp_store rfl rfl rfl rfl rfl rfl rfl rfl rfl rfl ?_ | refine ep_conv rfl (by first | exact w_u64 (by omega) (by omega) | exact wrap_id (by omega) (by omega) | rfl) ?_
        | refine ep_not rfl ?_ | refine ep_lenS rfl ?_ | refine ep_lenN rfl ?_ | refine ep_lenE rfl ?_
        | refine sp_box rfl rfl rfl rfl rfl ?_ | refine sp_alloc rfl rfl ?_ | refine sp_build rfl rfl ?_ | refine sp_bslice rfl rfl rfl rfl rfl ?_ | refine ep_empt ?_
        | refine ep_field1 rfl rfl ?_ | refine sp_fieldN rfl rfl rfl ?_ | refine ep_mkfn rfl ?_ | refine ep_nilckP rfl ?_ | refine ep_nilckF rfl ?_
        | refine ep_eqb0 rfl rfl ?_ | refine ep_eqb1 rfl rfl ?_ | refine ep_eqa0 rfl rfl ?_ | refine ep_eqa1 rfl rfl ?_)
      | (refine g_ops ?_; first | refine eo_none ?_ | refine eo_nil ?_ | refine eo_yes rfl ?_ | refine eo_no rfl ?_ | refine eo_und rfl ?_ | refine eo_yesH rfl (by assumption) ?_ | refine eo_noH rfl (by assumption) ?_)
      | (refine g_dops ?_; first | refine ed_none ?_ | refine ed_nil ?_ | refine ed_yes rfl ?_ | refine ed_no rfl ?_ | refine ed_und rfl ?_ | refine ed_yesH rfl (by assumption) ?_ | refine ed_noH rfl (by assumption) ?_)
      | refine ed_same rfl ?_ | refine ed_one rfl rfl rfl rfl ?_ | refine ed_write rfl rfl ?_
      | (refine g_code ?_; first
        | refine ec_seq ?_ | refine ec_region ?_ | refine ec_draw ?_ | refine ec_block ?_ | refine ec_skip ?_ | refine ec_exit ?_ | refine ec_ret ?_
        | refine ec_condT rfl ?_ | refine ec_condF rfl ?_ | refine ec_condTH rfl (by assumption) ?_ | refine ec_condFH rfl (by assumption) ?_)
      | refine ek_seqN ?_ | refine ek_seqX ?_ | refine ek_seqR ?_ | refine ek_blkN ?_ | refine ek_blkR ?_ | refine ek_blkX ?_ | refine ek_blkY rfl ?_)
    refine sfin (.inr rfl) (by rfl) (by rfl) (by exact ⟨rfl, rfl, rfl⟩) (by rfl) (by rfl) (by rfl) (by rfl)
  · have lp := lp73_0 n b i j hn hb hi hj _ (if_pos h)
    refine has73.eev rfl rfl ?_
    unfold m73
    repeat' (first
      | refine sc_loop lp rfl rfl ⟨rfl, rfl, rfl⟩ rfl rfl rfl ?_
      | (refine g_op ?_; first
        | refine ep_mov rfl ?_ | refine ep_load1 rfl rfl rfl rfl ?_ | refine ep_fieldAddr rfl ?_ | refine sp_loadN rfl rfl rfl rfl rfl ?_
        | refine ep_bin rfl rfl (by first | exact b_shl1 (by omega) (by omega) | exact b_add (by omega) (by omega) | exact b_sub (by omega) (by omega) | exact b_and (by omega) (by omega) | exact b_or (by omega) (by omega) | exact b_shr (by omega) | exact b_shl (by omega) (by omega) | rfl) ?_
        | refine ep_pickT rfl rfl ?_ | refine ep_pickF rfl rfl ?_ | refine ep_pickTH rfl (by assumption) rfl ?_ | refine ep_pickFH rfl (by assumption) rfl ?_
        | refine ep_extract rfl rfl ?_ | refine sp_store rfl rfl rfl rfl rfl rfl rfl rfl rfl rfl ?_ | refine ep_conv rfl (by first | exact w_u64 (by omega) (by omega) | exact wrap_id (by omega) (by omega) | rfl) ?_
        | refine ep_not rfl ?_ | refine ep_lenS rfl ?_ | refine ep_lenN rfl ?_ | refine ep_lenE rfl ?_
        | refine sp_box rfl rfl rfl rfl rfl ?_ | refine sp_alloc rfl rfl ?_ | refine sp_build rfl rfl ?_ | refine sp_bslice rfl rfl rfl rfl rfl ?_ | refine ep_empt ?_
        | refine ep_field1 rfl rfl ?_ | refine sp_fieldN rfl rfl rfl ?_ | refine ep_mkfn rfl ?_ | refine ep_nilckP rfl ?_ | refine ep_nilckF rfl ?_
        | refine ep_eqb0 rfl rfl ?_ | refine ep_eqb1 rfl rfl ?_ | refine ep_eqa0 rfl rfl ?_ | refine ep_eqa1 rfl rfl ?_)
      | (refine g_ops ?_; first | refine eo_none ?_ | refine eo_nil ?_ | refine eo_yes rfl ?_ | refine eo_no rfl ?_ | refine eo_und rfl ?_ | refine eo_yesH rfl (by assumption) ?_ | refine eo_noH rfl (by assumption) ?_)
      | (refine g_dops ?_; first | refine ed_none ?_ | refine ed_nil ?_ | refine ed_yes rfl ?_ | refine ed_no rfl ?_ | refine ed_und rfl ?_ | refine ed_yesH rfl (by assumption) ?_ | refine ed_noH rfl (by assumption) ?_)
      | refine ed_same rfl ?_ | refine ed_one rfl rfl rfl rfl ?_ | refine ed_write rfl rfl ?_
      | (refine g_code ?_; first
        | refine ec_seq ?_ | refine ec_region ?_ | refine ec_draw ?_ | refine ec_block ?_ | refine ec_skip ?_ | refine ec_exit ?_ | refine ec_ret ?_
        | refine ec_condT rfl ?_ | refine ec_condF rfl ?_ | refine ec_condTH rfl (by assumption) ?_ | refine ec_condFH rfl (by assumption) ?_)
      | refine ek_seqN ?_ | refine ek_seqX ?_ | refine ek_seqR ?_ | refine ek_blkN ?_ | refine ek_blkR ?_ | refine ek_blkX ?_ | refine ek_blkY rfl ?_)
    refine sfin (.inr rfl) (by rfl) (by rfl) (by exact ⟨rfl, rfl, rfl⟩) (by rfl) (by rfl) (by rfl) (by rfl)
def strR (p t i j : Int) : Bool × Int := if isFn p t = true then (if (0 ≤ i ∧ i ≤ p - 1) ∧ (0 ≤ j ∧ j ≤ p - 1) then (strB p.toNat t.toNat i.toNat j.toNat, 0) else (false, 2)) else (false, 1)
-- loop.example/g01323/impl.IsAsStrong
def m25 : MC := (.seq (.region [⟨(.box (.t 0)), (some 3), none⟩, ⟨(.mov (.k (.bool false))), (some 6), none⟩, ⟨(.mov (.k (.int .i64 0))), (some 7), none⟩] false) (.seq (.seq (.region [⟨(.load (some 2) (.t 3)), (some 8), none⟩, ⟨(.call 70 [(.t 8)]), (some 9), none⟩, ⟨(.un .not (.t 9)), (some 10), none⟩] false) (.cond (.t 10) (.seq (.region [⟨(.mov (.k (.bool false))), (some 6), none⟩, ⟨(.mov (.k (.int .i64 1))), (some 7), none⟩] false) .ret) .skip)) (.seq (.seq (.region [⟨(.mov (.t 1)), (some 11), none⟩, ⟨(.fieldAddr 0 (.t 3)), (some 12), none⟩, ⟨(.load none (.t 12)), (some 13), none⟩, ⟨(.bin .sub (.t 13) (.k (.int .i64 1))), (some 14), none⟩, ⟨(.call 66 [(.t 11), (.k (.int .i64 0)), (.t 14)]), (some 15), none⟩, ⟨(.un .not (.t 15)), (some 16), none⟩, ⟨(.mov (.t 16)), (some 17), none⟩, ⟨(.mov (.t 2)), (some 18), (some (17, false))⟩, ⟨(.fieldAddr 0 (.t 3)), (some 19), (some (17, false))⟩, ⟨(.load none (.t 19)), (some 20), (some (17, false))⟩, ⟨(.bin .sub (.t 20) (.k (.int .i64 1))), (some 21), (some (17, false))⟩, ⟨(.call 66 [(.t 18), (.k (.int .i64 0)), (.t 21)]), (some 22), (some (17, false))⟩, ⟨(.un .not (.t 22)), (some 23), (some (17, false))⟩, ⟨(.pick (.t 17) (.k (.bool true)) (.t 23)), (some 24), none⟩] false) (.cond (.t 24) (.seq (.region [⟨(.mov (.k (.bool false))), (some 6), none⟩, ⟨(.mov (.k (.int .i64 2))), (some 7), none⟩] false) .ret) .skip)) (.seq (.region [⟨(.load (some 2) (.t 3)), (some 25), none⟩, ⟨(.mov (.t 1)), (some 26), none⟩, ⟨(.mov (.t 2)), (some 27), none⟩, ⟨(.call 74 [(.t 25), (.t 26), (.t 27)]), (some 28), none⟩, ⟨(.mov (.t 28)), (some 6), none⟩, ⟨(.mov (.k (.int .i64 0))), (some 7), none⟩] false) .ret))))
theorem has25 : Has cx 25 29 m25 [(.tmp 6), (.tmp 7)] :=
  ⟨⟨Try.f25, Try.f25.body.getD .skip, by kernel_rfl, by kernel_rfl, by kernel_rfl, by kernel_rfl, by kernel_rfl, by kernel_rfl⟩⟩
theorem ev25 (p t i j : Int) : Ev cx 25 [.agg [.int .i64 p, .int .i64 t], .int .i64 i, .int .i64 j] [] (.tup [.bool (strR p t i j).1, .int .i64 (strR p t i j).2]) [] := by
  have e1 := ev70 p t
  cases h1 : isFn p t
  · rw [h1] at e1
    refine has25.eev rfl rfl ?_
    unfold m25
    repeat' (first
      | (refine g_op ?_; first
        | refine ep_mov rfl ?_ | refine ep_load1 rfl rfl rfl rfl ?_ | refine ep_fieldAddr rfl ?_ | refine sp_loadN rfl rfl rfl rfl rfl ?_
        | refine ep_call0 rfl (by first | exact e1) rfl rfl ?_
        | refine sp_call rfl rfl rfl rfl (by first | exact e1) ⟨rfl, rfl, rfl, rfl⟩ rfl rfl rfl ?_
        | refine sp_callv rfl rfl rfl rfl rfl rfl (by first | exact e1) ⟨rfl, rfl, rfl, rfl⟩ rfl rfl rfl ?_
        | refine ep_bin rfl rfl (by first | exact b_add (by omega) (by omega) | exact b_sub (by omega) (by omega) | exact b_and (by omega) (by omega) | exact b_or (by omega) (by omega) | exact b_shr (by omega) | exact b_shl (by omega) (by omega) | rfl) ?_
        | refine ep_pickT rfl rfl ?_ | refine ep_pickF rfl rfl ?_ | refine ep_pickTH rfl (by assumption) rfl ?_ | refine ep_pickFH rfl (by assumption) rfl ?_
        | refine ep_extract rfl rfl ?_ | refine sp_store rfl rfl rfl rfl rfl rfl rfl rfl rfl rfl ?_ | refine ep_conv rfl (by first | exact w_u64 (by omega) (by omega) | exact wrap_id (by omega) (by omega) | rfl) ?_
        | refine ep_not rfl ?_ | refine ep_lenS rfl ?_ | refine ep_lenN rfl ?_ | refine ep_lenE rfl ?_
        | refine sp_box rfl rfl rfl rfl rfl ?_ | refine sp_alloc rfl rfl ?_ | refine sp_build rfl rfl ?_ | refine sp_bslice rfl rfl rfl rfl rfl ?_ | refine ep_empt ?_
        | refine ep_field1 rfl rfl ?_ | refine sp_fieldN rfl rfl rfl ?_ | refine ep_mkfn rfl ?_ | refine ep_nilckP rfl ?_ | refine ep_nilckF rfl ?_
        | refine ep_eqb0 rfl rfl ?_ | refine ep_eqb1 rfl rfl ?_ | refine ep_eqa0 rfl rfl ?_ | refine ep_eqa1 rfl rfl ?_)
      | (refine g_ops ?_; first | refine eo_none ?_ | refine eo_nil ?_ | refine eo_yes rfl ?_ | refine eo_no rfl ?_ | refine eo_und rfl ?_ | refine eo_yesH rfl (by assumption) ?_ | refine eo_noH rfl (by assumption) ?_)
      | (refine g_dops ?_; first | refine ed_none ?_ | refine ed_nil ?_ | refine ed_yes rfl ?_ | refine ed_no rfl ?_ | refine ed_und rfl ?_ | refine ed_yesH rfl (by assumption) ?_ | refine ed_noH rfl (by assumption) ?_)
      | refine ed_same rfl ?_ | refine ed_one rfl rfl rfl rfl ?_ | refine ed_write rfl rfl ?_
      | (refine g_code ?_; first
        | refine ec_seq ?_ | refine ec_region ?_ | refine ec_draw ?_ | refine ec_block ?_ | refine ec_skip ?_ | refine ec_exit ?_ | refine ec_ret ?_
        | refine ec_condT rfl ?_ | refine ec_condF rfl ?_ | refine ec_condTH rfl (by assumption) ?_ | refine ec_condFH rfl (by assumption) ?_)
      | refine ek_seqN ?_ | refine ek_seqX ?_ | refine ek_seqR ?_ | refine ek_blkN ?_ | refine ek_blkR ?_ | refine ek_blkX ?_ | refine ek_blkY rfl ?_)
    refine sfin (.inr rfl) (by rfl) (by rfl) (by exact ⟨rfl, rfl, rfl⟩) (by rfl) (by rfl) (by rw [strR, if_neg (by rw [h1]; simp)]; try rfl) (by rfl)
  · rw [h1] at e1
    obtain ⟨n, b, rfl, rfl, h2, h3, h4⟩ := isFn_nat h1
    have e2 := ev66 i 0 ((n : Int) - 1)
    have e3 := ev66 j 0 ((n : Int) - 1)
    by_cases h5 : 0 ≤ i ∧ i ≤ (n : Int) - 1
    · rw [decide_eq_true h5] at e2
      by_cases h6 : 0 ≤ j ∧ j ≤ (n : Int) - 1
      · rw [decide_eq_true h6] at e3
        obtain ⟨x, rfl⟩ := Int.eq_ofNat_of_zero_le h5.1
        obtain ⟨y, rfl⟩ := Int.eq_ofNat_of_zero_le h6.1
        refine has25.eev rfl rfl ?_
        unfold m25
        repeat' (first
          | (refine g_op ?_; first
            | refine ep_mov rfl ?_ | refine ep_load1 rfl rfl rfl rfl ?_ | refine ep_fieldAddr rfl ?_ | refine sp_loadN rfl rfl rfl rfl rfl ?_
            | refine ep_call0 rfl (by first | exact e1 | exact e2 | exact e3 | exact ev74 _ _ _ _ h2 h4 (by omega) (by omega)) rfl rfl ?_
            | refine sp_call rfl rfl rfl rfl (by first | exact e1 | exact e2 | exact e3 | exact ev74 _ _ _ _ h2 h4 (by omega) (by omega)) ⟨rfl, rfl, rfl, rfl⟩ rfl rfl rfl ?_
            | refine sp_callv rfl rfl rfl rfl rfl rfl (by first | exact e1 | exact e2 | exact e3 | exact ev74 _ _ _ _ h2 h4 (by omega) (by omega)) ⟨rfl, rfl, rfl, rfl⟩ rfl rfl rfl ?_
            | refine ep_bin rfl rfl (by first | exact b_add (by omega) (by omega) | exact b_sub (by omega) (by omega) | exact b_and (by omega) (by omega) | exact b_or (by omega) (by omega) | exact b_shr (by omega) | exact b_shl (by omega) (by omega) | rfl) ?_
            | refine ep_pickT rfl rfl ?_ | refine ep_pickF rfl rfl ?_ | refine ep_pickTH rfl (by assumption) rfl ?_ | refine ep_pickFH rfl (by assumption) rfl ?_
            | refine ep_extract rfl rfl ?_ | refine sp_store rfl rfl rfl rfl rfl rfl rfl rfl rfl rfl ?_ | refine ep_conv rfl (by first | exact w_u64 (by omega) (by omega) | exact wrap_id (by omega) (by omega) | rfl) ?_
            | refine ep_not rfl ?_ | refine ep_lenS rfl ?_ | refine ep_lenN rfl ?_ | refine ep_lenE rfl ?_
            | refine sp_box rfl rfl rfl rfl rfl ?_ | refine sp_alloc rfl rfl ?_ | refine sp_build rfl rfl ?_ | refine sp_bslice rfl rfl rfl rfl rfl ?_ | refine ep_empt ?_
            | refine ep_field1 rfl rfl ?_ | refine sp_fieldN rfl rfl rfl ?_ | refine ep_mkfn rfl ?_ | refine ep_nilckP rfl ?_ | refine ep_nilckF rfl ?_
            | refine ep_eqb0 rfl rfl ?_ | refine ep_eqb1 rfl rfl ?_ | refine ep_eqa0 rfl rfl ?_ | refine ep_eqa1 rfl rfl ?_)
          | (refine g_ops ?_; first | refine eo_none ?_ | refine eo_nil ?_ | refine eo_yes rfl ?_ | refine eo_no rfl ?_ | refine eo_und rfl ?_ | refine eo_yesH rfl (by assumption) ?_ | refine eo_noH rfl (by assumption) ?_)
          | (refine g_dops ?_; first | refine ed_none ?_ | refine ed_nil ?_ | refine ed_yes rfl ?_ | refine ed_no rfl ?_ | refine ed_und rfl ?_ | refine ed_yesH rfl (by assumption) ?_ | refine ed_noH rfl (by assumption) ?_)
          | refine ed_same rfl ?_ | refine ed_one rfl rfl rfl rfl ?_ | refine ed_write rfl rfl ?_
          | (refine g_code ?_; first
            | refine ec_seq ?_ | refine ec_region ?_ | refine ec_draw ?_ | refine ec_block ?_ | refine ec_skip ?_ | refine ec_exit ?_ | refine ec_ret ?_
            | refine ec_condT rfl ?_ | refine ec_condF rfl ?_ | refine ec_condTH rfl (by assumption) ?_ | refine ec_condFH rfl (by assumption) ?_)
          | refine ek_seqN ?_ | refine ek_seqX ?_ | refine ek_seqR ?_ | refine ek_blkN ?_ | refine ek_blkR ?_ | refine ek_blkX ?_ | refine ek_blkY rfl ?_)
        refine sfin (.inr rfl) (by rfl) (by rfl) (by exact ⟨rfl, rfl, rfl⟩) (by rfl) (by rfl) (by rw [strR, if_pos h1, if_pos ⟨h5, h6⟩]; try rfl) (by rfl)
      · rw [decide_eq_false h6] at e3
        refine has25.eev rfl rfl ?_
        unfold m25
        repeat' (first
          | (refine g_op ?_; first
            | refine ep_mov rfl ?_ | refine ep_load1 rfl rfl rfl rfl ?_ | refine ep_fieldAddr rfl ?_ | refine sp_loadN rfl rfl rfl rfl rfl ?_
            | refine ep_call0 rfl (by first | exact e1 | exact e2 | exact e3) rfl rfl ?_
            | refine sp_call rfl rfl rfl rfl (by first | exact e1 | exact e2 | exact e3) ⟨rfl, rfl, rfl, rfl⟩ rfl rfl rfl ?_
            | refine sp_callv rfl rfl rfl rfl rfl rfl (by first | exact e1 | exact e2 | exact e3) ⟨rfl, rfl, rfl, rfl⟩ rfl rfl rfl ?_
            | refine ep_bin rfl rfl (by first | exact b_add (by omega) (by omega) | exact b_sub (by omega) (by omega) | exact b_and (by omega) (by omega) | exact b_or (by omega) (by omega) | exact b_shr (by omega) | exact b_shl (by omega) (by omega) | rfl) ?_
            | refine ep_pickT rfl rfl ?_ | refine ep_pickF rfl rfl ?_ | refine ep_pickTH rfl (by assumption) rfl ?_ | refine ep_pickFH rfl (by assumption) rfl ?_
            | refine ep_extract rfl rfl ?_ | refine sp_store rfl rfl rfl rfl rfl rfl rfl rfl rfl rfl ?_ | refine ep_conv rfl (by first | exact w_u64 (by omega) (by omega) | exact wrap_id (by omega) (by omega) | rfl) ?_
            | refine ep_not rfl ?_ | refine ep_lenS rfl ?_ | refine ep_lenN rfl ?_ | refine ep_lenE rfl ?_
            | refine sp_box rfl rfl rfl rfl rfl ?_ | refine sp_alloc rfl rfl ?_ | refine sp_build rfl rfl ?_ | refine sp_bslice rfl rfl rfl rfl rfl ?_ | refine ep_empt ?_
            | refine ep_field1 rfl rfl ?_ | refine sp_fieldN rfl rfl rfl ?_ | refine ep_mkfn rfl ?_ | refine ep_nilckP rfl ?_ | refine ep_nilckF rfl ?_
            | refine ep_eqb0 rfl rfl ?_ | refine ep_eqb1 rfl rfl ?_ | refine ep_eqa0 rfl rfl ?_ | refine ep_eqa1 rfl rfl ?_)
          | (refine g_ops ?_; first | refine eo_none ?_ | refine eo_nil ?_ | refine eo_yes rfl ?_ | refine eo_no rfl ?_ | refine eo_und rfl ?_ | refine eo_yesH rfl (by assumption) ?_ | refine eo_noH rfl (by assumption) ?_)
          | (refine g_dops ?_; first | refine ed_none ?_ | refine ed_nil ?_ | refine ed_yes rfl ?_ | refine ed_no rfl ?_ | refine ed_und rfl ?_ | refine ed_yesH rfl (by assumption) ?_ | refine ed_noH rfl (by assumption) ?_)
          | refine ed_same rfl ?_ | refine ed_one rfl rfl rfl rfl ?_ | refine ed_write rfl rfl ?_
          | (refine g_code ?_; first
            | refine ec_seq ?_ | refine ec_region ?_ | refine ec_draw ?_ | refine ec_block ?_ | refine ec_skip ?_ | refine ec_exit ?_ | refine ec_ret ?_
            | refine ec_condT rfl ?_ | refine ec_condF rfl ?_ | refine ec_condTH rfl (by assumption) ?_ | refine ec_condFH rfl (by assumption) ?_)
          | refine ek_seqN ?_ | refine ek_seqX ?_ | refine ek_seqR ?_ | refine ek_blkN ?_ | refine ek_blkR ?_ | refine ek_blkX ?_ | refine ek_blkY rfl ?_)
        refine sfin (.inr rfl) (by rfl) (by rfl) (by exact ⟨rfl, rfl, rfl⟩) (by rfl) (by rfl) (by rw [strR, if_pos h1, if_neg (fun h => h6 h.2)]; try rfl) (by rfl)
    · rw [decide_eq_false h5] at e2
      refine has25.eev rfl rfl ?_
      unfold m25
      repeat' (first
        | (refine g_op ?_; first
          | refine ep_mov rfl ?_ | refine ep_load1 rfl rfl rfl rfl ?_ | refine ep_fieldAddr rfl ?_ | refine sp_loadN rfl rfl rfl rfl rfl ?_
          | refine ep_call0 rfl (by first | exact e1 | exact e2) rfl rfl ?_
          | refine sp_call rfl rfl rfl rfl (by first | exact e1 | exact e2) ⟨rfl, rfl, rfl, rfl⟩ rfl rfl rfl ?_
          | refine sp_callv rfl rfl rfl rfl rfl rfl (by first | exact e1 | exact e2) ⟨rfl, rfl, rfl, rfl⟩ rfl rfl rfl ?_
          | refine ep_bin rfl rfl (by first | exact b_add (by omega) (by omega) | exact b_sub (by omega) (by omega) | exact b_and (by omega) (by omega) | exact b_or (by omega) (by omega) | exact b_shr (by omega) | exact b_shl (by omega) (by omega) | rfl) ?_
          | refine ep_pickT rfl rfl ?_ | refine ep_pickF rfl rfl ?_ | refine ep_pickTH rfl (by assumption) rfl ?_ | refine ep_pickFH rfl (by assumption) rfl ?_
          | refine ep_extract rfl rfl ?_ | refine sp_store rfl rfl rfl rfl rfl rfl rfl rfl rfl rfl ?_ | refine ep_conv rfl (by first | exact w_u64 (by omega) (by omega) | exact wrap_id (by omega) (by omega) | rfl) ?_
          | refine ep_not rfl ?_ | refine ep_lenS rfl ?_ | refine ep_lenN rfl ?_ | refine ep_lenE rfl ?_
          | refine sp_box rfl rfl rfl rfl rfl ?_ | refine sp_alloc rfl rfl ?_ | refine sp_build rfl rfl ?_ | refine sp_bslice rfl rfl rfl rfl rfl ?_ | refine ep_empt ?_
          | refine ep_field1 rfl rfl ?_ | refine sp_fieldN rfl rfl rfl ?_ | refine ep_mkfn rfl ?_ | refine ep_nilckP rfl ?_ | refine ep_nilckF rfl ?_
          | refine ep_eqb0 rfl rfl ?_ | refine ep_eqb1 rfl rfl ?_ | refine ep_eqa0 rfl rfl ?_ | refine ep_eqa1 rfl rfl ?_)
        | (refine g_ops ?_; first | refine eo_none ?_ | refine eo_nil ?_ | refine eo_yes rfl ?_ | refine eo_no rfl ?_ | refine eo_und rfl ?_ | refine eo_yesH rfl (by assumption) ?_ | refine eo_noH rfl (by assumption) ?_)
        | (refine g_dops ?_; first | refine ed_none ?_ | refine ed_nil ?_ | refine ed_yes rfl ?_ | refine ed_no rfl ?_ | refine ed_und rfl ?_ | refine ed_yesH rfl (by assumption) ?_ | refine ed_noH rfl (by assumption) ?_)
        | refine ed_same rfl ?_ | refine ed_one rfl rfl rfl rfl ?_ | refine ed_write rfl rfl ?_
        | (refine g_code ?_; first
          | refine ec_seq ?_ | refine ec_region ?_ | refine ec_draw ?_ | refine ec_block ?_ | refine ec_skip ?_ | refine ec_exit ?_ | refine ec_ret ?_
          | refine ec_condT rfl ?_ | refine ec_condF rfl ?_ | refine ec_condTH rfl (by assumption) ?_ | refine ec_condFH rfl (by assumption) ?_)
        | refine ek_seqN ?_ | refine ek_seqX ?_ | refine ek_seqR ?_ | refine ek_blkN ?_ | refine ek_blkR ?_ | refine ek_blkX ?_ | refine ek_blkY rfl ?_)
      refine sfin (.inr rfl) (by rfl) (by rfl) (by exact ⟨rfl, rfl, rfl⟩) (by rfl) (by rfl) (by rw [strR, if_pos h1, if_neg (fun h => h5 h.1)]; try rfl) (by rfl)
-- loop.example/g01323/spec.IsAsStrong
def m24 : MC := (.seq (.region [⟨(.box (.t 0)), (some 3), none⟩, ⟨(.mov (.k (.bool false))), (some 6), none⟩, ⟨(.mov (.k (.int .i64 0))), (some 7), none⟩] false) (.seq (.block 0 (.seq (.region [⟨(.load (some 2) (.t 3)), (some 9), none⟩, ⟨(.call 68 [(.t 9)]), (some 10), none⟩, ⟨(.un .not (.t 10)), (some 11), none⟩, ⟨(.mov (.t 11)), (some 8), none⟩] false) (.cond (.t 8) (.seq (.region [⟨(.mov (.k (.bool false))), (some 6), none⟩, ⟨(.mov (.k (.int .i64 1))), (some 7), none⟩] false) .ret) (.seq (.region [⟨(.mov (.t 1)), (some 13), none⟩, ⟨(.fieldAddr 0 (.t 3)), (some 14), none⟩, ⟨(.load none (.t 14)), (some 15), none⟩, ⟨(.bin .sub (.t 15) (.k (.int .i64 1))), (some 16), none⟩, ⟨(.call 72 [(.t 13), (.k (.int .i64 0)), (.t 16)]), (some 17), none⟩, ⟨(.un .not (.t 17)), (some 18), none⟩, ⟨(.mov (.t 18)), (some 19), none⟩, ⟨(.mov (.t 2)), (some 20), (some (19, false))⟩, ⟨(.fieldAddr 0 (.t 3)), (some 21), (some (19, false))⟩, ⟨(.load none (.t 21)), (some 22), (some (19, false))⟩, ⟨(.bin .sub (.t 22) (.k (.int .i64 1))), (some 23), (some (19, false))⟩, ⟨(.call 72 [(.t 20), (.k (.int .i64 0)), (.t 23)]), (some 24), (some (19, false))⟩, ⟨(.un .not (.t 24)), (some 25), (some (19, false))⟩, ⟨(.pick (.t 19) (.k (.bool true)) (.t 25)), (some 26), none⟩, ⟨(.mov (.t 26)), (some 12), none⟩] false) (.cond (.t 12) (.seq (.region [⟨(.mov (.k (.bool false))), (some 6), none⟩, ⟨(.mov (.k (.int .i64 2))), (some 7), none⟩] false) .ret) .skip))))) (.seq (.region [⟨(.load (some 2) (.t 3)), (some 27), none⟩, ⟨(.mov (.t 1)), (some 28), none⟩, ⟨(.mov (.t 2)), (some 29), none⟩, ⟨(.call 73 [(.t 27), (.t 28), (.t 29)]), (some 30), none⟩, ⟨(.mov (.t 30)), (some 6), none⟩, ⟨(.mov (.k (.int .i64 0))), (some 7), none⟩] false) .ret)))
theorem has24 : Has cx 24 31 m24 [(.tmp 6), (.tmp 7)] :=
  ⟨⟨Try.f24, Try.f24.body.getD .skip, by kernel_rfl, by kernel_rfl, by kernel_rfl, by kernel_rfl, by kernel_rfl, by kernel_rfl⟩⟩
theorem ev24 (p t i j : Int) : Ev cx 24 [.agg [.int .i64 p, .int .i64 t], .int .i64 i, .int .i64 j] [] (.tup [.bool (strR p t i j).1, .int .i64 (strR p t i j).2]) [] := by
  have e1 := ev68 p t
  cases h1 : isFn p t
  · rw [h1] at e1
    refine has24.eev rfl rfl ?_
    unfold m24
    repeat' (first
      | (refine g_op ?_; first
        | refine ep_mov rfl ?_ | refine ep_load1 rfl rfl rfl rfl ?_ | refine ep_fieldAddr rfl ?_ | refine sp_loadN rfl rfl rfl rfl rfl ?_
        | refine ep_call0 rfl (by first | exact e1) rfl rfl ?_
        | refine sp_call rfl rfl rfl rfl (by first | exact e1) ⟨rfl, rfl, rfl, rfl⟩ rfl rfl rfl ?_
        | refine sp_callv rfl rfl rfl rfl rfl rfl (by first | exact e1) ⟨rfl, rfl, rfl, rfl⟩ rfl rfl rfl ?_
        | refine ep_bin rfl rfl (by first | exact b_add (by omega) (by omega) | exact b_sub (by omega) (by omega) | exact b_and (by omega) (by omega) | exact b_or (by omega) (by omega) | exact b_shr (by omega) | exact b_shl (by omega) (by omega) | rfl) ?_
        | refine ep_pickT rfl rfl ?_ | refine ep_pickF rfl rfl ?_ | refine ep_pickTH rfl (by assumption) rfl ?_ | refine ep_pickFH rfl (by assumption) rfl ?_
        | refine ep_extract rfl rfl ?_ | refine sp_store rfl rfl rfl rfl rfl rfl rfl rfl rfl rfl ?_ | refine ep_conv rfl (by first | exact w_u64 (by omega) (by omega) | exact wrap_id (by omega) (by omega) | rfl) ?_
        | refine ep_not rfl ?_ | refine ep_lenS rfl ?_ | refine ep_lenN rfl ?_ | refine ep_lenE rfl ?_
        | refine sp_box rfl rfl rfl rfl rfl ?_ | refine sp_alloc rfl rfl ?_ | refine sp_build rfl rfl ?_ | refine sp_bslice rfl rfl rfl rfl rfl ?_ | refine ep_empt ?_
        | refine ep_field1 rfl rfl ?_ | refine sp_fieldN rfl rfl rfl ?_ | refine ep_mkfn rfl ?_ | refine ep_nilckP rfl ?_ | refine ep_nilckF rfl ?_
        | refine ep_eqb0 rfl rfl ?_ | refine ep_eqb1 rfl rfl ?_ | refine ep_eqa0 rfl rfl ?_ | refine ep_eqa1 rfl rfl ?_)
      | (refine g_ops ?_; first | refine eo_none ?_ | refine eo_nil ?_ | refine eo_yes rfl ?_ | refine eo_no rfl ?_ | refine eo_und rfl ?_ | refine eo_yesH rfl (by assumption) ?_ | refine eo_noH rfl (by assumption) ?_)
      | (refine g_dops ?_; first | refine ed_none ?_ | refine ed_nil ?_ | refine ed_yes rfl ?_ | refine ed_no rfl ?_ | refine ed_und rfl ?_ | refine ed_yesH rfl (by assumption) ?_ | refine ed_noH rfl (by assumption) ?_)
      | refine ed_same rfl ?_ | refine ed_one rfl rfl rfl rfl ?_ | refine ed_write rfl rfl ?_
      | (refine g_code ?_; first
        | refine ec_seq ?_ | refine ec_region ?_ | refine ec_draw ?_ | refine ec_block ?_ | refine ec_skip ?_ | refine ec_exit ?_ | refine ec_ret ?_
        | refine ec_condT rfl ?_ | refine ec_condF rfl ?_ | refine ec_condTH rfl (by assumption) ?_ | refine ec_condFH rfl (by assumption) ?_)
      | refine ek_seqN ?_ | refine ek_seqX ?_ | refine ek_seqR ?_ | refine ek_blkN ?_ | refine ek_blkR ?_ | refine ek_blkX ?_ | refine ek_blkY rfl ?_)
    refine sfin (.inr rfl) (by rfl) (by rfl) (by exact ⟨rfl, rfl, rfl⟩) (by rfl) (by rfl) (by rw [strR, if_neg (by rw [h1]; simp)]; try rfl) (by rfl)
  · rw [h1] at e1
    obtain ⟨n, b, rfl, rfl, h2, h3, h4⟩ := isFn_nat h1
    have e2 := ev72 i 0 ((n : Int) - 1)
    have e3 := ev72 j 0 ((n : Int) - 1)
    by_cases h5 : 0 ≤ i ∧ i ≤ (n : Int) - 1
    · rw [decide_eq_true h5] at e2
      by_cases h6 : 0 ≤ j ∧ j ≤ (n : Int) - 1
      · rw [decide_eq_true h6] at e3
        obtain ⟨x, rfl⟩ := Int.eq_ofNat_of_zero_le h5.1
        obtain ⟨y, rfl⟩ := Int.eq_ofNat_of_zero_le h6.1
        refine has24.eev rfl rfl ?_
        unfold m24
        repeat' (first
          | (refine g_op ?_; first
            | refine ep_mov rfl ?_ | refine ep_load1 rfl rfl rfl rfl ?_ | refine ep_fieldAddr rfl ?_ | refine sp_loadN rfl rfl rfl rfl rfl ?_
            | refine ep_call0 rfl (by first | exact e1 | exact e2 | exact e3 | exact ev73 _ _ _ _ h2 h4 (by omega) (by omega)) rfl rfl ?_
            | refine sp_call rfl rfl rfl rfl (by first | exact e1 | exact e2 | exact e3 | exact ev73 _ _ _ _ h2 h4 (by omega) (by omega)) ⟨rfl, rfl, rfl, rfl⟩ rfl rfl rfl ?_
            | refine sp_callv rfl rfl rfl rfl rfl rfl (by first | exact e1 | exact e2 | exact e3 | exact ev73 _ _ _ _ h2 h4 (by omega) (by omega)) ⟨rfl, rfl, rfl, rfl⟩ rfl rfl rfl ?_
            | refine ep_bin rfl rfl (by first | exact b_add (by omega) (by omega) | exact b_sub (by omega) (by omega) | exact b_and (by omega) (by omega) | exact b_or (by omega) (by omega) | exact b_shr (by omega) | exact b_shl (by omega) (by omega) | rfl) ?_
            | refine ep_pickT rfl rfl ?_ | refine ep_pickF rfl rfl ?_ | refine ep_pickTH rfl (by assumption) rfl ?_ | refine ep_pickFH rfl (by assumption) rfl ?_
            | refine ep_extract rfl rfl ?_ | refine sp_store rfl rfl rfl rfl rfl rfl rfl rfl rfl rfl ?_ | refine ep_conv rfl (by first | exact w_u64 (by omega) (by omega) | exact wrap_id (by omega) (by omega) | rfl) ?_
            | refine ep_not rfl ?_ | refine ep_lenS rfl ?_ | refine ep_lenN rfl ?_ | refine ep_lenE rfl ?_
            | refine sp_box rfl rfl rfl rfl rfl ?_ | refine sp_alloc rfl rfl ?_ | refine sp_build rfl rfl ?_ | refine sp_bslice rfl rfl rfl rfl rfl ?_ | refine ep_empt ?_
            | refine ep_field1 rfl rfl ?_ | refine sp_fieldN rfl rfl rfl ?_ | refine ep_mkfn rfl ?_ | refine ep_nilckP rfl ?_ | refine ep_nilckF rfl ?_
            | refine ep_eqb0 rfl rfl ?_ | refine ep_eqb1 rfl rfl ?_ | refine ep_eqa0 rfl rfl ?_ | refine ep_eqa1 rfl rfl ?_)
          | (refine g_ops ?_; first | refine eo_none ?_ | refine eo_nil ?_ | refine eo_yes rfl ?_ | refine eo_no rfl ?_ | refine eo_und rfl ?_ | refine eo_yesH rfl (by assumption) ?_ | refine eo_noH rfl (by assumption) ?_)
          | (refine g_dops ?_; first | refine ed_none ?_ | refine ed_nil ?_ | refine ed_yes rfl ?_ | refine ed_no rfl ?_ | refine ed_und rfl ?_ | refine ed_yesH rfl (by assumption) ?_ | refine ed_noH rfl (by assumption) ?_)
          | refine ed_same rfl ?_ | refine ed_one rfl rfl rfl rfl ?_ | refine ed_write rfl rfl ?_
          | (refine g_code ?_; first
            | refine ec_seq ?_ | refine ec_region ?_ | refine ec_draw ?_ | refine ec_block ?_ | refine ec_skip ?_ | refine ec_exit ?_ | refine ec_ret ?_
            | refine ec_condT rfl ?_ | refine ec_condF rfl ?_ | refine ec_condTH rfl (by assumption) ?_ | refine ec_condFH rfl (by assumption) ?_)
          | refine ek_seqN ?_ | refine ek_seqX ?_ | refine ek_seqR ?_ | refine ek_blkN ?_ | refine ek_blkR ?_ | refine ek_blkX ?_ | refine ek_blkY rfl ?_)
        refine sfin (.inr rfl) (by rfl) (by rfl) (by exact ⟨rfl, rfl, rfl⟩) (by rfl) (by rfl) (by rw [strR, if_pos h1, if_pos ⟨h5, h6⟩]; try rfl) (by rfl)
      · rw [decide_eq_false h6] at e3
        refine has24.eev rfl rfl ?_
        unfold m24
        repeat' (first
          | (refine g_op ?_; first
            | refine ep_mov rfl ?_ | refine ep_load1 rfl rfl rfl rfl ?_ | refine ep_fieldAddr rfl ?_ | refine sp_loadN rfl rfl rfl rfl rfl ?_
            | refine ep_call0 rfl (by first | exact e1 | exact e2 | exact e3) rfl rfl ?_
            | refine sp_call rfl rfl rfl rfl (by first | exact e1 | exact e2 | exact e3) ⟨rfl, rfl, rfl, rfl⟩ rfl rfl rfl ?_
            | refine sp_callv rfl rfl rfl rfl rfl rfl (by first | exact e1 | exact e2 | exact e3) ⟨rfl, rfl, rfl, rfl⟩ rfl rfl rfl ?_
            | refine ep_bin rfl rfl (by first | exact b_add (by omega) (by omega) | exact b_sub (by omega) (by omega) | exact b_and (by omega) (by omega) | exact b_or (by omega) (by omega) | exact b_shr (by omega) | exact b_shl (by omega) (by omega) | rfl) ?_
            | refine ep_pickT rfl rfl ?_ | refine ep_pickF rfl rfl ?_ | refine ep_pickTH rfl (by assumption) rfl ?_ | refine ep_pickFH rfl (by assumption) rfl ?_
            | refine ep_extract rfl rfl ?_ | refine sp_store rfl rfl rfl rfl rfl rfl rfl rfl rfl rfl ?_ | refine ep_conv rfl (by first | exact w_u64 (by omega) (by omega) | exact wrap_id (by omega) (by omega) | rfl) ?_
            | refine ep_not rfl ?_ | refine ep_lenS rfl ?_ | refine ep_lenN rfl ?_ | refine ep_lenE rfl ?_
            | refine sp_box rfl rfl rfl rfl rfl ?_ | refine sp_alloc rfl rfl ?_ | refine sp_build rfl rfl ?_ | refine sp_bslice rfl rfl rfl rfl rfl ?_ | refine ep_empt ?_
            | refine ep_field1 rfl rfl ?_ | refine sp_fieldN rfl rfl rfl ?_ | refine ep_mkfn rfl ?_ | refine ep_nilckP rfl ?_ | refine ep_nilckF rfl ?_
            | refine ep_eqb0 rfl rfl ?_ | refine ep_eqb1 rfl rfl ?_ | refine ep_eqa0 rfl rfl ?_ | refine ep_eqa1 rfl rfl ?_)
          | (refine g_ops ?_; first | refine eo_none ?_ | refine eo_nil ?_ | refine eo_yes rfl ?_ | refine eo_no rfl ?_ | refine eo_und rfl ?_ | refine eo_yesH rfl (by assumption) ?_ | refine eo_noH rfl (by assumption) ?_)
          | (refine g_dops ?_; first | refine ed_none ?_ | refine ed_nil ?_ | refine ed_yes rfl ?_ | refine ed_no rfl ?_ | refine ed_und rfl ?_ | refine ed_yesH rfl (by assumption) ?_ | refine ed_noH rfl (by assumption) ?_)
          | refine ed_same rfl ?_ | refine ed_one rfl rfl rfl rfl ?_ | refine ed_write rfl rfl ?_
          | (refine g_code ?_; first
            | refine ec_seq ?_ | refine ec_region ?_ | refine ec_draw ?_ | refine ec_block ?_ | refine ec_skip ?_ | refine ec_exit ?_ | refine ec_ret ?_
            | refine ec_condT rfl ?_ | refine ec_condF rfl ?_ | refine ec_condTH rfl (by assumption) ?_ | refine ec_condFH rfl (by assumption) ?_)
          | refine ek_seqN ?_ | refine ek_seqX ?_ | refine ek_seqR ?_ | refine ek_blkN ?_ | refine ek_blkR ?_ | refine ek_blkX ?_ | refine ek_blkY rfl ?_)
        refine sfin (.inr rfl) (by rfl) (by rfl) (by exact ⟨rfl, rfl, rfl⟩) (by rfl) (by rfl) (by rw [strR, if_pos h1, if_neg (fun h => h6 h.2)]; try rfl) (by rfl)
    · rw [decide_eq_false h5] at e2
      refine has24.eev rfl rfl ?_
      unfold m24
      repeat' (first
        | (refine g_op ?_; first
          | refine ep_mov rfl ?_ | refine ep_load1 rfl rfl rfl rfl ?_ | refine ep_fieldAddr rfl ?_ | refine sp_loadN rfl rfl rfl rfl rfl ?_
          | refine ep_call0 rfl (by first | exact e1 | exact e2) rfl rfl ?_
          | refine sp_call rfl rfl rfl rfl (by first | exact e1 | exact e2) ⟨rfl, rfl, rfl, rfl⟩ rfl rfl rfl ?_
          | refine sp_callv rfl rfl rfl rfl rfl rfl (by first | exact e1 | exact e2) ⟨rfl, rfl, rfl, rfl⟩ rfl rfl rfl ?_
          | refine ep_bin rfl rfl (by first | exact b_add (by omega) (by omega) | exact b_sub (by omega) (by omega) | exact b_and (by omega) (by omega) | exact b_or (by omega) (by omega) | exact b_shr (by omega) | exact b_shl (by omega) (by omega) | rfl) ?_
          | refine ep_pickT rfl rfl ?_ | refine ep_pickF rfl rfl ?_ | refine ep_pickTH rfl (by assumption) rfl ?_ | refine ep_pickFH rfl (by assumption) rfl ?_
          | refine ep_extract rfl rfl ?_ | refine sp_store rfl rfl rfl rfl rfl rfl rfl rfl rfl rfl ?_ | refine ep_conv rfl (by first | exact w_u64 (by omega) (by omega) | exact wrap_id (by omega) (by omega) | rfl) ?_
          | refine ep_not rfl ?_ | refine ep_lenS rfl ?_ | refine ep_lenN rfl ?_ | refine ep_lenE rfl ?_
          | refine sp_box rfl rfl rfl rfl rfl ?_ | refine sp_alloc rfl rfl ?_ | refine sp_build rfl rfl ?_ | refine sp_bslice rfl rfl rfl rfl rfl ?_ | refine ep_empt ?_
          | refine ep_field1 rfl rfl ?_ | refine sp_fieldN rfl rfl rfl ?_ | refine ep_mkfn rfl ?_ | refine ep_nilckP rfl ?_ | refine ep_nilckF rfl ?_
          | refine ep_eqb0 rfl rfl ?_ | refine ep_eqb1 rfl rfl ?_ | refine ep_eqa0 rfl rfl ?_ | refine ep_eqa1 rfl rfl ?_)
        | (refine g_ops ?_; first | refine eo_none ?_ | refine eo_nil ?_ | refine eo_yes rfl ?_ | refine eo_no rfl ?_ | refine eo_und rfl ?_ | refine eo_yesH rfl (by assumption) ?_ | refine eo_noH rfl (by assumption) ?_)
        | (refine g_dops ?_; first | refine ed_none ?_ | refine ed_nil ?_ | refine ed_yes rfl ?_ | refine ed_no rfl ?_ | refine ed_und rfl ?_ | refine ed_yesH rfl (by assumption) ?_ | refine ed_noH rfl (by assumption) ?_)
        | refine ed_same rfl ?_ | refine ed_one rfl rfl rfl rfl ?_ | refine ed_write rfl rfl ?_
        | (refine g_code ?_; first
          | refine ec_seq ?_ | refine ec_region ?_ | refine ec_draw ?_ | refine ec_block ?_ | refine ec_skip ?_ | refine ec_exit ?_ | refine ec_ret ?_
          | refine ec_condT rfl ?_ | refine ec_condF rfl ?_ | refine ec_condTH rfl (by assumption) ?_ | refine ec_condFH rfl (by assumption) ?_)
        | refine ek_seqN ?_ | refine ek_seqX ?_ | refine ek_seqR ?_ | refine ek_blkN ?_ | refine ek_blkR ?_ | refine ek_blkX ?_ | refine ek_blkY rfl ?_)
      refine sfin (.inr rfl) (by rfl) (by rfl) (by exact ⟨rfl, rfl, rfl⟩) (by rfl) (by rfl) (by rw [strR, if_pos h1, if_neg (fun h => h5 h.1)]; try rfl) (by rfl)
-- loop.example/g01323/laws.FnExactIsAsStrong
def m6 : MC := (.seq (.region [⟨(.box (.t 0)), (some 3), none⟩, ⟨(.mov (.k (.bool false))), (some 6), none⟩] false) (.seq (.region [⟨(.load (some 2) (.t 3)), (some 12), none⟩, ⟨(.call 22 [(.t 12)]), (some 13), none⟩, ⟨(.mov (.t 1)), (some 14), none⟩, ⟨(.mov (.t 2)), (some 15), none⟩, ⟨(.call 24 [(.t 13), (.t 14), (.t 15)]), (some 16), none⟩, ⟨(.mov (.t 16)), (some 11), none⟩, ⟨(.extract (.t 11) 0), (some 17), none⟩, ⟨(.extract (.t 11) 1), (some 18), none⟩, ⟨(.mov (.t 17)), (some 7), none⟩, ⟨(.mov (.t 18)), (some 8), none⟩] false) (.seq (.region [⟨(.load (some 2) (.t 3)), (some 20), none⟩, ⟨(.call 22 [(.t 20)]), (some 21), none⟩, ⟨(.mov (.t 1)), (some 22), none⟩, ⟨(.mov (.t 2)), (some 23), none⟩, ⟨(.call 25 [(.t 21), (.t 22), (.t 23)]), (some 24), none⟩, ⟨(.mov (.t 24)), (some 19), none⟩, ⟨(.extract (.t 19) 0), (some 25), none⟩, ⟨(.extract (.t 19) 1), (some 26), none⟩, ⟨(.mov (.t 25)), (some 9), none⟩, ⟨(.mov (.t 26)), (some 10), none⟩] false) (.seq (.seq (.region [⟨(.mov (.t 9)), (some 27), none⟩, ⟨(.mov (.t 7)), (some 28), none⟩, ⟨(.eqb true (.t 27) (.t 28)), (some 29), none⟩, ⟨(.mov (.t 29)), (some 30), none⟩, ⟨(.mov (.t 10)), (some 31), (some (30, false))⟩, ⟨(.mov (.t 8)), (some 32), (some (30, false))⟩, ⟨(.bin .neq (.t 31) (.t 32)), (some 33), (some (30, false))⟩, ⟨(.pick (.t 30) (.k (.bool true)) (.t 33)), (some 34), none⟩] false) (.cond (.t 34) (.seq (.region [⟨(.mov (.k (.bool false))), (some 6), none⟩] false) .ret) .skip)) (.seq (.region [⟨(.mov (.k (.bool true))), (some 6), none⟩] false) .ret)))))
theorem has6 : Has cx 6 35 m6 [(.tmp 6)] :=
  ⟨⟨Try.f6, Try.f6.body.getD .skip, by kernel_rfl, by kernel_rfl, by kernel_rfl, by kernel_rfl, by kernel_rfl, by kernel_rfl⟩⟩
theorem ev6 (p t i j : Int) : Ev cx 6 [.agg [.int .i64 p, .int .i64 t], .int .i64 i, .int .i64 j] [] (.bool true) [] := by
  have h1 : ((strR p t i j).1 != (strR p t i j).1) = false := by simp
  have h2 : ((strR p t i j).2 != (strR p t i j).2) = false := by simp
  refine has6.eev rfl rfl ?_
  unfold m6
  repeat' (first
    | (refine g_op ?_; first
      | refine ep_mov rfl ?_ | refine ep_load1 rfl rfl rfl rfl ?_ | refine ep_fieldAddr rfl ?_ | refine sp_loadN rfl rfl rfl rfl rfl ?_
      | refine ep_call0 rfl (by first | exact ev24 _ _ _ _ | exact ev22 _ _ | exact ev25 _ _ _ _) rfl rfl ?_
      | refine sp_call rfl rfl rfl rfl (by first | exact ev24 _ _ _ _ | exact ev22 _ _ | exact ev25 _ _ _ _) ⟨rfl, rfl, rfl, rfl⟩ rfl rfl rfl ?_
      | refine sp_callv rfl rfl rfl rfl rfl rfl (by first | exact ev24 _ _ _ _ | exact ev22 _ _ | exact ev25 _ _ _ _) ⟨rfl, rfl, rfl, rfl⟩ rfl rfl rfl ?_
      | refine ep_bin rfl rfl (by first | exact b_add (by omega) (by omega) | exact b_sub (by omega) (by omega) | exact b_and (by omega) (by omega) | exact b_or (by omega) (by omega) | exact b_shr (by omega) | exact b_shl (by omega) (by omega) | rfl) ?_
      | refine ep_pickT rfl rfl ?_ | refine ep_pickF rfl rfl ?_ | refine ep_pickTH rfl (by assumption) rfl ?_ | refine ep_pickFH rfl (by assumption) rfl ?_
      | refine ep_extract rfl rfl ?_ | refine sp_store rfl rfl rfl rfl rfl rfl rfl rfl rfl rfl ?_ | refine ep_conv rfl (by first | exact w_u64 (by omega) (by omega) | exact wrap_id (by omega) (by omega) | rfl) ?_
      | refine ep_not rfl ?_ | refine ep_lenS rfl ?_ | refine ep_lenN rfl ?_ | refine ep_lenE rfl ?_
      | refine sp_box rfl rfl rfl rfl rfl ?_ | refine sp_alloc rfl rfl ?_ | refine sp_build rfl rfl ?_ | refine sp_bslice rfl rfl rfl rfl rfl ?_ | refine ep_empt ?_
      | refine ep_field1 rfl rfl ?_ | refine sp_fieldN rfl rfl rfl ?_ | refine ep_mkfn rfl ?_ | refine ep_nilckP rfl ?_ | refine ep_nilckF rfl ?_
      | refine ep_eqb0 rfl rfl ?_ | refine ep_eqb1 rfl rfl ?_ | refine ep_eqa0 rfl rfl ?_ | refine ep_eqa1 rfl rfl ?_)
    | (refine g_ops ?_; first | refine eo_none ?_ | refine eo_nil ?_ | refine eo_yes rfl ?_ | refine eo_no rfl ?_ | refine eo_und rfl ?_ | refine eo_yesH rfl (by assumption) ?_ | refine eo_noH rfl (by assumption) ?_)
    | (refine g_dops ?_; first | refine ed_none ?_ | refine ed_nil ?_ | refine ed_yes rfl ?_ | refine ed_no rfl ?_ | refine ed_und rfl ?_ | refine ed_yesH rfl (by assumption) ?_ | refine ed_noH rfl (by assumption) ?_)
    | refine ed_same rfl ?_ | refine ed_one rfl rfl rfl rfl ?_ | refine ed_write rfl rfl ?_
    | (refine g_code ?_; first
      | refine ec_seq ?_ | refine ec_region ?_ | refine ec_draw ?_ | refine ec_block ?_ | refine ec_skip ?_ | refine ec_exit ?_ | refine ec_ret ?_
      | refine ec_condT rfl ?_ | refine ec_condF rfl ?_ | refine ec_condTH rfl (by assumption) ?_ | refine ec_condFH rfl (by assumption) ?_)
    | refine ek_seqN ?_ | refine ek_seqX ?_ | refine ek_seqR ?_ | refine ek_blkN ?_ | refine ek_blkR ?_ | refine ek_blkX ?_ | refine ek_blkY rfl ?_)
  refine sfin (.inr rfl) (by rfl) (by rfl) (by exact ⟨rfl, rfl, rfl⟩) (by rfl) (by rfl) (by rfl) (by rfl)

end Go.Proofs.Ytgidgffcnamnaaa
