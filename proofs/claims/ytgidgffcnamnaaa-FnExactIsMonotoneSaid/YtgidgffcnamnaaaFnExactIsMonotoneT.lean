/- What each function that the statement reaches returns. -/
import Derived.Test.YtgidgffcnamnaaaMiD
import Derived.Test.YtgidgffcnamnaaaChecked
import Derived.KernelRfl
set_option linter.unusedVariables false
set_option linter.unusedSimpArgs false
set_option maxRecDepth 100000
set_option maxHeartbeats 4000000
namespace Go.Proofs.Ytgidgffcnamnaaa
open Go Go.Proofs.Ytgidgffcnamnaaa.Mi
noncomputable def cx : Cx := ⟨Try.prog, id, id, by kernel_rfl⟩
attribute [local irreducible] code opsK opsDK gopK opK seqK blockK callK
def R2 (n : Nat) : Nat := 2 ^ n
theorem shR (n : Nat) : 1 <<< n = R2 n := by simp [R2, Nat.shiftLeft_eq]
theorem shN {n : Nat} (h : n ≤ 4) : R2 n ≤ 16 ∧ R2 (R2 n) ≤ 65536 ∧ 1 ≤ R2 n ∧ 1 ≤ R2 (R2 n) := by
  have : n = 0 ∨ n = 1 ∨ n = 2 ∨ n = 3 ∨ n = 4 := by omega
  rcases this with rfl | rfl | rfl | rfl | rfl <;> decide
theorem b_shl1 {k' : IntKind} {y : Nat} (h : R2 y < 9223372036854775808) (hy : y ≤ 64) : binV .shl (.int .i64 1) (.int k' y) = some (.int .i64 (R2 y : Nat)) := by
  rw [← shR]; exact b_shl (x := 1) (by rw [shR]; exact h) hy
attribute [local irreducible] R2
def isRel (p t : Int) : Bool := decide (1 ≤ p ∧ p ≤ 4) && decide (0 ≤ t ∧ t ≤ (R2 (R2 p.toNat) : Nat) - 1)
def isFn (p t : Int) : Bool := decide (0 ≤ p ∧ p ≤ 4) && decide (0 ≤ t ∧ t ≤ (R2 (R2 p.toNat) : Nat) - 1)
-- loop.example/g01323/impl.within
def m66 : MC := (.seq (.region [⟨(.mov (.k (.bool false))), (some 6), none⟩] false) (.seq (.region [⟨(.mov (.t 0)), (some 7), none⟩, ⟨(.mov (.t 1)), (some 8), none⟩, ⟨(.bin .geq (.t 7) (.t 8)), (some 9), none⟩, ⟨(.mov (.t 9)), (some 10), none⟩, ⟨(.mov (.t 0)), (some 11), (some (10, true))⟩, ⟨(.mov (.t 2)), (some 12), (some (10, true))⟩, ⟨(.bin .leq (.t 11) (.t 12)), (some 13), (some (10, true))⟩, ⟨(.pick (.t 10) (.t 13) (.k (.bool false))), (some 14), none⟩, ⟨(.mov (.t 14)), (some 6), none⟩] false) .ret))
theorem has66 : Has cx 66 15 m66 [(.tmp 6)] :=
  ⟨⟨Try.f66, Try.f66.body.getD .skip, by kernel_rfl, by kernel_rfl, by kernel_rfl, by kernel_rfl, by kernel_rfl, by kernel_rfl⟩⟩
theorem ev66 (z lo hi : Int) : Ev cx 66 [.int .i64 z, .int .i64 lo, .int .i64 hi] [] (.bool (decide (lo ≤ z ∧ z ≤ hi))) [] := by
  by_cases h1 : lo ≤ z
  · have h2 : decide (z ≥ lo) = true := decide_eq_true h1
    refine has66.eev rfl rfl ?_
    unfold m66
    repeat' (first
      | (refine g_op ?_; first
        | refine ep_mov rfl ?_ | refine ep_load1 rfl rfl rfl rfl ?_ | refine ep_fieldAddr rfl ?_ | refine sp_loadN rfl rfl rfl rfl rfl ?_
        | refine ep_bin rfl rfl (by first | exact b_add (by omega) (by omega) | exact b_sub (by omega) (by omega) | exact b_and (by omega) (by omega) | exact b_or (by omega) (by omega) | exact b_shr (by omega) | exact b_shl (by omega) (by omega) | rfl) ?_
        | refine ep_pickT rfl rfl ?_ | refine ep_pickF rfl rfl ?_ | refine ep_pickTH rfl (by assumption) rfl ?_ | refine ep_pickFH rfl (by assumption) rfl ?_
        | refine ep_extract rfl rfl ?_ | refine sp_store rfl rfl rfl rfl rfl rfl rfl rfl rfl rfl ?_ | refine ep_conv rfl (by first | exact w_u64 (by omega) (by omega) | exact wrap_id (by omega) (by omega) | rfl) ?_
        | refine ep_not rfl ?_ | refine ep_lenS rfl ?_ | refine ep_lenN rfl ?_ | refine ep_lenE rfl ?_
        | refine sp_box rfl rfl rfl rfl rfl ?_ | refine sp_alloc rfl rfl ?_ | refine sp_build rfl rfl ?_ | refine sp_bslice rfl rfl rfl rfl rfl ?_ | refine ep_empt ?_
        | refine ep_field1 rfl rfl ?_ | refine sp_fieldN rfl rfl rfl ?_ | refine ep_mkfn rfl ?_ | refine ep_nilckP rfl ?_ | refine ep_nilckF rfl ?_
        | refine ep_eqb0 rfl rfl ?_ | refine ep_eqb1 rfl rfl ?_ | refine ep_eqa0 rfl rfl ?_ | refine ep_eqa1 rfl rfl ?_)
      | (refine g_ops ?_; first | refine eo_none ?_ | refine eo_nil ?_ | refine eo_yes rfl ?_ | refine eo_no rfl ?_ | refine eo_und rfl ?_ | refine eo_yesH rfl (by assumption) ?_ | refine eo_noH rfl (by assumption) ?_)
      | (refine g_dops ?_; first | refine ed_none ?_ | refine ed_nil ?_ | refine ed_yes rfl ?_ | refine ed_no rfl ?_ | refine ed_und rfl ?_ | refine ed_yesH rfl (by assumption) ?_ | refine ed_noH rfl (by assumption) ?_)
      | refine ed_same rfl ?_ | refine ed_one rfl rfl rfl rfl ?_ | refine ed_write rfl rfl ?_
      | (refine g_code ?_; first
        | refine ec_seq ?_ | refine ec_region ?_ | refine ec_draw ?_ | refine ec_block ?_ | refine ec_skip ?_ | refine ec_exit ?_ | refine ec_ret ?_
        | refine ec_condT rfl ?_ | refine ec_condF rfl ?_ | refine ec_condTH rfl (by assumption) ?_ | refine ec_condFH rfl (by assumption) ?_)
      | refine ek_seqN ?_ | refine ek_seqX ?_ | refine ek_seqR ?_ | refine ek_blkN ?_ | refine ek_blkR ?_ | refine ek_blkX ?_ | refine ek_blkY rfl ?_)
    refine sfin (.inr rfl) (by rfl) (by rfl) (by exact ⟨rfl, rfl, rfl⟩) (by rfl) (by rfl) (by exact congrArg V.bool (by simp [h1])) (by rfl)
  · have h2 : decide (z ≥ lo) = false := decide_eq_false h1
    refine has66.eev rfl rfl ?_
    unfold m66
    repeat' (first
      | (refine g_op ?_; first
        | refine ep_mov rfl ?_ | refine ep_load1 rfl rfl rfl rfl ?_ | refine ep_fieldAddr rfl ?_ | refine sp_loadN rfl rfl rfl rfl rfl ?_
        | refine ep_bin rfl rfl (by first | exact b_add (by omega) (by omega) | exact b_sub (by omega) (by omega) | exact b_and (by omega) (by omega) | exact b_or (by omega) (by omega) | exact b_shr (by omega) | exact b_shl (by omega) (by omega) | rfl) ?_
        | refine ep_pickT rfl rfl ?_ | refine ep_pickF rfl rfl ?_ | refine ep_pickTH rfl (by assumption) rfl ?_ | refine ep_pickFH rfl (by assumption) rfl ?_
        | refine ep_extract rfl rfl ?_ | refine sp_store rfl rfl rfl rfl rfl rfl rfl rfl rfl rfl ?_ | refine ep_conv rfl (by first | exact w_u64 (by omega) (by omega) | exact wrap_id (by omega) (by omega) | rfl) ?_
        | refine ep_not rfl ?_ | refine ep_lenS rfl ?_ | refine ep_lenN rfl ?_ | refine ep_lenE rfl ?_
        | refine sp_box rfl rfl rfl rfl rfl ?_ | refine sp_alloc rfl rfl ?_ | refine sp_build rfl rfl ?_ | refine sp_bslice rfl rfl rfl rfl rfl ?_ | refine ep_empt ?_
        | refine ep_field1 rfl rfl ?_ | refine sp_fieldN rfl rfl rfl ?_ | refine ep_mkfn rfl ?_ | refine ep_nilckP rfl ?_ | refine ep_nilckF rfl ?_
        | refine ep_eqb0 rfl rfl ?_ | refine ep_eqb1 rfl rfl ?_ | refine ep_eqa0 rfl rfl ?_ | refine ep_eqa1 rfl rfl ?_)
      | (refine g_ops ?_; first | refine eo_none ?_ | refine eo_nil ?_ | refine eo_yes rfl ?_ | refine eo_no rfl ?_ | refine eo_und rfl ?_ | refine eo_yesH rfl (by assumption) ?_ | refine eo_noH rfl (by assumption) ?_)
      | (refine g_dops ?_; first | refine ed_none ?_ | refine ed_nil ?_ | refine ed_yes rfl ?_ | refine ed_no rfl ?_ | refine ed_und rfl ?_ | refine ed_yesH rfl (by assumption) ?_ | refine ed_noH rfl (by assumption) ?_)
      | refine ed_same rfl ?_ | refine ed_one rfl rfl rfl rfl ?_ | refine ed_write rfl rfl ?_
      | (refine g_code ?_; first
        | refine ec_seq ?_ | refine ec_region ?_ | refine ec_draw ?_ | refine ec_block ?_ | refine ec_skip ?_ | refine ec_exit ?_ | refine ec_ret ?_
        | refine ec_condT rfl ?_ | refine ec_condF rfl ?_ | refine ec_condTH rfl (by assumption) ?_ | refine ec_condFH rfl (by assumption) ?_)
      | refine ek_seqN ?_ | refine ek_seqX ?_ | refine ek_seqR ?_ | refine ek_blkN ?_ | refine ek_blkR ?_ | refine ek_blkX ?_ | refine ek_blkY rfl ?_)
    refine sfin (.inr rfl) (by rfl) (by rfl) (by exact ⟨rfl, rfl, rfl⟩) (by rfl) (by rfl) (by exact congrArg V.bool (by simp [h1])) (by rfl)
-- loop.example/g01323/spec.l01In
def m72 : MC := (.seq (.region [⟨(.mov (.k (.bool false))), (some 6), none⟩] false) (.seq (.region [⟨(.mov (.t 0)), (some 7), none⟩, ⟨(.mov (.t 1)), (some 8), none⟩, ⟨(.bin .geq (.t 7) (.t 8)), (some 9), none⟩, ⟨(.mov (.t 9)), (some 10), none⟩, ⟨(.mov (.t 0)), (some 11), (some (10, true))⟩, ⟨(.mov (.t 2)), (some 12), (some (10, true))⟩, ⟨(.bin .leq (.t 11) (.t 12)), (some 13), (some (10, true))⟩, ⟨(.pick (.t 10) (.t 13) (.k (.bool false))), (some 14), none⟩, ⟨(.mov (.t 14)), (some 6), none⟩] false) .ret))
theorem has72 : Has cx 72 15 m72 [(.tmp 6)] :=
  ⟨⟨Try.f72, Try.f72.body.getD .skip, by kernel_rfl, by kernel_rfl, by kernel_rfl, by kernel_rfl, by kernel_rfl, by kernel_rfl⟩⟩
theorem ev72 (z lo hi : Int) : Ev cx 72 [.int .i64 z, .int .i64 lo, .int .i64 hi] [] (.bool (decide (lo ≤ z ∧ z ≤ hi))) [] := by
  by_cases h1 : lo ≤ z
  · have h2 : decide (z ≥ lo) = true := decide_eq_true h1
    refine has72.eev rfl rfl ?_
    unfold m72
    repeat' (first
      | (refine g_op ?_; first
        | refine ep_mov rfl ?_ | refine ep_load1 rfl rfl rfl rfl ?_ | refine ep_fieldAddr rfl ?_ | refine sp_loadN rfl rfl rfl rfl rfl ?_
        | refine ep_bin rfl rfl (by first | exact b_add (by omega) (by omega) | exact b_sub (by omega) (by omega) | exact b_and (by omega) (by omega) | exact b_or (by omega) (by omega) | exact b_shr (by omega) | exact b_shl (by omega) (by omega) | rfl) ?_
        | refine ep_pickT rfl rfl ?_ | refine ep_pickF rfl rfl ?_ | refine ep_pickTH rfl (by assumption) rfl ?_ | refine ep_pickFH rfl (by assumption) rfl ?_
        | refine ep_extract rfl rfl ?_ | refine sp_store rfl rfl rfl rfl rfl rfl rfl rfl rfl rfl ?_ | refine ep_conv rfl (by first | exact w_u64 (by omega) (by omega) | exact wrap_id (by omega) (by omega) | rfl) ?_
        | refine ep_not rfl ?_ | refine ep_lenS rfl ?_ | refine ep_lenN rfl ?_ | refine ep_lenE rfl ?_
        | refine sp_box rfl rfl rfl rfl rfl ?_ | refine sp_alloc rfl rfl ?_ | refine sp_build rfl rfl ?_ | refine sp_bslice rfl rfl rfl rfl rfl ?_ | refine ep_empt ?_
        | refine ep_field1 rfl rfl ?_ | refine sp_fieldN rfl rfl rfl ?_ | refine ep_mkfn rfl ?_ | refine ep_nilckP rfl ?_ | refine ep_nilckF rfl ?_
        | refine ep_eqb0 rfl rfl ?_ | refine ep_eqb1 rfl rfl ?_ | refine ep_eqa0 rfl rfl ?_ | refine ep_eqa1 rfl rfl ?_)
      | (refine g_ops ?_; first | refine eo_none ?_ | refine eo_nil ?_ | refine eo_yes rfl ?_ | refine eo_no rfl ?_ | refine eo_und rfl ?_ | refine eo_yesH rfl (by assumption) ?_ | refine eo_noH rfl (by assumption) ?_)
      | (refine g_dops ?_; first | refine ed_none ?_ | refine ed_nil ?_ | refine ed_yes rfl ?_ | refine ed_no rfl ?_ | refine ed_und rfl ?_ | refine ed_yesH rfl (by assumption) ?_ | refine ed_noH rfl (by assumption) ?_)
      | refine ed_same rfl ?_ | refine ed_one rfl rfl rfl rfl ?_ | refine ed_write rfl rfl ?_
      | (refine g_code ?_; first
        | refine ec_seq ?_ | refine ec_region ?_ | refine ec_draw ?_ | refine ec_block ?_ | refine ec_skip ?_ | refine ec_exit ?_ | refine ec_ret ?_
        | refine ec_condT rfl ?_ | refine ec_condF rfl ?_ | refine ec_condTH rfl (by assumption) ?_ | refine ec_condFH rfl (by assumption) ?_)
      | refine ek_seqN ?_ | refine ek_seqX ?_ | refine ek_seqR ?_ | refine ek_blkN ?_ | refine ek_blkR ?_ | refine ek_blkX ?_ | refine ek_blkY rfl ?_)
    refine sfin (.inr rfl) (by rfl) (by rfl) (by exact ⟨rfl, rfl, rfl⟩) (by rfl) (by rfl) (by exact congrArg V.bool (by simp [h1])) (by rfl)
  · have h2 : decide (z ≥ lo) = false := decide_eq_false h1
    refine has72.eev rfl rfl ?_
    unfold m72
    repeat' (first
      | (refine g_op ?_; first
        | refine ep_mov rfl ?_ | refine ep_load1 rfl rfl rfl rfl ?_ | refine ep_fieldAddr rfl ?_ | refine sp_loadN rfl rfl rfl rfl rfl ?_
        | refine ep_bin rfl rfl (by first | exact b_add (by omega) (by omega) | exact b_sub (by omega) (by omega) | exact b_and (by omega) (by omega) | exact b_or (by omega) (by omega) | exact b_shr (by omega) | exact b_shl (by omega) (by omega) | rfl) ?_
        | refine ep_pickT rfl rfl ?_ | refine ep_pickF rfl rfl ?_ | refine ep_pickTH rfl (by assumption) rfl ?_ | refine ep_pickFH rfl (by assumption) rfl ?_
        | refine ep_extract rfl rfl ?_ | refine sp_store rfl rfl rfl rfl rfl rfl rfl rfl rfl rfl ?_ | refine ep_conv rfl (by first | exact w_u64 (by omega) (by omega) | exact wrap_id (by omega) (by omega) | rfl) ?_
        | refine ep_not rfl ?_ | refine ep_lenS rfl ?_ | refine ep_lenN rfl ?_ | refine ep_lenE rfl ?_
        | refine sp_box rfl rfl rfl rfl rfl ?_ | refine sp_alloc rfl rfl ?_ | refine sp_build rfl rfl ?_ | refine sp_bslice rfl rfl rfl rfl rfl ?_ | refine ep_empt ?_
        | refine ep_field1 rfl rfl ?_ | refine sp_fieldN rfl rfl rfl ?_ | refine ep_mkfn rfl ?_ | refine ep_nilckP rfl ?_ | refine ep_nilckF rfl ?_
        | refine ep_eqb0 rfl rfl ?_ | refine ep_eqb1 rfl rfl ?_ | refine ep_eqa0 rfl rfl ?_ | refine ep_eqa1 rfl rfl ?_)
      | (refine g_ops ?_; first | refine eo_none ?_ | refine eo_nil ?_ | refine eo_yes rfl ?_ | refine eo_no rfl ?_ | refine eo_und rfl ?_ | refine eo_yesH rfl (by assumption) ?_ | refine eo_noH rfl (by assumption) ?_)
      | (refine g_dops ?_; first | refine ed_none ?_ | refine ed_nil ?_ | refine ed_yes rfl ?_ | refine ed_no rfl ?_ | refine ed_und rfl ?_ | refine ed_yesH rfl (by assumption) ?_ | refine ed_noH rfl (by assumption) ?_)
      | refine ed_same rfl ?_ | refine ed_one rfl rfl rfl rfl ?_ | refine ed_write rfl rfl ?_
      | (refine g_code ?_; first
        | refine ec_seq ?_ | refine ec_region ?_ | refine ec_draw ?_ | refine ec_block ?_ | refine ec_skip ?_ | refine ec_exit ?_ | refine ec_ret ?_
        | refine ec_condT rfl ?_ | refine ec_condF rfl ?_ | refine ec_condTH rfl (by assumption) ?_ | refine ec_condFH rfl (by assumption) ?_)
      | refine ek_seqN ?_ | refine ek_seqX ?_ | refine ek_seqR ?_ | refine ek_blkN ?_ | refine ek_blkR ?_ | refine ek_blkX ?_ | refine ek_blkY rfl ?_)
    refine sfin (.inr rfl) (by rfl) (by rfl) (by exact ⟨rfl, rfl, rfl⟩) (by rfl) (by rfl) (by exact congrArg V.bool (by simp [h1])) (by rfl)
-- loop.example/g01323/impl.rowsOf
def m81 : MC := (.seq (.region [⟨(.mov (.k (.int .i64 0))), (some 2), none⟩] false) (.seq (.region [⟨(.mov (.t 0)), (some 3), none⟩, ⟨(.bin .shl (.k (.int .i64 1)) (.t 3)), (some 4), none⟩, ⟨(.mov (.t 4)), (some 2), none⟩] false) .ret))
theorem has81 : Has cx 81 5 m81 [(.tmp 2)] :=
  ⟨⟨Try.f81, Try.f81.body.getD .skip, by kernel_rfl, by kernel_rfl, by kernel_rfl, by kernel_rfl, by kernel_rfl, by kernel_rfl⟩⟩
theorem ev81 (n : Nat) (h : n ≤ 4) : Ev cx 81 [.int .i64 n] [] (.int .i64 (R2 n : Nat)) [] := by
  obtain ⟨h1, h2, h3, h4⟩ := shN h
  refine has81.eev rfl rfl ?_
  unfold m81
  repeat' (first
    | (refine g_op ?_; first
      | refine ep_mov rfl ?_ | refine ep_load1 rfl rfl rfl rfl ?_ | refine ep_fieldAddr rfl ?_ | refine sp_loadN rfl rfl rfl rfl rfl ?_
      | refine ep_bin rfl rfl (by first | exact b_shl1 (by omega) (by omega) | exact b_add (by omega) (by omega) | exact b_sub (by omega) (by omega) | exact b_and (by omega) (by omega) | exact b_or (by omega) (by omega) | exact b_shr (by omega) | exact b_shl (by omega) (by omega) | rfl) ?_
      | refine ep_pickT rfl rfl ?_ | refine ep_pickF rfl rfl ?_ | refine ep_pickTH rfl (by assumption) rfl ?_ | refine ep_pickFH rfl (by assumption) rfl ?_
      | refine ep_extract rfl rfl ?_ | refine sp_store rfl rfl rfl rfl rfl rfl rfl rfl rfl rfl ?_ | refine ep_conv rfl (by first | exact w_u64 (by omega) (by omega) | exact wrap_id (by omega) (by omega) | rfl) ?_
      | refine ep_not rfl ?_ | refine ep_lenS rfl ?_ | refine ep_lenN rfl ?_ | refine ep_lenE rfl ?_
      | refine sp_box rfl rfl rfl rfl rfl ?_ | refine sp_alloc rfl rfl ?_ | refine sp_build rfl rfl ?_ | refine sp_bslice rfl rfl rfl rfl rfl ?_ | refine ep_empt ?_
      | refine ep_field1 rfl rfl ?_ | refine sp_fieldN rfl rfl rfl ?_ | refine ep_mkfn rfl ?_ | refine ep_nilckP rfl ?_ | refine ep_nilckF rfl ?_
      | refine ep_eqb0 rfl rfl ?_ | refine ep_eqb1 rfl rfl ?_ | refine ep_eqa0 rfl rfl ?_ | refine ep_eqa1 rfl rfl ?_)
    | (refine g_ops ?_; first | refine eo_none ?_ | refine eo_nil ?_ | refine eo_yes rfl ?_ | refine eo_no rfl ?_ | refine eo_und rfl ?_ | refine eo_yesH rfl (by assumption) ?_ | refine eo_noH rfl (by assumption) ?_)
    | (refine g_dops ?_; first | refine ed_none ?_ | refine ed_nil ?_ | refine ed_yes rfl ?_ | refine ed_no rfl ?_ | refine ed_und rfl ?_ | refine ed_yesH rfl (by assumption) ?_ | refine ed_noH rfl (by assumption) ?_)
    | refine ed_same rfl ?_ | refine ed_one rfl rfl rfl rfl ?_ | refine ed_write rfl rfl ?_
    | (refine g_code ?_; first
      | refine ec_seq ?_ | refine ec_region ?_ | refine ec_draw ?_ | refine ec_block ?_ | refine ec_skip ?_ | refine ec_exit ?_ | refine ec_ret ?_
      | refine ec_condT rfl ?_ | refine ec_condF rfl ?_ | refine ec_condTH rfl (by assumption) ?_ | refine ec_condFH rfl (by assumption) ?_)
    | refine ek_seqN ?_ | refine ek_seqX ?_ | refine ek_seqR ?_ | refine ek_blkN ?_ | refine ek_blkR ?_ | refine ek_blkX ?_ | refine ek_blkY rfl ?_)
  refine sfin (.inr rfl) (by rfl) (by rfl) (by exact ⟨rfl, rfl, rfl⟩) (by rfl) (by rfl) (by rfl) (by rfl)
-- loop.example/g01323/impl.funcsOf
def m67 : MC := (.seq (.region [⟨(.mov (.k (.int .i64 0))), (some 2), none⟩] false) (.seq (.region [⟨(.mov (.t 0)), (some 3), none⟩, ⟨(.call 81 [(.t 3)]), (some 4), none⟩, ⟨(.bin .shl (.k (.int .i64 1)) (.t 4)), (some 5), none⟩, ⟨(.mov (.t 5)), (some 2), none⟩] false) .ret))
theorem has67 : Has cx 67 6 m67 [(.tmp 2)] :=
  ⟨⟨Try.f67, Try.f67.body.getD .skip, by kernel_rfl, by kernel_rfl, by kernel_rfl, by kernel_rfl, by kernel_rfl, by kernel_rfl⟩⟩
theorem ev67 (n : Nat) (h : n ≤ 4) : Ev cx 67 [.int .i64 n] [] (.int .i64 (R2 (R2 n) : Nat)) [] := by
  obtain ⟨h1, h2, h3, h4⟩ := shN h
  refine has67.eev rfl rfl ?_
  unfold m67
  repeat' (first
    | (refine g_op ?_; first
      | refine ep_mov rfl ?_ | refine ep_load1 rfl rfl rfl rfl ?_ | refine ep_fieldAddr rfl ?_ | refine sp_loadN rfl rfl rfl rfl rfl ?_
      | refine ep_call0 rfl (by first | exact ev81 _ h) rfl rfl ?_
      | refine sp_call rfl rfl rfl rfl (by first | exact ev81 _ h) ⟨rfl, rfl, rfl, rfl⟩ rfl rfl rfl ?_
      | refine sp_callv rfl rfl rfl rfl rfl rfl (by first | exact ev81 _ h) ⟨rfl, rfl, rfl, rfl⟩ rfl rfl rfl ?_
      | refine ep_bin rfl rfl (by first | exact b_shl1 (by omega) (by omega) | exact b_add (by omega) (by omega) | exact b_sub (by omega) (by omega) | exact b_and (by omega) (by omega) | exact b_or (by omega) (by omega) | exact b_shr (by omega) | exact b_shl (by omega) (by omega) | rfl) ?_
      | refine ep_pickT rfl rfl ?_ | refine ep_pickF rfl rfl ?_ | refine ep_pickTH rfl (by assumption) rfl ?_ | refine ep_pickFH rfl (by assumption) rfl ?_
      | refine ep_extract rfl rfl ?_ | refine sp_store rfl rfl rfl rfl rfl rfl rfl rfl rfl rfl ?_ | refine ep_conv rfl (by first | exact w_u64 (by omega) (by omega) | exact wrap_id (by omega) (by omega) | rfl) ?_
      | refine ep_not rfl ?_ | refine ep_lenS rfl ?_ | refine ep_lenN rfl ?_ | refine ep_lenE rfl ?_
      | refine sp_box rfl rfl rfl rfl rfl ?_ | refine sp_alloc rfl rfl ?_ | refine sp_build rfl rfl ?_ | refine sp_bslice rfl rfl rfl rfl rfl ?_ | refine ep_empt ?_
      | refine ep_field1 rfl rfl ?_ | refine sp_fieldN rfl rfl rfl ?_ | refine ep_mkfn rfl ?_ | refine ep_nilckP rfl ?_ | refine ep_nilckF rfl ?_
      | refine ep_eqb0 rfl rfl ?_ | refine ep_eqb1 rfl rfl ?_ | refine ep_eqa0 rfl rfl ?_ | refine ep_eqa1 rfl rfl ?_)
    | (refine g_ops ?_; first | refine eo_none ?_ | refine eo_nil ?_ | refine eo_yes rfl ?_ | refine eo_no rfl ?_ | refine eo_und rfl ?_ | refine eo_yesH rfl (by assumption) ?_ | refine eo_noH rfl (by assumption) ?_)
    | (refine g_dops ?_; first | refine ed_none ?_ | refine ed_nil ?_ | refine ed_yes rfl ?_ | refine ed_no rfl ?_ | refine ed_und rfl ?_ | refine ed_yesH rfl (by assumption) ?_ | refine ed_noH rfl (by assumption) ?_)
    | refine ed_same rfl ?_ | refine ed_one rfl rfl rfl rfl ?_ | refine ed_write rfl rfl ?_
    | (refine g_code ?_; first
      | refine ec_seq ?_ | refine ec_region ?_ | refine ec_draw ?_ | refine ec_block ?_ | refine ec_skip ?_ | refine ec_exit ?_ | refine ec_ret ?_
      | refine ec_condT rfl ?_ | refine ec_condF rfl ?_ | refine ec_condTH rfl (by assumption) ?_ | refine ec_condFH rfl (by assumption) ?_)
    | refine ek_seqN ?_ | refine ek_seqX ?_ | refine ek_seqR ?_ | refine ek_blkN ?_ | refine ek_blkR ?_ | refine ek_blkX ?_ | refine ek_blkY rfl ?_)
  refine sfin (.inr rfl) (by rfl) (by rfl) (by exact ⟨rfl, rfl, rfl⟩) (by rfl) (by rfl) (by rfl) (by rfl)
-- loop.example/g01323/spec.l01Rows
def m96 : MC := (.seq (.region [⟨(.mov (.k (.int .i64 0))), (some 2), none⟩] false) (.seq (.region [⟨(.mov (.t 0)), (some 3), none⟩, ⟨(.conv .u64 (.t 3)), (some 4), none⟩, ⟨(.bin .shl (.k (.int .i64 1)) (.t 4)), (some 5), none⟩, ⟨(.mov (.t 5)), (some 2), none⟩] false) .ret))
theorem has96 : Has cx 96 6 m96 [(.tmp 2)] :=
  ⟨⟨Try.f96, Try.f96.body.getD .skip, by kernel_rfl, by kernel_rfl, by kernel_rfl, by kernel_rfl, by kernel_rfl, by kernel_rfl⟩⟩
theorem ev96 (n : Nat) (h : n ≤ 4) : Ev cx 96 [.int .i64 n] [] (.int .i64 (R2 n : Nat)) [] := by
  obtain ⟨h1, h2, h3, h4⟩ := shN h
  refine has96.eev rfl rfl ?_
  unfold m96
  repeat' (first
    | (refine g_op ?_; first
      | refine ep_mov rfl ?_ | refine ep_load1 rfl rfl rfl rfl ?_ | refine ep_fieldAddr rfl ?_ | refine sp_loadN rfl rfl rfl rfl rfl ?_
      | refine ep_bin rfl rfl (by first | exact b_shl1 (by omega) (by omega) | exact b_add (by omega) (by omega) | exact b_sub (by omega) (by omega) | exact b_and (by omega) (by omega) | exact b_or (by omega) (by omega) | exact b_shr (by omega) | exact b_shl (by omega) (by omega) | rfl) ?_
      | refine ep_pickT rfl rfl ?_ | refine ep_pickF rfl rfl ?_ | refine ep_pickTH rfl (by assumption) rfl ?_ | refine ep_pickFH rfl (by assumption) rfl ?_
      | refine ep_extract rfl rfl ?_ | refine sp_store rfl rfl rfl rfl rfl rfl rfl rfl rfl rfl ?_ | refine ep_conv rfl (by first | exact w_u64 (by omega) (by omega) | exact wrap_id (by omega) (by omega) | rfl) ?_
      | refine ep_not rfl ?_ | refine ep_lenS rfl ?_ | refine ep_lenN rfl ?_ | refine ep_lenE rfl ?_
      | refine sp_box rfl rfl rfl rfl rfl ?_ | refine sp_alloc rfl rfl ?_ | refine sp_build rfl rfl ?_ | refine sp_bslice rfl rfl rfl rfl rfl ?_ | refine ep_empt ?_
      | refine ep_field1 rfl rfl ?_ | refine sp_fieldN rfl rfl rfl ?_ | refine ep_mkfn rfl ?_ | refine ep_nilckP rfl ?_ | refine ep_nilckF rfl ?_
      | refine ep_eqb0 rfl rfl ?_ | refine ep_eqb1 rfl rfl ?_ | refine ep_eqa0 rfl rfl ?_ | refine ep_eqa1 rfl rfl ?_)
    | (refine g_ops ?_; first | refine eo_none ?_ | refine eo_nil ?_ | refine eo_yes rfl ?_ | refine eo_no rfl ?_ | refine eo_und rfl ?_ | refine eo_yesH rfl (by assumption) ?_ | refine eo_noH rfl (by assumption) ?_)
    | (refine g_dops ?_; first | refine ed_none ?_ | refine ed_nil ?_ | refine ed_yes rfl ?_ | refine ed_no rfl ?_ | refine ed_und rfl ?_ | refine ed_yesH rfl (by assumption) ?_ | refine ed_noH rfl (by assumption) ?_)
    | refine ed_same rfl ?_ | refine ed_one rfl rfl rfl rfl ?_ | refine ed_write rfl rfl ?_
    | (refine g_code ?_; first
      | refine ec_seq ?_ | refine ec_region ?_ | refine ec_draw ?_ | refine ec_block ?_ | refine ec_skip ?_ | refine ec_exit ?_ | refine ec_ret ?_
      | refine ec_condT rfl ?_ | refine ec_condF rfl ?_ | refine ec_condTH rfl (by assumption) ?_ | refine ec_condFH rfl (by assumption) ?_)
    | refine ek_seqN ?_ | refine ek_seqX ?_ | refine ek_seqR ?_ | refine ek_blkN ?_ | refine ek_blkR ?_ | refine ek_blkX ?_ | refine ek_blkY rfl ?_)
  refine sfin (.inr rfl) (by rfl) (by rfl) (by exact ⟨rfl, rfl, rfl⟩) (by rfl) (by rfl) (by rfl) (by rfl)
-- loop.example/g01323/spec.l01All
def m104 : MC := (.seq (.region [⟨(.mov (.k (.int .i64 0))), (some 2), none⟩] false) (.seq (.region [⟨(.mov (.t 0)), (some 3), none⟩, ⟨(.call 96 [(.t 3)]), (some 4), none⟩, ⟨(.conv .u64 (.t 4)), (some 5), none⟩, ⟨(.bin .shl (.k (.int .i64 1)) (.t 5)), (some 6), none⟩, ⟨(.bin .sub (.t 6) (.k (.int .i64 1))), (some 7), none⟩, ⟨(.mov (.t 7)), (some 2), none⟩] false) .ret))
theorem has104 : Has cx 104 8 m104 [(.tmp 2)] :=
  ⟨⟨Try.f104, Try.f104.body.getD .skip, by kernel_rfl, by kernel_rfl, by kernel_rfl, by kernel_rfl, by kernel_rfl, by kernel_rfl⟩⟩
theorem ev104 (n : Nat) (h : n ≤ 4) : Ev cx 104 [.int .i64 n] [] (.int .i64 ((R2 (R2 n) : Nat) - 1)) [] := by
  obtain ⟨h1, h2, h3, h4⟩ := shN h
  refine has104.eev rfl rfl ?_
  unfold m104
  repeat' (first
    | (refine g_op ?_; first
      | refine ep_mov rfl ?_ | refine ep_load1 rfl rfl rfl rfl ?_ | refine ep_fieldAddr rfl ?_ | refine sp_loadN rfl rfl rfl rfl rfl ?_
      | refine ep_call0 rfl (by first | exact ev96 _ h) rfl rfl ?_
      | refine sp_call rfl rfl rfl rfl (by first | exact ev96 _ h) ⟨rfl, rfl, rfl, rfl⟩ rfl rfl rfl ?_
      | refine sp_callv rfl rfl rfl rfl rfl rfl (by first | exact ev96 _ h) ⟨rfl, rfl, rfl, rfl⟩ rfl rfl rfl ?_
      | refine ep_bin rfl rfl (by first | exact b_shl1 (by omega) (by omega) | exact b_add (by omega) (by omega) | exact b_sub (by omega) (by omega) | exact b_and (by omega) (by omega) | exact b_or (by omega) (by omega) | exact b_shr (by omega) | exact b_shl (by omega) (by omega) | rfl) ?_
      | refine ep_pickT rfl rfl ?_ | refine ep_pickF rfl rfl ?_ | refine ep_pickTH rfl (by assumption) rfl ?_ | refine ep_pickFH rfl (by assumption) rfl ?_
      | refine ep_extract rfl rfl ?_ | refine sp_store rfl rfl rfl rfl rfl rfl rfl rfl rfl rfl ?_ | refine ep_conv rfl (by first | exact w_u64 (by omega) (by omega) | exact wrap_id (by omega) (by omega) | rfl) ?_
      | refine ep_not rfl ?_ | refine ep_lenS rfl ?_ | refine ep_lenN rfl ?_ | refine ep_lenE rfl ?_
      | refine sp_box rfl rfl rfl rfl rfl ?_ | refine sp_alloc rfl rfl ?_ | refine sp_build rfl rfl ?_ | refine sp_bslice rfl rfl rfl rfl rfl ?_ | refine ep_empt ?_
      | refine ep_field1 rfl rfl ?_ | refine sp_fieldN rfl rfl rfl ?_ | refine ep_mkfn rfl ?_ | refine ep_nilckP rfl ?_ | refine ep_nilckF rfl ?_
      | refine ep_eqb0 rfl rfl ?_ | refine ep_eqb1 rfl rfl ?_ | refine ep_eqa0 rfl rfl ?_ | refine ep_eqa1 rfl rfl ?_)
    | (refine g_ops ?_; first | refine eo_none ?_ | refine eo_nil ?_ | refine eo_yes rfl ?_ | refine eo_no rfl ?_ | refine eo_und rfl ?_ | refine eo_yesH rfl (by assumption) ?_ | refine eo_noH rfl (by assumption) ?_)
    | (refine g_dops ?_; first | refine ed_none ?_ | refine ed_nil ?_ | refine ed_yes rfl ?_ | refine ed_no rfl ?_ | refine ed_und rfl ?_ | refine ed_yesH rfl (by assumption) ?_ | refine ed_noH rfl (by assumption) ?_)
    | refine ed_same rfl ?_ | refine ed_one rfl rfl rfl rfl ?_ | refine ed_write rfl rfl ?_
    | (refine g_code ?_; first
      | refine ec_seq ?_ | refine ec_region ?_ | refine ec_draw ?_ | refine ec_block ?_ | refine ec_skip ?_ | refine ec_exit ?_ | refine ec_ret ?_
      | refine ec_condT rfl ?_ | refine ec_condF rfl ?_ | refine ec_condTH rfl (by assumption) ?_ | refine ec_condFH rfl (by assumption) ?_)
    | refine ek_seqN ?_ | refine ek_seqX ?_ | refine ek_seqR ?_ | refine ek_blkN ?_ | refine ek_blkR ?_ | refine ek_blkX ?_ | refine ek_blkY rfl ?_)
  refine sfin (.inr rfl) (by rfl) (by rfl) (by exact ⟨rfl, rfl, rfl⟩) (by rfl) (by rfl) (by rfl) (by rfl)
-- loop.example/g01323/impl.isArity
def m80 : MC := (.seq (.region [⟨(.mov (.k (.bool false))), (some 2), none⟩] false) (.seq (.region [⟨(.mov (.t 0)), (some 3), none⟩, ⟨(.call 66 [(.t 3), (.k (.int .i64 0)), (.k (.int .i64 4))]), (some 4), none⟩, ⟨(.mov (.t 4)), (some 2), none⟩] false) .ret))
theorem has80 : Has cx 80 5 m80 [(.tmp 2)] :=
  ⟨⟨Try.f80, Try.f80.body.getD .skip, by kernel_rfl, by kernel_rfl, by kernel_rfl, by kernel_rfl, by kernel_rfl, by kernel_rfl⟩⟩
theorem ev80 (z : Int) : Ev cx 80 [.int .i64 z] [] (.bool (decide (0 ≤ z ∧ z ≤ 4))) [] := by
  refine has80.eev rfl rfl ?_
  unfold m80
  repeat' (first
    | (refine g_op ?_; first
      | refine ep_mov rfl ?_ | refine ep_load1 rfl rfl rfl rfl ?_ | refine ep_fieldAddr rfl ?_ | refine sp_loadN rfl rfl rfl rfl rfl ?_
      | refine ep_call0 rfl (by first | exact ev66 _ _ _) rfl rfl ?_
      | refine sp_call rfl rfl rfl rfl (by first | exact ev66 _ _ _) ⟨rfl, rfl, rfl, rfl⟩ rfl rfl rfl ?_
      | refine sp_callv rfl rfl rfl rfl rfl rfl (by first | exact ev66 _ _ _) ⟨rfl, rfl, rfl, rfl⟩ rfl rfl rfl ?_
      | refine ep_bin rfl rfl (by first | exact b_add (by omega) (by omega) | exact b_sub (by omega) (by omega) | exact b_and (by omega) (by omega) | exact b_or (by omega) (by omega) | exact b_shr (by omega) | exact b_shl (by omega) (by omega) | rfl) ?_
      | refine ep_pickT rfl rfl ?_ | refine ep_pickF rfl rfl ?_ | refine ep_pickTH rfl (by assumption) rfl ?_ | refine ep_pickFH rfl (by assumption) rfl ?_
      | refine ep_extract rfl rfl ?_ | refine sp_store rfl rfl rfl rfl rfl rfl rfl rfl rfl rfl ?_ | refine ep_conv rfl (by first | exact w_u64 (by omega) (by omega) | exact wrap_id (by omega) (by omega) | rfl) ?_
      | refine ep_not rfl ?_ | refine ep_lenS rfl ?_ | refine ep_lenN rfl ?_ | refine ep_lenE rfl ?_
      | refine sp_box rfl rfl rfl rfl rfl ?_ | refine sp_alloc rfl rfl ?_ | refine sp_build rfl rfl ?_ | refine sp_bslice rfl rfl rfl rfl rfl ?_ | refine ep_empt ?_
      | refine ep_field1 rfl rfl ?_ | refine sp_fieldN rfl rfl rfl ?_ | refine ep_mkfn rfl ?_ | refine ep_nilckP rfl ?_ | refine ep_nilckF rfl ?_
      | refine ep_eqb0 rfl rfl ?_ | refine ep_eqb1 rfl rfl ?_ | refine ep_eqa0 rfl rfl ?_ | refine ep_eqa1 rfl rfl ?_)
    | (refine g_ops ?_; first | refine eo_none ?_ | refine eo_nil ?_ | refine eo_yes rfl ?_ | refine eo_no rfl ?_ | refine eo_und rfl ?_ | refine eo_yesH rfl (by assumption) ?_ | refine eo_noH rfl (by assumption) ?_)
    | (refine g_dops ?_; first | refine ed_none ?_ | refine ed_nil ?_ | refine ed_yes rfl ?_ | refine ed_no rfl ?_ | refine ed_und rfl ?_ | refine ed_yesH rfl (by assumption) ?_ | refine ed_noH rfl (by assumption) ?_)
    | refine ed_same rfl ?_ | refine ed_one rfl rfl rfl rfl ?_ | refine ed_write rfl rfl ?_
    | (refine g_code ?_; first
      | refine ec_seq ?_ | refine ec_region ?_ | refine ec_draw ?_ | refine ec_block ?_ | refine ec_skip ?_ | refine ec_exit ?_ | refine ec_ret ?_
      | refine ec_condT rfl ?_ | refine ec_condF rfl ?_ | refine ec_condTH rfl (by assumption) ?_ | refine ec_condFH rfl (by assumption) ?_)
    | refine ek_seqN ?_ | refine ek_seqX ?_ | refine ek_seqR ?_ | refine ek_blkN ?_ | refine ek_blkR ?_ | refine ek_blkX ?_ | refine ek_blkY rfl ?_)
  refine sfin (.inr rfl) (by rfl) (by rfl) (by exact ⟨rfl, rfl, rfl⟩) (by rfl) (by rfl) (by rfl) (by rfl)
structure RR where
  a : Int
  b : Int
  c : Int
abbrev rr (x : RR) : V := .tup [.agg [.int .i64 x.a, .int .i64 x.b], .int .i64 x.c]
theorem isRel_nat {p t : Int} (h : isRel p t = true) : ∃ n b : Nat, p = n ∧ t = b ∧ 1 ≤ n ∧ n ≤ 4 ∧ b < R2 (R2 n) ∧ b < 65536 := by
  simp only [isRel, Bool.and_eq_true, decide_eq_true_eq] at h
  obtain ⟨⟨h1, h2⟩, h3, h4⟩ := h
  obtain ⟨n, rfl⟩ := Int.eq_ofNat_of_zero_le (show 0 ≤ p by omega)
  obtain ⟨b, rfl⟩ := Int.eq_ofNat_of_zero_le h3
  simp only [Int.toNat_natCast] at h4
  obtain ⟨_, q, _⟩ := shN (n := n) (by omega)
  exact ⟨n, b, rfl, rfl, by omega, by omega, by omega, by omega⟩
theorem isFn_nat {p t : Int} (h : isFn p t = true) : ∃ n b : Nat, p = n ∧ t = b ∧ n ≤ 4 ∧ b < R2 (R2 n) ∧ b < 65536 := by
  simp only [isFn, Bool.and_eq_true, decide_eq_true_eq] at h
  obtain ⟨⟨h1, h2⟩, h3, h4⟩ := h
  obtain ⟨n, rfl⟩ := Int.eq_ofNat_of_zero_le (show 0 ≤ p by omega)
  obtain ⟨b, rfl⟩ := Int.eq_ofNat_of_zero_le h3
  simp only [Int.toNat_natCast] at h4
  obtain ⟨_, q, _⟩ := shN (n := n) (by omega)
  exact ⟨n, b, rfl, rfl, by omega, by omega, by omega⟩
def meetR (p t q s : Int) : RR := if isRel p t = true ∧ isRel q s = true then (if p = q then ⟨p, (t.toNat &&& s.toNat : Nat), 0⟩ else ⟨0, 0, 2⟩) else ⟨0, 0, 1⟩
def bt (b r : Nat) : Nat := (b >>> r) &&& 1
theorem bt_le (b r : Nat) : bt b r ≤ 1 := by unfold bt; exact Nat.and_le_right
theorem shr_lt {b r : Nat} (h : b < 9223372036854775808) : b >>> r < 9223372036854775808 := Nat.lt_of_le_of_lt (Nat.shiftRight_le b r) h
theorem b_bt {b r : Nat} (h : b < 9223372036854775808) : binV .and (.int .i64 (b >>> r : Nat)) (.int .i64 1) = some (.int .i64 (bt b r : Nat)) := b_and (y := 1) (shr_lt h) (by omega)
theorem R2_le {j n : Nat} (h : j < n) : 2 * R2 j ≤ R2 n := by
  unfold R2; rw [← Nat.pow_succ']; exact Nat.pow_le_pow_right (by omega) (by omega)
theorem or_lt {x y n : Nat} (hx : x < R2 n) (hy : y < R2 n) : x ||| y < R2 n := by unfold R2 at *; exact Nat.or_lt_two_pow hx hy
attribute [local irreducible] bt
-- loop.example/g01323/impl.bit
def m118 : MC := (.seq (.region [⟨(.mov (.k (.int .i64 0))), (some 4), none⟩] false) (.seq (.region [⟨(.mov (.t 0)), (some 5), none⟩, ⟨(.mov (.t 1)), (some 6), none⟩, ⟨(.bin .shr (.t 5) (.t 6)), (some 7), none⟩, ⟨(.bin .and (.t 7) (.k (.int .i64 1))), (some 8), none⟩, ⟨(.mov (.t 8)), (some 4), none⟩] false) .ret))
theorem has118 : Has cx 118 9 m118 [(.tmp 4)] :=
  ⟨⟨Try.f118, Try.f118.body.getD .skip, by kernel_rfl, by kernel_rfl, by kernel_rfl, by kernel_rfl, by kernel_rfl, by kernel_rfl⟩⟩
theorem ev118 (b r : Nat) (hb : b < 9223372036854775808) (hr : r ≤ 64) : Ev cx 118 [.int .i64 b, .int .i64 r] [] (.int .i64 (bt b r : Nat)) [] := by
  refine has118.eev rfl rfl ?_
  unfold m118
  repeat' (first
    | (refine g_op ?_; first
      | refine ep_mov rfl ?_ | refine ep_load1 rfl rfl rfl rfl ?_ | refine ep_fieldAddr rfl ?_ | refine sp_loadN rfl rfl rfl rfl rfl ?_
      | refine ep_bin rfl rfl (by first | exact b_shr hr | exact b_bt hb | exact b_add (by omega) (by omega) | exact b_sub (by omega) (by omega) | exact b_and (by omega) (by omega) | exact b_or (by omega) (by omega) | exact b_shr (by omega) | exact b_shl (by omega) (by omega) | rfl) ?_
      | refine ep_pickT rfl rfl ?_ | refine ep_pickF rfl rfl ?_ | refine ep_pickTH rfl (by assumption) rfl ?_ | refine ep_pickFH rfl (by assumption) rfl ?_
      | refine ep_extract rfl rfl ?_ | refine sp_store rfl rfl rfl rfl rfl rfl rfl rfl rfl rfl ?_ | refine ep_conv rfl (by first | exact w_u64 (by omega) (by omega) | exact wrap_id (by omega) (by omega) | rfl) ?_
      | refine ep_not rfl ?_ | refine ep_lenS rfl ?_ | refine ep_lenN rfl ?_ | refine ep_lenE rfl ?_
      | refine sp_box rfl rfl rfl rfl rfl ?_ | refine sp_alloc rfl rfl ?_ | refine sp_build rfl rfl ?_ | refine sp_bslice rfl rfl rfl rfl rfl ?_ | refine ep_empt ?_
      | refine ep_field1 rfl rfl ?_ | refine sp_fieldN rfl rfl rfl ?_ | refine ep_mkfn rfl ?_ | refine ep_nilckP rfl ?_ | refine ep_nilckF rfl ?_
      | refine ep_eqb0 rfl rfl ?_ | refine ep_eqb1 rfl rfl ?_ | refine ep_eqa0 rfl rfl ?_ | refine ep_eqa1 rfl rfl ?_)
    | (refine g_ops ?_; first | refine eo_none ?_ | refine eo_nil ?_ | refine eo_yes rfl ?_ | refine eo_no rfl ?_ | refine eo_und rfl ?_ | refine eo_yesH rfl (by assumption) ?_ | refine eo_noH rfl (by assumption) ?_)
    | (refine g_dops ?_; first | refine ed_none ?_ | refine ed_nil ?_ | refine ed_yes rfl ?_ | refine ed_no rfl ?_ | refine ed_und rfl ?_ | refine ed_yesH rfl (by assumption) ?_ | refine ed_noH rfl (by assumption) ?_)
    | refine ed_same rfl ?_ | refine ed_one rfl rfl rfl rfl ?_ | refine ed_write rfl rfl ?_
    | (refine g_code ?_; first
      | refine ec_seq ?_ | refine ec_region ?_ | refine ec_draw ?_ | refine ec_block ?_ | refine ec_skip ?_ | refine ec_exit ?_ | refine ec_ret ?_
      | refine ec_condT rfl ?_ | refine ec_condF rfl ?_ | refine ec_condTH rfl (by assumption) ?_ | refine ec_condFH rfl (by assumption) ?_)
    | refine ek_seqN ?_ | refine ek_seqX ?_ | refine ek_seqR ?_ | refine ek_blkN ?_ | refine ek_blkR ?_ | refine ek_blkX ?_ | refine ek_blkY rfl ?_)
  refine sfin (.inr rfl) (by rfl) (by rfl) (by exact ⟨rfl, rfl, rfl⟩) (by rfl) (by rfl) (by rfl) (by rfl)
-- (loop.example/g01323/impl.Func).at
def m107 : MC := (.seq (.region [⟨(.box (.t 0)), (some 2), none⟩, ⟨(.mov (.k (.int .i64 0))), (some 4), none⟩] false) (.seq (.region [⟨(.fieldAddr 1 (.t 2)), (some 5), none⟩, ⟨(.load none (.t 5)), (some 6), none⟩, ⟨(.mov (.t 1)), (some 7), none⟩, ⟨(.call 118 [(.t 6), (.t 7)]), (some 8), none⟩, ⟨(.mov (.t 8)), (some 4), none⟩] false) .ret))
theorem has107 : Has cx 107 9 m107 [(.tmp 4)] :=
  ⟨⟨Try.f107, Try.f107.body.getD .skip, by kernel_rfl, by kernel_rfl, by kernel_rfl, by kernel_rfl, by kernel_rfl, by kernel_rfl⟩⟩
theorem ev107 (n : Int) (b r : Nat) (hb : b < 9223372036854775808) (hr : r ≤ 64) : Ev cx 107 [.agg [.int .i64 n, .int .i64 b], .int .i64 r] [] (.int .i64 (bt b r : Nat)) [] := by
  refine has107.eev rfl rfl ?_
  unfold m107
  repeat' (first
    | (refine g_op ?_; first
      | refine ep_mov rfl ?_ | refine ep_load1 rfl rfl rfl rfl ?_ | refine ep_fieldAddr rfl ?_ | refine sp_loadN rfl rfl rfl rfl rfl ?_
      | refine ep_call0 rfl (by first | exact ev118 _ _ hb hr) rfl rfl ?_
      | refine sp_call rfl rfl rfl rfl (by first | exact ev118 _ _ hb hr) ⟨rfl, rfl, rfl, rfl⟩ rfl rfl rfl ?_
      | refine sp_callv rfl rfl rfl rfl rfl rfl (by first | exact ev118 _ _ hb hr) ⟨rfl, rfl, rfl, rfl⟩ rfl rfl rfl ?_
      | refine ep_bin rfl rfl (by first | exact b_add (by omega) (by omega) | exact b_sub (by omega) (by omega) | exact b_and (by omega) (by omega) | exact b_or (by omega) (by omega) | exact b_shr (by omega) | exact b_shl (by omega) (by omega) | rfl) ?_
      | refine ep_pickT rfl rfl ?_ | refine ep_pickF rfl rfl ?_ | refine ep_pickTH rfl (by assumption) rfl ?_ | refine ep_pickFH rfl (by assumption) rfl ?_
      | refine ep_extract rfl rfl ?_ | refine sp_store rfl rfl rfl rfl rfl rfl rfl rfl rfl rfl ?_ | refine ep_conv rfl (by first | exact w_u64 (by omega) (by omega) | exact wrap_id (by omega) (by omega) | rfl) ?_
      | refine ep_not rfl ?_ | refine ep_lenS rfl ?_ | refine ep_lenN rfl ?_ | refine ep_lenE rfl ?_
      | refine sp_box rfl rfl rfl rfl rfl ?_ | refine sp_alloc rfl rfl ?_ | refine sp_build rfl rfl ?_ | refine sp_bslice rfl rfl rfl rfl rfl ?_ | refine ep_empt ?_
      | refine ep_field1 rfl rfl ?_ | refine sp_fieldN rfl rfl rfl ?_ | refine ep_mkfn rfl ?_ | refine ep_nilckP rfl ?_ | refine ep_nilckF rfl ?_
      | refine ep_eqb0 rfl rfl ?_ | refine ep_eqb1 rfl rfl ?_ | refine ep_eqa0 rfl rfl ?_ | refine ep_eqa1 rfl rfl ?_)
    | (refine g_ops ?_; first | refine eo_none ?_ | refine eo_nil ?_ | refine eo_yes rfl ?_ | refine eo_no rfl ?_ | refine eo_und rfl ?_ | refine eo_yesH rfl (by assumption) ?_ | refine eo_noH rfl (by assumption) ?_)
    | (refine g_dops ?_; first | refine ed_none ?_ | refine ed_nil ?_ | refine ed_yes rfl ?_ | refine ed_no rfl ?_ | refine ed_und rfl ?_ | refine ed_yesH rfl (by assumption) ?_ | refine ed_noH rfl (by assumption) ?_)
    | refine ed_same rfl ?_ | refine ed_one rfl rfl rfl rfl ?_ | refine ed_write rfl rfl ?_
    | (refine g_code ?_; first
      | refine ec_seq ?_ | refine ec_region ?_ | refine ec_draw ?_ | refine ec_block ?_ | refine ec_skip ?_ | refine ec_exit ?_ | refine ec_ret ?_
      | refine ec_condT rfl ?_ | refine ec_condF rfl ?_ | refine ec_condTH rfl (by assumption) ?_ | refine ec_condFH rfl (by assumption) ?_)
    | refine ek_seqN ?_ | refine ek_seqX ?_ | refine ek_seqR ?_ | refine ek_blkN ?_ | refine ek_blkR ?_ | refine ek_blkX ?_ | refine ek_blkY rfl ?_)
  refine sfin (.inr rfl) (by rfl) (by rfl) (by exact ⟨rfl, rfl, rfl⟩) (by rfl) (by rfl) (by rfl) (by rfl)
-- (loop.example/g01323/impl.Func).rows
def m108 : MC := (.seq (.region [⟨(.box (.t 0)), (some 1), none⟩, ⟨(.mov (.k (.int .i64 0))), (some 2), none⟩] false) (.seq (.region [⟨(.fieldAddr 0 (.t 1)), (some 3), none⟩, ⟨(.load none (.t 3)), (some 4), none⟩, ⟨(.call 81 [(.t 4)]), (some 5), none⟩, ⟨(.mov (.t 5)), (some 2), none⟩] false) .ret))
theorem has108 : Has cx 108 6 m108 [(.tmp 2)] :=
  ⟨⟨Try.f108, Try.f108.body.getD .skip, by kernel_rfl, by kernel_rfl, by kernel_rfl, by kernel_rfl, by kernel_rfl, by kernel_rfl⟩⟩
theorem ev108 (n : Nat) (b : Int) (h : n ≤ 4) : Ev cx 108 [.agg [.int .i64 n, .int .i64 b]] [] (.int .i64 (R2 n : Nat)) [] := by
  refine has108.eev rfl rfl ?_
  unfold m108
  repeat' (first
    | (refine g_op ?_; first
      | refine ep_mov rfl ?_ | refine ep_load1 rfl rfl rfl rfl ?_ | refine ep_fieldAddr rfl ?_ | refine sp_loadN rfl rfl rfl rfl rfl ?_
      | refine ep_call0 rfl (by first | exact ev81 _ h) rfl rfl ?_
      | refine sp_call rfl rfl rfl rfl (by first | exact ev81 _ h) ⟨rfl, rfl, rfl, rfl⟩ rfl rfl rfl ?_
      | refine sp_callv rfl rfl rfl rfl rfl rfl (by first | exact ev81 _ h) ⟨rfl, rfl, rfl, rfl⟩ rfl rfl rfl ?_
      | refine ep_bin rfl rfl (by first | exact b_add (by omega) (by omega) | exact b_sub (by omega) (by omega) | exact b_and (by omega) (by omega) | exact b_or (by omega) (by omega) | exact b_shr (by omega) | exact b_shl (by omega) (by omega) | rfl) ?_
      | refine ep_pickT rfl rfl ?_ | refine ep_pickF rfl rfl ?_ | refine ep_pickTH rfl (by assumption) rfl ?_ | refine ep_pickFH rfl (by assumption) rfl ?_
      | refine ep_extract rfl rfl ?_ | refine sp_store rfl rfl rfl rfl rfl rfl rfl rfl rfl rfl ?_ | refine ep_conv rfl (by first | exact w_u64 (by omega) (by omega) | exact wrap_id (by omega) (by omega) | rfl) ?_
      | refine ep_not rfl ?_ | refine ep_lenS rfl ?_ | refine ep_lenN rfl ?_ | refine ep_lenE rfl ?_
      | refine sp_box rfl rfl rfl rfl rfl ?_ | refine sp_alloc rfl rfl ?_ | refine sp_build rfl rfl ?_ | refine sp_bslice rfl rfl rfl rfl rfl ?_ | refine ep_empt ?_
      | refine ep_field1 rfl rfl ?_ | refine sp_fieldN rfl rfl rfl ?_ | refine ep_mkfn rfl ?_ | refine ep_nilckP rfl ?_ | refine ep_nilckF rfl ?_
      | refine ep_eqb0 rfl rfl ?_ | refine ep_eqb1 rfl rfl ?_ | refine ep_eqa0 rfl rfl ?_ | refine ep_eqa1 rfl rfl ?_)
    | (refine g_ops ?_; first | refine eo_none ?_ | refine eo_nil ?_ | refine eo_yes rfl ?_ | refine eo_no rfl ?_ | refine eo_und rfl ?_ | refine eo_yesH rfl (by assumption) ?_ | refine eo_noH rfl (by assumption) ?_)
    | (refine g_dops ?_; first | refine ed_none ?_ | refine ed_nil ?_ | refine ed_yes rfl ?_ | refine ed_no rfl ?_ | refine ed_und rfl ?_ | refine ed_yesH rfl (by assumption) ?_ | refine ed_noH rfl (by assumption) ?_)
    | refine ed_same rfl ?_ | refine ed_one rfl rfl rfl rfl ?_ | refine ed_write rfl rfl ?_
    | (refine g_code ?_; first
      | refine ec_seq ?_ | refine ec_region ?_ | refine ec_draw ?_ | refine ec_block ?_ | refine ec_skip ?_ | refine ec_exit ?_ | refine ec_ret ?_
      | refine ec_condT rfl ?_ | refine ec_condF rfl ?_ | refine ec_condTH rfl (by assumption) ?_ | refine ec_condFH rfl (by assumption) ?_)
    | refine ek_seqN ?_ | refine ek_seqX ?_ | refine ek_seqR ?_ | refine ek_blkN ?_ | refine ek_blkR ?_ | refine ek_blkX ?_ | refine ek_blkY rfl ?_)
  refine sfin (.inr rfl) (by rfl) (by rfl) (by exact ⟨rfl, rfl, rfl⟩) (by rfl) (by rfl) (by rfl) (by rfl)
def monoP (b r i : Nat) : Bool := decide (¬ (bt b r > bt b (r ||| R2 i)))
def monoB (n b : Nat) : Bool := allF (fun r => allF (monoP b r) 0 n) 0 (R2 n)
-- (loop.example/g01323/impl.Func).isMonotone
def m71_1 : MC := (.seq (.region [⟨(.bin .lss (.t 12) (.t 11)), (some 13), none⟩] false) (.seq (.cond (.t 13) .skip (.exit 2)) (.seq (.block 3 (.seq (.region [⟨(.mov (.t 12)), (some 14), none⟩, ⟨(.mov (.t 14)), (some 4), none⟩] false) (.seq (.region [⟨(.load (some 2) (.t 1)), (some 15), none⟩, ⟨(.mov (.t 3)), (some 16), none⟩, ⟨(.call 107 [(.t 15), (.t 16)]), (some 17), none⟩, ⟨(.load (some 2) (.t 1)), (some 18), none⟩, ⟨(.mov (.t 3)), (some 19), none⟩, ⟨(.mov (.t 4)), (some 20), none⟩, ⟨(.bin .shl (.k (.int .i64 1)) (.t 20)), (some 21), none⟩, ⟨(.bin .or (.t 19) (.t 21)), (some 22), none⟩, ⟨(.call 107 [(.t 18), (.t 22)]), (some 23), none⟩, ⟨(.bin .gtr (.t 17) (.t 23)), (some 24), none⟩] true) (.cond (.t 24) (.seq (.region [⟨(.mov (.k (.bool false))), (some 2), none⟩] false) .ret) .skip)))) (.region [⟨(.bin .add (.t 12) (.k (.int .i64 1))), (some 25), none⟩, ⟨(.mov (.t 25)), (some 12), none⟩] false))))
def m71_0 : MC := (.seq (.region [⟨(.bin .lss (.t 7) (.t 6)), (some 8), none⟩] false) (.seq (.cond (.t 8) .skip (.exit 0)) (.seq (.block 1 (.seq (.region [⟨(.mov (.t 7)), (some 9), none⟩, ⟨(.mov (.t 9)), (some 3), none⟩] false) (.seq (.region [⟨(.fieldAddr 0 (.t 1)), (some 10), none⟩, ⟨(.load none (.t 10)), (some 11), none⟩, ⟨(.mov (.k (.int .i64 0))), (some 12), none⟩] false) (.block 2 (.loop m71_1))))) (.region [⟨(.bin .add (.t 7) (.k (.int .i64 1))), (some 26), none⟩, ⟨(.mov (.t 26)), (some 7), none⟩] false))))
def m71 : MC := (.seq (.region [⟨(.box (.t 0)), (some 1), none⟩, ⟨(.mov (.k (.bool false))), (some 2), none⟩] false) (.seq (.seq (.region [⟨(.load (some 2) (.t 1)), (some 5), none⟩, ⟨(.call 108 [(.t 5)]), (some 6), none⟩, ⟨(.mov (.k (.int .i64 0))), (some 7), none⟩] false) (.block 0 (.loop m71_0))) (.seq (.region [⟨(.mov (.k (.bool true))), (some 2), none⟩] false) .ret)))
theorem has71 : Has cx 71 27 m71 [(.tmp 2)] :=
  ⟨⟨Try.f71, Try.f71.body.getD .skip, by kernel_rfl, by kernel_rfl, by kernel_rfl, by kernel_rfl, by kernel_rfl, by kernel_rfl⟩⟩
theorem lp71_1 (n b r : Nat) (hn : n ≤ 4) (hb : b < 65536) (hr : r < R2 n) (o : Out)
    (ho : (if allF (monoP b r) 0 n = true then (⟨.exit 2, [(1, .ptr 0 0), (6, .int .i64 (R2 n : Nat)), (7, .int .i64 r)], [⟨[.int .i64 n, .int .i64 b], 1, 0, some 0, true⟩]⟩ : Out) else ⟨.ret, [(2, .bool false)], []⟩) = o) :
    LpS cx 27 0 m71_1 [(1, .ptr 0 0), (3, .int .i64 r), (6, .int .i64 (R2 n : Nat)), (7, .int .i64 r), (11, .int .i64 n), (12, .int .i64 (0 : Nat))] [⟨[.int .i64 n, .int .i64 b], 1, 0, some 0, true⟩] o.x o.e o.h := by
  obtain ⟨h1, h2, h3, h4⟩ := shN hn
  refine lp_all n (monoP b r) (fun j => [(1, .ptr 0 0), (3, .int .i64 r), (6, .int .i64 (R2 n : Nat)), (7, .int .i64 r), (11, .int .i64 n), (12, .int .i64 (j : Nat))]) (fun _ => [⟨[.int .i64 n, .int .i64 b], 1, 0, some 0, true⟩]) _ _ ?_ ?_ ?_ n 0 o (by omega) ho
  · intro j hj hp
    have h5 := R2_le hj
    have h6 := or_lt hr (show R2 j < R2 n by omega)
    have h7 : decide ((j : Int) < (n : Nat)) = true := decide_eq_true (by omega)
    have h8 : decide (((bt b r : Nat) : Int) > (bt b (r ||| R2 j) : Nat)) = false := by simp only [monoP, decide_eq_true_eq] at hp; exact decide_eq_false (by omega)
    unfold m71_1
    repeat' (first
      | (refine g_op ?_; first
        | refine ep_mov rfl ?_ | refine ep_load1 rfl rfl rfl rfl ?_ | refine ep_fieldAddr rfl ?_ | refine sp_loadN rfl rfl rfl rfl rfl ?_
        | refine ep_call0 rfl (by first | exact ev107 _ _ _ (by omega) (by omega)) rfl rfl ?_
        | refine sp_call rfl rfl rfl rfl (by first | exact ev107 _ _ _ (by omega) (by omega)) ⟨rfl, rfl, rfl, rfl⟩ rfl rfl rfl ?_
        | refine sp_callv rfl rfl rfl rfl rfl rfl (by first | exact ev107 _ _ _ (by omega) (by omega)) ⟨rfl, rfl, rfl, rfl⟩ rfl rfl rfl ?_
        | refine ep_bin rfl rfl (by first | exact b_shl1 (by omega) (by omega) | exact b_add (by omega) (by omega) | exact b_sub (by omega) (by omega) | exact b_and (by omega) (by omega) | exact b_or (by omega) (by omega) | exact b_shr (by omega) | exact b_shl (by omega) (by omega) | rfl) ?_
        | refine ep_pickT rfl rfl ?_ | refine ep_pickF rfl rfl ?_ | refine ep_pickTH rfl (by assumption) rfl ?_ | refine ep_pickFH rfl (by assumption) rfl ?_
        | refine ep_extract rfl rfl ?_ | refine sp_store rfl rfl rfl rfl rfl rfl rfl rfl rfl rfl ?_ | refine ep_conv rfl (by first | exact w_u64 (by omega) (by omega) | exact wrap_id (by omega) (by omega) | rfl) ?_
        | refine ep_not rfl ?_ | refine ep_lenS rfl ?_ | refine ep_lenN rfl ?_ | refine ep_lenE rfl ?_
        | refine sp_box rfl rfl rfl rfl rfl ?_ | refine sp_alloc rfl rfl ?_ | refine sp_build rfl rfl ?_ | refine sp_bslice rfl rfl rfl rfl rfl ?_ | refine ep_empt ?_
        | refine ep_field1 rfl rfl ?_ | refine sp_fieldN rfl rfl rfl ?_ | refine ep_mkfn rfl ?_ | refine ep_nilckP rfl ?_ | refine ep_nilckF rfl ?_
        | refine ep_eqb0 rfl rfl ?_ | refine ep_eqb1 rfl rfl ?_ | refine ep_eqa0 rfl rfl ?_ | refine ep_eqa1 rfl rfl ?_)
      | (refine g_ops ?_; first | refine eo_none ?_ | refine eo_nil ?_ | refine eo_yes rfl ?_ | refine eo_no rfl ?_ | refine eo_und rfl ?_ | refine eo_yesH rfl (by assumption) ?_ | refine eo_noH rfl (by assumption) ?_)
      | (refine g_dops ?_; first | refine ed_none ?_ | refine ed_nil ?_ | refine ed_yes rfl ?_ | refine ed_no rfl ?_ | refine ed_und rfl ?_ | refine ed_yesH rfl (by assumption) ?_ | refine ed_noH rfl (by assumption) ?_)
      | refine ed_same rfl ?_ | refine ed_one rfl rfl rfl rfl ?_ | refine ed_write rfl rfl ?_
      | (refine g_code ?_; first
        | refine ec_seq ?_ | refine ec_region ?_ | refine ec_draw ?_ | refine ec_block ?_ | refine ec_skip ?_ | refine ec_exit ?_ | refine ec_ret ?_
        | refine ec_condT rfl ?_ | refine ec_condF rfl ?_ | refine ec_condTH rfl (by assumption) ?_ | refine ec_condFH rfl (by assumption) ?_)
      | refine ek_seqN ?_ | refine ek_seqX ?_ | refine ek_seqR ?_ | refine ek_blkN ?_ | refine ek_blkR ?_ | refine ek_blkX ?_ | refine ek_blkY rfl ?_)
    exact rnd_on (by rfl) (scmp (by rfl) (by rfl) (by exact ⟨rfl, rfl, rfl⟩) (by rfl) (by rfl) (by rfl))
  · intro j hj hp
    have h5 := R2_le hj
    have h6 := or_lt hr (show R2 j < R2 n by omega)
    have h7 : decide ((j : Int) < (n : Nat)) = true := decide_eq_true (by omega)
    have h8 : decide (((bt b r : Nat) : Int) > (bt b (r ||| R2 j) : Nat)) = true := by simp only [monoP, decide_eq_false_iff_not] at hp; exact decide_eq_true (by omega)
    unfold m71_1
    repeat' (first
      | (refine g_op ?_; first
        | refine ep_mov rfl ?_ | refine ep_load1 rfl rfl rfl rfl ?_ | refine ep_fieldAddr rfl ?_ | refine sp_loadN rfl rfl rfl rfl rfl ?_
        | refine ep_call0 rfl (by first | exact ev107 _ _ _ (by omega) (by omega)) rfl rfl ?_
        | refine sp_call rfl rfl rfl rfl (by first | exact ev107 _ _ _ (by omega) (by omega)) ⟨rfl, rfl, rfl, rfl⟩ rfl rfl rfl ?_
        | refine sp_callv rfl rfl rfl rfl rfl rfl (by first | exact ev107 _ _ _ (by omega) (by omega)) ⟨rfl, rfl, rfl, rfl⟩ rfl rfl rfl ?_
        | refine ep_bin rfl rfl (by first | exact b_shl1 (by omega) (by omega) | exact b_add (by omega) (by omega) | exact b_sub (by omega) (by omega) | exact b_and (by omega) (by omega) | exact b_or (by omega) (by omega) | exact b_shr (by omega) | exact b_shl (by omega) (by omega) | rfl) ?_
        | refine ep_pickT rfl rfl ?_ | refine ep_pickF rfl rfl ?_ | refine ep_pickTH rfl (by assumption) rfl ?_ | refine ep_pickFH rfl (by assumption) rfl ?_
        | refine ep_extract rfl rfl ?_ | refine sp_store rfl rfl rfl rfl rfl rfl rfl rfl rfl rfl ?_ | refine ep_conv rfl (by first | exact w_u64 (by omega) (by omega) | exact wrap_id (by omega) (by omega) | rfl) ?_
        | refine ep_not rfl ?_ | refine ep_lenS rfl ?_ | refine ep_lenN rfl ?_ | refine ep_lenE rfl ?_
        | refine sp_box rfl rfl rfl rfl rfl ?_ | refine sp_alloc rfl rfl ?_ | refine sp_build rfl rfl ?_ | refine sp_bslice rfl rfl rfl rfl rfl ?_ | refine ep_empt ?_
        | refine ep_field1 rfl rfl ?_ | refine sp_fieldN rfl rfl rfl ?_ | refine ep_mkfn rfl ?_ | refine ep_nilckP rfl ?_ | refine ep_nilckF rfl ?_
        | refine ep_eqb0 rfl rfl ?_ | refine ep_eqb1 rfl rfl ?_ | refine ep_eqa0 rfl rfl ?_ | refine ep_eqa1 rfl rfl ?_)
      | (refine g_ops ?_; first | refine eo_none ?_ | refine eo_nil ?_ | refine eo_yes rfl ?_ | refine eo_no rfl ?_ | refine eo_und rfl ?_ | refine eo_yesH rfl (by assumption) ?_ | refine eo_noH rfl (by assumption) ?_)
      | (refine g_dops ?_; first | refine ed_none ?_ | refine ed_nil ?_ | refine ed_yes rfl ?_ | refine ed_no rfl ?_ | refine ed_und rfl ?_ | refine ed_yesH rfl (by assumption) ?_ | refine ed_noH rfl (by assumption) ?_)
      | refine ed_same rfl ?_ | refine ed_one rfl rfl rfl rfl ?_ | refine ed_write rfl rfl ?_
      | (refine g_code ?_; first
        | refine ec_seq ?_ | refine ec_region ?_ | refine ec_draw ?_ | refine ec_block ?_ | refine ec_skip ?_ | refine ec_exit ?_ | refine ec_ret ?_
        | refine ec_condT rfl ?_ | refine ec_condF rfl ?_ | refine ec_condTH rfl (by assumption) ?_ | refine ec_condFH rfl (by assumption) ?_)
      | refine ek_seqN ?_ | refine ek_seqX ?_ | refine ek_seqR ?_ | refine ek_blkN ?_ | refine ek_blkR ?_ | refine ek_blkX ?_ | refine ek_blkY rfl ?_)
    exact rnd_out (by rfl) (by simp) (scmp (by rfl) (by rfl) (by exact ⟨rfl, rfl, rfl⟩) (by rfl) (by rfl) (by rfl))
  · have h7 : decide ((n : Int) < (n : Nat)) = false := decide_eq_false (by omega)
    unfold m71_1
    repeat' (first
      | (refine g_op ?_; first
        | refine ep_mov rfl ?_ | refine ep_load1 rfl rfl rfl rfl ?_ | refine ep_fieldAddr rfl ?_ | refine sp_loadN rfl rfl rfl rfl rfl ?_
        | refine ep_bin rfl rfl (by first | exact b_add (by omega) (by omega) | exact b_sub (by omega) (by omega) | exact b_and (by omega) (by omega) | exact b_or (by omega) (by omega) | exact b_shr (by omega) | exact b_shl (by omega) (by omega) | rfl) ?_
        | refine ep_pickT rfl rfl ?_ | refine ep_pickF rfl rfl ?_ | refine ep_pickTH rfl (by assumption) rfl ?_ | refine ep_pickFH rfl (by assumption) rfl ?_
        | refine ep_extract rfl rfl ?_ | refine sp_store rfl rfl rfl rfl rfl rfl rfl rfl rfl rfl ?_ | refine ep_conv rfl (by first | exact w_u64 (by omega) (by omega) | exact wrap_id (by omega) (by omega) | rfl) ?_
        | refine ep_not rfl ?_ | refine ep_lenS rfl ?_ | refine ep_lenN rfl ?_ | refine ep_lenE rfl ?_
        | refine sp_box rfl rfl rfl rfl rfl ?_ | refine sp_alloc rfl rfl ?_ | refine sp_build rfl rfl ?_ | refine sp_bslice rfl rfl rfl rfl rfl ?_ | refine ep_empt ?_
        | refine ep_field1 rfl rfl ?_ | refine sp_fieldN rfl rfl rfl ?_ | refine ep_mkfn rfl ?_ | refine ep_nilckP rfl ?_ | refine ep_nilckF rfl ?_
        | refine ep_eqb0 rfl rfl ?_ | refine ep_eqb1 rfl rfl ?_ | refine ep_eqa0 rfl rfl ?_ | refine ep_eqa1 rfl rfl ?_)
      | (refine g_ops ?_; first | refine eo_none ?_ | refine eo_nil ?_ | refine eo_yes rfl ?_ | refine eo_no rfl ?_ | refine eo_und rfl ?_ | refine eo_yesH rfl (by assumption) ?_ | refine eo_noH rfl (by assumption) ?_)
      | (refine g_dops ?_; first | refine ed_none ?_ | refine ed_nil ?_ | refine ed_yes rfl ?_ | refine ed_no rfl ?_ | refine ed_und rfl ?_ | refine ed_yesH rfl (by assumption) ?_ | refine ed_noH rfl (by assumption) ?_)
      | refine ed_same rfl ?_ | refine ed_one rfl rfl rfl rfl ?_ | refine ed_write rfl rfl ?_
      | (refine g_code ?_; first
        | refine ec_seq ?_ | refine ec_region ?_ | refine ec_draw ?_ | refine ec_block ?_ | refine ec_skip ?_ | refine ec_exit ?_ | refine ec_ret ?_
        | refine ec_condT rfl ?_ | refine ec_condF rfl ?_ | refine ec_condTH rfl (by assumption) ?_ | refine ec_condFH rfl (by assumption) ?_)
      | refine ek_seqN ?_ | refine ek_seqX ?_ | refine ek_seqR ?_ | refine ek_blkN ?_ | refine ek_blkR ?_ | refine ek_blkX ?_ | refine ek_blkY rfl ?_)
    exact rnd_out (by rfl) (by simp) (scmp (by rfl) (by rfl) (by exact ⟨rfl, rfl, rfl⟩) (by rfl) (by rfl) (by rfl))
theorem lp71_0 (n b : Nat) (hn : n ≤ 4) (hb : b < 65536) (o : Out) (ho : (if monoB n b = true then (⟨.exit 0, [], []⟩ : Out) else ⟨.ret, [(2, .bool false)], []⟩) = o) :
    LpS cx 27 0 m71_0 [(1, .ptr 0 0), (6, .int .i64 (R2 n : Nat)), (7, .int .i64 (0 : Nat))] [⟨[.int .i64 n, .int .i64 b], 1, 0, some 0, true⟩] o.x o.e o.h := by
  obtain ⟨h1, h2, h3, h4⟩ := shN hn
  refine lp_all (R2 n) (fun r => allF (monoP b r) 0 n) (fun r => [(1, .ptr 0 0), (6, .int .i64 (R2 n : Nat)), (7, .int .i64 (r : Nat))]) (fun _ => [⟨[.int .i64 n, .int .i64 b], 1, 0, some 0, true⟩]) _ _ ?_ ?_ ?_ (R2 n) 0 o (by omega) ho
  · intro r hr hp
    have h7 : decide ((r : Int) < (R2 n : Nat)) = true := decide_eq_true (by omega)
    have lp := lp71_1 n b r hn hb hr _ (if_pos hp)
    unfold m71_0
    repeat' (first
      | refine sc_loop lp rfl rfl ⟨rfl, rfl, rfl⟩ rfl rfl rfl ?_
      | (refine g_op ?_; first
        | refine ep_mov rfl ?_ | refine ep_load1 rfl rfl rfl rfl ?_ | refine ep_fieldAddr rfl ?_ | refine sp_loadN rfl rfl rfl rfl rfl ?_
        | refine ep_bin rfl rfl (by first | exact b_add (by omega) (by omega) | exact b_sub (by omega) (by omega) | exact b_and (by omega) (by omega) | exact b_or (by omega) (by omega) | exact b_shr (by omega) | exact b_shl (by omega) (by omega) | rfl) ?_
        | refine ep_pickT rfl rfl ?_ | refine ep_pickF rfl rfl ?_ | refine ep_pickTH rfl (by assumption) rfl ?_ | refine ep_pickFH rfl (by assumption) rfl ?_
        | refine ep_extract rfl rfl ?_ | refine sp_store rfl rfl rfl rfl rfl rfl rfl rfl rfl rfl ?_ | refine ep_conv rfl (by first | exact w_u64 (by omega) (by omega) | exact wrap_id (by omega) (by omega) | rfl) ?_
        | refine ep_not rfl ?_ | refine ep_lenS rfl ?_ | refine ep_lenN rfl ?_ | refine ep_lenE rfl ?_
        | refine sp_box rfl rfl rfl rfl rfl ?_ | refine sp_alloc rfl rfl ?_ | refine sp_build rfl rfl ?_ | refine sp_bslice rfl rfl rfl rfl rfl ?_ | refine ep_empt ?_
        | refine ep_field1 rfl rfl ?_ | refine sp_fieldN rfl rfl rfl ?_ | refine ep_mkfn rfl ?_ | refine ep_nilckP rfl ?_ | refine ep_nilckF rfl ?_
        | refine ep_eqb0 rfl rfl ?_ | refine ep_eqb1 rfl rfl ?_ | refine ep_eqa0 rfl rfl ?_ | refine ep_eqa1 rfl rfl ?_)
      | (refine g_ops ?_; first | refine eo_none ?_ | refine eo_nil ?_ | refine eo_yes rfl ?_ | refine eo_no rfl ?_ | refine eo_und rfl ?_ | refine eo_yesH rfl (by assumption) ?_ | refine eo_noH rfl (by assumption) ?_)
      | (refine g_dops ?_; first | refine ed_none ?_ | refine ed_nil ?_ | refine ed_yes rfl ?_ | refine ed_no rfl ?_ | refine ed_und rfl ?_ | refine ed_yesH rfl (by assumption) ?_ | refine ed_noH rfl (by assumption) ?_)
      | refine ed_same rfl ?_ | refine ed_one rfl rfl rfl rfl ?_ | refine ed_write rfl rfl ?_
      | (refine g_code ?_; first
        | refine ec_seq ?_ | refine ec_region ?_ | refine ec_draw ?_ | refine ec_block ?_ | refine ec_skip ?_ | refine ec_exit ?_ | refine ec_ret ?_
        | refine ec_condT rfl ?_ | refine ec_condF rfl ?_ | refine ec_condTH rfl (by assumption) ?_ | refine ec_condFH rfl (by assumption) ?_)
      | refine ek_seqN ?_ | refine ek_seqX ?_ | refine ek_seqR ?_ | refine ek_blkN ?_ | refine ek_blkR ?_ | refine ek_blkX ?_ | refine ek_blkY rfl ?_)
    exact rnd_on (by rfl) (scmp (by rfl) (by rfl) (by exact ⟨rfl, rfl, rfl⟩) (by rfl) (by rfl) (by rfl))
  · intro r hr hp
    have h7 : decide ((r : Int) < (R2 n : Nat)) = true := decide_eq_true (by omega)
    have lp := lp71_1 n b r hn hb hr _ (if_neg (by rw [hp]; simp))
    unfold m71_0
    repeat' (first
      | refine sc_loop lp rfl rfl ⟨rfl, rfl, rfl⟩ rfl rfl rfl ?_
      | (refine g_op ?_; first
        | refine ep_mov rfl ?_ | refine ep_load1 rfl rfl rfl rfl ?_ | refine ep_fieldAddr rfl ?_ | refine sp_loadN rfl rfl rfl rfl rfl ?_
        | refine ep_bin rfl rfl (by first | exact b_add (by omega) (by omega) | exact b_sub (by omega) (by omega) | exact b_and (by omega) (by omega) | exact b_or (by omega) (by omega) | exact b_shr (by omega) | exact b_shl (by omega) (by omega) | rfl) ?_
        | refine ep_pickT rfl rfl ?_ | refine ep_pickF rfl rfl ?_ | refine ep_pickTH rfl (by assumption) rfl ?_ | refine ep_pickFH rfl (by assumption) rfl ?_
        | refine ep_extract rfl rfl ?_ | refine sp_store rfl rfl rfl rfl rfl rfl rfl rfl rfl rfl ?_ | refine ep_conv rfl (by first | exact w_u64 (by omega) (by omega) | exact wrap_id (by omega) (by omega) | rfl) ?_
        | refine ep_not rfl ?_ | refine ep_lenS rfl ?_ | refine ep_lenN rfl ?_ | refine ep_lenE rfl ?_
        | refine sp_box rfl rfl rfl rfl rfl ?_ | refine sp_alloc rfl rfl ?_ | refine sp_build rfl rfl ?_ | refine sp_bslice rfl rfl rfl rfl rfl ?_ | refine ep_empt ?_
        | refine ep_field1 rfl rfl ?_ | refine sp_fieldN rfl rfl rfl ?_ | refine ep_mkfn rfl ?_ | refine ep_nilckP rfl ?_ | refine ep_nilckF rfl ?_
        | refine ep_eqb0 rfl rfl ?_ | refine ep_eqb1 rfl rfl ?_ | refine ep_eqa0 rfl rfl ?_ | refine ep_eqa1 rfl rfl ?_)
      | (refine g_ops ?_; first | refine eo_none ?_ | refine eo_nil ?_ | refine eo_yes rfl ?_ | refine eo_no rfl ?_ | refine eo_und rfl ?_ | refine eo_yesH rfl (by assumption) ?_ | refine eo_noH rfl (by assumption) ?_)
      | (refine g_dops ?_; first | refine ed_none ?_ | refine ed_nil ?_ | refine ed_yes rfl ?_ | refine ed_no rfl ?_ | refine ed_und rfl ?_ | refine ed_yesH rfl (by assumption) ?_ | refine ed_noH rfl (by assumption) ?_)
      | refine ed_same rfl ?_ | refine ed_one rfl rfl rfl rfl ?_ | refine ed_write rfl rfl ?_
      | (refine g_code ?_; first
        | refine ec_seq ?_ | refine ec_region ?_ | refine ec_draw ?_ | refine ec_block ?_ | refine ec_skip ?_ | refine ec_exit ?_ | refine ec_ret ?_
        | refine ec_condT rfl ?_ | refine ec_condF rfl ?_ | refine ec_condTH rfl (by assumption) ?_ | refine ec_condFH rfl (by assumption) ?_)
      | refine ek_seqN ?_ | refine ek_seqX ?_ | refine ek_seqR ?_ | refine ek_blkN ?_ | refine ek_blkR ?_ | refine ek_blkX ?_ | refine ek_blkY rfl ?_)
    exact rnd_out (by rfl) (by simp) (scmp (by rfl) (by rfl) (by exact ⟨rfl, rfl, rfl⟩) (by rfl) (by rfl) (by rfl))
  · have h7 : decide (((R2 n : Nat) : Int) < (R2 n : Nat)) = false := decide_eq_false (by omega)
    unfold m71_0
    repeat' (first
      | (refine g_op ?_; first
        | refine ep_mov rfl ?_ | refine ep_load1 rfl rfl rfl rfl ?_ | refine ep_fieldAddr rfl ?_ | refine sp_loadN rfl rfl rfl rfl rfl ?_
        | refine ep_bin rfl rfl (by first | exact b_add (by omega) (by omega) | exact b_sub (by omega) (by omega) | exact b_and (by omega) (by omega) | exact b_or (by omega) (by omega) | exact b_shr (by omega) | exact b_shl (by omega) (by omega) | rfl) ?_
        | refine ep_pickT rfl rfl ?_ | refine ep_pickF rfl rfl ?_ | refine ep_pickTH rfl (by assumption) rfl ?_ | refine ep_pickFH rfl (by assumption) rfl ?_
        | refine ep_extract rfl rfl ?_ | refine sp_store rfl rfl rfl rfl rfl rfl rfl rfl rfl rfl ?_ | refine ep_conv rfl (by first | exact w_u64 (by omega) (by omega) | exact wrap_id (by omega) (by omega) | rfl) ?_
        | refine ep_not rfl ?_ | refine ep_lenS rfl ?_ | refine ep_lenN rfl ?_ | refine ep_lenE rfl ?_
        | refine sp_box rfl rfl rfl rfl rfl ?_ | refine sp_alloc rfl rfl ?_ | refine sp_build rfl rfl ?_ | refine sp_bslice rfl rfl rfl rfl rfl ?_ | refine ep_empt ?_
        | refine ep_field1 rfl rfl ?_ | refine sp_fieldN rfl rfl rfl ?_ | refine ep_mkfn rfl ?_ | refine ep_nilckP rfl ?_ | refine ep_nilckF rfl ?_
        | refine ep_eqb0 rfl rfl ?_ | refine ep_eqb1 rfl rfl ?_ | refine ep_eqa0 rfl rfl ?_ | refine ep_eqa1 rfl rfl ?_)
      | (refine g_ops ?_; first | refine eo_none ?_ | refine eo_nil ?_ | refine eo_yes rfl ?_ | refine eo_no rfl ?_ | refine eo_und rfl ?_ | refine eo_yesH rfl (by assumption) ?_ | refine eo_noH rfl (by assumption) ?_)
      | (refine g_dops ?_; first | refine ed_none ?_ | refine ed_nil ?_ | refine ed_yes rfl ?_ | refine ed_no rfl ?_ | refine ed_und rfl ?_ | refine ed_yesH rfl (by assumption) ?_ | refine ed_noH rfl (by assumption) ?_)
      | refine ed_same rfl ?_ | refine ed_one rfl rfl rfl rfl ?_ | refine ed_write rfl rfl ?_
      | (refine g_code ?_; first
        | refine ec_seq ?_ | refine ec_region ?_ | refine ec_draw ?_ | refine ec_block ?_ | refine ec_skip ?_ | refine ec_exit ?_ | refine ec_ret ?_
        | refine ec_condT rfl ?_ | refine ec_condF rfl ?_ | refine ec_condTH rfl (by assumption) ?_ | refine ec_condFH rfl (by assumption) ?_)
      | refine ek_seqN ?_ | refine ek_seqX ?_ | refine ek_seqR ?_ | refine ek_blkN ?_ | refine ek_blkR ?_ | refine ek_blkX ?_ | refine ek_blkY rfl ?_)
    exact rnd_out (by rfl) (by simp) (scmp (by rfl) (by rfl) (by exact ⟨rfl, rfl, rfl⟩) (by rfl) (by rfl) (by rfl))
theorem ev71 (n b : Nat) (hn : n ≤ 4) (hb : b < 65536) : Ev cx 71 [.agg [.int .i64 n, .int .i64 b]] [] (.bool (monoB n b)) [] := by
  cases h : monoB n b
  · have lp := lp71_0 n b hn hb _ (if_neg (by rw [h]; simp))
    refine has71.eev rfl rfl ?_
    unfold m71
    repeat' (first
      | refine sc_loop lp rfl rfl ⟨rfl, rfl, rfl⟩ rfl rfl rfl ?_
      | (refine g_op ?_; first
        | refine ep_mov rfl ?_ | refine ep_load1 rfl rfl rfl rfl ?_ | refine ep_fieldAddr rfl ?_ | refine sp_loadN rfl rfl rfl rfl rfl ?_
        | refine ep_call0 rfl (by first | exact ev108 _ _ hn) rfl rfl ?_
        | refine sp_call rfl rfl rfl rfl (by first | exact ev108 _ _ hn) ⟨rfl, rfl, rfl, rfl⟩ rfl rfl rfl ?_
        | refine sp_callv rfl rfl rfl rfl rfl rfl (by first | exact ev108 _ _ hn) ⟨rfl, rfl, rfl, rfl⟩ rfl rfl rfl ?_
        | refine ep_bin rfl rfl (by first | exact b_add (by omega) (by omega) | exact b_sub (by omega) (by omega) | exact b_and (by omega) (by omega) | exact b_or (by omega) (by omega) | exact b_shr (by omega) | exact b_shl (by omega) (by omega) | rfl) ?_
        | refine ep_pickT rfl rfl ?_ | refine ep_pickF rfl rfl ?_ | refine ep_pickTH rfl (by assumption) rfl ?_ | refine ep_pickFH rfl (by assumption) rfl ?_
        | refine ep_extract rfl rfl ?_ | refine sp_store rfl rfl rfl rfl rfl rfl rfl rfl rfl rfl ?_ | refine ep_conv rfl (by first | exact w_u64 (by omega) (by omega) | exact wrap_id (by omega) (by omega) | rfl) ?_
        | refine ep_not rfl ?_ | refine ep_lenS rfl ?_ | refine ep_lenN rfl ?_ | refine ep_lenE rfl ?_
        | refine sp_box rfl rfl rfl rfl rfl ?_ | refine sp_alloc rfl rfl ?_ | refine sp_build rfl rfl ?_ | refine sp_bslice rfl rfl rfl rfl rfl ?_ | refine ep_empt ?_
        | refine ep_field1 rfl rfl ?_ | refine sp_fieldN rfl rfl rfl ?_ | refine ep_mkfn rfl ?_ | refine ep_nilckP rfl ?_ | refine ep_nilckF rfl ?_
        | refine ep_eqb0 rfl rfl ?_ | refine ep_eqb1 rfl rfl ?_ | refine ep_eqa0 rfl rfl ?_ | refine ep_eqa1 rfl rfl ?_)
      | (refine g_ops ?_; first | refine eo_none ?_ | refine eo_nil ?_ | refine eo_yes rfl ?_ | refine eo_no rfl ?_ | refine eo_und rfl ?_ | refine eo_yesH rfl (by assumption) ?_ | refine eo_noH rfl (by assumption) ?_)
      | (refine g_dops ?_; first | refine ed_none ?_ | refine ed_nil ?_ | refine ed_yes rfl ?_ | refine ed_no rfl ?_ | refine ed_und rfl ?_ | refine ed_yesH rfl (by assumption) ?_ | refine ed_noH rfl (by assumption) ?_)
      | refine ed_same rfl ?_ | refine ed_one rfl rfl rfl rfl ?_ | refine ed_write rfl rfl ?_
      | (refine g_code ?_; first
        | refine ec_seq ?_ | refine ec_region ?_ | refine ec_draw ?_ | refine ec_block ?_ | refine ec_skip ?_ | refine ec_exit ?_ | refine ec_ret ?_
        | refine ec_condT rfl ?_ | refine ec_condF rfl ?_ | refine ec_condTH rfl (by assumption) ?_ | refine ec_condFH rfl (by assumption) ?_)
      | refine ek_seqN ?_ | refine ek_seqX ?_ | refine ek_seqR ?_ | refine ek_blkN ?_ | refine ek_blkR ?_ | refine ek_blkX ?_ | refine ek_blkY rfl ?_)
    refine sfin (.inr rfl) (by rfl) (by rfl) (by exact ⟨rfl, rfl, rfl⟩) (by rfl) (by rfl) (by rfl) (by rfl)
  · have lp := lp71_0 n b hn hb _ (if_pos h)
    refine has71.eev rfl rfl ?_
    unfold m71
    repeat' (first
      | refine sc_loop lp rfl rfl ⟨rfl, rfl, rfl⟩ rfl rfl rfl ?_
      | (refine g_op ?_; first
        | refine ep_mov rfl ?_ | refine ep_load1 rfl rfl rfl rfl ?_ | refine ep_fieldAddr rfl ?_ | refine sp_loadN rfl rfl rfl rfl rfl ?_
        | refine ep_call0 rfl (by first | exact ev108 _ _ hn) rfl rfl ?_
        | refine sp_call rfl rfl rfl rfl (by first | exact ev108 _ _ hn) ⟨rfl, rfl, rfl, rfl⟩ rfl rfl rfl ?_
        | refine sp_callv rfl rfl rfl rfl rfl rfl (by first | exact ev108 _ _ hn) ⟨rfl, rfl, rfl, rfl⟩ rfl rfl rfl ?_
        | refine ep_bin rfl rfl (by first | exact b_add (by omega) (by omega) | exact b_sub (by omega) (by omega) | exact b_and (by omega) (by omega) | exact b_or (by omega) (by omega) | exact b_shr (by omega) | exact b_shl (by omega) (by omega) | rfl) ?_
        | refine ep_pickT rfl rfl ?_ | refine ep_pickF rfl rfl ?_ | refine ep_pickTH rfl (by assumption) rfl ?_ | refine ep_pickFH rfl (by assumption) rfl ?_
        | refine ep_extract rfl rfl ?_ | refine sp_store rfl rfl rfl rfl rfl rfl rfl rfl rfl rfl ?_ | refine ep_conv rfl (by first | exact w_u64 (by omega) (by omega) | exact wrap_id (by omega) (by omega) | rfl) ?_
        | refine ep_not rfl ?_ | refine ep_lenS rfl ?_ | refine ep_lenN rfl ?_ | refine ep_lenE rfl ?_
        | refine sp_box rfl rfl rfl rfl rfl ?_ | refine sp_alloc rfl rfl ?_ | refine sp_build rfl rfl ?_ | refine sp_bslice rfl rfl rfl rfl rfl ?_ | refine ep_empt ?_
        | refine ep_field1 rfl rfl ?_ | refine sp_fieldN rfl rfl rfl ?_ | refine ep_mkfn rfl ?_ | refine ep_nilckP rfl ?_ | refine ep_nilckF rfl ?_
        | refine ep_eqb0 rfl rfl ?_ | refine ep_eqb1 rfl rfl ?_ | refine ep_eqa0 rfl rfl ?_ | refine ep_eqa1 rfl rfl ?_)
      | (refine g_ops ?_; first | refine eo_none ?_ | refine eo_nil ?_ | refine eo_yes rfl ?_ | refine eo_no rfl ?_ | refine eo_und rfl ?_ | refine eo_yesH rfl (by assumption) ?_ | refine eo_noH rfl (by assumption) ?_)
      | (refine g_dops ?_; first | refine ed_none ?_ | refine ed_nil ?_ | refine ed_yes rfl ?_ | refine ed_no rfl ?_ | refine ed_und rfl ?_ | refine ed_yesH rfl (by assumption) ?_ | refine ed_noH rfl (by assumption) ?_)
      | refine ed_same rfl ?_ | refine ed_one rfl rfl rfl rfl ?_ | refine ed_write rfl rfl ?_
      | (refine g_code ?_; first
        | refine ec_seq ?_ | refine ec_region ?_ | refine ec_draw ?_ | refine ec_block ?_ | refine ec_skip ?_ | refine ec_exit ?_ | refine ec_ret ?_
        | refine ec_condT rfl ?_ | refine ec_condF rfl ?_ | refine ec_condTH rfl (by assumption) ?_ | refine ec_condFH rfl (by assumption) ?_)
      | refine ek_seqN ?_ | refine ek_seqX ?_ | refine ek_seqR ?_ | refine ek_blkN ?_ | refine ek_blkR ?_ | refine ek_blkX ?_ | refine ek_blkY rfl ?_)
    refine sfin (.inr rfl) (by rfl) (by rfl) (by exact ⟨rfl, rfl, rfl⟩) (by rfl) (by rfl) (by rfl) (by rfl)
-- loop.example/g01323/impl.IsFunc
def m70 : MC := (.seq (.region [⟨(.box (.t 0)), (some 1), none⟩, ⟨(.mov (.k (.bool false))), (some 2), none⟩] false) (.seq (.region [⟨(.fieldAddr 0 (.t 1)), (some 3), none⟩, ⟨(.load none (.t 3)), (some 4), none⟩, ⟨(.call 80 [(.t 4)]), (some 5), none⟩, ⟨(.mov (.t 5)), (some 6), none⟩, ⟨(.fieldAddr 1 (.t 1)), (some 7), (some (6, true))⟩, ⟨(.load none (.t 7)), (some 8), (some (6, true))⟩, ⟨(.fieldAddr 0 (.t 1)), (some 9), (some (6, true))⟩, ⟨(.load none (.t 9)), (some 10), (some (6, true))⟩, ⟨(.call 67 [(.t 10)]), (some 11), (some (6, true))⟩, ⟨(.bin .sub (.t 11) (.k (.int .i64 1))), (some 12), (some (6, true))⟩, ⟨(.call 66 [(.t 8), (.k (.int .i64 0)), (.t 12)]), (some 13), (some (6, true))⟩, ⟨(.pick (.t 6) (.t 13) (.k (.bool false))), (some 14), none⟩, ⟨(.mov (.t 14)), (some 2), none⟩] true) .ret))
theorem has70 : Has cx 70 15 m70 [(.tmp 2)] :=
  ⟨⟨Try.f70, Try.f70.body.getD .skip, by kernel_rfl, by kernel_rfl, by kernel_rfl, by kernel_rfl, by kernel_rfl, by kernel_rfl⟩⟩
theorem ev70 (p t : Int) : Ev cx 70 [.agg [.int .i64 p, .int .i64 t]] [] (.bool (isFn p t)) [] := by
  by_cases h1 : 0 ≤ p ∧ p ≤ 4
  · have h2 : decide (0 ≤ p ∧ p ≤ 4) = true := decide_eq_true h1
    obtain ⟨n, rfl⟩ := Int.eq_ofNat_of_zero_le (show 0 ≤ p by omega)
    have h3 : n ≤ 4 := by omega
    obtain ⟨h4, h5, h6, h7⟩ := shN h3
    refine has70.eev rfl rfl ?_
    unfold m70
    repeat' (first
      | (refine g_op ?_; first
        | refine ep_mov rfl ?_ | refine ep_load1 rfl rfl rfl rfl ?_ | refine ep_fieldAddr rfl ?_ | refine sp_loadN rfl rfl rfl rfl rfl ?_
        | refine ep_call0 rfl (by first | exact ev80 _ | exact ev66 _ _ _ | exact ev67 _ h3) rfl rfl ?_
        | refine sp_call rfl rfl rfl rfl (by first | exact ev80 _ | exact ev66 _ _ _ | exact ev67 _ h3) ⟨rfl, rfl, rfl, rfl⟩ rfl rfl rfl ?_
        | refine sp_callv rfl rfl rfl rfl rfl rfl (by first | exact ev80 _ | exact ev66 _ _ _ | exact ev67 _ h3) ⟨rfl, rfl, rfl, rfl⟩ rfl rfl rfl ?_
        | refine ep_bin rfl rfl (by first | exact b_add (by omega) (by omega) | exact b_sub (by omega) (by omega) | exact b_and (by omega) (by omega) | exact b_or (by omega) (by omega) | exact b_shr (by omega) | exact b_shl (by omega) (by omega) | rfl) ?_
        | refine ep_pickT rfl rfl ?_ | refine ep_pickF rfl rfl ?_ | refine ep_pickTH rfl (by assumption) rfl ?_ | refine ep_pickFH rfl (by assumption) rfl ?_
        | refine ep_extract rfl rfl ?_ | refine sp_store rfl rfl rfl rfl rfl rfl rfl rfl rfl rfl ?_ | refine ep_conv rfl (by first | exact w_u64 (by omega) (by omega) | exact wrap_id (by omega) (by omega) | rfl) ?_
        | refine ep_not rfl ?_ | refine ep_lenS rfl ?_ | refine ep_lenN rfl ?_ | refine ep_lenE rfl ?_
        | refine sp_box rfl rfl rfl rfl rfl ?_ | refine sp_alloc rfl rfl ?_ | refine sp_build rfl rfl ?_ | refine sp_bslice rfl rfl rfl rfl rfl ?_ | refine ep_empt ?_
        | refine ep_field1 rfl rfl ?_ | refine sp_fieldN rfl rfl rfl ?_ | refine ep_mkfn rfl ?_ | refine ep_nilckP rfl ?_ | refine ep_nilckF rfl ?_
        | refine ep_eqb0 rfl rfl ?_ | refine ep_eqb1 rfl rfl ?_ | refine ep_eqa0 rfl rfl ?_ | refine ep_eqa1 rfl rfl ?_)
      | (refine g_ops ?_; first | refine eo_none ?_ | refine eo_nil ?_ | refine eo_yes rfl ?_ | refine eo_no rfl ?_ | refine eo_und rfl ?_ | refine eo_yesH rfl (by assumption) ?_ | refine eo_noH rfl (by assumption) ?_)
      | (refine g_dops ?_; first | refine ed_none ?_ | refine ed_nil ?_ | refine ed_yes rfl ?_ | refine ed_no rfl ?_ | refine ed_und rfl ?_ | refine ed_yesH rfl (by assumption) ?_ | refine ed_noH rfl (by assumption) ?_)
      | refine ed_same rfl ?_ | refine ed_one rfl rfl rfl rfl ?_ | refine ed_write rfl rfl ?_
      | (refine g_code ?_; first
        | refine ec_seq ?_ | refine ec_region ?_ | refine ec_draw ?_ | refine ec_block ?_ | refine ec_skip ?_ | refine ec_exit ?_ | refine ec_ret ?_
        | refine ec_condT rfl ?_ | refine ec_condF rfl ?_ | refine ec_condTH rfl (by assumption) ?_ | refine ec_condFH rfl (by assumption) ?_)
      | refine ek_seqN ?_ | refine ek_seqX ?_ | refine ek_seqR ?_ | refine ek_blkN ?_ | refine ek_blkR ?_ | refine ek_blkX ?_ | refine ek_blkY rfl ?_)
    refine sfin (.inr rfl) (by rfl) (by rfl) (by exact ⟨rfl, rfl, rfl⟩) (by rfl) (by rfl) (by exact congrArg V.bool (by simp [isFn, h1])) (by rfl)
  · have h2 : decide (0 ≤ p ∧ p ≤ 4) = false := decide_eq_false h1
    refine has70.eev rfl rfl ?_
    unfold m70
    repeat' (first
      | (refine g_op ?_; first
        | refine ep_mov rfl ?_ | refine ep_load1 rfl rfl rfl rfl ?_ | refine ep_fieldAddr rfl ?_ | refine sp_loadN rfl rfl rfl rfl rfl ?_
        | refine ep_call0 rfl (by first | exact ev80 _ | exact ev66 _ _ _) rfl rfl ?_
        | refine sp_call rfl rfl rfl rfl (by first | exact ev80 _ | exact ev66 _ _ _) ⟨rfl, rfl, rfl, rfl⟩ rfl rfl rfl ?_
        | refine sp_callv rfl rfl rfl rfl rfl rfl (by first | exact ev80 _ | exact ev66 _ _ _) ⟨rfl, rfl, rfl, rfl⟩ rfl rfl rfl ?_
        | refine ep_bin rfl rfl (by first | exact b_add (by omega) (by omega) | exact b_sub (by omega) (by omega) | exact b_and (by omega) (by omega) | exact b_or (by omega) (by omega) | exact b_shr (by omega) | exact b_shl (by omega) (by omega) | rfl) ?_
        | refine ep_pickT rfl rfl ?_ | refine ep_pickF rfl rfl ?_ | refine ep_pickTH rfl (by assumption) rfl ?_ | refine ep_pickFH rfl (by assumption) rfl ?_
        | refine ep_extract rfl rfl ?_ | refine sp_store rfl rfl rfl rfl rfl rfl rfl rfl rfl rfl ?_ | refine ep_conv rfl (by first | exact w_u64 (by omega) (by omega) | exact wrap_id (by omega) (by omega) | rfl) ?_
        | refine ep_not rfl ?_ | refine ep_lenS rfl ?_ | refine ep_lenN rfl ?_ | refine ep_lenE rfl ?_
        | refine sp_box rfl rfl rfl rfl rfl ?_ | refine sp_alloc rfl rfl ?_ | refine sp_build rfl rfl ?_ | refine sp_bslice rfl rfl rfl rfl rfl ?_ | refine ep_empt ?_
        | refine ep_field1 rfl rfl ?_ | refine sp_fieldN rfl rfl rfl ?_ | refine ep_mkfn rfl ?_ | refine ep_nilckP rfl ?_ | refine ep_nilckF rfl ?_
        | refine ep_eqb0 rfl rfl ?_ | refine ep_eqb1 rfl rfl ?_ | refine ep_eqa0 rfl rfl ?_ | refine ep_eqa1 rfl rfl ?_)
      | (refine g_ops ?_; first | refine eo_none ?_ | refine eo_nil ?_ | refine eo_yes rfl ?_ | refine eo_no rfl ?_ | refine eo_und rfl ?_ | refine eo_yesH rfl (by assumption) ?_ | refine eo_noH rfl (by assumption) ?_)
      | (refine g_dops ?_; first | refine ed_none ?_ | refine ed_nil ?_ | refine ed_yes rfl ?_ | refine ed_no rfl ?_ | refine ed_und rfl ?_ | refine ed_yesH rfl (by assumption) ?_ | refine ed_noH rfl (by assumption) ?_)
      | refine ed_same rfl ?_ | refine ed_one rfl rfl rfl rfl ?_ | refine ed_write rfl rfl ?_
      | (refine g_code ?_; first
        | refine ec_seq ?_ | refine ec_region ?_ | refine ec_draw ?_ | refine ec_block ?_ | refine ec_skip ?_ | refine ec_exit ?_ | refine ec_ret ?_
        | refine ec_condT rfl ?_ | refine ec_condF rfl ?_ | refine ec_condTH rfl (by assumption) ?_ | refine ec_condFH rfl (by assumption) ?_)
      | refine ek_seqN ?_ | refine ek_seqX ?_ | refine ek_seqR ?_ | refine ek_blkN ?_ | refine ek_blkR ?_ | refine ek_blkX ?_ | refine ek_blkY rfl ?_)
    refine sfin (.inr rfl) (by rfl) (by rfl) (by exact ⟨rfl, rfl, rfl⟩) (by rfl) (by rfl) (by exact congrArg V.bool (by simp [isFn, h1])) (by rfl)
-- loop.example/g01323/spec.l01Is
def m68 : MC := (.seq (.region [⟨(.box (.t 0)), (some 1), none⟩, ⟨(.mov (.k (.bool false))), (some 2), none⟩] false) (.seq (.region [⟨(.fieldAddr 0 (.t 1)), (some 3), none⟩, ⟨(.load none (.t 3)), (some 4), none⟩, ⟨(.call 72 [(.t 4), (.k (.int .i64 0)), (.k (.int .i64 4))]), (some 5), none⟩, ⟨(.mov (.t 5)), (some 6), none⟩, ⟨(.fieldAddr 1 (.t 1)), (some 7), (some (6, true))⟩, ⟨(.load none (.t 7)), (some 8), (some (6, true))⟩, ⟨(.fieldAddr 0 (.t 1)), (some 9), (some (6, true))⟩, ⟨(.load none (.t 9)), (some 10), (some (6, true))⟩, ⟨(.call 104 [(.t 10)]), (some 11), (some (6, true))⟩, ⟨(.call 72 [(.t 8), (.k (.int .i64 0)), (.t 11)]), (some 12), (some (6, true))⟩, ⟨(.pick (.t 6) (.t 12) (.k (.bool false))), (some 13), none⟩, ⟨(.mov (.t 13)), (some 2), none⟩] true) .ret))
theorem has68 : Has cx 68 14 m68 [(.tmp 2)] :=
  ⟨⟨Try.f68, Try.f68.body.getD .skip, by kernel_rfl, by kernel_rfl, by kernel_rfl, by kernel_rfl, by kernel_rfl, by kernel_rfl⟩⟩
theorem ev68 (p t : Int) : Ev cx 68 [.agg [.int .i64 p, .int .i64 t]] [] (.bool (isFn p t)) [] := by
  by_cases h1 : 0 ≤ p ∧ p ≤ 4
  · have h2 : decide (0 ≤ p ∧ p ≤ 4) = true := decide_eq_true h1
    obtain ⟨n, rfl⟩ := Int.eq_ofNat_of_zero_le (show 0 ≤ p by omega)
    have h3 : n ≤ 4 := by omega
    obtain ⟨h4, h5, h6, h7⟩ := shN h3
    refine has68.eev rfl rfl ?_
    unfold m68
    repeat' (first
      | (refine g_op ?_; first
        | refine ep_mov rfl ?_ | refine ep_load1 rfl rfl rfl rfl ?_ | refine ep_fieldAddr rfl ?_ | refine sp_loadN rfl rfl rfl rfl rfl ?_
        | refine ep_call0 rfl (by first | exact ev72 _ _ _ | exact ev104 _ h3) rfl rfl ?_
        | refine sp_call rfl rfl rfl rfl (by first | exact ev72 _ _ _ | exact ev104 _ h3) ⟨rfl, rfl, rfl, rfl⟩ rfl rfl rfl ?_
        | refine sp_callv rfl rfl rfl rfl rfl rfl (by first | exact ev72 _ _ _ | exact ev104 _ h3) ⟨rfl, rfl, rfl, rfl⟩ rfl rfl rfl ?_
        | refine ep_bin rfl rfl (by first | exact b_add (by omega) (by omega) | exact b_sub (by omega) (by omega) | exact b_and (by omega) (by omega) | exact b_or (by omega) (by omega) | exact b_shr (by omega) | exact b_shl (by omega) (by omega) | rfl) ?_
        | refine ep_pickT rfl rfl ?_ | refine ep_pickF rfl rfl ?_ | refine ep_pickTH rfl (by assumption) rfl ?_ | refine ep_pickFH rfl (by assumption) rfl ?_
        | refine ep_extract rfl rfl ?_ | refine sp_store rfl rfl rfl rfl rfl rfl rfl rfl rfl rfl ?_ | refine ep_conv rfl (by first | exact w_u64 (by omega) (by omega) | exact wrap_id (by omega) (by omega) | rfl) ?_
        | refine ep_not rfl ?_ | refine ep_lenS rfl ?_ | refine ep_lenN rfl ?_ | refine ep_lenE rfl ?_
        | refine sp_box rfl rfl rfl rfl rfl ?_ | refine sp_alloc rfl rfl ?_ | refine sp_build rfl rfl ?_ | refine sp_bslice rfl rfl rfl rfl rfl ?_ | refine ep_empt ?_
        | refine ep_field1 rfl rfl ?_ | refine sp_fieldN rfl rfl rfl ?_ | refine ep_mkfn rfl ?_ | refine ep_nilckP rfl ?_ | refine ep_nilckF rfl ?_
        | refine ep_eqb0 rfl rfl ?_ | refine ep_eqb1 rfl rfl ?_ | refine ep_eqa0 rfl rfl ?_ | refine ep_eqa1 rfl rfl ?_)
      | (refine g_ops ?_; first | refine eo_none ?_ | refine eo_nil ?_ | refine eo_yes rfl ?_ | refine eo_no rfl ?_ | refine eo_und rfl ?_ | refine eo_yesH rfl (by assumption) ?_ | refine eo_noH rfl (by assumption) ?_)
      | (refine g_dops ?_; first | refine ed_none ?_ | refine ed_nil ?_ | refine ed_yes rfl ?_ | refine ed_no rfl ?_ | refine ed_und rfl ?_ | refine ed_yesH rfl (by assumption) ?_ | refine ed_noH rfl (by assumption) ?_)
      | refine ed_same rfl ?_ | refine ed_one rfl rfl rfl rfl ?_ | refine ed_write rfl rfl ?_
      | (refine g_code ?_; first
        | refine ec_seq ?_ | refine ec_region ?_ | refine ec_draw ?_ | refine ec_block ?_ | refine ec_skip ?_ | refine ec_exit ?_ | refine ec_ret ?_
        | refine ec_condT rfl ?_ | refine ec_condF rfl ?_ | refine ec_condTH rfl (by assumption) ?_ | refine ec_condFH rfl (by assumption) ?_)
      | refine ek_seqN ?_ | refine ek_seqX ?_ | refine ek_seqR ?_ | refine ek_blkN ?_ | refine ek_blkR ?_ | refine ek_blkX ?_ | refine ek_blkY rfl ?_)
    refine sfin (.inr rfl) (by rfl) (by rfl) (by exact ⟨rfl, rfl, rfl⟩) (by rfl) (by rfl) (by exact congrArg V.bool (by simp [isFn, h1])) (by rfl)
  · have h2 : decide (0 ≤ p ∧ p ≤ 4) = false := decide_eq_false h1
    refine has68.eev rfl rfl ?_
    unfold m68
    repeat' (first
      | (refine g_op ?_; first
        | refine ep_mov rfl ?_ | refine ep_load1 rfl rfl rfl rfl ?_ | refine ep_fieldAddr rfl ?_ | refine sp_loadN rfl rfl rfl rfl rfl ?_
        | refine ep_call0 rfl (by first | exact ev72 _ _ _) rfl rfl ?_
        | refine sp_call rfl rfl rfl rfl (by first | exact ev72 _ _ _) ⟨rfl, rfl, rfl, rfl⟩ rfl rfl rfl ?_
        | refine sp_callv rfl rfl rfl rfl rfl rfl (by first | exact ev72 _ _ _) ⟨rfl, rfl, rfl, rfl⟩ rfl rfl rfl ?_
        | refine ep_bin rfl rfl (by first | exact b_add (by omega) (by omega) | exact b_sub (by omega) (by omega) | exact b_and (by omega) (by omega) | exact b_or (by omega) (by omega) | exact b_shr (by omega) | exact b_shl (by omega) (by omega) | rfl) ?_
        | refine ep_pickT rfl rfl ?_ | refine ep_pickF rfl rfl ?_ | refine ep_pickTH rfl (by assumption) rfl ?_ | refine ep_pickFH rfl (by assumption) rfl ?_
        | refine ep_extract rfl rfl ?_ | refine sp_store rfl rfl rfl rfl rfl rfl rfl rfl rfl rfl ?_ | refine ep_conv rfl (by first | exact w_u64 (by omega) (by omega) | exact wrap_id (by omega) (by omega) | rfl) ?_
        | refine ep_not rfl ?_ | refine ep_lenS rfl ?_ | refine ep_lenN rfl ?_ | refine ep_lenE rfl ?_
        | refine sp_box rfl rfl rfl rfl rfl ?_ | refine sp_alloc rfl rfl ?_ | refine sp_build rfl rfl ?_ | refine sp_bslice rfl rfl rfl rfl rfl ?_ | refine ep_empt ?_
        | refine ep_field1 rfl rfl ?_ | refine sp_fieldN rfl rfl rfl ?_ | refine ep_mkfn rfl ?_ | refine ep_nilckP rfl ?_ | refine ep_nilckF rfl ?_
        | refine ep_eqb0 rfl rfl ?_ | refine ep_eqb1 rfl rfl ?_ | refine ep_eqa0 rfl rfl ?_ | refine ep_eqa1 rfl rfl ?_)
      | (refine g_ops ?_; first | refine eo_none ?_ | refine eo_nil ?_ | refine eo_yes rfl ?_ | refine eo_no rfl ?_ | refine eo_und rfl ?_ | refine eo_yesH rfl (by assumption) ?_ | refine eo_noH rfl (by assumption) ?_)
      | (refine g_dops ?_; first | refine ed_none ?_ | refine ed_nil ?_ | refine ed_yes rfl ?_ | refine ed_no rfl ?_ | refine ed_und rfl ?_ | refine ed_yesH rfl (by assumption) ?_ | refine ed_noH rfl (by assumption) ?_)
      | refine ed_same rfl ?_ | refine ed_one rfl rfl rfl rfl ?_ | refine ed_write rfl rfl ?_
      | (refine g_code ?_; first
        | refine ec_seq ?_ | refine ec_region ?_ | refine ec_draw ?_ | refine ec_block ?_ | refine ec_skip ?_ | refine ec_exit ?_ | refine ec_ret ?_
        | refine ec_condT rfl ?_ | refine ec_condF rfl ?_ | refine ec_condTH rfl (by assumption) ?_ | refine ec_condFH rfl (by assumption) ?_)
      | refine ek_seqN ?_ | refine ek_seqX ?_ | refine ek_seqR ?_ | refine ek_blkN ?_ | refine ek_blkR ?_ | refine ek_blkX ?_ | refine ek_blkY rfl ?_)
    refine sfin (.inr rfl) (by rfl) (by rfl) (by exact ⟨rfl, rfl, rfl⟩) (by rfl) (by rfl) (by exact congrArg V.bool (by simp [isFn, h1])) (by rfl)
-- loop.example/g01323/laws.toFunc
def m22 : MC := (.seq (.region [⟨(.box (.t 0)), (some 1), none⟩, ⟨(.alloc [(.int .i64 0), (.int .i64 0)]), (some 2), none⟩] false) (.seq (.region [⟨(.alloc [(.int .i64 0), (.int .i64 0)]), (some 3), none⟩] false) (.seq (.region [⟨(.fieldAddr 0 (.t 1)), (some 4), none⟩, ⟨(.load none (.t 4)), (some 5), none⟩, ⟨(.fieldAddr 0 (.t 3)), (some 6), none⟩, ⟨(.store 1 (.t 6) (.t 5)), none, none⟩] false) (.seq (.region [⟨(.fieldAddr 1 (.t 1)), (some 7), none⟩, ⟨(.load none (.t 7)), (some 8), none⟩, ⟨(.fieldAddr 1 (.t 3)), (some 9), none⟩, ⟨(.store 1 (.t 9) (.t 8)), none, none⟩] false) (.seq (.region [⟨(.load (some 2) (.t 3)), (some 10), none⟩, ⟨(.store 2 (.t 2) (.t 10)), none, none⟩] false) .ret)))))
theorem has22 : Has cx 22 11 m22 [(.cell 2 (some 2))] :=
  ⟨⟨Try.f22, Try.f22.body.getD .skip, by kernel_rfl, by kernel_rfl, by kernel_rfl, by kernel_rfl, by kernel_rfl, by kernel_rfl⟩⟩
theorem ev22 (a b : Int) : Ev cx 22 [.agg [.int .i64 a, .int .i64 b]] [] (.agg [.int .i64 a, .int .i64 b]) [] := by
  refine has22.eev rfl rfl ?_
  unfold m22
  repeat' (first
    | (refine g_op ?_; first
      | refine ep_mov rfl ?_ | refine ep_load1 rfl rfl rfl rfl ?_ | refine ep_fieldAddr rfl ?_ | refine sp_loadN rfl rfl rfl rfl rfl ?_
      | refine ep_bin rfl rfl (by first | exact b_add (by omega) (by omega) | exact b_sub (by omega) (by omega) | exact b_and (by omega) (by omega) | exact b_or (by omega) (by omega) | exact b_shr (by omega) | exact b_shl (by omega) (by omega) | rfl) ?_
      | refine ep_pickT rfl rfl ?_ | refine ep_pickF rfl rfl ?_ | refine ep_pickTH rfl (by assumption) rfl ?_ | refine ep_pickFH rfl (by assumption) rfl ?_
      | refine ep_extract rfl rfl ?_ | refine sp_store rfl rfl rfl rfl rfl rfl rfl rfl rfl rfl ?_ | refine ep_conv rfl (by first | exact w_u64 (by omega) (by omega) | exact wrap_id (by omega) (by omega) | rfl) ?_
      | refine ep_not rfl ?_ | refine ep_lenS rfl ?_ | refine ep_lenN rfl ?_ | refine ep_lenE rfl ?_
      | refine sp_box rfl rfl rfl rfl rfl ?_ | refine sp_alloc rfl rfl ?_ | refine sp_build rfl rfl ?_ | refine sp_bslice rfl rfl rfl rfl rfl ?_ | refine ep_empt ?_
      | refine ep_field1 rfl rfl ?_ | refine sp_fieldN rfl rfl rfl ?_ | refine ep_mkfn rfl ?_ | refine ep_nilckP rfl ?_ | refine ep_nilckF rfl ?_
      | refine ep_eqb0 rfl rfl ?_ | refine ep_eqb1 rfl rfl ?_ | refine ep_eqa0 rfl rfl ?_ | refine ep_eqa1 rfl rfl ?_)
    | (refine g_ops ?_; first | refine eo_none ?_ | refine eo_nil ?_ | refine eo_yes rfl ?_ | refine eo_no rfl ?_ | refine eo_und rfl ?_ | refine eo_yesH rfl (by assumption) ?_ | refine eo_noH rfl (by assumption) ?_)
    | (refine g_dops ?_; first | refine ed_none ?_ | refine ed_nil ?_ | refine ed_yes rfl ?_ | refine ed_no rfl ?_ | refine ed_und rfl ?_ | refine ed_yesH rfl (by assumption) ?_ | refine ed_noH rfl (by assumption) ?_)
    | refine ed_same rfl ?_ | refine ed_one rfl rfl rfl rfl ?_ | refine ed_write rfl rfl ?_
    | (refine g_code ?_; first
      | refine ec_seq ?_ | refine ec_region ?_ | refine ec_draw ?_ | refine ec_block ?_ | refine ec_skip ?_ | refine ec_exit ?_ | refine ec_ret ?_
      | refine ec_condT rfl ?_ | refine ec_condF rfl ?_ | refine ec_condTH rfl (by assumption) ?_ | refine ec_condFH rfl (by assumption) ?_)
    | refine ek_seqN ?_ | refine ek_seqX ?_ | refine ek_seqR ?_ | refine ek_blkN ?_ | refine ek_blkR ?_ | refine ek_blkX ?_ | refine ek_blkY rfl ?_)
  refine sfin (.inr rfl) (by rfl) (by rfl) (by exact ⟨rfl, rfl, rfl⟩) (by rfl) (by rfl) (by rfl) (by rfl)
-- loop.example/g01323/spec.l01At
def m95 : MC := (.seq (.region [⟨(.box (.t 0)), (some 2), none⟩, ⟨(.mov (.k (.int .i64 0))), (some 4), none⟩] false) (.seq (.region [⟨(.fieldAddr 1 (.t 2)), (some 5), none⟩, ⟨(.load none (.t 5)), (some 6), none⟩, ⟨(.mov (.t 1)), (some 7), none⟩, ⟨(.conv .u64 (.t 7)), (some 8), none⟩, ⟨(.bin .shr (.t 6) (.t 8)), (some 9), none⟩, ⟨(.bin .and (.t 9) (.k (.int .i64 1))), (some 10), none⟩, ⟨(.mov (.t 10)), (some 4), none⟩] false) .ret))
theorem has95 : Has cx 95 11 m95 [(.tmp 4)] :=
  ⟨⟨Try.f95, Try.f95.body.getD .skip, by kernel_rfl, by kernel_rfl, by kernel_rfl, by kernel_rfl, by kernel_rfl, by kernel_rfl⟩⟩
theorem ev95 (n : Int) (b r : Nat) (hb : b < 9223372036854775808) (hr : r ≤ 64) : Ev cx 95 [.agg [.int .i64 n, .int .i64 b], .int .i64 r] [] (.int .i64 (bt b r : Nat)) [] := by
  refine has95.eev rfl rfl ?_
  unfold m95
  repeat' (first
    | (refine g_op ?_; first
      | refine ep_mov rfl ?_ | refine ep_load1 rfl rfl rfl rfl ?_ | refine ep_fieldAddr rfl ?_ | refine sp_loadN rfl rfl rfl rfl rfl ?_
      | refine ep_bin rfl rfl (by first | exact b_shr hr | exact b_bt hb | exact b_add (by omega) (by omega) | exact b_sub (by omega) (by omega) | exact b_and (by omega) (by omega) | exact b_or (by omega) (by omega) | exact b_shr (by omega) | exact b_shl (by omega) (by omega) | rfl) ?_
      | refine ep_pickT rfl rfl ?_ | refine ep_pickF rfl rfl ?_ | refine ep_pickTH rfl (by assumption) rfl ?_ | refine ep_pickFH rfl (by assumption) rfl ?_
      | refine ep_extract rfl rfl ?_ | refine sp_store rfl rfl rfl rfl rfl rfl rfl rfl rfl rfl ?_ | refine ep_conv rfl (by first | exact w_u64 (by omega) (by omega) | exact wrap_id (by omega) (by omega) | rfl) ?_
      | refine ep_not rfl ?_ | refine ep_lenS rfl ?_ | refine ep_lenN rfl ?_ | refine ep_lenE rfl ?_
      | refine sp_box rfl rfl rfl rfl rfl ?_ | refine sp_alloc rfl rfl ?_ | refine sp_build rfl rfl ?_ | refine sp_bslice rfl rfl rfl rfl rfl ?_ | refine ep_empt ?_
      | refine ep_field1 rfl rfl ?_ | refine sp_fieldN rfl rfl rfl ?_ | refine ep_mkfn rfl ?_ | refine ep_nilckP rfl ?_ | refine ep_nilckF rfl ?_
      | refine ep_eqb0 rfl rfl ?_ | refine ep_eqb1 rfl rfl ?_ | refine ep_eqa0 rfl rfl ?_ | refine ep_eqa1 rfl rfl ?_)
    | (refine g_ops ?_; first | refine eo_none ?_ | refine eo_nil ?_ | refine eo_yes rfl ?_ | refine eo_no rfl ?_ | refine eo_und rfl ?_ | refine eo_yesH rfl (by assumption) ?_ | refine eo_noH rfl (by assumption) ?_)
    | (refine g_dops ?_; first | refine ed_none ?_ | refine ed_nil ?_ | refine ed_yes rfl ?_ | refine ed_no rfl ?_ | refine ed_und rfl ?_ | refine ed_yesH rfl (by assumption) ?_ | refine ed_noH rfl (by assumption) ?_)
    | refine ed_same rfl ?_ | refine ed_one rfl rfl rfl rfl ?_ | refine ed_write rfl rfl ?_
    | (refine g_code ?_; first
      | refine ec_seq ?_ | refine ec_region ?_ | refine ec_draw ?_ | refine ec_block ?_ | refine ec_skip ?_ | refine ec_exit ?_ | refine ec_ret ?_
      | refine ec_condT rfl ?_ | refine ec_condF rfl ?_ | refine ec_condTH rfl (by assumption) ?_ | refine ec_condFH rfl (by assumption) ?_)
    | refine ek_seqN ?_ | refine ek_seqX ?_ | refine ek_seqR ?_ | refine ek_blkN ?_ | refine ek_blkR ?_ | refine ek_blkX ?_ | refine ek_blkY rfl ?_)
  refine sfin (.inr rfl) (by rfl) (by rfl) (by exact ⟨rfl, rfl, rfl⟩) (by rfl) (by rfl) (by rfl) (by rfl)
-- loop.example/g01323/spec.l07Monotone
def m69_1 : MC := (.seq (.seq (.region [⟨(.mov (.t 4)), (some 12), none⟩, ⟨(.fieldAddr 0 (.t 1)), (some 13), none⟩, ⟨(.load none (.t 13)), (some 14), none⟩, ⟨(.bin .lss (.t 12) (.t 14)), (some 15), none⟩] false) (.cond (.t 15) .skip (.exit 2))) (.seq (.block 3 (.seq (.region [⟨(.load (some 2) (.t 1)), (some 18), none⟩, ⟨(.mov (.t 3)), (some 19), none⟩, ⟨(.call 95 [(.t 18), (.t 19)]), (some 20), none⟩, ⟨(.bin .eql (.t 20) (.k (.int .i64 1))), (some 21), none⟩, ⟨(.mov (.t 21)), (some 22), none⟩, ⟨(.load (some 2) (.t 1)), (some 23), (some (22, true))⟩, ⟨(.mov (.t 3)), (some 24), (some (22, true))⟩, ⟨(.mov (.t 4)), (some 25), (some (22, true))⟩, ⟨(.conv .u64 (.t 25)), (some 26), (some (22, true))⟩, ⟨(.bin .shl (.k (.int .i64 1)) (.t 26)), (some 27), (some (22, true))⟩, ⟨(.bin .or (.t 24) (.t 27)), (some 28), (some (22, true))⟩, ⟨(.call 95 [(.t 23), (.t 28)]), (some 29), (some (22, true))⟩, ⟨(.bin .eql (.t 29) (.k (.int .i64 0))), (some 30), (some (22, true))⟩, ⟨(.pick (.t 22) (.t 30) (.k (.bool false))), (some 31), none⟩] false) (.cond (.t 31) (.seq (.region [⟨(.mov (.k (.bool false))), (some 2), none⟩] false) .ret) .skip))) (.region [⟨(.mov (.t 4)), (some 16), none⟩, ⟨(.bin .add (.t 16) (.k (.int .i64 1))), (some 17), none⟩, ⟨(.mov (.t 17)), (some 4), none⟩] false)))
def m69_0 : MC := (.seq (.seq (.region [⟨(.mov (.t 3)), (some 5), none⟩, ⟨(.fieldAddr 0 (.t 1)), (some 6), none⟩, ⟨(.load none (.t 6)), (some 7), none⟩, ⟨(.call 96 [(.t 7)]), (some 8), none⟩, ⟨(.bin .lss (.t 5) (.t 8)), (some 9), none⟩] false) (.cond (.t 9) .skip (.exit 0))) (.seq (.block 1 (.seq (.region [⟨(.mov (.k (.int .i64 0))), (some 4), none⟩] false) (.block 2 (.loop m69_1)))) (.region [⟨(.mov (.t 3)), (some 10), none⟩, ⟨(.bin .add (.t 10) (.k (.int .i64 1))), (some 11), none⟩, ⟨(.mov (.t 11)), (some 3), none⟩] false)))
def m69 : MC := (.seq (.region [⟨(.box (.t 0)), (some 1), none⟩, ⟨(.mov (.k (.bool false))), (some 2), none⟩] false) (.seq (.seq (.region [⟨(.mov (.k (.int .i64 0))), (some 3), none⟩] false) (.block 0 (.loop m69_0))) (.seq (.region [⟨(.mov (.k (.bool true))), (some 2), none⟩] false) .ret)))
theorem has69 : Has cx 69 32 m69 [(.tmp 2)] :=
  ⟨⟨Try.f69, Try.f69.body.getD .skip, by kernel_rfl, by kernel_rfl, by kernel_rfl, by kernel_rfl, by kernel_rfl, by kernel_rfl⟩⟩
theorem lp69_1 (n b r : Nat) (hn : n ≤ 4) (hb : b < 65536) (hr : r < R2 n) (o : Out)
    (ho : (if allF (monoP b r) 0 n = true then (⟨.exit 2, [(1, .ptr 0 0), (3, .int .i64 r)], [⟨[.int .i64 n, .int .i64 b], 1, 0, some 0, true⟩]⟩ : Out) else ⟨.ret, [(2, .bool false)], []⟩) = o) :
    LpS cx 32 0 m69_1 [(1, .ptr 0 0), (3, .int .i64 r), (4, .int .i64 (0 : Nat))] [⟨[.int .i64 n, .int .i64 b], 1, 0, some 0, true⟩] o.x o.e o.h := by
  obtain ⟨h1, h2, h3, h4⟩ := shN hn
  refine lp_all n (monoP b r) (fun j => [(1, .ptr 0 0), (3, .int .i64 r), (4, .int .i64 (j : Nat))]) (fun _ => [⟨[.int .i64 n, .int .i64 b], 1, 0, some 0, true⟩]) _ _ ?_ ?_ ?_ n 0 o (by omega) ho
  · intro j hj hp
    have h5 := R2_le hj
    have h6 := or_lt hr (show R2 j < R2 n by omega)
    have h7 : decide ((j : Int) < (n : Nat)) = true := decide_eq_true (by omega)
    simp only [monoP, decide_eq_true_eq] at hp
    by_cases hx : bt b r = 1
    · have h8 : (((bt b r : Nat) : Int) == 1) = true := by simp [hx]
      have h9 : (((bt b (r ||| R2 j) : Nat) : Int) == 0) = false := by
        have : bt b (r ||| R2 j) ≠ 0 := by omega
        simpa using this
      unfold m69_1
      repeat' (first
        | (refine g_op ?_; first
          | refine ep_mov rfl ?_ | refine ep_load1 rfl rfl rfl rfl ?_ | refine ep_fieldAddr rfl ?_ | refine sp_loadN rfl rfl rfl rfl rfl ?_
          | refine ep_call0 rfl (by first | exact ev95 _ _ _ (by omega) (by omega)) rfl rfl ?_
          | refine sp_call rfl rfl rfl rfl (by first | exact ev95 _ _ _ (by omega) (by omega)) ⟨rfl, rfl, rfl, rfl⟩ rfl rfl rfl ?_
          | refine sp_callv rfl rfl rfl rfl rfl rfl (by first | exact ev95 _ _ _ (by omega) (by omega)) ⟨rfl, rfl, rfl, rfl⟩ rfl rfl rfl ?_
          | refine ep_bin rfl rfl (by first | exact b_shl1 (by omega) (by omega) | exact b_add (by omega) (by omega) | exact b_sub (by omega) (by omega) | exact b_and (by omega) (by omega) | exact b_or (by omega) (by omega) | exact b_shr (by omega) | exact b_shl (by omega) (by omega) | rfl) ?_
          | refine ep_pickT rfl rfl ?_ | refine ep_pickF rfl rfl ?_ | refine ep_pickTH rfl (by assumption) rfl ?_ | refine ep_pickFH rfl (by assumption) rfl ?_
          | refine ep_extract rfl rfl ?_ | refine sp_store rfl rfl rfl rfl rfl rfl rfl rfl rfl rfl ?_ | refine ep_conv rfl (by first | exact w_u64 (by omega) (by omega) | exact wrap_id (by omega) (by omega) | rfl) ?_
          | refine ep_not rfl ?_ | refine ep_lenS rfl ?_ | refine ep_lenN rfl ?_ | refine ep_lenE rfl ?_
          | refine sp_box rfl rfl rfl rfl rfl ?_ | refine sp_alloc rfl rfl ?_ | refine sp_build rfl rfl ?_ | refine sp_bslice rfl rfl rfl rfl rfl ?_ | refine ep_empt ?_
          | refine ep_field1 rfl rfl ?_ | refine sp_fieldN rfl rfl rfl ?_ | refine ep_mkfn rfl ?_ | refine ep_nilckP rfl ?_ | refine ep_nilckF rfl ?_
          | refine ep_eqb0 rfl rfl ?_ | refine ep_eqb1 rfl rfl ?_ | refine ep_eqa0 rfl rfl ?_ | refine ep_eqa1 rfl rfl ?_)
        | (refine g_ops ?_; first | refine eo_none ?_ | refine eo_nil ?_ | refine eo_yes rfl ?_ | refine eo_no rfl ?_ | refine eo_und rfl ?_ | refine eo_yesH rfl (by assumption) ?_ | refine eo_noH rfl (by assumption) ?_)
        | (refine g_dops ?_; first | refine ed_none ?_ | refine ed_nil ?_ | refine ed_yes rfl ?_ | refine ed_no rfl ?_ | refine ed_und rfl ?_ | refine ed_yesH rfl (by assumption) ?_ | refine ed_noH rfl (by assumption) ?_)
        | refine ed_same rfl ?_ | refine ed_one rfl rfl rfl rfl ?_ | refine ed_write rfl rfl ?_
        | (refine g_code ?_; first
          | refine ec_seq ?_ | refine ec_region ?_ | refine ec_draw ?_ | refine ec_block ?_ | refine ec_skip ?_ | refine ec_exit ?_ | refine ec_ret ?_
          | refine ec_condT rfl ?_ | refine ec_condF rfl ?_ | refine ec_condTH rfl (by assumption) ?_ | refine ec_condFH rfl (by assumption) ?_)
        | refine ek_seqN ?_ | refine ek_seqX ?_ | refine ek_seqR ?_ | refine ek_blkN ?_ | refine ek_blkR ?_ | refine ek_blkX ?_ | refine ek_blkY rfl ?_)
      exact rnd_on (by rfl) (scmp (by rfl) (by rfl) (by exact ⟨rfl, rfl, rfl⟩) (by rfl) (by rfl) (by rfl))
    · have h8 : (((bt b r : Nat) : Int) == 1) = false := by
        simp only [beq_eq_false_iff_ne, ne_eq]; omega
      unfold m69_1
      repeat' (first
        | (refine g_op ?_; first
          | refine ep_mov rfl ?_ | refine ep_load1 rfl rfl rfl rfl ?_ | refine ep_fieldAddr rfl ?_ | refine sp_loadN rfl rfl rfl rfl rfl ?_
          | refine ep_call0 rfl (by first | exact ev95 _ _ _ (by omega) (by omega)) rfl rfl ?_
          | refine sp_call rfl rfl rfl rfl (by first | exact ev95 _ _ _ (by omega) (by omega)) ⟨rfl, rfl, rfl, rfl⟩ rfl rfl rfl ?_
          | refine sp_callv rfl rfl rfl rfl rfl rfl (by first | exact ev95 _ _ _ (by omega) (by omega)) ⟨rfl, rfl, rfl, rfl⟩ rfl rfl rfl ?_
          | refine ep_bin rfl rfl (by first | exact b_shl1 (by omega) (by omega) | exact b_add (by omega) (by omega) | exact b_sub (by omega) (by omega) | exact b_and (by omega) (by omega) | exact b_or (by omega) (by omega) | exact b_shr (by omega) | exact b_shl (by omega) (by omega) | rfl) ?_
          | refine ep_pickT rfl rfl ?_ | refine ep_pickF rfl rfl ?_ | refine ep_pickTH rfl (by assumption) rfl ?_ | refine ep_pickFH rfl (by assumption) rfl ?_
          | refine ep_extract rfl rfl ?_ | refine sp_store rfl rfl rfl rfl rfl rfl rfl rfl rfl rfl ?_ | refine ep_conv rfl (by first | exact w_u64 (by omega) (by omega) | exact wrap_id (by omega) (by omega) | rfl) ?_
          | refine ep_not rfl ?_ | refine ep_lenS rfl ?_ | refine ep_lenN rfl ?_ | refine ep_lenE rfl ?_
          | refine sp_box rfl rfl rfl rfl rfl ?_ | refine sp_alloc rfl rfl ?_ | refine sp_build rfl rfl ?_ | refine sp_bslice rfl rfl rfl rfl rfl ?_ | refine ep_empt ?_
          | refine ep_field1 rfl rfl ?_ | refine sp_fieldN rfl rfl rfl ?_ | refine ep_mkfn rfl ?_ | refine ep_nilckP rfl ?_ | refine ep_nilckF rfl ?_
          | refine ep_eqb0 rfl rfl ?_ | refine ep_eqb1 rfl rfl ?_ | refine ep_eqa0 rfl rfl ?_ | refine ep_eqa1 rfl rfl ?_)
        | (refine g_ops ?_; first | refine eo_none ?_ | refine eo_nil ?_ | refine eo_yes rfl ?_ | refine eo_no rfl ?_ | refine eo_und rfl ?_ | refine eo_yesH rfl (by assumption) ?_ | refine eo_noH rfl (by assumption) ?_)
        | (refine g_dops ?_; first | refine ed_none ?_ | refine ed_nil ?_ | refine ed_yes rfl ?_ | refine ed_no rfl ?_ | refine ed_und rfl ?_ | refine ed_yesH rfl (by assumption) ?_ | refine ed_noH rfl (by assumption) ?_)
        | refine ed_same rfl ?_ | refine ed_one rfl rfl rfl rfl ?_ | refine ed_write rfl rfl ?_
        | (refine g_code ?_; first
          | refine ec_seq ?_ | refine ec_region ?_ | refine ec_draw ?_ | refine ec_block ?_ | refine ec_skip ?_ | refine ec_exit ?_ | refine ec_ret ?_
          | refine ec_condT rfl ?_ | refine ec_condF rfl ?_ | refine ec_condTH rfl (by assumption) ?_ | refine ec_condFH rfl (by assumption) ?_)
        | refine ek_seqN ?_ | refine ek_seqX ?_ | refine ek_seqR ?_ | refine ek_blkN ?_ | refine ek_blkR ?_ | refine ek_blkX ?_ | refine ek_blkY rfl ?_)
      exact rnd_on (by rfl) (scmp (by rfl) (by rfl) (by exact ⟨rfl, rfl, rfl⟩) (by rfl) (by rfl) (by rfl))
  · intro j hj hp
    have h5 := R2_le hj
    have h6 := or_lt hr (show R2 j < R2 n by omega)
    have h7 : decide ((j : Int) < (n : Nat)) = true := decide_eq_true (by omega)
    simp only [monoP, decide_eq_false_iff_not, Classical.not_not] at hp
    have hx := bt_le b r
    have h8 : (((bt b r : Nat) : Int) == 1) = true := by simp only [beq_iff_eq]; omega
    have h9 : (((bt b (r ||| R2 j) : Nat) : Int) == 0) = true := by simp only [beq_iff_eq]; omega
    unfold m69_1
    repeat' (first
      | (refine g_op ?_; first
        | refine ep_mov rfl ?_ | refine ep_load1 rfl rfl rfl rfl ?_ | refine ep_fieldAddr rfl ?_ | refine sp_loadN rfl rfl rfl rfl rfl ?_
        | refine ep_call0 rfl (by first | exact ev95 _ _ _ (by omega) (by omega)) rfl rfl ?_
        | refine sp_call rfl rfl rfl rfl (by first | exact ev95 _ _ _ (by omega) (by omega)) ⟨rfl, rfl, rfl, rfl⟩ rfl rfl rfl ?_
        | refine sp_callv rfl rfl rfl rfl rfl rfl (by first | exact ev95 _ _ _ (by omega) (by omega)) ⟨rfl, rfl, rfl, rfl⟩ rfl rfl rfl ?_
        | refine ep_bin rfl rfl (by first | exact b_shl1 (by omega) (by omega) | exact b_add (by omega) (by omega) | exact b_sub (by omega) (by omega) | exact b_and (by omega) (by omega) | exact b_or (by omega) (by omega) | exact b_shr (by omega) | exact b_shl (by omega) (by omega) | rfl) ?_
        | refine ep_pickT rfl rfl ?_ | refine ep_pickF rfl rfl ?_ | refine ep_pickTH rfl (by assumption) rfl ?_ | refine ep_pickFH rfl (by assumption) rfl ?_
        | refine ep_extract rfl rfl ?_ | refine sp_store rfl rfl rfl rfl rfl rfl rfl rfl rfl rfl ?_ | refine ep_conv rfl (by first | exact w_u64 (by omega) (by omega) | exact wrap_id (by omega) (by omega) | rfl) ?_
        | refine ep_not rfl ?_ | refine ep_lenS rfl ?_ | refine ep_lenN rfl ?_ | refine ep_lenE rfl ?_
        | refine sp_box rfl rfl rfl rfl rfl ?_ | refine sp_alloc rfl rfl ?_ | refine sp_build rfl rfl ?_ | refine sp_bslice rfl rfl rfl rfl rfl ?_ | refine ep_empt ?_
        | refine ep_field1 rfl rfl ?_ | refine sp_fieldN rfl rfl rfl ?_ | refine ep_mkfn rfl ?_ | refine ep_nilckP rfl ?_ | refine ep_nilckF rfl ?_
        | refine ep_eqb0 rfl rfl ?_ | refine ep_eqb1 rfl rfl ?_ | refine ep_eqa0 rfl rfl ?_ | refine ep_eqa1 rfl rfl ?_)
      | (refine g_ops ?_; first | refine eo_none ?_ | refine eo_nil ?_ | refine eo_yes rfl ?_ | refine eo_no rfl ?_ | refine eo_und rfl ?_ | refine eo_yesH rfl (by assumption) ?_ | refine eo_noH rfl (by assumption) ?_)
      | (refine g_dops ?_; first | refine ed_none ?_ | refine ed_nil ?_ | refine ed_yes rfl ?_ | refine ed_no rfl ?_ | refine ed_und rfl ?_ | refine ed_yesH rfl (by assumption) ?_ | refine ed_noH rfl (by assumption) ?_)
      | refine ed_same rfl ?_ | refine ed_one rfl rfl rfl rfl ?_ | refine ed_write rfl rfl ?_
      | (refine g_code ?_; first
        | refine ec_seq ?_ | refine ec_region ?_ | refine ec_draw ?_ | refine ec_block ?_ | refine ec_skip ?_ | refine ec_exit ?_ | refine ec_ret ?_
        | refine ec_condT rfl ?_ | refine ec_condF rfl ?_ | refine ec_condTH rfl (by assumption) ?_ | refine ec_condFH rfl (by assumption) ?_)
      | refine ek_seqN ?_ | refine ek_seqX ?_ | refine ek_seqR ?_ | refine ek_blkN ?_ | refine ek_blkR ?_ | refine ek_blkX ?_ | refine ek_blkY rfl ?_)
    exact rnd_out (by rfl) (by simp) (scmp (by rfl) (by rfl) (by exact ⟨rfl, rfl, rfl⟩) (by rfl) (by rfl) (by rfl))
  · have h7 : decide ((n : Int) < (n : Nat)) = false := decide_eq_false (by omega)
    unfold m69_1
    repeat' (first
      | (refine g_op ?_; first
        | refine ep_mov rfl ?_ | refine ep_load1 rfl rfl rfl rfl ?_ | refine ep_fieldAddr rfl ?_ | refine sp_loadN rfl rfl rfl rfl rfl ?_
        | refine ep_bin rfl rfl (by first | exact b_add (by omega) (by omega) | exact b_sub (by omega) (by omega) | exact b_and (by omega) (by omega) | exact b_or (by omega) (by omega) | exact b_shr (by omega) | exact b_shl (by omega) (by omega) | rfl) ?_
        | refine ep_pickT rfl rfl ?_ | refine ep_pickF rfl rfl ?_ | refine ep_pickTH rfl (by assumption) rfl ?_ | refine ep_pickFH rfl (by assumption) rfl ?_
        | refine ep_extract rfl rfl ?_ | refine sp_store rfl rfl rfl rfl rfl rfl rfl rfl rfl rfl ?_ | refine ep_conv rfl (by first | exact w_u64 (by omega) (by omega) | exact wrap_id (by omega) (by omega) | rfl) ?_
        | refine ep_not rfl ?_ | refine ep_lenS rfl ?_ | refine ep_lenN rfl ?_ | refine ep_lenE rfl ?_
        | refine sp_box rfl rfl rfl rfl rfl ?_ | refine sp_alloc rfl rfl ?_ | refine sp_build rfl rfl ?_ | refine sp_bslice rfl rfl rfl rfl rfl ?_ | refine ep_empt ?_
        | refine ep_field1 rfl rfl ?_ | refine sp_fieldN rfl rfl rfl ?_ | refine ep_mkfn rfl ?_ | refine ep_nilckP rfl ?_ | refine ep_nilckF rfl ?_
        | refine ep_eqb0 rfl rfl ?_ | refine ep_eqb1 rfl rfl ?_ | refine ep_eqa0 rfl rfl ?_ | refine ep_eqa1 rfl rfl ?_)
      | (refine g_ops ?_; first | refine eo_none ?_ | refine eo_nil ?_ | refine eo_yes rfl ?_ | refine eo_no rfl ?_ | refine eo_und rfl ?_ | refine eo_yesH rfl (by assumption) ?_ | refine eo_noH rfl (by assumption) ?_)
      | (refine g_dops ?_; first | refine ed_none ?_ | refine ed_nil ?_ | refine ed_yes rfl ?_ | refine ed_no rfl ?_ | refine ed_und rfl ?_ | refine ed_yesH rfl (by assumption) ?_ | refine ed_noH rfl (by assumption) ?_)
      | refine ed_same rfl ?_ | refine ed_one rfl rfl rfl rfl ?_ | refine ed_write rfl rfl ?_
      | (refine g_code ?_; first
        | refine ec_seq ?_ | refine ec_region ?_ | refine ec_draw ?_ | refine ec_block ?_ | refine ec_skip ?_ | refine ec_exit ?_ | refine ec_ret ?_
        | refine ec_condT rfl ?_ | refine ec_condF rfl ?_ | refine ec_condTH rfl (by assumption) ?_ | refine ec_condFH rfl (by assumption) ?_)
      | refine ek_seqN ?_ | refine ek_seqX ?_ | refine ek_seqR ?_ | refine ek_blkN ?_ | refine ek_blkR ?_ | refine ek_blkX ?_ | refine ek_blkY rfl ?_)
    exact rnd_out (by rfl) (by simp) (scmp (by rfl) (by rfl) (by exact ⟨rfl, rfl, rfl⟩) (by rfl) (by rfl) (by rfl))
theorem lp69_0 (n b : Nat) (hn : n ≤ 4) (hb : b < 65536) (o : Out) (ho : (if monoB n b = true then (⟨.exit 0, [], []⟩ : Out) else ⟨.ret, [(2, .bool false)], []⟩) = o) :
    LpS cx 32 0 m69_0 [(1, .ptr 0 0), (3, .int .i64 (0 : Nat))] [⟨[.int .i64 n, .int .i64 b], 1, 0, some 0, true⟩] o.x o.e o.h := by
  obtain ⟨h1, h2, h3, h4⟩ := shN hn
  refine lp_all (R2 n) (fun r => allF (monoP b r) 0 n) (fun r => [(1, .ptr 0 0), (3, .int .i64 (r : Nat))]) (fun _ => [⟨[.int .i64 n, .int .i64 b], 1, 0, some 0, true⟩]) _ _ ?_ ?_ ?_ (R2 n) 0 o (by omega) ho
  · intro r hr hp
    have h7 : decide ((r : Int) < (R2 n : Nat)) = true := decide_eq_true (by omega)
    have lp := lp69_1 n b r hn hb hr _ (if_pos hp)
    unfold m69_0
    repeat' (first
      | refine sc_loop lp rfl rfl ⟨rfl, rfl, rfl⟩ rfl rfl rfl ?_
      | (refine g_op ?_; first
        | refine ep_mov rfl ?_ | refine ep_load1 rfl rfl rfl rfl ?_ | refine ep_fieldAddr rfl ?_ | refine sp_loadN rfl rfl rfl rfl rfl ?_
        | refine ep_call0 rfl (by first | exact ev96 _ hn) rfl rfl ?_
        | refine sp_call rfl rfl rfl rfl (by first | exact ev96 _ hn) ⟨rfl, rfl, rfl, rfl⟩ rfl rfl rfl ?_
        | refine sp_callv rfl rfl rfl rfl rfl rfl (by first | exact ev96 _ hn) ⟨rfl, rfl, rfl, rfl⟩ rfl rfl rfl ?_
        | refine ep_bin rfl rfl (by first | exact b_add (by omega) (by omega) | exact b_sub (by omega) (by omega) | exact b_and (by omega) (by omega) | exact b_or (by omega) (by omega) | exact b_shr (by omega) | exact b_shl (by omega) (by omega) | rfl) ?_
        | refine ep_pickT rfl rfl ?_ | refine ep_pickF rfl rfl ?_ | refine ep_pickTH rfl (by assumption) rfl ?_ | refine ep_pickFH rfl (by assumption) rfl ?_
        | refine ep_extract rfl rfl ?_ | refine sp_store rfl rfl rfl rfl rfl rfl rfl rfl rfl rfl ?_ | refine ep_conv rfl (by first | exact w_u64 (by omega) (by omega) | exact wrap_id (by omega) (by omega) | rfl) ?_
        | refine ep_not rfl ?_ | refine ep_lenS rfl ?_ | refine ep_lenN rfl ?_ | refine ep_lenE rfl ?_
        | refine sp_box rfl rfl rfl rfl rfl ?_ | refine sp_alloc rfl rfl ?_ | refine sp_build rfl rfl ?_ | refine sp_bslice rfl rfl rfl rfl rfl ?_ | refine ep_empt ?_
        | refine ep_field1 rfl rfl ?_ | refine sp_fieldN rfl rfl rfl ?_ | refine ep_mkfn rfl ?_ | refine ep_nilckP rfl ?_ | refine ep_nilckF rfl ?_
        | refine ep_eqb0 rfl rfl ?_ | refine ep_eqb1 rfl rfl ?_ | refine ep_eqa0 rfl rfl ?_ | refine ep_eqa1 rfl rfl ?_)
      | (refine g_ops ?_; first | refine eo_none ?_ | refine eo_nil ?_ | refine eo_yes rfl ?_ | refine eo_no rfl ?_ | refine eo_und rfl ?_ | refine eo_yesH rfl (by assumption) ?_ | refine eo_noH rfl (by assumption) ?_)
      | (refine g_dops ?_; first | refine ed_none ?_ | refine ed_nil ?_ | refine ed_yes rfl ?_ | refine ed_no rfl ?_ | refine ed_und rfl ?_ | refine ed_yesH rfl (by assumption) ?_ | refine ed_noH rfl (by assumption) ?_)
      | refine ed_same rfl ?_ | refine ed_one rfl rfl rfl rfl ?_ | refine ed_write rfl rfl ?_
      | (refine g_code ?_; first
        | refine ec_seq ?_ | refine ec_region ?_ | refine ec_draw ?_ | refine ec_block ?_ | refine ec_skip ?_ | refine ec_exit ?_ | refine ec_ret ?_
        | refine ec_condT rfl ?_ | refine ec_condF rfl ?_ | refine ec_condTH rfl (by assumption) ?_ | refine ec_condFH rfl (by assumption) ?_)
      | refine ek_seqN ?_ | refine ek_seqX ?_ | refine ek_seqR ?_ | refine ek_blkN ?_ | refine ek_blkR ?_ | refine ek_blkX ?_ | refine ek_blkY rfl ?_)
    exact rnd_on (by rfl) (scmp (by rfl) (by rfl) (by exact ⟨rfl, rfl, rfl⟩) (by rfl) (by rfl) (by rfl))
  · intro r hr hp
    have h7 : decide ((r : Int) < (R2 n : Nat)) = true := decide_eq_true (by omega)
    have lp := lp69_1 n b r hn hb hr _ (if_neg (by rw [hp]; simp))
    unfold m69_0
    repeat' (first
      | refine sc_loop lp rfl rfl ⟨rfl, rfl, rfl⟩ rfl rfl rfl ?_
      | (refine g_op ?_; first
        | refine ep_mov rfl ?_ | refine ep_load1 rfl rfl rfl rfl ?_ | refine ep_fieldAddr rfl ?_ | refine sp_loadN rfl rfl rfl rfl rfl ?_
        | refine ep_call0 rfl (by first | exact ev96 _ hn) rfl rfl ?_
        | refine sp_call rfl rfl rfl rfl (by first | exact ev96 _ hn) ⟨rfl, rfl, rfl, rfl⟩ rfl rfl rfl ?_
        | refine sp_callv rfl rfl rfl rfl rfl rfl (by first | exact ev96 _ hn) ⟨rfl, rfl, rfl, rfl⟩ rfl rfl rfl ?_
        | refine ep_bin rfl rfl (by first | exact b_add (by omega) (by omega) | exact b_sub (by omega) (by omega) | exact b_and (by omega) (by omega) | exact b_or (by omega) (by omega) | exact b_shr (by omega) | exact b_shl (by omega) (by omega) | rfl) ?_
        | refine ep_pickT rfl rfl ?_ | refine ep_pickF rfl rfl ?_ | refine ep_pickTH rfl (by assumption) rfl ?_ | refine ep_pickFH rfl (by assumption) rfl ?_
        | refine ep_extract rfl rfl ?_ | refine sp_store rfl rfl rfl rfl rfl rfl rfl rfl rfl rfl ?_ | refine ep_conv rfl (by first | exact w_u64 (by omega) (by omega) | exact wrap_id (by omega) (by omega) | rfl) ?_
        | refine ep_not rfl ?_ | refine ep_lenS rfl ?_ | refine ep_lenN rfl ?_ | refine ep_lenE rfl ?_
        | refine sp_box rfl rfl rfl rfl rfl ?_ | refine sp_alloc rfl rfl ?_ | refine sp_build rfl rfl ?_ | refine sp_bslice rfl rfl rfl rfl rfl ?_ | refine ep_empt ?_
        | refine ep_field1 rfl rfl ?_ | refine sp_fieldN rfl rfl rfl ?_ | refine ep_mkfn rfl ?_ | refine ep_nilckP rfl ?_ | refine ep_nilckF rfl ?_
        | refine ep_eqb0 rfl rfl ?_ | refine ep_eqb1 rfl rfl ?_ | refine ep_eqa0 rfl rfl ?_ | refine ep_eqa1 rfl rfl ?_)
      | (refine g_ops ?_; first | refine eo_none ?_ | refine eo_nil ?_ | refine eo_yes rfl ?_ | refine eo_no rfl ?_ | refine eo_und rfl ?_ | refine eo_yesH rfl (by assumption) ?_ | refine eo_noH rfl (by assumption) ?_)
      | (refine g_dops ?_; first | refine ed_none ?_ | refine ed_nil ?_ | refine ed_yes rfl ?_ | refine ed_no rfl ?_ | refine ed_und rfl ?_ | refine ed_yesH rfl (by assumption) ?_ | refine ed_noH rfl (by assumption) ?_)
      | refine ed_same rfl ?_ | refine ed_one rfl rfl rfl rfl ?_ | refine ed_write rfl rfl ?_
      | (refine g_code ?_; first
        | refine ec_seq ?_ | refine ec_region ?_ | refine ec_draw ?_ | refine ec_block ?_ | refine ec_skip ?_ | refine ec_exit ?_ | refine ec_ret ?_
        | refine ec_condT rfl ?_ | refine ec_condF rfl ?_ | refine ec_condTH rfl (by assumption) ?_ | refine ec_condFH rfl (by assumption) ?_)
      | refine ek_seqN ?_ | refine ek_seqX ?_ | refine ek_seqR ?_ | refine ek_blkN ?_ | refine ek_blkR ?_ | refine ek_blkX ?_ | refine ek_blkY rfl ?_)
    exact rnd_out (by rfl) (by simp) (scmp (by rfl) (by rfl) (by exact ⟨rfl, rfl, rfl⟩) (by rfl) (by rfl) (by rfl))
  · have h7 : decide (((R2 n : Nat) : Int) < (R2 n : Nat)) = false := decide_eq_false (by omega)
    unfold m69_0
    repeat' (first
      | (refine g_op ?_; first
        | refine ep_mov rfl ?_ | refine ep_load1 rfl rfl rfl rfl ?_ | refine ep_fieldAddr rfl ?_ | refine sp_loadN rfl rfl rfl rfl rfl ?_
        | refine ep_call0 rfl (by first | exact ev96 _ hn) rfl rfl ?_
        | refine sp_call rfl rfl rfl rfl (by first | exact ev96 _ hn) ⟨rfl, rfl, rfl, rfl⟩ rfl rfl rfl ?_
        | refine sp_callv rfl rfl rfl rfl rfl rfl (by first | exact ev96 _ hn) ⟨rfl, rfl, rfl, rfl⟩ rfl rfl rfl ?_
        | refine ep_bin rfl rfl (by first | exact b_add (by omega) (by omega) | exact b_sub (by omega) (by omega) | exact b_and (by omega) (by omega) | exact b_or (by omega) (by omega) | exact b_shr (by omega) | exact b_shl (by omega) (by omega) | rfl) ?_
        | refine ep_pickT rfl rfl ?_ | refine ep_pickF rfl rfl ?_ | refine ep_pickTH rfl (by assumption) rfl ?_ | refine ep_pickFH rfl (by assumption) rfl ?_
        | refine ep_extract rfl rfl ?_ | refine sp_store rfl rfl rfl rfl rfl rfl rfl rfl rfl rfl ?_ | refine ep_conv rfl (by first | exact w_u64 (by omega) (by omega) | exact wrap_id (by omega) (by omega) | rfl) ?_
        | refine ep_not rfl ?_ | refine ep_lenS rfl ?_ | refine ep_lenN rfl ?_ | refine ep_lenE rfl ?_
        | refine sp_box rfl rfl rfl rfl rfl ?_ | refine sp_alloc rfl rfl ?_ | refine sp_build rfl rfl ?_ | refine sp_bslice rfl rfl rfl rfl rfl ?_ | refine ep_empt ?_
        | refine ep_field1 rfl rfl ?_ | refine sp_fieldN rfl rfl rfl ?_ | refine ep_mkfn rfl ?_ | refine ep_nilckP rfl ?_ | refine ep_nilckF rfl ?_
        | refine ep_eqb0 rfl rfl ?_ | refine ep_eqb1 rfl rfl ?_ | refine ep_eqa0 rfl rfl ?_ | refine ep_eqa1 rfl rfl ?_)
      | (refine g_ops ?_; first | refine eo_none ?_ | refine eo_nil ?_ | refine eo_yes rfl ?_ | refine eo_no rfl ?_ | refine eo_und rfl ?_ | refine eo_yesH rfl (by assumption) ?_ | refine eo_noH rfl (by assumption) ?_)
      | (refine g_dops ?_; first | refine ed_none ?_ | refine ed_nil ?_ | refine ed_yes rfl ?_ | refine ed_no rfl ?_ | refine ed_und rfl ?_ | refine ed_yesH rfl (by assumption) ?_ | refine ed_noH rfl (by assumption) ?_)
      | refine ed_same rfl ?_ | refine ed_one rfl rfl rfl rfl ?_ | refine ed_write rfl rfl ?_
      | (refine g_code ?_; first
        | refine ec_seq ?_ | refine ec_region ?_ | refine ec_draw ?_ | refine ec_block ?_ | refine ec_skip ?_ | refine ec_exit ?_ | refine ec_ret ?_
        | refine ec_condT rfl ?_ | refine ec_condF rfl ?_ | refine ec_condTH rfl (by assumption) ?_ | refine ec_condFH rfl (by assumption) ?_)
      | refine ek_seqN ?_ | refine ek_seqX ?_ | refine ek_seqR ?_ | refine ek_blkN ?_ | refine ek_blkR ?_ | refine ek_blkX ?_ | refine ek_blkY rfl ?_)
    exact rnd_out (by rfl) (by simp) (scmp (by rfl) (by rfl) (by exact ⟨rfl, rfl, rfl⟩) (by rfl) (by rfl) (by rfl))
theorem ev69 (n b : Nat) (hn : n ≤ 4) (hb : b < 65536) : Ev cx 69 [.agg [.int .i64 n, .int .i64 b]] [] (.bool (monoB n b)) [] := by
  cases h : monoB n b
  · have lp := lp69_0 n b hn hb _ (if_neg (by rw [h]; simp))
    refine has69.eev rfl rfl ?_
    unfold m69
    repeat' (first
      | refine sc_loop lp rfl rfl ⟨rfl, rfl, rfl⟩ rfl rfl rfl ?_
      | (refine g_op ?_; first
        | refine ep_mov rfl ?_ | refine ep_load1 rfl rfl rfl rfl ?_ | refine ep_fieldAddr rfl ?_ | refine sp_loadN rfl rfl rfl rfl rfl ?_
        | refine ep_bin rfl rfl (by first | exact b_add (by omega) (by omega) | exact b_sub (by omega) (by omega) | exact b_and (by omega) (by omega) | exact b_or (by omega) (by omega) | exact b_shr (by omega) | exact b_shl (by omega) (by omega) | rfl) ?_
        | refine ep_pickT rfl rfl ?_ | refine ep_pickF rfl rfl ?_ | refine ep_pickTH rfl (by assumption) rfl ?_ | refine ep_pickFH rfl (by assumption) rfl ?_
        | refine ep_extract rfl rfl ?_ | refine sp_store rfl rfl rfl rfl rfl rfl rfl rfl rfl rfl ?_ | refine ep_conv rfl (by first | exact w_u64 (by omega) (by omega) | exact wrap_id (by omega) (by omega) | rfl) ?_
        | refine ep_not rfl ?_ | refine ep_lenS rfl ?_ | refine ep_lenN rfl ?_ | refine ep_lenE rfl ?_
        | refine sp_box rfl rfl rfl rfl rfl ?_ | refine sp_alloc rfl rfl ?_ | refine sp_build rfl rfl ?_ | refine sp_bslice rfl rfl rfl rfl rfl ?_ | refine ep_empt ?_
        | refine ep_field1 rfl rfl ?_ | refine sp_fieldN rfl rfl rfl ?_ | refine ep_mkfn rfl ?_ | refine ep_nilckP rfl ?_ | refine ep_nilckF rfl ?_
        | refine ep_eqb0 rfl rfl ?_ | refine ep_eqb1 rfl rfl ?_ | refine ep_eqa0 rfl rfl ?_ | refine ep_eqa1 rfl rfl ?_)
      | (refine g_ops ?_; first | refine eo_none ?_ | refine eo_nil ?_ | refine eo_yes rfl ?_ | refine eo_no rfl ?_ | refine eo_und rfl ?_ | refine eo_yesH rfl (by assumption) ?_ | refine eo_noH rfl (by assumption) ?_)
      | (refine g_dops ?_; first | refine ed_none ?_ | refine ed_nil ?_ | refine ed_yes rfl ?_ | refine ed_no rfl ?_ | refine ed_und rfl ?_ | refine ed_yesH rfl (by assumption) ?_ | refine ed_noH rfl (by assumption) ?_)
      | refine ed_same rfl ?_ | refine ed_one rfl rfl rfl rfl ?_ | refine ed_write rfl rfl ?_
      | (refine g_code ?_; first
        | refine ec_seq ?_ | refine ec_region ?_ | refine ec_draw ?_ | refine ec_block ?_ | refine ec_skip ?_ | refine ec_exit ?_ | refine ec_ret ?_
        | refine ec_condT rfl ?_ | refine ec_condF rfl ?_ | refine ec_condTH rfl (by assumption) ?_ | refine ec_condFH rfl (by assumption) ?_)
      | refine ek_seqN ?_ | refine ek_seqX ?_ | refine ek_seqR ?_ | refine ek_blkN ?_ | refine ek_blkR ?_ | refine ek_blkX ?_ | refine ek_blkY rfl ?_)
    refine sfin (.inr rfl) (by rfl) (by rfl) (by exact ⟨rfl, rfl, rfl⟩) (by rfl) (by rfl) (by rfl) (by rfl)
  · have lp := lp69_0 n b hn hb _ (if_pos h)
    refine has69.eev rfl rfl ?_
    unfold m69
    repeat' (first
      | refine sc_loop lp rfl rfl ⟨rfl, rfl, rfl⟩ rfl rfl rfl ?_
      | (refine g_op ?_; first
        | refine ep_mov rfl ?_ | refine ep_load1 rfl rfl rfl rfl ?_ | refine ep_fieldAddr rfl ?_ | refine sp_loadN rfl rfl rfl rfl rfl ?_
        | refine ep_bin rfl rfl (by first | exact b_add (by omega) (by omega) | exact b_sub (by omega) (by omega) | exact b_and (by omega) (by omega) | exact b_or (by omega) (by omega) | exact b_shr (by omega) | exact b_shl (by omega) (by omega) | rfl) ?_
        | refine ep_pickT rfl rfl ?_ | refine ep_pickF rfl rfl ?_ | refine ep_pickTH rfl (by assumption) rfl ?_ | refine ep_pickFH rfl (by assumption) rfl ?_
        | refine ep_extract rfl rfl ?_ | refine sp_store rfl rfl rfl rfl rfl rfl rfl rfl rfl rfl ?_ | refine ep_conv rfl (by first | exact w_u64 (by omega) (by omega) | exact wrap_id (by omega) (by omega) | rfl) ?_
        | refine ep_not rfl ?_ | refine ep_lenS rfl ?_ | refine ep_lenN rfl ?_ | refine ep_lenE rfl ?_
        | refine sp_box rfl rfl rfl rfl rfl ?_ | refine sp_alloc rfl rfl ?_ | refine sp_build rfl rfl ?_ | refine sp_bslice rfl rfl rfl rfl rfl ?_ | refine ep_empt ?_
        | refine ep_field1 rfl rfl ?_ | refine sp_fieldN rfl rfl rfl ?_ | refine ep_mkfn rfl ?_ | refine ep_nilckP rfl ?_ | refine ep_nilckF rfl ?_
        | refine ep_eqb0 rfl rfl ?_ | refine ep_eqb1 rfl rfl ?_ | refine ep_eqa0 rfl rfl ?_ | refine ep_eqa1 rfl rfl ?_)
      | (refine g_ops ?_; first | refine eo_none ?_ | refine eo_nil ?_ | refine eo_yes rfl ?_ | refine eo_no rfl ?_ | refine eo_und rfl ?_ | refine eo_yesH rfl (by assumption) ?_ | refine eo_noH rfl (by assumption) ?_)
      | (refine g_dops ?_; first | refine ed_none ?_ | refine ed_nil ?_ | refine ed_yes rfl ?_ | refine ed_no rfl ?_ | refine ed_und rfl ?_ | refine ed_yesH rfl (by assumption) ?_ | refine ed_noH rfl (by assumption) ?_)
      | refine ed_same rfl ?_ | refine ed_one rfl rfl rfl rfl ?_ | refine ed_write rfl rfl ?_
      | (refine g_code ?_; first
        | refine ec_seq ?_ | refine ec_region ?_ | refine ec_draw ?_ | refine ec_block ?_ | refine ec_skip ?_ | refine ec_exit ?_ | refine ec_ret ?_
        | refine ec_condT rfl ?_ | refine ec_condF rfl ?_ | refine ec_condTH rfl (by assumption) ?_ | refine ec_condFH rfl (by assumption) ?_)
      | refine ek_seqN ?_ | refine ek_seqX ?_ | refine ek_seqR ?_ | refine ek_blkN ?_ | refine ek_blkR ?_ | refine ek_blkX ?_ | refine ek_blkY rfl ?_)
    refine sfin (.inr rfl) (by rfl) (by rfl) (by exact ⟨rfl, rfl, rfl⟩) (by rfl) (by rfl) (by rfl) (by rfl)
def monoR (p t : Int) : Bool × Int := if isFn p t = true then (monoB p.toNat t.toNat, 0) else (false, 1)
-- loop.example/g01323/impl.IsMonotone
def m23 : MC := (.seq (.region [⟨(.box (.t 0)), (some 1), none⟩, ⟨(.mov (.k (.bool false))), (some 2), none⟩, ⟨(.mov (.k (.int .i64 0))), (some 3), none⟩] false) (.seq (.seq (.region [⟨(.load (some 2) (.t 1)), (some 4), none⟩, ⟨(.call 70 [(.t 4)]), (some 5), none⟩, ⟨(.un .not (.t 5)), (some 6), none⟩] false) (.cond (.t 6) (.seq (.region [⟨(.mov (.k (.bool false))), (some 2), none⟩, ⟨(.mov (.k (.int .i64 1))), (some 3), none⟩] false) .ret) .skip)) (.seq (.region [⟨(.load (some 2) (.t 1)), (some 7), none⟩, ⟨(.call 71 [(.t 7)]), (some 8), none⟩, ⟨(.mov (.t 8)), (some 2), none⟩, ⟨(.mov (.k (.int .i64 0))), (some 3), none⟩] false) .ret)))
theorem has23 : Has cx 23 9 m23 [(.tmp 2), (.tmp 3)] :=
  ⟨⟨Try.f23, Try.f23.body.getD .skip, by kernel_rfl, by kernel_rfl, by kernel_rfl, by kernel_rfl, by kernel_rfl, by kernel_rfl⟩⟩
theorem ev23 (p t : Int) : Ev cx 23 [.agg [.int .i64 p, .int .i64 t]] [] (.tup [.bool (monoR p t).1, .int .i64 (monoR p t).2]) [] := by
  have e1 := ev70 p t
  cases h1 : isFn p t
  · rw [h1] at e1
    refine has23.eev rfl rfl ?_
    unfold m23
    repeat' (first
      | (refine g_op ?_; first
        | refine ep_mov rfl ?_ | refine ep_load1 rfl rfl rfl rfl ?_ | refine ep_fieldAddr rfl ?_ | refine sp_loadN rfl rfl rfl rfl rfl ?_
        | refine ep_call0 rfl (by first | exact e1) rfl rfl ?_
        | refine sp_call rfl rfl rfl rfl (by first | exact e1) ⟨rfl, rfl, rfl, rfl⟩ rfl rfl rfl ?_
        | refine sp_callv rfl rfl rfl rfl rfl rfl (by first | exact e1) ⟨rfl, rfl, rfl, rfl⟩ rfl rfl rfl ?_
        | refine ep_bin rfl rfl (by first | exact b_add (by omega) (by omega) | exact b_sub (by omega) (by omega) | exact b_and (by omega) (by omega) | exact b_or (by omega) (by omega) | exact b_shr (by omega) | exact b_shl (by omega) (by omega) | rfl) ?_
        | refine ep_pickT rfl rfl ?_ | refine ep_pickF rfl rfl ?_ | refine ep_pickTH rfl (by assumption) rfl ?_ | refine ep_pickFH rfl (by assumption) rfl ?_
        | refine ep_extract rfl rfl ?_ | refine sp_store rfl rfl rfl rfl rfl rfl rfl rfl rfl rfl ?_ | refine ep_conv rfl (by first | exact w_u64 (by omega) (by omega) | exact wrap_id (by omega) (by omega) | rfl) ?_
        | refine ep_not rfl ?_ | refine ep_lenS rfl ?_ | refine ep_lenN rfl ?_ | refine ep_lenE rfl ?_
        | refine sp_box rfl rfl rfl rfl rfl ?_ | refine sp_alloc rfl rfl ?_ | refine sp_build rfl rfl ?_ | refine sp_bslice rfl rfl rfl rfl rfl ?_ | refine ep_empt ?_
        | refine ep_field1 rfl rfl ?_ | refine sp_fieldN rfl rfl rfl ?_ | refine ep_mkfn rfl ?_ | refine ep_nilckP rfl ?_ | refine ep_nilckF rfl ?_
        | refine ep_eqb0 rfl rfl ?_ | refine ep_eqb1 rfl rfl ?_ | refine ep_eqa0 rfl rfl ?_ | refine ep_eqa1 rfl rfl ?_)
      | (refine g_ops ?_; first | refine eo_none ?_ | refine eo_nil ?_ | refine eo_yes rfl ?_ | refine eo_no rfl ?_ | refine eo_und rfl ?_ | refine eo_yesH rfl (by assumption) ?_ | refine eo_noH rfl (by assumption) ?_)
      | (refine g_dops ?_; first | refine ed_none ?_ | refine ed_nil ?_ | refine ed_yes rfl ?_ | refine ed_no rfl ?_ | refine ed_und rfl ?_ | refine ed_yesH rfl (by assumption) ?_ | refine ed_noH rfl (by assumption) ?_)
      | refine ed_same rfl ?_ | refine ed_one rfl rfl rfl rfl ?_ | refine ed_write rfl rfl ?_
      | (refine g_code ?_; first
        | refine ec_seq ?_ | refine ec_region ?_ | refine ec_draw ?_ | refine ec_block ?_ | refine ec_skip ?_ | refine ec_exit ?_ | refine ec_ret ?_
        | refine ec_condT rfl ?_ | refine ec_condF rfl ?_ | refine ec_condTH rfl (by assumption) ?_ | refine ec_condFH rfl (by assumption) ?_)
      | refine ek_seqN ?_ | refine ek_seqX ?_ | refine ek_seqR ?_ | refine ek_blkN ?_ | refine ek_blkR ?_ | refine ek_blkX ?_ | refine ek_blkY rfl ?_)
    refine sfin (.inr rfl) (by rfl) (by rfl) (by exact ⟨rfl, rfl, rfl⟩) (by rfl) (by rfl) (by rw [monoR, if_neg (by rw [h1]; simp)]; try rfl) (by rfl)
  · rw [h1] at e1
    obtain ⟨n, b, rfl, rfl, h2, h3, h4⟩ := isFn_nat h1
    refine has23.eev rfl rfl ?_
    unfold m23
    repeat' (first
      | (refine g_op ?_; first
        | refine ep_mov rfl ?_ | refine ep_load1 rfl rfl rfl rfl ?_ | refine ep_fieldAddr rfl ?_ | refine sp_loadN rfl rfl rfl rfl rfl ?_
        | refine ep_call0 rfl (by first | exact e1 | exact ev71 _ _ h2 h4) rfl rfl ?_
        | refine sp_call rfl rfl rfl rfl (by first | exact e1 | exact ev71 _ _ h2 h4) ⟨rfl, rfl, rfl, rfl⟩ rfl rfl rfl ?_
        | refine sp_callv rfl rfl rfl rfl rfl rfl (by first | exact e1 | exact ev71 _ _ h2 h4) ⟨rfl, rfl, rfl, rfl⟩ rfl rfl rfl ?_
        | refine ep_bin rfl rfl (by first | exact b_add (by omega) (by omega) | exact b_sub (by omega) (by omega) | exact b_and (by omega) (by omega) | exact b_or (by omega) (by omega) | exact b_shr (by omega) | exact b_shl (by omega) (by omega) | rfl) ?_
        | refine ep_pickT rfl rfl ?_ | refine ep_pickF rfl rfl ?_ | refine ep_pickTH rfl (by assumption) rfl ?_ | refine ep_pickFH rfl (by assumption) rfl ?_
        | refine ep_extract rfl rfl ?_ | refine sp_store rfl rfl rfl rfl rfl rfl rfl rfl rfl rfl ?_ | refine ep_conv rfl (by first | exact w_u64 (by omega) (by omega) | exact wrap_id (by omega) (by omega) | rfl) ?_
        | refine ep_not rfl ?_ | refine ep_lenS rfl ?_ | refine ep_lenN rfl ?_ | refine ep_lenE rfl ?_
        | refine sp_box rfl rfl rfl rfl rfl ?_ | refine sp_alloc rfl rfl ?_ | refine sp_build rfl rfl ?_ | refine sp_bslice rfl rfl rfl rfl rfl ?_ | refine ep_empt ?_
        | refine ep_field1 rfl rfl ?_ | refine sp_fieldN rfl rfl rfl ?_ | refine ep_mkfn rfl ?_ | refine ep_nilckP rfl ?_ | refine ep_nilckF rfl ?_
        | refine ep_eqb0 rfl rfl ?_ | refine ep_eqb1 rfl rfl ?_ | refine ep_eqa0 rfl rfl ?_ | refine ep_eqa1 rfl rfl ?_)
      | (refine g_ops ?_; first | refine eo_none ?_ | refine eo_nil ?_ | refine eo_yes rfl ?_ | refine eo_no rfl ?_ | refine eo_und rfl ?_ | refine eo_yesH rfl (by assumption) ?_ | refine eo_noH rfl (by assumption) ?_)
      | (refine g_dops ?_; first | refine ed_none ?_ | refine ed_nil ?_ | refine ed_yes rfl ?_ | refine ed_no rfl ?_ | refine ed_und rfl ?_ | refine ed_yesH rfl (by assumption) ?_ | refine ed_noH rfl (by assumption) ?_)
      | refine ed_same rfl ?_ | refine ed_one rfl rfl rfl rfl ?_ | refine ed_write rfl rfl ?_
      | (refine g_code ?_; first
        | refine ec_seq ?_ | refine ec_region ?_ | refine ec_draw ?_ | refine ec_block ?_ | refine ec_skip ?_ | refine ec_exit ?_ | refine ec_ret ?_
        | refine ec_condT rfl ?_ | refine ec_condF rfl ?_ | refine ec_condTH rfl (by assumption) ?_ | refine ec_condFH rfl (by assumption) ?_)
      | refine ek_seqN ?_ | refine ek_seqX ?_ | refine ek_seqR ?_ | refine ek_blkN ?_ | refine ek_blkR ?_ | refine ek_blkX ?_ | refine ek_blkY rfl ?_)
    refine sfin (.inr rfl) (by rfl) (by rfl) (by exact ⟨rfl, rfl, rfl⟩) (by rfl) (by rfl) (by rw [monoR, if_pos h1]; try rfl) (by rfl)
-- loop.example/g01323/spec.IsMonotone
def m21 : MC := (.seq (.region [⟨(.box (.t 0)), (some 1), none⟩, ⟨(.mov (.k (.bool false))), (some 2), none⟩, ⟨(.mov (.k (.int .i64 0))), (some 3), none⟩] false) (.seq (.seq (.region [⟨(.load (some 2) (.t 1)), (some 4), none⟩, ⟨(.call 68 [(.t 4)]), (some 5), none⟩, ⟨(.un .not (.t 5)), (some 6), none⟩] false) (.cond (.t 6) (.seq (.region [⟨(.mov (.k (.bool false))), (some 2), none⟩, ⟨(.mov (.k (.int .i64 1))), (some 3), none⟩] false) .ret) .skip)) (.seq (.region [⟨(.load (some 2) (.t 1)), (some 7), none⟩, ⟨(.call 69 [(.t 7)]), (some 8), none⟩, ⟨(.mov (.t 8)), (some 2), none⟩, ⟨(.mov (.k (.int .i64 0))), (some 3), none⟩] false) .ret)))
theorem has21 : Has cx 21 9 m21 [(.tmp 2), (.tmp 3)] :=
  ⟨⟨Try.f21, Try.f21.body.getD .skip, by kernel_rfl, by kernel_rfl, by kernel_rfl, by kernel_rfl, by kernel_rfl, by kernel_rfl⟩⟩
theorem ev21 (p t : Int) : Ev cx 21 [.agg [.int .i64 p, .int .i64 t]] [] (.tup [.bool (monoR p t).1, .int .i64 (monoR p t).2]) [] := by
  have e1 := ev68 p t
  cases h1 : isFn p t
  · rw [h1] at e1
    refine has21.eev rfl rfl ?_
    unfold m21
    repeat' (first
      | (refine g_op ?_; first
        | refine ep_mov rfl ?_ | refine ep_load1 rfl rfl rfl rfl ?_ | refine ep_fieldAddr rfl ?_ | refine sp_loadN rfl rfl rfl rfl rfl ?_
        | refine ep_call0 rfl (by first | exact e1) rfl rfl ?_
        | refine sp_call rfl rfl rfl rfl (by first | exact e1) ⟨rfl, rfl, rfl, rfl⟩ rfl rfl rfl ?_
        | refine sp_callv rfl rfl rfl rfl rfl rfl (by first | exact e1) ⟨rfl, rfl, rfl, rfl⟩ rfl rfl rfl ?_
        | refine ep_bin rfl rfl (by first | exact b_add (by omega) (by omega) | exact b_sub (by omega) (by omega) | exact b_and (by omega) (by omega) | exact b_or (by omega) (by omega) | exact b_shr (by omega) | exact b_shl (by omega) (by omega) | rfl) ?_
        | refine ep_pickT rfl rfl ?_ | refine ep_pickF rfl rfl ?_ | refine ep_pickTH rfl (by assumption) rfl ?_ | refine ep_pickFH rfl (by assumption) rfl ?_
        | refine ep_extract rfl rfl ?_ | refine sp_store rfl rfl rfl rfl rfl rfl rfl rfl rfl rfl ?_ | refine ep_conv rfl (by first | exact w_u64 (by omega) (by omega) | exact wrap_id (by omega) (by omega) | rfl) ?_
        | refine ep_not rfl ?_ | refine ep_lenS rfl ?_ | refine ep_lenN rfl ?_ | refine ep_lenE rfl ?_
        | refine sp_box rfl rfl rfl rfl rfl ?_ | refine sp_alloc rfl rfl ?_ | refine sp_build rfl rfl ?_ | refine sp_bslice rfl rfl rfl rfl rfl ?_ | refine ep_empt ?_
        | refine ep_field1 rfl rfl ?_ | refine sp_fieldN rfl rfl rfl ?_ | refine ep_mkfn rfl ?_ | refine ep_nilckP rfl ?_ | refine ep_nilckF rfl ?_
        | refine ep_eqb0 rfl rfl ?_ | refine ep_eqb1 rfl rfl ?_ | refine ep_eqa0 rfl rfl ?_ | refine ep_eqa1 rfl rfl ?_)
      | (refine g_ops ?_; first | refine eo_none ?_ | refine eo_nil ?_ | refine eo_yes rfl ?_ | refine eo_no rfl ?_ | refine eo_und rfl ?_ | refine eo_yesH rfl (by assumption) ?_ | refine eo_noH rfl (by assumption) ?_)
      | (refine g_dops ?_; first | refine ed_none ?_ | refine ed_nil ?_ | refine ed_yes rfl ?_ | refine ed_no rfl ?_ | refine ed_und rfl ?_ | refine ed_yesH rfl (by assumption) ?_ | refine ed_noH rfl (by assumption) ?_)
      | refine ed_same rfl ?_ | refine ed_one rfl rfl rfl rfl ?_ | refine ed_write rfl rfl ?_
      | (refine g_code ?_; first
        | refine ec_seq ?_ | refine ec_region ?_ | refine ec_draw ?_ | refine ec_block ?_ | refine ec_skip ?_ | refine ec_exit ?_ | refine ec_ret ?_
        | refine ec_condT rfl ?_ | refine ec_condF rfl ?_ | refine ec_condTH rfl (by assumption) ?_ | refine ec_condFH rfl (by assumption) ?_)
      | refine ek_seqN ?_ | refine ek_seqX ?_ | refine ek_seqR ?_ | refine ek_blkN ?_ | refine ek_blkR ?_ | refine ek_blkX ?_ | refine ek_blkY rfl ?_)
    refine sfin (.inr rfl) (by rfl) (by rfl) (by exact ⟨rfl, rfl, rfl⟩) (by rfl) (by rfl) (by rw [monoR, if_neg (by rw [h1]; simp)]; try rfl) (by rfl)
  · rw [h1] at e1
    obtain ⟨n, b, rfl, rfl, h2, h3, h4⟩ := isFn_nat h1
    refine has21.eev rfl rfl ?_
    unfold m21
    repeat' (first
      | (refine g_op ?_; first
        | refine ep_mov rfl ?_ | refine ep_load1 rfl rfl rfl rfl ?_ | refine ep_fieldAddr rfl ?_ | refine sp_loadN rfl rfl rfl rfl rfl ?_
        | refine ep_call0 rfl (by first | exact e1 | exact ev69 _ _ h2 h4) rfl rfl ?_
        | refine sp_call rfl rfl rfl rfl (by first | exact e1 | exact ev69 _ _ h2 h4) ⟨rfl, rfl, rfl, rfl⟩ rfl rfl rfl ?_
        | refine sp_callv rfl rfl rfl rfl rfl rfl (by first | exact e1 | exact ev69 _ _ h2 h4) ⟨rfl, rfl, rfl, rfl⟩ rfl rfl rfl ?_
        | refine ep_bin rfl rfl (by first | exact b_add (by omega) (by omega) | exact b_sub (by omega) (by omega) | exact b_and (by omega) (by omega) | exact b_or (by omega) (by omega) | exact b_shr (by omega) | exact b_shl (by omega) (by omega) | rfl) ?_
        | refine ep_pickT rfl rfl ?_ | refine ep_pickF rfl rfl ?_ | refine ep_pickTH rfl (by assumption) rfl ?_ | refine ep_pickFH rfl (by assumption) rfl ?_
        | refine ep_extract rfl rfl ?_ | refine sp_store rfl rfl rfl rfl rfl rfl rfl rfl rfl rfl ?_ | refine ep_conv rfl (by first | exact w_u64 (by omega) (by omega) | exact wrap_id (by omega) (by omega) | rfl) ?_
        | refine ep_not rfl ?_ | refine ep_lenS rfl ?_ | refine ep_lenN rfl ?_ | refine ep_lenE rfl ?_
        | refine sp_box rfl rfl rfl rfl rfl ?_ | refine sp_alloc rfl rfl ?_ | refine sp_build rfl rfl ?_ | refine sp_bslice rfl rfl rfl rfl rfl ?_ | refine ep_empt ?_
        | refine ep_field1 rfl rfl ?_ | refine sp_fieldN rfl rfl rfl ?_ | refine ep_mkfn rfl ?_ | refine ep_nilckP rfl ?_ | refine ep_nilckF rfl ?_
        | refine ep_eqb0 rfl rfl ?_ | refine ep_eqb1 rfl rfl ?_ | refine ep_eqa0 rfl rfl ?_ | refine ep_eqa1 rfl rfl ?_)
      | (refine g_ops ?_; first | refine eo_none ?_ | refine eo_nil ?_ | refine eo_yes rfl ?_ | refine eo_no rfl ?_ | refine eo_und rfl ?_ | refine eo_yesH rfl (by assumption) ?_ | refine eo_noH rfl (by assumption) ?_)
      | (refine g_dops ?_; first | refine ed_none ?_ | refine ed_nil ?_ | refine ed_yes rfl ?_ | refine ed_no rfl ?_ | refine ed_und rfl ?_ | refine ed_yesH rfl (by assumption) ?_ | refine ed_noH rfl (by assumption) ?_)
      | refine ed_same rfl ?_ | refine ed_one rfl rfl rfl rfl ?_ | refine ed_write rfl rfl ?_
      | (refine g_code ?_; first
        | refine ec_seq ?_ | refine ec_region ?_ | refine ec_draw ?_ | refine ec_block ?_ | refine ec_skip ?_ | refine ec_exit ?_ | refine ec_ret ?_
        | refine ec_condT rfl ?_ | refine ec_condF rfl ?_ | refine ec_condTH rfl (by assumption) ?_ | refine ec_condFH rfl (by assumption) ?_)
      | refine ek_seqN ?_ | refine ek_seqX ?_ | refine ek_seqR ?_ | refine ek_blkN ?_ | refine ek_blkR ?_ | refine ek_blkX ?_ | refine ek_blkY rfl ?_)
    refine sfin (.inr rfl) (by rfl) (by rfl) (by exact ⟨rfl, rfl, rfl⟩) (by rfl) (by rfl) (by rw [monoR, if_pos h1]; try rfl) (by rfl)
-- loop.example/g01323/laws.FnExactIsMonotone
def m5 : MC := (.seq (.region [⟨(.box (.t 0)), (some 1), none⟩, ⟨(.mov (.k (.bool false))), (some 2), none⟩] false) (.seq (.region [⟨(.load (some 2) (.t 1)), (some 8), none⟩, ⟨(.call 22 [(.t 8)]), (some 9), none⟩, ⟨(.call 21 [(.t 9)]), (some 10), none⟩, ⟨(.mov (.t 10)), (some 7), none⟩, ⟨(.extract (.t 7) 0), (some 11), none⟩, ⟨(.extract (.t 7) 1), (some 12), none⟩, ⟨(.mov (.t 11)), (some 3), none⟩, ⟨(.mov (.t 12)), (some 4), none⟩] false) (.seq (.region [⟨(.load (some 2) (.t 1)), (some 14), none⟩, ⟨(.call 22 [(.t 14)]), (some 15), none⟩, ⟨(.call 23 [(.t 15)]), (some 16), none⟩, ⟨(.mov (.t 16)), (some 13), none⟩, ⟨(.extract (.t 13) 0), (some 17), none⟩, ⟨(.extract (.t 13) 1), (some 18), none⟩, ⟨(.mov (.t 17)), (some 5), none⟩, ⟨(.mov (.t 18)), (some 6), none⟩] false) (.seq (.seq (.region [⟨(.mov (.t 5)), (some 19), none⟩, ⟨(.mov (.t 3)), (some 20), none⟩, ⟨(.eqb true (.t 19) (.t 20)), (some 21), none⟩, ⟨(.mov (.t 21)), (some 22), none⟩, ⟨(.mov (.t 6)), (some 23), (some (22, false))⟩, ⟨(.mov (.t 4)), (some 24), (some (22, false))⟩, ⟨(.bin .neq (.t 23) (.t 24)), (some 25), (some (22, false))⟩, ⟨(.pick (.t 22) (.k (.bool true)) (.t 25)), (some 26), none⟩] false) (.cond (.t 26) (.seq (.region [⟨(.mov (.k (.bool false))), (some 2), none⟩] false) .ret) .skip)) (.seq (.region [⟨(.mov (.k (.bool true))), (some 2), none⟩] false) .ret)))))
theorem has5 : Has cx 5 27 m5 [(.tmp 2)] :=
  ⟨⟨Try.f5, Try.f5.body.getD .skip, by kernel_rfl, by kernel_rfl, by kernel_rfl, by kernel_rfl, by kernel_rfl, by kernel_rfl⟩⟩
theorem ev5 (p t : Int) : Ev cx 5 [.agg [.int .i64 p, .int .i64 t]] [] (.bool true) [] := by
  have h1 : ((monoR p t).1 != (monoR p t).1) = false := by simp
  have h2 : ((monoR p t).2 != (monoR p t).2) = false := by simp
  refine has5.eev rfl rfl ?_
  unfold m5
  repeat' (first
    | (refine g_op ?_; first
      | refine ep_mov rfl ?_ | refine ep_load1 rfl rfl rfl rfl ?_ | refine ep_fieldAddr rfl ?_ | refine sp_loadN rfl rfl rfl rfl rfl ?_
      | refine ep_call0 rfl (by first | exact ev21 _ _ | exact ev22 _ _ | exact ev23 _ _) rfl rfl ?_
      | refine sp_call rfl rfl rfl rfl (by first | exact ev21 _ _ | exact ev22 _ _ | exact ev23 _ _) ⟨rfl, rfl, rfl, rfl⟩ rfl rfl rfl ?_
      | refine sp_callv rfl rfl rfl rfl rfl rfl (by first | exact ev21 _ _ | exact ev22 _ _ | exact ev23 _ _) ⟨rfl, rfl, rfl, rfl⟩ rfl rfl rfl ?_
      | refine ep_bin rfl rfl (by first | exact b_add (by omega) (by omega) | exact b_sub (by omega) (by omega) | exact b_and (by omega) (by omega) | exact b_or (by omega) (by omega) | exact b_shr (by omega) | exact b_shl (by omega) (by omega) | rfl) ?_
      | refine ep_pickT rfl rfl ?_ | refine ep_pickF rfl rfl ?_ | refine ep_pickTH rfl (by assumption) rfl ?_ | refine ep_pickFH rfl (by assumption) rfl ?_
      | refine ep_extract rfl rfl ?_ | refine sp_store rfl rfl rfl rfl rfl rfl rfl rfl rfl rfl ?_ | refine ep_conv rfl (by first | exact w_u64 (by omega) (by omega) | exact wrap_id (by omega) (by omega) | rfl) ?_
      | refine ep_not rfl ?_ | refine ep_lenS rfl ?_ | refine ep_lenN rfl ?_ | refine ep_lenE rfl ?_
      | refine sp_box rfl rfl rfl rfl rfl ?_ | refine sp_alloc rfl rfl ?_ | refine sp_build rfl rfl ?_ | refine sp_bslice rfl rfl rfl rfl rfl ?_ | refine ep_empt ?_
      | refine ep_field1 rfl rfl ?_ | refine sp_fieldN rfl rfl rfl ?_ | refine ep_mkfn rfl ?_ | refine ep_nilckP rfl ?_ | refine ep_nilckF rfl ?_
      | refine ep_eqb0 rfl rfl ?_ | refine ep_eqb1 rfl rfl ?_ | refine ep_eqa0 rfl rfl ?_ | refine ep_eqa1 rfl rfl ?_)
    | (refine g_ops ?_; first | refine eo_none ?_ | refine eo_nil ?_ | refine eo_yes rfl ?_ | refine eo_no rfl ?_ | refine eo_und rfl ?_ | refine eo_yesH rfl (by assumption) ?_ | refine eo_noH rfl (by assumption) ?_)
    | (refine g_dops ?_; first | refine ed_none ?_ | refine ed_nil ?_ | refine ed_yes rfl ?_ | refine ed_no rfl ?_ | refine ed_und rfl ?_ | refine ed_yesH rfl (by assumption) ?_ | refine ed_noH rfl (by assumption) ?_)
    | refine ed_same rfl ?_ | refine ed_one rfl rfl rfl rfl ?_ | refine ed_write rfl rfl ?_
    | (refine g_code ?_; first
      | refine ec_seq ?_ | refine ec_region ?_ | refine ec_draw ?_ | refine ec_block ?_ | refine ec_skip ?_ | refine ec_exit ?_ | refine ec_ret ?_
      | refine ec_condT rfl ?_ | refine ec_condF rfl ?_ | refine ec_condTH rfl (by assumption) ?_ | refine ec_condFH rfl (by assumption) ?_)
    | refine ek_seqN ?_ | refine ek_seqX ?_ | refine ek_seqR ?_ | refine ek_blkN ?_ | refine ek_blkR ?_ | refine ek_blkX ?_ | refine ek_blkY rfl ?_)
  refine sfin (.inr rfl) (by rfl) (by rfl) (by exact ⟨rfl, rfl, rfl⟩) (by rfl) (by rfl) (by rfl) (by rfl)

end Go.Proofs.Ytgidgffcnamnaaa
