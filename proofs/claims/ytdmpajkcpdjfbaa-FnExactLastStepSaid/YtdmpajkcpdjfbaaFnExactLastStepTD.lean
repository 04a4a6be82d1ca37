/- What each function that the statement reaches returns. -/
import Derived.Test.YtdmpajkcpdjfbaaFnExactLastStepTC
set_option linter.unusedVariables false
set_option linter.unusedSimpArgs false
set_option maxRecDepth 100000
set_option maxHeartbeats 4000000
namespace Go.Proofs.Ytdmpajkcpdjfbaa
open Go Go.Proofs.Ytdmpajkcpdjfbaa.Mi
attribute [local irreducible] code opsK opsDK gopK opK seqK blockK callK binV
attribute [local irreducible] R2 bt
-- spec.l04Step
def m92_0 : MC := (.seq (.seq (.region [⟨(.mov (.t 10)), (some 27), none⟩, ⟨(.mov (.t 2)), (some 28), none⟩, ⟨(.len (.t 28)), (some 29), none⟩, ⟨(.bin .lss (.t 27) (.t 29)), (some 30), none⟩] false) (.cond (.t 30) .skip (.exit 0))) (.seq (.block 1 (.seq (.seq (.region [⟨(.mov (.t 2)), (some 33), none⟩, ⟨(.mov (.t 10)), (some 34), none⟩, ⟨(.indexAddr 1 (.t 33) (.t 34)), (some 35), none⟩, ⟨(.load none (.t 35)), (some 36), none⟩, ⟨(.bin .lss (.t 36) (.k (.int .i64 0))), (some 37), none⟩, ⟨(.mov (.t 37)), (some 38), none⟩, ⟨(.mov (.t 2)), (some 39), (some (38, false))⟩, ⟨(.mov (.t 10)), (some 40), (some (38, false))⟩, ⟨(.indexAddr 1 (.t 39) (.t 40)), (some 41), (some (38, false))⟩, ⟨(.load none (.t 41)), (some 42), (some (38, false))⟩, ⟨(.mov (.t 2)), (some 43), (some (38, false))⟩, ⟨(.fieldAddr 1 (.t 5)), (some 44), (some (38, false))⟩, ⟨(.load none (.t 44)), (some 45), (some (38, false))⟩, ⟨(.indexAddr 1 (.t 43) (.t 45)), (some 46), (some (38, false))⟩, ⟨(.load none (.t 46)), (some 47), (some (38, false))⟩, ⟨(.bin .geq (.t 42) (.t 47)), (some 48), (some (38, false))⟩, ⟨(.pick (.t 38) (.k (.bool true)) (.t 48)), (some 49), none⟩] true) (.cond (.t 49) (.exit 1) .skip)) (.seq (.regionL [⟨(.load (some 2) (.t 4)), (some 51), none⟩, ⟨(.load (some 2) (.t 5)), (some 52), none⟩, ⟨(.mov (.t 2)), (some 53), none⟩, ⟨(.mov (.t 3)), (some 54), none⟩, ⟨(.call 114 [(.t 54)]), (some 55), none⟩, ⟨(.mov (.t 10)), (some 56), none⟩, ⟨(.bslice 1 [(.int .i64 0)] 1 [(0, (1, (.t 56)))]), (some 57), none⟩, ⟨(.append 1 8 (.t 55) (.t 57)), (some 58), none⟩, ⟨(.callw 92 [(.t 51), (.t 52), (.t 53), (.t 58)]), (some 59), none⟩, ⟨(.mov (.t 59)), (some 50), none⟩, ⟨(.extract (.t 50) 0), (some 60), none⟩, ⟨(.extract (.t 50) 1), (some 61), none⟩, ⟨(.mov (.t 60)), (some 11), none⟩, ⟨(.mov (.t 61)), (some 12), none⟩] [0, 1]) (.seq (.region [⟨(.mov (.t 12)), (some 62), none⟩] false) (.cond (.t 62) (.seq (.region [⟨(.mov (.t 11)), (some 63), none⟩, ⟨(.mov (.t 63)), (some 8), none⟩, ⟨(.mov (.k (.bool true))), (some 9), none⟩] false) .ret) .skip))))) (.region [⟨(.mov (.t 10)), (some 31), none⟩, ⟨(.bin .add (.t 31) (.k (.int .i64 1))), (some 32), none⟩, ⟨(.mov (.t 32)), (some 10), none⟩] false)))
def m92 : MC := (.seq (.region [⟨(.box (.t 0)), (some 4), none⟩, ⟨(.box (.t 1)), (some 5), none⟩, ⟨(.mov (.k .nils)), (some 8), none⟩, ⟨(.mov (.k (.bool false))), (some 9), none⟩] false) (.seq (.seq (.region [⟨(.mov (.t 3)), (some 13), none⟩, ⟨(.len (.t 13)), (some 14), none⟩, ⟨(.fieldAddr 0 (.t 4)), (some 15), none⟩, ⟨(.load none (.t 15)), (some 16), none⟩, ⟨(.bin .eql (.t 14) (.t 16)), (some 17), none⟩] false) (.cond (.t 17) (.seq (.region [⟨(.mov (.t 3)), (some 18), none⟩, ⟨(.load (some 2) (.t 4)), (some 19), none⟩, ⟨(.mov (.t 3)), (some 20), none⟩, ⟨(.fieldAddr 0 (.t 5)), (some 21), none⟩, ⟨(.load none (.t 21)), (some 22), none⟩, ⟨(.call 132 [(.t 19), (.t 20), (.t 22)]), (some 23), none⟩, ⟨(.fieldAddr 1 (.t 5)), (some 24), none⟩, ⟨(.load none (.t 24)), (some 25), none⟩, ⟨(.bin .eql (.t 23) (.t 25)), (some 26), none⟩, ⟨(.mov (.t 18)), (some 8), none⟩, ⟨(.mov (.t 26)), (some 9), none⟩] true) .ret) .skip)) (.seq (.seq (.region [⟨(.mov (.k (.int .i64 0))), (some 10), none⟩] false) (.block 0 (.loop m92_0))) (.seq (.region [⟨(.mov (.k .nils)), (some 8), none⟩, ⟨(.mov (.k (.bool false))), (some 9), none⟩] false) .ret))))
theorem has92 : Has cx 92 64 m92 [(.tmp 8), (.tmp 9)] :=
  ⟨⟨Try.f92, Try.f92.body.getD .skip, by kernel_rfl, by kernel_rfl, by kernel_rfl, by kernel_rfl, by kernel_rfl, by kernel_rfl⟩⟩
theorem evqb_e1 (n N b g : Nat) (D : List Int) (hn : n ≤ 3) (hb : b < 65536) (hg : valS b (R2 n) [] = g) : Ev cx 92 [.agg [.int .i64 (0 : Nat), .int .i64 (b : Nat)], .agg [.int .i64 (n : Nat), .int .i64 (g : Nat)], .sl 0 0 N, .emp] [⟨zints D, 1, 0, some 0, false⟩] (.tup [.emp, .bool true]) [⟨zints D, 1, 0, some 0, false⟩] := by
  have e2 := evsp_e n b  ((0 : Nat) : Int) (by simp) (fun j hj => by simp at hj) hb hn
  have hq : (((0 : Nat) : Int) == ((0 : Nat) : Int)) = true := by simp
  have hq2 : (((valS b (R2 n) [] : Nat) : Int) == ((g : Nat) : Int)) = true := by rw [hg]; simp
  refine has92.eev rfl rfl ?_
  unfold m92
  repeat' (first
    | (refine g_op ?_; first
      | refine ep_mov rfl ?_ | refine ep_load1 rfl rfl rfl rfl ?_ | refine ep_fieldAddr rfl ?_ | refine sp_loadN rfl rfl rfl rfl rfl ?_
      | refine ep_call0 rfl (by first | exact e2) rfl rfl ?_
      | refine sp_call rfl rfl rfl rfl (by first | exact e2) ⟨rfl, rfl, rfl, rfl⟩ rfl rfl rfl ?_
      | refine ep_bin rfl rfl (by exact b_eql) ?_ | refine ep_lenS rfl ?_ | refine ep_lenN rfl ?_ | refine ep_lenE rfl ?_ | refine sp_box rfl rfl rfl rfl rfl ?_)
    | (refine g_ops ?_; first | refine eo_none ?_ | refine eo_nil ?_)
    | (refine g_dops ?_; first | refine ed_none ?_ | refine ed_nil ?_)
    | refine ed_same rfl ?_ | refine ed_one rfl rfl rfl rfl ?_ | refine ed_two rfl rfl rfl rfl rfl rfl rfl ?_ | refine ed_write rfl rfl ?_
    | (refine g_code ?_; first | refine ec_seq ?_ | refine ec_region ?_ | refine ec_draw ?_ | refine ec_block ?_ | refine ec_skip ?_ | refine ec_ret ?_ | refine ec_condT rfl ?_ | refine ec_condF rfl ?_ | refine ec_condTH rfl (by assumption) ?_ | refine ec_condFH rfl (by assumption) ?_)
    | refine ek_seqN ?_ | refine ek_seqX ?_ | refine ek_seqR ?_ | refine ek_blkN ?_ | refine ek_blkR ?_ | refine ek_blkX ?_ | refine ek_blkY rfl ?_)
  refine sfin (.inr rfl) (by rfl) (by rfl) (by exact ⟨rfl, rfl, rfl⟩) (by rfl) (by rfl) (by rw [hq2]) (by first | rfl | (simp; done) | (simp [ints, prs]; done))
theorem evqb_e0 (n N b g : Nat) (D : List Int) (hn : n ≤ 3) (hb : b < 65536) (hg : valS b (R2 n) [] ≠ g) : Ev cx 92 [.agg [.int .i64 (0 : Nat), .int .i64 (b : Nat)], .agg [.int .i64 (n : Nat), .int .i64 (g : Nat)], .sl 0 0 N, .emp] [⟨zints D, 1, 0, some 0, false⟩] (.tup [.emp, .bool false]) [⟨zints D, 1, 0, some 0, false⟩] := by
  have e2 := evsp_e n b  ((0 : Nat) : Int) (by simp) (fun j hj => by simp at hj) hb hn
  have hq : (((0 : Nat) : Int) == ((0 : Nat) : Int)) = true := by simp
  have hq2 : (((valS b (R2 n) [] : Nat) : Int) == ((g : Nat) : Int)) = false := by rw [ieq]; simp; omega
  refine has92.eev rfl rfl ?_
  unfold m92
  repeat' (first
    | (refine g_op ?_; first
      | refine ep_mov rfl ?_ | refine ep_load1 rfl rfl rfl rfl ?_ | refine ep_fieldAddr rfl ?_ | refine sp_loadN rfl rfl rfl rfl rfl ?_
      | refine ep_call0 rfl (by first | exact e2) rfl rfl ?_
      | refine sp_call rfl rfl rfl rfl (by first | exact e2) ⟨rfl, rfl, rfl, rfl⟩ rfl rfl rfl ?_
      | refine ep_bin rfl rfl (by exact b_eql) ?_ | refine ep_lenS rfl ?_ | refine ep_lenN rfl ?_ | refine ep_lenE rfl ?_ | refine sp_box rfl rfl rfl rfl rfl ?_)
    | (refine g_ops ?_; first | refine eo_none ?_ | refine eo_nil ?_)
    | (refine g_dops ?_; first | refine ed_none ?_ | refine ed_nil ?_)
    | refine ed_same rfl ?_ | refine ed_one rfl rfl rfl rfl ?_ | refine ed_two rfl rfl rfl rfl rfl rfl rfl ?_ | refine ed_write rfl rfl ?_
    | (refine g_code ?_; first | refine ec_seq ?_ | refine ec_region ?_ | refine ec_draw ?_ | refine ec_block ?_ | refine ec_skip ?_ | refine ec_ret ?_ | refine ec_condT rfl ?_ | refine ec_condF rfl ?_ | refine ec_condTH rfl (by assumption) ?_ | refine ec_condFH rfl (by assumption) ?_)
    | refine ek_seqN ?_ | refine ek_seqX ?_ | refine ek_seqR ?_ | refine ek_blkN ?_ | refine ek_blkR ?_ | refine ek_blkX ?_ | refine ek_blkY rfl ?_)
  refine sfin (.inr rfl) (by rfl) (by rfl) (by exact ⟨rfl, rfl, rfl⟩) (by rfl) (by rfl) (by rw [hq2]) (by first | rfl | (simp; done) | (simp [ints, prs]; done))
theorem evqb_c1 (n N b g q : Nat) (D : List Int) (l : List Nat) (hl4 : l.length ≤ 4) (hl : ∀ j, j < l.length → l.getD j 0 < 65536) (hn : n ≤ 3) (hb : b < 65536) (hg : valS b (R2 n) l = g) : Ev cx 92 [.agg [.int .i64 (l.length : Nat), .int .i64 (b : Nat)], .agg [.int .i64 (n : Nat), .int .i64 (g : Nat)], .sl 0 0 N, .sl 1 0 l.length] [⟨zints D, 1, 0, some 0, false⟩, ⟨ints (l), 1, 1, some q, false⟩] (.tup [.sl 1 0 l.length, .bool true]) [⟨zints D, 1, 0, some 0, false⟩, ⟨ints (l), 1, 1, some q, false⟩] := by
  have e2 := evsp_c n b q l.length l (by omega) (fun j hj => by have := hl j hj; omega) hb hn
  have hq : (((l.length : Nat) : Int) == ((l.length : Nat) : Int)) = true := by simp
  have hq2 : (((valS b (R2 n) l : Nat) : Int) == ((g : Nat) : Int)) = true := by rw [hg]; simp
  refine has92.eev rfl rfl ?_
  unfold m92
  repeat' (first
    | (refine g_op ?_; first
      | refine ep_mov rfl ?_ | refine ep_load1 rfl rfl rfl rfl ?_ | refine ep_fieldAddr rfl ?_ | refine sp_loadN rfl rfl rfl rfl rfl ?_
      | refine ep_call0 rfl (by first | exact e2) rfl rfl ?_
      | refine sp_call rfl rfl rfl rfl (by first | exact e2) ⟨rfl, rfl, rfl, rfl⟩ rfl rfl rfl ?_
      | refine ep_bin rfl rfl (by exact b_eql) ?_ | refine ep_lenS rfl ?_ | refine ep_lenN rfl ?_ | refine ep_lenE rfl ?_ | refine sp_box rfl rfl rfl rfl rfl ?_)
    | (refine g_ops ?_; first | refine eo_none ?_ | refine eo_nil ?_)
    | (refine g_dops ?_; first | refine ed_none ?_ | refine ed_nil ?_)
    | refine ed_same rfl ?_ | refine ed_one rfl rfl rfl rfl ?_ | refine ed_two rfl rfl rfl rfl rfl rfl rfl ?_ | refine ed_write rfl rfl ?_
    | (refine g_code ?_; first | refine ec_seq ?_ | refine ec_region ?_ | refine ec_draw ?_ | refine ec_block ?_ | refine ec_skip ?_ | refine ec_ret ?_ | refine ec_condT rfl ?_ | refine ec_condF rfl ?_ | refine ec_condTH rfl (by assumption) ?_ | refine ec_condFH rfl (by assumption) ?_)
    | refine ek_seqN ?_ | refine ek_seqX ?_ | refine ek_seqR ?_ | refine ek_blkN ?_ | refine ek_blkR ?_ | refine ek_blkX ?_ | refine ek_blkY rfl ?_)
  refine sfin (.inr rfl) (by rfl) (by rfl) (by exact ⟨rfl, rfl, rfl⟩) (by rfl) (by rfl) (by rw [hq2]) (by first | rfl | (simp; done) | (simp [ints, prs]; done))
theorem evqb_c0 (n N b g q : Nat) (D : List Int) (l : List Nat) (hl4 : l.length ≤ 4) (hl : ∀ j, j < l.length → l.getD j 0 < 65536) (hn : n ≤ 3) (hb : b < 65536) (hg : valS b (R2 n) l ≠ g) : Ev cx 92 [.agg [.int .i64 (l.length : Nat), .int .i64 (b : Nat)], .agg [.int .i64 (n : Nat), .int .i64 (g : Nat)], .sl 0 0 N, .sl 1 0 l.length] [⟨zints D, 1, 0, some 0, false⟩, ⟨ints (l), 1, 1, some q, false⟩] (.tup [.sl 1 0 l.length, .bool false]) [⟨zints D, 1, 0, some 0, false⟩, ⟨ints (l), 1, 1, some q, false⟩] := by
  have e2 := evsp_c n b q l.length l (by omega) (fun j hj => by have := hl j hj; omega) hb hn
  have hq : (((l.length : Nat) : Int) == ((l.length : Nat) : Int)) = true := by simp
  have hq2 : (((valS b (R2 n) l : Nat) : Int) == ((g : Nat) : Int)) = false := by rw [ieq]; simp; omega
  refine has92.eev rfl rfl ?_
  unfold m92
  repeat' (first
    | (refine g_op ?_; first
      | refine ep_mov rfl ?_ | refine ep_load1 rfl rfl rfl rfl ?_ | refine ep_fieldAddr rfl ?_ | refine sp_loadN rfl rfl rfl rfl rfl ?_
      | refine ep_call0 rfl (by first | exact e2) rfl rfl ?_
      | refine sp_call rfl rfl rfl rfl (by first | exact e2) ⟨rfl, rfl, rfl, rfl⟩ rfl rfl rfl ?_
      | refine ep_bin rfl rfl (by exact b_eql) ?_ | refine ep_lenS rfl ?_ | refine ep_lenN rfl ?_ | refine ep_lenE rfl ?_ | refine sp_box rfl rfl rfl rfl rfl ?_)
    | (refine g_ops ?_; first | refine eo_none ?_ | refine eo_nil ?_)
    | (refine g_dops ?_; first | refine ed_none ?_ | refine ed_nil ?_)
    | refine ed_same rfl ?_ | refine ed_one rfl rfl rfl rfl ?_ | refine ed_two rfl rfl rfl rfl rfl rfl rfl ?_ | refine ed_write rfl rfl ?_
    | (refine g_code ?_; first | refine ec_seq ?_ | refine ec_region ?_ | refine ec_draw ?_ | refine ec_block ?_ | refine ec_skip ?_ | refine ec_ret ?_ | refine ec_condT rfl ?_ | refine ec_condF rfl ?_ | refine ec_condTH rfl (by assumption) ?_ | refine ec_condFH rfl (by assumption) ?_)
    | refine ek_seqN ?_ | refine ek_seqX ?_ | refine ek_seqR ?_ | refine ek_blkN ?_ | refine ek_blkR ?_ | refine ek_blkX ?_ | refine ek_blkY rfl ?_)
  refine sfin (.inr rfl) (by rfl) (by rfl) (by exact ⟨rfl, rfl, rfl⟩) (by rfl) (by rfl) (by rw [hq2]) (by first | rfl | (simp; done) | (simp [ints, prs]; done))
theorem lplq_e0 (n N d b g a : Nat) (D : List Int) (hN : D.length = N) (hN6 : N ≤ 65536) (hgN : g < N) (hdd : D.getD g 0 = (d : Int)) (S : Nat → Option (List Nat)) (ih : ∀ i, i < N → (decide (0 ≤ D.getD i 0 ∧ D.getD i 0 ≤ (d : Int) - 1)) = true → (S i = none → ∀ q, Ev cx 92 [.agg [.int .i64 (a : Nat), .int .i64 (b : Nat)], .agg [.int .i64 (n : Nat), .int .i64 (g : Nat)], .sl 0 0 N, .sl 1 0 1] [⟨zints D, 1, 0, some 0, false⟩, ⟨[.int .i64 (i : Nat)], 1, 1, some q, false⟩] (.tup [.sl 1 0 1, .bool false]) [⟨zints D, 1, 0, some 0, false⟩, ⟨[.int .i64 (i : Nat)], 1, 1, some q, false⟩]) ∧ ∀ t, S i = some t → t = [i] ∧ ∀ q, Ev cx 92 [.agg [.int .i64 (a : Nat), .int .i64 (b : Nat)], .agg [.int .i64 (n : Nat), .int .i64 (g : Nat)], .sl 0 0 N, .sl 1 0 1] [⟨zints D, 1, 0, some 0, false⟩, ⟨[.int .i64 (i : Nat)], 1, 1, some q, false⟩] (.tup [.sl 1 0 1, .bool true]) [⟨zints D, 1, 0, some 0, false⟩, ⟨[.int .i64 (i : Nat)], 1, 1, some q, false⟩]) (ha : a = 1) (o : Out) (ho : fsO (⟨.exit 0, [], [⟨zints D, 1, 0, some 0, false⟩]⟩ : Out) (fun _ t => (⟨.ret, [(8, .sl 1 0 t.length), (9, .bool true)], [⟨zints D, 1, 0, some 0, false⟩, ⟨ints t, 1, 1, some 0, false⟩]⟩ : Out)) (fsome (fun i => (if (decide (0 ≤ D.getD i 0 ∧ D.getD i 0 ≤ (d : Int) - 1)) = true then S i else none).map fun x => (i, x)) 0 N) = o) :
    LpS cx 64 1 m92_0 [(2, .sl 0 0 N), (3, .emp), (4, .ptr 1 0), (5, .ptr 2 0), (10, .int .i64 (0 : Nat))] [⟨zints D, 1, 0, some 0, false⟩, ⟨[.int .i64 (a : Nat), .int .i64 (b : Nat)], 1, 1, some 0, true⟩, ⟨[.int .i64 (n : Nat), .int .i64 (g : Nat)], 1, 2, some 0, true⟩] o.x o.e o.h := by
  refine lp_fs N (fun i => if (decide (0 ≤ D.getD i 0 ∧ D.getD i 0 ≤ (d : Int) - 1)) = true then S i else none) (fun i => [(2, .sl 0 0 N), (3, .emp), (4, .ptr 1 0), (5, .ptr 2 0), (10, .int .i64 (i : Nat))]) (fun i => [⟨zints D, 1, 0, some 0, false⟩, ⟨[.int .i64 (a : Nat), .int .i64 (b : Nat)], 1, 1, some 0, true⟩, ⟨[.int .i64 (n : Nat), .int .i64 (g : Nat)], 1, 2, some 0, true⟩]) (⟨.exit 0, [], [⟨zints D, 1, 0, some 0, false⟩]⟩ : Out) (fun _ t => (⟨.ret, [(8, .sl 1 0 t.length), (9, .bool true)], [⟨zints D, 1, 0, some 0, false⟩, ⟨ints t, 1, 1, some 0, false⟩]⟩ : Out)) ?_ ?_ ?_ N 0 o (by omega) ho
  · intro i hi hf
    have hlt : decide ((i : Int) < (N : Nat)) = true := decide_eq_true (by omega)
    have hget := zints_get (l := D) (j := i) (by omega)
    have hgg := zints_get (l := D) (j := g) (by omega)
    have hzl := zints_len D
    by_cases hp : (decide (0 ≤ D.getD i 0 ∧ D.getD i 0 ≤ (d : Int) - 1)) = true
    · rw [if_pos hp] at hf
      have hp2 := of_decide_eq_true hp
      have hq1 : decide (D.getD i 0 < 0) = false := decide_eq_false (by omega)
      have hq2 : decide (D.getD i 0 ≥ D.getD g 0) = false := decide_eq_false (by omega)
      have e1 := (ih i hi hp).1 hf
      have e0 := evow_e
      unfold m92_0
      repeat' (first
        | refine ep_loadS rfl rfl rfl hget ?_
        | refine ep_loadS rfl rfl rfl hgg ?_
        | (refine g_op ?_; first
          | refine ep_mov rfl ?_ | refine ep_load1 rfl rfl rfl rfl ?_ | refine ep_fieldAddr rfl ?_ | refine sp_loadN rfl rfl rfl rfl rfl ?_
          | refine ep_call0 rfl (by first | exact e0 | exact e1 _) rfl rfl ?_
          | refine sp_call rfl rfl rfl rfl (by first | exact e0 | exact e1 _) ⟨rfl, rfl, rfl, rfl⟩ rfl rfl rfl ?_
          | refine ep_callw0 rfl (by first | exact e0 | exact e1 _) rfl rfl ?_
          | refine sp_callw rfl rfl rfl rfl (by first | exact e0 | exact e1 _) ⟨rfl, rfl, rfl, rfl⟩ rfl rfl rfl (by first | exact WrP_refl _ _ | (repeat' (first | exact rfl | exact True.intro | refine And.intro ?_ ?_))) ?_
          | refine ep_bin rfl rfl (by first | exact b_add (by omega) (by omega) | exact b_lss | exact b_geq) ?_ | refine ep_pickT rfl rfl ?_ | refine ep_pickF rfl rfl ?_ | refine ep_pickTH rfl (by assumption) rfl ?_
          | refine ep_pickFH rfl (by assumption) rfl ?_ | refine ep_extract rfl rfl ?_ | refine ep_lenS rfl ?_ | refine ep_lenN rfl ?_ | refine ep_lenE rfl ?_ | refine sp_bslice rfl rfl rfl rfl rfl ?_ | refine sp_push0 rfl (by first | exact .inl rfl | exact .inr rfl) rfl rfl rfl rfl rfl (by decide) rfl rfl rfl ?_
          | refine sp_push rfl rfl rfl rfl rfl rfl rfl (by first | exact ints_len _ | exact prs_len _ _ | exact zints_len _) (by omega) (Nat.zero_le _) rfl rfl rfl rfl rfl ?_ | refine sp_idx rfl rfl rfl (by omega) rfl ?_
          | refine ep_loadS rfl rfl rfl (by first | exact ints_get (by omega) | exact zints_get (by omega) | exact fget (by omega) | assumption) ?_ | refine ep_loadSN rfl rfl rfl (by first | exact prs_get (by omega) | exact fns_get (by omega)) ?_)
        | (refine g_ops ?_; first | refine eo_none ?_ | refine eo_nil ?_ | refine eo_yes rfl ?_ | refine eo_no rfl ?_ | refine eo_und rfl ?_ | refine eo_yesH rfl (by assumption) ?_ | refine eo_noH rfl (by assumption) ?_)
        | (refine g_dops ?_; first | refine ed_none ?_ | refine ed_nil ?_ | refine ed_yes rfl ?_ | refine ed_no rfl ?_ | refine ed_und rfl ?_ | refine ed_yesH rfl (by assumption) ?_ | refine ed_noH rfl (by assumption) ?_)
        | refine ed_same rfl ?_ | refine ed_one rfl rfl rfl rfl ?_ | refine ed_two rfl rfl rfl rfl rfl rfl rfl ?_ | refine ed_write rfl rfl ?_
        | (refine g_lops ?_; first | refine el_none rfl ?_ | refine el_nil ?_ | refine el_yes rfl rfl ?_ | refine el_no rfl rfl ?_ | refine el_und rfl rfl ?_ | refine el_yesH rfl (by assumption) rfl ?_ | refine el_noH rfl (by assumption) rfl ?_)
        | refine el_same rfl ?_ | refine el_one rfl rfl rfl rfl rfl ?_ | refine el_write rfl rfl rfl ?_
        | (refine g_code ?_; first | refine ec_seq ?_ | refine ec_region ?_ | refine ec_draw ?_ | refine ec_drawL (X := [1, 2]) rfl ?_ | refine ec_block ?_ | refine ec_skip ?_ | refine ec_exit ?_ | refine ec_ret ?_ | refine ec_condT rfl ?_ | refine ec_condF rfl ?_ | refine ec_condTH rfl (by assumption) ?_ | refine ec_condFH rfl (by assumption) ?_)
        | refine ek_seqN ?_ | refine ek_seqX ?_ | refine ek_seqR ?_ | refine ek_blkN ?_ | refine ek_blkR ?_ | refine ek_blkX ?_ | refine ek_blkY rfl ?_)
      exact rnd_on (by rfl) (scmp2 (by rfl) (by rfl) (by exact ⟨rfl, rfl, rfl⟩) (by rfl) (by first | rfl | (simp; done) | (simp [ints, prs]; done)) (by rfl) (by first | rfl | (simp; done) | (simp [ints, prs]; done)))
    · have hp2 : ¬ (0 ≤ D.getD i 0 ∧ D.getD i 0 ≤ (d : Int) - 1) := by simpa using hp
      by_cases h0 : D.getD i 0 < 0
      · have hq1 : decide (D.getD i 0 < 0) = true := decide_eq_true h0
        unfold m92_0
        repeat' (first
          | refine ep_loadS rfl rfl rfl hget ?_
          | refine ep_loadS rfl rfl rfl hgg ?_
          | (refine g_op ?_; first
            | refine ep_mov rfl ?_ | refine ep_load1 rfl rfl rfl rfl ?_ | refine ep_fieldAddr rfl ?_ | refine sp_loadN rfl rfl rfl rfl rfl ?_
            | refine ep_bin rfl rfl (by first | exact b_add (by omega) (by omega) | exact b_lss | exact b_geq) ?_ | refine ep_pickT rfl rfl ?_ | refine ep_pickF rfl rfl ?_ | refine ep_pickTH rfl (by assumption) rfl ?_
            | refine ep_pickFH rfl (by assumption) rfl ?_ | refine ep_extract rfl rfl ?_ | refine ep_lenS rfl ?_ | refine ep_lenN rfl ?_ | refine ep_lenE rfl ?_ | refine sp_bslice rfl rfl rfl rfl rfl ?_ | refine sp_push0 rfl (by first | exact .inl rfl | exact .inr rfl) rfl rfl rfl rfl rfl (by decide) rfl rfl rfl ?_
            | refine sp_push rfl rfl rfl rfl rfl rfl rfl (by first | exact ints_len _ | exact prs_len _ _ | exact zints_len _) (by omega) (Nat.zero_le _) rfl rfl rfl rfl rfl ?_ | refine sp_idx rfl rfl rfl (by omega) rfl ?_
            | refine ep_loadS rfl rfl rfl (by first | exact ints_get (by omega) | exact zints_get (by omega) | exact fget (by omega) | assumption) ?_ | refine ep_loadSN rfl rfl rfl (by first | exact prs_get (by omega) | exact fns_get (by omega)) ?_)
          | (refine g_ops ?_; first | refine eo_none ?_ | refine eo_nil ?_ | refine eo_yes rfl ?_ | refine eo_no rfl ?_ | refine eo_und rfl ?_ | refine eo_yesH rfl (by assumption) ?_ | refine eo_noH rfl (by assumption) ?_)
          | (refine g_dops ?_; first | refine ed_none ?_ | refine ed_nil ?_ | refine ed_yes rfl ?_ | refine ed_no rfl ?_ | refine ed_und rfl ?_ | refine ed_yesH rfl (by assumption) ?_ | refine ed_noH rfl (by assumption) ?_)
          | refine ed_same rfl ?_ | refine ed_one rfl rfl rfl rfl ?_ | refine ed_two rfl rfl rfl rfl rfl rfl rfl ?_ | refine ed_write rfl rfl ?_
          | (refine g_lops ?_; first | refine el_none rfl ?_ | refine el_nil ?_ | refine el_yes rfl rfl ?_ | refine el_no rfl rfl ?_ | refine el_und rfl rfl ?_ | refine el_yesH rfl (by assumption) rfl ?_ | refine el_noH rfl (by assumption) rfl ?_)
          | refine el_same rfl ?_ | refine el_one rfl rfl rfl rfl rfl ?_ | refine el_write rfl rfl rfl ?_
          | (refine g_code ?_; first | refine ec_seq ?_ | refine ec_region ?_ | refine ec_draw ?_ | refine ec_drawL (X := [1, 2]) rfl ?_ | refine ec_block ?_ | refine ec_skip ?_ | refine ec_exit ?_ | refine ec_ret ?_ | refine ec_condT rfl ?_ | refine ec_condF rfl ?_ | refine ec_condTH rfl (by assumption) ?_ | refine ec_condFH rfl (by assumption) ?_)
          | refine ek_seqN ?_ | refine ek_seqX ?_ | refine ek_seqR ?_ | refine ek_blkN ?_ | refine ek_blkR ?_ | refine ek_blkX ?_ | refine ek_blkY rfl ?_)
        exact rnd_on (by rfl) (scmp2 (by rfl) (by rfl) (by exact ⟨rfl, rfl, rfl⟩) (by rfl) (by first | rfl | (simp; done) | (simp [ints, prs]; done)) (by rfl) (by first | rfl | (simp; done) | (simp [ints, prs]; done)))
      · have hq1 : decide (D.getD i 0 < 0) = false := decide_eq_false h0
        have hq2 : decide (D.getD i 0 ≥ D.getD g 0) = true := decide_eq_true (by omega)
        unfold m92_0
        repeat' (first
          | refine ep_loadS rfl rfl rfl hget ?_
          | refine ep_loadS rfl rfl rfl hgg ?_
          | (refine g_op ?_; first
            | refine ep_mov rfl ?_ | refine ep_load1 rfl rfl rfl rfl ?_ | refine ep_fieldAddr rfl ?_ | refine sp_loadN rfl rfl rfl rfl rfl ?_
            | refine ep_bin rfl rfl (by first | exact b_add (by omega) (by omega) | exact b_lss | exact b_geq) ?_ | refine ep_pickT rfl rfl ?_ | refine ep_pickF rfl rfl ?_ | refine ep_pickTH rfl (by assumption) rfl ?_
            | refine ep_pickFH rfl (by assumption) rfl ?_ | refine ep_extract rfl rfl ?_ | refine ep_lenS rfl ?_ | refine ep_lenN rfl ?_ | refine ep_lenE rfl ?_ | refine sp_bslice rfl rfl rfl rfl rfl ?_ | refine sp_push0 rfl (by first | exact .inl rfl | exact .inr rfl) rfl rfl rfl rfl rfl (by decide) rfl rfl rfl ?_
            | refine sp_push rfl rfl rfl rfl rfl rfl rfl (by first | exact ints_len _ | exact prs_len _ _ | exact zints_len _) (by omega) (Nat.zero_le _) rfl rfl rfl rfl rfl ?_ | refine sp_idx rfl rfl rfl (by omega) rfl ?_
            | refine ep_loadS rfl rfl rfl (by first | exact ints_get (by omega) | exact zints_get (by omega) | exact fget (by omega) | assumption) ?_ | refine ep_loadSN rfl rfl rfl (by first | exact prs_get (by omega) | exact fns_get (by omega)) ?_)
          | (refine g_ops ?_; first | refine eo_none ?_ | refine eo_nil ?_ | refine eo_yes rfl ?_ | refine eo_no rfl ?_ | refine eo_und rfl ?_ | refine eo_yesH rfl (by assumption) ?_ | refine eo_noH rfl (by assumption) ?_)
          | (refine g_dops ?_; first | refine ed_none ?_ | refine ed_nil ?_ | refine ed_yes rfl ?_ | refine ed_no rfl ?_ | refine ed_und rfl ?_ | refine ed_yesH rfl (by assumption) ?_ | refine ed_noH rfl (by assumption) ?_)
          | refine ed_same rfl ?_ | refine ed_one rfl rfl rfl rfl ?_ | refine ed_two rfl rfl rfl rfl rfl rfl rfl ?_ | refine ed_write rfl rfl ?_
          | (refine g_lops ?_; first | refine el_none rfl ?_ | refine el_nil ?_ | refine el_yes rfl rfl ?_ | refine el_no rfl rfl ?_ | refine el_und rfl rfl ?_ | refine el_yesH rfl (by assumption) rfl ?_ | refine el_noH rfl (by assumption) rfl ?_)
          | refine el_same rfl ?_ | refine el_one rfl rfl rfl rfl rfl ?_ | refine el_write rfl rfl rfl ?_
          | (refine g_code ?_; first | refine ec_seq ?_ | refine ec_region ?_ | refine ec_draw ?_ | refine ec_drawL (X := [1, 2]) rfl ?_ | refine ec_block ?_ | refine ec_skip ?_ | refine ec_exit ?_ | refine ec_ret ?_ | refine ec_condT rfl ?_ | refine ec_condF rfl ?_ | refine ec_condTH rfl (by assumption) ?_ | refine ec_condFH rfl (by assumption) ?_)
          | refine ek_seqN ?_ | refine ek_seqX ?_ | refine ek_seqR ?_ | refine ek_blkN ?_ | refine ek_blkR ?_ | refine ek_blkX ?_ | refine ek_blkY rfl ?_)
        exact rnd_on (by rfl) (scmp2 (by rfl) (by rfl) (by exact ⟨rfl, rfl, rfl⟩) (by rfl) (by first | rfl | (simp; done) | (simp [ints, prs]; done)) (by rfl) (by first | rfl | (simp; done) | (simp [ints, prs]; done)))
  · intro i t hi hf
    have hlt : decide ((i : Int) < (N : Nat)) = true := decide_eq_true (by omega)
    have hget := zints_get (l := D) (j := i) (by omega)
    have hgg := zints_get (l := D) (j := g) (by omega)
    have hzl := zints_len D
    by_cases hp : (decide (0 ≤ D.getD i 0 ∧ D.getD i 0 ≤ (d : Int) - 1)) = true
    · rw [if_pos hp] at hf
      have hp2 := of_decide_eq_true hp
      have hq1 : decide (D.getD i 0 < 0) = false := decide_eq_false (by omega)
      have hq2 : decide (D.getD i 0 ≥ D.getD g 0) = false := decide_eq_false (by omega)
      obtain ⟨ht, e1⟩ := (ih i hi hp).2 t hf
      subst ha; subst ht
      have e0 := evow_e
      unfold m92_0
      repeat' (first
        | refine ep_loadS rfl rfl rfl hget ?_
        | refine ep_loadS rfl rfl rfl hgg ?_
        | (refine g_op ?_; first
          | refine ep_mov rfl ?_ | refine ep_load1 rfl rfl rfl rfl ?_ | refine ep_fieldAddr rfl ?_ | refine sp_loadN rfl rfl rfl rfl rfl ?_
          | refine ep_call0 rfl (by first | exact e0 | exact e1 _) rfl rfl ?_
          | refine sp_call rfl rfl rfl rfl (by first | exact e0 | exact e1 _) ⟨rfl, rfl, rfl, rfl⟩ rfl rfl rfl ?_
          | refine ep_callw0 rfl (by first | exact e0 | exact e1 _) rfl rfl ?_
          | refine sp_callw rfl rfl rfl rfl (by first | exact e0 | exact e1 _) ⟨rfl, rfl, rfl, rfl⟩ rfl rfl rfl (by first | exact WrP_refl _ _ | (repeat' (first | exact rfl | exact True.intro | refine And.intro ?_ ?_))) ?_
          | refine ep_bin rfl rfl (by first | exact b_add (by omega) (by omega) | exact b_lss | exact b_geq) ?_ | refine ep_pickT rfl rfl ?_ | refine ep_pickF rfl rfl ?_ | refine ep_pickTH rfl (by assumption) rfl ?_
          | refine ep_pickFH rfl (by assumption) rfl ?_ | refine ep_extract rfl rfl ?_ | refine ep_lenS rfl ?_ | refine ep_lenN rfl ?_ | refine ep_lenE rfl ?_ | refine sp_bslice rfl rfl rfl rfl rfl ?_ | refine sp_push0 rfl (by first | exact .inl rfl | exact .inr rfl) rfl rfl rfl rfl rfl (by decide) rfl rfl rfl ?_
          | refine sp_push rfl rfl rfl rfl rfl rfl rfl (by first | exact ints_len _ | exact prs_len _ _ | exact zints_len _) (by omega) (Nat.zero_le _) rfl rfl rfl rfl rfl ?_ | refine sp_idx rfl rfl rfl (by omega) rfl ?_
          | refine ep_loadS rfl rfl rfl (by first | exact ints_get (by omega) | exact zints_get (by omega) | exact fget (by omega) | assumption) ?_ | refine ep_loadSN rfl rfl rfl (by first | exact prs_get (by omega) | exact fns_get (by omega)) ?_)
        | (refine g_ops ?_; first | refine eo_none ?_ | refine eo_nil ?_ | refine eo_yes rfl ?_ | refine eo_no rfl ?_ | refine eo_und rfl ?_ | refine eo_yesH rfl (by assumption) ?_ | refine eo_noH rfl (by assumption) ?_)
        | (refine g_dops ?_; first | refine ed_none ?_ | refine ed_nil ?_ | refine ed_yes rfl ?_ | refine ed_no rfl ?_ | refine ed_und rfl ?_ | refine ed_yesH rfl (by assumption) ?_ | refine ed_noH rfl (by assumption) ?_)
        | refine ed_same rfl ?_ | refine ed_one rfl rfl rfl rfl ?_ | refine ed_two rfl rfl rfl rfl rfl rfl rfl ?_ | refine ed_write rfl rfl ?_
        | (refine g_lops ?_; first | refine el_none rfl ?_ | refine el_nil ?_ | refine el_yes rfl rfl ?_ | refine el_no rfl rfl ?_ | refine el_und rfl rfl ?_ | refine el_yesH rfl (by assumption) rfl ?_ | refine el_noH rfl (by assumption) rfl ?_)
        | refine el_same rfl ?_ | refine el_one rfl rfl rfl rfl rfl ?_ | refine el_write rfl rfl rfl ?_
        | (refine g_code ?_; first | refine ec_seq ?_ | refine ec_region ?_ | refine ec_draw ?_ | refine ec_drawL (X := [1, 2]) rfl ?_ | refine ec_block ?_ | refine ec_skip ?_ | refine ec_exit ?_ | refine ec_ret ?_ | refine ec_condT rfl ?_ | refine ec_condF rfl ?_ | refine ec_condTH rfl (by assumption) ?_ | refine ec_condFH rfl (by assumption) ?_)
        | refine ek_seqN ?_ | refine ek_seqX ?_ | refine ek_seqR ?_ | refine ek_blkN ?_ | refine ek_blkR ?_ | refine ek_blkX ?_ | refine ek_blkY rfl ?_)
      exact rnd_out (by rfl) (by simp) (scmp2 (by rfl) (by rfl) (by exact ⟨rfl, rfl, rfl⟩) (by rfl) (by first | rfl | (simp; done) | (simp [ints, prs]; done)) (by rfl) (by first | rfl | (simp; done) | (simp [ints, prs]; done)))
    · rw [if_neg hp] at hf; simp at hf
  · have hlt : decide (((N : Nat) : Int) < (N : Nat)) = false := decide_eq_false (by omega)
    unfold m92_0
    repeat' (first
      | (refine g_op ?_; first
        | refine ep_mov rfl ?_ | refine ep_load1 rfl rfl rfl rfl ?_ | refine ep_fieldAddr rfl ?_ | refine sp_loadN rfl rfl rfl rfl rfl ?_
        | refine ep_bin rfl rfl (by first | exact b_add (by omega) (by omega) | exact b_lss | exact b_geq) ?_ | refine ep_pickT rfl rfl ?_ | refine ep_pickF rfl rfl ?_ | refine ep_pickTH rfl (by assumption) rfl ?_
        | refine ep_pickFH rfl (by assumption) rfl ?_ | refine ep_extract rfl rfl ?_ | refine ep_lenS rfl ?_ | refine ep_lenN rfl ?_ | refine ep_lenE rfl ?_ | refine sp_bslice rfl rfl rfl rfl rfl ?_ | refine sp_push0 rfl (by first | exact .inl rfl | exact .inr rfl) rfl rfl rfl rfl rfl (by decide) rfl rfl rfl ?_
        | refine sp_push rfl rfl rfl rfl rfl rfl rfl (by first | exact ints_len _ | exact prs_len _ _ | exact zints_len _) (by omega) (Nat.zero_le _) rfl rfl rfl rfl rfl ?_ | refine sp_idx rfl rfl rfl (by omega) rfl ?_
        | refine ep_loadS rfl rfl rfl (by first | exact ints_get (by omega) | exact zints_get (by omega) | exact fget (by omega) | assumption) ?_ | refine ep_loadSN rfl rfl rfl (by first | exact prs_get (by omega) | exact fns_get (by omega)) ?_)
      | (refine g_ops ?_; first | refine eo_none ?_ | refine eo_nil ?_ | refine eo_yes rfl ?_ | refine eo_no rfl ?_ | refine eo_und rfl ?_ | refine eo_yesH rfl (by assumption) ?_ | refine eo_noH rfl (by assumption) ?_)
      | (refine g_dops ?_; first | refine ed_none ?_ | refine ed_nil ?_ | refine ed_yes rfl ?_ | refine ed_no rfl ?_ | refine ed_und rfl ?_ | refine ed_yesH rfl (by assumption) ?_ | refine ed_noH rfl (by assumption) ?_)
      | refine ed_same rfl ?_ | refine ed_one rfl rfl rfl rfl ?_ | refine ed_two rfl rfl rfl rfl rfl rfl rfl ?_ | refine ed_write rfl rfl ?_
      | (refine g_lops ?_; first | refine el_none rfl ?_ | refine el_nil ?_ | refine el_yes rfl rfl ?_ | refine el_no rfl rfl ?_ | refine el_und rfl rfl ?_ | refine el_yesH rfl (by assumption) rfl ?_ | refine el_noH rfl (by assumption) rfl ?_)
      | refine el_same rfl ?_ | refine el_one rfl rfl rfl rfl rfl ?_ | refine el_write rfl rfl rfl ?_
      | (refine g_code ?_; first | refine ec_seq ?_ | refine ec_region ?_ | refine ec_draw ?_ | refine ec_drawL (X := []) rfl ?_ | refine ec_block ?_ | refine ec_skip ?_ | refine ec_exit ?_ | refine ec_ret ?_ | refine ec_condT rfl ?_ | refine ec_condF rfl ?_ | refine ec_condTH rfl (by assumption) ?_ | refine ec_condFH rfl (by assumption) ?_)
      | refine ek_seqN ?_ | refine ek_seqX ?_ | refine ek_seqR ?_ | refine ek_blkN ?_ | refine ek_blkR ?_ | refine ek_blkX ?_ | refine ek_blkY rfl ?_)
    exact rnd_out (by rfl) (by simp) (scmp2 (by rfl) (by rfl) (by exact ⟨rfl, rfl, rfl⟩) (by rfl) (by first | rfl | (simp; done) | (simp [ints, prs]; done)) (by rfl) (by first | rfl | (simp; done) | (simp [ints, prs]; done)))
theorem lplq_e1 (n N d b g a : Nat) (D : List Int) (hN : D.length = N) (hN6 : N ≤ 65536) (hgN : g < N) (hdd : D.getD g 0 = (d : Int)) (S : Nat → Option (List Nat)) (ih : ∀ i, i < N → (decide (0 ≤ D.getD i 0 ∧ D.getD i 0 ≤ (d : Int) - 1)) = true → (S i = none → ∀ q, Ev cx 92 [.agg [.int .i64 (a : Nat), .int .i64 (b : Nat)], .agg [.int .i64 (n : Nat), .int .i64 (g : Nat)], .sl 0 0 N, .sl 1 0 1] [⟨zints D, 1, 0, some 0, false⟩, ⟨[.int .i64 (i : Nat)], 1, 1, some q, false⟩] (.tup [.nils, .bool false]) [⟨zints D, 1, 0, some 0, false⟩, ⟨[.int .i64 (i : Nat)], 1, 1, some q, false⟩]) ∧ ∀ t, S i = some t → ∀ q, Ev cx 92 [.agg [.int .i64 (a : Nat), .int .i64 (b : Nat)], .agg [.int .i64 (n : Nat), .int .i64 (g : Nat)], .sl 0 0 N, .sl 1 0 1] [⟨zints D, 1, 0, some 0, false⟩, ⟨[.int .i64 (i : Nat)], 1, 1, some q, false⟩] (.tup [.sl 2 0 t.length, .bool true]) [⟨zints D, 1, 0, some 0, false⟩, ⟨[.int .i64 (i : Nat)], 1, 1, some q, false⟩, ⟨ints t, 1, 2, some 0, false⟩]) (o : Out) (ho : fsO (⟨.exit 0, [], [⟨zints D, 1, 0, some 0, false⟩]⟩ : Out) (fun _ t => (⟨.ret, [(8, .sl 1 0 t.length), (9, .bool true)], [⟨zints D, 1, 0, some 0, false⟩, ⟨ints t, 1, 1, some 0, false⟩]⟩ : Out)) (fsome (fun i => (if (decide (0 ≤ D.getD i 0 ∧ D.getD i 0 ≤ (d : Int) - 1)) = true then S i else none).map fun x => (i, x)) 0 N) = o) :
    LpS cx 64 1 m92_0 [(2, .sl 0 0 N), (3, .emp), (4, .ptr 1 0), (5, .ptr 2 0), (10, .int .i64 (0 : Nat))] [⟨zints D, 1, 0, some 0, false⟩, ⟨[.int .i64 (a : Nat), .int .i64 (b : Nat)], 1, 1, some 0, true⟩, ⟨[.int .i64 (n : Nat), .int .i64 (g : Nat)], 1, 2, some 0, true⟩] o.x o.e o.h := by
  refine lp_fs N (fun i => if (decide (0 ≤ D.getD i 0 ∧ D.getD i 0 ≤ (d : Int) - 1)) = true then S i else none) (fun i => [(2, .sl 0 0 N), (3, .emp), (4, .ptr 1 0), (5, .ptr 2 0), (10, .int .i64 (i : Nat))]) (fun i => [⟨zints D, 1, 0, some 0, false⟩, ⟨[.int .i64 (a : Nat), .int .i64 (b : Nat)], 1, 1, some 0, true⟩, ⟨[.int .i64 (n : Nat), .int .i64 (g : Nat)], 1, 2, some 0, true⟩]) (⟨.exit 0, [], [⟨zints D, 1, 0, some 0, false⟩]⟩ : Out) (fun _ t => (⟨.ret, [(8, .sl 1 0 t.length), (9, .bool true)], [⟨zints D, 1, 0, some 0, false⟩, ⟨ints t, 1, 1, some 0, false⟩]⟩ : Out)) ?_ ?_ ?_ N 0 o (by omega) ho
  · intro i hi hf
    have hlt : decide ((i : Int) < (N : Nat)) = true := decide_eq_true (by omega)
    have hget := zints_get (l := D) (j := i) (by omega)
    have hgg := zints_get (l := D) (j := g) (by omega)
    have hzl := zints_len D
    by_cases hp : (decide (0 ≤ D.getD i 0 ∧ D.getD i 0 ≤ (d : Int) - 1)) = true
    · rw [if_pos hp] at hf
      have hp2 := of_decide_eq_true hp
      have hq1 : decide (D.getD i 0 < 0) = false := decide_eq_false (by omega)
      have hq2 : decide (D.getD i 0 ≥ D.getD g 0) = false := decide_eq_false (by omega)
      have e1 := (ih i hi hp).1 hf
      have e0 := evow_e
      unfold m92_0
      repeat' (first
        | refine ep_loadS rfl rfl rfl hget ?_
        | refine ep_loadS rfl rfl rfl hgg ?_
        | (refine g_op ?_; first
          | refine ep_mov rfl ?_ | refine ep_load1 rfl rfl rfl rfl ?_ | refine ep_fieldAddr rfl ?_ | refine sp_loadN rfl rfl rfl rfl rfl ?_
          | refine ep_call0 rfl (by first | exact e0 | exact e1 _) rfl rfl ?_
          | refine sp_call rfl rfl rfl rfl (by first | exact e0 | exact e1 _) ⟨rfl, rfl, rfl, rfl⟩ rfl rfl rfl ?_
          | refine ep_callw0 rfl (by first | exact e0 | exact e1 _) rfl rfl ?_
          | refine sp_callw rfl rfl rfl rfl (by first | exact e0 | exact e1 _) ⟨rfl, rfl, rfl, rfl⟩ rfl rfl rfl (by first | exact WrP_refl _ _ | (repeat' (first | exact rfl | exact True.intro | refine And.intro ?_ ?_))) ?_
          | refine ep_bin rfl rfl (by first | exact b_add (by omega) (by omega) | exact b_lss | exact b_geq) ?_ | refine ep_pickT rfl rfl ?_ | refine ep_pickF rfl rfl ?_ | refine ep_pickTH rfl (by assumption) rfl ?_
          | refine ep_pickFH rfl (by assumption) rfl ?_ | refine ep_extract rfl rfl ?_ | refine ep_lenS rfl ?_ | refine ep_lenN rfl ?_ | refine ep_lenE rfl ?_ | refine sp_bslice rfl rfl rfl rfl rfl ?_ | refine sp_push0 rfl (by first | exact .inl rfl | exact .inr rfl) rfl rfl rfl rfl rfl (by decide) rfl rfl rfl ?_
          | refine sp_push rfl rfl rfl rfl rfl rfl rfl (by first | exact ints_len _ | exact prs_len _ _ | exact zints_len _) (by omega) (Nat.zero_le _) rfl rfl rfl rfl rfl ?_ | refine sp_idx rfl rfl rfl (by omega) rfl ?_
          | refine ep_loadS rfl rfl rfl (by first | exact ints_get (by omega) | exact zints_get (by omega) | exact fget (by omega) | assumption) ?_ | refine ep_loadSN rfl rfl rfl (by first | exact prs_get (by omega) | exact fns_get (by omega)) ?_)
        | (refine g_ops ?_; first | refine eo_none ?_ | refine eo_nil ?_ | refine eo_yes rfl ?_ | refine eo_no rfl ?_ | refine eo_und rfl ?_ | refine eo_yesH rfl (by assumption) ?_ | refine eo_noH rfl (by assumption) ?_)
        | (refine g_dops ?_; first | refine ed_none ?_ | refine ed_nil ?_ | refine ed_yes rfl ?_ | refine ed_no rfl ?_ | refine ed_und rfl ?_ | refine ed_yesH rfl (by assumption) ?_ | refine ed_noH rfl (by assumption) ?_)
        | refine ed_same rfl ?_ | refine ed_one rfl rfl rfl rfl ?_ | refine ed_two rfl rfl rfl rfl rfl rfl rfl ?_ | refine ed_write rfl rfl ?_
        | (refine g_lops ?_; first | refine el_none rfl ?_ | refine el_nil ?_ | refine el_yes rfl rfl ?_ | refine el_no rfl rfl ?_ | refine el_und rfl rfl ?_ | refine el_yesH rfl (by assumption) rfl ?_ | refine el_noH rfl (by assumption) rfl ?_)
        | refine el_same rfl ?_ | refine el_one rfl rfl rfl rfl rfl ?_ | refine el_write rfl rfl rfl ?_
        | (refine g_code ?_; first | refine ec_seq ?_ | refine ec_region ?_ | refine ec_draw ?_ | refine ec_drawL (X := [1, 2]) rfl ?_ | refine ec_block ?_ | refine ec_skip ?_ | refine ec_exit ?_ | refine ec_ret ?_ | refine ec_condT rfl ?_ | refine ec_condF rfl ?_ | refine ec_condTH rfl (by assumption) ?_ | refine ec_condFH rfl (by assumption) ?_)
        | refine ek_seqN ?_ | refine ek_seqX ?_ | refine ek_seqR ?_ | refine ek_blkN ?_ | refine ek_blkR ?_ | refine ek_blkX ?_ | refine ek_blkY rfl ?_)
      exact rnd_on (by rfl) (scmp2 (by rfl) (by rfl) (by exact ⟨rfl, rfl, rfl⟩) (by rfl) (by first | rfl | (simp; done) | (simp [ints, prs]; done)) (by rfl) (by first | rfl | (simp; done) | (simp [ints, prs]; done)))
    · have hp2 : ¬ (0 ≤ D.getD i 0 ∧ D.getD i 0 ≤ (d : Int) - 1) := by simpa using hp
      by_cases h0 : D.getD i 0 < 0
      · have hq1 : decide (D.getD i 0 < 0) = true := decide_eq_true h0
        unfold m92_0
        repeat' (first
          | refine ep_loadS rfl rfl rfl hget ?_
          | refine ep_loadS rfl rfl rfl hgg ?_
          | (refine g_op ?_; first
            | refine ep_mov rfl ?_ | refine ep_load1 rfl rfl rfl rfl ?_ | refine ep_fieldAddr rfl ?_ | refine sp_loadN rfl rfl rfl rfl rfl ?_
            | refine ep_bin rfl rfl (by first | exact b_add (by omega) (by omega) | exact b_lss | exact b_geq) ?_ | refine ep_pickT rfl rfl ?_ | refine ep_pickF rfl rfl ?_ | refine ep_pickTH rfl (by assumption) rfl ?_
            | refine ep_pickFH rfl (by assumption) rfl ?_ | refine ep_extract rfl rfl ?_ | refine ep_lenS rfl ?_ | refine ep_lenN rfl ?_ | refine ep_lenE rfl ?_ | refine sp_bslice rfl rfl rfl rfl rfl ?_ | refine sp_push0 rfl (by first | exact .inl rfl | exact .inr rfl) rfl rfl rfl rfl rfl (by decide) rfl rfl rfl ?_
            | refine sp_push rfl rfl rfl rfl rfl rfl rfl (by first | exact ints_len _ | exact prs_len _ _ | exact zints_len _) (by omega) (Nat.zero_le _) rfl rfl rfl rfl rfl ?_ | refine sp_idx rfl rfl rfl (by omega) rfl ?_
            | refine ep_loadS rfl rfl rfl (by first | exact ints_get (by omega) | exact zints_get (by omega) | exact fget (by omega) | assumption) ?_ | refine ep_loadSN rfl rfl rfl (by first | exact prs_get (by omega) | exact fns_get (by omega)) ?_)
          | (refine g_ops ?_; first | refine eo_none ?_ | refine eo_nil ?_ | refine eo_yes rfl ?_ | refine eo_no rfl ?_ | refine eo_und rfl ?_ | refine eo_yesH rfl (by assumption) ?_ | refine eo_noH rfl (by assumption) ?_)
          | (refine g_dops ?_; first | refine ed_none ?_ | refine ed_nil ?_ | refine ed_yes rfl ?_ | refine ed_no rfl ?_ | refine ed_und rfl ?_ | refine ed_yesH rfl (by assumption) ?_ | refine ed_noH rfl (by assumption) ?_)
          | refine ed_same rfl ?_ | refine ed_one rfl rfl rfl rfl ?_ | refine ed_two rfl rfl rfl rfl rfl rfl rfl ?_ | refine ed_write rfl rfl ?_
          | (refine g_lops ?_; first | refine el_none rfl ?_ | refine el_nil ?_ | refine el_yes rfl rfl ?_ | refine el_no rfl rfl ?_ | refine el_und rfl rfl ?_ | refine el_yesH rfl (by assumption) rfl ?_ | refine el_noH rfl (by assumption) rfl ?_)
          | refine el_same rfl ?_ | refine el_one rfl rfl rfl rfl rfl ?_ | refine el_write rfl rfl rfl ?_
          | (refine g_code ?_; first | refine ec_seq ?_ | refine ec_region ?_ | refine ec_draw ?_ | refine ec_drawL (X := [1, 2]) rfl ?_ | refine ec_block ?_ | refine ec_skip ?_ | refine ec_exit ?_ | refine ec_ret ?_ | refine ec_condT rfl ?_ | refine ec_condF rfl ?_ | refine ec_condTH rfl (by assumption) ?_ | refine ec_condFH rfl (by assumption) ?_)
          | refine ek_seqN ?_ | refine ek_seqX ?_ | refine ek_seqR ?_ | refine ek_blkN ?_ | refine ek_blkR ?_ | refine ek_blkX ?_ | refine ek_blkY rfl ?_)
        exact rnd_on (by rfl) (scmp2 (by rfl) (by rfl) (by exact ⟨rfl, rfl, rfl⟩) (by rfl) (by first | rfl | (simp; done) | (simp [ints, prs]; done)) (by rfl) (by first | rfl | (simp; done) | (simp [ints, prs]; done)))
      · have hq1 : decide (D.getD i 0 < 0) = false := decide_eq_false h0
        have hq2 : decide (D.getD i 0 ≥ D.getD g 0) = true := decide_eq_true (by omega)
        unfold m92_0
        repeat' (first
          | refine ep_loadS rfl rfl rfl hget ?_
          | refine ep_loadS rfl rfl rfl hgg ?_
          | (refine g_op ?_; first
            | refine ep_mov rfl ?_ | refine ep_load1 rfl rfl rfl rfl ?_ | refine ep_fieldAddr rfl ?_ | refine sp_loadN rfl rfl rfl rfl rfl ?_
            | refine ep_bin rfl rfl (by first | exact b_add (by omega) (by omega) | exact b_lss | exact b_geq) ?_ | refine ep_pickT rfl rfl ?_ | refine ep_pickF rfl rfl ?_ | refine ep_pickTH rfl (by assumption) rfl ?_
            | refine ep_pickFH rfl (by assumption) rfl ?_ | refine ep_extract rfl rfl ?_ | refine ep_lenS rfl ?_ | refine ep_lenN rfl ?_ | refine ep_lenE rfl ?_ | refine sp_bslice rfl rfl rfl rfl rfl ?_ | refine sp_push0 rfl (by first | exact .inl rfl | exact .inr rfl) rfl rfl rfl rfl rfl (by decide) rfl rfl rfl ?_
            | refine sp_push rfl rfl rfl rfl rfl rfl rfl (by first | exact ints_len _ | exact prs_len _ _ | exact zints_len _) (by omega) (Nat.zero_le _) rfl rfl rfl rfl rfl ?_ | refine sp_idx rfl rfl rfl (by omega) rfl ?_
            | refine ep_loadS rfl rfl rfl (by first | exact ints_get (by omega) | exact zints_get (by omega) | exact fget (by omega) | assumption) ?_ | refine ep_loadSN rfl rfl rfl (by first | exact prs_get (by omega) | exact fns_get (by omega)) ?_)
          | (refine g_ops ?_; first | refine eo_none ?_ | refine eo_nil ?_ | refine eo_yes rfl ?_ | refine eo_no rfl ?_ | refine eo_und rfl ?_ | refine eo_yesH rfl (by assumption) ?_ | refine eo_noH rfl (by assumption) ?_)
          | (refine g_dops ?_; first | refine ed_none ?_ | refine ed_nil ?_ | refine ed_yes rfl ?_ | refine ed_no rfl ?_ | refine ed_und rfl ?_ | refine ed_yesH rfl (by assumption) ?_ | refine ed_noH rfl (by assumption) ?_)
          | refine ed_same rfl ?_ | refine ed_one rfl rfl rfl rfl ?_ | refine ed_two rfl rfl rfl rfl rfl rfl rfl ?_ | refine ed_write rfl rfl ?_
          | (refine g_lops ?_; first | refine el_none rfl ?_ | refine el_nil ?_ | refine el_yes rfl rfl ?_ | refine el_no rfl rfl ?_ | refine el_und rfl rfl ?_ | refine el_yesH rfl (by assumption) rfl ?_ | refine el_noH rfl (by assumption) rfl ?_)
          | refine el_same rfl ?_ | refine el_one rfl rfl rfl rfl rfl ?_ | refine el_write rfl rfl rfl ?_
          | (refine g_code ?_; first | refine ec_seq ?_ | refine ec_region ?_ | refine ec_draw ?_ | refine ec_drawL (X := [1, 2]) rfl ?_ | refine ec_block ?_ | refine ec_skip ?_ | refine ec_exit ?_ | refine ec_ret ?_ | refine ec_condT rfl ?_ | refine ec_condF rfl ?_ | refine ec_condTH rfl (by assumption) ?_ | refine ec_condFH rfl (by assumption) ?_)
          | refine ek_seqN ?_ | refine ek_seqX ?_ | refine ek_seqR ?_ | refine ek_blkN ?_ | refine ek_blkR ?_ | refine ek_blkX ?_ | refine ek_blkY rfl ?_)
        exact rnd_on (by rfl) (scmp2 (by rfl) (by rfl) (by exact ⟨rfl, rfl, rfl⟩) (by rfl) (by first | rfl | (simp; done) | (simp [ints, prs]; done)) (by rfl) (by first | rfl | (simp; done) | (simp [ints, prs]; done)))
  · intro i t hi hf
    have hlt : decide ((i : Int) < (N : Nat)) = true := decide_eq_true (by omega)
    have hget := zints_get (l := D) (j := i) (by omega)
    have hgg := zints_get (l := D) (j := g) (by omega)
    have hzl := zints_len D
    by_cases hp : (decide (0 ≤ D.getD i 0 ∧ D.getD i 0 ≤ (d : Int) - 1)) = true
    · rw [if_pos hp] at hf
      have hp2 := of_decide_eq_true hp
      have hq1 : decide (D.getD i 0 < 0) = false := decide_eq_false (by omega)
      have hq2 : decide (D.getD i 0 ≥ D.getD g 0) = false := decide_eq_false (by omega)
      have e1 := (ih i hi hp).2 t hf
      have e0 := evow_e
      unfold m92_0
      repeat' (first
        | refine ep_loadS rfl rfl rfl hget ?_
        | refine ep_loadS rfl rfl rfl hgg ?_
        | (refine g_op ?_; first
          | refine ep_mov rfl ?_ | refine ep_load1 rfl rfl rfl rfl ?_ | refine ep_fieldAddr rfl ?_ | refine sp_loadN rfl rfl rfl rfl rfl ?_
          | refine ep_call0 rfl (by first | exact e0 | exact e1 _) rfl rfl ?_
          | refine sp_call rfl rfl rfl rfl (by first | exact e0 | exact e1 _) ⟨rfl, rfl, rfl, rfl⟩ rfl rfl rfl ?_
          | refine ep_callw0 rfl (by first | exact e0 | exact e1 _) rfl rfl ?_
          | refine sp_callw rfl rfl rfl rfl (by first | exact e0 | exact e1 _) ⟨rfl, rfl, rfl, rfl⟩ rfl rfl rfl (by first | exact WrP_refl _ _ | (repeat' (first | exact rfl | exact True.intro | refine And.intro ?_ ?_))) ?_
          | refine ep_bin rfl rfl (by first | exact b_add (by omega) (by omega) | exact b_lss | exact b_geq) ?_ | refine ep_pickT rfl rfl ?_ | refine ep_pickF rfl rfl ?_ | refine ep_pickTH rfl (by assumption) rfl ?_
          | refine ep_pickFH rfl (by assumption) rfl ?_ | refine ep_extract rfl rfl ?_ | refine ep_lenS rfl ?_ | refine ep_lenN rfl ?_ | refine ep_lenE rfl ?_ | refine sp_bslice rfl rfl rfl rfl rfl ?_ | refine sp_push0 rfl (by first | exact .inl rfl | exact .inr rfl) rfl rfl rfl rfl rfl (by decide) rfl rfl rfl ?_
          | refine sp_push rfl rfl rfl rfl rfl rfl rfl (by first | exact ints_len _ | exact prs_len _ _ | exact zints_len _) (by omega) (Nat.zero_le _) rfl rfl rfl rfl rfl ?_ | refine sp_idx rfl rfl rfl (by omega) rfl ?_
          | refine ep_loadS rfl rfl rfl (by first | exact ints_get (by omega) | exact zints_get (by omega) | exact fget (by omega) | assumption) ?_ | refine ep_loadSN rfl rfl rfl (by first | exact prs_get (by omega) | exact fns_get (by omega)) ?_)
        | (refine g_ops ?_; first | refine eo_none ?_ | refine eo_nil ?_ | refine eo_yes rfl ?_ | refine eo_no rfl ?_ | refine eo_und rfl ?_ | refine eo_yesH rfl (by assumption) ?_ | refine eo_noH rfl (by assumption) ?_)
        | (refine g_dops ?_; first | refine ed_none ?_ | refine ed_nil ?_ | refine ed_yes rfl ?_ | refine ed_no rfl ?_ | refine ed_und rfl ?_ | refine ed_yesH rfl (by assumption) ?_ | refine ed_noH rfl (by assumption) ?_)
        | refine ed_same rfl ?_ | refine ed_one rfl rfl rfl rfl ?_ | refine ed_two rfl rfl rfl rfl rfl rfl rfl ?_ | refine ed_write rfl rfl ?_
        | (refine g_lops ?_; first | refine el_none rfl ?_ | refine el_nil ?_ | refine el_yes rfl rfl ?_ | refine el_no rfl rfl ?_ | refine el_und rfl rfl ?_ | refine el_yesH rfl (by assumption) rfl ?_ | refine el_noH rfl (by assumption) rfl ?_)
        | refine el_same rfl ?_ | refine el_one rfl rfl rfl rfl rfl ?_ | refine el_write rfl rfl rfl ?_
        | (refine g_code ?_; first | refine ec_seq ?_ | refine ec_region ?_ | refine ec_draw ?_ | refine ec_drawL (X := [1, 2]) rfl ?_ | refine ec_block ?_ | refine ec_skip ?_ | refine ec_exit ?_ | refine ec_ret ?_ | refine ec_condT rfl ?_ | refine ec_condF rfl ?_ | refine ec_condTH rfl (by assumption) ?_ | refine ec_condFH rfl (by assumption) ?_)
        | refine ek_seqN ?_ | refine ek_seqX ?_ | refine ek_seqR ?_ | refine ek_blkN ?_ | refine ek_blkR ?_ | refine ek_blkX ?_ | refine ek_blkY rfl ?_)
      exact rnd_out (by rfl) (by simp) (scmp2 (by rfl) (by rfl) (by exact ⟨rfl, rfl, rfl⟩) (by rfl) (by first | rfl | (simp; done) | (simp [ints, prs]; done)) (by rfl) (by first | rfl | (simp; done) | (simp [ints, prs]; done)))
    · rw [if_neg hp] at hf; simp at hf
  · have hlt : decide (((N : Nat) : Int) < (N : Nat)) = false := decide_eq_false (by omega)
    unfold m92_0
    repeat' (first
      | (refine g_op ?_; first
        | refine ep_mov rfl ?_ | refine ep_load1 rfl rfl rfl rfl ?_ | refine ep_fieldAddr rfl ?_ | refine sp_loadN rfl rfl rfl rfl rfl ?_
        | refine ep_bin rfl rfl (by first | exact b_add (by omega) (by omega) | exact b_lss | exact b_geq) ?_ | refine ep_pickT rfl rfl ?_ | refine ep_pickF rfl rfl ?_ | refine ep_pickTH rfl (by assumption) rfl ?_
        | refine ep_pickFH rfl (by assumption) rfl ?_ | refine ep_extract rfl rfl ?_ | refine ep_lenS rfl ?_ | refine ep_lenN rfl ?_ | refine ep_lenE rfl ?_ | refine sp_bslice rfl rfl rfl rfl rfl ?_ | refine sp_push0 rfl (by first | exact .inl rfl | exact .inr rfl) rfl rfl rfl rfl rfl (by decide) rfl rfl rfl ?_
        | refine sp_push rfl rfl rfl rfl rfl rfl rfl (by first | exact ints_len _ | exact prs_len _ _ | exact zints_len _) (by omega) (Nat.zero_le _) rfl rfl rfl rfl rfl ?_ | refine sp_idx rfl rfl rfl (by omega) rfl ?_
        | refine ep_loadS rfl rfl rfl (by first | exact ints_get (by omega) | exact zints_get (by omega) | exact fget (by omega) | assumption) ?_ | refine ep_loadSN rfl rfl rfl (by first | exact prs_get (by omega) | exact fns_get (by omega)) ?_)
      | (refine g_ops ?_; first | refine eo_none ?_ | refine eo_nil ?_ | refine eo_yes rfl ?_ | refine eo_no rfl ?_ | refine eo_und rfl ?_ | refine eo_yesH rfl (by assumption) ?_ | refine eo_noH rfl (by assumption) ?_)
      | (refine g_dops ?_; first | refine ed_none ?_ | refine ed_nil ?_ | refine ed_yes rfl ?_ | refine ed_no rfl ?_ | refine ed_und rfl ?_ | refine ed_yesH rfl (by assumption) ?_ | refine ed_noH rfl (by assumption) ?_)
      | refine ed_same rfl ?_ | refine ed_one rfl rfl rfl rfl ?_ | refine ed_two rfl rfl rfl rfl rfl rfl rfl ?_ | refine ed_write rfl rfl ?_
      | (refine g_lops ?_; first | refine el_none rfl ?_ | refine el_nil ?_ | refine el_yes rfl rfl ?_ | refine el_no rfl rfl ?_ | refine el_und rfl rfl ?_ | refine el_yesH rfl (by assumption) rfl ?_ | refine el_noH rfl (by assumption) rfl ?_)
      | refine el_same rfl ?_ | refine el_one rfl rfl rfl rfl rfl ?_ | refine el_write rfl rfl rfl ?_
      | (refine g_code ?_; first | refine ec_seq ?_ | refine ec_region ?_ | refine ec_draw ?_ | refine ec_drawL (X := []) rfl ?_ | refine ec_block ?_ | refine ec_skip ?_ | refine ec_exit ?_ | refine ec_ret ?_ | refine ec_condT rfl ?_ | refine ec_condF rfl ?_ | refine ec_condTH rfl (by assumption) ?_ | refine ec_condFH rfl (by assumption) ?_)
      | refine ek_seqN ?_ | refine ek_seqX ?_ | refine ek_seqR ?_ | refine ek_blkN ?_ | refine ek_blkR ?_ | refine ek_blkX ?_ | refine ek_blkY rfl ?_)
    exact rnd_out (by rfl) (by simp) (scmp2 (by rfl) (by rfl) (by exact ⟨rfl, rfl, rfl⟩) (by rfl) (by first | rfl | (simp; done) | (simp [ints, prs]; done)) (by rfl) (by first | rfl | (simp; done) | (simp [ints, prs]; done)))
theorem lplq_c0 (n N d b g a q0 : Nat) (D : List Int) (l : List Nat) (hN : D.length = N) (hN6 : N ≤ 65536) (hgN : g < N) (hdd : D.getD g 0 = (d : Int)) (hl4 : l.length < 5) (hl1 : 1 ≤ l.length) (S : Nat → Option (List Nat)) (ih : ∀ i, i < N → (decide (0 ≤ D.getD i 0 ∧ D.getD i 0 ≤ (d : Int) - 1)) = true → (S i = none → ∀ q, Ev cx 92 [.agg [.int .i64 (a : Nat), .int .i64 (b : Nat)], .agg [.int .i64 (n : Nat), .int .i64 (g : Nat)], .sl 0 0 N, .sl 1 0 (l.length + 1)] [⟨zints D, 1, 0, some 0, false⟩, ⟨ints (l ++ [i]), 1, 1, some q, false⟩] (.tup [.sl 1 0 (l.length + 1), .bool false]) [⟨zints D, 1, 0, some 0, false⟩, ⟨ints (l ++ [i]), 1, 1, some q, false⟩]) ∧ ∀ t, S i = some t → t = l ++ [i] ∧ ∀ q, Ev cx 92 [.agg [.int .i64 (a : Nat), .int .i64 (b : Nat)], .agg [.int .i64 (n : Nat), .int .i64 (g : Nat)], .sl 0 0 N, .sl 1 0 (l.length + 1)] [⟨zints D, 1, 0, some 0, false⟩, ⟨ints (l ++ [i]), 1, 1, some q, false⟩] (.tup [.sl 1 0 (l.length + 1), .bool true]) [⟨zints D, 1, 0, some 0, false⟩, ⟨ints (l ++ [i]), 1, 1, some q, false⟩]) (ha : a = (l.length + 1)) (o : Out) (ho : fsO (⟨.exit 0, [], [⟨zints D, 1, 0, some 0, false⟩, ⟨ints (l), 1, 1, some q0, false⟩]⟩ : Out) (fun _ t => (⟨.ret, [(8, .sl 2 0 t.length), (9, .bool true)], [⟨zints D, 1, 0, some 0, false⟩, ⟨ints (l), 1, 1, some q0, false⟩, ⟨ints t, 1, 2, some 0, false⟩]⟩ : Out)) (fsome (fun i => (if (decide (0 ≤ D.getD i 0 ∧ D.getD i 0 ≤ (d : Int) - 1)) = true then S i else none).map fun x => (i, x)) 0 N) = o) :
    LpS cx 64 2 m92_0 [(2, .sl 0 0 N), (3, .sl 1 0 l.length), (4, .ptr 2 0), (5, .ptr 3 0), (10, .int .i64 (0 : Nat))] [⟨zints D, 1, 0, some 0, false⟩, ⟨ints (l), 1, 1, some q0, false⟩, ⟨[.int .i64 (a : Nat), .int .i64 (b : Nat)], 1, 2, some 0, true⟩, ⟨[.int .i64 (n : Nat), .int .i64 (g : Nat)], 1, 3, some 0, true⟩] o.x o.e o.h := by
  refine lp_fs N (fun i => if (decide (0 ≤ D.getD i 0 ∧ D.getD i 0 ≤ (d : Int) - 1)) = true then S i else none) (fun i => [(2, .sl 0 0 N), (3, .sl 1 0 l.length), (4, .ptr 2 0), (5, .ptr 3 0), (10, .int .i64 (i : Nat))]) (fun i => [⟨zints D, 1, 0, some 0, false⟩, ⟨ints (l), 1, 1, some q0, false⟩, ⟨[.int .i64 (a : Nat), .int .i64 (b : Nat)], 1, 2, some 0, true⟩, ⟨[.int .i64 (n : Nat), .int .i64 (g : Nat)], 1, 3, some 0, true⟩]) (⟨.exit 0, [], [⟨zints D, 1, 0, some 0, false⟩, ⟨ints (l), 1, 1, some q0, false⟩]⟩ : Out) (fun _ t => (⟨.ret, [(8, .sl 2 0 t.length), (9, .bool true)], [⟨zints D, 1, 0, some 0, false⟩, ⟨ints (l), 1, 1, some q0, false⟩, ⟨ints t, 1, 2, some 0, false⟩]⟩ : Out)) ?_ ?_ ?_ N 0 o (by omega) ho
  · intro i hi hf
    have hlt : decide ((i : Int) < (N : Nat)) = true := decide_eq_true (by omega)
    have hget := zints_get (l := D) (j := i) (by omega)
    have hgg := zints_get (l := D) (j := g) (by omega)
    have hzl := zints_len D
    by_cases hp : (decide (0 ≤ D.getD i 0 ∧ D.getD i 0 ≤ (d : Int) - 1)) = true
    · rw [if_pos hp] at hf
      have hp2 := of_decide_eq_true hp
      have hq1 : decide (D.getD i 0 < 0) = false := decide_eq_false (by omega)
      have hq2 : decide (D.getD i 0 ≥ D.getD g 0) = false := decide_eq_false (by omega)
      have e1 := (ih i hi hp).1 hf
      simp only [← ints_snoc] at e1
      have e0 := evow_c q0 l l.length rfl hl1 (by omega)
      unfold m92_0
      repeat' (first
        | refine ep_loadS rfl rfl rfl hget ?_
        | refine ep_loadS rfl rfl rfl hgg ?_
        | (refine g_op ?_; first
          | refine ep_mov rfl ?_ | refine ep_load1 rfl rfl rfl rfl ?_ | refine ep_fieldAddr rfl ?_ | refine sp_loadN rfl rfl rfl rfl rfl ?_
          | refine ep_call0 rfl (by first | exact e0 | exact e1 _) rfl rfl ?_
          | refine sp_call rfl rfl rfl rfl (by first | exact e0 | exact e1 _) ⟨rfl, rfl, rfl, rfl⟩ rfl rfl rfl ?_
          | refine ep_callw0 rfl (by first | exact e0 | exact e1 _) rfl rfl ?_
          | refine sp_callw rfl rfl rfl rfl (by first | exact e0 | exact e1 _) ⟨rfl, rfl, rfl, rfl⟩ rfl rfl rfl (by first | exact WrP_refl _ _ | (repeat' (first | exact rfl | exact True.intro | refine And.intro ?_ ?_))) ?_
          | refine ep_bin rfl rfl (by first | exact b_add (by omega) (by omega) | exact b_lss | exact b_geq) ?_ | refine ep_pickT rfl rfl ?_ | refine ep_pickF rfl rfl ?_ | refine ep_pickTH rfl (by assumption) rfl ?_
          | refine ep_pickFH rfl (by assumption) rfl ?_ | refine ep_extract rfl rfl ?_ | refine ep_lenS rfl ?_ | refine ep_lenN rfl ?_ | refine ep_lenE rfl ?_ | refine sp_bslice rfl rfl rfl rfl rfl ?_ | refine sp_push0 rfl (by first | exact .inl rfl | exact .inr rfl) rfl rfl rfl rfl rfl (by decide) rfl rfl rfl ?_
          | refine sp_push rfl rfl rfl rfl rfl rfl rfl (by first | exact ints_len _ | exact prs_len _ _ | exact zints_len _) (by omega) (Nat.zero_le _) rfl rfl rfl rfl rfl ?_ | refine sp_idx rfl rfl rfl (by omega) rfl ?_
          | refine ep_loadS rfl rfl rfl (by first | exact ints_get (by omega) | exact zints_get (by omega) | exact fget (by omega) | assumption) ?_ | refine ep_loadSN rfl rfl rfl (by first | exact prs_get (by omega) | exact fns_get (by omega)) ?_)
        | (refine g_ops ?_; first | refine eo_none ?_ | refine eo_nil ?_ | refine eo_yes rfl ?_ | refine eo_no rfl ?_ | refine eo_und rfl ?_ | refine eo_yesH rfl (by assumption) ?_ | refine eo_noH rfl (by assumption) ?_)
        | (refine g_dops ?_; first | refine ed_none ?_ | refine ed_nil ?_ | refine ed_yes rfl ?_ | refine ed_no rfl ?_ | refine ed_und rfl ?_ | refine ed_yesH rfl (by assumption) ?_ | refine ed_noH rfl (by assumption) ?_)
        | refine ed_same rfl ?_ | refine ed_one rfl rfl rfl rfl ?_ | refine ed_two rfl rfl rfl rfl rfl rfl rfl ?_ | refine ed_write rfl rfl ?_
        | (refine g_lops ?_; first | refine el_none rfl ?_ | refine el_nil ?_ | refine el_yes rfl rfl ?_ | refine el_no rfl rfl ?_ | refine el_und rfl rfl ?_ | refine el_yesH rfl (by assumption) rfl ?_ | refine el_noH rfl (by assumption) rfl ?_)
        | refine el_same rfl ?_ | refine el_one rfl rfl rfl rfl rfl ?_ | refine el_write rfl rfl rfl ?_
        | (refine g_code ?_; first | refine ec_seq ?_ | refine ec_region ?_ | refine ec_draw ?_ | refine ec_drawL (X := [2, 3]) rfl ?_ | refine ec_block ?_ | refine ec_skip ?_ | refine ec_exit ?_ | refine ec_ret ?_ | refine ec_condT rfl ?_ | refine ec_condF rfl ?_ | refine ec_condTH rfl (by assumption) ?_ | refine ec_condFH rfl (by assumption) ?_)
        | refine ek_seqN ?_ | refine ek_seqX ?_ | refine ek_seqR ?_ | refine ek_blkN ?_ | refine ek_blkR ?_ | refine ek_blkX ?_ | refine ek_blkY rfl ?_)
      exact rnd_on (by rfl) (scmp2 (by rfl) (by rfl) (by exact ⟨rfl, rfl, rfl⟩) (by rfl) (by first | rfl | (simp; done) | (simp [ints, prs]; done)) (by rfl) (by first | rfl | (simp; done) | (simp [ints, prs]; done)))
    · have hp2 : ¬ (0 ≤ D.getD i 0 ∧ D.getD i 0 ≤ (d : Int) - 1) := by simpa using hp
      by_cases h0 : D.getD i 0 < 0
      · have hq1 : decide (D.getD i 0 < 0) = true := decide_eq_true h0
        unfold m92_0
        repeat' (first
          | refine ep_loadS rfl rfl rfl hget ?_
          | refine ep_loadS rfl rfl rfl hgg ?_
          | (refine g_op ?_; first
            | refine ep_mov rfl ?_ | refine ep_load1 rfl rfl rfl rfl ?_ | refine ep_fieldAddr rfl ?_ | refine sp_loadN rfl rfl rfl rfl rfl ?_
            | refine ep_bin rfl rfl (by first | exact b_add (by omega) (by omega) | exact b_lss | exact b_geq) ?_ | refine ep_pickT rfl rfl ?_ | refine ep_pickF rfl rfl ?_ | refine ep_pickTH rfl (by assumption) rfl ?_
            | refine ep_pickFH rfl (by assumption) rfl ?_ | refine ep_extract rfl rfl ?_ | refine ep_lenS rfl ?_ | refine ep_lenN rfl ?_ | refine ep_lenE rfl ?_ | refine sp_bslice rfl rfl rfl rfl rfl ?_ | refine sp_push0 rfl (by first | exact .inl rfl | exact .inr rfl) rfl rfl rfl rfl rfl (by decide) rfl rfl rfl ?_
            | refine sp_push rfl rfl rfl rfl rfl rfl rfl (by first | exact ints_len _ | exact prs_len _ _ | exact zints_len _) (by omega) (Nat.zero_le _) rfl rfl rfl rfl rfl ?_ | refine sp_idx rfl rfl rfl (by omega) rfl ?_
            | refine ep_loadS rfl rfl rfl (by first | exact ints_get (by omega) | exact zints_get (by omega) | exact fget (by omega) | assumption) ?_ | refine ep_loadSN rfl rfl rfl (by first | exact prs_get (by omega) | exact fns_get (by omega)) ?_)
          | (refine g_ops ?_; first | refine eo_none ?_ | refine eo_nil ?_ | refine eo_yes rfl ?_ | refine eo_no rfl ?_ | refine eo_und rfl ?_ | refine eo_yesH rfl (by assumption) ?_ | refine eo_noH rfl (by assumption) ?_)
          | (refine g_dops ?_; first | refine ed_none ?_ | refine ed_nil ?_ | refine ed_yes rfl ?_ | refine ed_no rfl ?_ | refine ed_und rfl ?_ | refine ed_yesH rfl (by assumption) ?_ | refine ed_noH rfl (by assumption) ?_)
          | refine ed_same rfl ?_ | refine ed_one rfl rfl rfl rfl ?_ | refine ed_two rfl rfl rfl rfl rfl rfl rfl ?_ | refine ed_write rfl rfl ?_
          | (refine g_lops ?_; first | refine el_none rfl ?_ | refine el_nil ?_ | refine el_yes rfl rfl ?_ | refine el_no rfl rfl ?_ | refine el_und rfl rfl ?_ | refine el_yesH rfl (by assumption) rfl ?_ | refine el_noH rfl (by assumption) rfl ?_)
          | refine el_same rfl ?_ | refine el_one rfl rfl rfl rfl rfl ?_ | refine el_write rfl rfl rfl ?_
          | (refine g_code ?_; first | refine ec_seq ?_ | refine ec_region ?_ | refine ec_draw ?_ | refine ec_drawL (X := [2, 3]) rfl ?_ | refine ec_block ?_ | refine ec_skip ?_ | refine ec_exit ?_ | refine ec_ret ?_ | refine ec_condT rfl ?_ | refine ec_condF rfl ?_ | refine ec_condTH rfl (by assumption) ?_ | refine ec_condFH rfl (by assumption) ?_)
          | refine ek_seqN ?_ | refine ek_seqX ?_ | refine ek_seqR ?_ | refine ek_blkN ?_ | refine ek_blkR ?_ | refine ek_blkX ?_ | refine ek_blkY rfl ?_)
        exact rnd_on (by rfl) (scmp2 (by rfl) (by rfl) (by exact ⟨rfl, rfl, rfl⟩) (by rfl) (by first | rfl | (simp; done) | (simp [ints, prs]; done)) (by rfl) (by first | rfl | (simp; done) | (simp [ints, prs]; done)))
      · have hq1 : decide (D.getD i 0 < 0) = false := decide_eq_false h0
        have hq2 : decide (D.getD i 0 ≥ D.getD g 0) = true := decide_eq_true (by omega)
        unfold m92_0
        repeat' (first
          | refine ep_loadS rfl rfl rfl hget ?_
          | refine ep_loadS rfl rfl rfl hgg ?_
          | (refine g_op ?_; first
            | refine ep_mov rfl ?_ | refine ep_load1 rfl rfl rfl rfl ?_ | refine ep_fieldAddr rfl ?_ | refine sp_loadN rfl rfl rfl rfl rfl ?_
            | refine ep_bin rfl rfl (by first | exact b_add (by omega) (by omega) | exact b_lss | exact b_geq) ?_ | refine ep_pickT rfl rfl ?_ | refine ep_pickF rfl rfl ?_ | refine ep_pickTH rfl (by assumption) rfl ?_
            | refine ep_pickFH rfl (by assumption) rfl ?_ | refine ep_extract rfl rfl ?_ | refine ep_lenS rfl ?_ | refine ep_lenN rfl ?_ | refine ep_lenE rfl ?_ | refine sp_bslice rfl rfl rfl rfl rfl ?_ | refine sp_push0 rfl (by first | exact .inl rfl | exact .inr rfl) rfl rfl rfl rfl rfl (by decide) rfl rfl rfl ?_
            | refine sp_push rfl rfl rfl rfl rfl rfl rfl (by first | exact ints_len _ | exact prs_len _ _ | exact zints_len _) (by omega) (Nat.zero_le _) rfl rfl rfl rfl rfl ?_ | refine sp_idx rfl rfl rfl (by omega) rfl ?_
            | refine ep_loadS rfl rfl rfl (by first | exact ints_get (by omega) | exact zints_get (by omega) | exact fget (by omega) | assumption) ?_ | refine ep_loadSN rfl rfl rfl (by first | exact prs_get (by omega) | exact fns_get (by omega)) ?_)
          | (refine g_ops ?_; first | refine eo_none ?_ | refine eo_nil ?_ | refine eo_yes rfl ?_ | refine eo_no rfl ?_ | refine eo_und rfl ?_ | refine eo_yesH rfl (by assumption) ?_ | refine eo_noH rfl (by assumption) ?_)
          | (refine g_dops ?_; first | refine ed_none ?_ | refine ed_nil ?_ | refine ed_yes rfl ?_ | refine ed_no rfl ?_ | refine ed_und rfl ?_ | refine ed_yesH rfl (by assumption) ?_ | refine ed_noH rfl (by assumption) ?_)
          | refine ed_same rfl ?_ | refine ed_one rfl rfl rfl rfl ?_ | refine ed_two rfl rfl rfl rfl rfl rfl rfl ?_ | refine ed_write rfl rfl ?_
          | (refine g_lops ?_; first | refine el_none rfl ?_ | refine el_nil ?_ | refine el_yes rfl rfl ?_ | refine el_no rfl rfl ?_ | refine el_und rfl rfl ?_ | refine el_yesH rfl (by assumption) rfl ?_ | refine el_noH rfl (by assumption) rfl ?_)
          | refine el_same rfl ?_ | refine el_one rfl rfl rfl rfl rfl ?_ | refine el_write rfl rfl rfl ?_
          | (refine g_code ?_; first | refine ec_seq ?_ | refine ec_region ?_ | refine ec_draw ?_ | refine ec_drawL (X := [2, 3]) rfl ?_ | refine ec_block ?_ | refine ec_skip ?_ | refine ec_exit ?_ | refine ec_ret ?_ | refine ec_condT rfl ?_ | refine ec_condF rfl ?_ | refine ec_condTH rfl (by assumption) ?_ | refine ec_condFH rfl (by assumption) ?_)
          | refine ek_seqN ?_ | refine ek_seqX ?_ | refine ek_seqR ?_ | refine ek_blkN ?_ | refine ek_blkR ?_ | refine ek_blkX ?_ | refine ek_blkY rfl ?_)
        exact rnd_on (by rfl) (scmp2 (by rfl) (by rfl) (by exact ⟨rfl, rfl, rfl⟩) (by rfl) (by first | rfl | (simp; done) | (simp [ints, prs]; done)) (by rfl) (by first | rfl | (simp; done) | (simp [ints, prs]; done)))
  · intro i t hi hf
    have hlt : decide ((i : Int) < (N : Nat)) = true := decide_eq_true (by omega)
    have hget := zints_get (l := D) (j := i) (by omega)
    have hgg := zints_get (l := D) (j := g) (by omega)
    have hzl := zints_len D
    by_cases hp : (decide (0 ≤ D.getD i 0 ∧ D.getD i 0 ≤ (d : Int) - 1)) = true
    · rw [if_pos hp] at hf
      have hp2 := of_decide_eq_true hp
      have hq1 : decide (D.getD i 0 < 0) = false := decide_eq_false (by omega)
      have hq2 : decide (D.getD i 0 ≥ D.getD g 0) = false := decide_eq_false (by omega)
      obtain ⟨ht, e1⟩ := (ih i hi hp).2 t hf
      simp only [← ints_snoc] at e1
      subst ha; subst ht
      rw [List.length_append, List.length_singleton]
      have e0 := evow_c q0 l l.length rfl hl1 (by omega)
      unfold m92_0
      repeat' (first
        | refine ep_loadS rfl rfl rfl hget ?_
        | refine ep_loadS rfl rfl rfl hgg ?_
        | (refine g_op ?_; first
          | refine ep_mov rfl ?_ | refine ep_load1 rfl rfl rfl rfl ?_ | refine ep_fieldAddr rfl ?_ | refine sp_loadN rfl rfl rfl rfl rfl ?_
          | refine ep_call0 rfl (by first | exact e0 | exact e1 _) rfl rfl ?_
          | refine sp_call rfl rfl rfl rfl (by first | exact e0 | exact e1 _) ⟨rfl, rfl, rfl, rfl⟩ rfl rfl rfl ?_
          | refine ep_callw0 rfl (by first | exact e0 | exact e1 _) rfl rfl ?_
          | refine sp_callw rfl rfl rfl rfl (by first | exact e0 | exact e1 _) ⟨rfl, rfl, rfl, rfl⟩ rfl rfl rfl (by first | exact WrP_refl _ _ | (repeat' (first | exact rfl | exact True.intro | refine And.intro ?_ ?_))) ?_
          | refine ep_bin rfl rfl (by first | exact b_add (by omega) (by omega) | exact b_lss | exact b_geq) ?_ | refine ep_pickT rfl rfl ?_ | refine ep_pickF rfl rfl ?_ | refine ep_pickTH rfl (by assumption) rfl ?_
          | refine ep_pickFH rfl (by assumption) rfl ?_ | refine ep_extract rfl rfl ?_ | refine ep_lenS rfl ?_ | refine ep_lenN rfl ?_ | refine ep_lenE rfl ?_ | refine sp_bslice rfl rfl rfl rfl rfl ?_ | refine sp_push0 rfl (by first | exact .inl rfl | exact .inr rfl) rfl rfl rfl rfl rfl (by decide) rfl rfl rfl ?_
          | refine sp_push rfl rfl rfl rfl rfl rfl rfl (by first | exact ints_len _ | exact prs_len _ _ | exact zints_len _) (by omega) (Nat.zero_le _) rfl rfl rfl rfl rfl ?_ | refine sp_idx rfl rfl rfl (by omega) rfl ?_
          | refine ep_loadS rfl rfl rfl (by first | exact ints_get (by omega) | exact zints_get (by omega) | exact fget (by omega) | assumption) ?_ | refine ep_loadSN rfl rfl rfl (by first | exact prs_get (by omega) | exact fns_get (by omega)) ?_)
        | (refine g_ops ?_; first | refine eo_none ?_ | refine eo_nil ?_ | refine eo_yes rfl ?_ | refine eo_no rfl ?_ | refine eo_und rfl ?_ | refine eo_yesH rfl (by assumption) ?_ | refine eo_noH rfl (by assumption) ?_)
        | (refine g_dops ?_; first | refine ed_none ?_ | refine ed_nil ?_ | refine ed_yes rfl ?_ | refine ed_no rfl ?_ | refine ed_und rfl ?_ | refine ed_yesH rfl (by assumption) ?_ | refine ed_noH rfl (by assumption) ?_)
        | refine ed_same rfl ?_ | refine ed_one rfl rfl rfl rfl ?_ | refine ed_two rfl rfl rfl rfl rfl rfl rfl ?_ | refine ed_write rfl rfl ?_
        | (refine g_lops ?_; first | refine el_none rfl ?_ | refine el_nil ?_ | refine el_yes rfl rfl ?_ | refine el_no rfl rfl ?_ | refine el_und rfl rfl ?_ | refine el_yesH rfl (by assumption) rfl ?_ | refine el_noH rfl (by assumption) rfl ?_)
        | refine el_same rfl ?_ | refine el_one rfl rfl rfl rfl rfl ?_ | refine el_write rfl rfl rfl ?_
        | (refine g_code ?_; first | refine ec_seq ?_ | refine ec_region ?_ | refine ec_draw ?_ | refine ec_drawL (X := [2, 3]) rfl ?_ | refine ec_block ?_ | refine ec_skip ?_ | refine ec_exit ?_ | refine ec_ret ?_ | refine ec_condT rfl ?_ | refine ec_condF rfl ?_ | refine ec_condTH rfl (by assumption) ?_ | refine ec_condFH rfl (by assumption) ?_)
        | refine ek_seqN ?_ | refine ek_seqX ?_ | refine ek_seqR ?_ | refine ek_blkN ?_ | refine ek_blkR ?_ | refine ek_blkX ?_ | refine ek_blkY rfl ?_)
      exact rnd_out (by rfl) (by simp) (scmp2 (by rfl) (by rfl) (by exact ⟨rfl, rfl, rfl⟩) (by rfl) (by first | rfl | (simp; done) | (simp [ints, prs]; done)) (by rfl) (by first | rfl | (simp; done) | (simp [ints, prs]; done)))
    · rw [if_neg hp] at hf; simp at hf
  · have hlt : decide (((N : Nat) : Int) < (N : Nat)) = false := decide_eq_false (by omega)
    unfold m92_0
    repeat' (first
      | (refine g_op ?_; first
        | refine ep_mov rfl ?_ | refine ep_load1 rfl rfl rfl rfl ?_ | refine ep_fieldAddr rfl ?_ | refine sp_loadN rfl rfl rfl rfl rfl ?_
        | refine ep_bin rfl rfl (by first | exact b_add (by omega) (by omega) | exact b_lss | exact b_geq) ?_ | refine ep_pickT rfl rfl ?_ | refine ep_pickF rfl rfl ?_ | refine ep_pickTH rfl (by assumption) rfl ?_
        | refine ep_pickFH rfl (by assumption) rfl ?_ | refine ep_extract rfl rfl ?_ | refine ep_lenS rfl ?_ | refine ep_lenN rfl ?_ | refine ep_lenE rfl ?_ | refine sp_bslice rfl rfl rfl rfl rfl ?_ | refine sp_push0 rfl (by first | exact .inl rfl | exact .inr rfl) rfl rfl rfl rfl rfl (by decide) rfl rfl rfl ?_
        | refine sp_push rfl rfl rfl rfl rfl rfl rfl (by first | exact ints_len _ | exact prs_len _ _ | exact zints_len _) (by omega) (Nat.zero_le _) rfl rfl rfl rfl rfl ?_ | refine sp_idx rfl rfl rfl (by omega) rfl ?_
        | refine ep_loadS rfl rfl rfl (by first | exact ints_get (by omega) | exact zints_get (by omega) | exact fget (by omega) | assumption) ?_ | refine ep_loadSN rfl rfl rfl (by first | exact prs_get (by omega) | exact fns_get (by omega)) ?_)
      | (refine g_ops ?_; first | refine eo_none ?_ | refine eo_nil ?_ | refine eo_yes rfl ?_ | refine eo_no rfl ?_ | refine eo_und rfl ?_ | refine eo_yesH rfl (by assumption) ?_ | refine eo_noH rfl (by assumption) ?_)
      | (refine g_dops ?_; first | refine ed_none ?_ | refine ed_nil ?_ | refine ed_yes rfl ?_ | refine ed_no rfl ?_ | refine ed_und rfl ?_ | refine ed_yesH rfl (by assumption) ?_ | refine ed_noH rfl (by assumption) ?_)
      | refine ed_same rfl ?_ | refine ed_one rfl rfl rfl rfl ?_ | refine ed_two rfl rfl rfl rfl rfl rfl rfl ?_ | refine ed_write rfl rfl ?_
      | (refine g_lops ?_; first | refine el_none rfl ?_ | refine el_nil ?_ | refine el_yes rfl rfl ?_ | refine el_no rfl rfl ?_ | refine el_und rfl rfl ?_ | refine el_yesH rfl (by assumption) rfl ?_ | refine el_noH rfl (by assumption) rfl ?_)
      | refine el_same rfl ?_ | refine el_one rfl rfl rfl rfl rfl ?_ | refine el_write rfl rfl rfl ?_
      | (refine g_code ?_; first | refine ec_seq ?_ | refine ec_region ?_ | refine ec_draw ?_ | refine ec_drawL (X := []) rfl ?_ | refine ec_block ?_ | refine ec_skip ?_ | refine ec_exit ?_ | refine ec_ret ?_ | refine ec_condT rfl ?_ | refine ec_condF rfl ?_ | refine ec_condTH rfl (by assumption) ?_ | refine ec_condFH rfl (by assumption) ?_)
      | refine ek_seqN ?_ | refine ek_seqX ?_ | refine ek_seqR ?_ | refine ek_blkN ?_ | refine ek_blkR ?_ | refine ek_blkX ?_ | refine ek_blkY rfl ?_)
    exact rnd_out (by rfl) (by simp) (scmp2 (by rfl) (by rfl) (by exact ⟨rfl, rfl, rfl⟩) (by rfl) (by first | rfl | (simp; done) | (simp [ints, prs]; done)) (by rfl) (by first | rfl | (simp; done) | (simp [ints, prs]; done)))
theorem lplq_c1 (n N d b g a q0 : Nat) (D : List Int) (l : List Nat) (hN : D.length = N) (hN6 : N ≤ 65536) (hgN : g < N) (hdd : D.getD g 0 = (d : Int)) (hl4 : l.length < 5) (hl1 : 1 ≤ l.length) (S : Nat → Option (List Nat)) (ih : ∀ i, i < N → (decide (0 ≤ D.getD i 0 ∧ D.getD i 0 ≤ (d : Int) - 1)) = true → (S i = none → ∀ q, Ev cx 92 [.agg [.int .i64 (a : Nat), .int .i64 (b : Nat)], .agg [.int .i64 (n : Nat), .int .i64 (g : Nat)], .sl 0 0 N, .sl 1 0 (l.length + 1)] [⟨zints D, 1, 0, some 0, false⟩, ⟨ints (l ++ [i]), 1, 1, some q, false⟩] (.tup [.nils, .bool false]) [⟨zints D, 1, 0, some 0, false⟩, ⟨ints (l ++ [i]), 1, 1, some q, false⟩]) ∧ ∀ t, S i = some t → ∀ q, Ev cx 92 [.agg [.int .i64 (a : Nat), .int .i64 (b : Nat)], .agg [.int .i64 (n : Nat), .int .i64 (g : Nat)], .sl 0 0 N, .sl 1 0 (l.length + 1)] [⟨zints D, 1, 0, some 0, false⟩, ⟨ints (l ++ [i]), 1, 1, some q, false⟩] (.tup [.sl 2 0 t.length, .bool true]) [⟨zints D, 1, 0, some 0, false⟩, ⟨ints (l ++ [i]), 1, 1, some q, false⟩, ⟨ints t, 1, 2, some 0, false⟩]) (o : Out) (ho : fsO (⟨.exit 0, [], [⟨zints D, 1, 0, some 0, false⟩, ⟨ints (l), 1, 1, some q0, false⟩]⟩ : Out) (fun _ t => (⟨.ret, [(8, .sl 2 0 t.length), (9, .bool true)], [⟨zints D, 1, 0, some 0, false⟩, ⟨ints (l), 1, 1, some q0, false⟩, ⟨ints t, 1, 2, some 0, false⟩]⟩ : Out)) (fsome (fun i => (if (decide (0 ≤ D.getD i 0 ∧ D.getD i 0 ≤ (d : Int) - 1)) = true then S i else none).map fun x => (i, x)) 0 N) = o) :
    LpS cx 64 2 m92_0 [(2, .sl 0 0 N), (3, .sl 1 0 l.length), (4, .ptr 2 0), (5, .ptr 3 0), (10, .int .i64 (0 : Nat))] [⟨zints D, 1, 0, some 0, false⟩, ⟨ints (l), 1, 1, some q0, false⟩, ⟨[.int .i64 (a : Nat), .int .i64 (b : Nat)], 1, 2, some 0, true⟩, ⟨[.int .i64 (n : Nat), .int .i64 (g : Nat)], 1, 3, some 0, true⟩] o.x o.e o.h := by
  refine lp_fs N (fun i => if (decide (0 ≤ D.getD i 0 ∧ D.getD i 0 ≤ (d : Int) - 1)) = true then S i else none) (fun i => [(2, .sl 0 0 N), (3, .sl 1 0 l.length), (4, .ptr 2 0), (5, .ptr 3 0), (10, .int .i64 (i : Nat))]) (fun i => [⟨zints D, 1, 0, some 0, false⟩, ⟨ints (l), 1, 1, some q0, false⟩, ⟨[.int .i64 (a : Nat), .int .i64 (b : Nat)], 1, 2, some 0, true⟩, ⟨[.int .i64 (n : Nat), .int .i64 (g : Nat)], 1, 3, some 0, true⟩]) (⟨.exit 0, [], [⟨zints D, 1, 0, some 0, false⟩, ⟨ints (l), 1, 1, some q0, false⟩]⟩ : Out) (fun _ t => (⟨.ret, [(8, .sl 2 0 t.length), (9, .bool true)], [⟨zints D, 1, 0, some 0, false⟩, ⟨ints (l), 1, 1, some q0, false⟩, ⟨ints t, 1, 2, some 0, false⟩]⟩ : Out)) ?_ ?_ ?_ N 0 o (by omega) ho
  · intro i hi hf
    have hlt : decide ((i : Int) < (N : Nat)) = true := decide_eq_true (by omega)
    have hget := zints_get (l := D) (j := i) (by omega)
    have hgg := zints_get (l := D) (j := g) (by omega)
    have hzl := zints_len D
    by_cases hp : (decide (0 ≤ D.getD i 0 ∧ D.getD i 0 ≤ (d : Int) - 1)) = true
    · rw [if_pos hp] at hf
      have hp2 := of_decide_eq_true hp
      have hq1 : decide (D.getD i 0 < 0) = false := decide_eq_false (by omega)
      have hq2 : decide (D.getD i 0 ≥ D.getD g 0) = false := decide_eq_false (by omega)
      have e1 := (ih i hi hp).1 hf
      simp only [← ints_snoc] at e1
      have e0 := evow_c q0 l l.length rfl hl1 (by omega)
      unfold m92_0
      repeat' (first
        | refine ep_loadS rfl rfl rfl hget ?_
        | refine ep_loadS rfl rfl rfl hgg ?_
        | (refine g_op ?_; first
          | refine ep_mov rfl ?_ | refine ep_load1 rfl rfl rfl rfl ?_ | refine ep_fieldAddr rfl ?_ | refine sp_loadN rfl rfl rfl rfl rfl ?_
          | refine ep_call0 rfl (by first | exact e0 | exact e1 _) rfl rfl ?_
          | refine sp_call rfl rfl rfl rfl (by first | exact e0 | exact e1 _) ⟨rfl, rfl, rfl, rfl⟩ rfl rfl rfl ?_
          | refine ep_callw0 rfl (by first | exact e0 | exact e1 _) rfl rfl ?_
          | refine sp_callw rfl rfl rfl rfl (by first | exact e0 | exact e1 _) ⟨rfl, rfl, rfl, rfl⟩ rfl rfl rfl (by first | exact WrP_refl _ _ | (repeat' (first | exact rfl | exact True.intro | refine And.intro ?_ ?_))) ?_
          | refine ep_bin rfl rfl (by first | exact b_add (by omega) (by omega) | exact b_lss | exact b_geq) ?_ | refine ep_pickT rfl rfl ?_ | refine ep_pickF rfl rfl ?_ | refine ep_pickTH rfl (by assumption) rfl ?_
          | refine ep_pickFH rfl (by assumption) rfl ?_ | refine ep_extract rfl rfl ?_ | refine ep_lenS rfl ?_ | refine ep_lenN rfl ?_ | refine ep_lenE rfl ?_ | refine sp_bslice rfl rfl rfl rfl rfl ?_ | refine sp_push0 rfl (by first | exact .inl rfl | exact .inr rfl) rfl rfl rfl rfl rfl (by decide) rfl rfl rfl ?_
          | refine sp_push rfl rfl rfl rfl rfl rfl rfl (by first | exact ints_len _ | exact prs_len _ _ | exact zints_len _) (by omega) (Nat.zero_le _) rfl rfl rfl rfl rfl ?_ | refine sp_idx rfl rfl rfl (by omega) rfl ?_
          | refine ep_loadS rfl rfl rfl (by first | exact ints_get (by omega) | exact zints_get (by omega) | exact fget (by omega) | assumption) ?_ | refine ep_loadSN rfl rfl rfl (by first | exact prs_get (by omega) | exact fns_get (by omega)) ?_)
        | (refine g_ops ?_; first | refine eo_none ?_ | refine eo_nil ?_ | refine eo_yes rfl ?_ | refine eo_no rfl ?_ | refine eo_und rfl ?_ | refine eo_yesH rfl (by assumption) ?_ | refine eo_noH rfl (by assumption) ?_)
        | (refine g_dops ?_; first | refine ed_none ?_ | refine ed_nil ?_ | refine ed_yes rfl ?_ | refine ed_no rfl ?_ | refine ed_und rfl ?_ | refine ed_yesH rfl (by assumption) ?_ | refine ed_noH rfl (by assumption) ?_)
        | refine ed_same rfl ?_ | refine ed_one rfl rfl rfl rfl ?_ | refine ed_two rfl rfl rfl rfl rfl rfl rfl ?_ | refine ed_write rfl rfl ?_
        | (refine g_lops ?_; first | refine el_none rfl ?_ | refine el_nil ?_ | refine el_yes rfl rfl ?_ | refine el_no rfl rfl ?_ | refine el_und rfl rfl ?_ | refine el_yesH rfl (by assumption) rfl ?_ | refine el_noH rfl (by assumption) rfl ?_)
        | refine el_same rfl ?_ | refine el_one rfl rfl rfl rfl rfl ?_ | refine el_write rfl rfl rfl ?_
        | (refine g_code ?_; first | refine ec_seq ?_ | refine ec_region ?_ | refine ec_draw ?_ | refine ec_drawL (X := [2, 3]) rfl ?_ | refine ec_block ?_ | refine ec_skip ?_ | refine ec_exit ?_ | refine ec_ret ?_ | refine ec_condT rfl ?_ | refine ec_condF rfl ?_ | refine ec_condTH rfl (by assumption) ?_ | refine ec_condFH rfl (by assumption) ?_)
        | refine ek_seqN ?_ | refine ek_seqX ?_ | refine ek_seqR ?_ | refine ek_blkN ?_ | refine ek_blkR ?_ | refine ek_blkX ?_ | refine ek_blkY rfl ?_)
      exact rnd_on (by rfl) (scmp2 (by rfl) (by rfl) (by exact ⟨rfl, rfl, rfl⟩) (by rfl) (by first | rfl | (simp; done) | (simp [ints, prs]; done)) (by rfl) (by first | rfl | (simp; done) | (simp [ints, prs]; done)))
    · have hp2 : ¬ (0 ≤ D.getD i 0 ∧ D.getD i 0 ≤ (d : Int) - 1) := by simpa using hp
      by_cases h0 : D.getD i 0 < 0
      · have hq1 : decide (D.getD i 0 < 0) = true := decide_eq_true h0
        unfold m92_0
        repeat' (first
          | refine ep_loadS rfl rfl rfl hget ?_
          | refine ep_loadS rfl rfl rfl hgg ?_
          | (refine g_op ?_; first
            | refine ep_mov rfl ?_ | refine ep_load1 rfl rfl rfl rfl ?_ | refine ep_fieldAddr rfl ?_ | refine sp_loadN rfl rfl rfl rfl rfl ?_
            | refine ep_bin rfl rfl (by first | exact b_add (by omega) (by omega) | exact b_lss | exact b_geq) ?_ | refine ep_pickT rfl rfl ?_ | refine ep_pickF rfl rfl ?_ | refine ep_pickTH rfl (by assumption) rfl ?_
            | refine ep_pickFH rfl (by assumption) rfl ?_ | refine ep_extract rfl rfl ?_ | refine ep_lenS rfl ?_ | refine ep_lenN rfl ?_ | refine ep_lenE rfl ?_ | refine sp_bslice rfl rfl rfl rfl rfl ?_ | refine sp_push0 rfl (by first | exact .inl rfl | exact .inr rfl) rfl rfl rfl rfl rfl (by decide) rfl rfl rfl ?_
            | refine sp_push rfl rfl rfl rfl rfl rfl rfl (by first | exact ints_len _ | exact prs_len _ _ | exact zints_len _) (by omega) (Nat.zero_le _) rfl rfl rfl rfl rfl ?_ | refine sp_idx rfl rfl rfl (by omega) rfl ?_
            | refine ep_loadS rfl rfl rfl (by first | exact ints_get (by omega) | exact zints_get (by omega) | exact fget (by omega) | assumption) ?_ | refine ep_loadSN rfl rfl rfl (by first | exact prs_get (by omega) | exact fns_get (by omega)) ?_)
          | (refine g_ops ?_; first | refine eo_none ?_ | refine eo_nil ?_ | refine eo_yes rfl ?_ | refine eo_no rfl ?_ | refine eo_und rfl ?_ | refine eo_yesH rfl (by assumption) ?_ | refine eo_noH rfl (by assumption) ?_)
          | (refine g_dops ?_; first | refine ed_none ?_ | refine ed_nil ?_ | refine ed_yes rfl ?_ | refine ed_no rfl ?_ | refine ed_und rfl ?_ | refine ed_yesH rfl (by assumption) ?_ | refine ed_noH rfl (by assumption) ?_)
          | refine ed_same rfl ?_ | refine ed_one rfl rfl rfl rfl ?_ | refine ed_two rfl rfl rfl rfl rfl rfl rfl ?_ | refine ed_write rfl rfl ?_
          | (refine g_lops ?_; first | refine el_none rfl ?_ | refine el_nil ?_ | refine el_yes rfl rfl ?_ | refine el_no rfl rfl ?_ | refine el_und rfl rfl ?_ | refine el_yesH rfl (by assumption) rfl ?_ | refine el_noH rfl (by assumption) rfl ?_)
          | refine el_same rfl ?_ | refine el_one rfl rfl rfl rfl rfl ?_ | refine el_write rfl rfl rfl ?_
          | (refine g_code ?_; first | refine ec_seq ?_ | refine ec_region ?_ | refine ec_draw ?_ | refine ec_drawL (X := [2, 3]) rfl ?_ | refine ec_block ?_ | refine ec_skip ?_ | refine ec_exit ?_ | refine ec_ret ?_ | refine ec_condT rfl ?_ | refine ec_condF rfl ?_ | refine ec_condTH rfl (by assumption) ?_ | refine ec_condFH rfl (by assumption) ?_)
          | refine ek_seqN ?_ | refine ek_seqX ?_ | refine ek_seqR ?_ | refine ek_blkN ?_ | refine ek_blkR ?_ | refine ek_blkX ?_ | refine ek_blkY rfl ?_)
        exact rnd_on (by rfl) (scmp2 (by rfl) (by rfl) (by exact ⟨rfl, rfl, rfl⟩) (by rfl) (by first | rfl | (simp; done) | (simp [ints, prs]; done)) (by rfl) (by first | rfl | (simp; done) | (simp [ints, prs]; done)))
      · have hq1 : decide (D.getD i 0 < 0) = false := decide_eq_false h0
        have hq2 : decide (D.getD i 0 ≥ D.getD g 0) = true := decide_eq_true (by omega)
        unfold m92_0
        repeat' (first
          | refine ep_loadS rfl rfl rfl hget ?_
          | refine ep_loadS rfl rfl rfl hgg ?_
          | (refine g_op ?_; first
            | refine ep_mov rfl ?_ | refine ep_load1 rfl rfl rfl rfl ?_ | refine ep_fieldAddr rfl ?_ | refine sp_loadN rfl rfl rfl rfl rfl ?_
            | refine ep_bin rfl rfl (by first | exact b_add (by omega) (by omega) | exact b_lss | exact b_geq) ?_ | refine ep_pickT rfl rfl ?_ | refine ep_pickF rfl rfl ?_ | refine ep_pickTH rfl (by assumption) rfl ?_
            | refine ep_pickFH rfl (by assumption) rfl ?_ | refine ep_extract rfl rfl ?_ | refine ep_lenS rfl ?_ | refine ep_lenN rfl ?_ | refine ep_lenE rfl ?_ | refine sp_bslice rfl rfl rfl rfl rfl ?_ | refine sp_push0 rfl (by first | exact .inl rfl | exact .inr rfl) rfl rfl rfl rfl rfl (by decide) rfl rfl rfl ?_
            | refine sp_push rfl rfl rfl rfl rfl rfl rfl (by first | exact ints_len _ | exact prs_len _ _ | exact zints_len _) (by omega) (Nat.zero_le _) rfl rfl rfl rfl rfl ?_ | refine sp_idx rfl rfl rfl (by omega) rfl ?_
            | refine ep_loadS rfl rfl rfl (by first | exact ints_get (by omega) | exact zints_get (by omega) | exact fget (by omega) | assumption) ?_ | refine ep_loadSN rfl rfl rfl (by first | exact prs_get (by omega) | exact fns_get (by omega)) ?_)
          | (refine g_ops ?_; first | refine eo_none ?_ | refine eo_nil ?_ | refine eo_yes rfl ?_ | refine eo_no rfl ?_ | refine eo_und rfl ?_ | refine eo_yesH rfl (by assumption) ?_ | refine eo_noH rfl (by assumption) ?_)
          | (refine g_dops ?_; first | refine ed_none ?_ | refine ed_nil ?_ | refine ed_yes rfl ?_ | refine ed_no rfl ?_ | refine ed_und rfl ?_ | refine ed_yesH rfl (by assumption) ?_ | refine ed_noH rfl (by assumption) ?_)
          | refine ed_same rfl ?_ | refine ed_one rfl rfl rfl rfl ?_ | refine ed_two rfl rfl rfl rfl rfl rfl rfl ?_ | refine ed_write rfl rfl ?_
          | (refine g_lops ?_; first | refine el_none rfl ?_ | refine el_nil ?_ | refine el_yes rfl rfl ?_ | refine el_no rfl rfl ?_ | refine el_und rfl rfl ?_ | refine el_yesH rfl (by assumption) rfl ?_ | refine el_noH rfl (by assumption) rfl ?_)
          | refine el_same rfl ?_ | refine el_one rfl rfl rfl rfl rfl ?_ | refine el_write rfl rfl rfl ?_
          | (refine g_code ?_; first | refine ec_seq ?_ | refine ec_region ?_ | refine ec_draw ?_ | refine ec_drawL (X := [2, 3]) rfl ?_ | refine ec_block ?_ | refine ec_skip ?_ | refine ec_exit ?_ | refine ec_ret ?_ | refine ec_condT rfl ?_ | refine ec_condF rfl ?_ | refine ec_condTH rfl (by assumption) ?_ | refine ec_condFH rfl (by assumption) ?_)
          | refine ek_seqN ?_ | refine ek_seqX ?_ | refine ek_seqR ?_ | refine ek_blkN ?_ | refine ek_blkR ?_ | refine ek_blkX ?_ | refine ek_blkY rfl ?_)
        exact rnd_on (by rfl) (scmp2 (by rfl) (by rfl) (by exact ⟨rfl, rfl, rfl⟩) (by rfl) (by first | rfl | (simp; done) | (simp [ints, prs]; done)) (by rfl) (by first | rfl | (simp; done) | (simp [ints, prs]; done)))
  · intro i t hi hf
    have hlt : decide ((i : Int) < (N : Nat)) = true := decide_eq_true (by omega)
    have hget := zints_get (l := D) (j := i) (by omega)
    have hgg := zints_get (l := D) (j := g) (by omega)
    have hzl := zints_len D
    by_cases hp : (decide (0 ≤ D.getD i 0 ∧ D.getD i 0 ≤ (d : Int) - 1)) = true
    · rw [if_pos hp] at hf
      have hp2 := of_decide_eq_true hp
      have hq1 : decide (D.getD i 0 < 0) = false := decide_eq_false (by omega)
      have hq2 : decide (D.getD i 0 ≥ D.getD g 0) = false := decide_eq_false (by omega)
      have e1 := (ih i hi hp).2 t hf
      simp only [← ints_snoc] at e1
      have e0 := evow_c q0 l l.length rfl hl1 (by omega)
      unfold m92_0
      repeat' (first
        | refine ep_loadS rfl rfl rfl hget ?_
        | refine ep_loadS rfl rfl rfl hgg ?_
        | (refine g_op ?_; first
          | refine ep_mov rfl ?_ | refine ep_load1 rfl rfl rfl rfl ?_ | refine ep_fieldAddr rfl ?_ | refine sp_loadN rfl rfl rfl rfl rfl ?_
          | refine ep_call0 rfl (by first | exact e0 | exact e1 _) rfl rfl ?_
          | refine sp_call rfl rfl rfl rfl (by first | exact e0 | exact e1 _) ⟨rfl, rfl, rfl, rfl⟩ rfl rfl rfl ?_
          | refine ep_callw0 rfl (by first | exact e0 | exact e1 _) rfl rfl ?_
          | refine sp_callw rfl rfl rfl rfl (by first | exact e0 | exact e1 _) ⟨rfl, rfl, rfl, rfl⟩ rfl rfl rfl (by first | exact WrP_refl _ _ | (repeat' (first | exact rfl | exact True.intro | refine And.intro ?_ ?_))) ?_
          | refine ep_bin rfl rfl (by first | exact b_add (by omega) (by omega) | exact b_lss | exact b_geq) ?_ | refine ep_pickT rfl rfl ?_ | refine ep_pickF rfl rfl ?_ | refine ep_pickTH rfl (by assumption) rfl ?_
          | refine ep_pickFH rfl (by assumption) rfl ?_ | refine ep_extract rfl rfl ?_ | refine ep_lenS rfl ?_ | refine ep_lenN rfl ?_ | refine ep_lenE rfl ?_ | refine sp_bslice rfl rfl rfl rfl rfl ?_ | refine sp_push0 rfl (by first | exact .inl rfl | exact .inr rfl) rfl rfl rfl rfl rfl (by decide) rfl rfl rfl ?_
          | refine sp_push rfl rfl rfl rfl rfl rfl rfl (by first | exact ints_len _ | exact prs_len _ _ | exact zints_len _) (by omega) (Nat.zero_le _) rfl rfl rfl rfl rfl ?_ | refine sp_idx rfl rfl rfl (by omega) rfl ?_
          | refine ep_loadS rfl rfl rfl (by first | exact ints_get (by omega) | exact zints_get (by omega) | exact fget (by omega) | assumption) ?_ | refine ep_loadSN rfl rfl rfl (by first | exact prs_get (by omega) | exact fns_get (by omega)) ?_)
        | (refine g_ops ?_; first | refine eo_none ?_ | refine eo_nil ?_ | refine eo_yes rfl ?_ | refine eo_no rfl ?_ | refine eo_und rfl ?_ | refine eo_yesH rfl (by assumption) ?_ | refine eo_noH rfl (by assumption) ?_)
        | (refine g_dops ?_; first | refine ed_none ?_ | refine ed_nil ?_ | refine ed_yes rfl ?_ | refine ed_no rfl ?_ | refine ed_und rfl ?_ | refine ed_yesH rfl (by assumption) ?_ | refine ed_noH rfl (by assumption) ?_)
        | refine ed_same rfl ?_ | refine ed_one rfl rfl rfl rfl ?_ | refine ed_two rfl rfl rfl rfl rfl rfl rfl ?_ | refine ed_write rfl rfl ?_
        | (refine g_lops ?_; first | refine el_none rfl ?_ | refine el_nil ?_ | refine el_yes rfl rfl ?_ | refine el_no rfl rfl ?_ | refine el_und rfl rfl ?_ | refine el_yesH rfl (by assumption) rfl ?_ | refine el_noH rfl (by assumption) rfl ?_)
        | refine el_same rfl ?_ | refine el_one rfl rfl rfl rfl rfl ?_ | refine el_write rfl rfl rfl ?_
        | (refine g_code ?_; first | refine ec_seq ?_ | refine ec_region ?_ | refine ec_draw ?_ | refine ec_drawL (X := [2, 3]) rfl ?_ | refine ec_block ?_ | refine ec_skip ?_ | refine ec_exit ?_ | refine ec_ret ?_ | refine ec_condT rfl ?_ | refine ec_condF rfl ?_ | refine ec_condTH rfl (by assumption) ?_ | refine ec_condFH rfl (by assumption) ?_)
        | refine ek_seqN ?_ | refine ek_seqX ?_ | refine ek_seqR ?_ | refine ek_blkN ?_ | refine ek_blkR ?_ | refine ek_blkX ?_ | refine ek_blkY rfl ?_)
      exact rnd_out (by rfl) (by simp) (scmp2 (by rfl) (by rfl) (by exact ⟨rfl, rfl, rfl⟩) (by rfl) (by first | rfl | (simp; done) | (simp [ints, prs]; done)) (by rfl) (by first | rfl | (simp; done) | (simp [ints, prs]; done)))
    · rw [if_neg hp] at hf; simp at hf
  · have hlt : decide (((N : Nat) : Int) < (N : Nat)) = false := decide_eq_false (by omega)
    unfold m92_0
    repeat' (first
      | (refine g_op ?_; first
        | refine ep_mov rfl ?_ | refine ep_load1 rfl rfl rfl rfl ?_ | refine ep_fieldAddr rfl ?_ | refine sp_loadN rfl rfl rfl rfl rfl ?_
        | refine ep_bin rfl rfl (by first | exact b_add (by omega) (by omega) | exact b_lss | exact b_geq) ?_ | refine ep_pickT rfl rfl ?_ | refine ep_pickF rfl rfl ?_ | refine ep_pickTH rfl (by assumption) rfl ?_
        | refine ep_pickFH rfl (by assumption) rfl ?_ | refine ep_extract rfl rfl ?_ | refine ep_lenS rfl ?_ | refine ep_lenN rfl ?_ | refine ep_lenE rfl ?_ | refine sp_bslice rfl rfl rfl rfl rfl ?_ | refine sp_push0 rfl (by first | exact .inl rfl | exact .inr rfl) rfl rfl rfl rfl rfl (by decide) rfl rfl rfl ?_
        | refine sp_push rfl rfl rfl rfl rfl rfl rfl (by first | exact ints_len _ | exact prs_len _ _ | exact zints_len _) (by omega) (Nat.zero_le _) rfl rfl rfl rfl rfl ?_ | refine sp_idx rfl rfl rfl (by omega) rfl ?_
        | refine ep_loadS rfl rfl rfl (by first | exact ints_get (by omega) | exact zints_get (by omega) | exact fget (by omega) | assumption) ?_ | refine ep_loadSN rfl rfl rfl (by first | exact prs_get (by omega) | exact fns_get (by omega)) ?_)
      | (refine g_ops ?_; first | refine eo_none ?_ | refine eo_nil ?_ | refine eo_yes rfl ?_ | refine eo_no rfl ?_ | refine eo_und rfl ?_ | refine eo_yesH rfl (by assumption) ?_ | refine eo_noH rfl (by assumption) ?_)
      | (refine g_dops ?_; first | refine ed_none ?_ | refine ed_nil ?_ | refine ed_yes rfl ?_ | refine ed_no rfl ?_ | refine ed_und rfl ?_ | refine ed_yesH rfl (by assumption) ?_ | refine ed_noH rfl (by assumption) ?_)
      | refine ed_same rfl ?_ | refine ed_one rfl rfl rfl rfl ?_ | refine ed_two rfl rfl rfl rfl rfl rfl rfl ?_ | refine ed_write rfl rfl ?_
      | (refine g_lops ?_; first | refine el_none rfl ?_ | refine el_nil ?_ | refine el_yes rfl rfl ?_ | refine el_no rfl rfl ?_ | refine el_und rfl rfl ?_ | refine el_yesH rfl (by assumption) rfl ?_ | refine el_noH rfl (by assumption) rfl ?_)
      | refine el_same rfl ?_ | refine el_one rfl rfl rfl rfl rfl ?_ | refine el_write rfl rfl rfl ?_
      | (refine g_code ?_; first | refine ec_seq ?_ | refine ec_region ?_ | refine ec_draw ?_ | refine ec_drawL (X := []) rfl ?_ | refine ec_block ?_ | refine ec_skip ?_ | refine ec_exit ?_ | refine ec_ret ?_ | refine ec_condT rfl ?_ | refine ec_condF rfl ?_ | refine ec_condTH rfl (by assumption) ?_ | refine ec_condFH rfl (by assumption) ?_)
      | refine ek_seqN ?_ | refine ek_seqX ?_ | refine ek_seqR ?_ | refine ek_blkN ?_ | refine ek_blkR ?_ | refine ek_blkX ?_ | refine ek_blkY rfl ?_)
    exact rnd_out (by rfl) (by simp) (scmp2 (by rfl) (by rfl) (by exact ⟨rfl, rfl, rfl⟩) (by rfl) (by first | rfl | (simp; done) | (simp [ints, prs]; done)) (by rfl) (by first | rfl | (simp; done) | (simp [ints, prs]; done)))
theorem evq_leaf {b n g N : Nat} {p : Nat → Bool} {l : List Nat} : (srchN N p (fun t => valS b (R2 n) t == g) 0 l = none → valS b (R2 n) l ≠ g) ∧ ∀ t, srchN N p (fun t => valS b (R2 n) t == g) 0 l = some t → t = l ∧ valS b (R2 n) l = g := by
  by_cases hg : valS b (R2 n) l = g
  · simp [srchN, hg, eq_comm]
  · simp [srchN, hg]
theorem hl6 {l : List Nat} {N : Nat} (hl : ∀ j, j < l.length → l.getD j 0 < N) (hN : N ≤ 65536) : ∀ j, j < l.length → l.getD j 0 < 65536 := fun j hj => by have := hl j hj; omega
theorem evq_c (n N d b g a : Nat) (D : List Int) (hN : D.length = N) (hNn : N = R2 (R2 n)) (hn : n ≤ 3) (hb : b < 65536) (ha : a ≤ 4) (hgN : g < N) (hdd : D.getD g 0 = (d : Int)) : ∀ (m : Nat) (l : List Nat) (q0 : Nat), l.length + (m + 1) = a → 1 ≤ l.length → (∀ j, j < l.length → l.getD j 0 < N) →
    (srchN N (fun b => decide (0 ≤ D.getD b 0 ∧ D.getD b 0 ≤ (d : Int) - 1)) (fun t => valS b (R2 n) t == g) (m + 1) l = none → Ev cx 92 [.agg [.int .i64 (a : Nat), .int .i64 (b : Nat)], .agg [.int .i64 (n : Nat), .int .i64 (g : Nat)], .sl 0 0 N, .sl 1 0 l.length] [⟨zints D, 1, 0, some 0, false⟩, ⟨ints (l), 1, 1, some q0, false⟩] (.tup [.nils, .bool false]) [⟨zints D, 1, 0, some 0, false⟩, ⟨ints (l), 1, 1, some q0, false⟩]) ∧ ∀ t, srchN N (fun b => decide (0 ≤ D.getD b 0 ∧ D.getD b 0 ≤ (d : Int) - 1)) (fun t => valS b (R2 n) t == g) (m + 1) l = some t → Ev cx 92 [.agg [.int .i64 (a : Nat), .int .i64 (b : Nat)], .agg [.int .i64 (n : Nat), .int .i64 (g : Nat)], .sl 0 0 N, .sl 1 0 l.length] [⟨zints D, 1, 0, some 0, false⟩, ⟨ints (l), 1, 1, some q0, false⟩] (.tup [.sl 2 0 t.length, .bool true]) [⟨zints D, 1, 0, some 0, false⟩, ⟨ints (l), 1, 1, some q0, false⟩, ⟨ints t, 1, 2, some 0, false⟩] := by
  have hN6 : N ≤ 65536 := by rw [hNn]; exact (shN (n := n) (by omega)).2.1
  intro m
  induction m with
  | zero =>
    intro l q0 hm hl1 hl
    have hq : (((l.length : Nat) : Int) == ((a : Nat) : Int)) = false := by rw [ieq]; simp; omega
    have ih : ∀ i, i < N → (decide (0 ≤ D.getD i 0 ∧ D.getD i 0 ≤ (d : Int) - 1)) = true → (srchN N (fun b => decide (0 ≤ D.getD b 0 ∧ D.getD b 0 ≤ (d : Int) - 1)) (fun t => valS b (R2 n) t == g) 0 (l ++ [i]) = none → ∀ q, Ev cx 92 [.agg [.int .i64 (a : Nat), .int .i64 (b : Nat)], .agg [.int .i64 (n : Nat), .int .i64 (g : Nat)], .sl 0 0 N, .sl 1 0 (l.length + 1)] [⟨zints D, 1, 0, some 0, false⟩, ⟨ints (l ++ [i]), 1, 1, some q, false⟩] (.tup [.sl 1 0 (l.length + 1), .bool false]) [⟨zints D, 1, 0, some 0, false⟩, ⟨ints (l ++ [i]), 1, 1, some q, false⟩]) ∧ ∀ t, srchN N (fun b => decide (0 ≤ D.getD b 0 ∧ D.getD b 0 ≤ (d : Int) - 1)) (fun t => valS b (R2 n) t == g) 0 (l ++ [i]) = some t → t = l ++ [i] ∧ ∀ q, Ev cx 92 [.agg [.int .i64 (a : Nat), .int .i64 (b : Nat)], .agg [.int .i64 (n : Nat), .int .i64 (g : Nat)], .sl 0 0 N, .sl 1 0 (l.length + 1)] [⟨zints D, 1, 0, some 0, false⟩, ⟨ints (l ++ [i]), 1, 1, some q, false⟩] (.tup [.sl 1 0 (l.length + 1), .bool true]) [⟨zints D, 1, 0, some 0, false⟩, ⟨ints (l ++ [i]), 1, 1, some q, false⟩] := fun i hi hp => by
      obtain ⟨f1, f2⟩ := evq_leaf (b := b) (n := n) (g := g) (N := N) (p := (fun b => decide (0 ≤ D.getD b 0 ∧ D.getD b 0 ≤ (d : Int) - 1))) (l := l ++ [i])
      have hle : (l ++ [i]).length = l.length + 1 := by rw [List.length_append, List.length_singleton]
      have ha' : a = l.length + 1 := by omega
      subst ha'
      refine ⟨fun h q => ?_, fun t h => ⟨(f2 t h).1, fun q => ?_⟩⟩
      · have h0 := evqb_c0 n N b g q D (l ++ [i]) (by omega) (hl6 (getD_snoc_lt hl hi) hN6) hn hb (f1 h)
        rw [hle] at h0
        exact h0
      · have h0 := evqb_c1 n N b g q D (l ++ [i]) (by omega) (hl6 (getD_snoc_lt hl hi) hN6) hn hb (f2 t h).2
        rw [hle] at h0
        exact h0
    have ha' : a = l.length + 1 := by omega
    obtain ⟨f1, f2⟩ := fsome_ix (f := fun i => if (decide (0 ≤ D.getD i 0 ∧ D.getD i 0 ≤ (d : Int) - 1)) = true then srchN N (fun b => decide (0 ≤ D.getD b 0 ∧ D.getD b 0 ≤ (d : Int) - 1)) (fun t => valS b (R2 n) t == g) 0 (l ++ [i]) else none) (j := N) (i := 0)
    refine ⟨fun hs => ?_, fun t hs => ?_⟩
    · have lp := lplq_c0 n N d b g a q0 D l hN hN6 hgN hdd (by omega) hl1 (fun i => srchN N (fun b => decide (0 ≤ D.getD b 0 ∧ D.getD b 0 ≤ (d : Int) - 1)) (fun t => valS b (R2 n) t == g) 0 (l ++ [i])) ih ha' (⟨.exit 0, [], [⟨zints D, 1, 0, some 0, false⟩, ⟨ints (l), 1, 1, some q0, false⟩]⟩ : Out) (by rw [f1 hs]; rfl)
      refine has92.eev rfl rfl ?_
      unfold m92
      repeat' (first
        | refine sc_loop lp rfl rfl ⟨rfl, rfl, rfl⟩ rfl rfl rfl ?_
        | (refine g_op ?_; first
          | refine ep_mov rfl ?_ | refine ep_load1 rfl rfl rfl rfl ?_ | refine ep_fieldAddr rfl ?_ | refine sp_loadN rfl rfl rfl rfl rfl ?_
          | refine ep_bin rfl rfl (by exact b_eql) ?_ | refine ep_lenS rfl ?_ | refine ep_lenN rfl ?_ | refine ep_lenE rfl ?_ | refine sp_box rfl rfl rfl rfl rfl ?_)
        | (refine g_ops ?_; first | refine eo_none ?_ | refine eo_nil ?_)
        | (refine g_dops ?_; first | refine ed_none ?_ | refine ed_nil ?_)
        | refine ed_same rfl ?_ | refine ed_one rfl rfl rfl rfl ?_ | refine ed_two rfl rfl rfl rfl rfl rfl rfl ?_ | refine ed_write rfl rfl ?_
        | (refine g_code ?_; first | refine ec_seq ?_ | refine ec_region ?_ | refine ec_draw ?_ | refine ec_block ?_ | refine ec_skip ?_ | refine ec_ret ?_ | refine ec_condT rfl ?_ | refine ec_condF rfl ?_ | refine ec_condTH rfl (by assumption) ?_ | refine ec_condFH rfl (by assumption) ?_)
        | refine ek_seqN ?_ | refine ek_seqX ?_ | refine ek_seqR ?_ | refine ek_blkN ?_ | refine ek_blkR ?_ | refine ek_blkX ?_ | refine ek_blkY rfl ?_)
      refine sfin (.inr rfl) (by rfl) (by rfl) (by exact ⟨rfl, rfl, rfl⟩) (by rfl) (by rfl) (by rfl) (by first | rfl | (simp; done) | (simp [ints, prs]; done))
    · obtain ⟨k, hk⟩ := f2 t hs
      have lp := lplq_c0 n N d b g a q0 D l hN hN6 hgN hdd (by omega) hl1 (fun i => srchN N (fun b => decide (0 ≤ D.getD b 0 ∧ D.getD b 0 ≤ (d : Int) - 1)) (fun t => valS b (R2 n) t == g) 0 (l ++ [i])) ih ha' (⟨.ret, [(8, .sl 2 0 t.length), (9, .bool true)], [⟨zints D, 1, 0, some 0, false⟩, ⟨ints (l), 1, 1, some q0, false⟩, ⟨ints t, 1, 2, some 0, false⟩]⟩ : Out) (by rw [hk]; rfl)
      refine has92.eev rfl rfl ?_
      unfold m92
      repeat' (first
        | refine sc_loop lp rfl rfl ⟨rfl, rfl, rfl⟩ rfl rfl rfl ?_
        | (refine g_op ?_; first
          | refine ep_mov rfl ?_ | refine ep_load1 rfl rfl rfl rfl ?_ | refine ep_fieldAddr rfl ?_ | refine sp_loadN rfl rfl rfl rfl rfl ?_
          | refine ep_bin rfl rfl (by exact b_eql) ?_ | refine ep_lenS rfl ?_ | refine ep_lenN rfl ?_ | refine ep_lenE rfl ?_ | refine sp_box rfl rfl rfl rfl rfl ?_)
        | (refine g_ops ?_; first | refine eo_none ?_ | refine eo_nil ?_)
        | (refine g_dops ?_; first | refine ed_none ?_ | refine ed_nil ?_)
        | refine ed_same rfl ?_ | refine ed_one rfl rfl rfl rfl ?_ | refine ed_two rfl rfl rfl rfl rfl rfl rfl ?_ | refine ed_write rfl rfl ?_
        | (refine g_code ?_; first | refine ec_seq ?_ | refine ec_region ?_ | refine ec_draw ?_ | refine ec_block ?_ | refine ec_skip ?_ | refine ec_ret ?_ | refine ec_condT rfl ?_ | refine ec_condF rfl ?_ | refine ec_condTH rfl (by assumption) ?_ | refine ec_condFH rfl (by assumption) ?_)
        | refine ek_seqN ?_ | refine ek_seqX ?_ | refine ek_seqR ?_ | refine ek_blkN ?_ | refine ek_blkR ?_ | refine ek_blkX ?_ | refine ek_blkY rfl ?_)
      refine sfin (.inr rfl) (by rfl) (by rfl) (by exact ⟨rfl, rfl, rfl⟩) (by rfl) (by rfl) (by rfl) (by first | rfl | (simp; done) | (simp [ints, prs]; done))
  | succ m ihm =>
    intro l q0 hm hl1 hl
    have hq : (((l.length : Nat) : Int) == ((a : Nat) : Int)) = false := by rw [ieq]; simp; omega
    have hle : ∀ i, (l ++ [i]).length = l.length + 1 := fun i => by rw [List.length_append, List.length_singleton]
    have ih := fun i (hi : i < N) (hp : (decide (0 ≤ D.getD i 0 ∧ D.getD i 0 ≤ (d : Int) - 1)) = true) => by
      have h0 := fun q => ihm (l ++ [i]) q (by rw [hle]; omega) (by simp) (getD_snoc_lt hl hi)
      simp only [hle] at h0
      exact (⟨fun h q => (h0 q).1 h, fun t h q => (h0 q).2 t h⟩ : (srchN N (fun b => decide (0 ≤ D.getD b 0 ∧ D.getD b 0 ≤ (d : Int) - 1)) (fun t => valS b (R2 n) t == g) (m + 1) (l ++ [i]) = none → ∀ q, _) ∧ ∀ t, srchN N (fun b => decide (0 ≤ D.getD b 0 ∧ D.getD b 0 ≤ (d : Int) - 1)) (fun t => valS b (R2 n) t == g) (m + 1) (l ++ [i]) = some t → ∀ q, _)
    obtain ⟨f1, f2⟩ := fsome_ix (f := fun i => if (decide (0 ≤ D.getD i 0 ∧ D.getD i 0 ≤ (d : Int) - 1)) = true then srchN N (fun b => decide (0 ≤ D.getD b 0 ∧ D.getD b 0 ≤ (d : Int) - 1)) (fun t => valS b (R2 n) t == g) (m + 1) (l ++ [i]) else none) (j := N) (i := 0)
    refine ⟨fun hs => ?_, fun t hs => ?_⟩
    · have lp := lplq_c1 n N d b g a q0 D l hN hN6 hgN hdd (by omega) hl1 (fun i => srchN N (fun b => decide (0 ≤ D.getD b 0 ∧ D.getD b 0 ≤ (d : Int) - 1)) (fun t => valS b (R2 n) t == g) (m + 1) (l ++ [i])) ih (⟨.exit 0, [], [⟨zints D, 1, 0, some 0, false⟩, ⟨ints (l), 1, 1, some q0, false⟩]⟩ : Out) (by rw [f1 hs]; rfl)
      refine has92.eev rfl rfl ?_
      unfold m92
      repeat' (first
        | refine sc_loop lp rfl rfl ⟨rfl, rfl, rfl⟩ rfl rfl rfl ?_
        | (refine g_op ?_; first
          | refine ep_mov rfl ?_ | refine ep_load1 rfl rfl rfl rfl ?_ | refine ep_fieldAddr rfl ?_ | refine sp_loadN rfl rfl rfl rfl rfl ?_
          | refine ep_bin rfl rfl (by exact b_eql) ?_ | refine ep_lenS rfl ?_ | refine ep_lenN rfl ?_ | refine ep_lenE rfl ?_ | refine sp_box rfl rfl rfl rfl rfl ?_)
        | (refine g_ops ?_; first | refine eo_none ?_ | refine eo_nil ?_)
        | (refine g_dops ?_; first | refine ed_none ?_ | refine ed_nil ?_)
        | refine ed_same rfl ?_ | refine ed_one rfl rfl rfl rfl ?_ | refine ed_two rfl rfl rfl rfl rfl rfl rfl ?_ | refine ed_write rfl rfl ?_
        | (refine g_code ?_; first | refine ec_seq ?_ | refine ec_region ?_ | refine ec_draw ?_ | refine ec_block ?_ | refine ec_skip ?_ | refine ec_ret ?_ | refine ec_condT rfl ?_ | refine ec_condF rfl ?_ | refine ec_condTH rfl (by assumption) ?_ | refine ec_condFH rfl (by assumption) ?_)
        | refine ek_seqN ?_ | refine ek_seqX ?_ | refine ek_seqR ?_ | refine ek_blkN ?_ | refine ek_blkR ?_ | refine ek_blkX ?_ | refine ek_blkY rfl ?_)
      refine sfin (.inr rfl) (by rfl) (by rfl) (by exact ⟨rfl, rfl, rfl⟩) (by rfl) (by rfl) (by rfl) (by first | rfl | (simp; done) | (simp [ints, prs]; done))
    · obtain ⟨k, hk⟩ := f2 t hs
      have lp := lplq_c1 n N d b g a q0 D l hN hN6 hgN hdd (by omega) hl1 (fun i => srchN N (fun b => decide (0 ≤ D.getD b 0 ∧ D.getD b 0 ≤ (d : Int) - 1)) (fun t => valS b (R2 n) t == g) (m + 1) (l ++ [i])) ih (⟨.ret, [(8, .sl 2 0 t.length), (9, .bool true)], [⟨zints D, 1, 0, some 0, false⟩, ⟨ints (l), 1, 1, some q0, false⟩, ⟨ints t, 1, 2, some 0, false⟩]⟩ : Out) (by rw [hk]; rfl)
      refine has92.eev rfl rfl ?_
      unfold m92
      repeat' (first
        | refine sc_loop lp rfl rfl ⟨rfl, rfl, rfl⟩ rfl rfl rfl ?_
        | (refine g_op ?_; first
          | refine ep_mov rfl ?_ | refine ep_load1 rfl rfl rfl rfl ?_ | refine ep_fieldAddr rfl ?_ | refine sp_loadN rfl rfl rfl rfl rfl ?_
          | refine ep_bin rfl rfl (by exact b_eql) ?_ | refine ep_lenS rfl ?_ | refine ep_lenN rfl ?_ | refine ep_lenE rfl ?_ | refine sp_box rfl rfl rfl rfl rfl ?_)
        | (refine g_ops ?_; first | refine eo_none ?_ | refine eo_nil ?_)
        | (refine g_dops ?_; first | refine ed_none ?_ | refine ed_nil ?_)
        | refine ed_same rfl ?_ | refine ed_one rfl rfl rfl rfl ?_ | refine ed_two rfl rfl rfl rfl rfl rfl rfl ?_ | refine ed_write rfl rfl ?_
        | (refine g_code ?_; first | refine ec_seq ?_ | refine ec_region ?_ | refine ec_draw ?_ | refine ec_block ?_ | refine ec_skip ?_ | refine ec_ret ?_ | refine ec_condT rfl ?_ | refine ec_condF rfl ?_ | refine ec_condTH rfl (by assumption) ?_ | refine ec_condFH rfl (by assumption) ?_)
        | refine ek_seqN ?_ | refine ek_seqX ?_ | refine ek_seqR ?_ | refine ek_blkN ?_ | refine ek_blkR ?_ | refine ek_blkX ?_ | refine ek_blkY rfl ?_)
      refine sfin (.inr rfl) (by rfl) (by rfl) (by exact ⟨rfl, rfl, rfl⟩) (by rfl) (by rfl) (by rfl) (by first | rfl | (simp; done) | (simp [ints, prs]; done))
theorem evq_e (n N d b g a m : Nat) (D : List Int) (hN : D.length = N) (hNn : N = R2 (R2 n)) (hn : n ≤ 3) (hb : b < 65536) (ha : a ≤ 4) (hgN : g < N) (hdd : D.getD g 0 = (d : Int)) (ham : a = m + 1) :
    (srchN N (fun b => decide (0 ≤ D.getD b 0 ∧ D.getD b 0 ≤ (d : Int) - 1)) (fun t => valS b (R2 n) t == g) a [] = none → Ev cx 92 [.agg [.int .i64 (a : Nat), .int .i64 (b : Nat)], .agg [.int .i64 (n : Nat), .int .i64 (g : Nat)], .sl 0 0 N, .emp] [⟨zints D, 1, 0, some 0, false⟩] (.tup [.nils, .bool false]) [⟨zints D, 1, 0, some 0, false⟩]) ∧ ∀ t, srchN N (fun b => decide (0 ≤ D.getD b 0 ∧ D.getD b 0 ≤ (d : Int) - 1)) (fun t => valS b (R2 n) t == g) a [] = some t → Ev cx 92 [.agg [.int .i64 (a : Nat), .int .i64 (b : Nat)], .agg [.int .i64 (n : Nat), .int .i64 (g : Nat)], .sl 0 0 N, .emp] [⟨zints D, 1, 0, some 0, false⟩] (.tup [.sl 1 0 t.length, .bool true]) [⟨zints D, 1, 0, some 0, false⟩, ⟨ints t, 1, 1, some 0, false⟩] := by
  have hN6 : N ≤ 65536 := by rw [hNn]; exact (shN (n := n) (by omega)).2.1
  have hq : ((0 : Int) == ((a : Nat) : Int)) = false := by rw [ham]; simp; omega
  obtain ⟨f1, f2⟩ := fsome_ix (f := fun i => if (decide (0 ≤ D.getD i 0 ∧ D.getD i 0 ≤ (d : Int) - 1)) = true then srchN N (fun b => decide (0 ≤ D.getD b 0 ∧ D.getD b 0 ≤ (d : Int) - 1)) (fun t => valS b (R2 n) t == g) m ([] ++ [i]) else none) (j := N) (i := 0)
  have h1l : ∀ i, i < N → ∀ j, j < [i].length → [i].getD j 0 < N := fun i hi j hj => by
    obtain rfl : j = 0 := by simpa using hj
    exact hi
  cases m with
  | zero =>
    have ih : ∀ i, i < N → (decide (0 ≤ D.getD i 0 ∧ D.getD i 0 ≤ (d : Int) - 1)) = true → (srchN N (fun b => decide (0 ≤ D.getD b 0 ∧ D.getD b 0 ≤ (d : Int) - 1)) (fun t => valS b (R2 n) t == g) 0 ([] ++ [i]) = none → ∀ q, Ev cx 92 [.agg [.int .i64 (a : Nat), .int .i64 (b : Nat)], .agg [.int .i64 (n : Nat), .int .i64 (g : Nat)], .sl 0 0 N, .sl 1 0 1] [⟨zints D, 1, 0, some 0, false⟩, ⟨[.int .i64 (i : Nat)], 1, 1, some q, false⟩] (.tup [.sl 1 0 1, .bool false]) [⟨zints D, 1, 0, some 0, false⟩, ⟨[.int .i64 (i : Nat)], 1, 1, some q, false⟩]) ∧ ∀ t, srchN N (fun b => decide (0 ≤ D.getD b 0 ∧ D.getD b 0 ≤ (d : Int) - 1)) (fun t => valS b (R2 n) t == g) 0 ([] ++ [i]) = some t → t = [i] ∧ ∀ q, Ev cx 92 [.agg [.int .i64 (a : Nat), .int .i64 (b : Nat)], .agg [.int .i64 (n : Nat), .int .i64 (g : Nat)], .sl 0 0 N, .sl 1 0 1] [⟨zints D, 1, 0, some 0, false⟩, ⟨[.int .i64 (i : Nat)], 1, 1, some q, false⟩] (.tup [.sl 1 0 1, .bool true]) [⟨zints D, 1, 0, some 0, false⟩, ⟨[.int .i64 (i : Nat)], 1, 1, some q, false⟩] := fun i hi hp => by
      obtain ⟨f1, f2⟩ := evq_leaf (b := b) (n := n) (g := g) (N := N) (p := (fun b => decide (0 ≤ D.getD b 0 ∧ D.getD b 0 ≤ (d : Int) - 1))) (l := [i])
      subst ham
      exact ⟨fun h q => evqb_c0 n N b g q D [i] (by simp) (hl6 (h1l i hi) hN6) hn hb (f1 h), fun t h => ⟨(f2 t h).1, fun q => evqb_c1 n N b g q D [i] (by simp) (hl6 (h1l i hi) hN6) hn hb (f2 t h).2⟩⟩
    refine ⟨fun hs => ?_, fun t hs => ?_⟩
    · rw [ham] at hs
      have lp := lplq_e0 n N d b g a D hN hN6 hgN hdd (fun i => srchN N (fun b => decide (0 ≤ D.getD b 0 ∧ D.getD b 0 ≤ (d : Int) - 1)) (fun t => valS b (R2 n) t == g) 0 ([] ++ [i])) ih ham (⟨.exit 0, [], [⟨zints D, 1, 0, some 0, false⟩]⟩ : Out) (by rw [f1 hs]; rfl)
      refine has92.eev rfl rfl ?_
      unfold m92
      repeat' (first
        | refine sc_loop lp rfl rfl ⟨rfl, rfl, rfl⟩ rfl rfl rfl ?_
        | (refine g_op ?_; first
          | refine ep_mov rfl ?_ | refine ep_load1 rfl rfl rfl rfl ?_ | refine ep_fieldAddr rfl ?_ | refine sp_loadN rfl rfl rfl rfl rfl ?_
          | refine ep_bin rfl rfl (by exact b_eql) ?_ | refine ep_lenS rfl ?_ | refine ep_lenN rfl ?_ | refine ep_lenE rfl ?_ | refine sp_box rfl rfl rfl rfl rfl ?_)
        | (refine g_ops ?_; first | refine eo_none ?_ | refine eo_nil ?_)
        | (refine g_dops ?_; first | refine ed_none ?_ | refine ed_nil ?_)
        | refine ed_same rfl ?_ | refine ed_one rfl rfl rfl rfl ?_ | refine ed_two rfl rfl rfl rfl rfl rfl rfl ?_ | refine ed_write rfl rfl ?_
        | (refine g_code ?_; first | refine ec_seq ?_ | refine ec_region ?_ | refine ec_draw ?_ | refine ec_block ?_ | refine ec_skip ?_ | refine ec_ret ?_ | refine ec_condT rfl ?_ | refine ec_condF rfl ?_ | refine ec_condTH rfl (by assumption) ?_ | refine ec_condFH rfl (by assumption) ?_)
        | refine ek_seqN ?_ | refine ek_seqX ?_ | refine ek_seqR ?_ | refine ek_blkN ?_ | refine ek_blkR ?_ | refine ek_blkX ?_ | refine ek_blkY rfl ?_)
      refine sfin (.inr rfl) (by rfl) (by rfl) (by exact ⟨rfl, rfl, rfl⟩) (by rfl) (by rfl) (by rfl) (by first | rfl | (simp; done) | (simp [ints, prs]; done))
    · rw [ham] at hs
      obtain ⟨k, hk⟩ := f2 t hs
      have lp := lplq_e0 n N d b g a D hN hN6 hgN hdd (fun i => srchN N (fun b => decide (0 ≤ D.getD b 0 ∧ D.getD b 0 ≤ (d : Int) - 1)) (fun t => valS b (R2 n) t == g) 0 ([] ++ [i])) ih ham (⟨.ret, [(8, .sl 1 0 t.length), (9, .bool true)], [⟨zints D, 1, 0, some 0, false⟩, ⟨ints t, 1, 1, some 0, false⟩]⟩ : Out) (by rw [hk]; rfl)
      refine has92.eev rfl rfl ?_
      unfold m92
      repeat' (first
        | refine sc_loop lp rfl rfl ⟨rfl, rfl, rfl⟩ rfl rfl rfl ?_
        | (refine g_op ?_; first
          | refine ep_mov rfl ?_ | refine ep_load1 rfl rfl rfl rfl ?_ | refine ep_fieldAddr rfl ?_ | refine sp_loadN rfl rfl rfl rfl rfl ?_
          | refine ep_bin rfl rfl (by exact b_eql) ?_ | refine ep_lenS rfl ?_ | refine ep_lenN rfl ?_ | refine ep_lenE rfl ?_ | refine sp_box rfl rfl rfl rfl rfl ?_)
        | (refine g_ops ?_; first | refine eo_none ?_ | refine eo_nil ?_)
        | (refine g_dops ?_; first | refine ed_none ?_ | refine ed_nil ?_)
        | refine ed_same rfl ?_ | refine ed_one rfl rfl rfl rfl ?_ | refine ed_two rfl rfl rfl rfl rfl rfl rfl ?_ | refine ed_write rfl rfl ?_
        | (refine g_code ?_; first | refine ec_seq ?_ | refine ec_region ?_ | refine ec_draw ?_ | refine ec_block ?_ | refine ec_skip ?_ | refine ec_ret ?_ | refine ec_condT rfl ?_ | refine ec_condF rfl ?_ | refine ec_condTH rfl (by assumption) ?_ | refine ec_condFH rfl (by assumption) ?_)
        | refine ek_seqN ?_ | refine ek_seqX ?_ | refine ek_seqR ?_ | refine ek_blkN ?_ | refine ek_blkR ?_ | refine ek_blkX ?_ | refine ek_blkY rfl ?_)
      refine sfin (.inr rfl) (by rfl) (by rfl) (by exact ⟨rfl, rfl, rfl⟩) (by rfl) (by rfl) (by rfl) (by first | rfl | (simp; done) | (simp [ints, prs]; done))
  | succ m =>
    have ih := fun i (hi : i < N) (hp : (decide (0 ≤ D.getD i 0 ∧ D.getD i 0 ≤ (d : Int) - 1)) = true) => by
      have h0 := fun q => evq_c n N d b g a D hN hNn hn hb ha hgN hdd m [i] q (by simp; omega) (by simp) (h1l i hi)
      exact (⟨fun h q => (h0 q).1 h, fun t h q => (h0 q).2 t h⟩ : (srchN N (fun b => decide (0 ≤ D.getD b 0 ∧ D.getD b 0 ≤ (d : Int) - 1)) (fun t => valS b (R2 n) t == g) (m + 1) ([] ++ [i]) = none → ∀ q, _) ∧ ∀ t, srchN N (fun b => decide (0 ≤ D.getD b 0 ∧ D.getD b 0 ≤ (d : Int) - 1)) (fun t => valS b (R2 n) t == g) (m + 1) ([] ++ [i]) = some t → ∀ q, _)
    refine ⟨fun hs => ?_, fun t hs => ?_⟩
    · rw [ham] at hs
      have lp := lplq_e1 n N d b g a D hN hN6 hgN hdd (fun i => srchN N (fun b => decide (0 ≤ D.getD b 0 ∧ D.getD b 0 ≤ (d : Int) - 1)) (fun t => valS b (R2 n) t == g) (m + 1) ([] ++ [i])) ih (⟨.exit 0, [], [⟨zints D, 1, 0, some 0, false⟩]⟩ : Out) (by rw [f1 hs]; rfl)
      refine has92.eev rfl rfl ?_
      unfold m92
      repeat' (first
        | refine sc_loop lp rfl rfl ⟨rfl, rfl, rfl⟩ rfl rfl rfl ?_
        | (refine g_op ?_; first
          | refine ep_mov rfl ?_ | refine ep_load1 rfl rfl rfl rfl ?_ | refine ep_fieldAddr rfl ?_ | refine sp_loadN rfl rfl rfl rfl rfl ?_
          | refine ep_bin rfl rfl (by exact b_eql) ?_ | refine ep_lenS rfl ?_ | refine ep_lenN rfl ?_ | refine ep_lenE rfl ?_ | refine sp_box rfl rfl rfl rfl rfl ?_)
        | (refine g_ops ?_; first | refine eo_none ?_ | refine eo_nil ?_)
        | (refine g_dops ?_; first | refine ed_none ?_ | refine ed_nil ?_)
        | refine ed_same rfl ?_ | refine ed_one rfl rfl rfl rfl ?_ | refine ed_two rfl rfl rfl rfl rfl rfl rfl ?_ | refine ed_write rfl rfl ?_
        | (refine g_code ?_; first | refine ec_seq ?_ | refine ec_region ?_ | refine ec_draw ?_ | refine ec_block ?_ | refine ec_skip ?_ | refine ec_ret ?_ | refine ec_condT rfl ?_ | refine ec_condF rfl ?_ | refine ec_condTH rfl (by assumption) ?_ | refine ec_condFH rfl (by assumption) ?_)
        | refine ek_seqN ?_ | refine ek_seqX ?_ | refine ek_seqR ?_ | refine ek_blkN ?_ | refine ek_blkR ?_ | refine ek_blkX ?_ | refine ek_blkY rfl ?_)
      refine sfin (.inr rfl) (by rfl) (by rfl) (by exact ⟨rfl, rfl, rfl⟩) (by rfl) (by rfl) (by rfl) (by first | rfl | (simp; done) | (simp [ints, prs]; done))
    · rw [ham] at hs
      obtain ⟨k, hk⟩ := f2 t hs
      have lp := lplq_e1 n N d b g a D hN hN6 hgN hdd (fun i => srchN N (fun b => decide (0 ≤ D.getD b 0 ∧ D.getD b 0 ≤ (d : Int) - 1)) (fun t => valS b (R2 n) t == g) (m + 1) ([] ++ [i])) ih (⟨.ret, [(8, .sl 1 0 t.length), (9, .bool true)], [⟨zints D, 1, 0, some 0, false⟩, ⟨ints t, 1, 1, some 0, false⟩]⟩ : Out) (by rw [hk]; rfl)
      refine has92.eev rfl rfl ?_
      unfold m92
      repeat' (first
        | refine sc_loop lp rfl rfl ⟨rfl, rfl, rfl⟩ rfl rfl rfl ?_
        | (refine g_op ?_; first
          | refine ep_mov rfl ?_ | refine ep_load1 rfl rfl rfl rfl ?_ | refine ep_fieldAddr rfl ?_ | refine sp_loadN rfl rfl rfl rfl rfl ?_
          | refine ep_bin rfl rfl (by exact b_eql) ?_ | refine ep_lenS rfl ?_ | refine ep_lenN rfl ?_ | refine ep_lenE rfl ?_ | refine sp_box rfl rfl rfl rfl rfl ?_)
        | (refine g_ops ?_; first | refine eo_none ?_ | refine eo_nil ?_)
        | (refine g_dops ?_; first | refine ed_none ?_ | refine ed_nil ?_)
        | refine ed_same rfl ?_ | refine ed_one rfl rfl rfl rfl ?_ | refine ed_two rfl rfl rfl rfl rfl rfl rfl ?_ | refine ed_write rfl rfl ?_
        | (refine g_code ?_; first | refine ec_seq ?_ | refine ec_region ?_ | refine ec_draw ?_ | refine ec_block ?_ | refine ec_skip ?_ | refine ec_ret ?_ | refine ec_condT rfl ?_ | refine ec_condF rfl ?_ | refine ec_condTH rfl (by assumption) ?_ | refine ec_condFH rfl (by assumption) ?_)
        | refine ek_seqN ?_ | refine ek_seqX ?_ | refine ek_seqR ?_ | refine ek_blkN ?_ | refine ek_blkR ?_ | refine ek_blkX ?_ | refine ek_blkY rfl ?_)
      refine sfin (.inr rfl) (by rfl) (by rfl) (by exact ⟨rfl, rfl, rfl⟩) (by rfl) (by rfl) (by rfl) (by first | rfl | (simp; done) | (simp [ints, prs]; done))

-- spec.LastStep
def m51_1 : MC := (.seq (.seq (.region [⟨(.mov (.t 13)), (some 58), none⟩, ⟨(.mov (.t 10)), (some 59), none⟩, ⟨(.len (.t 59)), (some 60), none⟩, ⟨(.bin .lss (.t 58) (.t 60)), (some 61), none⟩] false) (.cond (.t 61) .skip (.exit 3))) (.seq (.block 4 (.region [⟨(.mov (.t 12)), (some 64), none⟩, ⟨(.fieldAddr 0 (.t 3)), (some 65), none⟩, ⟨(.load none (.t 65)), (some 66), none⟩, ⟨(.mov (.t 10)), (some 67), none⟩, ⟨(.mov (.t 13)), (some 68), none⟩, ⟨(.indexAddr 1 (.t 67) (.t 68)), (some 69), none⟩, ⟨(.load none (.t 69)), (some 70), none⟩, ⟨(.build [(.int .i64 0), (.int .i64 0)] [(0, (1, (.t 66))), (1, (1, (.t 70)))]), (some 71), none⟩, ⟨(.bslice 2 [(.int .i64 0), (.int .i64 0)] 1 [(0, (2, (.t 71)))]), (some 72), none⟩, ⟨(.append 2 16 (.t 64) (.t 72)), (some 73), none⟩, ⟨(.mov (.t 73)), (some 12), none⟩] true)) (.region [⟨(.mov (.t 13)), (some 62), none⟩, ⟨(.bin .add (.t 62) (.k (.int .i64 1))), (some 63), none⟩, ⟨(.mov (.t 63)), (some 13), none⟩] false)))
def m51_0 : MC := (.seq (.seq (.region [⟨(.mov (.t 9)), (some 38), none⟩, ⟨(.mov (.t 0)), (some 39), none⟩, ⟨(.len (.t 39)), (some 40), none⟩, ⟨(.bin .lss (.t 38) (.t 40)), (some 41), none⟩] false) (.cond (.t 41) .skip (.exit 1))) (.seq (.block 2 (.seq (.region [⟨(.mov (.t 0)), (some 45), none⟩, ⟨(.mov (.t 9)), (some 46), none⟩, ⟨(.indexAddr 2 (.t 45) (.t 46)), (some 47), none⟩, ⟨(.load (some 2) (.t 47)), (some 48), none⟩, ⟨(.load (some 2) (.t 3)), (some 49), none⟩, ⟨(.mov (.t 8)), (some 50), none⟩, ⟨.empt, (some 51), none⟩, ⟨(.callw 92 [(.t 48), (.t 49), (.t 50), (.t 51)]), (some 52), none⟩, ⟨(.mov (.t 52)), (some 44), none⟩, ⟨(.extract (.t 44) 0), (some 53), none⟩, ⟨(.extract (.t 44) 1), (some 54), none⟩, ⟨(.mov (.t 53)), (some 10), none⟩, ⟨(.mov (.t 54)), (some 11), none⟩] true) (.seq (.seq (.region [⟨(.mov (.t 11)), (some 55), none⟩, ⟨(.un .not (.t 55)), (some 56), none⟩] false) (.cond (.t 56) (.exit 2) .skip)) (.seq (.region [⟨.empt, (some 57), none⟩, ⟨(.mov (.t 57)), (some 12), none⟩] false) (.seq (.seq (.region [⟨(.mov (.k (.int .i64 0))), (some 13), none⟩] false) (.block 3 (.loop m51_1))) (.seq (.region [⟨(.mov (.t 9)), (some 74), none⟩, ⟨(.mov (.t 12)), (some 75), none⟩, ⟨(.mov (.t 74)), (some 4), none⟩, ⟨(.mov (.t 75)), (some 5), none⟩, ⟨(.mov (.k (.int .i64 0))), (some 6), none⟩] false) .ret)))))) (.region [⟨(.mov (.t 9)), (some 42), none⟩, ⟨(.bin .add (.t 42) (.k (.int .i64 1))), (some 43), none⟩, ⟨(.mov (.t 43)), (some 9), none⟩] false)))
def m51 : MC := (.seq (.region [⟨(.box (.t 1)), (some 3), none⟩, ⟨(.mov (.k (.int .i64 0))), (some 4), none⟩, ⟨(.mov (.k .nils)), (some 5), none⟩, ⟨(.mov (.k (.int .i64 0))), (some 6), none⟩] false) (.seq (.seq (.region [⟨(.mov (.t 0)), (some 14), none⟩, ⟨(.load (some 2) (.t 3)), (some 15), none⟩, ⟨(.call 84 [(.t 14), (.t 15)]), (some 16), none⟩, ⟨(.mov (.t 16)), (some 7), none⟩] false) (.seq (.region [⟨(.mov (.t 7)), (some 17), none⟩, ⟨(.bin .neq (.t 17) (.k (.int .i64 0))), (some 18), none⟩] false) (.cond (.t 18) (.seq (.region [⟨(.mov (.t 7)), (some 19), none⟩, ⟨(.mov (.k (.int .i64 0))), (some 4), none⟩, ⟨(.mov (.k .nils)), (some 5), none⟩, ⟨(.mov (.t 19)), (some 6), none⟩] false) .ret) .skip))) (.seq (.region [⟨(.mov (.t 0)), (some 20), none⟩, ⟨(.fieldAddr 0 (.t 3)), (some 21), none⟩, ⟨(.load none (.t 21)), (some 22), none⟩, ⟨(.call 83 [(.t 20), (.t 22)]), (some 23), none⟩, ⟨(.mov (.t 23)), (some 8), none⟩] false) (.seq (.block 0 (.seq (.region [⟨(.mov (.t 8)), (some 25), none⟩, ⟨(.fieldAddr 1 (.t 3)), (some 26), none⟩, ⟨(.load none (.t 26)), (some 27), none⟩, ⟨(.indexAddr 1 (.t 25) (.t 27)), (some 28), none⟩, ⟨(.load none (.t 28)), (some 29), none⟩, ⟨(.bin .lss (.t 29) (.k (.int .i64 0))), (some 30), none⟩, ⟨(.mov (.t 30)), (some 24), none⟩] false) (.cond (.t 24) (.seq (.region [⟨(.mov (.k (.int .i64 0))), (some 4), none⟩, ⟨(.mov (.k .nils)), (some 5), none⟩, ⟨(.mov (.k (.int .i64 4))), (some 6), none⟩] false) .ret) (.seq (.region [⟨(.mov (.t 8)), (some 32), none⟩, ⟨(.fieldAddr 1 (.t 3)), (some 33), none⟩, ⟨(.load none (.t 33)), (some 34), none⟩, ⟨(.indexAddr 1 (.t 32) (.t 34)), (some 35), none⟩, ⟨(.load none (.t 35)), (some 36), none⟩, ⟨(.bin .eql (.t 36) (.k (.int .i64 0))), (some 37), none⟩, ⟨(.mov (.t 37)), (some 31), none⟩] false) (.cond (.t 31) (.seq (.region [⟨(.mov (.k (.int .i64 0))), (some 4), none⟩, ⟨(.mov (.k .nils)), (some 5), none⟩, ⟨(.mov (.k (.int .i64 5))), (some 6), none⟩] false) .ret) .skip))))) (.seq (.seq (.region [⟨(.mov (.k (.int .i64 0))), (some 9), none⟩] false) (.block 1 (.loop m51_0))) (.seq (.region [⟨(.mov (.k (.int .i64 0))), (some 4), none⟩, ⟨(.mov (.k .nils)), (some 5), none⟩, ⟨(.mov (.k (.int .i64 4))), (some 6), none⟩] false) .ret))))))
theorem has51 : Has cx 51 76 m51 [(.tmp 4), (.tmp 5), (.tmp 6)] :=
  ⟨⟨Try.f51, Try.f51.body.getD .skip, by kernel_rfl, by kernel_rfl, by kernel_rfl, by kernel_rfl, by kernel_rfl, by kernel_rfl⟩⟩
theorem t_selm (t : List Nat) : ∀ j, j ≤ t.length → selm (fun _ => true) (fun j => t.getD j 0) j = t.take j
  | 0, _ => by simp [selm]
  | j + 1, h => by
    rw [selm_t (p := fun _ => true) rfl, t_selm t j (by omega), List.take_add_one]
    rw [List.getD_eq_getElem?_getD, List.getElem?_eq_getElem (by omega)]; rfl
theorem lplt1 (n g k0 : Nat) (fs : List (Int × Int)) (t : List Nat) (hl4 : t.length ≤ 4) (o : Out) (ho : (match selm (fun _ => true) (fun j => t.getD j 0) (t.length) with | [] => (⟨.exit 3, [(9, .int .i64 (k0 : Nat)), (12, .emp)], [⟨fns fs, 2, 0, some 0, false⟩]⟩ : Out) | x :: xs => ⟨.exit 3, [(9, .int .i64 (k0 : Nat)), (12, .sl 1 0 (x :: xs).length)], [⟨fns fs, 2, 0, some 0, false⟩, ⟨prs n (x :: xs), 2, 1, some 0, false⟩]⟩) = o) :
    LpS cx 76 1 m51_1 [(3, .ptr 1 0), (9, .int .i64 (k0 : Nat)), (10, .sl 2 0 t.length), (12, .emp), (13, .int .i64 (0 : Nat))] [⟨fns fs, 2, 0, some 0, false⟩, ⟨[.int .i64 (n : Nat), .int .i64 (g : Nat)], 1, 1, some 0, true⟩, ⟨ints t, 1, 2, some 0, false⟩] o.x o.e o.h := by
  subst ho
  refine lp_st (t.length) (selm (fun _ => true) (fun j => t.getD j 0)) (fun i s => match s with | [] => [(3, .ptr 1 0), (9, .int .i64 (k0 : Nat)), (10, .sl 2 0 t.length), (12, .emp), (13, .int .i64 (i : Nat))] | x :: xs => [(3, .ptr 1 0), (9, .int .i64 (k0 : Nat)), (10, .sl 2 0 t.length), (12, .sl 3 0 (x :: xs).length), (13, .int .i64 (i : Nat))]) (fun i s => match s with | [] => [⟨fns fs, 2, 0, some 0, false⟩, ⟨[.int .i64 (n : Nat), .int .i64 (g : Nat)], 1, 1, some 0, true⟩, ⟨ints t, 1, 2, some 0, false⟩] | x :: xs => [⟨fns fs, 2, 0, some 0, false⟩, ⟨[.int .i64 (n : Nat), .int .i64 (g : Nat)], 1, 1, some 0, true⟩, ⟨ints t, 1, 2, some 0, false⟩, ⟨prs n (x :: xs), 2, 3, some 0, false⟩]) (fun s => match s with | [] => ⟨.exit 3, [(9, .int .i64 (k0 : Nat)), (12, .emp)], [⟨fns fs, 2, 0, some 0, false⟩]⟩ | x :: xs => ⟨.exit 3, [(9, .int .i64 (k0 : Nat)), (12, .sl 1 0 (x :: xs).length)], [⟨fns fs, 2, 0, some 0, false⟩, ⟨prs n (x :: xs), 2, 1, some 0, false⟩]⟩) ?_ ?_ (t.length) 0 (by omega)
  · intro i s hi hs
    have hlt : decide ((i : Int) < (t.length : Nat)) = true := decide_eq_true (by omega)
    have hle : decide ((i : Int) ≤ (t.length : Nat) - 1) = true := decide_eq_true (by omega)
    have hlen : s.length ≤ 5 := by have := selm_len (fun _ => true) (fun j => t.getD j 0) i; rw [hs] at this; omega
    have hget := ints_get (l := t) (j := i) (by omega)
    have hp : (fun _ => true) i = true := rfl
    cases s with
    | nil =>
      refine ⟨[(fun j => t.getD j 0) i], by rw [selm_t (p := fun _ => true) hp, hs]; try rfl, ?_⟩
      unfold m51_1
      repeat' (first
        | refine ep_loadS rfl rfl rfl hget ?_
        | (refine g_op ?_; first
          | refine ep_mov rfl ?_ | refine ep_load1 rfl rfl rfl rfl ?_ | refine ep_fieldAddr rfl ?_
          | refine ep_bin rfl rfl (by first | exact b_add (by omega) (by omega) | exact b_lss) ?_ | refine ep_lenS rfl ?_ | refine ep_lenN rfl ?_ | refine ep_lenE rfl ?_ | refine sp_build rfl rfl ?_ | refine sp_bslice rfl rfl rfl rfl rfl ?_
          | refine sp_push0 rfl (by first | exact .inl rfl | exact .inr rfl) rfl rfl rfl rfl rfl (by decide) rfl rfl rfl ?_ | refine sp_push rfl rfl rfl rfl rfl rfl rfl (by first | exact ints_len _ | exact prs_len _ _ | exact zints_len _) (by omega) (Nat.zero_le _) rfl rfl rfl rfl rfl ?_
          | refine sp_idx rfl rfl rfl (by omega) rfl ?_ | refine ep_loadS rfl rfl rfl (by first | exact ints_get (by omega) | exact zints_get (by omega) | exact fget (by omega) | assumption) ?_)
        | (refine g_ops ?_; first | refine eo_none ?_ | refine eo_nil ?_)
        | (refine g_dops ?_; first | refine ed_none ?_ | refine ed_nil ?_)
        | refine ed_same rfl ?_ | refine ed_one rfl rfl rfl rfl ?_ | refine ed_two rfl rfl rfl rfl rfl rfl rfl ?_ | refine ed_write rfl rfl ?_
        | (refine g_code ?_; first | refine ec_seq ?_ | refine ec_region ?_ | refine ec_draw ?_ | refine ec_block ?_ | refine ec_skip ?_ | refine ec_exit ?_ | refine ec_condT rfl ?_ | refine ec_condF rfl ?_ | refine ec_condTH rfl (by assumption) ?_ | refine ec_condFH rfl (by assumption) ?_)
        | refine ek_seqN ?_ | refine ek_seqX ?_ | refine ek_blkN ?_ | refine ek_blkR ?_ | refine ek_blkX ?_ | refine ek_blkY rfl ?_)
      exact rnd_on (by rfl) (scmp2 (by rfl) (by rfl) (by exact ⟨rfl, rfl, rfl⟩) (by rfl) (by first | rfl | (simp; done) | (simp [ints, prs]; done)) (by rfl) (by first | rfl | (simp; done) | (simp [ints, prs]; done)))
    | cons x xs =>
      refine ⟨(x :: xs) ++ [(fun j => t.getD j 0) i], by rw [selm_t (p := fun _ => true) hp, hs]; try rfl, ?_⟩
      unfold m51_1
      repeat' (first
        | refine ep_loadS rfl rfl rfl hget ?_
        | (refine g_op ?_; first
          | refine ep_mov rfl ?_ | refine ep_load1 rfl rfl rfl rfl ?_ | refine ep_fieldAddr rfl ?_
          | refine ep_bin rfl rfl (by first | exact b_add (by omega) (by omega) | exact b_lss) ?_ | refine ep_lenS rfl ?_ | refine ep_lenN rfl ?_ | refine ep_lenE rfl ?_ | refine sp_build rfl rfl ?_ | refine sp_bslice rfl rfl rfl rfl rfl ?_
          | refine sp_push0 rfl (by first | exact .inl rfl | exact .inr rfl) rfl rfl rfl rfl rfl (by decide) rfl rfl rfl ?_ | refine sp_push rfl rfl rfl rfl rfl rfl rfl (by first | exact ints_len _ | exact prs_len _ _ | exact zints_len _) (by omega) (Nat.zero_le _) rfl rfl rfl rfl rfl ?_
          | refine sp_idx rfl rfl rfl (by omega) rfl ?_ | refine ep_loadS rfl rfl rfl (by first | exact ints_get (by omega) | exact zints_get (by omega) | exact fget (by omega) | assumption) ?_)
        | (refine g_ops ?_; first | refine eo_none ?_ | refine eo_nil ?_)
        | (refine g_dops ?_; first | refine ed_none ?_ | refine ed_nil ?_)
        | refine ed_same rfl ?_ | refine ed_one rfl rfl rfl rfl ?_ | refine ed_two rfl rfl rfl rfl rfl rfl rfl ?_ | refine ed_write rfl rfl ?_
        | (refine g_code ?_; first | refine ec_seq ?_ | refine ec_region ?_ | refine ec_draw ?_ | refine ec_block ?_ | refine ec_skip ?_ | refine ec_exit ?_ | refine ec_condT rfl ?_ | refine ec_condF rfl ?_ | refine ec_condTH rfl (by assumption) ?_ | refine ec_condFH rfl (by assumption) ?_)
        | refine ek_seqN ?_ | refine ek_seqX ?_ | refine ek_blkN ?_ | refine ek_blkR ?_ | refine ek_blkX ?_ | refine ek_blkY rfl ?_)
      exact rnd_on (by rfl) (scmp2 (by rfl) (by rfl) (by exact ⟨rfl, rfl, rfl⟩) (by rfl) (by first | rfl | (simp; done) | (simp [ints, prs]; done)) (by rfl) (by first | rfl | (simp; done) | (simp [ints, prs]; done)))
  · intro s hs
    have hlt : decide (((t.length : Nat) : Int) < (t.length : Nat)) = false := decide_eq_false (by omega)
    have hle : decide (((t.length : Nat) : Int) ≤ (t.length : Nat) - 1) = false := decide_eq_false (by omega)
    cases s with
    | nil =>
      unfold m51_1
      repeat' (first
        | (refine g_op ?_; first
          | refine ep_mov rfl ?_ | refine ep_load1 rfl rfl rfl rfl ?_ | refine ep_fieldAddr rfl ?_
          | refine ep_bin rfl rfl (by first | exact b_add (by omega) (by omega) | exact b_lss) ?_ | refine ep_lenS rfl ?_ | refine ep_lenN rfl ?_ | refine ep_lenE rfl ?_ | refine sp_build rfl rfl ?_ | refine sp_bslice rfl rfl rfl rfl rfl ?_
          | refine sp_push0 rfl (by first | exact .inl rfl | exact .inr rfl) rfl rfl rfl rfl rfl (by decide) rfl rfl rfl ?_ | refine sp_push rfl rfl rfl rfl rfl rfl rfl (by first | exact ints_len _ | exact prs_len _ _ | exact zints_len _) (by omega) (Nat.zero_le _) rfl rfl rfl rfl rfl ?_
          | refine sp_idx rfl rfl rfl (by omega) rfl ?_ | refine ep_loadS rfl rfl rfl (by first | exact ints_get (by omega) | exact zints_get (by omega) | exact fget (by omega) | assumption) ?_)
        | (refine g_ops ?_; first | refine eo_none ?_ | refine eo_nil ?_)
        | (refine g_dops ?_; first | refine ed_none ?_ | refine ed_nil ?_)
        | refine ed_same rfl ?_ | refine ed_one rfl rfl rfl rfl ?_ | refine ed_two rfl rfl rfl rfl rfl rfl rfl ?_ | refine ed_write rfl rfl ?_
        | (refine g_code ?_; first | refine ec_seq ?_ | refine ec_region ?_ | refine ec_draw ?_ | refine ec_block ?_ | refine ec_skip ?_ | refine ec_exit ?_ | refine ec_condT rfl ?_ | refine ec_condF rfl ?_ | refine ec_condTH rfl (by assumption) ?_ | refine ec_condFH rfl (by assumption) ?_)
        | refine ek_seqN ?_ | refine ek_seqX ?_ | refine ek_blkN ?_ | refine ek_blkR ?_ | refine ek_blkX ?_ | refine ek_blkY rfl ?_)
      exact rnd_out (by rfl) (by simp) (scmp2 (by rfl) (by rfl) (by exact ⟨rfl, rfl, rfl⟩) (by rfl) (by first | rfl | (simp; done) | (simp [ints, prs]; done)) (by rfl) (by first | rfl | (simp; done) | (simp [ints, prs]; done)))
    | cons x xs =>
      unfold m51_1
      repeat' (first
        | (refine g_op ?_; first
          | refine ep_mov rfl ?_ | refine ep_load1 rfl rfl rfl rfl ?_ | refine ep_fieldAddr rfl ?_
          | refine ep_bin rfl rfl (by first | exact b_add (by omega) (by omega) | exact b_lss) ?_ | refine ep_lenS rfl ?_ | refine ep_lenN rfl ?_ | refine ep_lenE rfl ?_ | refine sp_build rfl rfl ?_ | refine sp_bslice rfl rfl rfl rfl rfl ?_
          | refine sp_push0 rfl (by first | exact .inl rfl | exact .inr rfl) rfl rfl rfl rfl rfl (by decide) rfl rfl rfl ?_ | refine sp_push rfl rfl rfl rfl rfl rfl rfl (by first | exact ints_len _ | exact prs_len _ _ | exact zints_len _) (by omega) (Nat.zero_le _) rfl rfl rfl rfl rfl ?_
          | refine sp_idx rfl rfl rfl (by omega) rfl ?_ | refine ep_loadS rfl rfl rfl (by first | exact ints_get (by omega) | exact zints_get (by omega) | exact fget (by omega) | assumption) ?_)
        | (refine g_ops ?_; first | refine eo_none ?_ | refine eo_nil ?_)
        | (refine g_dops ?_; first | refine ed_none ?_ | refine ed_nil ?_)
        | refine ed_same rfl ?_ | refine ed_one rfl rfl rfl rfl ?_ | refine ed_two rfl rfl rfl rfl rfl rfl rfl ?_ | refine ed_write rfl rfl ?_
        | (refine g_code ?_; first | refine ec_seq ?_ | refine ec_region ?_ | refine ec_draw ?_ | refine ec_block ?_ | refine ec_skip ?_ | refine ec_exit ?_ | refine ec_condT rfl ?_ | refine ec_condF rfl ?_ | refine ec_condTH rfl (by assumption) ?_ | refine ec_condFH rfl (by assumption) ?_)
        | refine ek_seqN ?_ | refine ek_seqX ?_ | refine ek_blkN ?_ | refine ek_blkR ?_ | refine ek_blkX ?_ | refine ek_blkY rfl ?_)
      exact rnd_out (by rfl) (by simp) (scmp2 (by rfl) (by rfl) (by exact ⟨rfl, rfl, rfl⟩) (by rfl) (by first | rfl | (simp; done) | (simp [ints, prs]; done)) (by rfl) (by first | rfl | (simp; done) | (simp [ints, prs]; done)))

theorem lplt1e (n g k0 : Nat) (fs : List (Int × Int)) :
    LpS cx 76 1 m51_1 [(3, .ptr 1 0), (9, .int .i64 (k0 : Nat)), (10, .emp), (12, .emp), (13, .int .i64 (0 : Nat))] [⟨fns fs, 2, 0, some 0, false⟩, ⟨[.int .i64 (n : Nat), .int .i64 (g : Nat)], 1, 1, some 0, true⟩] (⟨.exit 3, [(9, .int .i64 (k0 : Nat)), (12, .emp)], [⟨fns fs, 2, 0, some 0, false⟩]⟩ : Out).x (⟨.exit 3, [(9, .int .i64 (k0 : Nat)), (12, .emp)], [⟨fns fs, 2, 0, some 0, false⟩]⟩ : Out).e (⟨.exit 3, [(9, .int .i64 (k0 : Nat)), (12, .emp)], [⟨fns fs, 2, 0, some 0, false⟩]⟩ : Out).h := by
  refine lp_st (0) (fun _ => ()) (fun i _ => [(3, .ptr 1 0), (9, .int .i64 (k0 : Nat)), (10, .emp), (12, .emp), (13, .int .i64 (i : Nat))]) (fun i _ => [⟨fns fs, 2, 0, some 0, false⟩, ⟨[.int .i64 (n : Nat), .int .i64 (g : Nat)], 1, 1, some 0, true⟩]) (fun _ => (⟨.exit 3, [(9, .int .i64 (k0 : Nat)), (12, .emp)], [⟨fns fs, 2, 0, some 0, false⟩]⟩ : Out)) ?_ ?_ (0) 0 (by omega)
  · intro i u_ hi hu_
    refine ⟨(), rfl, ?_⟩
    exact absurd hi (by simp)
  · intro u_ hu_
    have hlt : decide (((0 : Nat) : Int) < (0 : Nat)) = false := decide_eq_false (by omega)
    unfold m51_1
    repeat' (first
      | (refine g_op ?_; first
        | refine ep_mov rfl ?_ | refine ep_load1 rfl rfl rfl rfl ?_ | refine ep_fieldAddr rfl ?_
        | refine ep_bin rfl rfl (by first | exact b_add (by omega) (by omega) | exact b_lss) ?_ | refine ep_lenS rfl ?_ | refine ep_lenN rfl ?_ | refine ep_lenE rfl ?_ | refine sp_build rfl rfl ?_ | refine sp_bslice rfl rfl rfl rfl rfl ?_
        | refine sp_push0 rfl (by first | exact .inl rfl | exact .inr rfl) rfl rfl rfl rfl rfl (by decide) rfl rfl rfl ?_ | refine sp_push rfl rfl rfl rfl rfl rfl rfl (by first | exact ints_len _ | exact prs_len _ _ | exact zints_len _) (by omega) (Nat.zero_le _) rfl rfl rfl rfl rfl ?_
        | refine sp_idx rfl rfl rfl (by omega) rfl ?_ | refine ep_loadS rfl rfl rfl (by first | exact ints_get (by omega) | exact zints_get (by omega) | exact fget (by omega) | assumption) ?_)
      | (refine g_ops ?_; first | refine eo_none ?_ | refine eo_nil ?_)
      | (refine g_dops ?_; first | refine ed_none ?_ | refine ed_nil ?_)
      | refine ed_same rfl ?_ | refine ed_one rfl rfl rfl rfl ?_ | refine ed_two rfl rfl rfl rfl rfl rfl rfl ?_ | refine ed_write rfl rfl ?_
      | (refine g_code ?_; first | refine ec_seq ?_ | refine ec_region ?_ | refine ec_draw ?_ | refine ec_block ?_ | refine ec_skip ?_ | refine ec_exit ?_ | refine ec_condT rfl ?_ | refine ec_condF rfl ?_ | refine ec_condTH rfl (by assumption) ?_ | refine ec_condFH rfl (by assumption) ?_)
      | refine ek_seqN ?_ | refine ek_seqX ?_ | refine ek_blkN ?_ | refine ek_blkR ?_ | refine ek_blkX ?_ | refine ek_blkY rfl ?_)
    exact rnd_out (by rfl) (by simp) (scmp2 (by rfl) (by rfl) (by exact ⟨rfl, rfl, rfl⟩) (by rfl) (by first | rfl | (simp; done) | (simp [ints, prs]; done)) (by rfl) (by first | rfl | (simp; done) | (simp [ints, prs]; done)))

theorem lplS (n N d g : Nat) (fs : List (Int × Int)) (hNn : N = R2 (R2 n)) (hn : n ≤ 3) (hall : allFunc fs = true) (hln : fs.length ≤ 1048576) (hgN : g < N) (hdd : (depL fs n).getD g 0 = (d : Int)) (o : Out) (ho : fsO (⟨.exit 1, [], [⟨fns fs, 2, 0, some 0, false⟩]⟩ : Out) (fun i t => (⟨.ret, [(4, .int .i64 (i : Nat)), (5, slV .emp 1 t), (6, .int .i64 0)], ⟨fns fs, 2, 0, some 0, false⟩ :: slH 1 2 (prs n) t⟩ : Out)) (lsX fs n d g) = o) :
    LpS cx 76 1 m51_0 [(0, .sl 0 0 fs.length), (3, .ptr 1 0), (8, .sl 2 0 N), (9, .int .i64 (0 : Nat))] [⟨fns fs, 2, 0, some 0, false⟩, ⟨[.int .i64 (n : Nat), .int .i64 (g : Nat)], 1, 1, some 0, true⟩, ⟨zints (depL fs n), 1, 2, some 0, false⟩] o.x o.e o.h := by
  have hDl : (depL fs n).length = N := by rw [hNn]; exact depL_len fs n
  refine lp_fs fs.length (lsF fs n d g) (fun i => [(0, .sl 0 0 fs.length), (3, .ptr 1 0), (8, .sl 2 0 N), (9, .int .i64 (i : Nat))]) (fun i => [⟨fns fs, 2, 0, some 0, false⟩, ⟨[.int .i64 (n : Nat), .int .i64 (g : Nat)], 1, 1, some 0, true⟩, ⟨zints (depL fs n), 1, 2, some 0, false⟩]) (⟨.exit 1, [], [⟨fns fs, 2, 0, some 0, false⟩]⟩ : Out) (fun i t => (⟨.ret, [(4, .int .i64 (i : Nat)), (5, slV .emp 1 t), (6, .int .i64 0)], ⟨fns fs, 2, 0, some 0, false⟩ :: slH 1 2 (prs n) t⟩ : Out)) ?_ ?_ ?_ fs.length 0 o (by omega) ho
  · intro i hi hf
    have hlt : decide ((i : Int) < (fs.length : Nat)) = true := decide_eq_true (by omega)
    have hg := fns_get (l := fs) (j := i) hi
    have hget := allF_at (P := fun j => isFn (fs.getD j (0, 0)).1 (fs.getD j (0, 0)).2) hall hi
    obtain ⟨a, b, ha, hb, ha4, _, hb6⟩ := isFn_nat hget
    rw [lsF, show (fs.getD i (0, 0)).1.toNat = a by omega, show (fs.getD i (0, 0)).2.toNat = b by omega] at hf
    rw [ha, hb] at hg
    cases a with
    | zero =>
      have hv : valS b (R2 n) [] ≠ g := by
        intro hv; rw [srch] at hf; simp [hv] at hf
      have e1 := evqb_e0 n N b g (depL fs n) hn (by omega) hv
      unfold m51_0
      repeat' (first
        | refine ep_loadSN rfl rfl rfl hg ?_
        | (refine g_op ?_; first
          | refine ep_mov rfl ?_ | refine sp_loadN rfl rfl rfl rfl rfl ?_
          | refine ep_callw0 rfl (by first | exact e1) rfl rfl ?_
          | refine sp_callw rfl rfl rfl rfl (by first | exact e1) ⟨rfl, rfl, rfl, rfl⟩ rfl rfl rfl (by first | exact WrP_refl _ _ | (repeat' (first | exact rfl | exact True.intro | refine And.intro ?_ ?_))) ?_
          | refine ep_bin rfl rfl (by first | exact b_add (by omega) (by omega) | exact b_lss) ?_ | refine ep_extract rfl rfl ?_ | refine ep_not rfl ?_ | refine ep_lenS rfl ?_ | refine ep_lenN rfl ?_ | refine ep_lenE rfl ?_
          | refine ep_empt ?_ | refine sp_idx rfl rfl rfl (by omega) rfl ?_ | refine ep_loadSN rfl rfl rfl (by first | exact prs_get (by omega) | exact fns_get (by omega)) ?_)
        | (refine g_ops ?_; first | refine eo_none ?_ | refine eo_nil ?_)
        | (refine g_dops ?_; first | refine ed_none ?_ | refine ed_nil ?_)
        | refine ed_same rfl ?_ | refine ed_one rfl rfl rfl rfl ?_ | refine ed_two rfl rfl rfl rfl rfl rfl rfl ?_ | refine ed_write rfl rfl ?_
        | (refine g_code ?_; first | refine ec_seq ?_ | refine ec_region ?_ | refine ec_draw ?_ | refine ec_block ?_ | refine ec_skip ?_ | refine ec_exit ?_ | refine ec_ret ?_ | refine ec_condT rfl ?_ | refine ec_condF rfl ?_ | refine ec_condTH rfl (by assumption) ?_ | refine ec_condFH rfl (by assumption) ?_)
        | refine ek_seqN ?_ | refine ek_seqX ?_ | refine ek_seqR ?_ | refine ek_blkN ?_ | refine ek_blkR ?_ | refine ek_blkX ?_ | refine ek_blkY rfl ?_)
      exact rnd_on (by rfl) (scmp2 (by rfl) (by rfl) (by exact ⟨rfl, rfl, rfl⟩) (by rfl) (by first | rfl | (simp; done) | (simp [ints, prs]; done)) (by rfl) (by first | rfl | (simp; done) | (simp [ints, prs]; done)))
    | succ m =>
      rw [show kwI (R2 (R2 n)) (d : Int) (depL fs n) = selm (fun b => decide (0 ≤ (depL fs n).getD b 0 ∧ (depL fs n).getD b 0 ≤ (d : Int) - 1)) idn (R2 (R2 n)) from rfl, ← srchN_eq, ← hNn] at hf
      have e1 := (evq_e n N d b g (m + 1) m (depL fs n) hDl hNn hn (by omega) ha4 hgN hdd rfl).1 hf
      unfold m51_0
      repeat' (first
        | refine ep_loadSN rfl rfl rfl hg ?_
        | (refine g_op ?_; first
          | refine ep_mov rfl ?_ | refine sp_loadN rfl rfl rfl rfl rfl ?_
          | refine ep_callw0 rfl (by first | exact e1) rfl rfl ?_
          | refine sp_callw rfl rfl rfl rfl (by first | exact e1) ⟨rfl, rfl, rfl, rfl⟩ rfl rfl rfl (by first | exact WrP_refl _ _ | (repeat' (first | exact rfl | exact True.intro | refine And.intro ?_ ?_))) ?_
          | refine ep_bin rfl rfl (by first | exact b_add (by omega) (by omega) | exact b_lss) ?_ | refine ep_extract rfl rfl ?_ | refine ep_not rfl ?_ | refine ep_lenS rfl ?_ | refine ep_lenN rfl ?_ | refine ep_lenE rfl ?_
          | refine ep_empt ?_ | refine sp_idx rfl rfl rfl (by omega) rfl ?_ | refine ep_loadSN rfl rfl rfl (by first | exact prs_get (by omega) | exact fns_get (by omega)) ?_)
        | (refine g_ops ?_; first | refine eo_none ?_ | refine eo_nil ?_)
        | (refine g_dops ?_; first | refine ed_none ?_ | refine ed_nil ?_)
        | refine ed_same rfl ?_ | refine ed_one rfl rfl rfl rfl ?_ | refine ed_two rfl rfl rfl rfl rfl rfl rfl ?_ | refine ed_write rfl rfl ?_
        | (refine g_code ?_; first | refine ec_seq ?_ | refine ec_region ?_ | refine ec_draw ?_ | refine ec_block ?_ | refine ec_skip ?_ | refine ec_exit ?_ | refine ec_ret ?_ | refine ec_condT rfl ?_ | refine ec_condF rfl ?_ | refine ec_condTH rfl (by assumption) ?_ | refine ec_condFH rfl (by assumption) ?_)
        | refine ek_seqN ?_ | refine ek_seqX ?_ | refine ek_seqR ?_ | refine ek_blkN ?_ | refine ek_blkR ?_ | refine ek_blkX ?_ | refine ek_blkY rfl ?_)
      exact rnd_on (by rfl) (scmp2 (by rfl) (by rfl) (by exact ⟨rfl, rfl, rfl⟩) (by rfl) (by first | rfl | (simp; done) | (simp [ints, prs]; done)) (by rfl) (by first | rfl | (simp; done) | (simp [ints, prs]; done)))
  · intro i t hi hf
    have hlen := lsF_len hf
    have hlt : decide ((i : Int) < (fs.length : Nat)) = true := decide_eq_true (by omega)
    have hg := fns_get (l := fs) (j := i) hi
    have hget := allF_at (P := fun j => isFn (fs.getD j (0, 0)).1 (fs.getD j (0, 0)).2) hall hi
    obtain ⟨a, b, ha, hb, ha4, _, hb6⟩ := isFn_nat hget
    rw [lsF, show (fs.getD i (0, 0)).1.toNat = a by omega, show (fs.getD i (0, 0)).2.toNat = b by omega] at hf
    rw [ha, hb] at hg
    rw [show (fs.getD i (0, 0)).1.toNat = a by omega] at hlen
    cases a with
    | zero =>
      have hv : valS b (R2 n) [] = g := by
        rw [srch] at hf
        by_cases hv : valS b (R2 n) [] = g
        · exact hv
        · simp [hv] at hf
      obtain rfl : t = [] := List.eq_nil_of_length_eq_zero hlen
      have e1 := evqb_e1 n N b g (depL fs n) hn (by omega) hv
      have lp1 := lplt1e n g i fs
      unfold m51_0
      repeat' (first
        | refine ep_loadSN rfl rfl rfl hg ?_
        | refine sc_loop lp1 rfl rfl ⟨rfl, rfl, rfl⟩ rfl rfl rfl ?_
        | (refine g_op ?_; first
          | refine ep_mov rfl ?_ | refine sp_loadN rfl rfl rfl rfl rfl ?_
          | refine ep_callw0 rfl (by first | exact e1) rfl rfl ?_
          | refine sp_callw rfl rfl rfl rfl (by first | exact e1) ⟨rfl, rfl, rfl, rfl⟩ rfl rfl rfl (by first | exact WrP_refl _ _ | (repeat' (first | exact rfl | exact True.intro | refine And.intro ?_ ?_))) ?_
          | refine ep_bin rfl rfl (by first | exact b_add (by omega) (by omega) | exact b_lss) ?_ | refine ep_extract rfl rfl ?_ | refine ep_not rfl ?_ | refine ep_lenS rfl ?_ | refine ep_lenN rfl ?_ | refine ep_lenE rfl ?_
          | refine ep_empt ?_ | refine sp_idx rfl rfl rfl (by omega) rfl ?_ | refine ep_loadSN rfl rfl rfl (by first | exact prs_get (by omega) | exact fns_get (by omega)) ?_)
        | (refine g_ops ?_; first | refine eo_none ?_ | refine eo_nil ?_)
        | (refine g_dops ?_; first | refine ed_none ?_ | refine ed_nil ?_)
        | refine ed_same rfl ?_ | refine ed_one rfl rfl rfl rfl ?_ | refine ed_two rfl rfl rfl rfl rfl rfl rfl ?_ | refine ed_write rfl rfl ?_
        | (refine g_code ?_; first | refine ec_seq ?_ | refine ec_region ?_ | refine ec_draw ?_ | refine ec_block ?_ | refine ec_skip ?_ | refine ec_exit ?_ | refine ec_ret ?_ | refine ec_condT rfl ?_ | refine ec_condF rfl ?_ | refine ec_condTH rfl (by assumption) ?_ | refine ec_condFH rfl (by assumption) ?_)
        | refine ek_seqN ?_ | refine ek_seqX ?_ | refine ek_seqR ?_ | refine ek_blkN ?_ | refine ek_blkR ?_ | refine ek_blkX ?_ | refine ek_blkY rfl ?_)
      exact rnd_out (by rfl) (by simp) (scmp2 (by rfl) (by rfl) (by exact ⟨rfl, rfl, rfl⟩) (by rfl) (by first | rfl | (simp; done) | (simp [ints, prs]; done)) (by rfl) (by first | rfl | (simp; done) | (simp [ints, prs]; done)))
    | succ m =>
      rw [show kwI (R2 (R2 n)) (d : Int) (depL fs n) = selm (fun b => decide (0 ≤ (depL fs n).getD b 0 ∧ (depL fs n).getD b 0 ≤ (d : Int) - 1)) idn (R2 (R2 n)) from rfl, ← srchN_eq, ← hNn] at hf
      have e1 := (evq_e n N d b g (m + 1) m (depL fs n) hDl hNn hn (by omega) ha4 hgN hdd rfl).2 t hf
      have hsel : selm (fun _ => true) (fun j => t.getD j 0) t.length = t := by rw [t_selm t t.length (Nat.le_refl _), List.take_length]
      cases t with
      | nil => simp at hlen
      | cons y ys =>
        have lp1 := lplt1 n g i fs (y :: ys) (by omega) _ (by rw [hsel])
        unfold m51_0
        repeat' (first
          | refine ep_loadSN rfl rfl rfl hg ?_
          | refine sc_loop lp1 rfl rfl ⟨rfl, rfl, rfl⟩ rfl rfl rfl ?_
          | (refine g_op ?_; first
            | refine ep_mov rfl ?_ | refine sp_loadN rfl rfl rfl rfl rfl ?_
            | refine ep_callw0 rfl (by first | exact e1) rfl rfl ?_
            | refine sp_callw rfl rfl rfl rfl (by first | exact e1) ⟨rfl, rfl, rfl, rfl⟩ rfl rfl rfl (by first | exact WrP_refl _ _ | (repeat' (first | exact rfl | exact True.intro | refine And.intro ?_ ?_))) ?_
            | refine ep_bin rfl rfl (by first | exact b_add (by omega) (by omega) | exact b_lss) ?_ | refine ep_extract rfl rfl ?_ | refine ep_not rfl ?_ | refine ep_lenS rfl ?_ | refine ep_lenN rfl ?_ | refine ep_lenE rfl ?_
            | refine ep_empt ?_ | refine sp_idx rfl rfl rfl (by omega) rfl ?_ | refine ep_loadSN rfl rfl rfl (by first | exact prs_get (by omega) | exact fns_get (by omega)) ?_)
          | (refine g_ops ?_; first | refine eo_none ?_ | refine eo_nil ?_)
          | (refine g_dops ?_; first | refine ed_none ?_ | refine ed_nil ?_)
          | refine ed_same rfl ?_ | refine ed_one rfl rfl rfl rfl ?_ | refine ed_two rfl rfl rfl rfl rfl rfl rfl ?_ | refine ed_write rfl rfl ?_
          | (refine g_code ?_; first | refine ec_seq ?_ | refine ec_region ?_ | refine ec_draw ?_ | refine ec_block ?_ | refine ec_skip ?_ | refine ec_exit ?_ | refine ec_ret ?_ | refine ec_condT rfl ?_ | refine ec_condF rfl ?_ | refine ec_condTH rfl (by assumption) ?_ | refine ec_condFH rfl (by assumption) ?_)
          | refine ek_seqN ?_ | refine ek_seqX ?_ | refine ek_seqR ?_ | refine ek_blkN ?_ | refine ek_blkR ?_ | refine ek_blkX ?_ | refine ek_blkY rfl ?_)
        exact rnd_out (by rfl) (by simp) (scmp2 (by rfl) (by rfl) (by exact ⟨rfl, rfl, rfl⟩) (by rfl) (by first | rfl | (simp; done) | (simp [ints, prs]; done)) (by rfl) (by first | rfl | (simp; done) | (simp [ints, prs]; done)))
  · have hlt : decide (((fs.length : Nat) : Int) < (fs.length : Nat)) = false := decide_eq_false (by omega)
    unfold m51_0
    repeat' (first
      | (refine g_op ?_; first
        | refine ep_mov rfl ?_ | refine sp_loadN rfl rfl rfl rfl rfl ?_
        | refine ep_bin rfl rfl (by first | exact b_add (by omega) (by omega) | exact b_lss) ?_ | refine ep_extract rfl rfl ?_ | refine ep_not rfl ?_ | refine ep_lenS rfl ?_ | refine ep_lenN rfl ?_ | refine ep_lenE rfl ?_
        | refine ep_empt ?_ | refine sp_idx rfl rfl rfl (by omega) rfl ?_ | refine ep_loadSN rfl rfl rfl (by first | exact prs_get (by omega) | exact fns_get (by omega)) ?_)
      | (refine g_ops ?_; first | refine eo_none ?_ | refine eo_nil ?_)
      | (refine g_dops ?_; first | refine ed_none ?_ | refine ed_nil ?_)
      | refine ed_same rfl ?_ | refine ed_one rfl rfl rfl rfl ?_ | refine ed_two rfl rfl rfl rfl rfl rfl rfl ?_ | refine ed_write rfl rfl ?_
      | (refine g_code ?_; first | refine ec_seq ?_ | refine ec_region ?_ | refine ec_draw ?_ | refine ec_block ?_ | refine ec_skip ?_ | refine ec_exit ?_ | refine ec_ret ?_ | refine ec_condT rfl ?_ | refine ec_condF rfl ?_ | refine ec_condTH rfl (by assumption) ?_ | refine ec_condFH rfl (by assumption) ?_)
      | refine ek_seqN ?_ | refine ek_seqX ?_ | refine ek_seqR ?_ | refine ek_blkN ?_ | refine ek_blkR ?_ | refine ek_blkX ?_ | refine ek_blkY rfl ?_)
    exact rnd_out (by rfl) (by simp) (scmp2 (by rfl) (by rfl) (by exact ⟨rfl, rfl, rfl⟩) (by rfl) (by first | rfl | (simp; done) | (simp [ints, prs]; done)) (by rfl) (by first | rfl | (simp; done) | (simp [ints, prs]; done)))
theorem ev51 (fs : List (Int × Int)) (a b : Int) (hln : fs.length ≤ 1048576) : Ev cx 51 [.sl 0 0 fs.length, .agg [.int .i64 a, .int .i64 b]] [⟨fns fs, 2, 0, some 0, false⟩] (.tup [.int .i64 (lsR fs a b).1, slV (if (lsR fs a b).2.2 = 0 then .emp else .nils) 1 (lsR fs a b).2.1, .int .i64 (lsR fs a b).2.2]) (⟨fns fs, 2, 0, some 0, false⟩ :: slH 1 2 (prs a.toNat) (lsR fs a b).2.1) := by
  have e1 := ev84 fs a b hln
  by_cases h0 : acode fs a b = 0
  · rw [h0] at e1
    obtain ⟨g1, g2⟩ := acode_0 h0
    obtain ⟨ha, hl, hz1, hz2⟩ := gcode_0 g2
    have hR0 : lsR fs a b = ((if dpt fs a b < 0 then (0, [], 4) else if dpt fs a b = 0 then (0, [], 5) else match lsX fs a.toNat (dpt fs a b).toNat b.toNat with | none => (0, [], 4) | some x => ((x.1 : Int), x.2, 0)) : Int × List Nat × Int) := by rw [lsR, if_pos h0]; rfl
    obtain ⟨n, g, rfl, rfl, a1, a2, a3⟩ := isFn_nat g1
    have hdd : dpt fs (n : Nat) (g : Nat) = (depL fs n).getD g 0 := rfl
    have hN : (depL fs n).length = R2 (R2 n) := depL_len fs n
    have hgg := zints_get (l := depL fs n) (j := g) (by omega)
    have e2 := ev83 n fs (by omega) (by omega) ha hln
    rw [hdd] at hR0
    simp only [Int.toNat_natCast] at hR0 ⊢
    by_cases h : (depL fs n).getD g 0 < 0
    · rw [if_pos h] at hR0
      have hq1 : decide ((depL fs n).getD g 0 < 0) = true := decide_eq_true h
      rw [hR0]
      refine has51.eev rfl rfl ?_
      unfold m51
      repeat' (first
        | refine ep_loadS rfl rfl rfl hgg ?_
        | (refine g_op ?_; first
          | refine ep_mov rfl ?_ | refine ep_load1 rfl rfl rfl rfl ?_ | refine ep_fieldAddr rfl ?_ | refine sp_loadN rfl rfl rfl rfl rfl ?_
          | refine ep_call0 rfl (by first | exact e1 | exact e2) rfl rfl ?_
          | refine sp_call rfl rfl rfl rfl (by first | exact e1 | exact e2) ⟨rfl, rfl, rfl, rfl⟩ rfl rfl rfl ?_
          | refine ep_bin rfl rfl (by first | exact b_lss | exact b_eql | exact b_neq) ?_ | refine sp_box rfl rfl rfl rfl rfl ?_ | refine sp_idx rfl rfl rfl (by omega) rfl ?_ | refine ep_loadS rfl rfl rfl (by first | exact ints_get (by omega) | exact zints_get (by omega) | exact fget (by omega) | assumption) ?_
          | refine ep_loadSN rfl rfl rfl (by first | exact prs_get (by omega) | exact fns_get (by omega)) ?_)
        | (refine g_ops ?_; first | refine eo_none ?_ | refine eo_nil ?_)
        | (refine g_code ?_; first | refine ec_seq ?_ | refine ec_region ?_ | refine ec_block ?_ | refine ec_skip ?_ | refine ec_ret ?_ | refine ec_condT rfl ?_ | refine ec_condF rfl ?_ | refine ec_condTH rfl (by assumption) ?_ | refine ec_condFH rfl (by assumption) ?_)
        | refine ek_seqN ?_ | refine ek_seqX ?_ | refine ek_seqR ?_ | refine ek_blkN ?_ | refine ek_blkR ?_ | refine ek_blkX ?_ | refine ek_blkY rfl ?_)
      refine sfin (.inr rfl) (by rfl) (by rfl) (by exact ⟨rfl, rfl, rfl⟩) (by rfl) (by rfl) (by rfl) (by first | rfl | (simp; done) | (simp [ints, prs]; done))
    · rw [if_neg h] at hR0
      have hq1 : decide ((depL fs n).getD g 0 < 0) = false := decide_eq_false h
      by_cases hz : (depL fs n).getD g 0 = 0
      · rw [if_pos hz] at hR0
        have hq2 : ((depL fs n).getD g 0 == 0) = true := by simpa using hz
        rw [hR0]
        refine has51.eev rfl rfl ?_
        unfold m51
        repeat' (first
          | refine ep_loadS rfl rfl rfl hgg ?_
          | (refine g_op ?_; first
            | refine ep_mov rfl ?_ | refine ep_load1 rfl rfl rfl rfl ?_ | refine ep_fieldAddr rfl ?_ | refine sp_loadN rfl rfl rfl rfl rfl ?_
            | refine ep_call0 rfl (by first | exact e1 | exact e2) rfl rfl ?_
            | refine sp_call rfl rfl rfl rfl (by first | exact e1 | exact e2) ⟨rfl, rfl, rfl, rfl⟩ rfl rfl rfl ?_
            | refine ep_bin rfl rfl (by first | exact b_lss | exact b_eql | exact b_neq) ?_ | refine sp_box rfl rfl rfl rfl rfl ?_ | refine sp_idx rfl rfl rfl (by omega) rfl ?_ | refine ep_loadS rfl rfl rfl (by first | exact ints_get (by omega) | exact zints_get (by omega) | exact fget (by omega) | assumption) ?_
            | refine ep_loadSN rfl rfl rfl (by first | exact prs_get (by omega) | exact fns_get (by omega)) ?_)
          | (refine g_ops ?_; first | refine eo_none ?_ | refine eo_nil ?_)
          | (refine g_code ?_; first | refine ec_seq ?_ | refine ec_region ?_ | refine ec_block ?_ | refine ec_skip ?_ | refine ec_ret ?_ | refine ec_condT rfl ?_ | refine ec_condF rfl ?_ | refine ec_condTH rfl (by assumption) ?_ | refine ec_condFH rfl (by assumption) ?_)
          | refine ek_seqN ?_ | refine ek_seqX ?_ | refine ek_seqR ?_ | refine ek_blkN ?_ | refine ek_blkR ?_ | refine ek_blkX ?_ | refine ek_blkY rfl ?_)
        refine sfin (.inr rfl) (by rfl) (by rfl) (by exact ⟨rfl, rfl, rfl⟩) (by rfl) (by rfl) (by rfl) (by first | rfl | (simp; done) | (simp [ints, prs]; done))
      · rw [if_neg hz] at hR0
        have hq2 : ((depL fs n).getD g 0 == 0) = false := by simpa using hz
        obtain ⟨d, hd⟩ := Int.eq_ofNat_of_zero_le (show 0 ≤ (depL fs n).getD g 0 by omega)
        rw [hd, Int.toNat_natCast] at hR0
        rw [hR0]
        cases hX : lsX fs n d g with
        | none =>
          have lp := lplS n (R2 (R2 n)) d g fs rfl (by omega) ha hln (by omega) hd _ (by rw [hX]; try rfl)
          refine has51.eev rfl rfl ?_
          unfold m51
          repeat' (first
            | refine ep_loadS rfl rfl rfl hgg ?_
            | refine sc_loop lp rfl rfl ⟨rfl, rfl, rfl⟩ rfl rfl rfl ?_
            | (refine g_op ?_; first
              | refine ep_mov rfl ?_ | refine ep_load1 rfl rfl rfl rfl ?_ | refine ep_fieldAddr rfl ?_ | refine sp_loadN rfl rfl rfl rfl rfl ?_
              | refine ep_call0 rfl (by first | exact e1 | exact e2) rfl rfl ?_
              | refine sp_call rfl rfl rfl rfl (by first | exact e1 | exact e2) ⟨rfl, rfl, rfl, rfl⟩ rfl rfl rfl ?_
              | refine ep_bin rfl rfl (by first | exact b_lss | exact b_eql | exact b_neq) ?_ | refine sp_box rfl rfl rfl rfl rfl ?_ | refine sp_idx rfl rfl rfl (by omega) rfl ?_ | refine ep_loadS rfl rfl rfl (by first | exact ints_get (by omega) | exact zints_get (by omega) | exact fget (by omega) | assumption) ?_
              | refine ep_loadSN rfl rfl rfl (by first | exact prs_get (by omega) | exact fns_get (by omega)) ?_)
            | (refine g_ops ?_; first | refine eo_none ?_ | refine eo_nil ?_)
            | (refine g_code ?_; first | refine ec_seq ?_ | refine ec_region ?_ | refine ec_block ?_ | refine ec_skip ?_ | refine ec_ret ?_ | refine ec_condT rfl ?_ | refine ec_condF rfl ?_ | refine ec_condTH rfl (by assumption) ?_ | refine ec_condFH rfl (by assumption) ?_)
            | refine ek_seqN ?_ | refine ek_seqX ?_ | refine ek_seqR ?_ | refine ek_blkN ?_ | refine ek_blkR ?_ | refine ek_blkX ?_ | refine ek_blkY rfl ?_)
          refine sfin (.inr rfl) (by rfl) (by rfl) (by exact ⟨rfl, rfl, rfl⟩) (by rfl) (by rfl) (by rfl) (by first | rfl | (simp; done) | (simp [ints, prs]; done))
        | some x =>
          obtain ⟨i, t⟩ := x
          cases t with
          | nil =>
            have lp := lplS n (R2 (R2 n)) d g fs rfl (by omega) ha hln (by omega) hd _ (by rw [hX]; try rfl)
            refine has51.eev rfl rfl ?_
            unfold m51
            repeat' (first
              | refine ep_loadS rfl rfl rfl hgg ?_
              | refine sc_loop lp rfl rfl ⟨rfl, rfl, rfl⟩ rfl rfl rfl ?_
              | (refine g_op ?_; first
                | refine ep_mov rfl ?_ | refine ep_load1 rfl rfl rfl rfl ?_ | refine ep_fieldAddr rfl ?_ | refine sp_loadN rfl rfl rfl rfl rfl ?_
                | refine ep_call0 rfl (by first | exact e1 | exact e2) rfl rfl ?_
                | refine sp_call rfl rfl rfl rfl (by first | exact e1 | exact e2) ⟨rfl, rfl, rfl, rfl⟩ rfl rfl rfl ?_
                | refine ep_bin rfl rfl (by first | exact b_lss | exact b_eql | exact b_neq) ?_ | refine sp_box rfl rfl rfl rfl rfl ?_ | refine sp_idx rfl rfl rfl (by omega) rfl ?_ | refine ep_loadS rfl rfl rfl (by first | exact ints_get (by omega) | exact zints_get (by omega) | exact fget (by omega) | assumption) ?_
                | refine ep_loadSN rfl rfl rfl (by first | exact prs_get (by omega) | exact fns_get (by omega)) ?_)
              | (refine g_ops ?_; first | refine eo_none ?_ | refine eo_nil ?_)
              | (refine g_code ?_; first | refine ec_seq ?_ | refine ec_region ?_ | refine ec_block ?_ | refine ec_skip ?_ | refine ec_ret ?_ | refine ec_condT rfl ?_ | refine ec_condF rfl ?_ | refine ec_condTH rfl (by assumption) ?_ | refine ec_condFH rfl (by assumption) ?_)
              | refine ek_seqN ?_ | refine ek_seqX ?_ | refine ek_seqR ?_ | refine ek_blkN ?_ | refine ek_blkR ?_ | refine ek_blkX ?_ | refine ek_blkY rfl ?_)
            refine sfin (.inr rfl) (by rfl) (by rfl) (by exact ⟨rfl, rfl, rfl⟩) (by rfl) (by rfl) (by rfl) (by first | rfl | (simp; done) | (simp [ints, prs]; done))
          | cons y ys =>
            have lp := lplS n (R2 (R2 n)) d g fs rfl (by omega) ha hln (by omega) hd _ (by rw [hX]; try rfl)
            refine has51.eev rfl rfl ?_
            unfold m51
            repeat' (first
              | refine ep_loadS rfl rfl rfl hgg ?_
              | refine sc_loop lp rfl rfl ⟨rfl, rfl, rfl⟩ rfl rfl rfl ?_
              | (refine g_op ?_; first
                | refine ep_mov rfl ?_ | refine ep_load1 rfl rfl rfl rfl ?_ | refine ep_fieldAddr rfl ?_ | refine sp_loadN rfl rfl rfl rfl rfl ?_
                | refine ep_call0 rfl (by first | exact e1 | exact e2) rfl rfl ?_
                | refine sp_call rfl rfl rfl rfl (by first | exact e1 | exact e2) ⟨rfl, rfl, rfl, rfl⟩ rfl rfl rfl ?_
                | refine ep_bin rfl rfl (by first | exact b_lss | exact b_eql | exact b_neq) ?_ | refine sp_box rfl rfl rfl rfl rfl ?_ | refine sp_idx rfl rfl rfl (by omega) rfl ?_ | refine ep_loadS rfl rfl rfl (by first | exact ints_get (by omega) | exact zints_get (by omega) | exact fget (by omega) | assumption) ?_
                | refine ep_loadSN rfl rfl rfl (by first | exact prs_get (by omega) | exact fns_get (by omega)) ?_)
              | (refine g_ops ?_; first | refine eo_none ?_ | refine eo_nil ?_)
              | (refine g_code ?_; first | refine ec_seq ?_ | refine ec_region ?_ | refine ec_block ?_ | refine ec_skip ?_ | refine ec_ret ?_ | refine ec_condT rfl ?_ | refine ec_condF rfl ?_ | refine ec_condTH rfl (by assumption) ?_ | refine ec_condFH rfl (by assumption) ?_)
              | refine ek_seqN ?_ | refine ek_seqX ?_ | refine ek_seqR ?_ | refine ek_blkN ?_ | refine ek_blkR ?_ | refine ek_blkX ?_ | refine ek_blkY rfl ?_)
            refine sfin (.inr rfl) (by rfl) (by rfl) (by exact ⟨rfl, rfl, rfl⟩) (by rfl) (by rfl) (by rfl) (by first | rfl | (simp; done) | (simp [ints, prs]; done))
  · have hR : lsR fs a b = (0, [], acode fs a b) := by unfold lsR; rw [if_neg h0]
    have hq2 : (acode fs a b != 0) = true := by simpa using h0
    rw [hR]
    refine has51.eev rfl rfl ?_
    unfold m51
    repeat' (first
      | (refine g_op ?_; first
        | refine ep_mov rfl ?_ | refine ep_load1 rfl rfl rfl rfl ?_ | refine ep_fieldAddr rfl ?_ | refine sp_loadN rfl rfl rfl rfl rfl ?_
        | refine ep_call0 rfl (by first | exact e1) rfl rfl ?_
        | refine sp_call rfl rfl rfl rfl (by first | exact e1) ⟨rfl, rfl, rfl, rfl⟩ rfl rfl rfl ?_
        | refine ep_bin rfl rfl (by first | exact b_lss | exact b_eql | exact b_neq) ?_ | refine sp_box rfl rfl rfl rfl rfl ?_ | refine sp_idx rfl rfl rfl (by omega) rfl ?_ | refine ep_loadS rfl rfl rfl (by first | exact ints_get (by omega) | exact zints_get (by omega) | exact fget (by omega) | assumption) ?_
        | refine ep_loadSN rfl rfl rfl (by first | exact prs_get (by omega) | exact fns_get (by omega)) ?_)
      | (refine g_ops ?_; first | refine eo_none ?_ | refine eo_nil ?_)
      | (refine g_code ?_; first | refine ec_seq ?_ | refine ec_region ?_ | refine ec_block ?_ | refine ec_skip ?_ | refine ec_ret ?_ | refine ec_condT rfl ?_ | refine ec_condF rfl ?_ | refine ec_condTH rfl (by assumption) ?_ | refine ec_condFH rfl (by assumption) ?_)
      | refine ek_seqN ?_ | refine ek_seqX ?_ | refine ek_seqR ?_ | refine ek_blkN ?_ | refine ek_blkR ?_ | refine ek_blkX ?_ | refine ek_blkY rfl ?_)
    refine sfin (.inr rfl) (by rfl) (by rfl) (by exact ⟨rfl, rfl, rfl⟩) (by rfl) (by rfl) (by rw [if_neg h0]; rfl) (by first | rfl | (simp; done) | (simp [ints, prs]; done))

theorem lsL_len (fs : List (Int × Int)) (p t : Int) : (lsR fs p t).2.1.length ≤ 65536 := by
  unfold lsR
  split
  · rename_i h0
    obtain ⟨g1, g2⟩ := acode_0 h0
    obtain ⟨ha, hl, hz1, hz2⟩ := gcode_0 g2
    split
    · simp
    · split
      · simp
      · cases hX : lsX fs p.toNat (dpt fs p t).toNat t.toNat with
        | none => simp
        | some x =>
          obtain ⟨k, _, hk, h3⟩ := fsome_some _ _ hX
          cases hF : lsF fs p.toNat (dpt fs p t).toNat t.toNat k with
          | none => rw [hF] at h3; simp at h3
          | some y =>
            rw [hF] at h3
            have : (k, y) = x := by simpa using h3
            subst this
            have hlen := lsF_len hF
            have hget := allF_at (P := fun j => isFn (fs.getD j (0, 0)).1 (fs.getD j (0, 0)).2) ha (by omega : k < fs.length)
            obtain ⟨a, b, ha', hb, ha4, _, hb6⟩ := isFn_nat hget
            simp only
            omega
  · simp
-- laws.FnExactLastStep
def m15 : MC := (.seq (.region [⟨(.box (.t 1)), (some 3), none⟩, ⟨(.mov (.k (.bool false))), (some 4), none⟩] false) (.seq (.region [⟨(.mov (.k (.int .i64 1048576))), (some 5), none⟩] false) (.seq (.region [⟨(.mov (.t 0)), (some 19), none⟩, ⟨(.mov (.t 5)), (some 20), none⟩, ⟨(.call 26 [(.t 19), (.t 20)]), (some 21), none⟩, ⟨(.mov (.t 21)), (some 5), none⟩] false) (.seq (.seq (.region [⟨(.mov (.t 5)), (some 22), none⟩, ⟨(.bin .lss (.t 22) (.k (.int .i64 0))), (some 23), none⟩] false) (.cond (.t 23) (.seq (.region [⟨(.mov (.k (.bool true))), (some 4), none⟩] false) .ret) .skip)) (.seq (.region [⟨(.mov (.t 0)), (some 25), none⟩, ⟨(.call 28 [(.t 25)]), (some 26), none⟩, ⟨(.load (some 2) (.t 3)), (some 27), none⟩, ⟨(.callw 17 [(.t 27)]), (some 28), none⟩, ⟨(.callw 51 [(.t 26), (.t 28)]), (some 29), none⟩, ⟨(.mov (.t 29)), (some 24), none⟩, ⟨(.extract (.t 24) 0), (some 30), none⟩, ⟨(.extract (.t 24) 1), (some 31), none⟩, ⟨(.extract (.t 24) 2), (some 32), none⟩, ⟨(.mov (.t 30)), (some 6), none⟩, ⟨(.mov (.t 31)), (some 7), none⟩, ⟨(.mov (.t 32)), (some 8), none⟩] true) (.seq (.region [⟨(.mov (.t 0)), (some 33), none⟩, ⟨(.call 28 [(.t 33)]), (some 34), none⟩, ⟨(.mov (.t 34)), (some 9), none⟩] false) (.seq (.region [⟨(.mov (.t 9)), (some 36), none⟩, ⟨(.load (some 2) (.t 3)), (some 37), none⟩, ⟨(.call 17 [(.t 37)]), (some 38), none⟩, ⟨(.call 52 [(.t 36), (.t 38)]), (some 39), none⟩, ⟨(.mov (.t 39)), (some 35), none⟩, ⟨(.extract (.t 35) 0), (some 40), none⟩, ⟨(.extract (.t 35) 1), (some 41), none⟩, ⟨(.extract (.t 35) 2), (some 42), none⟩, ⟨(.mov (.t 40)), (some 10), none⟩, ⟨(.mov (.t 41)), (some 11), none⟩, ⟨(.mov (.t 42)), (some 12), none⟩] false) (.seq (.seq (.region [⟨(.mov (.t 10)), (some 43), none⟩, ⟨(.mov (.t 6)), (some 44), none⟩, ⟨(.bin .neq (.t 43) (.t 44)), (some 45), none⟩, ⟨(.mov (.t 45)), (some 46), none⟩, ⟨(.mov (.t 11)), (some 47), (some (46, false))⟩, ⟨(.mov (.t 7)), (some 48), (some (46, false))⟩, ⟨(.call 32 [(.t 47), (.t 48)]), (some 49), (some (46, false))⟩, ⟨(.un .not (.t 49)), (some 50), (some (46, false))⟩, ⟨(.pick (.t 46) (.k (.bool true)) (.t 50)), (some 51), none⟩, ⟨(.mov (.t 51)), (some 52), none⟩, ⟨(.mov (.t 12)), (some 53), (some (52, false))⟩, ⟨(.mov (.t 8)), (some 54), (some (52, false))⟩, ⟨(.bin .neq (.t 53) (.t 54)), (some 55), (some (52, false))⟩, ⟨(.pick (.t 52) (.k (.bool true)) (.t 55)), (some 56), none⟩] false) (.cond (.t 56) (.seq (.region [⟨(.mov (.k (.bool false))), (some 4), none⟩] false) .ret) .skip)) (.seq (.seq (.region [⟨(.mov (.t 9)), (some 57), none⟩, ⟨(.mov (.t 0)), (some 58), none⟩, ⟨(.call 28 [(.t 58)]), (some 59), none⟩, ⟨(.call 32 [(.t 57), (.t 59)]), (some 60), none⟩, ⟨(.un .not (.t 60)), (some 61), none⟩] false) (.cond (.t 61) (.seq (.region [⟨(.mov (.k (.bool false))), (some 4), none⟩] false) .ret) .skip)) (.seq (.region [⟨(.mov (.k (.int .i64 1))), (some 13), none⟩] false) (.seq (.region [⟨(.mov (.t 9)), (some 62), none⟩, ⟨(.mov (.t 13)), (some 63), none⟩, ⟨(.call 45 [(.t 62), (.t 63)]), (some 64), none⟩, ⟨(.mov (.t 64)), (some 13), none⟩] false) (.seq (.seq (.region [⟨(.mov (.t 13)), (some 65), none⟩, ⟨(.bin .lss (.t 65) (.k (.int .i64 0))), (some 66), none⟩, ⟨(.mov (.t 66)), (some 67), none⟩, ⟨(.mov (.t 10)), (some 68), (some (67, false))⟩, ⟨(.mov (.t 6)), (some 69), (some (67, false))⟩, ⟨(.bin .neq (.t 68) (.t 69)), (some 70), (some (67, false))⟩, ⟨(.pick (.t 67) (.k (.bool true)) (.t 70)), (some 71), none⟩, ⟨(.mov (.t 71)), (some 72), none⟩, ⟨(.mov (.t 11)), (some 73), (some (72, false))⟩, ⟨(.mov (.t 7)), (some 74), (some (72, false))⟩, ⟨(.call 32 [(.t 73), (.t 74)]), (some 75), (some (72, false))⟩, ⟨(.un .not (.t 75)), (some 76), (some (72, false))⟩, ⟨(.pick (.t 72) (.k (.bool true)) (.t 76)), (some 77), none⟩, ⟨(.mov (.t 77)), (some 78), none⟩, ⟨(.mov (.t 12)), (some 79), (some (78, false))⟩, ⟨(.mov (.t 8)), (some 80), (some (78, false))⟩, ⟨(.bin .neq (.t 79) (.t 80)), (some 81), (some (78, false))⟩, ⟨(.pick (.t 78) (.k (.bool true)) (.t 81)), (some 82), none⟩] false) (.cond (.t 82) (.seq (.region [⟨(.mov (.k (.bool false))), (some 4), none⟩] false) .ret) .skip)) (.seq (.region [⟨(.mov (.k (.int .i64 1))), (some 14), none⟩] false) (.seq (.region [⟨(.mov (.t 11)), (some 83), none⟩, ⟨(.mov (.t 14)), (some 84), none⟩, ⟨(.call 45 [(.t 83), (.t 84)]), (some 85), none⟩, ⟨(.mov (.t 85)), (some 14), none⟩] false) (.seq (.region [⟨(.mov (.k (.int .i64 1))), (some 15), none⟩] false) (.seq (.region [⟨(.mov (.t 11)), (some 86), none⟩, ⟨(.mov (.t 15)), (some 87), none⟩, ⟨(.call 46 [(.t 86), (.t 87)]), (some 88), none⟩, ⟨(.mov (.t 88)), (some 15), none⟩] false) (.seq (.seq (.region [⟨(.mov (.t 15)), (some 89), none⟩, ⟨(.bin .lss (.t 89) (.k (.int .i64 0))), (some 90), none⟩] false) (.cond (.t 90) (.seq (.region [⟨(.mov (.k (.bool false))), (some 4), none⟩] false) .ret) .skip)) (.seq (.seq (.region [⟨(.mov (.t 15)), (some 91), none⟩, ⟨(.mov (.t 14)), (some 92), none⟩, ⟨(.bin .neq (.t 91) (.t 92)), (some 93), none⟩] false) (.cond (.t 93) (.seq (.region [⟨(.mov (.k (.bool false))), (some 4), none⟩] false) .ret) .skip)) (.seq (.region [⟨(.mov (.t 0)), (some 95), none⟩, ⟨(.call 28 [(.t 95)]), (some 96), none⟩, ⟨(.load (some 2) (.t 3)), (some 97), none⟩, ⟨(.callw 17 [(.t 97)]), (some 98), none⟩, ⟨(.callw 52 [(.t 96), (.t 98)]), (some 99), none⟩, ⟨(.mov (.t 99)), (some 94), none⟩, ⟨(.extract (.t 94) 0), (some 100), none⟩, ⟨(.extract (.t 94) 1), (some 101), none⟩, ⟨(.extract (.t 94) 2), (some 102), none⟩, ⟨(.mov (.t 100)), (some 16), none⟩, ⟨(.mov (.t 101)), (some 17), none⟩, ⟨(.mov (.t 102)), (some 18), none⟩] true) (.seq (.seq (.region [⟨(.mov (.t 16)), (some 103), none⟩, ⟨(.mov (.t 6)), (some 104), none⟩, ⟨(.bin .neq (.t 103) (.t 104)), (some 105), none⟩, ⟨(.mov (.t 105)), (some 106), none⟩, ⟨(.mov (.t 17)), (some 107), (some (106, false))⟩, ⟨(.mov (.t 7)), (some 108), (some (106, false))⟩, ⟨(.call 32 [(.t 107), (.t 108)]), (some 109), (some (106, false))⟩, ⟨(.un .not (.t 109)), (some 110), (some (106, false))⟩, ⟨(.pick (.t 106) (.k (.bool true)) (.t 110)), (some 111), none⟩, ⟨(.mov (.t 111)), (some 112), none⟩, ⟨(.mov (.t 18)), (some 113), (some (112, false))⟩, ⟨(.mov (.t 8)), (some 114), (some (112, false))⟩, ⟨(.bin .neq (.t 113) (.t 114)), (some 115), (some (112, false))⟩, ⟨(.pick (.t 112) (.k (.bool true)) (.t 115)), (some 116), none⟩] false) (.cond (.t 116) (.seq (.region [⟨(.mov (.k (.bool false))), (some 4), none⟩] false) .ret) .skip)) (.seq (.region [⟨(.mov (.k (.int .i64 1))), (some 15), none⟩] false) (.seq (.region [⟨(.mov (.t 11)), (some 117), none⟩, ⟨(.mov (.t 15)), (some 118), none⟩, ⟨(.call 46 [(.t 117), (.t 118)]), (some 119), none⟩, ⟨(.mov (.t 119)), (some 15), none⟩] false) (.seq (.seq (.region [⟨(.mov (.t 15)), (some 120), none⟩, ⟨(.bin .lss (.t 120) (.k (.int .i64 0))), (some 121), none⟩] false) (.cond (.t 121) (.seq (.region [⟨(.mov (.k (.bool false))), (some 4), none⟩] false) .ret) .skip)) (.seq (.seq (.region [⟨(.mov (.t 15)), (some 122), none⟩, ⟨(.mov (.t 14)), (some 123), none⟩, ⟨(.bin .neq (.t 122) (.t 123)), (some 124), none⟩] false) (.cond (.t 124) (.seq (.region [⟨(.mov (.k (.bool false))), (some 4), none⟩] false) .ret) .skip)) (.seq (.region [⟨(.mov (.k (.bool true))), (some 4), none⟩] false) .ret)))))))))))))))))))))))))
theorem has15 : Has cx 15 125 m15 [(.tmp 4)] :=
  ⟨⟨Try.f15, Try.f15.body.getD .skip, by kernel_rfl, by kernel_rfl, by kernel_rfl, by kernel_rfl, by kernel_rfl, by kernel_rfl⟩⟩
-- ROW ev15: bd0
theorem ev15 (a : V) (p t : Int) (h : Heap) (c : List Int) (fa : FA .i64 2 a h c) (hb : c.length ≤ 2 * Go.maxLen) : Ev cx 15 [a, .agg [.int .i64 p, .int .i64 t]] h (.bool true) h := by
  have hml : Go.maxLen = 9223372036854775807 := by decide
  cases fa with
  | nil =>
    have s0 := ev26_nils
    have e0 := ev28_nils
    rw [show zints [] = fns [] from rfl] at e0
    have e1 := ev51 [] p t (by simp)
    have e2 := ev52 [] p t (by simp)
    have hlen := lsL_len [] p t
    generalize lsR [] p t = r at e1 e2 hlen
    obtain ⟨rk, rl, rc⟩ := r
    simp only at e1 e2 hlen
    have h2 : (rc != rc) = false := by simp
    have h3 : (rk != rk) = false := by simp
    have m1 := ev45 0 (fns []) (by omega) rfl
    have q5 : decide (((2 * 0 + 1 : Nat) : Int) < 0) = false := decide_eq_false (by omega)
    have q3 := ev32 0 (fns []) (fns []) (fun j => ([] : List (Int × Int)).getD j (0, 0)) (some 0) (some 0) (by omega) (fun j hj => fns_pair (by simp at hj)) (fun j hj => fns_pair (by simp at hj))
    cases rl with
    | nil =>
      by_cases hc0 : rc = 0
      · rw [if_pos hc0] at e1
        refine has15.eev rfl rfl ?_
        unfold m15
        repeat' (first
          | (refine g_op ?_; first
            | refine ep_mov rfl ?_ | refine sp_loadN rfl rfl rfl rfl rfl ?_
            | refine ep_call0 rfl (by first | exact ev17 _ _ | exact e0 | exact s0 | exact e1 | exact e2 | exact q3 | exact m1 | exact ev32_nils_emp | exact ev45_nils | exact ev46_nils) rfl rfl ?_
            | refine sp_call rfl rfl rfl rfl (by first | exact ev17 _ _ | exact e0 | exact s0 | exact e1 | exact e2 | exact q3 | exact m1 | exact ev32_nils_emp | exact ev45_nils | exact ev46_nils) ⟨rfl, rfl, rfl, rfl⟩ rfl rfl rfl ?_
            | refine ep_callw0 rfl (by first | exact ev17 _ _ | exact e0 | exact s0 | exact e1 | exact e2 | exact q3 | exact m1 | exact ev32_nils_emp | exact ev45_nils | exact ev46_nils) rfl rfl ?_
            | refine sp_callw rfl rfl rfl rfl (by first | exact ev17 _ _ | exact e0 | exact s0 | exact e1 | exact e2 | exact q3 | exact m1 | exact ev32_nils_emp | exact ev45_nils | exact ev46_nils) ⟨rfl, rfl, rfl, rfl⟩ rfl rfl rfl (by first | exact WrP_refl _ _ | (repeat' (first | exact rfl | exact True.intro | refine And.intro ?_ ?_))) ?_
            | refine ep_bin rfl rfl (by first | exact b_lss | exact b_neq) ?_ | refine ep_pickT rfl rfl ?_ | refine ep_pickF rfl rfl ?_ | refine ep_pickTH rfl (by assumption) rfl ?_ | refine ep_pickFH rfl (by assumption) rfl ?_
            | refine ep_extract rfl rfl ?_ | refine ep_not rfl ?_ | refine sp_box rfl rfl rfl rfl rfl ?_)
          | (refine g_ops ?_; first | refine eo_none ?_ | refine eo_nil ?_ | refine eo_yes rfl ?_ | refine eo_no rfl ?_ | refine eo_und rfl ?_ | refine eo_yesH rfl (by assumption) ?_ | refine eo_noH rfl (by assumption) ?_)
          | (refine g_dops ?_; first | refine ed_none ?_ | refine ed_nil ?_ | refine ed_yes rfl ?_ | refine ed_no rfl ?_ | refine ed_und rfl ?_ | refine ed_yesH rfl (by assumption) ?_ | refine ed_noH rfl (by assumption) ?_)
          | refine ed_same rfl ?_ | refine ed_one rfl rfl rfl rfl ?_ | refine ed_two rfl rfl rfl rfl rfl rfl rfl ?_ | refine ed_write rfl rfl ?_
          | (refine g_code ?_; first | refine ec_seq ?_ | refine ec_region ?_ | refine ec_draw ?_ | refine ec_skip ?_ | refine ec_ret ?_ | refine ec_condT rfl ?_ | refine ec_condF rfl ?_ | refine ec_condTH rfl (by assumption) ?_ | refine ec_condFH rfl (by assumption) ?_)
          | refine ek_seqN ?_ | refine ek_seqR ?_)
        refine sfin (.inr rfl) (by rfl) (by rfl) (by exact ⟨rfl, rfl, rfl⟩) (by rfl) (by rfl) (by rfl) (by first | rfl | (simp; done) | (simp [ints, prs]; done))
      · rw [if_neg hc0] at e1
        refine has15.eev rfl rfl ?_
        unfold m15
        repeat' (first
          | (refine g_op ?_; first
            | refine ep_mov rfl ?_ | refine sp_loadN rfl rfl rfl rfl rfl ?_
            | refine ep_call0 rfl (by first | exact ev17 _ _ | exact e0 | exact s0 | exact e1 | exact e2 | exact q3 | exact m1 | exact ev32_nils_nils | exact ev45_nils | exact ev46_nils) rfl rfl ?_
            | refine sp_call rfl rfl rfl rfl (by first | exact ev17 _ _ | exact e0 | exact s0 | exact e1 | exact e2 | exact q3 | exact m1 | exact ev32_nils_nils | exact ev45_nils | exact ev46_nils) ⟨rfl, rfl, rfl, rfl⟩ rfl rfl rfl ?_
            | refine ep_callw0 rfl (by first | exact ev17 _ _ | exact e0 | exact s0 | exact e1 | exact e2 | exact q3 | exact m1 | exact ev32_nils_nils | exact ev45_nils | exact ev46_nils) rfl rfl ?_
            | refine sp_callw rfl rfl rfl rfl (by first | exact ev17 _ _ | exact e0 | exact s0 | exact e1 | exact e2 | exact q3 | exact m1 | exact ev32_nils_nils | exact ev45_nils | exact ev46_nils) ⟨rfl, rfl, rfl, rfl⟩ rfl rfl rfl (by first | exact WrP_refl _ _ | (repeat' (first | exact rfl | exact True.intro | refine And.intro ?_ ?_))) ?_
            | refine ep_bin rfl rfl (by first | exact b_lss | exact b_neq) ?_ | refine ep_pickT rfl rfl ?_ | refine ep_pickF rfl rfl ?_ | refine ep_pickTH rfl (by assumption) rfl ?_ | refine ep_pickFH rfl (by assumption) rfl ?_
            | refine ep_extract rfl rfl ?_ | refine ep_not rfl ?_ | refine sp_box rfl rfl rfl rfl rfl ?_)
          | (refine g_ops ?_; first | refine eo_none ?_ | refine eo_nil ?_ | refine eo_yes rfl ?_ | refine eo_no rfl ?_ | refine eo_und rfl ?_ | refine eo_yesH rfl (by assumption) ?_ | refine eo_noH rfl (by assumption) ?_)
          | (refine g_dops ?_; first | refine ed_none ?_ | refine ed_nil ?_ | refine ed_yes rfl ?_ | refine ed_no rfl ?_ | refine ed_und rfl ?_ | refine ed_yesH rfl (by assumption) ?_ | refine ed_noH rfl (by assumption) ?_)
          | refine ed_same rfl ?_ | refine ed_one rfl rfl rfl rfl ?_ | refine ed_two rfl rfl rfl rfl rfl rfl rfl ?_ | refine ed_write rfl rfl ?_
          | (refine g_code ?_; first | refine ec_seq ?_ | refine ec_region ?_ | refine ec_draw ?_ | refine ec_skip ?_ | refine ec_ret ?_ | refine ec_condT rfl ?_ | refine ec_condF rfl ?_ | refine ec_condTH rfl (by assumption) ?_ | refine ec_condFH rfl (by assumption) ?_)
          | refine ek_seqN ?_ | refine ek_seqR ?_)
        refine sfin (.inr rfl) (by rfl) (by rfl) (by exact ⟨rfl, rfl, rfl⟩) (by rfl) (by rfl) (by rfl) (by first | rfl | (simp; done) | (simp [ints, prs]; done))
    | cons x xs =>
      have e3 := ev32 (x :: xs).length (prs p.toNat (x :: xs)) (prs p.toNat (x :: xs)) (fun j => ((p.toNat : Int), (((x :: xs).getD j 0 : Nat) : Int))) (some 0) (some 0) (by omega) (fun j hj => prs_pair hj) (fun j hj => prs_pair hj)
      have e4 := ev45 (x :: xs).length (prs p.toNat (x :: xs)) (by omega) (prs_len _ _)
      have e5 := ev46 (x :: xs).length (prs p.toNat (x :: xs)) (by omega)
      have q1 : decide (((2 * (x :: xs).length + 1 : Nat) : Int) < 0) = false := decide_eq_false (by omega)
      have q2 : (((2 * (x :: xs).length + 1 : Nat) : Int) != (2 * (x :: xs).length + 1 : Nat)) = false := by simp
      refine has15.eev rfl rfl ?_
      unfold m15
      repeat' (first
        | (refine g_op ?_; first
          | refine ep_mov rfl ?_ | refine sp_loadN rfl rfl rfl rfl rfl ?_
          | refine ep_call0 rfl (by first | exact ev17 _ _ | exact e0 | exact s0 | exact e1 | exact e2 | exact q3 | exact m1 | exact e3 | exact e4 | exact e5) rfl rfl ?_
          | refine sp_call rfl rfl rfl rfl (by first | exact ev17 _ _ | exact e0 | exact s0 | exact e1 | exact e2 | exact q3 | exact m1 | exact e3 | exact e4 | exact e5) ⟨rfl, rfl, rfl, rfl⟩ rfl rfl rfl ?_
          | refine ep_callw0 rfl (by first | exact ev17 _ _ | exact e0 | exact s0 | exact e1 | exact e2 | exact q3 | exact m1 | exact e3 | exact e4 | exact e5) rfl rfl ?_
          | refine sp_callw rfl rfl rfl rfl (by first | exact ev17 _ _ | exact e0 | exact s0 | exact e1 | exact e2 | exact q3 | exact m1 | exact e3 | exact e4 | exact e5) ⟨rfl, rfl, rfl, rfl⟩ rfl rfl rfl (by first | exact WrP_refl _ _ | (repeat' (first | exact rfl | exact True.intro | refine And.intro ?_ ?_))) ?_
          | refine ep_bin rfl rfl (by first | exact b_lss | exact b_neq) ?_ | refine ep_pickT rfl rfl ?_ | refine ep_pickF rfl rfl ?_ | refine ep_pickTH rfl (by assumption) rfl ?_ | refine ep_pickFH rfl (by assumption) rfl ?_
          | refine ep_extract rfl rfl ?_ | refine ep_not rfl ?_ | refine sp_box rfl rfl rfl rfl rfl ?_)
        | (refine g_ops ?_; first | refine eo_none ?_ | refine eo_nil ?_ | refine eo_yes rfl ?_ | refine eo_no rfl ?_ | refine eo_und rfl ?_ | refine eo_yesH rfl (by assumption) ?_ | refine eo_noH rfl (by assumption) ?_)
        | (refine g_dops ?_; first | refine ed_none ?_ | refine ed_nil ?_ | refine ed_yes rfl ?_ | refine ed_no rfl ?_ | refine ed_und rfl ?_ | refine ed_yesH rfl (by assumption) ?_ | refine ed_noH rfl (by assumption) ?_)
        | refine ed_same rfl ?_ | refine ed_one rfl rfl rfl rfl ?_ | refine ed_two rfl rfl rfl rfl rfl rfl rfl ?_ | refine ed_write rfl rfl ?_
        | (refine g_code ?_; first | refine ec_seq ?_ | refine ec_region ?_ | refine ec_draw ?_ | refine ec_skip ?_ | refine ec_ret ?_ | refine ec_condT rfl ?_ | refine ec_condF rfl ?_ | refine ec_condTH rfl (by assumption) ?_ | refine ec_condFH rfl (by assumption) ?_)
        | refine ek_seqN ?_ | refine ek_seqR ?_)
      refine sfin (.inr rfl) (by rfl) (by rfl) (by exact ⟨rfl, rfl, rfl⟩) (by rfl) (by rfl) (by rfl) (by first | rfl | (simp; done) | (simp [ints, prs]; done))
  | emp =>
    have s0 := ev26_emp
    have e0 := ev28_emp
    rw [show zints [] = fns [] from rfl] at e0
    have e1 := ev51 [] p t (by simp)
    have e2 := ev52 [] p t (by simp)
    have hlen := lsL_len [] p t
    generalize lsR [] p t = r at e1 e2 hlen
    obtain ⟨rk, rl, rc⟩ := r
    simp only at e1 e2 hlen
    have h2 : (rc != rc) = false := by simp
    have h3 : (rk != rk) = false := by simp
    have m1 := ev45 0 (fns []) (by omega) rfl
    have q5 : decide (((2 * 0 + 1 : Nat) : Int) < 0) = false := decide_eq_false (by omega)
    have q3 := ev32 0 (fns []) (fns []) (fun j => ([] : List (Int × Int)).getD j (0, 0)) (some 0) (some 0) (by omega) (fun j hj => fns_pair (by simp at hj)) (fun j hj => fns_pair (by simp at hj))
    cases rl with
    | nil =>
      by_cases hc0 : rc = 0
      · rw [if_pos hc0] at e1
        refine has15.eev rfl rfl ?_
        unfold m15
        repeat' (first
          | (refine g_op ?_; first
            | refine ep_mov rfl ?_ | refine sp_loadN rfl rfl rfl rfl rfl ?_
            | refine ep_call0 rfl (by first | exact ev17 _ _ | exact e0 | exact s0 | exact e1 | exact e2 | exact q3 | exact m1 | exact ev32_nils_emp | exact ev45_nils | exact ev46_nils) rfl rfl ?_
            | refine sp_call rfl rfl rfl rfl (by first | exact ev17 _ _ | exact e0 | exact s0 | exact e1 | exact e2 | exact q3 | exact m1 | exact ev32_nils_emp | exact ev45_nils | exact ev46_nils) ⟨rfl, rfl, rfl, rfl⟩ rfl rfl rfl ?_
            | refine ep_callw0 rfl (by first | exact ev17 _ _ | exact e0 | exact s0 | exact e1 | exact e2 | exact q3 | exact m1 | exact ev32_nils_emp | exact ev45_nils | exact ev46_nils) rfl rfl ?_
            | refine sp_callw rfl rfl rfl rfl (by first | exact ev17 _ _ | exact e0 | exact s0 | exact e1 | exact e2 | exact q3 | exact m1 | exact ev32_nils_emp | exact ev45_nils | exact ev46_nils) ⟨rfl, rfl, rfl, rfl⟩ rfl rfl rfl (by first | exact WrP_refl _ _ | (repeat' (first | exact rfl | exact True.intro | refine And.intro ?_ ?_))) ?_
            | refine ep_bin rfl rfl (by first | exact b_lss | exact b_neq) ?_ | refine ep_pickT rfl rfl ?_ | refine ep_pickF rfl rfl ?_ | refine ep_pickTH rfl (by assumption) rfl ?_ | refine ep_pickFH rfl (by assumption) rfl ?_
            | refine ep_extract rfl rfl ?_ | refine ep_not rfl ?_ | refine sp_box rfl rfl rfl rfl rfl ?_)
          | (refine g_ops ?_; first | refine eo_none ?_ | refine eo_nil ?_ | refine eo_yes rfl ?_ | refine eo_no rfl ?_ | refine eo_und rfl ?_ | refine eo_yesH rfl (by assumption) ?_ | refine eo_noH rfl (by assumption) ?_)
          | (refine g_dops ?_; first | refine ed_none ?_ | refine ed_nil ?_ | refine ed_yes rfl ?_ | refine ed_no rfl ?_ | refine ed_und rfl ?_ | refine ed_yesH rfl (by assumption) ?_ | refine ed_noH rfl (by assumption) ?_)
          | refine ed_same rfl ?_ | refine ed_one rfl rfl rfl rfl ?_ | refine ed_two rfl rfl rfl rfl rfl rfl rfl ?_ | refine ed_write rfl rfl ?_
          | (refine g_code ?_; first | refine ec_seq ?_ | refine ec_region ?_ | refine ec_draw ?_ | refine ec_skip ?_ | refine ec_ret ?_ | refine ec_condT rfl ?_ | refine ec_condF rfl ?_ | refine ec_condTH rfl (by assumption) ?_ | refine ec_condFH rfl (by assumption) ?_)
          | refine ek_seqN ?_ | refine ek_seqR ?_)
        refine sfin (.inr rfl) (by rfl) (by rfl) (by exact ⟨rfl, rfl, rfl⟩) (by rfl) (by rfl) (by rfl) (by first | rfl | (simp; done) | (simp [ints, prs]; done))
      · rw [if_neg hc0] at e1
        refine has15.eev rfl rfl ?_
        unfold m15
        repeat' (first
          | (refine g_op ?_; first
            | refine ep_mov rfl ?_ | refine sp_loadN rfl rfl rfl rfl rfl ?_
            | refine ep_call0 rfl (by first | exact ev17 _ _ | exact e0 | exact s0 | exact e1 | exact e2 | exact q3 | exact m1 | exact ev32_nils_nils | exact ev45_nils | exact ev46_nils) rfl rfl ?_
            | refine sp_call rfl rfl rfl rfl (by first | exact ev17 _ _ | exact e0 | exact s0 | exact e1 | exact e2 | exact q3 | exact m1 | exact ev32_nils_nils | exact ev45_nils | exact ev46_nils) ⟨rfl, rfl, rfl, rfl⟩ rfl rfl rfl ?_
            | refine ep_callw0 rfl (by first | exact ev17 _ _ | exact e0 | exact s0 | exact e1 | exact e2 | exact q3 | exact m1 | exact ev32_nils_nils | exact ev45_nils | exact ev46_nils) rfl rfl ?_
            | refine sp_callw rfl rfl rfl rfl (by first | exact ev17 _ _ | exact e0 | exact s0 | exact e1 | exact e2 | exact q3 | exact m1 | exact ev32_nils_nils | exact ev45_nils | exact ev46_nils) ⟨rfl, rfl, rfl, rfl⟩ rfl rfl rfl (by first | exact WrP_refl _ _ | (repeat' (first | exact rfl | exact True.intro | refine And.intro ?_ ?_))) ?_
            | refine ep_bin rfl rfl (by first | exact b_lss | exact b_neq) ?_ | refine ep_pickT rfl rfl ?_ | refine ep_pickF rfl rfl ?_ | refine ep_pickTH rfl (by assumption) rfl ?_ | refine ep_pickFH rfl (by assumption) rfl ?_
            | refine ep_extract rfl rfl ?_ | refine ep_not rfl ?_ | refine sp_box rfl rfl rfl rfl rfl ?_)
          | (refine g_ops ?_; first | refine eo_none ?_ | refine eo_nil ?_ | refine eo_yes rfl ?_ | refine eo_no rfl ?_ | refine eo_und rfl ?_ | refine eo_yesH rfl (by assumption) ?_ | refine eo_noH rfl (by assumption) ?_)
          | (refine g_dops ?_; first | refine ed_none ?_ | refine ed_nil ?_ | refine ed_yes rfl ?_ | refine ed_no rfl ?_ | refine ed_und rfl ?_ | refine ed_yesH rfl (by assumption) ?_ | refine ed_noH rfl (by assumption) ?_)
          | refine ed_same rfl ?_ | refine ed_one rfl rfl rfl rfl ?_ | refine ed_two rfl rfl rfl rfl rfl rfl rfl ?_ | refine ed_write rfl rfl ?_
          | (refine g_code ?_; first | refine ec_seq ?_ | refine ec_region ?_ | refine ec_draw ?_ | refine ec_skip ?_ | refine ec_ret ?_ | refine ec_condT rfl ?_ | refine ec_condF rfl ?_ | refine ec_condTH rfl (by assumption) ?_ | refine ec_condFH rfl (by assumption) ?_)
          | refine ek_seqN ?_ | refine ek_seqR ?_)
        refine sfin (.inr rfl) (by rfl) (by rfl) (by exact ⟨rfl, rfl, rfl⟩) (by rfl) (by rfl) (by rfl) (by first | rfl | (simp; done) | (simp [ints, prs]; done))
    | cons x xs =>
      have e3 := ev32 (x :: xs).length (prs p.toNat (x :: xs)) (prs p.toNat (x :: xs)) (fun j => ((p.toNat : Int), (((x :: xs).getD j 0 : Nat) : Int))) (some 0) (some 0) (by omega) (fun j hj => prs_pair hj) (fun j hj => prs_pair hj)
      have e4 := ev45 (x :: xs).length (prs p.toNat (x :: xs)) (by omega) (prs_len _ _)
      have e5 := ev46 (x :: xs).length (prs p.toNat (x :: xs)) (by omega)
      have q1 : decide (((2 * (x :: xs).length + 1 : Nat) : Int) < 0) = false := decide_eq_false (by omega)
      have q2 : (((2 * (x :: xs).length + 1 : Nat) : Int) != (2 * (x :: xs).length + 1 : Nat)) = false := by simp
      refine has15.eev rfl rfl ?_
      unfold m15
      repeat' (first
        | (refine g_op ?_; first
          | refine ep_mov rfl ?_ | refine sp_loadN rfl rfl rfl rfl rfl ?_
          | refine ep_call0 rfl (by first | exact ev17 _ _ | exact e0 | exact s0 | exact e1 | exact e2 | exact q3 | exact m1 | exact e3 | exact e4 | exact e5) rfl rfl ?_
          | refine sp_call rfl rfl rfl rfl (by first | exact ev17 _ _ | exact e0 | exact s0 | exact e1 | exact e2 | exact q3 | exact m1 | exact e3 | exact e4 | exact e5) ⟨rfl, rfl, rfl, rfl⟩ rfl rfl rfl ?_
          | refine ep_callw0 rfl (by first | exact ev17 _ _ | exact e0 | exact s0 | exact e1 | exact e2 | exact q3 | exact m1 | exact e3 | exact e4 | exact e5) rfl rfl ?_
          | refine sp_callw rfl rfl rfl rfl (by first | exact ev17 _ _ | exact e0 | exact s0 | exact e1 | exact e2 | exact q3 | exact m1 | exact e3 | exact e4 | exact e5) ⟨rfl, rfl, rfl, rfl⟩ rfl rfl rfl (by first | exact WrP_refl _ _ | (repeat' (first | exact rfl | exact True.intro | refine And.intro ?_ ?_))) ?_
          | refine ep_bin rfl rfl (by first | exact b_lss | exact b_neq) ?_ | refine ep_pickT rfl rfl ?_ | refine ep_pickF rfl rfl ?_ | refine ep_pickTH rfl (by assumption) rfl ?_ | refine ep_pickFH rfl (by assumption) rfl ?_
          | refine ep_extract rfl rfl ?_ | refine ep_not rfl ?_ | refine sp_box rfl rfl rfl rfl rfl ?_)
        | (refine g_ops ?_; first | refine eo_none ?_ | refine eo_nil ?_ | refine eo_yes rfl ?_ | refine eo_no rfl ?_ | refine eo_und rfl ?_ | refine eo_yesH rfl (by assumption) ?_ | refine eo_noH rfl (by assumption) ?_)
        | (refine g_dops ?_; first | refine ed_none ?_ | refine ed_nil ?_ | refine ed_yes rfl ?_ | refine ed_no rfl ?_ | refine ed_und rfl ?_ | refine ed_yesH rfl (by assumption) ?_ | refine ed_noH rfl (by assumption) ?_)
        | refine ed_same rfl ?_ | refine ed_one rfl rfl rfl rfl ?_ | refine ed_two rfl rfl rfl rfl rfl rfl rfl ?_ | refine ed_write rfl rfl ?_
        | (refine g_code ?_; first | refine ec_seq ?_ | refine ec_region ?_ | refine ec_draw ?_ | refine ec_skip ?_ | refine ec_ret ?_ | refine ec_condT rfl ?_ | refine ec_condF rfl ?_ | refine ec_condTH rfl (by assumption) ?_ | refine ec_condFH rfl (by assumption) ?_)
        | refine ek_seqN ?_ | refine ek_seqR ?_)
      refine sfin (.inr rfl) (by rfl) (by rfl) (by exact ⟨rfl, rfl, rfl⟩) (by rfl) (by rfl) (by rfl) (by first | rfl | (simp; done) | (simp [ints, prs]; done))
  | sl o n c hc =>
    have s0 := ev26 o n c (by omega)
    by_cases hn : n ≤ 1048576
    · rw [if_pos hn] at s0
      have g1 : decide ((1048576 - (n : Nat) : Int) < 0) = false := decide_eq_false (by omega)
      have e0 := ev28 o n c hc hn
      rw [prOf_fns n c hc] at e0
      have e1 := ev51 (prOf c n) p t (by rw [prOf_len]; exact hn)
      have e2 := ev52 (prOf c n) p t (by rw [prOf_len]; exact hn)
      rw [prOf_len] at e1 e2
      have hlen := lsL_len (prOf c n) p t
      generalize lsR (prOf c n) p t = r at e1 e2 hlen
      obtain ⟨rk, rl, rc⟩ := r
      simp only at e1 e2 hlen
      have h2 : (rc != rc) = false := by simp
      have h3 : (rk != rk) = false := by simp
      have m1 := ev45 n (fns (prOf c n)) (by omega) (by rw [fns_len, prOf_len])
      have q5 : decide (((2 * n + 1 : Nat) : Int) < 0) = false := decide_eq_false (by omega)
      have q3 := ev32 n (fns (prOf c n)) (fns (prOf c n)) (fun j => ((prOf c n) : List (Int × Int)).getD j (0, 0)) (some 0) (some 0) (by omega) (fun j hj => fns_pair (by rwa [prOf_len])) (fun j hj => fns_pair (by rwa [prOf_len]))
      cases rl with
      | nil =>
        by_cases hc0 : rc = 0
        · rw [if_pos hc0] at e1
          refine has15.eev rfl rfl ?_
          unfold m15
          repeat' (first
            | (refine g_op ?_; first
              | refine ep_mov rfl ?_ | refine sp_loadN rfl rfl rfl rfl rfl ?_
              | refine ep_call0 rfl (by first | exact ev17 _ _ | exact e0 | exact s0 | exact e1 | exact e2 | exact q3 | exact m1 | exact ev32_nils_emp | exact ev45_nils | exact ev46_nils) rfl rfl ?_
              | refine sp_call rfl rfl rfl rfl (by first | exact ev17 _ _ | exact e0 | exact s0 | exact e1 | exact e2 | exact q3 | exact m1 | exact ev32_nils_emp | exact ev45_nils | exact ev46_nils) ⟨rfl, rfl, rfl, rfl⟩ rfl rfl rfl ?_
              | refine ep_callw0 rfl (by first | exact ev17 _ _ | exact e0 | exact s0 | exact e1 | exact e2 | exact q3 | exact m1 | exact ev32_nils_emp | exact ev45_nils | exact ev46_nils) rfl rfl ?_
              | refine sp_callw rfl rfl rfl rfl (by first | exact ev17 _ _ | exact e0 | exact s0 | exact e1 | exact e2 | exact q3 | exact m1 | exact ev32_nils_emp | exact ev45_nils | exact ev46_nils) ⟨rfl, rfl, rfl, rfl⟩ rfl rfl rfl (by first | exact WrP_refl _ _ | (repeat' (first | exact rfl | exact True.intro | refine And.intro ?_ ?_))) ?_
              | refine ep_bin rfl rfl (by first | exact b_lss | exact b_neq) ?_ | refine ep_pickT rfl rfl ?_ | refine ep_pickF rfl rfl ?_ | refine ep_pickTH rfl (by assumption) rfl ?_ | refine ep_pickFH rfl (by assumption) rfl ?_
              | refine ep_extract rfl rfl ?_ | refine ep_not rfl ?_ | refine sp_box rfl rfl rfl rfl rfl ?_)
            | (refine g_ops ?_; first | refine eo_none ?_ | refine eo_nil ?_ | refine eo_yes rfl ?_ | refine eo_no rfl ?_ | refine eo_und rfl ?_ | refine eo_yesH rfl (by assumption) ?_ | refine eo_noH rfl (by assumption) ?_)
            | (refine g_dops ?_; first | refine ed_none ?_ | refine ed_nil ?_ | refine ed_yes rfl ?_ | refine ed_no rfl ?_ | refine ed_und rfl ?_ | refine ed_yesH rfl (by assumption) ?_ | refine ed_noH rfl (by assumption) ?_)
            | refine ed_same rfl ?_ | refine ed_one rfl rfl rfl rfl ?_ | refine ed_two rfl rfl rfl rfl rfl rfl rfl ?_ | refine ed_write rfl rfl ?_
            | (refine g_code ?_; first | refine ec_seq ?_ | refine ec_region ?_ | refine ec_draw ?_ | refine ec_skip ?_ | refine ec_ret ?_ | refine ec_condT rfl ?_ | refine ec_condF rfl ?_ | refine ec_condTH rfl (by assumption) ?_ | refine ec_condFH rfl (by assumption) ?_)
            | refine ek_seqN ?_ | refine ek_seqR ?_)
          refine sfin (.inr rfl) (by rfl) (by rfl) (by exact ⟨rfl, rfl, rfl⟩) (by rfl) (by rfl) (by rfl) (by first | rfl | (simp; done) | (simp [ints, prs]; done))
        · rw [if_neg hc0] at e1
          refine has15.eev rfl rfl ?_
          unfold m15
          repeat' (first
            | (refine g_op ?_; first
              | refine ep_mov rfl ?_ | refine sp_loadN rfl rfl rfl rfl rfl ?_
              | refine ep_call0 rfl (by first | exact ev17 _ _ | exact e0 | exact s0 | exact e1 | exact e2 | exact q3 | exact m1 | exact ev32_nils_nils | exact ev45_nils | exact ev46_nils) rfl rfl ?_
              | refine sp_call rfl rfl rfl rfl (by first | exact ev17 _ _ | exact e0 | exact s0 | exact e1 | exact e2 | exact q3 | exact m1 | exact ev32_nils_nils | exact ev45_nils | exact ev46_nils) ⟨rfl, rfl, rfl, rfl⟩ rfl rfl rfl ?_
              | refine ep_callw0 rfl (by first | exact ev17 _ _ | exact e0 | exact s0 | exact e1 | exact e2 | exact q3 | exact m1 | exact ev32_nils_nils | exact ev45_nils | exact ev46_nils) rfl rfl ?_
              | refine sp_callw rfl rfl rfl rfl (by first | exact ev17 _ _ | exact e0 | exact s0 | exact e1 | exact e2 | exact q3 | exact m1 | exact ev32_nils_nils | exact ev45_nils | exact ev46_nils) ⟨rfl, rfl, rfl, rfl⟩ rfl rfl rfl (by first | exact WrP_refl _ _ | (repeat' (first | exact rfl | exact True.intro | refine And.intro ?_ ?_))) ?_
              | refine ep_bin rfl rfl (by first | exact b_lss | exact b_neq) ?_ | refine ep_pickT rfl rfl ?_ | refine ep_pickF rfl rfl ?_ | refine ep_pickTH rfl (by assumption) rfl ?_ | refine ep_pickFH rfl (by assumption) rfl ?_
              | refine ep_extract rfl rfl ?_ | refine ep_not rfl ?_ | refine sp_box rfl rfl rfl rfl rfl ?_)
            | (refine g_ops ?_; first | refine eo_none ?_ | refine eo_nil ?_ | refine eo_yes rfl ?_ | refine eo_no rfl ?_ | refine eo_und rfl ?_ | refine eo_yesH rfl (by assumption) ?_ | refine eo_noH rfl (by assumption) ?_)
            | (refine g_dops ?_; first | refine ed_none ?_ | refine ed_nil ?_ | refine ed_yes rfl ?_ | refine ed_no rfl ?_ | refine ed_und rfl ?_ | refine ed_yesH rfl (by assumption) ?_ | refine ed_noH rfl (by assumption) ?_)
            | refine ed_same rfl ?_ | refine ed_one rfl rfl rfl rfl ?_ | refine ed_two rfl rfl rfl rfl rfl rfl rfl ?_ | refine ed_write rfl rfl ?_
            | (refine g_code ?_; first | refine ec_seq ?_ | refine ec_region ?_ | refine ec_draw ?_ | refine ec_skip ?_ | refine ec_ret ?_ | refine ec_condT rfl ?_ | refine ec_condF rfl ?_ | refine ec_condTH rfl (by assumption) ?_ | refine ec_condFH rfl (by assumption) ?_)
            | refine ek_seqN ?_ | refine ek_seqR ?_)
          refine sfin (.inr rfl) (by rfl) (by rfl) (by exact ⟨rfl, rfl, rfl⟩) (by rfl) (by rfl) (by rfl) (by first | rfl | (simp; done) | (simp [ints, prs]; done))
      | cons x xs =>
        have e3 := ev32 (x :: xs).length (prs p.toNat (x :: xs)) (prs p.toNat (x :: xs)) (fun j => ((p.toNat : Int), (((x :: xs).getD j 0 : Nat) : Int))) (some 0) (some 0) (by omega) (fun j hj => prs_pair hj) (fun j hj => prs_pair hj)
        have e4 := ev45 (x :: xs).length (prs p.toNat (x :: xs)) (by omega) (prs_len _ _)
        have e5 := ev46 (x :: xs).length (prs p.toNat (x :: xs)) (by omega)
        have q1 : decide (((2 * (x :: xs).length + 1 : Nat) : Int) < 0) = false := decide_eq_false (by omega)
        have q2 : (((2 * (x :: xs).length + 1 : Nat) : Int) != (2 * (x :: xs).length + 1 : Nat)) = false := by simp
        refine has15.eev rfl rfl ?_
        unfold m15
        repeat' (first
          | (refine g_op ?_; first
            | refine ep_mov rfl ?_ | refine sp_loadN rfl rfl rfl rfl rfl ?_
            | refine ep_call0 rfl (by first | exact ev17 _ _ | exact e0 | exact s0 | exact e1 | exact e2 | exact q3 | exact m1 | exact e3 | exact e4 | exact e5) rfl rfl ?_
            | refine sp_call rfl rfl rfl rfl (by first | exact ev17 _ _ | exact e0 | exact s0 | exact e1 | exact e2 | exact q3 | exact m1 | exact e3 | exact e4 | exact e5) ⟨rfl, rfl, rfl, rfl⟩ rfl rfl rfl ?_
            | refine ep_callw0 rfl (by first | exact ev17 _ _ | exact e0 | exact s0 | exact e1 | exact e2 | exact q3 | exact m1 | exact e3 | exact e4 | exact e5) rfl rfl ?_
            | refine sp_callw rfl rfl rfl rfl (by first | exact ev17 _ _ | exact e0 | exact s0 | exact e1 | exact e2 | exact q3 | exact m1 | exact e3 | exact e4 | exact e5) ⟨rfl, rfl, rfl, rfl⟩ rfl rfl rfl (by first | exact WrP_refl _ _ | (repeat' (first | exact rfl | exact True.intro | refine And.intro ?_ ?_))) ?_
            | refine ep_bin rfl rfl (by first | exact b_lss | exact b_neq) ?_ | refine ep_pickT rfl rfl ?_ | refine ep_pickF rfl rfl ?_ | refine ep_pickTH rfl (by assumption) rfl ?_ | refine ep_pickFH rfl (by assumption) rfl ?_
            | refine ep_extract rfl rfl ?_ | refine ep_not rfl ?_ | refine sp_box rfl rfl rfl rfl rfl ?_)
          | (refine g_ops ?_; first | refine eo_none ?_ | refine eo_nil ?_ | refine eo_yes rfl ?_ | refine eo_no rfl ?_ | refine eo_und rfl ?_ | refine eo_yesH rfl (by assumption) ?_ | refine eo_noH rfl (by assumption) ?_)
          | (refine g_dops ?_; first | refine ed_none ?_ | refine ed_nil ?_ | refine ed_yes rfl ?_ | refine ed_no rfl ?_ | refine ed_und rfl ?_ | refine ed_yesH rfl (by assumption) ?_ | refine ed_noH rfl (by assumption) ?_)
          | refine ed_same rfl ?_ | refine ed_one rfl rfl rfl rfl ?_ | refine ed_two rfl rfl rfl rfl rfl rfl rfl ?_ | refine ed_write rfl rfl ?_
          | (refine g_code ?_; first | refine ec_seq ?_ | refine ec_region ?_ | refine ec_draw ?_ | refine ec_skip ?_ | refine ec_ret ?_ | refine ec_condT rfl ?_ | refine ec_condF rfl ?_ | refine ec_condTH rfl (by assumption) ?_ | refine ec_condFH rfl (by assumption) ?_)
          | refine ek_seqN ?_ | refine ek_seqR ?_)
        refine sfin (.inr rfl) (by rfl) (by rfl) (by exact ⟨rfl, rfl, rfl⟩) (by rfl) (by rfl) (by rfl) (by first | rfl | (simp; done) | (simp [ints, prs]; done))
    · rw [if_neg hn] at s0
      refine has15.eev rfl rfl ?_
      unfold m15
      repeat' (first
        | (refine g_op ?_; first
          | refine ep_mov rfl ?_ | refine sp_loadN rfl rfl rfl rfl rfl ?_
          | refine ep_call0 rfl (by first | exact s0) rfl rfl ?_
          | refine sp_call rfl rfl rfl rfl (by first | exact s0) ⟨rfl, rfl, rfl, rfl⟩ rfl rfl rfl ?_
          | refine ep_callw0 rfl (by first | exact s0) rfl rfl ?_
          | refine sp_callw rfl rfl rfl rfl (by first | exact s0) ⟨rfl, rfl, rfl, rfl⟩ rfl rfl rfl (by first | exact WrP_refl _ _ | (repeat' (first | exact rfl | exact True.intro | refine And.intro ?_ ?_))) ?_
          | refine ep_bin rfl rfl (by first | exact b_lss | exact b_neq) ?_ | refine ep_pickT rfl rfl ?_ | refine ep_pickF rfl rfl ?_ | refine ep_pickTH rfl (by assumption) rfl ?_ | refine ep_pickFH rfl (by assumption) rfl ?_
          | refine ep_extract rfl rfl ?_ | refine ep_not rfl ?_ | refine sp_box rfl rfl rfl rfl rfl ?_)
        | (refine g_ops ?_; first | refine eo_none ?_ | refine eo_nil ?_ | refine eo_yes rfl ?_ | refine eo_no rfl ?_ | refine eo_und rfl ?_ | refine eo_yesH rfl (by assumption) ?_ | refine eo_noH rfl (by assumption) ?_)
        | (refine g_dops ?_; first | refine ed_none ?_ | refine ed_nil ?_ | refine ed_yes rfl ?_ | refine ed_no rfl ?_ | refine ed_und rfl ?_ | refine ed_yesH rfl (by assumption) ?_ | refine ed_noH rfl (by assumption) ?_)
        | refine ed_same rfl ?_ | refine ed_one rfl rfl rfl rfl ?_ | refine ed_two rfl rfl rfl rfl rfl rfl rfl ?_ | refine ed_write rfl rfl ?_
        | (refine g_code ?_; first | refine ec_seq ?_ | refine ec_region ?_ | refine ec_draw ?_ | refine ec_skip ?_ | refine ec_ret ?_ | refine ec_condT rfl ?_ | refine ec_condF rfl ?_ | refine ec_condTH rfl (by assumption) ?_ | refine ec_condFH rfl (by assumption) ?_)
        | refine ek_seqN ?_ | refine ek_seqR ?_)
      refine sfin (.inr rfl) (by rfl) (by rfl) (by exact ⟨rfl, rfl, rfl⟩) (by rfl) (by rfl) (by rfl) (by first | rfl | (simp; done) | (simp [ints, prs]; done))



end Go.Proofs.Ytdmpajkcpdjfbaa
