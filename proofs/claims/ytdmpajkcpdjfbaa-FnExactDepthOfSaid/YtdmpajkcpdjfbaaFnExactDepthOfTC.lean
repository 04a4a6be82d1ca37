/- What each function that the statement reaches returns. -/
import Derived.Test.YtdmpajkcpdjfbaaFnExactDepthOfTB
set_option linter.unusedVariables false
set_option linter.unusedSimpArgs false
set_option maxRecDepth 100000
set_option maxHeartbeats 4000000
namespace Go.Proofs.Ytdmpajkcpdjfbaa
open Go Go.Proofs.Ytdmpajkcpdjfbaa.Mi
attribute [local irreducible] code opsK opsDK gopK opK seqK blockK callK binV
attribute [local irreducible] R2 bt
-- spec.l04Code
def m81_0 : MC := (.seq (.seq (.region [⟨(.mov (.t 6)), (some 15), none⟩, ⟨(.mov (.t 0)), (some 16), none⟩, ⟨(.len (.t 16)), (some 17), none⟩, ⟨(.bin .lss (.t 15) (.t 17)), (some 18), none⟩] false) (.cond (.t 18) .skip (.exit 0))) (.seq (.block 1 (.seq (.region [⟨(.mov (.t 1)), (some 21), none⟩, ⟨(.bin .eql (.t 21) (.k (.int .i64 3))), (some 22), none⟩, ⟨(.mov (.t 22)), (some 23), none⟩, ⟨(.mov (.t 0)), (some 24), (some (23, true))⟩, ⟨(.mov (.t 6)), (some 25), (some (23, true))⟩, ⟨(.indexAddr 2 (.t 24) (.t 25)), (some 26), (some (23, true))⟩, ⟨(.fieldAddr 0 (.t 26)), (some 27), (some (23, true))⟩, ⟨(.load none (.t 27)), (some 28), (some (23, true))⟩, ⟨(.bin .gtr (.t 28) (.k (.int .i64 2))), (some 29), (some (23, true))⟩, ⟨(.pick (.t 23) (.t 29) (.k (.bool false))), (some 30), none⟩] false) (.cond (.t 30) (.seq (.region [⟨(.mov (.k (.int .i64 2))), (some 4), none⟩] false) .ret) .skip))) (.region [⟨(.mov (.t 6)), (some 19), none⟩, ⟨(.bin .add (.t 19) (.k (.int .i64 1))), (some 20), none⟩, ⟨(.mov (.t 20)), (some 6), none⟩] false)))
def m81 : MC := (.seq (.region [⟨(.mov (.k (.int .i64 0))), (some 4), none⟩] false) (.seq (.seq (.region [⟨(.mov (.t 0)), (some 7), none⟩, ⟨(.call 69 [(.t 7)]), (some 8), none⟩, ⟨(.mov (.t 8)), (some 5), none⟩] false) (.seq (.region [⟨(.mov (.t 5)), (some 9), none⟩, ⟨(.bin .neq (.t 9) (.k (.int .i64 0))), (some 10), none⟩] false) (.cond (.t 10) (.seq (.region [⟨(.mov (.t 5)), (some 11), none⟩, ⟨(.mov (.t 11)), (some 4), none⟩] false) .ret) .skip))) (.seq (.seq (.region [⟨(.mov (.t 1)), (some 12), none⟩, ⟨(.call 97 [(.t 12), (.k (.int .i64 2)), (.k (.int .i64 3))]), (some 13), none⟩, ⟨(.un .not (.t 13)), (some 14), none⟩] false) (.cond (.t 14) (.seq (.region [⟨(.mov (.k (.int .i64 2))), (some 4), none⟩] false) .ret) .skip)) (.seq (.seq (.region [⟨(.mov (.k (.int .i64 0))), (some 6), none⟩] false) (.block 0 (.loop m81_0))) (.seq (.region [⟨(.mov (.k (.int .i64 0))), (some 4), none⟩] false) .ret)))))
theorem has81 : Has cx 81 31 m81 [(.tmp 4)] :=
  ⟨⟨Try.f81, Try.f81.body.getD .skip, by kernel_rfl, by kernel_rfl, by kernel_rfl, by kernel_rfl, by kernel_rfl, by kernel_rfl⟩⟩
theorem lplc_n (fs : List (Int × Int)) (z : Int) (hln : fs.length ≤ 1048576) (hz : (z == 3) = false) :
    LpS cx 31 1 m81_0 [(0, .sl 0 0 fs.length), (1, .int .i64 (z)), (6, .int .i64 (0 : Nat))] [⟨fns fs, 2, 0, some 0, false⟩] (⟨.exit 0, [], [⟨fns fs, 2, 0, some 0, false⟩]⟩ : Out).x (⟨.exit 0, [], [⟨fns fs, 2, 0, some 0, false⟩]⟩ : Out).e (⟨.exit 0, [], [⟨fns fs, 2, 0, some 0, false⟩]⟩ : Out).h := by
  refine lp_st (fs.length) (fun _ => ()) (fun i _ => [(0, .sl 0 0 fs.length), (1, .int .i64 (z)), (6, .int .i64 (i : Nat))]) (fun i _ => [⟨fns fs, 2, 0, some 0, false⟩]) (fun _ => (⟨.exit 0, [], [⟨fns fs, 2, 0, some 0, false⟩]⟩ : Out)) ?_ ?_ (fs.length) 0 (by omega)
  · intro i u_ hi hu_
    refine ⟨(), rfl, ?_⟩
    have hlt : decide ((i : Int) < (fs.length : Nat)) = true := decide_eq_true (by omega)
    unfold m81_0
    repeat' (first
      | (refine g_op ?_; first
        | refine ep_mov rfl ?_ | refine ep_load1 rfl rfl rfl rfl ?_ | refine ep_fieldAddr rfl ?_
        | refine ep_bin rfl rfl (by first | exact b_add (by omega) (by omega) | exact b_sub (by omega) (by omega) | exact b_and (by omega) (by omega) | exact b_or (by omega) (by omega) | exact b_shr (by omega) | exact b_shl (by omega) (by omega) | exact b_lss | exact b_leq | exact b_gtr | exact b_geq | exact b_eql | exact b_neq) ?_
        | refine ep_pickT rfl rfl ?_ | refine ep_pickF rfl rfl ?_ | refine ep_pickTH rfl (by assumption) rfl ?_ | refine ep_pickFH rfl (by assumption) rfl ?_ | refine ep_lenS rfl ?_ | refine ep_lenN rfl ?_
        | refine ep_lenE rfl ?_ | refine sp_idx rfl rfl rfl (by omega) rfl ?_ | refine ep_loadS rfl rfl rfl (by first | exact ints_get (by omega) | exact zints_get (by omega) | exact fget (by omega) | assumption) ?_)
      | (refine g_ops ?_; first | refine eo_none ?_ | refine eo_nil ?_ | refine eo_yes rfl ?_ | refine eo_no rfl ?_ | refine eo_und rfl ?_ | refine eo_yesH rfl (by assumption) ?_ | refine eo_noH rfl (by assumption) ?_)
      | (refine g_code ?_; first | refine ec_seq ?_ | refine ec_region ?_ | refine ec_block ?_ | refine ec_skip ?_ | refine ec_exit ?_ | refine ec_ret ?_ | refine ec_condT rfl ?_ | refine ec_condF rfl ?_ | refine ec_condTH rfl (by assumption) ?_ | refine ec_condFH rfl (by assumption) ?_)
      | refine ek_seqN ?_ | refine ek_seqX ?_ | refine ek_seqR ?_ | refine ek_blkN ?_ | refine ek_blkR ?_ | refine ek_blkX ?_ | refine ek_blkY rfl ?_)
    exact rnd_on (by rfl) (scmp2 (by rfl) (by rfl) (by exact ⟨rfl, rfl, rfl⟩) (by rfl) (by first | rfl | (simp; done) | (simp [ints, prs]; done)) (by rfl) (by first | rfl | (simp; done) | (simp [ints, prs]; done)))
  · intro u_ hu_
    have hlt : decide (((fs.length : Nat) : Int) < (fs.length : Nat)) = false := decide_eq_false (by omega)
    unfold m81_0
    repeat' (first
      | (refine g_op ?_; first
        | refine ep_mov rfl ?_ | refine ep_load1 rfl rfl rfl rfl ?_ | refine ep_fieldAddr rfl ?_
        | refine ep_bin rfl rfl (by first | exact b_add (by omega) (by omega) | exact b_sub (by omega) (by omega) | exact b_and (by omega) (by omega) | exact b_or (by omega) (by omega) | exact b_shr (by omega) | exact b_shl (by omega) (by omega) | exact b_lss | exact b_leq | exact b_gtr | exact b_geq | exact b_eql | exact b_neq) ?_
        | refine ep_pickT rfl rfl ?_ | refine ep_pickF rfl rfl ?_ | refine ep_pickTH rfl (by assumption) rfl ?_ | refine ep_pickFH rfl (by assumption) rfl ?_ | refine ep_lenS rfl ?_ | refine ep_lenN rfl ?_
        | refine ep_lenE rfl ?_ | refine sp_idx rfl rfl rfl (by omega) rfl ?_ | refine ep_loadS rfl rfl rfl (by first | exact ints_get (by omega) | exact zints_get (by omega) | exact fget (by omega) | assumption) ?_)
      | (refine g_ops ?_; first | refine eo_none ?_ | refine eo_nil ?_ | refine eo_yes rfl ?_ | refine eo_no rfl ?_ | refine eo_und rfl ?_ | refine eo_yesH rfl (by assumption) ?_ | refine eo_noH rfl (by assumption) ?_)
      | (refine g_code ?_; first | refine ec_seq ?_ | refine ec_region ?_ | refine ec_block ?_ | refine ec_skip ?_ | refine ec_exit ?_ | refine ec_ret ?_ | refine ec_condT rfl ?_ | refine ec_condF rfl ?_ | refine ec_condTH rfl (by assumption) ?_ | refine ec_condFH rfl (by assumption) ?_)
      | refine ek_seqN ?_ | refine ek_seqX ?_ | refine ek_seqR ?_ | refine ek_blkN ?_ | refine ek_blkR ?_ | refine ek_blkX ?_ | refine ek_blkY rfl ?_)
    exact rnd_out (by rfl) (by simp) (scmp2 (by rfl) (by rfl) (by exact ⟨rfl, rfl, rfl⟩) (by rfl) (by first | rfl | (simp; done) | (simp [ints, prs]; done)) (by rfl) (by first | rfl | (simp; done) | (simp [ints, prs]; done)))

theorem lplc_y (fs : List (Int × Int)) (z : Int) (hln : fs.length ≤ 1048576) (hz : (z == 3) = true) (o : Out) (ho : (if allF (fun j => !decide ((fs.getD j (0, 0)).1 > 2)) 0 (fs.length) = true then (⟨.exit 0, [], [⟨fns fs, 2, 0, some 0, false⟩]⟩ : Out) else ⟨.ret, [(4, .int .i64 2)], [⟨fns fs, 2, 0, some 0, false⟩]⟩) = o) :
    LpS cx 31 1 m81_0 [(0, .sl 0 0 fs.length), (1, .int .i64 (z)), (6, .int .i64 (0 : Nat))] [⟨fns fs, 2, 0, some 0, false⟩] o.x o.e o.h := by
  refine lp_all (fs.length) (fun j => !decide ((fs.getD j (0, 0)).1 > 2)) (fun i => [(0, .sl 0 0 fs.length), (1, .int .i64 (z)), (6, .int .i64 (i : Nat))]) (fun i => [⟨fns fs, 2, 0, some 0, false⟩]) _ _ ?_ ?_ ?_ (fs.length) 0 o (by omega) ho
  · intro i hi hp
    have hlt : decide ((i : Int) < (fs.length : Nat)) = true := decide_eq_true (by omega)
    have hp' : (!decide ((fs.getD i (0, 0)).1 > 2)) = true := hp
    have hg0 := fns_at0 (l := fs) (j := i) hi
    have hq : decide ((fs.getD i (0, 0)).1 > 2) = false := by simpa using hp'
    unfold m81_0
    repeat' (first
      | refine ep_loadS rfl rfl rfl hg0 ?_
      | (refine g_op ?_; first
        | refine ep_mov rfl ?_ | refine ep_load1 rfl rfl rfl rfl ?_ | refine ep_fieldAddr rfl ?_
        | refine ep_bin rfl rfl (by first | exact b_add (by omega) (by omega) | exact b_sub (by omega) (by omega) | exact b_and (by omega) (by omega) | exact b_or (by omega) (by omega) | exact b_shr (by omega) | exact b_shl (by omega) (by omega) | exact b_lss | exact b_leq | exact b_gtr | exact b_geq | exact b_eql | exact b_neq) ?_
        | refine ep_pickT rfl rfl ?_ | refine ep_pickF rfl rfl ?_ | refine ep_pickTH rfl (by assumption) rfl ?_ | refine ep_pickFH rfl (by assumption) rfl ?_ | refine ep_lenS rfl ?_ | refine ep_lenN rfl ?_
        | refine ep_lenE rfl ?_ | refine sp_idx rfl rfl rfl (by omega) rfl ?_ | refine ep_loadS rfl rfl rfl (by first | exact ints_get (by omega) | exact zints_get (by omega) | exact fget (by omega) | assumption) ?_)
      | (refine g_ops ?_; first | refine eo_none ?_ | refine eo_nil ?_ | refine eo_yes rfl ?_ | refine eo_no rfl ?_ | refine eo_und rfl ?_ | refine eo_yesH rfl (by assumption) ?_ | refine eo_noH rfl (by assumption) ?_)
      | (refine g_code ?_; first | refine ec_seq ?_ | refine ec_region ?_ | refine ec_block ?_ | refine ec_skip ?_ | refine ec_exit ?_ | refine ec_ret ?_ | refine ec_condT rfl ?_ | refine ec_condF rfl ?_ | refine ec_condTH rfl (by assumption) ?_ | refine ec_condFH rfl (by assumption) ?_)
      | refine ek_seqN ?_ | refine ek_seqX ?_ | refine ek_seqR ?_ | refine ek_blkN ?_ | refine ek_blkR ?_ | refine ek_blkX ?_ | refine ek_blkY rfl ?_)
    exact rnd_on (by rfl) (scmp2 (by rfl) (by rfl) (by exact ⟨rfl, rfl, rfl⟩) (by rfl) (by first | rfl | (simp; done) | (simp [ints, prs]; done)) (by rfl) (by first | rfl | (simp; done) | (simp [ints, prs]; done)))
  · intro i hi hp
    have hlt : decide ((i : Int) < (fs.length : Nat)) = true := decide_eq_true (by omega)
    have hp' : (!decide ((fs.getD i (0, 0)).1 > 2)) = false := hp
    have hg0 := fns_at0 (l := fs) (j := i) hi
    have hq : decide ((fs.getD i (0, 0)).1 > 2) = true := by simpa using hp'
    unfold m81_0
    repeat' (first
      | refine ep_loadS rfl rfl rfl hg0 ?_
      | (refine g_op ?_; first
        | refine ep_mov rfl ?_ | refine ep_load1 rfl rfl rfl rfl ?_ | refine ep_fieldAddr rfl ?_
        | refine ep_bin rfl rfl (by first | exact b_add (by omega) (by omega) | exact b_sub (by omega) (by omega) | exact b_and (by omega) (by omega) | exact b_or (by omega) (by omega) | exact b_shr (by omega) | exact b_shl (by omega) (by omega) | exact b_lss | exact b_leq | exact b_gtr | exact b_geq | exact b_eql | exact b_neq) ?_
        | refine ep_pickT rfl rfl ?_ | refine ep_pickF rfl rfl ?_ | refine ep_pickTH rfl (by assumption) rfl ?_ | refine ep_pickFH rfl (by assumption) rfl ?_ | refine ep_lenS rfl ?_ | refine ep_lenN rfl ?_
        | refine ep_lenE rfl ?_ | refine sp_idx rfl rfl rfl (by omega) rfl ?_ | refine ep_loadS rfl rfl rfl (by first | exact ints_get (by omega) | exact zints_get (by omega) | exact fget (by omega) | assumption) ?_)
      | (refine g_ops ?_; first | refine eo_none ?_ | refine eo_nil ?_ | refine eo_yes rfl ?_ | refine eo_no rfl ?_ | refine eo_und rfl ?_ | refine eo_yesH rfl (by assumption) ?_ | refine eo_noH rfl (by assumption) ?_)
      | (refine g_code ?_; first | refine ec_seq ?_ | refine ec_region ?_ | refine ec_block ?_ | refine ec_skip ?_ | refine ec_exit ?_ | refine ec_ret ?_ | refine ec_condT rfl ?_ | refine ec_condF rfl ?_ | refine ec_condTH rfl (by assumption) ?_ | refine ec_condFH rfl (by assumption) ?_)
      | refine ek_seqN ?_ | refine ek_seqX ?_ | refine ek_seqR ?_ | refine ek_blkN ?_ | refine ek_blkR ?_ | refine ek_blkX ?_ | refine ek_blkY rfl ?_)
    exact rnd_out (by rfl) (by simp) (scmp2 (by rfl) (by rfl) (by exact ⟨rfl, rfl, rfl⟩) (by rfl) (by first | rfl | (simp; done) | (simp [ints, prs]; done)) (by rfl) (by first | rfl | (simp; done) | (simp [ints, prs]; done)))
  · have hlt : decide (((fs.length : Nat) : Int) < (fs.length : Nat)) = false := decide_eq_false (by omega)
    unfold m81_0
    repeat' (first
      | (refine g_op ?_; first
        | refine ep_mov rfl ?_ | refine ep_load1 rfl rfl rfl rfl ?_ | refine ep_fieldAddr rfl ?_
        | refine ep_bin rfl rfl (by first | exact b_add (by omega) (by omega) | exact b_sub (by omega) (by omega) | exact b_and (by omega) (by omega) | exact b_or (by omega) (by omega) | exact b_shr (by omega) | exact b_shl (by omega) (by omega) | exact b_lss | exact b_leq | exact b_gtr | exact b_geq | exact b_eql | exact b_neq) ?_
        | refine ep_pickT rfl rfl ?_ | refine ep_pickF rfl rfl ?_ | refine ep_pickTH rfl (by assumption) rfl ?_ | refine ep_pickFH rfl (by assumption) rfl ?_ | refine ep_lenS rfl ?_ | refine ep_lenN rfl ?_
        | refine ep_lenE rfl ?_ | refine sp_idx rfl rfl rfl (by omega) rfl ?_ | refine ep_loadS rfl rfl rfl (by first | exact ints_get (by omega) | exact zints_get (by omega) | exact fget (by omega) | assumption) ?_)
      | (refine g_ops ?_; first | refine eo_none ?_ | refine eo_nil ?_ | refine eo_yes rfl ?_ | refine eo_no rfl ?_ | refine eo_und rfl ?_ | refine eo_yesH rfl (by assumption) ?_ | refine eo_noH rfl (by assumption) ?_)
      | (refine g_code ?_; first | refine ec_seq ?_ | refine ec_region ?_ | refine ec_block ?_ | refine ec_skip ?_ | refine ec_exit ?_ | refine ec_ret ?_ | refine ec_condT rfl ?_ | refine ec_condF rfl ?_ | refine ec_condTH rfl (by assumption) ?_ | refine ec_condFH rfl (by assumption) ?_)
      | refine ek_seqN ?_ | refine ek_seqX ?_ | refine ek_seqR ?_ | refine ek_blkN ?_ | refine ek_blkR ?_ | refine ek_blkX ?_ | refine ek_blkY rfl ?_)
    exact rnd_out (by rfl) (by simp) (scmp2 (by rfl) (by rfl) (by exact ⟨rfl, rfl, rfl⟩) (by rfl) (by first | rfl | (simp; done) | (simp [ints, prs]; done)) (by rfl) (by first | rfl | (simp; done) | (simp [ints, prs]; done)))

theorem ev81 (fs : List (Int × Int)) (z : Int) (hln : fs.length ≤ 1048576) : Ev cx 81 [.sl 0 0 fs.length, .int .i64 z] [⟨fns fs, 2, 0, some 0, false⟩] (.int .i64 (gcode fs z)) [⟨fns fs, 2, 0, some 0, false⟩] := by
  have e1 := ev69 fs hln
  have e2 := ev97 z 2 3
  by_cases h0 : lcode fs = 0
  · rw [h0] at e1
    by_cases h1 : 2 ≤ z ∧ z ≤ 3
    · rw [decide_eq_true h1] at e2
      cases hz : (z == 3)
      · have hC : gcode fs z = 0 := by rw [gcode, if_pos h0, if_pos h1, if_neg (fun h => by rw [h.1] at hz; simp at hz)]
        have lp := lplc_n fs z hln hz
        rw [hC]
        refine has81.eev rfl rfl ?_
        unfold m81
        repeat' (first
          | refine sc_loop lp rfl rfl ⟨rfl, rfl, rfl⟩ rfl rfl rfl ?_
          | (refine g_op ?_; first
            | refine ep_mov rfl ?_
            | refine ep_call0 rfl (by first | exact e1 | exact e2) rfl rfl ?_
            | refine sp_call rfl rfl rfl rfl (by first | exact e1 | exact e2) ⟨rfl, rfl, rfl, rfl⟩ rfl rfl rfl ?_
            | refine ep_bin rfl rfl (by first | exact b_add (by omega) (by omega) | exact b_sub (by omega) (by omega) | exact b_and (by omega) (by omega) | exact b_or (by omega) (by omega) | exact b_shr (by omega) | exact b_shl (by omega) (by omega) | exact b_lss | exact b_leq | exact b_gtr | exact b_geq | exact b_eql | exact b_neq) ?_
            | refine ep_not rfl ?_)
          | (refine g_ops ?_; first | refine eo_none ?_ | refine eo_nil ?_)
          | (refine g_code ?_; first | refine ec_seq ?_ | refine ec_region ?_ | refine ec_block ?_ | refine ec_skip ?_ | refine ec_ret ?_ | refine ec_condT rfl ?_ | refine ec_condF rfl ?_ | refine ec_condTH rfl (by assumption) ?_ | refine ec_condFH rfl (by assumption) ?_)
          | refine ek_seqN ?_ | refine ek_seqX ?_ | refine ek_seqR ?_ | refine ek_blkN ?_ | refine ek_blkR ?_ | refine ek_blkX ?_ | refine ek_blkY rfl ?_)
        refine sfin (.inr rfl) (by rfl) (by rfl) (by exact ⟨rfl, rfl, rfl⟩) (by rfl) (by rfl) (by rfl) (by first | rfl | (simp; done) | (simp [ints, prs]; done))
      · have hz3 : z = 3 := by simpa using hz
        cases h3 : a3 fs
        · have hC : gcode fs z = 2 := by rw [gcode, if_pos h0, if_pos h1, if_pos ⟨hz3, h3⟩]
          have lp := lplc_y fs z hln hz _ (if_neg (by rw [show allF (fun j => !decide ((fs.getD j (0, 0)).1 > 2)) 0 fs.length = false from h3]; simp))
          rw [hC]
          refine has81.eev rfl rfl ?_
          unfold m81
          repeat' (first
            | refine sc_loop lp rfl rfl ⟨rfl, rfl, rfl⟩ rfl rfl rfl ?_
            | (refine g_op ?_; first
              | refine ep_mov rfl ?_
              | refine ep_call0 rfl (by first | exact e1 | exact e2) rfl rfl ?_
              | refine sp_call rfl rfl rfl rfl (by first | exact e1 | exact e2) ⟨rfl, rfl, rfl, rfl⟩ rfl rfl rfl ?_
              | refine ep_bin rfl rfl (by first | exact b_add (by omega) (by omega) | exact b_sub (by omega) (by omega) | exact b_and (by omega) (by omega) | exact b_or (by omega) (by omega) | exact b_shr (by omega) | exact b_shl (by omega) (by omega) | exact b_lss | exact b_leq | exact b_gtr | exact b_geq | exact b_eql | exact b_neq) ?_
              | refine ep_not rfl ?_)
            | (refine g_ops ?_; first | refine eo_none ?_ | refine eo_nil ?_)
            | (refine g_code ?_; first | refine ec_seq ?_ | refine ec_region ?_ | refine ec_block ?_ | refine ec_skip ?_ | refine ec_ret ?_ | refine ec_condT rfl ?_ | refine ec_condF rfl ?_ | refine ec_condTH rfl (by assumption) ?_ | refine ec_condFH rfl (by assumption) ?_)
            | refine ek_seqN ?_ | refine ek_seqX ?_ | refine ek_seqR ?_ | refine ek_blkN ?_ | refine ek_blkR ?_ | refine ek_blkX ?_ | refine ek_blkY rfl ?_)
          refine sfin (.inr rfl) (by rfl) (by rfl) (by exact ⟨rfl, rfl, rfl⟩) (by rfl) (by rfl) (by rfl) (by first | rfl | (simp; done) | (simp [ints, prs]; done))
        · have hC : gcode fs z = 0 := by rw [gcode, if_pos h0, if_pos h1, if_neg (fun h => by rw [h3] at h; simp at h)]
          have lp := lplc_y fs z hln hz _ (if_pos h3)
          rw [hC]
          refine has81.eev rfl rfl ?_
          unfold m81
          repeat' (first
            | refine sc_loop lp rfl rfl ⟨rfl, rfl, rfl⟩ rfl rfl rfl ?_
            | (refine g_op ?_; first
              | refine ep_mov rfl ?_
              | refine ep_call0 rfl (by first | exact e1 | exact e2) rfl rfl ?_
              | refine sp_call rfl rfl rfl rfl (by first | exact e1 | exact e2) ⟨rfl, rfl, rfl, rfl⟩ rfl rfl rfl ?_
              | refine ep_bin rfl rfl (by first | exact b_add (by omega) (by omega) | exact b_sub (by omega) (by omega) | exact b_and (by omega) (by omega) | exact b_or (by omega) (by omega) | exact b_shr (by omega) | exact b_shl (by omega) (by omega) | exact b_lss | exact b_leq | exact b_gtr | exact b_geq | exact b_eql | exact b_neq) ?_
              | refine ep_not rfl ?_)
            | (refine g_ops ?_; first | refine eo_none ?_ | refine eo_nil ?_)
            | (refine g_code ?_; first | refine ec_seq ?_ | refine ec_region ?_ | refine ec_block ?_ | refine ec_skip ?_ | refine ec_ret ?_ | refine ec_condT rfl ?_ | refine ec_condF rfl ?_ | refine ec_condTH rfl (by assumption) ?_ | refine ec_condFH rfl (by assumption) ?_)
            | refine ek_seqN ?_ | refine ek_seqX ?_ | refine ek_seqR ?_ | refine ek_blkN ?_ | refine ek_blkR ?_ | refine ek_blkX ?_ | refine ek_blkY rfl ?_)
          refine sfin (.inr rfl) (by rfl) (by rfl) (by exact ⟨rfl, rfl, rfl⟩) (by rfl) (by rfl) (by rfl) (by first | rfl | (simp; done) | (simp [ints, prs]; done))
    · rw [decide_eq_false h1] at e2
      have hC : gcode fs z = 2 := by rw [gcode, if_pos h0, if_neg h1]
      rw [hC]
      refine has81.eev rfl rfl ?_
      unfold m81
      repeat' (first
        | (refine g_op ?_; first
          | refine ep_mov rfl ?_
          | refine ep_call0 rfl (by first | exact e1 | exact e2) rfl rfl ?_
          | refine sp_call rfl rfl rfl rfl (by first | exact e1 | exact e2) ⟨rfl, rfl, rfl, rfl⟩ rfl rfl rfl ?_
          | refine ep_bin rfl rfl (by first | exact b_add (by omega) (by omega) | exact b_sub (by omega) (by omega) | exact b_and (by omega) (by omega) | exact b_or (by omega) (by omega) | exact b_shr (by omega) | exact b_shl (by omega) (by omega) | exact b_lss | exact b_leq | exact b_gtr | exact b_geq | exact b_eql | exact b_neq) ?_
          | refine ep_not rfl ?_)
        | (refine g_ops ?_; first | refine eo_none ?_ | refine eo_nil ?_)
        | (refine g_code ?_; first | refine ec_seq ?_ | refine ec_region ?_ | refine ec_block ?_ | refine ec_skip ?_ | refine ec_ret ?_ | refine ec_condT rfl ?_ | refine ec_condF rfl ?_ | refine ec_condTH rfl (by assumption) ?_ | refine ec_condFH rfl (by assumption) ?_)
        | refine ek_seqN ?_ | refine ek_seqX ?_ | refine ek_seqR ?_ | refine ek_blkN ?_ | refine ek_blkR ?_ | refine ek_blkX ?_ | refine ek_blkY rfl ?_)
      refine sfin (.inr rfl) (by rfl) (by rfl) (by exact ⟨rfl, rfl, rfl⟩) (by rfl) (by rfl) (by rfl) (by first | rfl | (simp; done) | (simp [ints, prs]; done))
  · have hC : gcode fs z = lcode fs := by rw [gcode, if_neg h0]
    have hq2 : (lcode fs != 0) = true := by simpa using h0
    rw [hC]
    refine has81.eev rfl rfl ?_
    unfold m81
    repeat' (first
      | (refine g_op ?_; first
        | refine ep_mov rfl ?_
        | refine ep_call0 rfl (by first | exact e1 | exact e2) rfl rfl ?_
        | refine sp_call rfl rfl rfl rfl (by first | exact e1 | exact e2) ⟨rfl, rfl, rfl, rfl⟩ rfl rfl rfl ?_
        | refine ep_bin rfl rfl (by first | exact b_add (by omega) (by omega) | exact b_sub (by omega) (by omega) | exact b_and (by omega) (by omega) | exact b_or (by omega) (by omega) | exact b_shr (by omega) | exact b_shl (by omega) (by omega) | exact b_lss | exact b_leq | exact b_gtr | exact b_geq | exact b_eql | exact b_neq) ?_
        | refine ep_not rfl ?_)
      | (refine g_ops ?_; first | refine eo_none ?_ | refine eo_nil ?_)
      | (refine g_code ?_; first | refine ec_seq ?_ | refine ec_region ?_ | refine ec_block ?_ | refine ec_skip ?_ | refine ec_ret ?_ | refine ec_condT rfl ?_ | refine ec_condF rfl ?_ | refine ec_condTH rfl (by assumption) ?_ | refine ec_condFH rfl (by assumption) ?_)
      | refine ek_seqN ?_ | refine ek_seqX ?_ | refine ek_seqR ?_ | refine ek_blkN ?_ | refine ek_blkR ?_ | refine ek_blkX ?_ | refine ek_blkY rfl ?_)
    refine sfin (.inr rfl) (by rfl) (by rfl) (by exact ⟨rfl, rfl, rfl⟩) (by rfl) (by rfl) (by rfl) (by first | rfl | (simp; done) | (simp [ints, prs]; done))
-- impl.generationCode$1
def m125 : MC := (.seq (.region [⟨(.mov (.k (.bool false))), (some 2), none⟩] false) (.seq (.region [⟨(.mov (.t 0)), (some 3), none⟩, ⟨(.call 73 [(.t 3)]), (some 4), none⟩, ⟨(.un .not (.t 4)), (some 5), none⟩, ⟨(.mov (.t 5)), (some 2), none⟩] false) .ret))
theorem has125 : Has cx 125 6 m125 [(.tmp 2)] :=
  ⟨⟨Try.f125, Try.f125.body.getD .skip, by kernel_rfl, by kernel_rfl, by kernel_rfl, by kernel_rfl, by kernel_rfl, by kernel_rfl⟩⟩
theorem evgc1 (fs : List (Int × Int)) (hln : fs.length ≤ 1048576) : Ev cx 125 [.sl 0 0 fs.length] [⟨fns fs, 2, 0, some 0, false⟩] (.bool (!allFunc fs)) [⟨fns fs, 2, 0, some 0, false⟩] := by
  refine has125.eev rfl rfl ?_
  unfold m125
  repeat' (first
    | (refine g_op ?_; first
      | refine ep_mov rfl ?_
      | refine ep_call0 rfl (by first | exact ev73 fs hln) rfl rfl ?_
      | refine sp_call rfl rfl rfl rfl (by first | exact ev73 fs hln) ⟨rfl, rfl, rfl, rfl⟩ rfl rfl rfl ?_
      | refine ep_not rfl ?_)
    | (refine g_ops ?_; first | refine eo_none ?_ | refine eo_nil ?_)
    | (refine g_code ?_; first | refine ec_seq ?_ | refine ec_region ?_ | refine ec_ret ?_)
    | refine ek_seqN ?_ | refine ek_seqR ?_)
  refine sfin (.inr rfl) (by rfl) (by rfl) (by exact ⟨rfl, rfl, rfl⟩) (by rfl) (by rfl) (by rfl) (by first | rfl | (simp; done) | (simp [ints, prs]; done))
-- impl.generationCode$2
def m126 : MC := (.seq (.region [⟨(.box (.t 0)), (some 1), none⟩, ⟨(.mov (.k (.bool false))), (some 2), none⟩] false) (.seq (.region [⟨(.fieldAddr 0 (.t 1)), (some 3), none⟩, ⟨(.load none (.t 3)), (some 4), none⟩, ⟨(.bin .gtr (.t 4) (.k (.int .i64 2))), (some 5), none⟩, ⟨(.mov (.t 5)), (some 2), none⟩] false) .ret))
theorem has126 : Has cx 126 6 m126 [(.tmp 2)] :=
  ⟨⟨Try.f126, Try.f126.body.getD .skip, by kernel_rfl, by kernel_rfl, by kernel_rfl, by kernel_rfl, by kernel_rfl, by kernel_rfl⟩⟩
theorem evgc2 (a b : Int) : Ev cx 126 [.agg [.int .i64 a, .int .i64 b]] [] (.bool (decide (a > 2))) [] := by
  refine has126.eev rfl rfl ?_
  unfold m126
  repeat' (first
    | (refine g_op ?_; first
      | refine ep_mov rfl ?_ | refine ep_load1 rfl rfl rfl rfl ?_ | refine ep_fieldAddr rfl ?_
      | refine ep_bin rfl rfl (by first | exact b_add (by omega) (by omega) | exact b_sub (by omega) (by omega) | exact b_and (by omega) (by omega) | exact b_or (by omega) (by omega) | exact b_shr (by omega) | exact b_shl (by omega) (by omega) | exact b_lss | exact b_leq | exact b_gtr | exact b_geq | exact b_eql | exact b_neq) ?_
      | refine sp_box rfl rfl rfl rfl rfl ?_)
    | (refine g_ops ?_; first | refine eo_none ?_ | refine eo_nil ?_)
    | (refine g_code ?_; first | refine ec_seq ?_ | refine ec_region ?_ | refine ec_ret ?_)
    | refine ek_seqN ?_ | refine ek_seqR ?_)
  refine sfin (.inr rfl) (by rfl) (by rfl) (by exact ⟨rfl, rfl, rfl⟩) (by rfl) (by rfl) (by rfl) (by first | rfl | (simp; done) | (simp [ints, prs]; done))
-- slices.IndexFunc[[][]impl.Func,[]impl.Func]
def m144_0 : MC := (.seq (.region [⟨(.bin .lss (.t 8) (.t 7)), (some 9), none⟩] false) (.seq (.cond (.t 9) .skip (.exit 0)) (.seq (.block 1 (.seq (.region [⟨(.mov (.t 8)), (some 10), none⟩, ⟨(.mov (.t 10)), (some 5), none⟩] false) (.seq (.region [⟨(.mov (.t 1)), (some 11), none⟩, ⟨(.mov (.t 0)), (some 12), none⟩, ⟨(.mov (.t 5)), (some 13), none⟩, ⟨(.indexAddr 1 (.t 12) (.t 13)), (some 14), none⟩, ⟨(.load none (.t 14)), (some 15), none⟩, ⟨(.callv (.t 11) [(.t 15)]), (some 16), none⟩] false) (.cond (.t 16) (.seq (.region [⟨(.mov (.t 5)), (some 17), none⟩, ⟨(.mov (.t 17)), (some 4), none⟩] false) .ret) .skip)))) (.region [⟨(.bin .add (.t 8) (.k (.int .i64 1))), (some 18), none⟩, ⟨(.mov (.t 18)), (some 8), none⟩] false))))
def m144 : MC := (.seq (.region [⟨(.mov (.k (.int .i64 0))), (some 4), none⟩] false) (.seq (.seq (.region [⟨(.mov (.t 0)), (some 6), none⟩, ⟨(.len (.t 6)), (some 7), none⟩, ⟨(.mov (.k (.int .i64 0))), (some 8), none⟩] false) (.block 0 (.loop m144_0))) (.seq (.region [⟨(.mov (.k (.int .i64 (-1)))), (some 4), none⟩] false) .ret)))
theorem has144 : Has cx 144 19 m144 [(.tmp 4)] :=
  ⟨⟨Try.f144, Try.f144.body.getD .skip, by kernel_rfl, by kernel_rfl, by kernel_rfl, by kernel_rfl, by kernel_rfl, by kernel_rfl⟩⟩

-- slices.ContainsFunc[[][]impl.Func,[]impl.Func]
def m124 : MC := (.seq (.region [⟨(.mov (.k (.bool false))), (some 4), none⟩] false) (.seq (.region [⟨(.mov (.t 0)), (some 5), none⟩, ⟨(.mov (.t 1)), (some 6), none⟩, ⟨(.call 144 [(.t 5), (.t 6)]), (some 7), none⟩, ⟨(.bin .geq (.t 7) (.k (.int .i64 0))), (some 8), none⟩, ⟨(.mov (.t 8)), (some 4), none⟩] false) .ret))
theorem has124 : Has cx 124 9 m124 [(.tmp 4)] :=
  ⟨⟨Try.f124, Try.f124.body.getD .skip, by kernel_rfl, by kernel_rfl, by kernel_rfl, by kernel_rfl, by kernel_rfl, by kernel_rfl⟩⟩

theorem lpix_gc2 (fs : List (Int × Int)) (hln : fs.length ≤ 1048576) (o : Out) (ho : (match firstF (fun i => !(fun j => decide ((fs.getD j (0, 0)).1 > 2)) i) 0 (fs.length) with | none => (⟨.exit 0, [], [⟨fns fs, 2, 0, some 0, false⟩]⟩ : Out) | some x => ⟨.ret, [(4, .int .i64 (x : Nat))], [⟨fns fs, 2, 0, some 0, false⟩]⟩) = o) :
    LpS cx 19 1 m140_0 [(0, .sl 0 0 fs.length), (1, .fn 126 []), (7, .int .i64 (fs.length : Nat)), (8, .int .i64 (0 : Nat))] [⟨fns fs, 2, 0, some 0, false⟩] o.x o.e o.h := by
  refine lp_brk (fs.length) (fun i => !(fun j => decide ((fs.getD j (0, 0)).1 > 2)) i) (fun _ => ()) (fun i _ => [(0, .sl 0 0 fs.length), (1, .fn 126 []), (7, .int .i64 (fs.length : Nat)), (8, .int .i64 (i : Nat))]) (fun i _ => [⟨fns fs, 2, 0, some 0, false⟩]) (fun _ => ⟨.exit 0, [], [⟨fns fs, 2, 0, some 0, false⟩]⟩) (fun i _ => ⟨.ret, [(4, .int .i64 (i : Nat))], [⟨fns fs, 2, 0, some 0, false⟩]⟩) ?_ ?_ ?_ (fs.length) 0 o (by omega) (fun h => by rw [← ho, firstF_none fun x h1 h2 => h x h1 (by omega)]) (fun x h1 h2 h3 h4 => by rw [← ho, firstF_some h1 (by omega) h3 h4])
  · intro i s hi hs hp
    have hlt : decide ((i : Int) < (fs.length : Nat)) = true := decide_eq_true (by omega)
    have hp' : (!(fun j => decide ((fs.getD j (0, 0)).1 > 2)) i) = true := hp
    refine ⟨(), rfl, ?_⟩
    have hg := fns_get (l := fs) (j := i) hi
    have e0 := evgc2 (fs.getD i (0, 0)).1 (fs.getD i (0, 0)).2
    have hq : (decide ((fs.getD i (0, 0)).1 > 2)) = !((!(fun j => decide ((fs.getD j (0, 0)).1 > 2)) i)) := by simp
    rw [hp'] at hq
    rw [hq] at e0
    unfold m140_0
    repeat' (first
      | refine ep_loadSN rfl rfl rfl hg ?_
      | (refine g_op ?_; first
        | refine ep_mov rfl ?_ | refine sp_loadN rfl rfl rfl rfl rfl ?_
        | refine sp_callv rfl rfl rfl rfl rfl rfl (by first | exact e0) ⟨rfl, rfl, rfl, rfl⟩ rfl rfl rfl ?_
        | refine sp_callb rfl rfl rfl rfl rfl rfl (by first | exact e0) ⟨rfl, rfl, rfl, rfl⟩ rfl rfl rfl ?_
        | refine ep_bin rfl rfl (by first | exact b_add (by omega) (by omega) | exact b_sub (by omega) (by omega) | exact b_and (by omega) (by omega) | exact b_or (by omega) (by omega) | exact b_shr (by omega) | exact b_shl (by omega) (by omega) | exact b_lss | exact b_leq | exact b_gtr | exact b_geq | exact b_eql | exact b_neq) ?_
        | refine sp_idx rfl rfl rfl (by omega) rfl ?_ | refine ep_loadSN rfl rfl rfl (by first | exact prs_get (by omega) | exact fns_get (by omega)) ?_)
      | (refine g_ops ?_; first | refine eo_none ?_ | refine eo_nil ?_)
      | (refine g_code ?_; first | refine ec_seq ?_ | refine ec_region ?_ | refine ec_block ?_ | refine ec_skip ?_ | refine ec_exit ?_ | refine ec_ret ?_ | refine ec_condT rfl ?_ | refine ec_condF rfl ?_ | refine ec_condTH rfl (by assumption) ?_ | refine ec_condFH rfl (by assumption) ?_)
      | refine ek_seqN ?_ | refine ek_seqX ?_ | refine ek_seqR ?_ | refine ek_blkN ?_ | refine ek_blkR ?_ | refine ek_blkX ?_ | refine ek_blkY rfl ?_)
    exact rnd_on (by rfl) (scmp2 (by rfl) (by rfl) (by exact ⟨rfl, rfl, rfl⟩) (by rfl) (by first | rfl | (simp; done) | (simp [ints, prs]; done)) (by rfl) (by first | rfl | (simp; done) | (simp [ints, prs]; done)))
  · intro i s hi hs hp
    have hlt : decide ((i : Int) < (fs.length : Nat)) = true := decide_eq_true (by omega)
    have hp' : (!(fun j => decide ((fs.getD j (0, 0)).1 > 2)) i) = false := hp
    have hg := fns_get (l := fs) (j := i) hi
    have e0 := evgc2 (fs.getD i (0, 0)).1 (fs.getD i (0, 0)).2
    have hq : (decide ((fs.getD i (0, 0)).1 > 2)) = !((!(fun j => decide ((fs.getD j (0, 0)).1 > 2)) i)) := by simp
    rw [hp'] at hq
    rw [hq] at e0
    unfold m140_0
    repeat' (first
      | refine ep_loadSN rfl rfl rfl hg ?_
      | (refine g_op ?_; first
        | refine ep_mov rfl ?_ | refine sp_loadN rfl rfl rfl rfl rfl ?_
        | refine sp_callv rfl rfl rfl rfl rfl rfl (by first | exact e0) ⟨rfl, rfl, rfl, rfl⟩ rfl rfl rfl ?_
        | refine sp_callb rfl rfl rfl rfl rfl rfl (by first | exact e0) ⟨rfl, rfl, rfl, rfl⟩ rfl rfl rfl ?_
        | refine ep_bin rfl rfl (by first | exact b_add (by omega) (by omega) | exact b_sub (by omega) (by omega) | exact b_and (by omega) (by omega) | exact b_or (by omega) (by omega) | exact b_shr (by omega) | exact b_shl (by omega) (by omega) | exact b_lss | exact b_leq | exact b_gtr | exact b_geq | exact b_eql | exact b_neq) ?_
        | refine sp_idx rfl rfl rfl (by omega) rfl ?_ | refine ep_loadSN rfl rfl rfl (by first | exact prs_get (by omega) | exact fns_get (by omega)) ?_)
      | (refine g_ops ?_; first | refine eo_none ?_ | refine eo_nil ?_)
      | (refine g_code ?_; first | refine ec_seq ?_ | refine ec_region ?_ | refine ec_block ?_ | refine ec_skip ?_ | refine ec_exit ?_ | refine ec_ret ?_ | refine ec_condT rfl ?_ | refine ec_condF rfl ?_ | refine ec_condTH rfl (by assumption) ?_ | refine ec_condFH rfl (by assumption) ?_)
      | refine ek_seqN ?_ | refine ek_seqX ?_ | refine ek_seqR ?_ | refine ek_blkN ?_ | refine ek_blkR ?_ | refine ek_blkX ?_ | refine ek_blkY rfl ?_)
    exact rnd_out (by rfl) (by simp) (scmp2 (by rfl) (by rfl) (by exact ⟨rfl, rfl, rfl⟩) (by rfl) (by first | rfl | (simp; done) | (simp [ints, prs]; done)) (by rfl) (by first | rfl | (simp; done) | (simp [ints, prs]; done)))
  · intro s hs
    have hlt : decide (((fs.length : Nat) : Int) < (fs.length : Nat)) = false := decide_eq_false (by omega)
    unfold m140_0
    repeat' (first
      | refine ep_loadSN rfl rfl rfl hg ?_
      | (refine g_op ?_; first
        | refine ep_mov rfl ?_ | refine sp_loadN rfl rfl rfl rfl rfl ?_
        | refine sp_callv rfl rfl rfl rfl rfl rfl (by first | exact e0) ⟨rfl, rfl, rfl, rfl⟩ rfl rfl rfl ?_
        | refine sp_callb rfl rfl rfl rfl rfl rfl (by first | exact e0) ⟨rfl, rfl, rfl, rfl⟩ rfl rfl rfl ?_
        | refine ep_bin rfl rfl (by first | exact b_add (by omega) (by omega) | exact b_sub (by omega) (by omega) | exact b_and (by omega) (by omega) | exact b_or (by omega) (by omega) | exact b_shr (by omega) | exact b_shl (by omega) (by omega) | exact b_lss | exact b_leq | exact b_gtr | exact b_geq | exact b_eql | exact b_neq) ?_
        | refine sp_idx rfl rfl rfl (by omega) rfl ?_ | refine ep_loadSN rfl rfl rfl (by first | exact prs_get (by omega) | exact fns_get (by omega)) ?_)
      | (refine g_ops ?_; first | refine eo_none ?_ | refine eo_nil ?_)
      | (refine g_code ?_; first | refine ec_seq ?_ | refine ec_region ?_ | refine ec_block ?_ | refine ec_skip ?_ | refine ec_exit ?_ | refine ec_ret ?_ | refine ec_condT rfl ?_ | refine ec_condF rfl ?_ | refine ec_condTH rfl (by assumption) ?_ | refine ec_condFH rfl (by assumption) ?_)
      | refine ek_seqN ?_ | refine ek_seqX ?_ | refine ek_seqR ?_ | refine ek_blkN ?_ | refine ek_blkR ?_ | refine ek_blkX ?_ | refine ek_blkY rfl ?_)
    exact rnd_out (by rfl) (by simp) (scmp2 (by rfl) (by rfl) (by exact ⟨rfl, rfl, rfl⟩) (by rfl) (by first | rfl | (simp; done) | (simp [ints, prs]; done)) (by rfl) (by first | rfl | (simp; done) | (simp [ints, prs]; done)))
theorem evix_gc2 (fs : List (Int × Int)) (hln : fs.length ≤ 1048576) : Ev cx 140 [.sl 0 0 fs.length, .fn 126 []] [⟨fns fs, 2, 0, some 0, false⟩] (.int .i64 (match firstF (fun i => !(fun j => decide ((fs.getD j (0, 0)).1 > 2)) i) 0 (fs.length) with | none => -1 | some x => ((x : Nat) : Int))) [⟨fns fs, 2, 0, some 0, false⟩] := by
  cases hs : firstF (fun i => !(fun j => decide ((fs.getD j (0, 0)).1 > 2)) i) 0 (fs.length) with
  | none =>
    have lp := lpix_gc2 fs hln _ (by rw [hs])
    refine has140.eev rfl rfl ?_
    unfold m140
    repeat' (first
      | refine sc_loop lp rfl rfl ⟨rfl, rfl, rfl⟩ rfl rfl rfl ?_
      | (refine g_op ?_; first
        | refine ep_mov rfl ?_
        | refine ep_lenS rfl ?_ | refine ep_lenN rfl ?_ | refine ep_lenE rfl ?_)
      | (refine g_ops ?_; first | refine eo_none ?_ | refine eo_nil ?_)
      | (refine g_code ?_; first | refine ec_seq ?_ | refine ec_region ?_ | refine ec_block ?_ | refine ec_ret ?_)
      | refine ek_seqN ?_ | refine ek_seqX ?_ | refine ek_seqR ?_ | refine ek_blkN ?_ | refine ek_blkR ?_ | refine ek_blkX ?_ | refine ek_blkY rfl ?_)
    refine sfin (.inr rfl) (by rfl) (by rfl) (by exact ⟨rfl, rfl, rfl⟩) (by rfl) (by rfl) (by rfl) (by first | rfl | (simp; done) | (simp [ints, prs]; done))
  | some x =>
    have lp := lpix_gc2 fs hln _ (by rw [hs])
    refine has140.eev rfl rfl ?_
    unfold m140
    repeat' (first
      | refine sc_loop lp rfl rfl ⟨rfl, rfl, rfl⟩ rfl rfl rfl ?_
      | (refine g_op ?_; first
        | refine ep_mov rfl ?_
        | refine ep_lenS rfl ?_ | refine ep_lenN rfl ?_ | refine ep_lenE rfl ?_)
      | (refine g_ops ?_; first | refine eo_none ?_ | refine eo_nil ?_)
      | (refine g_code ?_; first | refine ec_seq ?_ | refine ec_region ?_ | refine ec_block ?_ | refine ec_ret ?_)
      | refine ek_seqN ?_ | refine ek_seqX ?_ | refine ek_seqR ?_ | refine ek_blkN ?_ | refine ek_blkR ?_ | refine ek_blkX ?_ | refine ek_blkY rfl ?_)
    refine sfin (.inr rfl) (by rfl) (by rfl) (by exact ⟨rfl, rfl, rfl⟩) (by rfl) (by rfl) (by rfl) (by first | rfl | (simp; done) | (simp [ints, prs]; done))
theorem evcf_gc2 (fs : List (Int × Int)) (hln : fs.length ≤ 1048576) : Ev cx 115 [.sl 0 0 fs.length, .fn 126 []] [⟨fns fs, 2, 0, some 0, false⟩] (.bool (!allF (fun i => !(fun j => decide ((fs.getD j (0, 0)).1 > 2)) i) 0 (fs.length))) [⟨fns fs, 2, 0, some 0, false⟩] := by
  have e1 := evix_gc2 fs hln
  cases hs : firstF (fun i => !(fun j => decide ((fs.getD j (0, 0)).1 > 2)) i) 0 (fs.length) with
  | none =>
    rw [hs] at e1
    refine has115.eev rfl rfl ?_
    unfold m115
    repeat' (first
      | (refine g_op ?_; first
        | refine ep_mov rfl ?_
        | refine ep_call0 rfl (by first | exact e1) rfl rfl ?_
        | refine sp_call rfl rfl rfl rfl (by first | exact e1) ⟨rfl, rfl, rfl, rfl⟩ rfl rfl rfl ?_
        | refine ep_bin rfl rfl (by first | exact b_add (by omega) (by omega) | exact b_sub (by omega) (by omega) | exact b_and (by omega) (by omega) | exact b_or (by omega) (by omega) | exact b_shr (by omega) | exact b_shl (by omega) (by omega) | exact b_lss | exact b_leq | exact b_gtr | exact b_geq | exact b_eql | exact b_neq) ?_)
      | (refine g_ops ?_; first | refine eo_none ?_ | refine eo_nil ?_)
      | (refine g_code ?_; first | refine ec_seq ?_ | refine ec_region ?_ | refine ec_ret ?_)
      | refine ek_seqN ?_ | refine ek_seqR ?_)
    refine sfin (.inr rfl) (by rfl) (by rfl) (by exact ⟨rfl, rfl, rfl⟩) (by rfl) (by rfl) (by rw [firstF_allT hs]; rfl) (by first | rfl | (simp; done) | (simp [ints, prs]; done))
  | some x =>
    rw [hs] at e1
    have hge : decide (((x : Nat) : Int) ≥ 0) = true := decide_eq_true (by omega)
    refine has115.eev rfl rfl ?_
    unfold m115
    repeat' (first
      | (refine g_op ?_; first
        | refine ep_mov rfl ?_
        | refine ep_call0 rfl (by first | exact e1) rfl rfl ?_
        | refine sp_call rfl rfl rfl rfl (by first | exact e1) ⟨rfl, rfl, rfl, rfl⟩ rfl rfl rfl ?_
        | refine ep_bin rfl rfl (by first | exact b_add (by omega) (by omega) | exact b_sub (by omega) (by omega) | exact b_and (by omega) (by omega) | exact b_or (by omega) (by omega) | exact b_shr (by omega) | exact b_shl (by omega) (by omega) | exact b_lss | exact b_leq | exact b_gtr | exact b_geq | exact b_eql | exact b_neq) ?_)
      | (refine g_ops ?_; first | refine eo_none ?_ | refine eo_nil ?_)
      | (refine g_code ?_; first | refine ec_seq ?_ | refine ec_region ?_ | refine ec_ret ?_)
      | refine ek_seqN ?_ | refine ek_seqR ?_)
    refine sfin (.inr rfl) (by rfl) (by rfl) (by exact ⟨rfl, rfl, rfl⟩) (by rfl) (by rfl) (by rw [firstF_allF hs]; first | rfl | exact congrArg V.bool hge) (by first | rfl | (simp; done) | (simp [ints, prs]; done))

theorem lpix_ll1 (fs : List (Int × Int)) (hln : fs.length ≤ 1048576) (o : Out) (ho : (match firstF (fun i => !(fun _ => !allFunc fs) i) 0 (1) with | none => (⟨.exit 0, [], [⟨[.sl 1 0 fs.length], 1, 0, some 0, true⟩, ⟨fns fs, 2, 1, some 0, false⟩]⟩ : Out) | some x => ⟨.ret, [(4, .int .i64 (x : Nat))], [⟨[.sl 1 0 fs.length], 1, 0, some 0, true⟩, ⟨fns fs, 2, 1, some 0, false⟩]⟩) = o) :
    LpS cx 19 2 m144_0 [(0, .sl 0 0 1), (1, .fn 125 []), (7, .int .i64 (1 : Nat)), (8, .int .i64 (0 : Nat))] [⟨[.sl 1 0 fs.length], 1, 0, some 0, true⟩, ⟨fns fs, 2, 1, some 0, false⟩] o.x o.e o.h := by
  refine lp_brk (1) (fun i => !(fun _ => !allFunc fs) i) (fun _ => ()) (fun i _ => [(0, .sl 0 0 1), (1, .fn 125 []), (7, .int .i64 (1 : Nat)), (8, .int .i64 (i : Nat))]) (fun i _ => [⟨[.sl 1 0 fs.length], 1, 0, some 0, true⟩, ⟨fns fs, 2, 1, some 0, false⟩]) (fun _ => ⟨.exit 0, [], [⟨[.sl 1 0 fs.length], 1, 0, some 0, true⟩, ⟨fns fs, 2, 1, some 0, false⟩]⟩) (fun i _ => ⟨.ret, [(4, .int .i64 (i : Nat))], [⟨[.sl 1 0 fs.length], 1, 0, some 0, true⟩, ⟨fns fs, 2, 1, some 0, false⟩]⟩) ?_ ?_ ?_ (1) 0 o (by omega) (fun h => by rw [← ho, firstF_none fun x h1 h2 => h x h1 (by omega)]) (fun x h1 h2 h3 h4 => by rw [← ho, firstF_some h1 (by omega) h3 h4])
  · intro i s hi hs hp
    have hlt : decide ((i : Int) < (1 : Nat)) = true := decide_eq_true (by omega)
    have hp' : (!(fun _ => !allFunc fs) i) = true := hp
    refine ⟨(), rfl, ?_⟩
    have e0 := evgc1 fs hln
    have hq : (!allFunc fs) = !((!(fun _ => !allFunc fs) i)) := by simp
    rw [hp'] at hq
    rw [hq] at e0
    obtain rfl : i = 0 := by omega
    unfold m144_0
    repeat' (first
      | (refine g_op ?_; first
        | refine ep_mov rfl ?_ | refine ep_load1 rfl rfl rfl rfl ?_
        | refine sp_callv rfl rfl rfl rfl rfl rfl (by first | exact e0) ⟨rfl, rfl, rfl, rfl⟩ rfl rfl rfl ?_
        | refine sp_callb rfl rfl rfl rfl rfl rfl (by first | exact e0) ⟨rfl, rfl, rfl, rfl⟩ rfl rfl rfl ?_
        | refine ep_bin rfl rfl (by first | exact b_add (by omega) (by omega) | exact b_sub (by omega) (by omega) | exact b_and (by omega) (by omega) | exact b_or (by omega) (by omega) | exact b_shr (by omega) | exact b_shl (by omega) (by omega) | exact b_lss | exact b_leq | exact b_gtr | exact b_geq | exact b_eql | exact b_neq) ?_
        | refine sp_idx rfl rfl rfl (by omega) rfl ?_ | refine ep_loadS rfl rfl rfl (by first | exact ints_get (by omega) | exact zints_get (by omega) | exact fget (by omega) | assumption) ?_)
      | (refine g_ops ?_; first | refine eo_none ?_ | refine eo_nil ?_)
      | (refine g_code ?_; first | refine ec_seq ?_ | refine ec_region ?_ | refine ec_block ?_ | refine ec_skip ?_ | refine ec_exit ?_ | refine ec_ret ?_ | refine ec_condT rfl ?_ | refine ec_condF rfl ?_ | refine ec_condTH rfl (by assumption) ?_ | refine ec_condFH rfl (by assumption) ?_)
      | refine ek_seqN ?_ | refine ek_seqX ?_ | refine ek_seqR ?_ | refine ek_blkN ?_ | refine ek_blkR ?_ | refine ek_blkX ?_ | refine ek_blkY rfl ?_)
    exact rnd_on (by rfl) (scmp2 (by rfl) (by rfl) (by exact ⟨rfl, rfl, rfl⟩) (by rfl) (by first | rfl | (simp; done) | (simp [ints, prs]; done)) (by rfl) (by first | rfl | (simp; done) | (simp [ints, prs]; done)))
  · intro i s hi hs hp
    have hlt : decide ((i : Int) < (1 : Nat)) = true := decide_eq_true (by omega)
    have hp' : (!(fun _ => !allFunc fs) i) = false := hp
    have e0 := evgc1 fs hln
    have hq : (!allFunc fs) = !((!(fun _ => !allFunc fs) i)) := by simp
    rw [hp'] at hq
    rw [hq] at e0
    obtain rfl : i = 0 := by omega
    unfold m144_0
    repeat' (first
      | (refine g_op ?_; first
        | refine ep_mov rfl ?_ | refine ep_load1 rfl rfl rfl rfl ?_
        | refine sp_callv rfl rfl rfl rfl rfl rfl (by first | exact e0) ⟨rfl, rfl, rfl, rfl⟩ rfl rfl rfl ?_
        | refine sp_callb rfl rfl rfl rfl rfl rfl (by first | exact e0) ⟨rfl, rfl, rfl, rfl⟩ rfl rfl rfl ?_
        | refine ep_bin rfl rfl (by first | exact b_add (by omega) (by omega) | exact b_sub (by omega) (by omega) | exact b_and (by omega) (by omega) | exact b_or (by omega) (by omega) | exact b_shr (by omega) | exact b_shl (by omega) (by omega) | exact b_lss | exact b_leq | exact b_gtr | exact b_geq | exact b_eql | exact b_neq) ?_
        | refine sp_idx rfl rfl rfl (by omega) rfl ?_ | refine ep_loadS rfl rfl rfl (by first | exact ints_get (by omega) | exact zints_get (by omega) | exact fget (by omega) | assumption) ?_)
      | (refine g_ops ?_; first | refine eo_none ?_ | refine eo_nil ?_)
      | (refine g_code ?_; first | refine ec_seq ?_ | refine ec_region ?_ | refine ec_block ?_ | refine ec_skip ?_ | refine ec_exit ?_ | refine ec_ret ?_ | refine ec_condT rfl ?_ | refine ec_condF rfl ?_ | refine ec_condTH rfl (by assumption) ?_ | refine ec_condFH rfl (by assumption) ?_)
      | refine ek_seqN ?_ | refine ek_seqX ?_ | refine ek_seqR ?_ | refine ek_blkN ?_ | refine ek_blkR ?_ | refine ek_blkX ?_ | refine ek_blkY rfl ?_)
    exact rnd_out (by rfl) (by simp) (scmp2 (by rfl) (by rfl) (by exact ⟨rfl, rfl, rfl⟩) (by rfl) (by first | rfl | (simp; done) | (simp [ints, prs]; done)) (by rfl) (by first | rfl | (simp; done) | (simp [ints, prs]; done)))
  · intro s hs
    have hlt : decide (((1 : Nat) : Int) < (1 : Nat)) = false := decide_eq_false (by omega)
    unfold m144_0
    repeat' (first
      | (refine g_op ?_; first
        | refine ep_mov rfl ?_ | refine ep_load1 rfl rfl rfl rfl ?_
        | refine sp_callv rfl rfl rfl rfl rfl rfl (by first | exact e0) ⟨rfl, rfl, rfl, rfl⟩ rfl rfl rfl ?_
        | refine sp_callb rfl rfl rfl rfl rfl rfl (by first | exact e0) ⟨rfl, rfl, rfl, rfl⟩ rfl rfl rfl ?_
        | refine ep_bin rfl rfl (by first | exact b_add (by omega) (by omega) | exact b_sub (by omega) (by omega) | exact b_and (by omega) (by omega) | exact b_or (by omega) (by omega) | exact b_shr (by omega) | exact b_shl (by omega) (by omega) | exact b_lss | exact b_leq | exact b_gtr | exact b_geq | exact b_eql | exact b_neq) ?_
        | refine sp_idx rfl rfl rfl (by omega) rfl ?_ | refine ep_loadS rfl rfl rfl (by first | exact ints_get (by omega) | exact zints_get (by omega) | exact fget (by omega) | assumption) ?_)
      | (refine g_ops ?_; first | refine eo_none ?_ | refine eo_nil ?_)
      | (refine g_code ?_; first | refine ec_seq ?_ | refine ec_region ?_ | refine ec_block ?_ | refine ec_skip ?_ | refine ec_exit ?_ | refine ec_ret ?_ | refine ec_condT rfl ?_ | refine ec_condF rfl ?_ | refine ec_condTH rfl (by assumption) ?_ | refine ec_condFH rfl (by assumption) ?_)
      | refine ek_seqN ?_ | refine ek_seqX ?_ | refine ek_seqR ?_ | refine ek_blkN ?_ | refine ek_blkR ?_ | refine ek_blkX ?_ | refine ek_blkY rfl ?_)
    exact rnd_out (by rfl) (by simp) (scmp2 (by rfl) (by rfl) (by exact ⟨rfl, rfl, rfl⟩) (by rfl) (by first | rfl | (simp; done) | (simp [ints, prs]; done)) (by rfl) (by first | rfl | (simp; done) | (simp [ints, prs]; done)))
theorem evix_ll1 (fs : List (Int × Int)) (hln : fs.length ≤ 1048576) : Ev cx 144 [.sl 0 0 1, .fn 125 []] [⟨[.sl 1 0 fs.length], 1, 0, some 0, true⟩, ⟨fns fs, 2, 1, some 0, false⟩] (.int .i64 (match firstF (fun i => !(fun _ => !allFunc fs) i) 0 (1) with | none => -1 | some x => ((x : Nat) : Int))) [⟨[.sl 1 0 fs.length], 1, 0, some 0, true⟩, ⟨fns fs, 2, 1, some 0, false⟩] := by
  cases hs : firstF (fun i => !(fun _ => !allFunc fs) i) 0 (1) with
  | none =>
    have lp := lpix_ll1 fs hln _ (by rw [hs])
    refine has144.eev rfl rfl ?_
    unfold m144
    repeat' (first
      | refine sc_loop lp rfl rfl ⟨rfl, rfl, rfl⟩ rfl rfl rfl ?_
      | (refine g_op ?_; first
        | refine ep_mov rfl ?_
        | refine ep_lenS rfl ?_ | refine ep_lenN rfl ?_ | refine ep_lenE rfl ?_)
      | (refine g_ops ?_; first | refine eo_none ?_ | refine eo_nil ?_)
      | (refine g_code ?_; first | refine ec_seq ?_ | refine ec_region ?_ | refine ec_block ?_ | refine ec_ret ?_)
      | refine ek_seqN ?_ | refine ek_seqX ?_ | refine ek_seqR ?_ | refine ek_blkN ?_ | refine ek_blkR ?_ | refine ek_blkX ?_ | refine ek_blkY rfl ?_)
    refine sfin (.inr rfl) (by rfl) (by rfl) (by exact ⟨rfl, rfl, rfl⟩) (by rfl) (by rfl) (by rfl) (by first | rfl | (simp; done) | (simp [ints, prs]; done))
  | some x =>
    have lp := lpix_ll1 fs hln _ (by rw [hs])
    refine has144.eev rfl rfl ?_
    unfold m144
    repeat' (first
      | refine sc_loop lp rfl rfl ⟨rfl, rfl, rfl⟩ rfl rfl rfl ?_
      | (refine g_op ?_; first
        | refine ep_mov rfl ?_
        | refine ep_lenS rfl ?_ | refine ep_lenN rfl ?_ | refine ep_lenE rfl ?_)
      | (refine g_ops ?_; first | refine eo_none ?_ | refine eo_nil ?_)
      | (refine g_code ?_; first | refine ec_seq ?_ | refine ec_region ?_ | refine ec_block ?_ | refine ec_ret ?_)
      | refine ek_seqN ?_ | refine ek_seqX ?_ | refine ek_seqR ?_ | refine ek_blkN ?_ | refine ek_blkR ?_ | refine ek_blkX ?_ | refine ek_blkY rfl ?_)
    refine sfin (.inr rfl) (by rfl) (by rfl) (by exact ⟨rfl, rfl, rfl⟩) (by rfl) (by rfl) (by rfl) (by first | rfl | (simp; done) | (simp [ints, prs]; done))
theorem evcf_ll1 (fs : List (Int × Int)) (hln : fs.length ≤ 1048576) : Ev cx 124 [.sl 0 0 1, .fn 125 []] [⟨[.sl 1 0 fs.length], 1, 0, some 0, true⟩, ⟨fns fs, 2, 1, some 0, false⟩] (.bool (!allF (fun i => !(fun _ => !allFunc fs) i) 0 (1))) [⟨[.sl 1 0 fs.length], 1, 0, some 0, true⟩, ⟨fns fs, 2, 1, some 0, false⟩] := by
  have e1 := evix_ll1 fs hln
  cases hs : firstF (fun i => !(fun _ => !allFunc fs) i) 0 (1) with
  | none =>
    rw [hs] at e1
    refine has124.eev rfl rfl ?_
    unfold m124
    repeat' (first
      | (refine g_op ?_; first
        | refine ep_mov rfl ?_
        | refine ep_call0 rfl (by first | exact e1) rfl rfl ?_
        | refine sp_call rfl rfl rfl rfl (by first | exact e1) ⟨rfl, rfl, rfl, rfl⟩ rfl rfl rfl ?_
        | refine ep_bin rfl rfl (by first | exact b_add (by omega) (by omega) | exact b_sub (by omega) (by omega) | exact b_and (by omega) (by omega) | exact b_or (by omega) (by omega) | exact b_shr (by omega) | exact b_shl (by omega) (by omega) | exact b_lss | exact b_leq | exact b_gtr | exact b_geq | exact b_eql | exact b_neq) ?_)
      | (refine g_ops ?_; first | refine eo_none ?_ | refine eo_nil ?_)
      | (refine g_code ?_; first | refine ec_seq ?_ | refine ec_region ?_ | refine ec_ret ?_)
      | refine ek_seqN ?_ | refine ek_seqR ?_)
    refine sfin (.inr rfl) (by rfl) (by rfl) (by exact ⟨rfl, rfl, rfl⟩) (by rfl) (by rfl) (by rw [firstF_allT hs]; rfl) (by first | rfl | (simp; done) | (simp [ints, prs]; done))
  | some x =>
    rw [hs] at e1
    have hge : decide (((x : Nat) : Int) ≥ 0) = true := decide_eq_true (by omega)
    refine has124.eev rfl rfl ?_
    unfold m124
    repeat' (first
      | (refine g_op ?_; first
        | refine ep_mov rfl ?_
        | refine ep_call0 rfl (by first | exact e1) rfl rfl ?_
        | refine sp_call rfl rfl rfl rfl (by first | exact e1) ⟨rfl, rfl, rfl, rfl⟩ rfl rfl rfl ?_
        | refine ep_bin rfl rfl (by first | exact b_add (by omega) (by omega) | exact b_sub (by omega) (by omega) | exact b_and (by omega) (by omega) | exact b_or (by omega) (by omega) | exact b_shr (by omega) | exact b_shl (by omega) (by omega) | exact b_lss | exact b_leq | exact b_gtr | exact b_geq | exact b_eql | exact b_neq) ?_)
      | (refine g_ops ?_; first | refine eo_none ?_ | refine eo_nil ?_)
      | (refine g_code ?_; first | refine ec_seq ?_ | refine ec_region ?_ | refine ec_ret ?_)
      | refine ek_seqN ?_ | refine ek_seqR ?_)
    refine sfin (.inr rfl) (by rfl) (by rfl) (by exact ⟨rfl, rfl, rfl⟩) (by rfl) (by rfl) (by rw [firstF_allF hs]; first | rfl | exact congrArg V.bool hge) (by first | rfl | (simp; done) | (simp [ints, prs]; done))

-- impl.generationCode
def m86_0 : MC := (.seq (.region [⟨(.bin .lss (.t 14) (.t 13)), (some 15), none⟩] false) (.seq (.cond (.t 15) .skip (.exit 0)) (.seq (.block 1 (.seq (.region [⟨(.indexAddr 1 (.t 12) (.t 14)), (some 16), none⟩, ⟨(.load none (.t 16)), (some 17), none⟩, ⟨(.mov (.t 17)), (some 6), none⟩] false) (.seq (.region [⟨(.mov (.t 6)), (some 18), none⟩, ⟨(.len (.t 18)), (some 19), none⟩, ⟨(.bin .gtr (.t 19) (.k (.int .i64 8))), (some 20), none⟩, ⟨(.mov (.t 20)), (some 21), none⟩, ⟨(.mov (.t 0)), (some 22), (some (21, false))⟩, ⟨(.bin .eql (.t 22) (.k (.int .i64 3))), (some 23), (some (21, false))⟩, ⟨(.mov (.t 23)), (some 24), (some (21, false))⟩, ⟨(.mov (.t 6)), (some 25), (some (24, true))⟩, ⟨(.call 115 [(.t 25), (.k (.fn 126 []))]), (some 26), (some (24, true))⟩, ⟨(.pick (.t 24) (.t 26) (.k (.bool false))), (some 27), (some (21, false))⟩, ⟨(.pick (.t 21) (.k (.bool true)) (.t 27)), (some 28), none⟩] false) (.cond (.t 28) (.seq (.region [⟨(.mov (.k (.int .i64 2))), (some 4), none⟩] false) .ret) .skip)))) (.region [⟨(.bin .add (.t 14) (.k (.int .i64 1))), (some 29), none⟩, ⟨(.mov (.t 29)), (some 14), none⟩] false))))
def m86 : MC := (.seq (.region [⟨(.mov (.k (.int .i64 0))), (some 4), none⟩] false) (.seq (.seq (.region [⟨(.mov (.t 1)), (some 7), none⟩, ⟨(.call 124 [(.t 7), (.k (.fn 125 []))]), (some 8), none⟩] false) (.cond (.t 8) (.seq (.region [⟨(.mov (.k (.int .i64 1))), (some 4), none⟩] false) .ret) .skip)) (.seq (.seq (.region [⟨(.mov (.t 0)), (some 9), none⟩, ⟨(.call 101 [(.t 9), (.k (.int .i64 2)), (.k (.int .i64 3))]), (some 10), none⟩, ⟨(.un .not (.t 10)), (some 11), none⟩] false) (.cond (.t 11) (.seq (.region [⟨(.mov (.k (.int .i64 2))), (some 4), none⟩] false) .ret) .skip)) (.seq (.seq (.region [⟨(.mov (.t 1)), (some 12), none⟩, ⟨(.len (.t 12)), (some 13), none⟩, ⟨(.mov (.k (.int .i64 0))), (some 14), none⟩] false) (.block 0 (.loop m86_0))) (.seq (.region [⟨(.mov (.k (.int .i64 0))), (some 4), none⟩] false) .ret)))))
theorem has86 : Has cx 86 30 m86 [(.tmp 4)] :=
  ⟨⟨Try.f86, Try.f86.body.getD .skip, by kernel_rfl, by kernel_rfl, by kernel_rfl, by kernel_rfl, by kernel_rfl, by kernel_rfl⟩⟩
theorem lpgc_A (fs : List (Int × Int)) (z : Int) (hln : fs.length ≤ 1048576) (h8 : fs.length > 8) : LpS cx 30 2 m86_0 [(0, .int .i64 (z)), (12, .sl 0 0 1), (13, .int .i64 (1 : Nat)), (14, .int .i64 (0 : Nat))] [⟨[.sl 1 0 fs.length], 1, 0, some 0, true⟩, ⟨fns fs, 2, 1, some 0, false⟩] (⟨.ret, [(4, .int .i64 2)], [⟨[.sl 1 0 fs.length], 1, 0, some 0, true⟩, ⟨fns fs, 2, 1, some 0, false⟩]⟩ : Out).x (⟨.ret, [(4, .int .i64 2)], [⟨[.sl 1 0 fs.length], 1, 0, some 0, true⟩, ⟨fns fs, 2, 1, some 0, false⟩]⟩ : Out).e (⟨.ret, [(4, .int .i64 2)], [⟨[.sl 1 0 fs.length], 1, 0, some 0, true⟩, ⟨fns fs, 2, 1, some 0, false⟩]⟩ : Out).h := by
  have hg8 : decide (((fs.length : Nat) : Int) > 8) = true := decide_eq_true (by omega)
  have hlt0 : decide (((0 : Nat) : Int) < (1 : Nat)) = true := by decide
  have hlt1 : decide (((0 + 1 : Nat) : Int) < (1 : Nat)) = false := by decide
  refine round_out ?_
  unfold m86_0
  repeat' (first
    | (refine g_op ?_; first
      | refine ep_mov rfl ?_ | refine ep_load1 rfl rfl rfl rfl ?_
      | refine ep_bin rfl rfl (by first | exact b_add (by omega) (by omega) | exact b_sub (by omega) (by omega) | exact b_and (by omega) (by omega) | exact b_or (by omega) (by omega) | exact b_shr (by omega) | exact b_shl (by omega) (by omega) | exact b_lss | exact b_leq | exact b_gtr | exact b_geq | exact b_eql | exact b_neq) ?_
      | refine ep_pickT rfl rfl ?_ | refine ep_pickF rfl rfl ?_ | refine ep_pickTH rfl (by assumption) rfl ?_ | refine ep_pickFH rfl (by assumption) rfl ?_ | refine ep_lenS rfl ?_ | refine ep_lenN rfl ?_
      | refine ep_lenE rfl ?_ | refine sp_idx rfl rfl rfl (by omega) rfl ?_ | refine ep_loadS rfl rfl rfl (by first | exact ints_get (by omega) | exact zints_get (by omega) | exact fget (by omega) | assumption) ?_)
    | (refine g_ops ?_; first | refine eo_none ?_ | refine eo_nil ?_ | refine eo_yes rfl ?_ | refine eo_no rfl ?_ | refine eo_und rfl ?_ | refine eo_yesH rfl (by assumption) ?_ | refine eo_noH rfl (by assumption) ?_)
    | (refine g_code ?_; first | refine ec_seq ?_ | refine ec_region ?_ | refine ec_block ?_ | refine ec_skip ?_ | refine ec_exit ?_ | refine ec_ret ?_ | refine ec_condT rfl ?_ | refine ec_condF rfl ?_ | refine ec_condTH rfl (by assumption) ?_ | refine ec_condFH rfl (by assumption) ?_)
    | refine ek_seqN ?_ | refine ek_seqX ?_ | refine ek_seqR ?_ | refine ek_blkN ?_ | refine ek_blkR ?_ | refine ek_blkX ?_ | refine ek_blkY rfl ?_)
  exact rnd_out (by rfl) (by simp) (scmp2 (by rfl) (by rfl) (by exact ⟨rfl, rfl, rfl⟩) (by rfl) (by first | rfl | (simp; done) | (simp [ints, prs]; done)) (by rfl) (by first | rfl | (simp; done) | (simp [ints, prs]; done)))
theorem lpgc_B (fs : List (Int × Int)) (z : Int) (hln : fs.length ≤ 1048576) (h8 : fs.length ≤ 8) (hz : (z == 3) = false) : LpS cx 30 2 m86_0 [(0, .int .i64 (z)), (12, .sl 0 0 1), (13, .int .i64 (1 : Nat)), (14, .int .i64 (0 : Nat))] [⟨[.sl 1 0 fs.length], 1, 0, some 0, true⟩, ⟨fns fs, 2, 1, some 0, false⟩] (⟨.exit 0, [], [⟨[.sl 1 0 fs.length], 1, 0, some 0, true⟩, ⟨fns fs, 2, 1, some 0, false⟩]⟩ : Out).x (⟨.exit 0, [], [⟨[.sl 1 0 fs.length], 1, 0, some 0, true⟩, ⟨fns fs, 2, 1, some 0, false⟩]⟩ : Out).e (⟨.exit 0, [], [⟨[.sl 1 0 fs.length], 1, 0, some 0, true⟩, ⟨fns fs, 2, 1, some 0, false⟩]⟩ : Out).h := by
  have hg8 : decide (((fs.length : Nat) : Int) > 8) = false := decide_eq_false (by omega)
  have hlt0 : decide (((0 : Nat) : Int) < (1 : Nat)) = true := by decide
  have hlt1 : decide (((0 + 1 : Nat) : Int) < (1 : Nat)) = false := by decide
  refine round_on (e2 := [(0, .int .i64 (z)), (12, .sl 0 0 1), (13, .int .i64 (1 : Nat)), (14, .int .i64 (0 + 1 : Nat))]) (h2 := [⟨[.sl 1 0 fs.length], 1, 0, some 0, true⟩, ⟨fns fs, 2, 1, some 0, false⟩]) ?_ (round_out ?_)
  · unfold m86_0
    repeat' (first
      | (refine g_op ?_; first
        | refine ep_mov rfl ?_ | refine ep_load1 rfl rfl rfl rfl ?_
        | refine ep_bin rfl rfl (by first | exact b_add (by omega) (by omega) | exact b_sub (by omega) (by omega) | exact b_and (by omega) (by omega) | exact b_or (by omega) (by omega) | exact b_shr (by omega) | exact b_shl (by omega) (by omega) | exact b_lss | exact b_leq | exact b_gtr | exact b_geq | exact b_eql | exact b_neq) ?_
        | refine ep_pickT rfl rfl ?_ | refine ep_pickF rfl rfl ?_ | refine ep_pickTH rfl (by assumption) rfl ?_ | refine ep_pickFH rfl (by assumption) rfl ?_ | refine ep_lenS rfl ?_ | refine ep_lenN rfl ?_
        | refine ep_lenE rfl ?_ | refine sp_idx rfl rfl rfl (by omega) rfl ?_ | refine ep_loadS rfl rfl rfl (by first | exact ints_get (by omega) | exact zints_get (by omega) | exact fget (by omega) | assumption) ?_)
      | (refine g_ops ?_; first | refine eo_none ?_ | refine eo_nil ?_ | refine eo_yes rfl ?_ | refine eo_no rfl ?_ | refine eo_und rfl ?_ | refine eo_yesH rfl (by assumption) ?_ | refine eo_noH rfl (by assumption) ?_)
      | (refine g_code ?_; first | refine ec_seq ?_ | refine ec_region ?_ | refine ec_block ?_ | refine ec_skip ?_ | refine ec_exit ?_ | refine ec_ret ?_ | refine ec_condT rfl ?_ | refine ec_condF rfl ?_ | refine ec_condTH rfl (by assumption) ?_ | refine ec_condFH rfl (by assumption) ?_)
      | refine ek_seqN ?_ | refine ek_seqX ?_ | refine ek_seqR ?_ | refine ek_blkN ?_ | refine ek_blkR ?_ | refine ek_blkX ?_ | refine ek_blkY rfl ?_)
    exact rnd_on (by rfl) (scmp2 (by rfl) (by rfl) (by exact ⟨rfl, rfl, rfl⟩) (by rfl) (by first | rfl | (simp; done) | (simp [ints, prs]; done)) (by rfl) (by first | rfl | (simp; done) | (simp [ints, prs]; done)))
  · unfold m86_0
    repeat' (first
      | (refine g_op ?_; first
        | refine ep_mov rfl ?_ | refine ep_load1 rfl rfl rfl rfl ?_
        | refine ep_bin rfl rfl (by first | exact b_add (by omega) (by omega) | exact b_sub (by omega) (by omega) | exact b_and (by omega) (by omega) | exact b_or (by omega) (by omega) | exact b_shr (by omega) | exact b_shl (by omega) (by omega) | exact b_lss | exact b_leq | exact b_gtr | exact b_geq | exact b_eql | exact b_neq) ?_
        | refine ep_pickT rfl rfl ?_ | refine ep_pickF rfl rfl ?_ | refine ep_pickTH rfl (by assumption) rfl ?_ | refine ep_pickFH rfl (by assumption) rfl ?_ | refine ep_lenS rfl ?_ | refine ep_lenN rfl ?_
        | refine ep_lenE rfl ?_ | refine sp_idx rfl rfl rfl (by omega) rfl ?_ | refine ep_loadS rfl rfl rfl (by first | exact ints_get (by omega) | exact zints_get (by omega) | exact fget (by omega) | assumption) ?_)
      | (refine g_ops ?_; first | refine eo_none ?_ | refine eo_nil ?_ | refine eo_yes rfl ?_ | refine eo_no rfl ?_ | refine eo_und rfl ?_ | refine eo_yesH rfl (by assumption) ?_ | refine eo_noH rfl (by assumption) ?_)
      | (refine g_code ?_; first | refine ec_seq ?_ | refine ec_region ?_ | refine ec_block ?_ | refine ec_skip ?_ | refine ec_exit ?_ | refine ec_ret ?_ | refine ec_condT rfl ?_ | refine ec_condF rfl ?_ | refine ec_condTH rfl (by assumption) ?_ | refine ec_condFH rfl (by assumption) ?_)
      | refine ek_seqN ?_ | refine ek_seqX ?_ | refine ek_seqR ?_ | refine ek_blkN ?_ | refine ek_blkR ?_ | refine ek_blkX ?_ | refine ek_blkY rfl ?_)
    exact rnd_out (by rfl) (by simp) (scmp2 (by rfl) (by rfl) (by exact ⟨rfl, rfl, rfl⟩) (by rfl) (by first | rfl | (simp; done) | (simp [ints, prs]; done)) (by rfl) (by first | rfl | (simp; done) | (simp [ints, prs]; done)))
theorem lpgc_C (fs : List (Int × Int)) (z : Int) (hln : fs.length ≤ 1048576) (h8 : fs.length ≤ 8) (hz : (z == 3) = true) (h3 : a3 fs = true) : LpS cx 30 2 m86_0 [(0, .int .i64 (z)), (12, .sl 0 0 1), (13, .int .i64 (1 : Nat)), (14, .int .i64 (0 : Nat))] [⟨[.sl 1 0 fs.length], 1, 0, some 0, true⟩, ⟨fns fs, 2, 1, some 0, false⟩] (⟨.exit 0, [], [⟨[.sl 1 0 fs.length], 1, 0, some 0, true⟩, ⟨fns fs, 2, 1, some 0, false⟩]⟩ : Out).x (⟨.exit 0, [], [⟨[.sl 1 0 fs.length], 1, 0, some 0, true⟩, ⟨fns fs, 2, 1, some 0, false⟩]⟩ : Out).e (⟨.exit 0, [], [⟨[.sl 1 0 fs.length], 1, 0, some 0, true⟩, ⟨fns fs, 2, 1, some 0, false⟩]⟩ : Out).h := by
  have hg8 : decide (((fs.length : Nat) : Int) > 8) = false := decide_eq_false (by omega)
  have e3 := evcf_gc2 fs hln
  rw [show (!allF (fun i => !(fun j => decide ((fs.getD j (0, 0)).1 > 2)) i) 0 fs.length) = !a3 fs from rfl, h3] at e3
  have hlt0 : decide (((0 : Nat) : Int) < (1 : Nat)) = true := by decide
  have hlt1 : decide (((0 + 1 : Nat) : Int) < (1 : Nat)) = false := by decide
  refine round_on (e2 := [(0, .int .i64 (z)), (12, .sl 0 0 1), (13, .int .i64 (1 : Nat)), (14, .int .i64 (0 + 1 : Nat))]) (h2 := [⟨[.sl 1 0 fs.length], 1, 0, some 0, true⟩, ⟨fns fs, 2, 1, some 0, false⟩]) ?_ (round_out ?_)
  · unfold m86_0
    repeat' (first
      | (refine g_op ?_; first
        | refine ep_mov rfl ?_ | refine ep_load1 rfl rfl rfl rfl ?_
        | refine ep_call0 rfl (by first | exact e3) rfl rfl ?_
        | refine sp_call rfl rfl rfl rfl (by first | exact e3) ⟨rfl, rfl, rfl, rfl⟩ rfl rfl rfl ?_
        | refine ep_bin rfl rfl (by first | exact b_add (by omega) (by omega) | exact b_sub (by omega) (by omega) | exact b_and (by omega) (by omega) | exact b_or (by omega) (by omega) | exact b_shr (by omega) | exact b_shl (by omega) (by omega) | exact b_lss | exact b_leq | exact b_gtr | exact b_geq | exact b_eql | exact b_neq) ?_
        | refine ep_pickT rfl rfl ?_ | refine ep_pickF rfl rfl ?_ | refine ep_pickTH rfl (by assumption) rfl ?_ | refine ep_pickFH rfl (by assumption) rfl ?_ | refine ep_lenS rfl ?_ | refine ep_lenN rfl ?_
        | refine ep_lenE rfl ?_ | refine sp_idx rfl rfl rfl (by omega) rfl ?_ | refine ep_loadS rfl rfl rfl (by first | exact ints_get (by omega) | exact zints_get (by omega) | exact fget (by omega) | assumption) ?_)
      | (refine g_ops ?_; first | refine eo_none ?_ | refine eo_nil ?_ | refine eo_yes rfl ?_ | refine eo_no rfl ?_ | refine eo_und rfl ?_ | refine eo_yesH rfl (by assumption) ?_ | refine eo_noH rfl (by assumption) ?_)
      | (refine g_code ?_; first | refine ec_seq ?_ | refine ec_region ?_ | refine ec_block ?_ | refine ec_skip ?_ | refine ec_exit ?_ | refine ec_ret ?_ | refine ec_condT rfl ?_ | refine ec_condF rfl ?_ | refine ec_condTH rfl (by assumption) ?_ | refine ec_condFH rfl (by assumption) ?_)
      | refine ek_seqN ?_ | refine ek_seqX ?_ | refine ek_seqR ?_ | refine ek_blkN ?_ | refine ek_blkR ?_ | refine ek_blkX ?_ | refine ek_blkY rfl ?_)
    exact rnd_on (by rfl) (scmp2 (by rfl) (by rfl) (by exact ⟨rfl, rfl, rfl⟩) (by rfl) (by first | rfl | (simp; done) | (simp [ints, prs]; done)) (by rfl) (by first | rfl | (simp; done) | (simp [ints, prs]; done)))
  · unfold m86_0
    repeat' (first
      | (refine g_op ?_; first
        | refine ep_mov rfl ?_ | refine ep_load1 rfl rfl rfl rfl ?_
        | refine ep_bin rfl rfl (by first | exact b_add (by omega) (by omega) | exact b_sub (by omega) (by omega) | exact b_and (by omega) (by omega) | exact b_or (by omega) (by omega) | exact b_shr (by omega) | exact b_shl (by omega) (by omega) | exact b_lss | exact b_leq | exact b_gtr | exact b_geq | exact b_eql | exact b_neq) ?_
        | refine ep_pickT rfl rfl ?_ | refine ep_pickF rfl rfl ?_ | refine ep_pickTH rfl (by assumption) rfl ?_ | refine ep_pickFH rfl (by assumption) rfl ?_ | refine ep_lenS rfl ?_ | refine ep_lenN rfl ?_
        | refine ep_lenE rfl ?_ | refine sp_idx rfl rfl rfl (by omega) rfl ?_ | refine ep_loadS rfl rfl rfl (by first | exact ints_get (by omega) | exact zints_get (by omega) | exact fget (by omega) | assumption) ?_)
      | (refine g_ops ?_; first | refine eo_none ?_ | refine eo_nil ?_ | refine eo_yes rfl ?_ | refine eo_no rfl ?_ | refine eo_und rfl ?_ | refine eo_yesH rfl (by assumption) ?_ | refine eo_noH rfl (by assumption) ?_)
      | (refine g_code ?_; first | refine ec_seq ?_ | refine ec_region ?_ | refine ec_block ?_ | refine ec_skip ?_ | refine ec_exit ?_ | refine ec_ret ?_ | refine ec_condT rfl ?_ | refine ec_condF rfl ?_ | refine ec_condTH rfl (by assumption) ?_ | refine ec_condFH rfl (by assumption) ?_)
      | refine ek_seqN ?_ | refine ek_seqX ?_ | refine ek_seqR ?_ | refine ek_blkN ?_ | refine ek_blkR ?_ | refine ek_blkX ?_ | refine ek_blkY rfl ?_)
    exact rnd_out (by rfl) (by simp) (scmp2 (by rfl) (by rfl) (by exact ⟨rfl, rfl, rfl⟩) (by rfl) (by first | rfl | (simp; done) | (simp [ints, prs]; done)) (by rfl) (by first | rfl | (simp; done) | (simp [ints, prs]; done)))
theorem lpgc_D (fs : List (Int × Int)) (z : Int) (hln : fs.length ≤ 1048576) (h8 : fs.length ≤ 8) (hz : (z == 3) = true) (h3 : a3 fs = false) : LpS cx 30 2 m86_0 [(0, .int .i64 (z)), (12, .sl 0 0 1), (13, .int .i64 (1 : Nat)), (14, .int .i64 (0 : Nat))] [⟨[.sl 1 0 fs.length], 1, 0, some 0, true⟩, ⟨fns fs, 2, 1, some 0, false⟩] (⟨.ret, [(4, .int .i64 2)], [⟨[.sl 1 0 fs.length], 1, 0, some 0, true⟩, ⟨fns fs, 2, 1, some 0, false⟩]⟩ : Out).x (⟨.ret, [(4, .int .i64 2)], [⟨[.sl 1 0 fs.length], 1, 0, some 0, true⟩, ⟨fns fs, 2, 1, some 0, false⟩]⟩ : Out).e (⟨.ret, [(4, .int .i64 2)], [⟨[.sl 1 0 fs.length], 1, 0, some 0, true⟩, ⟨fns fs, 2, 1, some 0, false⟩]⟩ : Out).h := by
  have hg8 : decide (((fs.length : Nat) : Int) > 8) = false := decide_eq_false (by omega)
  have e3 := evcf_gc2 fs hln
  rw [show (!allF (fun i => !(fun j => decide ((fs.getD j (0, 0)).1 > 2)) i) 0 fs.length) = !a3 fs from rfl, h3] at e3
  have hlt0 : decide (((0 : Nat) : Int) < (1 : Nat)) = true := by decide
  have hlt1 : decide (((0 + 1 : Nat) : Int) < (1 : Nat)) = false := by decide
  refine round_out ?_
  unfold m86_0
  repeat' (first
    | (refine g_op ?_; first
      | refine ep_mov rfl ?_ | refine ep_load1 rfl rfl rfl rfl ?_
      | refine ep_call0 rfl (by first | exact e3) rfl rfl ?_
      | refine sp_call rfl rfl rfl rfl (by first | exact e3) ⟨rfl, rfl, rfl, rfl⟩ rfl rfl rfl ?_
      | refine ep_bin rfl rfl (by first | exact b_add (by omega) (by omega) | exact b_sub (by omega) (by omega) | exact b_and (by omega) (by omega) | exact b_or (by omega) (by omega) | exact b_shr (by omega) | exact b_shl (by omega) (by omega) | exact b_lss | exact b_leq | exact b_gtr | exact b_geq | exact b_eql | exact b_neq) ?_
      | refine ep_pickT rfl rfl ?_ | refine ep_pickF rfl rfl ?_ | refine ep_pickTH rfl (by assumption) rfl ?_ | refine ep_pickFH rfl (by assumption) rfl ?_ | refine ep_lenS rfl ?_ | refine ep_lenN rfl ?_
      | refine ep_lenE rfl ?_ | refine sp_idx rfl rfl rfl (by omega) rfl ?_ | refine ep_loadS rfl rfl rfl (by first | exact ints_get (by omega) | exact zints_get (by omega) | exact fget (by omega) | assumption) ?_)
    | (refine g_ops ?_; first | refine eo_none ?_ | refine eo_nil ?_ | refine eo_yes rfl ?_ | refine eo_no rfl ?_ | refine eo_und rfl ?_ | refine eo_yesH rfl (by assumption) ?_ | refine eo_noH rfl (by assumption) ?_)
    | (refine g_code ?_; first | refine ec_seq ?_ | refine ec_region ?_ | refine ec_block ?_ | refine ec_skip ?_ | refine ec_exit ?_ | refine ec_ret ?_ | refine ec_condT rfl ?_ | refine ec_condF rfl ?_ | refine ec_condTH rfl (by assumption) ?_ | refine ec_condFH rfl (by assumption) ?_)
    | refine ek_seqN ?_ | refine ek_seqX ?_ | refine ek_seqR ?_ | refine ek_blkN ?_ | refine ek_blkR ?_ | refine ek_blkX ?_ | refine ek_blkY rfl ?_)
  exact rnd_out (by rfl) (by simp) (scmp2 (by rfl) (by rfl) (by exact ⟨rfl, rfl, rfl⟩) (by rfl) (by first | rfl | (simp; done) | (simp [ints, prs]; done)) (by rfl) (by first | rfl | (simp; done) | (simp [ints, prs]; done)))
theorem ev86_1 (fs : List (Int × Int)) (z : Int) (hln : fs.length ≤ 1048576) : Ev cx 86 [.int .i64 z, .sl 0 0 1] [⟨[.sl 1 0 fs.length], 1, 0, some 0, true⟩, ⟨fns fs, 2, 1, some 0, false⟩] (.int .i64 (gcode fs z)) [⟨[.sl 1 0 fs.length], 1, 0, some 0, true⟩, ⟨fns fs, 2, 1, some 0, false⟩] := by
  have e1 := evcf_ll1 fs hln
  have e2 := ev101 z 2 3
  cases ha : allFunc fs
  · rw [show (!allF (fun i => !(fun _ => !allFunc fs) i) 0 1) = true by simp [allF, ha]] at e1
    have hl1 : lcode fs = 1 := by rw [lcode, if_neg (by rw [ha]; simp)]
    have hC : gcode fs z = 1 := by rw [gcode, hl1, if_neg (by omega)]
    rw [hC]
    refine has86.eev rfl rfl ?_
    unfold m86
    repeat' (first
      | (refine g_op ?_; first
        | refine ep_mov rfl ?_
        | refine ep_call0 rfl (by first | exact e1 | exact e2) rfl rfl ?_
        | refine sp_call rfl rfl rfl rfl (by first | exact e1 | exact e2) ⟨rfl, rfl, rfl, rfl⟩ rfl rfl rfl ?_
        | refine ep_not rfl ?_ | refine ep_lenS rfl ?_ | refine ep_lenN rfl ?_ | refine ep_lenE rfl ?_)
      | (refine g_ops ?_; first | refine eo_none ?_ | refine eo_nil ?_)
      | (refine g_code ?_; first | refine ec_seq ?_ | refine ec_region ?_ | refine ec_block ?_ | refine ec_skip ?_ | refine ec_ret ?_ | refine ec_condT rfl ?_ | refine ec_condF rfl ?_ | refine ec_condTH rfl (by assumption) ?_ | refine ec_condFH rfl (by assumption) ?_)
      | refine ek_seqN ?_ | refine ek_seqX ?_ | refine ek_seqR ?_ | refine ek_blkN ?_ | refine ek_blkR ?_ | refine ek_blkX ?_ | refine ek_blkY rfl ?_)
    refine sfin (.inr rfl) (by rfl) (by rfl) (by exact ⟨rfl, rfl, rfl⟩) (by rfl) (by rfl) (by rfl) (by first | rfl | (simp; done) | (simp [ints, prs]; done))
  · rw [show (!allF (fun i => !(fun _ => !allFunc fs) i) 0 1) = false by simp [allF, ha]] at e1
    have hl : lcode fs = if fs.length > 8 then 2 else 0 := by rw [lcode, if_pos ha]
    by_cases h1 : 2 ≤ z ∧ z ≤ 3
    · rw [decide_eq_true h1] at e2
      by_cases h8 : fs.length > 8
      · rw [if_pos h8] at hl
        have hC : gcode fs z = 2 := by rw [gcode, hl, if_neg (by omega)]
        have lp := lpgc_A fs z hln h8
        rw [hC]
        refine has86.eev rfl rfl ?_
        unfold m86
        repeat' (first
          | refine sc_loop lp rfl rfl ⟨rfl, rfl, rfl⟩ rfl rfl rfl ?_
          | (refine g_op ?_; first
            | refine ep_mov rfl ?_
            | refine ep_call0 rfl (by first | exact e1 | exact e2) rfl rfl ?_
            | refine sp_call rfl rfl rfl rfl (by first | exact e1 | exact e2) ⟨rfl, rfl, rfl, rfl⟩ rfl rfl rfl ?_
            | refine ep_not rfl ?_ | refine ep_lenS rfl ?_ | refine ep_lenN rfl ?_ | refine ep_lenE rfl ?_)
          | (refine g_ops ?_; first | refine eo_none ?_ | refine eo_nil ?_)
          | (refine g_code ?_; first | refine ec_seq ?_ | refine ec_region ?_ | refine ec_block ?_ | refine ec_skip ?_ | refine ec_ret ?_ | refine ec_condT rfl ?_ | refine ec_condF rfl ?_ | refine ec_condTH rfl (by assumption) ?_ | refine ec_condFH rfl (by assumption) ?_)
          | refine ek_seqN ?_ | refine ek_seqX ?_ | refine ek_seqR ?_ | refine ek_blkN ?_ | refine ek_blkR ?_ | refine ek_blkX ?_ | refine ek_blkY rfl ?_)
        refine sfin (.inr rfl) (by rfl) (by rfl) (by exact ⟨rfl, rfl, rfl⟩) (by rfl) (by rfl) (by rfl) (by first | rfl | (simp; done) | (simp [ints, prs]; done))
      · rw [if_neg h8] at hl
        cases hz : (z == 3)
        · have hC : gcode fs z = 0 := by rw [gcode, if_pos hl, if_pos h1, if_neg (fun h => by rw [h.1] at hz; simp at hz)]
          have lp := lpgc_B fs z hln (by omega) hz
          rw [hC]
          refine has86.eev rfl rfl ?_
          unfold m86
          repeat' (first
            | refine sc_loop lp rfl rfl ⟨rfl, rfl, rfl⟩ rfl rfl rfl ?_
            | (refine g_op ?_; first
              | refine ep_mov rfl ?_
              | refine ep_call0 rfl (by first | exact e1 | exact e2) rfl rfl ?_
              | refine sp_call rfl rfl rfl rfl (by first | exact e1 | exact e2) ⟨rfl, rfl, rfl, rfl⟩ rfl rfl rfl ?_
              | refine ep_not rfl ?_ | refine ep_lenS rfl ?_ | refine ep_lenN rfl ?_ | refine ep_lenE rfl ?_)
            | (refine g_ops ?_; first | refine eo_none ?_ | refine eo_nil ?_)
            | (refine g_code ?_; first | refine ec_seq ?_ | refine ec_region ?_ | refine ec_block ?_ | refine ec_skip ?_ | refine ec_ret ?_ | refine ec_condT rfl ?_ | refine ec_condF rfl ?_ | refine ec_condTH rfl (by assumption) ?_ | refine ec_condFH rfl (by assumption) ?_)
            | refine ek_seqN ?_ | refine ek_seqX ?_ | refine ek_seqR ?_ | refine ek_blkN ?_ | refine ek_blkR ?_ | refine ek_blkX ?_ | refine ek_blkY rfl ?_)
          refine sfin (.inr rfl) (by rfl) (by rfl) (by exact ⟨rfl, rfl, rfl⟩) (by rfl) (by rfl) (by rfl) (by first | rfl | (simp; done) | (simp [ints, prs]; done))
        · have hz3 : z = 3 := by simpa using hz
          cases h3 : a3 fs
          · have hC : gcode fs z = 2 := by rw [gcode, if_pos hl, if_pos h1, if_pos ⟨hz3, h3⟩]
            have lp := lpgc_D fs z hln (by omega) hz h3
            rw [hC]
            refine has86.eev rfl rfl ?_
            unfold m86
            repeat' (first
              | refine sc_loop lp rfl rfl ⟨rfl, rfl, rfl⟩ rfl rfl rfl ?_
              | (refine g_op ?_; first
                | refine ep_mov rfl ?_
                | refine ep_call0 rfl (by first | exact e1 | exact e2) rfl rfl ?_
                | refine sp_call rfl rfl rfl rfl (by first | exact e1 | exact e2) ⟨rfl, rfl, rfl, rfl⟩ rfl rfl rfl ?_
                | refine ep_not rfl ?_ | refine ep_lenS rfl ?_ | refine ep_lenN rfl ?_ | refine ep_lenE rfl ?_)
              | (refine g_ops ?_; first | refine eo_none ?_ | refine eo_nil ?_)
              | (refine g_code ?_; first | refine ec_seq ?_ | refine ec_region ?_ | refine ec_block ?_ | refine ec_skip ?_ | refine ec_ret ?_ | refine ec_condT rfl ?_ | refine ec_condF rfl ?_ | refine ec_condTH rfl (by assumption) ?_ | refine ec_condFH rfl (by assumption) ?_)
              | refine ek_seqN ?_ | refine ek_seqX ?_ | refine ek_seqR ?_ | refine ek_blkN ?_ | refine ek_blkR ?_ | refine ek_blkX ?_ | refine ek_blkY rfl ?_)
            refine sfin (.inr rfl) (by rfl) (by rfl) (by exact ⟨rfl, rfl, rfl⟩) (by rfl) (by rfl) (by rfl) (by first | rfl | (simp; done) | (simp [ints, prs]; done))
          · have hC : gcode fs z = 0 := by rw [gcode, if_pos hl, if_pos h1, if_neg (fun h => by rw [h3] at h; simp at h)]
            have lp := lpgc_C fs z hln (by omega) hz h3
            rw [hC]
            refine has86.eev rfl rfl ?_
            unfold m86
            repeat' (first
              | refine sc_loop lp rfl rfl ⟨rfl, rfl, rfl⟩ rfl rfl rfl ?_
              | (refine g_op ?_; first
                | refine ep_mov rfl ?_
                | refine ep_call0 rfl (by first | exact e1 | exact e2) rfl rfl ?_
                | refine sp_call rfl rfl rfl rfl (by first | exact e1 | exact e2) ⟨rfl, rfl, rfl, rfl⟩ rfl rfl rfl ?_
                | refine ep_not rfl ?_ | refine ep_lenS rfl ?_ | refine ep_lenN rfl ?_ | refine ep_lenE rfl ?_)
              | (refine g_ops ?_; first | refine eo_none ?_ | refine eo_nil ?_)
              | (refine g_code ?_; first | refine ec_seq ?_ | refine ec_region ?_ | refine ec_block ?_ | refine ec_skip ?_ | refine ec_ret ?_ | refine ec_condT rfl ?_ | refine ec_condF rfl ?_ | refine ec_condTH rfl (by assumption) ?_ | refine ec_condFH rfl (by assumption) ?_)
              | refine ek_seqN ?_ | refine ek_seqX ?_ | refine ek_seqR ?_ | refine ek_blkN ?_ | refine ek_blkR ?_ | refine ek_blkX ?_ | refine ek_blkY rfl ?_)
            refine sfin (.inr rfl) (by rfl) (by rfl) (by exact ⟨rfl, rfl, rfl⟩) (by rfl) (by rfl) (by rfl) (by first | rfl | (simp; done) | (simp [ints, prs]; done))
    · rw [decide_eq_false h1] at e2
      have hC : gcode fs z = 2 := by
        by_cases h0 : lcode fs = 0
        · rw [gcode, if_pos h0, if_neg h1]
        · rw [gcode, if_neg h0]
          by_cases h8 : fs.length > 8
          · rw [hl, if_pos h8]
          · rw [if_neg h8] at hl; exact absurd hl h0
      rw [hC]
      refine has86.eev rfl rfl ?_
      unfold m86
      repeat' (first
        | (refine g_op ?_; first
          | refine ep_mov rfl ?_
          | refine ep_call0 rfl (by first | exact e1 | exact e2) rfl rfl ?_
          | refine sp_call rfl rfl rfl rfl (by first | exact e1 | exact e2) ⟨rfl, rfl, rfl, rfl⟩ rfl rfl rfl ?_
          | refine ep_not rfl ?_ | refine ep_lenS rfl ?_ | refine ep_lenN rfl ?_ | refine ep_lenE rfl ?_)
        | (refine g_ops ?_; first | refine eo_none ?_ | refine eo_nil ?_)
        | (refine g_code ?_; first | refine ec_seq ?_ | refine ec_region ?_ | refine ec_block ?_ | refine ec_skip ?_ | refine ec_ret ?_ | refine ec_condT rfl ?_ | refine ec_condF rfl ?_ | refine ec_condTH rfl (by assumption) ?_ | refine ec_condFH rfl (by assumption) ?_)
        | refine ek_seqN ?_ | refine ek_seqX ?_ | refine ek_seqR ?_ | refine ek_blkN ?_ | refine ek_blkR ?_ | refine ek_blkX ?_ | refine ek_blkY rfl ?_)
      refine sfin (.inr rfl) (by rfl) (by rfl) (by exact ⟨rfl, rfl, rfl⟩) (by rfl) (by rfl) (by rfl) (by first | rfl | (simp; done) | (simp [ints, prs]; done))
def acode (fs : List (Int × Int)) (a b : Int) : Int := if isFn a b = true then gcode fs a else 1
def dpt (fs : List (Int × Int)) (a b : Int) : Int := (depL fs a.toNat).getD b.toNat 0
def igB (fs : List (Int × Int)) (a b : Int) : Bool := acode fs a b == 0 && decide (dpt fs a b ≥ 0)
def doR (fs : List (Int × Int)) (a b : Int) : Int × Int := if acode fs a b = 0 then (if dpt fs a b < 0 then (0, 4) else (dpt fs a b, 0)) else (0, acode fs a b)
theorem gcode_1 {fs : List (Int × Int)} {z : Int} (h : lcode fs = 1) : gcode fs z = 1 := by rw [gcode, if_neg (by omega), h]
theorem gcode_le (fs : List (Int × Int)) (z : Int) : 0 ≤ gcode fs z ∧ gcode fs z ≤ 2 := by
  unfold gcode lcode
  repeat' split
  all_goals omega
theorem acode_le (fs : List (Int × Int)) (a b : Int) : 0 ≤ acode fs a b ∧ acode fs a b ≤ 2 := by
  have := gcode_le fs a
  unfold acode; split <;> omega
-- impl.depthOf
def m85 : MC := (.seq (.region [⟨(.box (.t 1)), (some 3), none⟩, ⟨(.mov (.k .nilp)), (some 4), none⟩, ⟨(.mov (.k (.int .i64 0))), (some 5), none⟩, ⟨(.mov (.k (.int .i64 0))), (some 6), none⟩] false) (.seq (.seq (.region [⟨(.load (some 2) (.t 3)), (some 9), none⟩, ⟨(.call 55 [(.t 9)]), (some 10), none⟩, ⟨(.un .not (.t 10)), (some 11), none⟩] false) (.cond (.t 11) (.seq (.region [⟨(.mov (.k .nilp)), (some 4), none⟩, ⟨(.mov (.k (.int .i64 0))), (some 5), none⟩, ⟨(.mov (.k (.int .i64 1))), (some 6), none⟩] false) .ret) .skip)) (.seq (.seq (.region [⟨(.fieldAddr 0 (.t 3)), (some 12), none⟩, ⟨(.load none (.t 12)), (some 13), none⟩, ⟨(.mov (.t 0)), (some 14), none⟩, ⟨(.bslice 1 [.nils] 1 [(0, (1, (.t 14)))]), (some 15), none⟩, ⟨(.call 86 [(.t 13), (.t 15)]), (some 16), none⟩, ⟨(.mov (.t 16)), (some 7), none⟩] false) (.seq (.region [⟨(.mov (.t 7)), (some 17), none⟩, ⟨(.bin .neq (.t 17) (.k (.int .i64 0))), (some 18), none⟩] false) (.cond (.t 18) (.seq (.region [⟨(.mov (.t 7)), (some 19), none⟩, ⟨(.mov (.k .nilp)), (some 4), none⟩, ⟨(.mov (.k (.int .i64 0))), (some 5), none⟩, ⟨(.mov (.t 19)), (some 6), none⟩] false) .ret) .skip))) (.seq (.region [⟨(.mov (.t 0)), (some 20), none⟩, ⟨(.fieldAddr 0 (.t 3)), (some 21), none⟩, ⟨(.load none (.t 21)), (some 22), none⟩, ⟨(.call 88 [(.t 20), (.t 22)]), (some 23), none⟩, ⟨(.mov (.t 23)), (some 8), none⟩] false) (.seq (.seq (.region [⟨(.mov (.t 8)), (some 24), none⟩, ⟨(.nilck (.t 24)), (some 25), none⟩, ⟨(.fieldAddr 2 (.t 25)), (some 26), none⟩, ⟨(.load none (.t 26)), (some 27), none⟩, ⟨(.fieldAddr 1 (.t 3)), (some 28), none⟩, ⟨(.load none (.t 28)), (some 29), none⟩, ⟨(.indexAddr 1 (.t 27) (.t 29)), (some 30), none⟩, ⟨(.load none (.t 30)), (some 31), none⟩, ⟨(.bin .lss (.t 31) (.k (.int .i64 0))), (some 32), none⟩] true) (.cond (.t 32) (.seq (.region [⟨(.mov (.k .nilp)), (some 4), none⟩, ⟨(.mov (.k (.int .i64 0))), (some 5), none⟩, ⟨(.mov (.k (.int .i64 4))), (some 6), none⟩] false) .ret) .skip)) (.seq (.region [⟨(.mov (.t 8)), (some 33), none⟩, ⟨(.mov (.t 8)), (some 34), none⟩, ⟨(.nilck (.t 34)), (some 35), none⟩, ⟨(.fieldAddr 2 (.t 35)), (some 36), none⟩, ⟨(.load none (.t 36)), (some 37), none⟩, ⟨(.fieldAddr 1 (.t 3)), (some 38), none⟩, ⟨(.load none (.t 38)), (some 39), none⟩, ⟨(.indexAddr 1 (.t 37) (.t 39)), (some 40), none⟩, ⟨(.load none (.t 40)), (some 41), none⟩, ⟨(.mov (.t 33)), (some 4), none⟩, ⟨(.mov (.t 41)), (some 5), none⟩, ⟨(.mov (.k (.int .i64 0))), (some 6), none⟩] true) .ret))))))
theorem has85 : Has cx 85 42 m85 [(.tmp 4), (.tmp 5), (.tmp 6)] :=
  ⟨⟨Try.f85, Try.f85.body.getD .skip, by kernel_rfl, by kernel_rfl, by kernel_rfl, by kernel_rfl, by kernel_rfl, by kernel_rfl⟩⟩
theorem evdo_bad (fs : List (Int × Int)) (a b : Int) (hln : fs.length ≤ 1048576) (h0 : acode fs a b ≠ 0) : Ev cx 85 [.sl 0 0 fs.length, .agg [.int .i64 a, .int .i64 b]] [⟨fns fs, 2, 0, some 0, false⟩] (.tup [.nilp, .int .i64 0, .int .i64 (acode fs a b)]) [⟨fns fs, 2, 0, some 0, false⟩] := by
  have e1 := ev55 a b
  have e2 := ev86_1 fs a hln
  cases h1 : isFn a b
  · rw [h1] at e1
    rw [acode, h1, if_neg (by simp)]
    refine has85.eev rfl rfl ?_
    unfold m85
    repeat' (first
      | (refine g_op ?_; first
        | refine ep_mov rfl ?_ | refine ep_load1 rfl rfl rfl rfl ?_ | refine ep_fieldAddr rfl ?_ | refine sp_loadN rfl rfl rfl rfl rfl ?_
        | refine ep_call0 rfl (by first | exact e1) rfl rfl ?_
        | refine sp_call rfl rfl rfl rfl (by first | exact e1) ⟨rfl, rfl, rfl, rfl⟩ rfl rfl rfl ?_
        | refine ep_bin rfl rfl (by first | exact b_add (by omega) (by omega) | exact b_sub (by omega) (by omega) | exact b_and (by omega) (by omega) | exact b_or (by omega) (by omega) | exact b_shr (by omega) | exact b_shl (by omega) (by omega) | exact b_lss | exact b_leq | exact b_gtr | exact b_geq | exact b_eql | exact b_neq) ?_
        | refine ep_not rfl ?_ | refine sp_box rfl rfl rfl rfl rfl ?_ | refine sp_bslice rfl rfl rfl rfl rfl ?_ | refine sp_idx rfl rfl rfl (by omega) rfl ?_ | refine ep_loadS rfl rfl rfl (by first | exact ints_get (by omega) | exact zints_get (by omega) | exact fget (by omega) | assumption) ?_
        | refine ep_loadSN rfl rfl rfl (by first | exact prs_get (by omega) | exact fns_get (by omega)) ?_ | refine ep_nilckP rfl ?_ | refine ep_nilckF rfl ?_)
      | (refine g_ops ?_; first | refine eo_none ?_ | refine eo_nil ?_)
      | (refine g_dops ?_; first | refine ed_none ?_ | refine ed_nil ?_)
      | refine ed_same rfl ?_ | refine ed_one rfl rfl rfl rfl ?_ | refine ed_two rfl rfl rfl rfl rfl rfl rfl ?_ | refine ed_write rfl rfl ?_
      | (refine g_code ?_; first | refine ec_seq ?_ | refine ec_region ?_ | refine ec_draw ?_ | refine ec_skip ?_ | refine ec_ret ?_ | refine ec_condT rfl ?_ | refine ec_condF rfl ?_ | refine ec_condTH rfl (by assumption) ?_ | refine ec_condFH rfl (by assumption) ?_)
      | refine ek_seqN ?_ | refine ek_seqR ?_)
    refine sfin (.inr rfl) (by rfl) (by rfl) (by exact ⟨rfl, rfl, rfl⟩) (by rfl) (by rfl) (by rfl) (by first | rfl | (simp; done) | (simp [ints, prs]; done))
  · rw [h1] at e1
    have hC : acode fs a b = gcode fs a := by rw [acode, if_pos h1]
    rw [hC] at h0 ⊢
    have hq2 : (gcode fs a != 0) = true := by simpa using h0
    refine has85.eev rfl rfl ?_
    unfold m85
    repeat' (first
      | (refine g_op ?_; first
        | refine ep_mov rfl ?_ | refine ep_load1 rfl rfl rfl rfl ?_ | refine ep_fieldAddr rfl ?_ | refine sp_loadN rfl rfl rfl rfl rfl ?_
        | refine ep_call0 rfl (by first | exact e1 | exact e2) rfl rfl ?_
        | refine sp_call rfl rfl rfl rfl (by first | exact e1 | exact e2) ⟨rfl, rfl, rfl, rfl⟩ rfl rfl rfl ?_
        | refine ep_bin rfl rfl (by first | exact b_add (by omega) (by omega) | exact b_sub (by omega) (by omega) | exact b_and (by omega) (by omega) | exact b_or (by omega) (by omega) | exact b_shr (by omega) | exact b_shl (by omega) (by omega) | exact b_lss | exact b_leq | exact b_gtr | exact b_geq | exact b_eql | exact b_neq) ?_
        | refine ep_not rfl ?_ | refine sp_box rfl rfl rfl rfl rfl ?_ | refine sp_bslice rfl rfl rfl rfl rfl ?_ | refine sp_idx rfl rfl rfl (by omega) rfl ?_ | refine ep_loadS rfl rfl rfl (by first | exact ints_get (by omega) | exact zints_get (by omega) | exact fget (by omega) | assumption) ?_
        | refine ep_loadSN rfl rfl rfl (by first | exact prs_get (by omega) | exact fns_get (by omega)) ?_ | refine ep_nilckP rfl ?_ | refine ep_nilckF rfl ?_)
      | (refine g_ops ?_; first | refine eo_none ?_ | refine eo_nil ?_)
      | (refine g_dops ?_; first | refine ed_none ?_ | refine ed_nil ?_)
      | refine ed_same rfl ?_ | refine ed_one rfl rfl rfl rfl ?_ | refine ed_two rfl rfl rfl rfl rfl rfl rfl ?_ | refine ed_write rfl rfl ?_
      | (refine g_code ?_; first | refine ec_seq ?_ | refine ec_region ?_ | refine ec_draw ?_ | refine ec_skip ?_ | refine ec_ret ?_ | refine ec_condT rfl ?_ | refine ec_condF rfl ?_ | refine ec_condTH rfl (by assumption) ?_ | refine ec_condFH rfl (by assumption) ?_)
      | refine ek_seqN ?_ | refine ek_seqR ?_)
    refine sfin (.inr rfl) (by rfl) (by rfl) (by exact ⟨rfl, rfl, rfl⟩) (by rfl) (by rfl) (by rfl) (by first | rfl | (simp; done) | (simp [ints, prs]; done))
theorem acode_0 {fs : List (Int × Int)} {a b : Int} (h : acode fs a b = 0) : isFn a b = true ∧ gcode fs a = 0 := by
  unfold acode at h
  split at h
  · rename_i h1; exact ⟨h1, h⟩
  · omega
theorem evdo_ok (fs : List (Int × Int)) (a b : Int) (hln : fs.length ≤ 1048576) (h0 : acode fs a b = 0) : if dpt fs a b < 0 then Ev cx 85 [.sl 0 0 fs.length, .agg [.int .i64 a, .int .i64 b]] [⟨fns fs, 2, 0, some 0, false⟩] (.tup [.nilp, .int .i64 0, .int .i64 4]) [⟨fns fs, 2, 0, some 0, false⟩]
    else Ev cx 85 [.sl 0 0 fs.length, .agg [.int .i64 a, .int .i64 b]] [⟨fns fs, 2, 0, some 0, false⟩] (.tup [.ptr 1 0, .int .i64 (dpt fs a b), .int .i64 0]) [⟨fns fs, 2, 0, some 0, false⟩, ⟨[.sl 0 0 fs.length, .int .i64 a, .sl 2 0 (R2 (R2 a.toNat))], 1, 1, some 0, true⟩, ⟨zints (depL fs a.toNat), 1, 2, some 0, false⟩] := by
  obtain ⟨h1, h2⟩ := acode_0 h0
  obtain ⟨ha, hl, hz1, hz2⟩ := gcode_0 h2
  have e1 := ev55 a b
  have e2 := ev86_1 fs a hln
  rw [h1] at e1
  rw [h2] at e2
  obtain ⟨n, b, rfl, rfl, a1, a2, a3⟩ := isFn_nat h1
  have e3 := ev88 n fs (by omega) (by omega) ha hln
  have hlen := depL_len fs n
  have hget := zints_get (l := depL fs n) (j := b) (by omega)
  have hd : dpt fs (n : Nat) (b : Nat) = (depL fs n).getD b 0 := rfl
  rw [hd, Int.toNat_natCast]
  by_cases h : (depL fs n).getD b 0 < 0
  · rw [if_pos h]
    have hq : decide ((depL fs n).getD b 0 < 0) = true := decide_eq_true h
    refine has85.eev rfl rfl ?_
    unfold m85
    repeat' (first
      | refine ep_loadS rfl rfl rfl hget ?_
      | (refine g_op ?_; first
        | refine ep_mov rfl ?_ | refine ep_load1 rfl rfl rfl rfl ?_ | refine ep_fieldAddr rfl ?_ | refine sp_loadN rfl rfl rfl rfl rfl ?_
        | refine ep_call0 rfl (by first | exact e1 | exact e2 | exact e3) rfl rfl ?_
        | refine sp_call rfl rfl rfl rfl (by first | exact e1 | exact e2 | exact e3) ⟨rfl, rfl, rfl, rfl⟩ rfl rfl rfl ?_
        | refine ep_bin rfl rfl (by first | exact b_add (by omega) (by omega) | exact b_sub (by omega) (by omega) | exact b_and (by omega) (by omega) | exact b_or (by omega) (by omega) | exact b_shr (by omega) | exact b_shl (by omega) (by omega) | exact b_lss | exact b_leq | exact b_gtr | exact b_geq | exact b_eql | exact b_neq) ?_
        | refine ep_not rfl ?_ | refine sp_box rfl rfl rfl rfl rfl ?_ | refine sp_bslice rfl rfl rfl rfl rfl ?_ | refine sp_idx rfl rfl rfl (by omega) rfl ?_ | refine ep_loadS rfl rfl rfl (by first | exact ints_get (by omega) | exact zints_get (by omega) | exact fget (by omega) | assumption) ?_
        | refine ep_loadSN rfl rfl rfl (by first | exact prs_get (by omega) | exact fns_get (by omega)) ?_ | refine ep_nilckP rfl ?_ | refine ep_nilckF rfl ?_)
      | (refine g_ops ?_; first | refine eo_none ?_ | refine eo_nil ?_)
      | (refine g_dops ?_; first | refine ed_none ?_ | refine ed_nil ?_)
      | refine ed_same rfl ?_ | refine ed_one rfl rfl rfl rfl ?_ | refine ed_two rfl rfl rfl rfl rfl rfl rfl ?_ | refine ed_write rfl rfl ?_
      | (refine g_code ?_; first | refine ec_seq ?_ | refine ec_region ?_ | refine ec_draw ?_ | refine ec_skip ?_ | refine ec_ret ?_ | refine ec_condT rfl ?_ | refine ec_condF rfl ?_ | refine ec_condTH rfl (by assumption) ?_ | refine ec_condFH rfl (by assumption) ?_)
      | refine ek_seqN ?_ | refine ek_seqR ?_)
    refine sfin (.inr rfl) (by rfl) (by rfl) (by exact ⟨rfl, rfl, rfl⟩) (by rfl) (by rfl) (by rfl) (by first | rfl | (simp; done) | (simp [ints, prs]; done))
  · rw [if_neg h]
    have hq : decide ((depL fs n).getD b 0 < 0) = false := decide_eq_false h
    refine has85.eev rfl rfl ?_
    unfold m85
    repeat' (first
      | refine ep_loadS rfl rfl rfl hget ?_
      | (refine g_op ?_; first
        | refine ep_mov rfl ?_ | refine ep_load1 rfl rfl rfl rfl ?_ | refine ep_fieldAddr rfl ?_ | refine sp_loadN rfl rfl rfl rfl rfl ?_
        | refine ep_call0 rfl (by first | exact e1 | exact e2 | exact e3) rfl rfl ?_
        | refine sp_call rfl rfl rfl rfl (by first | exact e1 | exact e2 | exact e3) ⟨rfl, rfl, rfl, rfl⟩ rfl rfl rfl ?_
        | refine ep_bin rfl rfl (by first | exact b_add (by omega) (by omega) | exact b_sub (by omega) (by omega) | exact b_and (by omega) (by omega) | exact b_or (by omega) (by omega) | exact b_shr (by omega) | exact b_shl (by omega) (by omega) | exact b_lss | exact b_leq | exact b_gtr | exact b_geq | exact b_eql | exact b_neq) ?_
        | refine ep_not rfl ?_ | refine sp_box rfl rfl rfl rfl rfl ?_ | refine sp_bslice rfl rfl rfl rfl rfl ?_ | refine sp_idx rfl rfl rfl (by omega) rfl ?_ | refine ep_loadS rfl rfl rfl (by first | exact ints_get (by omega) | exact zints_get (by omega) | exact fget (by omega) | assumption) ?_
        | refine ep_loadSN rfl rfl rfl (by first | exact prs_get (by omega) | exact fns_get (by omega)) ?_ | refine ep_nilckP rfl ?_ | refine ep_nilckF rfl ?_)
      | (refine g_ops ?_; first | refine eo_none ?_ | refine eo_nil ?_)
      | (refine g_dops ?_; first | refine ed_none ?_ | refine ed_nil ?_)
      | refine ed_same rfl ?_ | refine ed_one rfl rfl rfl rfl ?_ | refine ed_two rfl rfl rfl rfl rfl rfl rfl ?_ | refine ed_write rfl rfl ?_
      | (refine g_code ?_; first | refine ec_seq ?_ | refine ec_region ?_ | refine ec_draw ?_ | refine ec_skip ?_ | refine ec_ret ?_ | refine ec_condT rfl ?_ | refine ec_condF rfl ?_ | refine ec_condTH rfl (by assumption) ?_ | refine ec_condFH rfl (by assumption) ?_)
      | refine ek_seqN ?_ | refine ek_seqR ?_)
    refine sfin (.inr rfl) (by rfl) (by rfl) (by exact ⟨rfl, rfl, rfl⟩) (by rfl) (by rfl) (by rfl) (by first | rfl | (simp; done) | (simp [ints, prs]; done))
-- impl.DepthOf
def m40 : MC := (.seq (.region [⟨(.box (.t 1)), (some 3), none⟩, ⟨(.mov (.k (.int .i64 0))), (some 4), none⟩, ⟨(.mov (.k (.int .i64 0))), (some 5), none⟩] false) (.seq (.region [⟨(.mov (.t 0)), (some 10), none⟩, ⟨(.load (some 2) (.t 3)), (some 11), none⟩, ⟨(.call 85 [(.t 10), (.t 11)]), (some 12), none⟩, ⟨(.mov (.t 12)), (some 9), none⟩, ⟨(.extract (.t 9) 0), (some 13), none⟩, ⟨(.extract (.t 9) 1), (some 14), none⟩, ⟨(.extract (.t 9) 2), (some 15), none⟩, ⟨(.mov (.t 13)), (some 6), none⟩, ⟨(.mov (.t 14)), (some 7), none⟩, ⟨(.mov (.t 15)), (some 8), none⟩] false) (.seq (.region [⟨(.mov (.t 7)), (some 16), none⟩, ⟨(.mov (.t 8)), (some 17), none⟩, ⟨(.mov (.t 16)), (some 4), none⟩, ⟨(.mov (.t 17)), (some 5), none⟩] false) .ret)))
theorem has40 : Has cx 40 18 m40 [(.tmp 4), (.tmp 5)] :=
  ⟨⟨Try.f40, Try.f40.body.getD .skip, by kernel_rfl, by kernel_rfl, by kernel_rfl, by kernel_rfl, by kernel_rfl, by kernel_rfl⟩⟩
theorem ev40 (fs : List (Int × Int)) (a b : Int) (hln : fs.length ≤ 1048576) : Ev cx 40 [.sl 0 0 fs.length, .agg [.int .i64 a, .int .i64 b]] [⟨fns fs, 2, 0, some 0, false⟩] (.tup [.int .i64 (doR fs a b).1, .int .i64 (doR fs a b).2]) [⟨fns fs, 2, 0, some 0, false⟩] := by
  by_cases h0 : acode fs a b = 0
  · have e1 := evdo_ok fs a b hln h0
    by_cases h : dpt fs a b < 0
    · rw [if_pos h] at e1
      rw [doR, if_pos h0, if_pos h]
      refine has40.eev rfl rfl ?_
      unfold m40
      repeat' (first
        | (refine g_op ?_; first
          | refine ep_mov rfl ?_ | refine sp_loadN rfl rfl rfl rfl rfl ?_
          | refine ep_call0 rfl (by first | exact e1) rfl rfl ?_
          | refine sp_call rfl rfl rfl rfl (by first | exact e1) ⟨rfl, rfl, rfl, rfl⟩ rfl rfl rfl ?_
          | refine ep_extract rfl rfl ?_ | refine sp_box rfl rfl rfl rfl rfl ?_)
        | (refine g_ops ?_; first | refine eo_none ?_ | refine eo_nil ?_)
        | (refine g_code ?_; first | refine ec_seq ?_ | refine ec_region ?_ | refine ec_ret ?_)
        | refine ek_seqN ?_ | refine ek_seqR ?_)
      refine sfin (.inr rfl) (by rfl) (by rfl) (by exact ⟨rfl, rfl, rfl⟩) (by rfl) (by rfl) (by rfl) (by first | rfl | (simp; done) | (simp [ints, prs]; done))
    · rw [if_neg h] at e1
      rw [doR, if_pos h0, if_neg h]
      refine has40.eev rfl rfl ?_
      unfold m40
      repeat' (first
        | (refine g_op ?_; first
          | refine ep_mov rfl ?_ | refine sp_loadN rfl rfl rfl rfl rfl ?_
          | refine ep_call0 rfl (by first | exact e1) rfl rfl ?_
          | refine sp_call rfl rfl rfl rfl (by first | exact e1) ⟨rfl, rfl, rfl, rfl⟩ rfl rfl rfl ?_
          | refine ep_extract rfl rfl ?_ | refine sp_box rfl rfl rfl rfl rfl ?_)
        | (refine g_ops ?_; first | refine eo_none ?_ | refine eo_nil ?_)
        | (refine g_code ?_; first | refine ec_seq ?_ | refine ec_region ?_ | refine ec_ret ?_)
        | refine ek_seqN ?_ | refine ek_seqR ?_)
      refine sfin (.inr rfl) (by rfl) (by rfl) (by exact ⟨rfl, rfl, rfl⟩) (by rfl) (by rfl) (by rfl) (by first | rfl | (simp; done) | (simp [ints, prs]; done))
  · have e1 := evdo_bad fs a b hln h0
    rw [doR, if_neg h0]
    refine has40.eev rfl rfl ?_
    unfold m40
    repeat' (first
      | (refine g_op ?_; first
        | refine ep_mov rfl ?_ | refine sp_loadN rfl rfl rfl rfl rfl ?_
        | refine ep_call0 rfl (by first | exact e1) rfl rfl ?_
        | refine sp_call rfl rfl rfl rfl (by first | exact e1) ⟨rfl, rfl, rfl, rfl⟩ rfl rfl rfl ?_
        | refine ep_extract rfl rfl ?_ | refine sp_box rfl rfl rfl rfl rfl ?_)
      | (refine g_ops ?_; first | refine eo_none ?_ | refine eo_nil ?_)
      | (refine g_code ?_; first | refine ec_seq ?_ | refine ec_region ?_ | refine ec_ret ?_)
      | refine ek_seqN ?_ | refine ek_seqR ?_)
    refine sfin (.inr rfl) (by rfl) (by rfl) (by exact ⟨rfl, rfl, rfl⟩) (by rfl) (by rfl) (by rfl) (by first | rfl | (simp; done) | (simp [ints, prs]; done))
-- spec.l04Asked
def m84 : MC := (.seq (.region [⟨(.box (.t 1)), (some 3), none⟩, ⟨(.mov (.k (.int .i64 0))), (some 4), none⟩] false) (.seq (.seq (.region [⟨(.mov (.t 0)), (some 6), none⟩, ⟨(.call 69 [(.t 6)]), (some 7), none⟩, ⟨(.mov (.t 7)), (some 5), none⟩] false) (.seq (.region [⟨(.mov (.t 5)), (some 8), none⟩, ⟨(.bin .eql (.t 8) (.k (.int .i64 1))), (some 9), none⟩, ⟨(.mov (.t 9)), (some 10), none⟩, ⟨(.load (some 2) (.t 3)), (some 11), (some (10, false))⟩, ⟨(.call 53 [(.t 11)]), (some 12), (some (10, false))⟩, ⟨(.un .not (.t 12)), (some 13), (some (10, false))⟩, ⟨(.pick (.t 10) (.k (.bool true)) (.t 13)), (some 14), none⟩] false) (.cond (.t 14) (.seq (.region [⟨(.mov (.k (.int .i64 1))), (some 4), none⟩] false) .ret) .skip))) (.seq (.region [⟨(.mov (.t 0)), (some 15), none⟩, ⟨(.fieldAddr 0 (.t 3)), (some 16), none⟩, ⟨(.load none (.t 16)), (some 17), none⟩, ⟨(.call 81 [(.t 15), (.t 17)]), (some 18), none⟩, ⟨(.mov (.t 18)), (some 4), none⟩] false) .ret)))
theorem has84 : Has cx 84 19 m84 [(.tmp 4)] :=
  ⟨⟨Try.f84, Try.f84.body.getD .skip, by kernel_rfl, by kernel_rfl, by kernel_rfl, by kernel_rfl, by kernel_rfl, by kernel_rfl⟩⟩
theorem ev84 (fs : List (Int × Int)) (a b : Int) (hln : fs.length ≤ 1048576) : Ev cx 84 [.sl 0 0 fs.length, .agg [.int .i64 a, .int .i64 b]] [⟨fns fs, 2, 0, some 0, false⟩] (.int .i64 (acode fs a b)) [⟨fns fs, 2, 0, some 0, false⟩] := by
  have e1 := ev69 fs hln
  have e2 := ev53 a b
  have e3 := ev81 fs a hln
  cases hq : (lcode fs == 1)
  · cases h1 : isFn a b
    · rw [h1] at e2
      rw [acode, h1, if_neg (by simp)]
      refine has84.eev rfl rfl ?_
      unfold m84
      repeat' (first
        | (refine g_op ?_; first
          | refine ep_mov rfl ?_ | refine ep_load1 rfl rfl rfl rfl ?_ | refine ep_fieldAddr rfl ?_ | refine sp_loadN rfl rfl rfl rfl rfl ?_
          | refine ep_call0 rfl (by first | exact e1 | exact e2) rfl rfl ?_
          | refine sp_call rfl rfl rfl rfl (by first | exact e1 | exact e2) ⟨rfl, rfl, rfl, rfl⟩ rfl rfl rfl ?_
          | refine ep_bin rfl rfl (by first | exact b_add (by omega) (by omega) | exact b_sub (by omega) (by omega) | exact b_and (by omega) (by omega) | exact b_or (by omega) (by omega) | exact b_shr (by omega) | exact b_shl (by omega) (by omega) | exact b_lss | exact b_leq | exact b_gtr | exact b_geq | exact b_eql | exact b_neq) ?_
          | refine ep_pickT rfl rfl ?_ | refine ep_pickF rfl rfl ?_ | refine ep_pickTH rfl (by assumption) rfl ?_ | refine ep_pickFH rfl (by assumption) rfl ?_ | refine ep_not rfl ?_ | refine sp_box rfl rfl rfl rfl rfl ?_)
        | (refine g_ops ?_; first | refine eo_none ?_ | refine eo_nil ?_ | refine eo_yes rfl ?_ | refine eo_no rfl ?_ | refine eo_und rfl ?_ | refine eo_yesH rfl (by assumption) ?_ | refine eo_noH rfl (by assumption) ?_)
        | (refine g_code ?_; first | refine ec_seq ?_ | refine ec_region ?_ | refine ec_skip ?_ | refine ec_ret ?_ | refine ec_condT rfl ?_ | refine ec_condF rfl ?_ | refine ec_condTH rfl (by assumption) ?_ | refine ec_condFH rfl (by assumption) ?_)
        | refine ek_seqN ?_ | refine ek_seqR ?_)
      refine sfin (.inr rfl) (by rfl) (by rfl) (by exact ⟨rfl, rfl, rfl⟩) (by rfl) (by rfl) (by rfl) (by first | rfl | (simp; done) | (simp [ints, prs]; done))
    · rw [h1] at e2
      rw [acode, h1, if_pos rfl]
      refine has84.eev rfl rfl ?_
      unfold m84
      repeat' (first
        | (refine g_op ?_; first
          | refine ep_mov rfl ?_ | refine ep_load1 rfl rfl rfl rfl ?_ | refine ep_fieldAddr rfl ?_ | refine sp_loadN rfl rfl rfl rfl rfl ?_
          | refine ep_call0 rfl (by first | exact e1 | exact e2 | exact e3) rfl rfl ?_
          | refine sp_call rfl rfl rfl rfl (by first | exact e1 | exact e2 | exact e3) ⟨rfl, rfl, rfl, rfl⟩ rfl rfl rfl ?_
          | refine ep_bin rfl rfl (by first | exact b_add (by omega) (by omega) | exact b_sub (by omega) (by omega) | exact b_and (by omega) (by omega) | exact b_or (by omega) (by omega) | exact b_shr (by omega) | exact b_shl (by omega) (by omega) | exact b_lss | exact b_leq | exact b_gtr | exact b_geq | exact b_eql | exact b_neq) ?_
          | refine ep_pickT rfl rfl ?_ | refine ep_pickF rfl rfl ?_ | refine ep_pickTH rfl (by assumption) rfl ?_ | refine ep_pickFH rfl (by assumption) rfl ?_ | refine ep_not rfl ?_ | refine sp_box rfl rfl rfl rfl rfl ?_)
        | (refine g_ops ?_; first | refine eo_none ?_ | refine eo_nil ?_ | refine eo_yes rfl ?_ | refine eo_no rfl ?_ | refine eo_und rfl ?_ | refine eo_yesH rfl (by assumption) ?_ | refine eo_noH rfl (by assumption) ?_)
        | (refine g_code ?_; first | refine ec_seq ?_ | refine ec_region ?_ | refine ec_skip ?_ | refine ec_ret ?_ | refine ec_condT rfl ?_ | refine ec_condF rfl ?_ | refine ec_condTH rfl (by assumption) ?_ | refine ec_condFH rfl (by assumption) ?_)
        | refine ek_seqN ?_ | refine ek_seqR ?_)
      refine sfin (.inr rfl) (by rfl) (by rfl) (by exact ⟨rfl, rfl, rfl⟩) (by rfl) (by rfl) (by rfl) (by first | rfl | (simp; done) | (simp [ints, prs]; done))
  · have h1 : lcode fs = 1 := by simpa using hq
    have hC : acode fs a b = 1 := by rw [acode, gcode_1 h1]; split <;> rfl
    rw [hC]
    refine has84.eev rfl rfl ?_
    unfold m84
    repeat' (first
      | (refine g_op ?_; first
        | refine ep_mov rfl ?_ | refine ep_load1 rfl rfl rfl rfl ?_ | refine ep_fieldAddr rfl ?_ | refine sp_loadN rfl rfl rfl rfl rfl ?_
        | refine ep_call0 rfl (by first | exact e1) rfl rfl ?_
        | refine sp_call rfl rfl rfl rfl (by first | exact e1) ⟨rfl, rfl, rfl, rfl⟩ rfl rfl rfl ?_
        | refine ep_bin rfl rfl (by first | exact b_add (by omega) (by omega) | exact b_sub (by omega) (by omega) | exact b_and (by omega) (by omega) | exact b_or (by omega) (by omega) | exact b_shr (by omega) | exact b_shl (by omega) (by omega) | exact b_lss | exact b_leq | exact b_gtr | exact b_geq | exact b_eql | exact b_neq) ?_
        | refine ep_pickT rfl rfl ?_ | refine ep_pickF rfl rfl ?_ | refine ep_pickTH rfl (by assumption) rfl ?_ | refine ep_pickFH rfl (by assumption) rfl ?_ | refine ep_not rfl ?_ | refine sp_box rfl rfl rfl rfl rfl ?_)
      | (refine g_ops ?_; first | refine eo_none ?_ | refine eo_nil ?_ | refine eo_yes rfl ?_ | refine eo_no rfl ?_ | refine eo_und rfl ?_ | refine eo_yesH rfl (by assumption) ?_ | refine eo_noH rfl (by assumption) ?_)
      | (refine g_code ?_; first | refine ec_seq ?_ | refine ec_region ?_ | refine ec_skip ?_ | refine ec_ret ?_ | refine ec_condT rfl ?_ | refine ec_condF rfl ?_ | refine ec_condTH rfl (by assumption) ?_ | refine ec_condFH rfl (by assumption) ?_)
      | refine ek_seqN ?_ | refine ek_seqR ?_)
    refine sfin (.inr rfl) (by rfl) (by rfl) (by exact ⟨rfl, rfl, rfl⟩) (by rfl) (by rfl) (by rfl) (by first | rfl | (simp; done) | (simp [ints, prs]; done))
-- spec.DepthOf
def m39 : MC := (.seq (.region [⟨(.box (.t 1)), (some 3), none⟩, ⟨(.mov (.k (.int .i64 0))), (some 4), none⟩, ⟨(.mov (.k (.int .i64 0))), (some 5), none⟩] false) (.seq (.seq (.region [⟨(.mov (.t 0)), (some 8), none⟩, ⟨(.load (some 2) (.t 3)), (some 9), none⟩, ⟨(.call 84 [(.t 8), (.t 9)]), (some 10), none⟩, ⟨(.mov (.t 10)), (some 6), none⟩] false) (.seq (.region [⟨(.mov (.t 6)), (some 11), none⟩, ⟨(.bin .neq (.t 11) (.k (.int .i64 0))), (some 12), none⟩] false) (.cond (.t 12) (.seq (.region [⟨(.mov (.t 6)), (some 13), none⟩, ⟨(.mov (.k (.int .i64 0))), (some 4), none⟩, ⟨(.mov (.t 13)), (some 5), none⟩] false) .ret) .skip))) (.seq (.region [⟨(.mov (.t 0)), (some 14), none⟩, ⟨(.fieldAddr 0 (.t 3)), (some 15), none⟩, ⟨(.load none (.t 15)), (some 16), none⟩, ⟨(.call 83 [(.t 14), (.t 16)]), (some 17), none⟩, ⟨(.fieldAddr 1 (.t 3)), (some 18), none⟩, ⟨(.load none (.t 18)), (some 19), none⟩, ⟨(.indexAddr 1 (.t 17) (.t 19)), (some 20), none⟩, ⟨(.load none (.t 20)), (some 21), none⟩, ⟨(.mov (.t 21)), (some 7), none⟩] true) (.seq (.seq (.region [⟨(.mov (.t 7)), (some 22), none⟩, ⟨(.bin .lss (.t 22) (.k (.int .i64 0))), (some 23), none⟩] false) (.cond (.t 23) (.seq (.region [⟨(.mov (.k (.int .i64 0))), (some 4), none⟩, ⟨(.mov (.k (.int .i64 4))), (some 5), none⟩] false) .ret) .skip)) (.seq (.region [⟨(.mov (.t 7)), (some 24), none⟩, ⟨(.mov (.t 24)), (some 4), none⟩, ⟨(.mov (.k (.int .i64 0))), (some 5), none⟩] false) .ret)))))
theorem has39 : Has cx 39 25 m39 [(.tmp 4), (.tmp 5)] :=
  ⟨⟨Try.f39, Try.f39.body.getD .skip, by kernel_rfl, by kernel_rfl, by kernel_rfl, by kernel_rfl, by kernel_rfl, by kernel_rfl⟩⟩
theorem ev39 (fs : List (Int × Int)) (a b : Int) (hln : fs.length ≤ 1048576) : Ev cx 39 [.sl 0 0 fs.length, .agg [.int .i64 a, .int .i64 b]] [⟨fns fs, 2, 0, some 0, false⟩] (.tup [.int .i64 (doR fs a b).1, .int .i64 (doR fs a b).2]) [⟨fns fs, 2, 0, some 0, false⟩] := by
  have e1 := ev84 fs a b hln
  by_cases h0 : acode fs a b = 0
  · obtain ⟨h1, h2⟩ := acode_0 h0
    obtain ⟨ha, hl, hz1, hz2⟩ := gcode_0 h2
    rw [h0] at e1
    rw [doR, if_pos h0]
    obtain ⟨n, b, rfl, rfl, a1, a2, a3⟩ := isFn_nat h1
    have e3 := ev83 n fs (by omega) (by omega) ha hln
    have hlen := depL_len fs n
    have hget := zints_get (l := depL fs n) (j := b) (by omega)
    have hd : dpt fs (n : Nat) (b : Nat) = (depL fs n).getD b 0 := rfl
    rw [hd]
    by_cases h : (depL fs n).getD b 0 < 0
    · rw [if_pos h]
      have hq : decide ((depL fs n).getD b 0 < 0) = true := decide_eq_true h
      refine has39.eev rfl rfl ?_
      unfold m39
      repeat' (first
        | refine ep_loadS rfl rfl rfl hget ?_
        | (refine g_op ?_; first
          | refine ep_mov rfl ?_ | refine ep_load1 rfl rfl rfl rfl ?_ | refine ep_fieldAddr rfl ?_ | refine sp_loadN rfl rfl rfl rfl rfl ?_
          | refine ep_call0 rfl (by first | exact e1 | exact e3) rfl rfl ?_
          | refine sp_call rfl rfl rfl rfl (by first | exact e1 | exact e3) ⟨rfl, rfl, rfl, rfl⟩ rfl rfl rfl ?_
          | refine ep_bin rfl rfl (by first | exact b_add (by omega) (by omega) | exact b_sub (by omega) (by omega) | exact b_and (by omega) (by omega) | exact b_or (by omega) (by omega) | exact b_shr (by omega) | exact b_shl (by omega) (by omega) | exact b_lss | exact b_leq | exact b_gtr | exact b_geq | exact b_eql | exact b_neq) ?_
          | refine sp_box rfl rfl rfl rfl rfl ?_ | refine sp_idx rfl rfl rfl (by omega) rfl ?_ | refine ep_loadS rfl rfl rfl (by first | exact ints_get (by omega) | exact zints_get (by omega) | exact fget (by omega) | assumption) ?_
          | refine ep_loadSN rfl rfl rfl (by first | exact prs_get (by omega) | exact fns_get (by omega)) ?_)
        | (refine g_ops ?_; first | refine eo_none ?_ | refine eo_nil ?_)
        | (refine g_dops ?_; first | refine ed_none ?_ | refine ed_nil ?_)
        | refine ed_same rfl ?_ | refine ed_one rfl rfl rfl rfl ?_ | refine ed_two rfl rfl rfl rfl rfl rfl rfl ?_ | refine ed_write rfl rfl ?_
        | (refine g_code ?_; first | refine ec_seq ?_ | refine ec_region ?_ | refine ec_draw ?_ | refine ec_skip ?_ | refine ec_ret ?_ | refine ec_condT rfl ?_ | refine ec_condF rfl ?_ | refine ec_condTH rfl (by assumption) ?_ | refine ec_condFH rfl (by assumption) ?_)
        | refine ek_seqN ?_ | refine ek_seqR ?_)
      refine sfin (.inr rfl) (by rfl) (by rfl) (by exact ⟨rfl, rfl, rfl⟩) (by rfl) (by rfl) (by rfl) (by first | rfl | (simp; done) | (simp [ints, prs]; done))
    · rw [if_neg h]
      have hq : decide ((depL fs n).getD b 0 < 0) = false := decide_eq_false h
      refine has39.eev rfl rfl ?_
      unfold m39
      repeat' (first
        | refine ep_loadS rfl rfl rfl hget ?_
        | (refine g_op ?_; first
          | refine ep_mov rfl ?_ | refine ep_load1 rfl rfl rfl rfl ?_ | refine ep_fieldAddr rfl ?_ | refine sp_loadN rfl rfl rfl rfl rfl ?_
          | refine ep_call0 rfl (by first | exact e1 | exact e3) rfl rfl ?_
          | refine sp_call rfl rfl rfl rfl (by first | exact e1 | exact e3) ⟨rfl, rfl, rfl, rfl⟩ rfl rfl rfl ?_
          | refine ep_bin rfl rfl (by first | exact b_add (by omega) (by omega) | exact b_sub (by omega) (by omega) | exact b_and (by omega) (by omega) | exact b_or (by omega) (by omega) | exact b_shr (by omega) | exact b_shl (by omega) (by omega) | exact b_lss | exact b_leq | exact b_gtr | exact b_geq | exact b_eql | exact b_neq) ?_
          | refine sp_box rfl rfl rfl rfl rfl ?_ | refine sp_idx rfl rfl rfl (by omega) rfl ?_ | refine ep_loadS rfl rfl rfl (by first | exact ints_get (by omega) | exact zints_get (by omega) | exact fget (by omega) | assumption) ?_
          | refine ep_loadSN rfl rfl rfl (by first | exact prs_get (by omega) | exact fns_get (by omega)) ?_)
        | (refine g_ops ?_; first | refine eo_none ?_ | refine eo_nil ?_)
        | (refine g_dops ?_; first | refine ed_none ?_ | refine ed_nil ?_)
        | refine ed_same rfl ?_ | refine ed_one rfl rfl rfl rfl ?_ | refine ed_two rfl rfl rfl rfl rfl rfl rfl ?_ | refine ed_write rfl rfl ?_
        | (refine g_code ?_; first | refine ec_seq ?_ | refine ec_region ?_ | refine ec_draw ?_ | refine ec_skip ?_ | refine ec_ret ?_ | refine ec_condT rfl ?_ | refine ec_condF rfl ?_ | refine ec_condTH rfl (by assumption) ?_ | refine ec_condFH rfl (by assumption) ?_)
        | refine ek_seqN ?_ | refine ek_seqR ?_)
      refine sfin (.inr rfl) (by rfl) (by rfl) (by exact ⟨rfl, rfl, rfl⟩) (by rfl) (by rfl) (by rfl) (by first | rfl | (simp; done) | (simp [ints, prs]; done))
  · rw [doR, if_neg h0]
    have hq2 : (acode fs a b != 0) = true := by simpa using h0
    refine has39.eev rfl rfl ?_
    unfold m39
    repeat' (first
      | (refine g_op ?_; first
        | refine ep_mov rfl ?_ | refine ep_load1 rfl rfl rfl rfl ?_ | refine ep_fieldAddr rfl ?_ | refine sp_loadN rfl rfl rfl rfl rfl ?_
        | refine ep_call0 rfl (by first | exact e1) rfl rfl ?_
        | refine sp_call rfl rfl rfl rfl (by first | exact e1) ⟨rfl, rfl, rfl, rfl⟩ rfl rfl rfl ?_
        | refine ep_bin rfl rfl (by first | exact b_add (by omega) (by omega) | exact b_sub (by omega) (by omega) | exact b_and (by omega) (by omega) | exact b_or (by omega) (by omega) | exact b_shr (by omega) | exact b_shl (by omega) (by omega) | exact b_lss | exact b_leq | exact b_gtr | exact b_geq | exact b_eql | exact b_neq) ?_
        | refine sp_box rfl rfl rfl rfl rfl ?_ | refine sp_idx rfl rfl rfl (by omega) rfl ?_ | refine ep_loadS rfl rfl rfl (by first | exact ints_get (by omega) | exact zints_get (by omega) | exact fget (by omega) | assumption) ?_
        | refine ep_loadSN rfl rfl rfl (by first | exact prs_get (by omega) | exact fns_get (by omega)) ?_)
      | (refine g_ops ?_; first | refine eo_none ?_ | refine eo_nil ?_)
      | (refine g_dops ?_; first | refine ed_none ?_ | refine ed_nil ?_)
      | refine ed_same rfl ?_ | refine ed_one rfl rfl rfl rfl ?_ | refine ed_two rfl rfl rfl rfl rfl rfl rfl ?_ | refine ed_write rfl rfl ?_
      | (refine g_code ?_; first | refine ec_seq ?_ | refine ec_region ?_ | refine ec_draw ?_ | refine ec_skip ?_ | refine ec_ret ?_ | refine ec_condT rfl ?_ | refine ec_condF rfl ?_ | refine ec_condTH rfl (by assumption) ?_ | refine ec_condFH rfl (by assumption) ?_)
      | refine ek_seqN ?_ | refine ek_seqR ?_)
    refine sfin (.inr rfl) (by rfl) (by rfl) (by exact ⟨rfl, rfl, rfl⟩) (by rfl) (by rfl) (by rfl) (by first | rfl | (simp; done) | (simp [ints, prs]; done))

-- laws.FnExactDepthOf
def m10 : MC := (.seq (.region [⟨(.box (.t 1)), (some 3), none⟩, ⟨(.mov (.k (.bool false))), (some 4), none⟩] false) (.seq (.region [⟨(.mov (.k (.int .i64 1048576))), (some 5), none⟩] false) (.seq (.region [⟨(.mov (.t 0)), (some 11), none⟩, ⟨(.mov (.t 5)), (some 12), none⟩, ⟨(.call 26 [(.t 11), (.t 12)]), (some 13), none⟩, ⟨(.mov (.t 13)), (some 5), none⟩] false) (.seq (.seq (.region [⟨(.mov (.t 5)), (some 14), none⟩, ⟨(.bin .lss (.t 14) (.k (.int .i64 0))), (some 15), none⟩] false) (.cond (.t 15) (.seq (.region [⟨(.mov (.k (.bool true))), (some 4), none⟩] false) .ret) .skip)) (.seq (.region [⟨(.mov (.t 0)), (some 17), none⟩, ⟨(.call 28 [(.t 17)]), (some 18), none⟩, ⟨(.load (some 2) (.t 3)), (some 19), none⟩, ⟨(.callw 17 [(.t 19)]), (some 20), none⟩, ⟨(.callw 39 [(.t 18), (.t 20)]), (some 21), none⟩, ⟨(.mov (.t 21)), (some 16), none⟩, ⟨(.extract (.t 16) 0), (some 22), none⟩, ⟨(.extract (.t 16) 1), (some 23), none⟩, ⟨(.mov (.t 22)), (some 6), none⟩, ⟨(.mov (.t 23)), (some 7), none⟩] true) (.seq (.region [⟨(.mov (.t 0)), (some 24), none⟩, ⟨(.call 28 [(.t 24)]), (some 25), none⟩, ⟨(.mov (.t 25)), (some 8), none⟩] false) (.seq (.region [⟨(.mov (.t 8)), (some 27), none⟩, ⟨(.load (some 2) (.t 3)), (some 28), none⟩, ⟨(.call 17 [(.t 28)]), (some 29), none⟩, ⟨(.call 40 [(.t 27), (.t 29)]), (some 30), none⟩, ⟨(.mov (.t 30)), (some 26), none⟩, ⟨(.extract (.t 26) 0), (some 31), none⟩, ⟨(.extract (.t 26) 1), (some 32), none⟩, ⟨(.mov (.t 31)), (some 9), none⟩, ⟨(.mov (.t 32)), (some 10), none⟩] false) (.seq (.seq (.region [⟨(.mov (.t 9)), (some 33), none⟩, ⟨(.mov (.t 6)), (some 34), none⟩, ⟨(.bin .neq (.t 33) (.t 34)), (some 35), none⟩, ⟨(.mov (.t 35)), (some 36), none⟩, ⟨(.mov (.t 10)), (some 37), (some (36, false))⟩, ⟨(.mov (.t 7)), (some 38), (some (36, false))⟩, ⟨(.bin .neq (.t 37) (.t 38)), (some 39), (some (36, false))⟩, ⟨(.pick (.t 36) (.k (.bool true)) (.t 39)), (some 40), none⟩] false) (.cond (.t 40) (.seq (.region [⟨(.mov (.k (.bool false))), (some 4), none⟩] false) .ret) .skip)) (.seq (.seq (.region [⟨(.mov (.t 8)), (some 41), none⟩, ⟨(.mov (.t 0)), (some 42), none⟩, ⟨(.call 28 [(.t 42)]), (some 43), none⟩, ⟨(.call 32 [(.t 41), (.t 43)]), (some 44), none⟩, ⟨(.un .not (.t 44)), (some 45), none⟩] false) (.cond (.t 45) (.seq (.region [⟨(.mov (.k (.bool false))), (some 4), none⟩] false) .ret) .skip)) (.seq (.region [⟨(.mov (.k (.bool true))), (some 4), none⟩] false) .ret))))))))))
theorem has10 : Has cx 10 46 m10 [(.tmp 4)] :=
  ⟨⟨Try.f10, Try.f10.body.getD .skip, by kernel_rfl, by kernel_rfl, by kernel_rfl, by kernel_rfl, by kernel_rfl, by kernel_rfl⟩⟩
-- ROW ev10: bd0
theorem ev10 (a : V) (p t : Int) (h : Heap) (c : List Int) (fa : FA .i64 2 a h c) (hb : c.length ≤ 2 * Go.maxLen) : Ev cx 10 [a, .agg [.int .i64 p, .int .i64 t]] h (.bool true) h := by
  have hml : Go.maxLen = 9223372036854775807 := by decide
  cases fa with
  | nil =>
    have s0 := ev26_nils
    have e0 := ev28_nils
    rw [show zints [] = fns [] from rfl] at e0
    have e1 := ev39 [] p t (by simp)
    have e2 := ev40 [] p t (by simp)
    have hr0 : ((doR [] p t).1 != (doR [] p t).1) = false := by simp
    have hr1 : ((doR [] p t).2 != (doR [] p t).2) = false := by simp
    have q3 := ev32 0 (fns []) (fns []) (fun j => ([] : List (Int × Int)).getD j (0, 0)) (some 0) (some 0) (by omega) (fun j hj => fns_pair (by simp at hj)) (fun j hj => fns_pair (by simp at hj))
    refine has10.eev rfl rfl ?_
    unfold m10
    repeat' (first
      | (refine g_op ?_; first
        | refine ep_mov rfl ?_ | refine sp_loadN rfl rfl rfl rfl rfl ?_
        | refine ep_call0 rfl (by first | exact e0 | exact s0 | exact e1 | exact e2 | exact q3 | exact ev17 _ _) rfl rfl ?_
        | refine sp_call rfl rfl rfl rfl (by first | exact e0 | exact s0 | exact e1 | exact e2 | exact q3 | exact ev17 _ _) ⟨rfl, rfl, rfl, rfl⟩ rfl rfl rfl ?_
        | refine ep_callw0 rfl (by first | exact e0 | exact s0 | exact e1 | exact e2 | exact q3 | exact ev17 _ _) rfl rfl ?_
        | refine sp_callw rfl rfl rfl rfl (by first | exact e0 | exact s0 | exact e1 | exact e2 | exact q3 | exact ev17 _ _) ⟨rfl, rfl, rfl, rfl⟩ rfl rfl rfl (by first | exact WrP_refl _ _ | (repeat' (first | exact rfl | exact True.intro | refine And.intro ?_ ?_))) ?_
        | refine ep_bin rfl rfl (by first | exact b_add (by omega) (by omega) | exact b_sub (by omega) (by omega) | exact b_and (by omega) (by omega) | exact b_or (by omega) (by omega) | exact b_shr (by omega) | exact b_shl (by omega) (by omega) | exact b_lss | exact b_leq | exact b_gtr | exact b_geq | exact b_eql | exact b_neq) ?_
        | refine ep_pickT rfl rfl ?_ | refine ep_pickF rfl rfl ?_ | refine ep_pickTH rfl (by assumption) rfl ?_ | refine ep_pickFH rfl (by assumption) rfl ?_ | refine ep_extract rfl rfl ?_ | refine ep_not rfl ?_
        | refine sp_box rfl rfl rfl rfl rfl ?_)
      | (refine g_ops ?_; first | refine eo_none ?_ | refine eo_nil ?_ | refine eo_yes rfl ?_ | refine eo_no rfl ?_ | refine eo_und rfl ?_ | refine eo_yesH rfl (by assumption) ?_ | refine eo_noH rfl (by assumption) ?_)
      | (refine g_dops ?_; first | refine ed_none ?_ | refine ed_nil ?_ | refine ed_yes rfl ?_ | refine ed_no rfl ?_ | refine ed_und rfl ?_ | refine ed_yesH rfl (by assumption) ?_ | refine ed_noH rfl (by assumption) ?_)
      | refine ed_same rfl ?_ | refine ed_one rfl rfl rfl rfl ?_ | refine ed_two rfl rfl rfl rfl rfl rfl rfl ?_ | refine ed_write rfl rfl ?_
      | (refine g_code ?_; first | refine ec_seq ?_ | refine ec_region ?_ | refine ec_draw ?_ | refine ec_skip ?_ | refine ec_ret ?_ | refine ec_condT rfl ?_ | refine ec_condF rfl ?_ | refine ec_condTH rfl (by assumption) ?_ | refine ec_condFH rfl (by assumption) ?_)
      | refine ek_seqN ?_ | refine ek_seqR ?_)
    refine sfin (.inr rfl) (by rfl) (by rfl) (by exact ⟨rfl, rfl, rfl⟩) (by rfl) (by rfl) (by rfl) (by first | rfl | (simp; done) | (simp [ints, prs]; done))
  | emp =>
    have s0 := ev26_emp
    have e0 := ev28_emp
    rw [show zints [] = fns [] from rfl] at e0
    have e1 := ev39 [] p t (by simp)
    have e2 := ev40 [] p t (by simp)
    have hr0 : ((doR [] p t).1 != (doR [] p t).1) = false := by simp
    have hr1 : ((doR [] p t).2 != (doR [] p t).2) = false := by simp
    have q3 := ev32 0 (fns []) (fns []) (fun j => ([] : List (Int × Int)).getD j (0, 0)) (some 0) (some 0) (by omega) (fun j hj => fns_pair (by simp at hj)) (fun j hj => fns_pair (by simp at hj))
    refine has10.eev rfl rfl ?_
    unfold m10
    repeat' (first
      | (refine g_op ?_; first
        | refine ep_mov rfl ?_ | refine sp_loadN rfl rfl rfl rfl rfl ?_
        | refine ep_call0 rfl (by first | exact e0 | exact s0 | exact e1 | exact e2 | exact q3 | exact ev17 _ _) rfl rfl ?_
        | refine sp_call rfl rfl rfl rfl (by first | exact e0 | exact s0 | exact e1 | exact e2 | exact q3 | exact ev17 _ _) ⟨rfl, rfl, rfl, rfl⟩ rfl rfl rfl ?_
        | refine ep_callw0 rfl (by first | exact e0 | exact s0 | exact e1 | exact e2 | exact q3 | exact ev17 _ _) rfl rfl ?_
        | refine sp_callw rfl rfl rfl rfl (by first | exact e0 | exact s0 | exact e1 | exact e2 | exact q3 | exact ev17 _ _) ⟨rfl, rfl, rfl, rfl⟩ rfl rfl rfl (by first | exact WrP_refl _ _ | (repeat' (first | exact rfl | exact True.intro | refine And.intro ?_ ?_))) ?_
        | refine ep_bin rfl rfl (by first | exact b_add (by omega) (by omega) | exact b_sub (by omega) (by omega) | exact b_and (by omega) (by omega) | exact b_or (by omega) (by omega) | exact b_shr (by omega) | exact b_shl (by omega) (by omega) | exact b_lss | exact b_leq | exact b_gtr | exact b_geq | exact b_eql | exact b_neq) ?_
        | refine ep_pickT rfl rfl ?_ | refine ep_pickF rfl rfl ?_ | refine ep_pickTH rfl (by assumption) rfl ?_ | refine ep_pickFH rfl (by assumption) rfl ?_ | refine ep_extract rfl rfl ?_ | refine ep_not rfl ?_
        | refine sp_box rfl rfl rfl rfl rfl ?_)
      | (refine g_ops ?_; first | refine eo_none ?_ | refine eo_nil ?_ | refine eo_yes rfl ?_ | refine eo_no rfl ?_ | refine eo_und rfl ?_ | refine eo_yesH rfl (by assumption) ?_ | refine eo_noH rfl (by assumption) ?_)
      | (refine g_dops ?_; first | refine ed_none ?_ | refine ed_nil ?_ | refine ed_yes rfl ?_ | refine ed_no rfl ?_ | refine ed_und rfl ?_ | refine ed_yesH rfl (by assumption) ?_ | refine ed_noH rfl (by assumption) ?_)
      | refine ed_same rfl ?_ | refine ed_one rfl rfl rfl rfl ?_ | refine ed_two rfl rfl rfl rfl rfl rfl rfl ?_ | refine ed_write rfl rfl ?_
      | (refine g_code ?_; first | refine ec_seq ?_ | refine ec_region ?_ | refine ec_draw ?_ | refine ec_skip ?_ | refine ec_ret ?_ | refine ec_condT rfl ?_ | refine ec_condF rfl ?_ | refine ec_condTH rfl (by assumption) ?_ | refine ec_condFH rfl (by assumption) ?_)
      | refine ek_seqN ?_ | refine ek_seqR ?_)
    refine sfin (.inr rfl) (by rfl) (by rfl) (by exact ⟨rfl, rfl, rfl⟩) (by rfl) (by rfl) (by rfl) (by first | rfl | (simp; done) | (simp [ints, prs]; done))
  | sl o n c hc =>
    have s0 := ev26 o n c (by omega)
    by_cases hn : n ≤ 1048576
    · rw [if_pos hn] at s0
      have g1 : decide ((1048576 - (n : Nat) : Int) < 0) = false := decide_eq_false (by omega)
      have e0 := ev28 o n c hc hn
      rw [prOf_fns n c hc] at e0
      have e1 := ev39 (prOf c n) p t (by rw [prOf_len]; exact hn)
      have e2 := ev40 (prOf c n) p t (by rw [prOf_len]; exact hn)
      rw [prOf_len] at e1 e2
      have hr0 : ((doR (prOf c n) p t).1 != (doR (prOf c n) p t).1) = false := by simp
      have hr1 : ((doR (prOf c n) p t).2 != (doR (prOf c n) p t).2) = false := by simp
      have q3 := ev32 n (fns (prOf c n)) (fns (prOf c n)) (fun j => ((prOf c n) : List (Int × Int)).getD j (0, 0)) (some 0) (some 0) (by omega) (fun j hj => fns_pair (by rwa [prOf_len])) (fun j hj => fns_pair (by rwa [prOf_len]))
      refine has10.eev rfl rfl ?_
      unfold m10
      repeat' (first
        | (refine g_op ?_; first
          | refine ep_mov rfl ?_ | refine sp_loadN rfl rfl rfl rfl rfl ?_
          | refine ep_call0 rfl (by first | exact e0 | exact s0 | exact e1 | exact e2 | exact q3 | exact ev17 _ _) rfl rfl ?_
          | refine sp_call rfl rfl rfl rfl (by first | exact e0 | exact s0 | exact e1 | exact e2 | exact q3 | exact ev17 _ _) ⟨rfl, rfl, rfl, rfl⟩ rfl rfl rfl ?_
          | refine ep_callw0 rfl (by first | exact e0 | exact s0 | exact e1 | exact e2 | exact q3 | exact ev17 _ _) rfl rfl ?_
          | refine sp_callw rfl rfl rfl rfl (by first | exact e0 | exact s0 | exact e1 | exact e2 | exact q3 | exact ev17 _ _) ⟨rfl, rfl, rfl, rfl⟩ rfl rfl rfl (by first | exact WrP_refl _ _ | (repeat' (first | exact rfl | exact True.intro | refine And.intro ?_ ?_))) ?_
          | refine ep_bin rfl rfl (by first | exact b_add (by omega) (by omega) | exact b_sub (by omega) (by omega) | exact b_and (by omega) (by omega) | exact b_or (by omega) (by omega) | exact b_shr (by omega) | exact b_shl (by omega) (by omega) | exact b_lss | exact b_leq | exact b_gtr | exact b_geq | exact b_eql | exact b_neq) ?_
          | refine ep_pickT rfl rfl ?_ | refine ep_pickF rfl rfl ?_ | refine ep_pickTH rfl (by assumption) rfl ?_ | refine ep_pickFH rfl (by assumption) rfl ?_ | refine ep_extract rfl rfl ?_ | refine ep_not rfl ?_
          | refine sp_box rfl rfl rfl rfl rfl ?_)
        | (refine g_ops ?_; first | refine eo_none ?_ | refine eo_nil ?_ | refine eo_yes rfl ?_ | refine eo_no rfl ?_ | refine eo_und rfl ?_ | refine eo_yesH rfl (by assumption) ?_ | refine eo_noH rfl (by assumption) ?_)
        | (refine g_dops ?_; first | refine ed_none ?_ | refine ed_nil ?_ | refine ed_yes rfl ?_ | refine ed_no rfl ?_ | refine ed_und rfl ?_ | refine ed_yesH rfl (by assumption) ?_ | refine ed_noH rfl (by assumption) ?_)
        | refine ed_same rfl ?_ | refine ed_one rfl rfl rfl rfl ?_ | refine ed_two rfl rfl rfl rfl rfl rfl rfl ?_ | refine ed_write rfl rfl ?_
        | (refine g_code ?_; first | refine ec_seq ?_ | refine ec_region ?_ | refine ec_draw ?_ | refine ec_skip ?_ | refine ec_ret ?_ | refine ec_condT rfl ?_ | refine ec_condF rfl ?_ | refine ec_condTH rfl (by assumption) ?_ | refine ec_condFH rfl (by assumption) ?_)
        | refine ek_seqN ?_ | refine ek_seqR ?_)
      refine sfin (.inr rfl) (by rfl) (by rfl) (by exact ⟨rfl, rfl, rfl⟩) (by rfl) (by rfl) (by rfl) (by first | rfl | (simp; done) | (simp [ints, prs]; done))
    · rw [if_neg hn] at s0
      refine has10.eev rfl rfl ?_
      unfold m10
      repeat' (first
        | (refine g_op ?_; first
          | refine ep_mov rfl ?_ | refine sp_loadN rfl rfl rfl rfl rfl ?_
          | refine ep_call0 rfl (by first | exact s0) rfl rfl ?_
          | refine sp_call rfl rfl rfl rfl (by first | exact s0) ⟨rfl, rfl, rfl, rfl⟩ rfl rfl rfl ?_
          | refine ep_callw0 rfl (by first | exact s0) rfl rfl ?_
          | refine sp_callw rfl rfl rfl rfl (by first | exact s0) ⟨rfl, rfl, rfl, rfl⟩ rfl rfl rfl (by first | exact WrP_refl _ _ | (repeat' (first | exact rfl | exact True.intro | refine And.intro ?_ ?_))) ?_
          | refine ep_bin rfl rfl (by first | exact b_add (by omega) (by omega) | exact b_sub (by omega) (by omega) | exact b_and (by omega) (by omega) | exact b_or (by omega) (by omega) | exact b_shr (by omega) | exact b_shl (by omega) (by omega) | exact b_lss | exact b_leq | exact b_gtr | exact b_geq | exact b_eql | exact b_neq) ?_
          | refine ep_pickT rfl rfl ?_ | refine ep_pickF rfl rfl ?_ | refine ep_pickTH rfl (by assumption) rfl ?_ | refine ep_pickFH rfl (by assumption) rfl ?_ | refine ep_extract rfl rfl ?_ | refine ep_not rfl ?_
          | refine sp_box rfl rfl rfl rfl rfl ?_)
        | (refine g_ops ?_; first | refine eo_none ?_ | refine eo_nil ?_ | refine eo_yes rfl ?_ | refine eo_no rfl ?_ | refine eo_und rfl ?_ | refine eo_yesH rfl (by assumption) ?_ | refine eo_noH rfl (by assumption) ?_)
        | (refine g_dops ?_; first | refine ed_none ?_ | refine ed_nil ?_ | refine ed_yes rfl ?_ | refine ed_no rfl ?_ | refine ed_und rfl ?_ | refine ed_yesH rfl (by assumption) ?_ | refine ed_noH rfl (by assumption) ?_)
        | refine ed_same rfl ?_ | refine ed_one rfl rfl rfl rfl ?_ | refine ed_two rfl rfl rfl rfl rfl rfl rfl ?_ | refine ed_write rfl rfl ?_
        | (refine g_code ?_; first | refine ec_seq ?_ | refine ec_region ?_ | refine ec_draw ?_ | refine ec_skip ?_ | refine ec_ret ?_ | refine ec_condT rfl ?_ | refine ec_condF rfl ?_ | refine ec_condTH rfl (by assumption) ?_ | refine ec_condFH rfl (by assumption) ?_)
        | refine ek_seqN ?_ | refine ek_seqR ?_)
      refine sfin (.inr rfl) (by rfl) (by rfl) (by exact ⟨rfl, rfl, rfl⟩) (by rfl) (by rfl) (by rfl) (by first | rfl | (simp; done) | (simp [ints, prs]; done))



end Go.Proofs.Ytdmpajkcpdjfbaa
