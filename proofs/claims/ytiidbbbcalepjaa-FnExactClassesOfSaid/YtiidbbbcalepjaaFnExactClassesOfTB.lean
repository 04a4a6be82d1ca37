/- What each function that the statement reaches returns. -/
import Derived.Test.YtiidbbbcalepjaaFnExactClassesOfTA
set_option linter.unusedVariables false
set_option linter.unusedSimpArgs false
set_option maxRecDepth 100000
set_option maxHeartbeats 4000000
namespace Go.Proofs.Ytiidbbbcalepjaa
open Go Go.Proofs.Ytiidbbbcalepjaa.Mi
attribute [local irreducible] code opsK opsDK gopK opK seqK blockK callK binV
attribute [local irreducible] R2 bt
-- spec.l02In
def m135_0 : MC := (.seq (.seq (.region [⟨(.mov (.t 6)), (some 32), none⟩, ⟨(.mov (.t 5)), (some 33), none⟩, ⟨(.bin .lss (.t 32) (.t 33)), (some 34), none⟩] false) (.cond (.t 34) .skip (.exit 1))) (.seq (.block 2 (.seq (.region [⟨(.load (some 2) (.t 2)), (some 37), none⟩, ⟨(.mov (.t 6)), (some 38), none⟩, ⟨(.call 73 [(.t 37), (.t 38)]), (some 39), none⟩, ⟨(.load (some 2) (.t 2)), (some 40), none⟩, ⟨(.mov (.t 5)), (some 41), none⟩, ⟨(.bin .sub (.t 41) (.k (.int .i64 1))), (some 42), none⟩, ⟨(.mov (.t 6)), (some 43), none⟩, ⟨(.bin .sub (.t 42) (.t 43)), (some 44), none⟩, ⟨(.call 73 [(.t 40), (.t 44)]), (some 45), none⟩, ⟨(.bin .eql (.t 39) (.t 45)), (some 46), none⟩] true) (.cond (.t 46) (.seq (.region [⟨(.mov (.k (.bool false))), (some 4), none⟩] false) .ret) .skip))) (.region [⟨(.mov (.t 6)), (some 35), none⟩, ⟨(.bin .add (.t 35) (.k (.int .i64 1))), (some 36), none⟩, ⟨(.mov (.t 36)), (some 6), none⟩] false)))
def m135_2 : MC := (.seq (.seq (.region [⟨(.mov (.t 8)), (some 54), none⟩, ⟨(.fieldAddr 0 (.t 2)), (some 55), none⟩, ⟨(.load none (.t 55)), (some 56), none⟩, ⟨(.bin .lss (.t 54) (.t 56)), (some 57), none⟩] false) (.cond (.t 57) .skip (.exit 5))) (.seq (.block 6 (.seq (.region [⟨(.mov (.t 8)), (some 60), none⟩, ⟨(.conv .u64 (.t 60)), (some 61), none⟩, ⟨(.bin .shl (.k (.int .i64 1)) (.t 61)), (some 62), none⟩, ⟨(.mov (.t 62)), (some 9), none⟩] false) (.seq (.region [⟨(.mov (.t 7)), (some 63), none⟩, ⟨(.mov (.t 9)), (some 64), none⟩, ⟨(.bin .and (.t 63) (.t 64)), (some 65), none⟩, ⟨(.bin .eql (.t 65) (.k (.int .i64 0))), (some 66), none⟩, ⟨(.mov (.t 66)), (some 67), none⟩, ⟨(.load (some 2) (.t 2)), (some 68), (some (67, true))⟩, ⟨(.mov (.t 7)), (some 69), (some (67, true))⟩, ⟨(.call 73 [(.t 68), (.t 69)]), (some 70), (some (67, true))⟩, ⟨(.bin .eql (.t 70) (.k (.int .i64 1))), (some 71), (some (67, true))⟩, ⟨(.pick (.t 67) (.t 71) (.k (.bool false))), (some 72), none⟩, ⟨(.mov (.t 72)), (some 73), none⟩, ⟨(.load (some 2) (.t 2)), (some 74), (some (73, true))⟩, ⟨(.mov (.t 7)), (some 75), (some (73, true))⟩, ⟨(.mov (.t 9)), (some 76), (some (73, true))⟩, ⟨(.bin .or (.t 75) (.t 76)), (some 77), (some (73, true))⟩, ⟨(.call 73 [(.t 74), (.t 77)]), (some 78), (some (73, true))⟩, ⟨(.bin .eql (.t 78) (.k (.int .i64 0))), (some 79), (some (73, true))⟩, ⟨(.pick (.t 73) (.t 79) (.k (.bool false))), (some 80), none⟩] false) (.cond (.t 80) (.seq (.region [⟨(.mov (.k (.bool false))), (some 4), none⟩] false) .ret) .skip)))) (.region [⟨(.mov (.t 8)), (some 58), none⟩, ⟨(.bin .add (.t 58) (.k (.int .i64 1))), (some 59), none⟩, ⟨(.mov (.t 59)), (some 8), none⟩] false)))
def m135_1 : MC := (.seq (.seq (.region [⟨(.mov (.t 7)), (some 49), none⟩, ⟨(.mov (.t 5)), (some 50), none⟩, ⟨(.bin .lss (.t 49) (.t 50)), (some 51), none⟩] false) (.cond (.t 51) .skip (.exit 3))) (.seq (.block 4 (.seq (.region [⟨(.mov (.k (.int .i64 0))), (some 8), none⟩] false) (.block 5 (.loop m135_2)))) (.region [⟨(.mov (.t 7)), (some 52), none⟩, ⟨(.bin .add (.t 52) (.k (.int .i64 1))), (some 53), none⟩, ⟨(.mov (.t 53)), (some 7), none⟩] false)))
def m135_4 : MC := (.seq (.seq (.region [⟨(.mov (.t 13)), (some 96), none⟩, ⟨(.mov (.t 5)), (some 97), none⟩, ⟨(.bin .lss (.t 96) (.t 97)), (some 98), none⟩] false) (.cond (.t 98) .skip (.exit 9))) (.seq (.block 10 (.seq (.region [⟨(.load (some 2) (.t 2)), (some 101), none⟩, ⟨(.mov (.t 13)), (some 102), none⟩, ⟨(.call 73 [(.t 101), (.t 102)]), (some 103), none⟩, ⟨(.load (some 2) (.t 2)), (some 104), none⟩, ⟨(.mov (.t 13)), (some 105), none⟩, ⟨(.mov (.t 11)), (some 106), none⟩, ⟨(.bin .xor (.t 105) (.t 106)), (some 107), none⟩, ⟨(.call 73 [(.t 104), (.t 107)]), (some 108), none⟩, ⟨(.bin .neq (.t 103) (.t 108)), (some 109), none⟩, ⟨(.mov (.t 12)), (some 110), none⟩, ⟨(.eqb true (.t 109) (.t 110)), (some 111), none⟩] true) (.cond (.t 111) (.seq (.region [⟨(.mov (.k (.bool false))), (some 4), none⟩] false) .ret) .skip))) (.region [⟨(.mov (.t 13)), (some 99), none⟩, ⟨(.bin .add (.t 99) (.k (.int .i64 1))), (some 100), none⟩, ⟨(.mov (.t 100)), (some 13), none⟩] false)))
def m135_3 : MC := (.seq (.seq (.region [⟨(.mov (.t 10)), (some 81), none⟩, ⟨(.fieldAddr 0 (.t 2)), (some 82), none⟩, ⟨(.load none (.t 82)), (some 83), none⟩, ⟨(.bin .lss (.t 81) (.t 83)), (some 84), none⟩] false) (.cond (.t 84) .skip (.exit 7))) (.seq (.block 8 (.seq (.region [⟨(.mov (.t 10)), (some 87), none⟩, ⟨(.conv .u64 (.t 87)), (some 88), none⟩, ⟨(.bin .shl (.k (.int .i64 1)) (.t 88)), (some 89), none⟩, ⟨(.mov (.t 89)), (some 11), none⟩] false) (.seq (.region [⟨(.load (some 2) (.t 2)), (some 90), none⟩, ⟨(.call 73 [(.t 90), (.k (.int .i64 0))]), (some 91), none⟩, ⟨(.load (some 2) (.t 2)), (some 92), none⟩, ⟨(.mov (.t 11)), (some 93), none⟩, ⟨(.call 73 [(.t 92), (.t 93)]), (some 94), none⟩, ⟨(.bin .neq (.t 91) (.t 94)), (some 95), none⟩, ⟨(.mov (.t 95)), (some 12), none⟩] true) (.seq (.region [⟨(.mov (.k (.int .i64 0))), (some 13), none⟩] false) (.block 9 (.loop m135_4)))))) (.region [⟨(.mov (.t 10)), (some 85), none⟩, ⟨(.bin .add (.t 85) (.k (.int .i64 1))), (some 86), none⟩, ⟨(.mov (.t 86)), (some 10), none⟩] false)))
def m135 : MC := (.seq (.region [⟨(.box (.t 0)), (some 2), none⟩, ⟨(.mov (.k (.bool false))), (some 4), none⟩] false) (.seq (.region [⟨(.fieldAddr 0 (.t 2)), (some 14), none⟩, ⟨(.load none (.t 14)), (some 15), none⟩, ⟨(.call 74 [(.t 15)]), (some 16), none⟩, ⟨(.mov (.t 16)), (some 5), none⟩] false) (.seq (.seq (.region [⟨(.mov (.t 1)), (some 17), none⟩] false) (.block 0 (.seq (.region [⟨(.bin .eql (.t 17) (.k (.int .i64 0))), (some 19), none⟩, ⟨(.mov (.t 19)), (some 18), none⟩] false) (.cond (.t 18) (.seq (.region [⟨(.load (some 2) (.t 2)), (some 20), none⟩, ⟨(.call 73 [(.t 20), (.k (.int .i64 0))]), (some 21), none⟩, ⟨(.bin .eql (.t 21) (.k (.int .i64 0))), (some 22), none⟩, ⟨(.mov (.t 22)), (some 4), none⟩] false) .ret) (.seq (.region [⟨(.bin .eql (.t 17) (.k (.int .i64 1))), (some 24), none⟩, ⟨(.mov (.t 24)), (some 23), none⟩] false) (.cond (.t 23) (.seq (.region [⟨(.load (some 2) (.t 2)), (some 25), none⟩, ⟨(.mov (.t 5)), (some 26), none⟩, ⟨(.bin .sub (.t 26) (.k (.int .i64 1))), (some 27), none⟩, ⟨(.call 73 [(.t 25), (.t 27)]), (some 28), none⟩, ⟨(.bin .eql (.t 28) (.k (.int .i64 1))), (some 29), none⟩, ⟨(.mov (.t 29)), (some 4), none⟩] false) .ret) (.seq (.region [⟨(.bin .eql (.t 17) (.k (.int .i64 2))), (some 31), none⟩, ⟨(.mov (.t 31)), (some 30), none⟩] false) (.cond (.t 30) (.seq (.seq (.region [⟨(.mov (.k (.int .i64 0))), (some 6), none⟩] false) (.block 1 (.loop m135_0))) (.seq (.region [⟨(.mov (.k (.bool true))), (some 4), none⟩] false) .ret)) (.seq (.region [⟨(.bin .eql (.t 17) (.k (.int .i64 3))), (some 48), none⟩, ⟨(.mov (.t 48)), (some 47), none⟩] false) (.cond (.t 47) (.seq (.seq (.region [⟨(.mov (.k (.int .i64 0))), (some 7), none⟩] false) (.block 3 (.loop m135_1))) (.seq (.region [⟨(.mov (.k (.bool true))), (some 4), none⟩] false) .ret)) .skip)))))))))) (.seq (.seq (.region [⟨(.mov (.k (.int .i64 0))), (some 10), none⟩] false) (.block 7 (.loop m135_3))) (.seq (.region [⟨(.mov (.k (.bool true))), (some 4), none⟩] false) .ret)))))
theorem has135 : Has cx 135 112 m135 [(.tmp 4)] :=
  ⟨⟨Try.f135, Try.f135.body.getD .skip, by kernel_rfl, by kernel_rfl, by kernel_rfl, by kernel_rfl, by kernel_rfl, by kernel_rfl⟩⟩
theorem lp135_0 (n b : Nat) (hn : n ≤ 4) (hb : b < 65536) (o : Out) (ho : (if allF (fun r => bt b r != bt b (R2 n - 1 - r)) 0 (R2 n) = true then (⟨.exit 1, [], []⟩ : Out) else ⟨.ret, [(4, .bool false)], []⟩) = o) :
    LpS cx 112 0 m135_0 [(2, .ptr 0 0), (5, .int .i64 (R2 n : Nat)), (6, .int .i64 (0 : Nat))] [⟨[.int .i64 n, .int .i64 b], 1, 0, some 0, true⟩] o.x o.e o.h := by
  obtain ⟨h1, h2, h3, h4⟩ := shN hn
  refine lp_all (R2 n) (fun r => bt b r != bt b (R2 n - 1 - r)) (fun i => [(2, .ptr 0 0), (5, .int .i64 (R2 n : Nat)), (6, .int .i64 (i : Nat))]) (fun i => [⟨[.int .i64 n, .int .i64 b], 1, 0, some 0, true⟩]) _ _ ?_ ?_ ?_ (R2 n) 0 o (by omega) ho
  · intro i hi hp
    have hlt : decide ((i : Int) < (R2 n : Nat)) = true := decide_eq_true (by omega)
    have hp' : (bt b i != bt b (R2 n - 1 - i)) = true := hp
    have hq := ieq (bt b i) (bt b (R2 n - 1 - i))
    rw [show (bt b i == bt b (R2 n - 1 - i)) = !(bt b i != bt b (R2 n - 1 - i)) by simp [bne], hp'] at hq
    have s1 := b_sub1 (a := R2 n) (by omega) (by omega)
    have s2 := b_subN (a := R2 n - 1) (b := i) (by omega) (by omega)
    unfold m135_0
    repeat' (first
      | (refine g_op ?_; first
        | refine ep_mov rfl ?_ | refine sp_loadN rfl rfl rfl rfl rfl ?_
        | refine ep_call0 rfl (by first | exact ev73 _ _ _ (by omega) (by omega)) rfl rfl ?_
        | refine sp_call rfl rfl rfl rfl (by first | exact ev73 _ _ _ (by omega) (by omega)) ⟨rfl, rfl, rfl, rfl⟩ rfl rfl rfl ?_
        | refine ep_bin rfl rfl (by first | exact s1 | exact s2 | exact b_add (by omega) (by omega) | exact b_sub (by omega) (by omega) | exact b_and (by omega) (by omega) | exact b_or (by omega) (by omega) | exact b_shr (by omega) | exact b_shl (by omega) (by omega) | exact b_lss | exact b_leq | exact b_gtr | exact b_geq | exact b_eql | exact b_neq) ?_)
      | (refine g_ops ?_; first | refine eo_none ?_ | refine eo_nil ?_)
      | (refine g_dops ?_; first | refine ed_none ?_ | refine ed_nil ?_)
      | refine ed_same rfl ?_ | refine ed_one rfl rfl rfl rfl ?_ | refine ed_two rfl rfl rfl rfl rfl rfl rfl ?_ | refine ed_write rfl rfl ?_
      | (refine g_code ?_; first | refine ec_seq ?_ | refine ec_region ?_ | refine ec_draw ?_ | refine ec_block ?_ | refine ec_skip ?_ | refine ec_exit ?_ | refine ec_ret ?_ | refine ec_condT rfl ?_ | refine ec_condF rfl ?_ | refine ec_condTH rfl (by assumption) ?_ | refine ec_condFH rfl (by assumption) ?_)
      | refine ek_seqN ?_ | refine ek_seqX ?_ | refine ek_seqR ?_ | refine ek_blkN ?_ | refine ek_blkR ?_ | refine ek_blkX ?_ | refine ek_blkY rfl ?_)
    exact rnd_on (by rfl) (scmp2 (by rfl) (by rfl) (by exact ⟨rfl, rfl, rfl⟩) (by rfl) (by first | rfl | (simp; done) | (simp [ints, prs]; done)) (by rfl) (by first | rfl | (simp; done) | (simp [ints, prs]; done)))
  · intro i hi hp
    have hlt : decide ((i : Int) < (R2 n : Nat)) = true := decide_eq_true (by omega)
    have hp' : (bt b i != bt b (R2 n - 1 - i)) = false := hp
    have hq := ieq (bt b i) (bt b (R2 n - 1 - i))
    rw [show (bt b i == bt b (R2 n - 1 - i)) = !(bt b i != bt b (R2 n - 1 - i)) by simp [bne], hp'] at hq
    have s1 := b_sub1 (a := R2 n) (by omega) (by omega)
    have s2 := b_subN (a := R2 n - 1) (b := i) (by omega) (by omega)
    unfold m135_0
    repeat' (first
      | (refine g_op ?_; first
        | refine ep_mov rfl ?_ | refine sp_loadN rfl rfl rfl rfl rfl ?_
        | refine ep_call0 rfl (by first | exact ev73 _ _ _ (by omega) (by omega)) rfl rfl ?_
        | refine sp_call rfl rfl rfl rfl (by first | exact ev73 _ _ _ (by omega) (by omega)) ⟨rfl, rfl, rfl, rfl⟩ rfl rfl rfl ?_
        | refine ep_bin rfl rfl (by first | exact s1 | exact s2 | exact b_add (by omega) (by omega) | exact b_sub (by omega) (by omega) | exact b_and (by omega) (by omega) | exact b_or (by omega) (by omega) | exact b_shr (by omega) | exact b_shl (by omega) (by omega) | exact b_lss | exact b_leq | exact b_gtr | exact b_geq | exact b_eql | exact b_neq) ?_)
      | (refine g_ops ?_; first | refine eo_none ?_ | refine eo_nil ?_)
      | (refine g_dops ?_; first | refine ed_none ?_ | refine ed_nil ?_)
      | refine ed_same rfl ?_ | refine ed_one rfl rfl rfl rfl ?_ | refine ed_two rfl rfl rfl rfl rfl rfl rfl ?_ | refine ed_write rfl rfl ?_
      | (refine g_code ?_; first | refine ec_seq ?_ | refine ec_region ?_ | refine ec_draw ?_ | refine ec_block ?_ | refine ec_skip ?_ | refine ec_exit ?_ | refine ec_ret ?_ | refine ec_condT rfl ?_ | refine ec_condF rfl ?_ | refine ec_condTH rfl (by assumption) ?_ | refine ec_condFH rfl (by assumption) ?_)
      | refine ek_seqN ?_ | refine ek_seqX ?_ | refine ek_seqR ?_ | refine ek_blkN ?_ | refine ek_blkR ?_ | refine ek_blkX ?_ | refine ek_blkY rfl ?_)
    exact rnd_out (by rfl) (by simp) (scmp2 (by rfl) (by rfl) (by exact ⟨rfl, rfl, rfl⟩) (by rfl) (by first | rfl | (simp; done) | (simp [ints, prs]; done)) (by rfl) (by first | rfl | (simp; done) | (simp [ints, prs]; done)))
  · have hlt : decide (((R2 n : Nat) : Int) < (R2 n : Nat)) = false := decide_eq_false (by omega)
    unfold m135_0
    repeat' (first
      | (refine g_op ?_; first
        | refine ep_mov rfl ?_ | refine sp_loadN rfl rfl rfl rfl rfl ?_
        | refine ep_call0 rfl (by first | exact ev73 _ _ _ (by omega) (by omega)) rfl rfl ?_
        | refine sp_call rfl rfl rfl rfl (by first | exact ev73 _ _ _ (by omega) (by omega)) ⟨rfl, rfl, rfl, rfl⟩ rfl rfl rfl ?_
        | refine ep_bin rfl rfl (by first | exact s1 | exact s2 | exact b_add (by omega) (by omega) | exact b_sub (by omega) (by omega) | exact b_and (by omega) (by omega) | exact b_or (by omega) (by omega) | exact b_shr (by omega) | exact b_shl (by omega) (by omega) | exact b_lss | exact b_leq | exact b_gtr | exact b_geq | exact b_eql | exact b_neq) ?_)
      | (refine g_ops ?_; first | refine eo_none ?_ | refine eo_nil ?_)
      | (refine g_dops ?_; first | refine ed_none ?_ | refine ed_nil ?_)
      | refine ed_same rfl ?_ | refine ed_one rfl rfl rfl rfl ?_ | refine ed_two rfl rfl rfl rfl rfl rfl rfl ?_ | refine ed_write rfl rfl ?_
      | (refine g_code ?_; first | refine ec_seq ?_ | refine ec_region ?_ | refine ec_draw ?_ | refine ec_block ?_ | refine ec_skip ?_ | refine ec_exit ?_ | refine ec_ret ?_ | refine ec_condT rfl ?_ | refine ec_condF rfl ?_ | refine ec_condTH rfl (by assumption) ?_ | refine ec_condFH rfl (by assumption) ?_)
      | refine ek_seqN ?_ | refine ek_seqX ?_ | refine ek_seqR ?_ | refine ek_blkN ?_ | refine ek_blkR ?_ | refine ek_blkX ?_ | refine ek_blkY rfl ?_)
    exact rnd_out (by rfl) (by simp) (scmp2 (by rfl) (by rfl) (by exact ⟨rfl, rfl, rfl⟩) (by rfl) (by first | rfl | (simp; done) | (simp [ints, prs]; done)) (by rfl) (by first | rfl | (simp; done) | (simp [ints, prs]; done)))

theorem lp135_2 (n b : Nat) (hn : n ≤ 4) (hb : b < 65536) (r : Nat) (hr : r < R2 n) (o : Out) (ho : (if allF (monoP b r) 0 (n) = true then (⟨.exit 5, [(2, .ptr 0 0), (5, .int .i64 (R2 n : Nat)), (7, .int .i64 (r : Nat))], [⟨[.int .i64 n, .int .i64 b], 1, 0, some 0, true⟩]⟩ : Out) else ⟨.ret, [(4, .bool false)], []⟩) = o) :
    LpS cx 112 0 m135_2 [(2, .ptr 0 0), (5, .int .i64 (R2 n : Nat)), (7, .int .i64 (r : Nat)), (8, .int .i64 (0 : Nat))] [⟨[.int .i64 n, .int .i64 b], 1, 0, some 0, true⟩] o.x o.e o.h := by
  obtain ⟨h1, h2, h3, h4⟩ := shN hn
  refine lp_all (n) (monoP b r) (fun i => [(2, .ptr 0 0), (5, .int .i64 (R2 n : Nat)), (7, .int .i64 (r : Nat)), (8, .int .i64 (i : Nat))]) (fun i => [⟨[.int .i64 n, .int .i64 b], 1, 0, some 0, true⟩]) _ _ ?_ ?_ ?_ (n) 0 o (by omega) ho
  · intro i hi hp
    have hlt : decide ((i : Int) < (n : Nat)) = true := decide_eq_true (by omega)
    have hp' : ((monoP b r) i) = true := hp
    have h5 := R2_le hi
    have h6 := or_lt hr (show R2 i < R2 n by omega)
    simp only [monoP, decide_eq_true_eq] at hp
    by_cases hz : r &&& R2 i = 0
    · have hz1 : (((r &&& R2 i : Nat) : Int) == 0) = true := by simp [hz]
      by_cases hx : bt b r = 1
      · have h8 : (((bt b r : Nat) : Int) == 1) = true := by simp [hx]
        have h9 : (((bt b (r ||| R2 i) : Nat) : Int) == 0) = false := by
          have : bt b (r ||| R2 i) ≠ 0 := by omega
          simpa using this
        unfold m135_2
        repeat' (first
          | (refine g_op ?_; first
            | refine ep_mov rfl ?_ | refine ep_load1 rfl rfl rfl rfl ?_ | refine ep_fieldAddr rfl ?_ | refine sp_loadN rfl rfl rfl rfl rfl ?_
            | refine ep_call0 rfl (by first | exact ev73 _ _ _ (by omega) (by omega)) rfl rfl ?_
            | refine sp_call rfl rfl rfl rfl (by first | exact ev73 _ _ _ (by omega) (by omega)) ⟨rfl, rfl, rfl, rfl⟩ rfl rfl rfl ?_
            | refine ep_bin rfl rfl (by first | exact b_shl1 (by omega) (by omega) | exact b_and (x := r) (by omega) (by omega) | exact b_or (x := r) (by omega) (by omega) | exact b_add (by omega) (by omega) | exact b_sub (by omega) (by omega) | exact b_and (by omega) (by omega) | exact b_or (by omega) (by omega) | exact b_shr (by omega) | exact b_shl (by omega) (by omega) | exact b_lss | exact b_leq | exact b_gtr | exact b_geq | exact b_eql | exact b_neq) ?_
            | refine ep_pickT rfl rfl ?_ | refine ep_pickF rfl rfl ?_ | refine ep_pickTH rfl (by assumption) rfl ?_ | refine ep_pickFH rfl (by assumption) rfl ?_ | refine ep_conv rfl (by first | exact w_u64 (by omega) (by omega) | exact wrap_id (by omega) (by omega) | rfl) ?_)
          | (refine g_ops ?_; first | refine eo_none ?_ | refine eo_nil ?_ | refine eo_yes rfl ?_ | refine eo_no rfl ?_ | refine eo_und rfl ?_ | refine eo_yesH rfl (by assumption) ?_ | refine eo_noH rfl (by assumption) ?_)
          | (refine g_code ?_; first | refine ec_seq ?_ | refine ec_region ?_ | refine ec_block ?_ | refine ec_skip ?_ | refine ec_exit ?_ | refine ec_ret ?_ | refine ec_condT rfl ?_ | refine ec_condF rfl ?_ | refine ec_condTH rfl (by assumption) ?_ | refine ec_condFH rfl (by assumption) ?_)
          | refine ek_seqN ?_ | refine ek_seqX ?_ | refine ek_seqR ?_ | refine ek_blkN ?_ | refine ek_blkR ?_ | refine ek_blkX ?_ | refine ek_blkY rfl ?_)
        exact rnd_on (by rfl) (scmp2 (by rfl) (by rfl) (by exact ⟨rfl, rfl, rfl⟩) (by rfl) (by first | rfl | (simp; done) | (simp [ints, prs]; done)) (by rfl) (by first | rfl | (simp; done) | (simp [ints, prs]; done)))
      · have h8 : (((bt b r : Nat) : Int) == 1) = false := by
          simp only [beq_eq_false_iff_ne, ne_eq]; omega
        unfold m135_2
        repeat' (first
          | (refine g_op ?_; first
            | refine ep_mov rfl ?_ | refine ep_load1 rfl rfl rfl rfl ?_ | refine ep_fieldAddr rfl ?_ | refine sp_loadN rfl rfl rfl rfl rfl ?_
            | refine ep_call0 rfl (by first | exact ev73 _ _ _ (by omega) (by omega)) rfl rfl ?_
            | refine sp_call rfl rfl rfl rfl (by first | exact ev73 _ _ _ (by omega) (by omega)) ⟨rfl, rfl, rfl, rfl⟩ rfl rfl rfl ?_
            | refine ep_bin rfl rfl (by first | exact b_shl1 (by omega) (by omega) | exact b_and (x := r) (by omega) (by omega) | exact b_or (x := r) (by omega) (by omega) | exact b_add (by omega) (by omega) | exact b_sub (by omega) (by omega) | exact b_and (by omega) (by omega) | exact b_or (by omega) (by omega) | exact b_shr (by omega) | exact b_shl (by omega) (by omega) | exact b_lss | exact b_leq | exact b_gtr | exact b_geq | exact b_eql | exact b_neq) ?_
            | refine ep_pickT rfl rfl ?_ | refine ep_pickF rfl rfl ?_ | refine ep_pickTH rfl (by assumption) rfl ?_ | refine ep_pickFH rfl (by assumption) rfl ?_ | refine ep_conv rfl (by first | exact w_u64 (by omega) (by omega) | exact wrap_id (by omega) (by omega) | rfl) ?_)
          | (refine g_ops ?_; first | refine eo_none ?_ | refine eo_nil ?_ | refine eo_yes rfl ?_ | refine eo_no rfl ?_ | refine eo_und rfl ?_ | refine eo_yesH rfl (by assumption) ?_ | refine eo_noH rfl (by assumption) ?_)
          | (refine g_code ?_; first | refine ec_seq ?_ | refine ec_region ?_ | refine ec_block ?_ | refine ec_skip ?_ | refine ec_exit ?_ | refine ec_ret ?_ | refine ec_condT rfl ?_ | refine ec_condF rfl ?_ | refine ec_condTH rfl (by assumption) ?_ | refine ec_condFH rfl (by assumption) ?_)
          | refine ek_seqN ?_ | refine ek_seqX ?_ | refine ek_seqR ?_ | refine ek_blkN ?_ | refine ek_blkR ?_ | refine ek_blkX ?_ | refine ek_blkY rfl ?_)
        exact rnd_on (by rfl) (scmp2 (by rfl) (by rfl) (by exact ⟨rfl, rfl, rfl⟩) (by rfl) (by first | rfl | (simp; done) | (simp [ints, prs]; done)) (by rfl) (by first | rfl | (simp; done) | (simp [ints, prs]; done)))
    have hz1 : (((r &&& R2 i : Nat) : Int) == 0) = false := by simpa using hz
    unfold m135_2
    repeat' (first
      | (refine g_op ?_; first
        | refine ep_mov rfl ?_ | refine ep_load1 rfl rfl rfl rfl ?_ | refine ep_fieldAddr rfl ?_ | refine sp_loadN rfl rfl rfl rfl rfl ?_
        | refine ep_call0 rfl (by first | exact ev73 _ _ _ (by omega) (by omega)) rfl rfl ?_
        | refine sp_call rfl rfl rfl rfl (by first | exact ev73 _ _ _ (by omega) (by omega)) ⟨rfl, rfl, rfl, rfl⟩ rfl rfl rfl ?_
        | refine ep_bin rfl rfl (by first | exact b_shl1 (by omega) (by omega) | exact b_and (x := r) (by omega) (by omega) | exact b_or (x := r) (by omega) (by omega) | exact b_add (by omega) (by omega) | exact b_sub (by omega) (by omega) | exact b_and (by omega) (by omega) | exact b_or (by omega) (by omega) | exact b_shr (by omega) | exact b_shl (by omega) (by omega) | exact b_lss | exact b_leq | exact b_gtr | exact b_geq | exact b_eql | exact b_neq) ?_
        | refine ep_pickT rfl rfl ?_ | refine ep_pickF rfl rfl ?_ | refine ep_pickTH rfl (by assumption) rfl ?_ | refine ep_pickFH rfl (by assumption) rfl ?_ | refine ep_conv rfl (by first | exact w_u64 (by omega) (by omega) | exact wrap_id (by omega) (by omega) | rfl) ?_)
      | (refine g_ops ?_; first | refine eo_none ?_ | refine eo_nil ?_ | refine eo_yes rfl ?_ | refine eo_no rfl ?_ | refine eo_und rfl ?_ | refine eo_yesH rfl (by assumption) ?_ | refine eo_noH rfl (by assumption) ?_)
      | (refine g_code ?_; first | refine ec_seq ?_ | refine ec_region ?_ | refine ec_block ?_ | refine ec_skip ?_ | refine ec_exit ?_ | refine ec_ret ?_ | refine ec_condT rfl ?_ | refine ec_condF rfl ?_ | refine ec_condTH rfl (by assumption) ?_ | refine ec_condFH rfl (by assumption) ?_)
      | refine ek_seqN ?_ | refine ek_seqX ?_ | refine ek_seqR ?_ | refine ek_blkN ?_ | refine ek_blkR ?_ | refine ek_blkX ?_ | refine ek_blkY rfl ?_)
    exact rnd_on (by rfl) (scmp2 (by rfl) (by rfl) (by exact ⟨rfl, rfl, rfl⟩) (by rfl) (by first | rfl | (simp; done) | (simp [ints, prs]; done)) (by rfl) (by first | rfl | (simp; done) | (simp [ints, prs]; done)))
  · intro i hi hp
    have hlt : decide ((i : Int) < (n : Nat)) = true := decide_eq_true (by omega)
    have hp' : ((monoP b r) i) = false := hp
    have h5 := R2_le hi
    have h6 := or_lt hr (show R2 i < R2 n by omega)
    simp only [monoP, decide_eq_false_iff_not, Classical.not_not] at hp
    have hz : r &&& R2 i = 0 := by
      apply Classical.byContradiction
      intro h; rw [and_R2n h] at hp; omega
    have hz1 : (((r &&& R2 i : Nat) : Int) == 0) = true := by simp [hz]
    have hx := bt_le b r
    have h8 : (((bt b r : Nat) : Int) == 1) = true := by simp only [beq_iff_eq]; omega
    have h9 : (((bt b (r ||| R2 i) : Nat) : Int) == 0) = true := by simp only [beq_iff_eq]; omega
    unfold m135_2
    repeat' (first
      | (refine g_op ?_; first
        | refine ep_mov rfl ?_ | refine ep_load1 rfl rfl rfl rfl ?_ | refine ep_fieldAddr rfl ?_ | refine sp_loadN rfl rfl rfl rfl rfl ?_
        | refine ep_call0 rfl (by first | exact ev73 _ _ _ (by omega) (by omega)) rfl rfl ?_
        | refine sp_call rfl rfl rfl rfl (by first | exact ev73 _ _ _ (by omega) (by omega)) ⟨rfl, rfl, rfl, rfl⟩ rfl rfl rfl ?_
        | refine ep_bin rfl rfl (by first | exact b_shl1 (by omega) (by omega) | exact b_and (x := r) (by omega) (by omega) | exact b_or (x := r) (by omega) (by omega) | exact b_add (by omega) (by omega) | exact b_sub (by omega) (by omega) | exact b_and (by omega) (by omega) | exact b_or (by omega) (by omega) | exact b_shr (by omega) | exact b_shl (by omega) (by omega) | exact b_lss | exact b_leq | exact b_gtr | exact b_geq | exact b_eql | exact b_neq) ?_
        | refine ep_pickT rfl rfl ?_ | refine ep_pickF rfl rfl ?_ | refine ep_pickTH rfl (by assumption) rfl ?_ | refine ep_pickFH rfl (by assumption) rfl ?_ | refine ep_conv rfl (by first | exact w_u64 (by omega) (by omega) | exact wrap_id (by omega) (by omega) | rfl) ?_)
      | (refine g_ops ?_; first | refine eo_none ?_ | refine eo_nil ?_ | refine eo_yes rfl ?_ | refine eo_no rfl ?_ | refine eo_und rfl ?_ | refine eo_yesH rfl (by assumption) ?_ | refine eo_noH rfl (by assumption) ?_)
      | (refine g_code ?_; first | refine ec_seq ?_ | refine ec_region ?_ | refine ec_block ?_ | refine ec_skip ?_ | refine ec_exit ?_ | refine ec_ret ?_ | refine ec_condT rfl ?_ | refine ec_condF rfl ?_ | refine ec_condTH rfl (by assumption) ?_ | refine ec_condFH rfl (by assumption) ?_)
      | refine ek_seqN ?_ | refine ek_seqX ?_ | refine ek_seqR ?_ | refine ek_blkN ?_ | refine ek_blkR ?_ | refine ek_blkX ?_ | refine ek_blkY rfl ?_)
    exact rnd_out (by rfl) (by simp) (scmp2 (by rfl) (by rfl) (by exact ⟨rfl, rfl, rfl⟩) (by rfl) (by first | rfl | (simp; done) | (simp [ints, prs]; done)) (by rfl) (by first | rfl | (simp; done) | (simp [ints, prs]; done)))
  · have hlt : decide (((n : Nat) : Int) < (n : Nat)) = false := decide_eq_false (by omega)
    unfold m135_2
    repeat' (first
      | (refine g_op ?_; first
        | refine ep_mov rfl ?_ | refine ep_load1 rfl rfl rfl rfl ?_ | refine ep_fieldAddr rfl ?_ | refine sp_loadN rfl rfl rfl rfl rfl ?_
        | refine ep_bin rfl rfl (by first | exact b_add (by omega) (by omega) | exact b_sub (by omega) (by omega) | exact b_and (by omega) (by omega) | exact b_or (by omega) (by omega) | exact b_shr (by omega) | exact b_shl (by omega) (by omega) | exact b_lss | exact b_leq | exact b_gtr | exact b_geq | exact b_eql | exact b_neq) ?_
        | refine ep_pickT rfl rfl ?_ | refine ep_pickF rfl rfl ?_ | refine ep_pickTH rfl (by assumption) rfl ?_ | refine ep_pickFH rfl (by assumption) rfl ?_ | refine ep_conv rfl (by first | exact w_u64 (by omega) (by omega) | exact wrap_id (by omega) (by omega) | rfl) ?_)
      | (refine g_ops ?_; first | refine eo_none ?_ | refine eo_nil ?_ | refine eo_yes rfl ?_ | refine eo_no rfl ?_ | refine eo_und rfl ?_ | refine eo_yesH rfl (by assumption) ?_ | refine eo_noH rfl (by assumption) ?_)
      | (refine g_code ?_; first | refine ec_seq ?_ | refine ec_region ?_ | refine ec_block ?_ | refine ec_skip ?_ | refine ec_exit ?_ | refine ec_ret ?_ | refine ec_condT rfl ?_ | refine ec_condF rfl ?_ | refine ec_condTH rfl (by assumption) ?_ | refine ec_condFH rfl (by assumption) ?_)
      | refine ek_seqN ?_ | refine ek_seqX ?_ | refine ek_seqR ?_ | refine ek_blkN ?_ | refine ek_blkR ?_ | refine ek_blkX ?_ | refine ek_blkY rfl ?_)
    exact rnd_out (by rfl) (by simp) (scmp2 (by rfl) (by rfl) (by exact ⟨rfl, rfl, rfl⟩) (by rfl) (by first | rfl | (simp; done) | (simp [ints, prs]; done)) (by rfl) (by first | rfl | (simp; done) | (simp [ints, prs]; done)))

theorem lp135_1 (n b : Nat) (hn : n ≤ 4) (hb : b < 65536) (o : Out) (ho : (if allF (fun r => allF (monoP b r) 0 n) 0 (R2 n) = true then (⟨.exit 3, [], []⟩ : Out) else ⟨.ret, [(4, .bool false)], []⟩) = o) :
    LpS cx 112 0 m135_1 [(2, .ptr 0 0), (5, .int .i64 (R2 n : Nat)), (7, .int .i64 (0 : Nat))] [⟨[.int .i64 n, .int .i64 b], 1, 0, some 0, true⟩] o.x o.e o.h := by
  obtain ⟨h1, h2, h3, h4⟩ := shN hn
  refine lp_all (R2 n) (fun r => allF (monoP b r) 0 n) (fun i => [(2, .ptr 0 0), (5, .int .i64 (R2 n : Nat)), (7, .int .i64 (i : Nat))]) (fun i => [⟨[.int .i64 n, .int .i64 b], 1, 0, some 0, true⟩]) _ _ ?_ ?_ ?_ (R2 n) 0 o (by omega) ho
  · intro i hi hp
    have hlt : decide ((i : Int) < (R2 n : Nat)) = true := decide_eq_true (by omega)
    have hp' : (allF (monoP b i) 0 n) = true := hp
    have lp := lp135_2 n b hn hb i hi _ (if_pos hp)
    unfold m135_1
    repeat' (first
      | refine sc_loop lp rfl rfl ⟨rfl, rfl, rfl⟩ rfl rfl rfl ?_
      | (refine g_op ?_; first
        | refine ep_mov rfl ?_
        | refine ep_bin rfl rfl (by first | exact b_add (by omega) (by omega) | exact b_sub (by omega) (by omega) | exact b_and (by omega) (by omega) | exact b_or (by omega) (by omega) | exact b_shr (by omega) | exact b_shl (by omega) (by omega) | exact b_lss | exact b_leq | exact b_gtr | exact b_geq | exact b_eql | exact b_neq) ?_)
      | (refine g_ops ?_; first | refine eo_none ?_ | refine eo_nil ?_)
      | (refine g_code ?_; first | refine ec_seq ?_ | refine ec_region ?_ | refine ec_block ?_ | refine ec_skip ?_ | refine ec_exit ?_ | refine ec_condT rfl ?_ | refine ec_condF rfl ?_ | refine ec_condTH rfl (by assumption) ?_ | refine ec_condFH rfl (by assumption) ?_)
      | refine ek_seqN ?_ | refine ek_seqX ?_ | refine ek_seqR ?_ | refine ek_blkN ?_ | refine ek_blkR ?_ | refine ek_blkX ?_ | refine ek_blkY rfl ?_)
    exact rnd_on (by rfl) (scmp2 (by rfl) (by rfl) (by exact ⟨rfl, rfl, rfl⟩) (by rfl) (by first | rfl | (simp; done) | (simp [ints, prs]; done)) (by rfl) (by first | rfl | (simp; done) | (simp [ints, prs]; done)))
  · intro i hi hp
    have hlt : decide ((i : Int) < (R2 n : Nat)) = true := decide_eq_true (by omega)
    have hp' : (allF (monoP b i) 0 n) = false := hp
    have lp := lp135_2 n b hn hb i hi _ (if_neg (by rw [hp']; simp))
    unfold m135_1
    repeat' (first
      | refine sc_loop lp rfl rfl ⟨rfl, rfl, rfl⟩ rfl rfl rfl ?_
      | (refine g_op ?_; first
        | refine ep_mov rfl ?_
        | refine ep_bin rfl rfl (by first | exact b_add (by omega) (by omega) | exact b_sub (by omega) (by omega) | exact b_and (by omega) (by omega) | exact b_or (by omega) (by omega) | exact b_shr (by omega) | exact b_shl (by omega) (by omega) | exact b_lss | exact b_leq | exact b_gtr | exact b_geq | exact b_eql | exact b_neq) ?_)
      | (refine g_ops ?_; first | refine eo_none ?_ | refine eo_nil ?_)
      | (refine g_code ?_; first | refine ec_seq ?_ | refine ec_region ?_ | refine ec_block ?_ | refine ec_skip ?_ | refine ec_exit ?_ | refine ec_condT rfl ?_ | refine ec_condF rfl ?_ | refine ec_condTH rfl (by assumption) ?_ | refine ec_condFH rfl (by assumption) ?_)
      | refine ek_seqN ?_ | refine ek_seqX ?_ | refine ek_seqR ?_ | refine ek_blkN ?_ | refine ek_blkR ?_ | refine ek_blkX ?_ | refine ek_blkY rfl ?_)
    exact rnd_out (by rfl) (by simp) (scmp2 (by rfl) (by rfl) (by exact ⟨rfl, rfl, rfl⟩) (by rfl) (by first | rfl | (simp; done) | (simp [ints, prs]; done)) (by rfl) (by first | rfl | (simp; done) | (simp [ints, prs]; done)))
  · have hlt : decide (((R2 n : Nat) : Int) < (R2 n : Nat)) = false := decide_eq_false (by omega)
    unfold m135_1
    repeat' (first
      | (refine g_op ?_; first
        | refine ep_mov rfl ?_
        | refine ep_bin rfl rfl (by first | exact b_add (by omega) (by omega) | exact b_sub (by omega) (by omega) | exact b_and (by omega) (by omega) | exact b_or (by omega) (by omega) | exact b_shr (by omega) | exact b_shl (by omega) (by omega) | exact b_lss | exact b_leq | exact b_gtr | exact b_geq | exact b_eql | exact b_neq) ?_)
      | (refine g_ops ?_; first | refine eo_none ?_ | refine eo_nil ?_)
      | (refine g_code ?_; first | refine ec_seq ?_ | refine ec_region ?_ | refine ec_block ?_ | refine ec_skip ?_ | refine ec_exit ?_ | refine ec_condT rfl ?_ | refine ec_condF rfl ?_ | refine ec_condTH rfl (by assumption) ?_ | refine ec_condFH rfl (by assumption) ?_)
      | refine ek_seqN ?_ | refine ek_seqX ?_ | refine ek_seqR ?_ | refine ek_blkN ?_ | refine ek_blkR ?_ | refine ek_blkX ?_ | refine ek_blkY rfl ?_)
    exact rnd_out (by rfl) (by simp) (scmp2 (by rfl) (by rfl) (by exact ⟨rfl, rfl, rfl⟩) (by rfl) (by first | rfl | (simp; done) | (simp [ints, prs]; done)) (by rfl) (by first | rfl | (simp; done) | (simp [ints, prs]; done)))

theorem lp135_4 (n b : Nat) (hn : n ≤ 4) (hb : b < 65536) (j : Nat) (hj : j < n) (o : Out) (ho : (if allF (affP b j) 0 (R2 n) = true then (⟨.exit 9, [(2, .ptr 0 0), (5, .int .i64 (R2 n : Nat)), (10, .int .i64 (j : Nat))], [⟨[.int .i64 n, .int .i64 b], 1, 0, some 0, true⟩]⟩ : Out) else ⟨.ret, [(4, .bool false)], []⟩) = o) :
    LpS cx 112 0 m135_4 [(2, .ptr 0 0), (5, .int .i64 (R2 n : Nat)), (10, .int .i64 (j : Nat)), (11, .int .i64 (R2 j : Nat)), (12, .bool (((bt b 0 : Nat) : Int) != (bt b (R2 j) : Nat))), (13, .int .i64 (0 : Nat))] [⟨[.int .i64 n, .int .i64 b], 1, 0, some 0, true⟩] o.x o.e o.h := by
  obtain ⟨h1, h2, h3, h4⟩ := shN hn
  have h5 := R2_le hj
  refine lp_all (R2 n) (affP b j) (fun i => [(2, .ptr 0 0), (5, .int .i64 (R2 n : Nat)), (10, .int .i64 (j : Nat)), (11, .int .i64 (R2 j : Nat)), (12, .bool (((bt b 0 : Nat) : Int) != (bt b (R2 j) : Nat))), (13, .int .i64 (i : Nat))]) (fun i => [⟨[.int .i64 n, .int .i64 b], 1, 0, some 0, true⟩]) _ _ ?_ ?_ ?_ (R2 n) 0 o (by omega) ho
  · intro i hi hp
    have hlt : decide ((i : Int) < (R2 n : Nat)) = true := decide_eq_true (by omega)
    have hp' : ((affP b j) i) = true := hp
    have h6 := xor_lt hi (show R2 j < R2 n by omega)
    have hq : ((((bt b i : Nat) : Int) != (bt b (i ^^^ R2 j) : Nat)) != (((bt b 0 : Nat) : Int) != (bt b (R2 j) : Nat))) = !(affP b j i) := rfl
    rw [hp] at hq
    unfold m135_4
    repeat' (first
      | (refine g_op ?_; first
        | refine ep_mov rfl ?_ | refine sp_loadN rfl rfl rfl rfl rfl ?_
        | refine ep_call0 rfl (by first | exact ev73 _ _ _ (by omega) (by omega)) rfl rfl ?_
        | refine sp_call rfl rfl rfl rfl (by first | exact ev73 _ _ _ (by omega) (by omega)) ⟨rfl, rfl, rfl, rfl⟩ rfl rfl rfl ?_
        | refine ep_bin rfl rfl (by first | exact b_xor (x := i) (by omega) (by omega) | exact b_add (by omega) (by omega) | exact b_sub (by omega) (by omega) | exact b_and (by omega) (by omega) | exact b_or (by omega) (by omega) | exact b_shr (by omega) | exact b_shl (by omega) (by omega) | exact b_lss | exact b_leq | exact b_gtr | exact b_geq | exact b_eql | exact b_neq) ?_
        | refine ep_eqb0 rfl rfl ?_ | refine ep_eqb1 rfl rfl ?_)
      | (refine g_ops ?_; first | refine eo_none ?_ | refine eo_nil ?_)
      | (refine g_dops ?_; first | refine ed_none ?_ | refine ed_nil ?_)
      | refine ed_same rfl ?_ | refine ed_one rfl rfl rfl rfl ?_ | refine ed_two rfl rfl rfl rfl rfl rfl rfl ?_ | refine ed_write rfl rfl ?_
      | (refine g_code ?_; first | refine ec_seq ?_ | refine ec_region ?_ | refine ec_draw ?_ | refine ec_block ?_ | refine ec_skip ?_ | refine ec_exit ?_ | refine ec_ret ?_ | refine ec_condT rfl ?_ | refine ec_condF rfl ?_ | refine ec_condTH rfl (by assumption) ?_ | refine ec_condFH rfl (by assumption) ?_)
      | refine ek_seqN ?_ | refine ek_seqX ?_ | refine ek_seqR ?_ | refine ek_blkN ?_ | refine ek_blkR ?_ | refine ek_blkX ?_ | refine ek_blkY rfl ?_)
    exact rnd_on (by rfl) (scmp2 (by rfl) (by rfl) (by exact ⟨rfl, rfl, rfl⟩) (by rfl) (by first | rfl | (simp; done) | (simp [ints, prs]; done)) (by rfl) (by first | rfl | (simp; done) | (simp [ints, prs]; done)))
  · intro i hi hp
    have hlt : decide ((i : Int) < (R2 n : Nat)) = true := decide_eq_true (by omega)
    have hp' : ((affP b j) i) = false := hp
    have h6 := xor_lt hi (show R2 j < R2 n by omega)
    have hq : ((((bt b i : Nat) : Int) != (bt b (i ^^^ R2 j) : Nat)) != (((bt b 0 : Nat) : Int) != (bt b (R2 j) : Nat))) = !(affP b j i) := rfl
    rw [hp] at hq
    unfold m135_4
    repeat' (first
      | (refine g_op ?_; first
        | refine ep_mov rfl ?_ | refine sp_loadN rfl rfl rfl rfl rfl ?_
        | refine ep_call0 rfl (by first | exact ev73 _ _ _ (by omega) (by omega)) rfl rfl ?_
        | refine sp_call rfl rfl rfl rfl (by first | exact ev73 _ _ _ (by omega) (by omega)) ⟨rfl, rfl, rfl, rfl⟩ rfl rfl rfl ?_
        | refine ep_bin rfl rfl (by first | exact b_xor (x := i) (by omega) (by omega) | exact b_add (by omega) (by omega) | exact b_sub (by omega) (by omega) | exact b_and (by omega) (by omega) | exact b_or (by omega) (by omega) | exact b_shr (by omega) | exact b_shl (by omega) (by omega) | exact b_lss | exact b_leq | exact b_gtr | exact b_geq | exact b_eql | exact b_neq) ?_
        | refine ep_eqb0 rfl rfl ?_ | refine ep_eqb1 rfl rfl ?_)
      | (refine g_ops ?_; first | refine eo_none ?_ | refine eo_nil ?_)
      | (refine g_dops ?_; first | refine ed_none ?_ | refine ed_nil ?_)
      | refine ed_same rfl ?_ | refine ed_one rfl rfl rfl rfl ?_ | refine ed_two rfl rfl rfl rfl rfl rfl rfl ?_ | refine ed_write rfl rfl ?_
      | (refine g_code ?_; first | refine ec_seq ?_ | refine ec_region ?_ | refine ec_draw ?_ | refine ec_block ?_ | refine ec_skip ?_ | refine ec_exit ?_ | refine ec_ret ?_ | refine ec_condT rfl ?_ | refine ec_condF rfl ?_ | refine ec_condTH rfl (by assumption) ?_ | refine ec_condFH rfl (by assumption) ?_)
      | refine ek_seqN ?_ | refine ek_seqX ?_ | refine ek_seqR ?_ | refine ek_blkN ?_ | refine ek_blkR ?_ | refine ek_blkX ?_ | refine ek_blkY rfl ?_)
    exact rnd_out (by rfl) (by simp) (scmp2 (by rfl) (by rfl) (by exact ⟨rfl, rfl, rfl⟩) (by rfl) (by first | rfl | (simp; done) | (simp [ints, prs]; done)) (by rfl) (by first | rfl | (simp; done) | (simp [ints, prs]; done)))
  · have hlt : decide (((R2 n : Nat) : Int) < (R2 n : Nat)) = false := decide_eq_false (by omega)
    unfold m135_4
    repeat' (first
      | (refine g_op ?_; first
        | refine ep_mov rfl ?_ | refine sp_loadN rfl rfl rfl rfl rfl ?_
        | refine ep_call0 rfl (by first | exact ev73 _ _ _ (by omega) (by omega)) rfl rfl ?_
        | refine sp_call rfl rfl rfl rfl (by first | exact ev73 _ _ _ (by omega) (by omega)) ⟨rfl, rfl, rfl, rfl⟩ rfl rfl rfl ?_
        | refine ep_bin rfl rfl (by first | exact b_xor (x := i) (by omega) (by omega) | exact b_add (by omega) (by omega) | exact b_sub (by omega) (by omega) | exact b_and (by omega) (by omega) | exact b_or (by omega) (by omega) | exact b_shr (by omega) | exact b_shl (by omega) (by omega) | exact b_lss | exact b_leq | exact b_gtr | exact b_geq | exact b_eql | exact b_neq) ?_
        | refine ep_eqb0 rfl rfl ?_ | refine ep_eqb1 rfl rfl ?_)
      | (refine g_ops ?_; first | refine eo_none ?_ | refine eo_nil ?_)
      | (refine g_dops ?_; first | refine ed_none ?_ | refine ed_nil ?_)
      | refine ed_same rfl ?_ | refine ed_one rfl rfl rfl rfl ?_ | refine ed_two rfl rfl rfl rfl rfl rfl rfl ?_ | refine ed_write rfl rfl ?_
      | (refine g_code ?_; first | refine ec_seq ?_ | refine ec_region ?_ | refine ec_draw ?_ | refine ec_block ?_ | refine ec_skip ?_ | refine ec_exit ?_ | refine ec_ret ?_ | refine ec_condT rfl ?_ | refine ec_condF rfl ?_ | refine ec_condTH rfl (by assumption) ?_ | refine ec_condFH rfl (by assumption) ?_)
      | refine ek_seqN ?_ | refine ek_seqX ?_ | refine ek_seqR ?_ | refine ek_blkN ?_ | refine ek_blkR ?_ | refine ek_blkX ?_ | refine ek_blkY rfl ?_)
    exact rnd_out (by rfl) (by simp) (scmp2 (by rfl) (by rfl) (by exact ⟨rfl, rfl, rfl⟩) (by rfl) (by first | rfl | (simp; done) | (simp [ints, prs]; done)) (by rfl) (by first | rfl | (simp; done) | (simp [ints, prs]; done)))

theorem lp135_3 (n b : Nat) (hn : n ≤ 4) (hb : b < 65536) (o : Out) (ho : (if allF (fun j => allF (affP b j) 0 (R2 n)) 0 (n) = true then (⟨.exit 7, [], []⟩ : Out) else ⟨.ret, [(4, .bool false)], []⟩) = o) :
    LpS cx 112 0 m135_3 [(2, .ptr 0 0), (5, .int .i64 (R2 n : Nat)), (10, .int .i64 (0 : Nat))] [⟨[.int .i64 n, .int .i64 b], 1, 0, some 0, true⟩] o.x o.e o.h := by
  obtain ⟨h1, h2, h3, h4⟩ := shN hn
  refine lp_all (n) (fun j => allF (affP b j) 0 (R2 n)) (fun i => [(2, .ptr 0 0), (5, .int .i64 (R2 n : Nat)), (10, .int .i64 (i : Nat))]) (fun i => [⟨[.int .i64 n, .int .i64 b], 1, 0, some 0, true⟩]) _ _ ?_ ?_ ?_ (n) 0 o (by omega) ho
  · intro i hi hp
    have hlt : decide ((i : Int) < (n : Nat)) = true := decide_eq_true (by omega)
    have hp' : (allF (affP b i) 0 (R2 n)) = true := hp
    have h5 := R2_le hi
    have e0 := ev73 n b 0 (by omega) (by omega)
    have lp := lp135_4 n b hn hb i hi _ (if_pos hp)
    unfold m135_3
    repeat' (first
      | refine sc_loop lp rfl rfl ⟨rfl, rfl, rfl⟩ rfl rfl rfl ?_
      | (refine g_op ?_; first
        | refine ep_mov rfl ?_ | refine ep_load1 rfl rfl rfl rfl ?_ | refine ep_fieldAddr rfl ?_ | refine sp_loadN rfl rfl rfl rfl rfl ?_
        | refine ep_call0 rfl (by first | exact e0 | exact ev73 _ _ _ (by omega) (by omega)) rfl rfl ?_
        | refine sp_call rfl rfl rfl rfl (by first | exact e0 | exact ev73 _ _ _ (by omega) (by omega)) ⟨rfl, rfl, rfl, rfl⟩ rfl rfl rfl ?_
        | refine ep_bin rfl rfl (by first | exact b_shl1 (by omega) (by omega) | exact b_add (by omega) (by omega) | exact b_sub (by omega) (by omega) | exact b_and (by omega) (by omega) | exact b_or (by omega) (by omega) | exact b_shr (by omega) | exact b_shl (by omega) (by omega) | exact b_lss | exact b_leq | exact b_gtr | exact b_geq | exact b_eql | exact b_neq) ?_
        | refine ep_conv rfl (by first | exact w_u64 (by omega) (by omega) | exact wrap_id (by omega) (by omega) | rfl) ?_)
      | (refine g_ops ?_; first | refine eo_none ?_ | refine eo_nil ?_)
      | (refine g_dops ?_; first | refine ed_none ?_ | refine ed_nil ?_)
      | refine ed_same rfl ?_ | refine ed_one rfl rfl rfl rfl ?_ | refine ed_two rfl rfl rfl rfl rfl rfl rfl ?_ | refine ed_write rfl rfl ?_
      | (refine g_code ?_; first | refine ec_seq ?_ | refine ec_region ?_ | refine ec_draw ?_ | refine ec_block ?_ | refine ec_skip ?_ | refine ec_exit ?_ | refine ec_condT rfl ?_ | refine ec_condF rfl ?_ | refine ec_condTH rfl (by assumption) ?_ | refine ec_condFH rfl (by assumption) ?_)
      | refine ek_seqN ?_ | refine ek_seqX ?_ | refine ek_seqR ?_ | refine ek_blkN ?_ | refine ek_blkR ?_ | refine ek_blkX ?_ | refine ek_blkY rfl ?_)
    exact rnd_on (by rfl) (scmp2 (by rfl) (by rfl) (by exact ⟨rfl, rfl, rfl⟩) (by rfl) (by first | rfl | (simp; done) | (simp [ints, prs]; done)) (by rfl) (by first | rfl | (simp; done) | (simp [ints, prs]; done)))
  · intro i hi hp
    have hlt : decide ((i : Int) < (n : Nat)) = true := decide_eq_true (by omega)
    have hp' : (allF (affP b i) 0 (R2 n)) = false := hp
    have h5 := R2_le hi
    have e0 := ev73 n b 0 (by omega) (by omega)
    have lp := lp135_4 n b hn hb i hi _ (if_neg (by rw [hp']; simp))
    unfold m135_3
    repeat' (first
      | refine sc_loop lp rfl rfl ⟨rfl, rfl, rfl⟩ rfl rfl rfl ?_
      | (refine g_op ?_; first
        | refine ep_mov rfl ?_ | refine ep_load1 rfl rfl rfl rfl ?_ | refine ep_fieldAddr rfl ?_ | refine sp_loadN rfl rfl rfl rfl rfl ?_
        | refine ep_call0 rfl (by first | exact e0 | exact ev73 _ _ _ (by omega) (by omega)) rfl rfl ?_
        | refine sp_call rfl rfl rfl rfl (by first | exact e0 | exact ev73 _ _ _ (by omega) (by omega)) ⟨rfl, rfl, rfl, rfl⟩ rfl rfl rfl ?_
        | refine ep_bin rfl rfl (by first | exact b_shl1 (by omega) (by omega) | exact b_add (by omega) (by omega) | exact b_sub (by omega) (by omega) | exact b_and (by omega) (by omega) | exact b_or (by omega) (by omega) | exact b_shr (by omega) | exact b_shl (by omega) (by omega) | exact b_lss | exact b_leq | exact b_gtr | exact b_geq | exact b_eql | exact b_neq) ?_
        | refine ep_conv rfl (by first | exact w_u64 (by omega) (by omega) | exact wrap_id (by omega) (by omega) | rfl) ?_)
      | (refine g_ops ?_; first | refine eo_none ?_ | refine eo_nil ?_)
      | (refine g_dops ?_; first | refine ed_none ?_ | refine ed_nil ?_)
      | refine ed_same rfl ?_ | refine ed_one rfl rfl rfl rfl ?_ | refine ed_two rfl rfl rfl rfl rfl rfl rfl ?_ | refine ed_write rfl rfl ?_
      | (refine g_code ?_; first | refine ec_seq ?_ | refine ec_region ?_ | refine ec_draw ?_ | refine ec_block ?_ | refine ec_skip ?_ | refine ec_exit ?_ | refine ec_condT rfl ?_ | refine ec_condF rfl ?_ | refine ec_condTH rfl (by assumption) ?_ | refine ec_condFH rfl (by assumption) ?_)
      | refine ek_seqN ?_ | refine ek_seqX ?_ | refine ek_seqR ?_ | refine ek_blkN ?_ | refine ek_blkR ?_ | refine ek_blkX ?_ | refine ek_blkY rfl ?_)
    exact rnd_out (by rfl) (by simp) (scmp2 (by rfl) (by rfl) (by exact ⟨rfl, rfl, rfl⟩) (by rfl) (by first | rfl | (simp; done) | (simp [ints, prs]; done)) (by rfl) (by first | rfl | (simp; done) | (simp [ints, prs]; done)))
  · have hlt : decide (((n : Nat) : Int) < (n : Nat)) = false := decide_eq_false (by omega)
    unfold m135_3
    repeat' (first
      | (refine g_op ?_; first
        | refine ep_mov rfl ?_ | refine ep_load1 rfl rfl rfl rfl ?_ | refine ep_fieldAddr rfl ?_ | refine sp_loadN rfl rfl rfl rfl rfl ?_
        | refine ep_bin rfl rfl (by first | exact b_add (by omega) (by omega) | exact b_sub (by omega) (by omega) | exact b_and (by omega) (by omega) | exact b_or (by omega) (by omega) | exact b_shr (by omega) | exact b_shl (by omega) (by omega) | exact b_lss | exact b_leq | exact b_gtr | exact b_geq | exact b_eql | exact b_neq) ?_
        | refine ep_conv rfl (by first | exact w_u64 (by omega) (by omega) | exact wrap_id (by omega) (by omega) | rfl) ?_)
      | (refine g_ops ?_; first | refine eo_none ?_ | refine eo_nil ?_)
      | (refine g_dops ?_; first | refine ed_none ?_ | refine ed_nil ?_)
      | refine ed_same rfl ?_ | refine ed_one rfl rfl rfl rfl ?_ | refine ed_two rfl rfl rfl rfl rfl rfl rfl ?_ | refine ed_write rfl rfl ?_
      | (refine g_code ?_; first | refine ec_seq ?_ | refine ec_region ?_ | refine ec_draw ?_ | refine ec_block ?_ | refine ec_skip ?_ | refine ec_exit ?_ | refine ec_condT rfl ?_ | refine ec_condF rfl ?_ | refine ec_condTH rfl (by assumption) ?_ | refine ec_condFH rfl (by assumption) ?_)
      | refine ek_seqN ?_ | refine ek_seqX ?_ | refine ek_seqR ?_ | refine ek_blkN ?_ | refine ek_blkR ?_ | refine ek_blkX ?_ | refine ek_blkY rfl ?_)
    exact rnd_out (by rfl) (by simp) (scmp2 (by rfl) (by rfl) (by exact ⟨rfl, rfl, rfl⟩) (by rfl) (by first | rfl | (simp; done) | (simp [ints, prs]; done)) (by rfl) (by first | rfl | (simp; done) | (simp [ints, prs]; done)))

theorem ev135 (n b : Nat) (hn : n ≤ 4) (hb : b < 65536) (hb2 : b < R2 (R2 n)) (c : Nat) (hc : c < 5) : Ev cx 135 [.agg [.int .i64 n, .int .i64 b], .int .i64 c] [] (.bool (inC n b c)) [] := by
  obtain ⟨h1, h2, h3, h4⟩ := shN hn
  have e0 := ev73 n b 0 (by omega) (by omega)
  have e1 := ev73 n b (R2 n - 1) (by omega) (by omega)
  have s1 := b_sub1 (a := R2 n) (by omega) (by omega)
  rcases (show c = 0 ∨ c = 1 ∨ c = 2 ∨ c = 3 ∨ c = 4 by omega) with rfl | rfl | rfl | rfl | rfl
  · have q0 : ((((0 : Nat) : Int)) == 0) = true := by decide
    have hq := ieq0 (bt b 0)
    refine has135.eev rfl rfl ?_
    unfold m135
    repeat' (first
      | (refine g_op ?_; first
        | refine ep_mov rfl ?_ | refine ep_load1 rfl rfl rfl rfl ?_ | refine ep_fieldAddr rfl ?_ | refine sp_loadN rfl rfl rfl rfl rfl ?_
        | refine ep_call0 rfl (by first | exact e0 | exact ev74 _ hn) rfl rfl ?_
        | refine sp_call rfl rfl rfl rfl (by first | exact e0 | exact ev74 _ hn) ⟨rfl, rfl, rfl, rfl⟩ rfl rfl rfl ?_
        | refine ep_bin rfl rfl (by first | exact s1 | exact b_add (by omega) (by omega) | exact b_sub (by omega) (by omega) | exact b_and (by omega) (by omega) | exact b_or (by omega) (by omega) | exact b_shr (by omega) | exact b_shl (by omega) (by omega) | exact b_lss | exact b_leq | exact b_gtr | exact b_geq | exact b_eql | exact b_neq) ?_
        | refine sp_box rfl rfl rfl rfl rfl ?_)
      | (refine g_ops ?_; first | refine eo_none ?_ | refine eo_nil ?_)
      | (refine g_code ?_; first | refine ec_seq ?_ | refine ec_region ?_ | refine ec_block ?_ | refine ec_skip ?_ | refine ec_ret ?_ | refine ec_condT rfl ?_ | refine ec_condF rfl ?_ | refine ec_condTH rfl (by assumption) ?_ | refine ec_condFH rfl (by assumption) ?_)
      | refine ek_seqN ?_ | refine ek_seqX ?_ | refine ek_seqR ?_ | refine ek_blkN ?_ | refine ek_blkR ?_ | refine ek_blkX ?_ | refine ek_blkY rfl ?_)
    refine sfin (.inr rfl) (by rfl) (by rfl) (by exact ⟨rfl, rfl, rfl⟩) (by rfl) (by rfl) (by first | rfl | exact congrArg V.bool hq) (by first | rfl | (simp; done) | (simp [ints, prs]; done))
  · have q0 : ((((1 : Nat) : Int)) == 0) = false := by decide
    have q1 : ((((1 : Nat) : Int)) == 1) = true := by decide
    have hq := ieq1 (bt b (R2 n - 1))
    refine has135.eev rfl rfl ?_
    unfold m135
    repeat' (first
      | (refine g_op ?_; first
        | refine ep_mov rfl ?_ | refine ep_load1 rfl rfl rfl rfl ?_ | refine ep_fieldAddr rfl ?_ | refine sp_loadN rfl rfl rfl rfl rfl ?_
        | refine ep_call0 rfl (by first | exact e1 | exact ev74 _ hn) rfl rfl ?_
        | refine sp_call rfl rfl rfl rfl (by first | exact e1 | exact ev74 _ hn) ⟨rfl, rfl, rfl, rfl⟩ rfl rfl rfl ?_
        | refine ep_bin rfl rfl (by first | exact s1 | exact b_add (by omega) (by omega) | exact b_sub (by omega) (by omega) | exact b_and (by omega) (by omega) | exact b_or (by omega) (by omega) | exact b_shr (by omega) | exact b_shl (by omega) (by omega) | exact b_lss | exact b_leq | exact b_gtr | exact b_geq | exact b_eql | exact b_neq) ?_
        | refine sp_box rfl rfl rfl rfl rfl ?_)
      | (refine g_ops ?_; first | refine eo_none ?_ | refine eo_nil ?_)
      | (refine g_code ?_; first | refine ec_seq ?_ | refine ec_region ?_ | refine ec_block ?_ | refine ec_skip ?_ | refine ec_ret ?_ | refine ec_condT rfl ?_ | refine ec_condF rfl ?_ | refine ec_condTH rfl (by assumption) ?_ | refine ec_condFH rfl (by assumption) ?_)
      | refine ek_seqN ?_ | refine ek_seqX ?_ | refine ek_seqR ?_ | refine ek_blkN ?_ | refine ek_blkR ?_ | refine ek_blkX ?_ | refine ek_blkY rfl ?_)
    refine sfin (.inr rfl) (by rfl) (by rfl) (by exact ⟨rfl, rfl, rfl⟩) (by rfl) (by rfl) (by first | rfl | exact congrArg V.bool hq) (by first | rfl | (simp; done) | (simp [ints, prs]; done))
  · have q0 : ((((2 : Nat) : Int)) == 0) = false := by decide
    have q1 : ((((2 : Nat) : Int)) == 1) = false := by decide
    have q2 : ((((2 : Nat) : Int)) == 2) = true := by decide
    rw [show inC n b 2 = dualB n b from rfl]
    cases h : dualB n b
    · have lp := lp135_0 n b hn hb _ (if_neg (by rw [show allF (fun r => bt b r != bt b (R2 n - 1 - r)) 0 (R2 n) = _ from h]; simp))
      refine has135.eev rfl rfl ?_
      unfold m135
      repeat' (first
        | refine sc_loop lp rfl rfl ⟨rfl, rfl, rfl⟩ rfl rfl rfl ?_
        | (refine g_op ?_; first
          | refine ep_mov rfl ?_ | refine ep_load1 rfl rfl rfl rfl ?_ | refine ep_fieldAddr rfl ?_ | refine sp_loadN rfl rfl rfl rfl rfl ?_
          | refine ep_call0 rfl (by first | exact ev74 _ hn) rfl rfl ?_
          | refine sp_call rfl rfl rfl rfl (by first | exact ev74 _ hn) ⟨rfl, rfl, rfl, rfl⟩ rfl rfl rfl ?_
          | refine ep_bin rfl rfl (by first | exact s1 | exact b_add (by omega) (by omega) | exact b_sub (by omega) (by omega) | exact b_and (by omega) (by omega) | exact b_or (by omega) (by omega) | exact b_shr (by omega) | exact b_shl (by omega) (by omega) | exact b_lss | exact b_leq | exact b_gtr | exact b_geq | exact b_eql | exact b_neq) ?_
          | refine sp_box rfl rfl rfl rfl rfl ?_)
        | (refine g_ops ?_; first | refine eo_none ?_ | refine eo_nil ?_)
        | (refine g_code ?_; first | refine ec_seq ?_ | refine ec_region ?_ | refine ec_block ?_ | refine ec_skip ?_ | refine ec_ret ?_ | refine ec_condT rfl ?_ | refine ec_condF rfl ?_ | refine ec_condTH rfl (by assumption) ?_ | refine ec_condFH rfl (by assumption) ?_)
        | refine ek_seqN ?_ | refine ek_seqX ?_ | refine ek_seqR ?_ | refine ek_blkN ?_ | refine ek_blkR ?_ | refine ek_blkX ?_ | refine ek_blkY rfl ?_)
      refine sfin (.inr rfl) (by rfl) (by rfl) (by exact ⟨rfl, rfl, rfl⟩) (by rfl) (by rfl) (by rfl) (by first | rfl | (simp; done) | (simp [ints, prs]; done))
    · have lp := lp135_0 n b hn hb _ (if_pos h)
      refine has135.eev rfl rfl ?_
      unfold m135
      repeat' (first
        | refine sc_loop lp rfl rfl ⟨rfl, rfl, rfl⟩ rfl rfl rfl ?_
        | (refine g_op ?_; first
          | refine ep_mov rfl ?_ | refine ep_load1 rfl rfl rfl rfl ?_ | refine ep_fieldAddr rfl ?_ | refine sp_loadN rfl rfl rfl rfl rfl ?_
          | refine ep_call0 rfl (by first | exact ev74 _ hn) rfl rfl ?_
          | refine sp_call rfl rfl rfl rfl (by first | exact ev74 _ hn) ⟨rfl, rfl, rfl, rfl⟩ rfl rfl rfl ?_
          | refine ep_bin rfl rfl (by first | exact s1 | exact b_add (by omega) (by omega) | exact b_sub (by omega) (by omega) | exact b_and (by omega) (by omega) | exact b_or (by omega) (by omega) | exact b_shr (by omega) | exact b_shl (by omega) (by omega) | exact b_lss | exact b_leq | exact b_gtr | exact b_geq | exact b_eql | exact b_neq) ?_
          | refine sp_box rfl rfl rfl rfl rfl ?_)
        | (refine g_ops ?_; first | refine eo_none ?_ | refine eo_nil ?_)
        | (refine g_code ?_; first | refine ec_seq ?_ | refine ec_region ?_ | refine ec_block ?_ | refine ec_skip ?_ | refine ec_ret ?_ | refine ec_condT rfl ?_ | refine ec_condF rfl ?_ | refine ec_condTH rfl (by assumption) ?_ | refine ec_condFH rfl (by assumption) ?_)
        | refine ek_seqN ?_ | refine ek_seqX ?_ | refine ek_seqR ?_ | refine ek_blkN ?_ | refine ek_blkR ?_ | refine ek_blkX ?_ | refine ek_blkY rfl ?_)
      refine sfin (.inr rfl) (by rfl) (by rfl) (by exact ⟨rfl, rfl, rfl⟩) (by rfl) (by rfl) (by rfl) (by first | rfl | (simp; done) | (simp [ints, prs]; done))
  · have q0 : ((((3 : Nat) : Int)) == 0) = false := by decide
    have q1 : ((((3 : Nat) : Int)) == 1) = false := by decide
    have q2 : ((((3 : Nat) : Int)) == 2) = false := by decide
    have q3 : ((((3 : Nat) : Int)) == 3) = true := by decide
    rw [show inC n b 3 = monoB n b from rfl]
    cases h : monoB n b
    · have lp := lp135_1 n b hn hb _ (if_neg (by rw [show allF (fun r => allF (monoP b r) 0 n) 0 (R2 n) = _ from h]; simp))
      refine has135.eev rfl rfl ?_
      unfold m135
      repeat' (first
        | refine sc_loop lp rfl rfl ⟨rfl, rfl, rfl⟩ rfl rfl rfl ?_
        | (refine g_op ?_; first
          | refine ep_mov rfl ?_ | refine ep_load1 rfl rfl rfl rfl ?_ | refine ep_fieldAddr rfl ?_ | refine sp_loadN rfl rfl rfl rfl rfl ?_
          | refine ep_call0 rfl (by first | exact ev74 _ hn) rfl rfl ?_
          | refine sp_call rfl rfl rfl rfl (by first | exact ev74 _ hn) ⟨rfl, rfl, rfl, rfl⟩ rfl rfl rfl ?_
          | refine ep_bin rfl rfl (by first | exact s1 | exact b_add (by omega) (by omega) | exact b_sub (by omega) (by omega) | exact b_and (by omega) (by omega) | exact b_or (by omega) (by omega) | exact b_shr (by omega) | exact b_shl (by omega) (by omega) | exact b_lss | exact b_leq | exact b_gtr | exact b_geq | exact b_eql | exact b_neq) ?_
          | refine sp_box rfl rfl rfl rfl rfl ?_)
        | (refine g_ops ?_; first | refine eo_none ?_ | refine eo_nil ?_)
        | (refine g_code ?_; first | refine ec_seq ?_ | refine ec_region ?_ | refine ec_block ?_ | refine ec_skip ?_ | refine ec_ret ?_ | refine ec_condT rfl ?_ | refine ec_condF rfl ?_ | refine ec_condTH rfl (by assumption) ?_ | refine ec_condFH rfl (by assumption) ?_)
        | refine ek_seqN ?_ | refine ek_seqX ?_ | refine ek_seqR ?_ | refine ek_blkN ?_ | refine ek_blkR ?_ | refine ek_blkX ?_ | refine ek_blkY rfl ?_)
      refine sfin (.inr rfl) (by rfl) (by rfl) (by exact ⟨rfl, rfl, rfl⟩) (by rfl) (by rfl) (by rfl) (by first | rfl | (simp; done) | (simp [ints, prs]; done))
    · have lp := lp135_1 n b hn hb _ (if_pos h)
      refine has135.eev rfl rfl ?_
      unfold m135
      repeat' (first
        | refine sc_loop lp rfl rfl ⟨rfl, rfl, rfl⟩ rfl rfl rfl ?_
        | (refine g_op ?_; first
          | refine ep_mov rfl ?_ | refine ep_load1 rfl rfl rfl rfl ?_ | refine ep_fieldAddr rfl ?_ | refine sp_loadN rfl rfl rfl rfl rfl ?_
          | refine ep_call0 rfl (by first | exact ev74 _ hn) rfl rfl ?_
          | refine sp_call rfl rfl rfl rfl (by first | exact ev74 _ hn) ⟨rfl, rfl, rfl, rfl⟩ rfl rfl rfl ?_
          | refine ep_bin rfl rfl (by first | exact s1 | exact b_add (by omega) (by omega) | exact b_sub (by omega) (by omega) | exact b_and (by omega) (by omega) | exact b_or (by omega) (by omega) | exact b_shr (by omega) | exact b_shl (by omega) (by omega) | exact b_lss | exact b_leq | exact b_gtr | exact b_geq | exact b_eql | exact b_neq) ?_
          | refine sp_box rfl rfl rfl rfl rfl ?_)
        | (refine g_ops ?_; first | refine eo_none ?_ | refine eo_nil ?_)
        | (refine g_code ?_; first | refine ec_seq ?_ | refine ec_region ?_ | refine ec_block ?_ | refine ec_skip ?_ | refine ec_ret ?_ | refine ec_condT rfl ?_ | refine ec_condF rfl ?_ | refine ec_condTH rfl (by assumption) ?_ | refine ec_condFH rfl (by assumption) ?_)
        | refine ek_seqN ?_ | refine ek_seqX ?_ | refine ek_seqR ?_ | refine ek_blkN ?_ | refine ek_blkR ?_ | refine ek_blkX ?_ | refine ek_blkY rfl ?_)
      refine sfin (.inr rfl) (by rfl) (by rfl) (by exact ⟨rfl, rfl, rfl⟩) (by rfl) (by rfl) (by rfl) (by first | rfl | (simp; done) | (simp [ints, prs]; done))
  · have q0 : ((((4 : Nat) : Int)) == 0) = false := by decide
    have q1 : ((((4 : Nat) : Int)) == 1) = false := by decide
    have q2 : ((((4 : Nat) : Int)) == 2) = false := by decide
    have q3 : ((((4 : Nat) : Int)) == 3) = false := by decide
    rw [show inC n b 4 = affB n b from rfl]
    cases h : affB n b
    · have lp := lp135_3 n b hn hb _ (if_neg (by rw [show allF (fun j => allF (affP b j) 0 (R2 n)) 0 n = _ from h]; simp))
      refine has135.eev rfl rfl ?_
      unfold m135
      repeat' (first
        | refine sc_loop lp rfl rfl ⟨rfl, rfl, rfl⟩ rfl rfl rfl ?_
        | (refine g_op ?_; first
          | refine ep_mov rfl ?_ | refine ep_load1 rfl rfl rfl rfl ?_ | refine ep_fieldAddr rfl ?_ | refine sp_loadN rfl rfl rfl rfl rfl ?_
          | refine ep_call0 rfl (by first | exact ev74 _ hn) rfl rfl ?_
          | refine sp_call rfl rfl rfl rfl (by first | exact ev74 _ hn) ⟨rfl, rfl, rfl, rfl⟩ rfl rfl rfl ?_
          | refine ep_bin rfl rfl (by first | exact s1 | exact b_add (by omega) (by omega) | exact b_sub (by omega) (by omega) | exact b_and (by omega) (by omega) | exact b_or (by omega) (by omega) | exact b_shr (by omega) | exact b_shl (by omega) (by omega) | exact b_lss | exact b_leq | exact b_gtr | exact b_geq | exact b_eql | exact b_neq) ?_
          | refine sp_box rfl rfl rfl rfl rfl ?_)
        | (refine g_ops ?_; first | refine eo_none ?_ | refine eo_nil ?_)
        | (refine g_code ?_; first | refine ec_seq ?_ | refine ec_region ?_ | refine ec_block ?_ | refine ec_skip ?_ | refine ec_ret ?_ | refine ec_condT rfl ?_ | refine ec_condF rfl ?_ | refine ec_condTH rfl (by assumption) ?_ | refine ec_condFH rfl (by assumption) ?_)
        | refine ek_seqN ?_ | refine ek_seqX ?_ | refine ek_seqR ?_ | refine ek_blkN ?_ | refine ek_blkR ?_ | refine ek_blkX ?_ | refine ek_blkY rfl ?_)
      refine sfin (.inr rfl) (by rfl) (by rfl) (by exact ⟨rfl, rfl, rfl⟩) (by rfl) (by rfl) (by rfl) (by first | rfl | (simp; done) | (simp [ints, prs]; done))
    · have lp := lp135_3 n b hn hb _ (if_pos h)
      refine has135.eev rfl rfl ?_
      unfold m135
      repeat' (first
        | refine sc_loop lp rfl rfl ⟨rfl, rfl, rfl⟩ rfl rfl rfl ?_
        | (refine g_op ?_; first
          | refine ep_mov rfl ?_ | refine ep_load1 rfl rfl rfl rfl ?_ | refine ep_fieldAddr rfl ?_ | refine sp_loadN rfl rfl rfl rfl rfl ?_
          | refine ep_call0 rfl (by first | exact ev74 _ hn) rfl rfl ?_
          | refine sp_call rfl rfl rfl rfl (by first | exact ev74 _ hn) ⟨rfl, rfl, rfl, rfl⟩ rfl rfl rfl ?_
          | refine ep_bin rfl rfl (by first | exact s1 | exact b_add (by omega) (by omega) | exact b_sub (by omega) (by omega) | exact b_and (by omega) (by omega) | exact b_or (by omega) (by omega) | exact b_shr (by omega) | exact b_shl (by omega) (by omega) | exact b_lss | exact b_leq | exact b_gtr | exact b_geq | exact b_eql | exact b_neq) ?_
          | refine sp_box rfl rfl rfl rfl rfl ?_)
        | (refine g_ops ?_; first | refine eo_none ?_ | refine eo_nil ?_)
        | (refine g_code ?_; first | refine ec_seq ?_ | refine ec_region ?_ | refine ec_block ?_ | refine ec_skip ?_ | refine ec_ret ?_ | refine ec_condT rfl ?_ | refine ec_condF rfl ?_ | refine ec_condTH rfl (by assumption) ?_ | refine ec_condFH rfl (by assumption) ?_)
        | refine ek_seqN ?_ | refine ek_seqX ?_ | refine ek_seqR ?_ | refine ek_blkN ?_ | refine ek_blkR ?_ | refine ek_blkX ?_ | refine ek_blkY rfl ?_)
      refine sfin (.inr rfl) (by rfl) (by rfl) (by exact ⟨rfl, rfl, rfl⟩) (by rfl) (by rfl) (by rfl) (by first | rfl | (simp; done) | (simp [ints, prs]; done))

-- (impl.Func).dual$1
def m180 : MC := (.seq (.region [⟨(.mov (.k (.int .i64 0))), (some 3), none⟩] false) (.seq (.region [⟨(.load (some 2) (.t 1)), (some 4), none⟩, ⟨(.load (some 2) (.t 1)), (some 5), none⟩, ⟨(.call 117 [(.t 5)]), (some 6), none⟩, ⟨(.bin .sub (.t 6) (.k (.int .i64 1))), (some 7), none⟩, ⟨(.mov (.t 0)), (some 8), none⟩, ⟨(.bin .sub (.t 7) (.t 8)), (some 9), none⟩, ⟨(.call 69 [(.t 4), (.t 9)]), (some 10), none⟩, ⟨(.bin .sub (.k (.int .i64 1)) (.t 10)), (some 11), none⟩, ⟨(.mov (.t 11)), (some 3), none⟩] true) .ret))
theorem has180 : Has cx 180 12 m180 [(.tmp 3)] :=
  ⟨⟨Try.f180, Try.f180.body.getD .skip, by kernel_rfl, by kernel_rfl, by kernel_rfl, by kernel_rfl, by kernel_rfl, by kernel_rfl⟩⟩
theorem ev180 (n b r : Nat) (hn : n ≤ 4) (hb : b < 65536) (hr : r < R2 n) : Ev cx 180 [.int .i64 r, .ptr 0 0] [⟨[.int .i64 n, .int .i64 b], 1, 0, some 0, true⟩] (.int .i64 (dualG n b r : Nat)) [⟨[.int .i64 n, .int .i64 b], 1, 0, some 0, true⟩] := by
  obtain ⟨h1, h2, h3, h4⟩ := shN hn
  have s1 := b_sub1 (a := R2 n) (by omega) (by omega)
  have s2 := b_subN (a := R2 n - 1) (b := r) (by omega) (by omega)
  have hle := bt_le b (R2 n - 1 - r)
  have s3 : binV .sub (.int .i64 1) (.int .i64 (bt b (R2 n - 1 - r) : Nat)) = some (.int .i64 (1 - bt b (R2 n - 1 - r) : Nat)) := b_subN (a := 1) hle (by omega)
  refine has180.eev rfl rfl ?_
  unfold m180
  repeat' (first
    | (refine g_op ?_; first
      | refine ep_mov rfl ?_ | refine sp_loadN rfl rfl rfl rfl rfl ?_
      | refine ep_call0 rfl (by first | exact ev117 _ _ hn | exact ev69 n b (R2 n - 1 - r) (by omega) (by omega)) rfl rfl ?_
      | refine sp_call rfl rfl rfl rfl (by first | exact ev117 _ _ hn | exact ev69 n b (R2 n - 1 - r) (by omega) (by omega)) ⟨rfl, rfl, rfl, rfl⟩ rfl rfl rfl ?_
      | refine ep_bin rfl rfl (by first | exact s1 | exact s2 | exact s3 | exact b_add (by omega) (by omega) | exact b_sub (by omega) (by omega) | exact b_and (by omega) (by omega) | exact b_or (by omega) (by omega) | exact b_shr (by omega) | exact b_shl (by omega) (by omega) | exact b_lss | exact b_leq | exact b_gtr | exact b_geq | exact b_eql | exact b_neq) ?_)
    | (refine g_ops ?_; first | refine eo_none ?_ | refine eo_nil ?_)
    | (refine g_dops ?_; first | refine ed_none ?_ | refine ed_nil ?_)
    | refine ed_same rfl ?_ | refine ed_one rfl rfl rfl rfl ?_ | refine ed_two rfl rfl rfl rfl rfl rfl rfl ?_ | refine ed_write rfl rfl ?_
    | (refine g_code ?_; first | refine ec_seq ?_ | refine ec_region ?_ | refine ec_draw ?_ | refine ec_ret ?_)
    | refine ek_seqN ?_ | refine ek_seqR ?_)
  refine sfin (.inr rfl) (by rfl) (by rfl) (by exact ⟨rfl, rfl, rfl⟩) (by rfl) (by rfl) (by rfl) (by first | rfl | (simp; done) | (simp [ints, prs]; done))
-- (impl.Func).dual
def m169 : MC := (.seq (.region [⟨(.box (.t 0)), (some 1), none⟩, ⟨(.alloc [(.int .i64 0), (.int .i64 0)]), (some 2), none⟩] false) (.seq (.region [⟨(.fieldAddr 0 (.t 1)), (some 3), none⟩, ⟨(.load none (.t 3)), (some 4), none⟩, ⟨(.mkfn 180 [(.t 1)]), (some 5), none⟩, ⟨(.call 172 [(.t 4), (.t 5)]), (some 6), none⟩, ⟨(.store 2 (.t 2) (.t 6)), none, none⟩] false) .ret))
theorem has169 : Has cx 169 7 m169 [(.cell 2 (some 2))] :=
  ⟨⟨Try.f169, Try.f169.body.getD .skip, by kernel_rfl, by kernel_rfl, by kernel_rfl, by kernel_rfl, by kernel_rfl, by kernel_rfl⟩⟩
theorem lpfb_dual (n b : Nat) (hn : n ≤ 4) (hb : b < 65536) :
    LpS cx 25 1 m172_0 [(1, .fn 180 [.ptr 0 0]), (4, .ptr 1 0), (5, .ptr 2 0), (10, .int .i64 (R2 (n) : Nat)), (11, .int .i64 (0 : Nat))] [⟨[.int .i64 n, .int .i64 b], 1, 0, some 0, true⟩, ⟨[.int .i64 0, .int .i64 0], 1, 1, some 0, true⟩, ⟨[.int .i64 (n : Nat), .int .i64 (pk (dualG n b) (0) : Nat)], 1, 2, some 0, true⟩] (⟨.exit 0, [(4, .ptr 1 0), (5, .ptr 2 0)], [⟨[.int .i64 n, .int .i64 b], 1, 0, some 0, true⟩, ⟨[.int .i64 0, .int .i64 0], 1, 1, some 0, true⟩, ⟨[.int .i64 (n : Nat), .int .i64 (pk (dualG n b) (R2 (n)) : Nat)], 1, 2, some 0, true⟩]⟩ : Out).x (⟨.exit 0, [(4, .ptr 1 0), (5, .ptr 2 0)], [⟨[.int .i64 n, .int .i64 b], 1, 0, some 0, true⟩, ⟨[.int .i64 0, .int .i64 0], 1, 1, some 0, true⟩, ⟨[.int .i64 (n : Nat), .int .i64 (pk (dualG n b) (R2 (n)) : Nat)], 1, 2, some 0, true⟩]⟩ : Out).e (⟨.exit 0, [(4, .ptr 1 0), (5, .ptr 2 0)], [⟨[.int .i64 n, .int .i64 b], 1, 0, some 0, true⟩, ⟨[.int .i64 0, .int .i64 0], 1, 1, some 0, true⟩, ⟨[.int .i64 (n : Nat), .int .i64 (pk (dualG n b) (R2 (n)) : Nat)], 1, 2, some 0, true⟩]⟩ : Out).h := by
  obtain ⟨h1, h2, h3, h4⟩ := shN hn
  have hgl : ∀ r, r < R2 (n) → (dualG n b) r ≤ 1 := fun r _ => by simp only [dualG]; omega
  refine lp_st (R2 (n)) (fun _ => ()) (fun i _ => [(1, .fn 180 [.ptr 0 0]), (4, .ptr 1 0), (5, .ptr 2 0), (10, .int .i64 (R2 (n) : Nat)), (11, .int .i64 (i : Nat))]) (fun i _ => [⟨[.int .i64 n, .int .i64 b], 1, 0, some 0, true⟩, ⟨[.int .i64 0, .int .i64 0], 1, 1, some 0, true⟩, ⟨[.int .i64 (n : Nat), .int .i64 (pk (dualG n b) (i) : Nat)], 1, 2, some 0, true⟩]) (fun _ => (⟨.exit 0, [(4, .ptr 1 0), (5, .ptr 2 0)], [⟨[.int .i64 n, .int .i64 b], 1, 0, some 0, true⟩, ⟨[.int .i64 0, .int .i64 0], 1, 1, some 0, true⟩, ⟨[.int .i64 (n : Nat), .int .i64 (pk (dualG n b) (R2 (n)) : Nat)], 1, 2, some 0, true⟩]⟩ : Out)) ?_ ?_ (R2 (n)) 0 (by omega)
  · intro i u_ hi hu_
    refine ⟨(), rfl, ?_⟩
    have hlt : decide ((i : Int) < (R2 (n) : Nat)) = true := decide_eq_true (by omega)
    have hg := hgl i hi
    have hp0 := pk_lt (g := dualG n b) (n := i) fun r hr => hgl r (by omega)
    have hp1 := R2_mono (i := i) (n := R2 (n)) (by omega)
    have hs := sl_lt hg hi
    have hp2 := or_lt (n := R2 (n)) (show pk (dualG n b) i < R2 (R2 (n)) by omega) hs
    unfold m172_0
    repeat' (first
      | (refine g_op ?_; first
        | refine ep_mov rfl ?_ | refine ep_load1 rfl rfl rfl rfl ?_ | refine ep_fieldAddr rfl ?_
        | refine sp_callv rfl rfl rfl rfl rfl rfl (by first | exact ev180 n b i hn hb (by omega)) ⟨rfl, rfl, rfl, rfl⟩ rfl rfl rfl ?_
        | refine sp_callb rfl rfl rfl rfl rfl rfl (by first | exact ev180 n b i hn hb (by omega)) ⟨rfl, rfl, rfl, rfl⟩ rfl rfl rfl ?_
        | refine ep_bin rfl rfl (by first | exact b_add (by omega) (by omega) | exact b_sub (by omega) (by omega) | exact b_and (by omega) (by omega) | exact b_or (by omega) (by omega) | exact b_shr (by omega) | exact b_shl (by omega) (by omega) | exact b_lss | exact b_leq | exact b_gtr | exact b_geq | exact b_eql | exact b_neq) ?_
        | refine sp_store rfl rfl rfl rfl rfl rfl rfl rfl rfl rfl ?_)
      | (refine g_ops ?_; first | refine eo_none ?_ | refine eo_nil ?_)
      | (refine g_dops ?_; first | refine ed_none ?_ | refine ed_nil ?_)
      | refine ed_same rfl ?_ | refine ed_one rfl rfl rfl rfl ?_ | refine ed_two rfl rfl rfl rfl rfl rfl rfl ?_ | refine ed_write rfl rfl ?_
      | (refine g_code ?_; first | refine ec_seq ?_ | refine ec_region ?_ | refine ec_draw ?_ | refine ec_block ?_ | refine ec_skip ?_ | refine ec_exit ?_ | refine ec_condT rfl ?_ | refine ec_condF rfl ?_ | refine ec_condTH rfl (by assumption) ?_ | refine ec_condFH rfl (by assumption) ?_)
      | refine ek_seqN ?_ | refine ek_seqX ?_ | refine ek_blkN ?_ | refine ek_blkR ?_ | refine ek_blkX ?_ | refine ek_blkY rfl ?_)
    exact rnd_on (by rfl) (scmp2 (by rfl) (by rfl) (by exact ⟨rfl, rfl, rfl⟩) (by rfl) (by first | rfl | (simp; done) | (simp [ints, prs]; done)) (by rfl) (by first | rfl | (simp; done) | (simp [ints, prs]; done)))
  · intro u_ hu_
    have hlt : decide (((R2 (n) : Nat) : Int) < (R2 (n) : Nat)) = false := decide_eq_false (by omega)
    unfold m172_0
    repeat' (first
      | (refine g_op ?_; first
        | refine ep_mov rfl ?_ | refine ep_load1 rfl rfl rfl rfl ?_ | refine ep_fieldAddr rfl ?_
        | refine sp_callv rfl rfl rfl rfl rfl rfl (by first | exact ev180 n b i hn hb (by omega)) ⟨rfl, rfl, rfl, rfl⟩ rfl rfl rfl ?_
        | refine sp_callb rfl rfl rfl rfl rfl rfl (by first | exact ev180 n b i hn hb (by omega)) ⟨rfl, rfl, rfl, rfl⟩ rfl rfl rfl ?_
        | refine ep_bin rfl rfl (by first | exact b_add (by omega) (by omega) | exact b_sub (by omega) (by omega) | exact b_and (by omega) (by omega) | exact b_or (by omega) (by omega) | exact b_shr (by omega) | exact b_shl (by omega) (by omega) | exact b_lss | exact b_leq | exact b_gtr | exact b_geq | exact b_eql | exact b_neq) ?_
        | refine sp_store rfl rfl rfl rfl rfl rfl rfl rfl rfl rfl ?_)
      | (refine g_ops ?_; first | refine eo_none ?_ | refine eo_nil ?_)
      | (refine g_dops ?_; first | refine ed_none ?_ | refine ed_nil ?_)
      | refine ed_same rfl ?_ | refine ed_one rfl rfl rfl rfl ?_ | refine ed_two rfl rfl rfl rfl rfl rfl rfl ?_ | refine ed_write rfl rfl ?_
      | (refine g_code ?_; first | refine ec_seq ?_ | refine ec_region ?_ | refine ec_draw ?_ | refine ec_block ?_ | refine ec_skip ?_ | refine ec_exit ?_ | refine ec_condT rfl ?_ | refine ec_condF rfl ?_ | refine ec_condTH rfl (by assumption) ?_ | refine ec_condFH rfl (by assumption) ?_)
      | refine ek_seqN ?_ | refine ek_seqX ?_ | refine ek_blkN ?_ | refine ek_blkR ?_ | refine ek_blkX ?_ | refine ek_blkY rfl ?_)
    exact rnd_out (by rfl) (by simp) (scmp2 (by rfl) (by rfl) (by exact ⟨rfl, rfl, rfl⟩) (by rfl) (by first | rfl | (simp; done) | (simp [ints, prs]; done)) (by rfl) (by first | rfl | (simp; done) | (simp [ints, prs]; done)))
theorem evfb_dual (n b : Nat) (hn : n ≤ 4) (hb : b < 65536) : Ev cx 172 [.int .i64 (n : Nat), .fn 180 [.ptr 0 0]] [⟨[.int .i64 n, .int .i64 b], 1, 0, some 0, true⟩] (.agg [.int .i64 (n : Nat), .int .i64 (pk (dualG n b) (R2 (n)) : Nat)]) [⟨[.int .i64 n, .int .i64 b], 1, 0, some 0, true⟩] := by
  obtain ⟨h1, h2, h3, h4⟩ := shN hn
  have lp := lpfb_dual n b hn hb
  refine has172.eev rfl rfl ?_
  unfold m172
  repeat' (first
    | refine sc_loop lp rfl rfl ⟨rfl, rfl, rfl⟩ rfl rfl rfl ?_
    | (refine g_op ?_; first
      | refine ep_mov rfl ?_ | refine sp_loadN rfl rfl rfl rfl rfl ?_
      | refine ep_call0 rfl (by first | exact ev113 _ hn) rfl rfl ?_
      | refine sp_call rfl rfl rfl rfl (by first | exact ev113 _ hn) ⟨rfl, rfl, rfl, rfl⟩ rfl rfl rfl ?_
      | refine sp_store rfl rfl rfl rfl rfl rfl rfl rfl rfl rfl ?_ | refine sp_alloc rfl rfl ?_ | refine sp_build rfl rfl ?_)
    | (refine g_ops ?_; first | refine eo_none ?_ | refine eo_nil ?_)
    | (refine g_code ?_; first | refine ec_seq ?_ | refine ec_region ?_ | refine ec_block ?_ | refine ec_ret ?_)
    | refine ek_seqN ?_ | refine ek_seqX ?_ | refine ek_seqR ?_ | refine ek_blkN ?_ | refine ek_blkR ?_ | refine ek_blkX ?_ | refine ek_blkY rfl ?_)
  refine sfin (.inr rfl) (by rfl) (by rfl) (by exact ⟨rfl, rfl, rfl⟩) (by rfl) (by rfl) (by rfl) (by first | rfl | (simp; done) | (simp [ints, prs]; done))

theorem ev169 (n b : Nat) (hn : n ≤ 4) (hb : b < 65536) : Ev cx 169 [.agg [.int .i64 n, .int .i64 b]] [] (.agg [.int .i64 n, .int .i64 (pk (dualG n b) (R2 n) : Nat)]) [] := by
  have e1 := evfb_dual n b hn hb
  refine has169.eev rfl rfl ?_
  unfold m169
  repeat' (first
    | (refine g_op ?_; first
      | refine ep_load1 rfl rfl rfl rfl ?_ | refine ep_fieldAddr rfl ?_
      | refine ep_call0 rfl (by first | exact e1) rfl rfl ?_
      | refine sp_call rfl rfl rfl rfl (by first | exact e1) ⟨rfl, rfl, rfl, rfl⟩ rfl rfl rfl ?_
      | refine sp_store rfl rfl rfl rfl rfl rfl rfl rfl rfl rfl ?_ | refine sp_box rfl rfl rfl rfl rfl ?_ | refine sp_alloc rfl rfl ?_ | refine ep_mkfn rfl ?_)
    | (refine g_ops ?_; first | refine eo_none ?_ | refine eo_nil ?_)
    | (refine g_code ?_; first | refine ec_seq ?_ | refine ec_region ?_ | refine ec_ret ?_)
    | refine ek_seqN ?_ | refine ek_seqR ?_)
  refine sfin (.inr rfl) (by rfl) (by rfl) (by exact ⟨rfl, rfl, rfl⟩) (by rfl) (by rfl) (by rfl) (by first | rfl | (simp; done) | (simp [ints, prs]; done))
-- (impl.Func).isIn
def m151_1 : MC := (.seq (.region [⟨(.bin .lss (.t 48) (.t 47)), (some 49), none⟩] false) (.seq (.cond (.t 49) .skip (.exit 3)) (.seq (.block 4 (.seq (.region [⟨(.mov (.t 48)), (some 50), none⟩, ⟨(.mov (.t 50)), (some 8), none⟩] false) (.region [⟨(.mov (.t 7)), (some 51), none⟩, ⟨(.mov (.t 6)), (some 52), none⟩, ⟨(.mov (.t 8)), (some 53), none⟩, ⟨(.call 63 [(.t 52), (.t 53)]), (some 54), none⟩, ⟨(.load (some 2) (.t 2)), (some 55), none⟩, ⟨(.call 69 [(.t 55), (.k (.int .i64 0))]), (some 56), none⟩, ⟨(.load (some 2) (.t 2)), (some 57), none⟩, ⟨(.mov (.t 8)), (some 58), none⟩, ⟨(.bin .shl (.k (.int .i64 1)) (.t 58)), (some 59), none⟩, ⟨(.call 69 [(.t 57), (.t 59)]), (some 60), none⟩, ⟨(.bin .xor (.t 56) (.t 60)), (some 61), none⟩, ⟨(.bin .and (.t 54) (.t 61)), (some 62), none⟩, ⟨(.bin .xor (.t 51) (.t 62)), (some 63), none⟩, ⟨(.mov (.t 63)), (some 7), none⟩] true))) (.region [⟨(.bin .add (.t 48) (.k (.int .i64 1))), (some 64), none⟩, ⟨(.mov (.t 64)), (some 48), none⟩] false))))
def m151_0 : MC := (.seq (.region [⟨(.bin .lss (.t 41) (.t 40)), (some 42), none⟩] false) (.seq (.cond (.t 42) .skip (.exit 1)) (.seq (.block 2 (.seq (.region [⟨(.mov (.t 41)), (some 43), none⟩, ⟨(.mov (.t 43)), (some 6), none⟩] false) (.seq (.region [⟨(.load (some 2) (.t 2)), (some 44), none⟩, ⟨(.call 69 [(.t 44), (.k (.int .i64 0))]), (some 45), none⟩, ⟨(.mov (.t 45)), (some 7), none⟩] false) (.seq (.seq (.region [⟨(.fieldAddr 0 (.t 2)), (some 46), none⟩, ⟨(.load none (.t 46)), (some 47), none⟩, ⟨(.mov (.k (.int .i64 0))), (some 48), none⟩] false) (.block 3 (.loop m151_1))) (.seq (.region [⟨(.mov (.t 7)), (some 65), none⟩, ⟨(.load (some 2) (.t 2)), (some 66), none⟩, ⟨(.mov (.t 6)), (some 67), none⟩, ⟨(.call 69 [(.t 66), (.t 67)]), (some 68), none⟩, ⟨(.bin .neq (.t 65) (.t 68)), (some 69), none⟩] false) (.cond (.t 69) (.seq (.region [⟨(.mov (.k (.bool false))), (some 4), none⟩] false) .ret) .skip)))))) (.region [⟨(.bin .add (.t 41) (.k (.int .i64 1))), (some 70), none⟩, ⟨(.mov (.t 70)), (some 41), none⟩] false))))
def m151 : MC := (.seq (.region [⟨(.box (.t 0)), (some 2), none⟩, ⟨(.mov (.k (.bool false))), (some 4), none⟩] false) (.seq (.region [⟨(.load (some 2) (.t 2)), (some 9), none⟩, ⟨(.call 117 [(.t 9)]), (some 10), none⟩, ⟨(.bin .sub (.t 10) (.k (.int .i64 1))), (some 11), none⟩, ⟨(.mov (.t 11)), (some 5), none⟩] false) (.seq (.seq (.region [⟨(.mov (.t 1)), (some 12), none⟩] false) (.block 0 (.seq (.region [⟨(.bin .eql (.t 12) (.k (.int .i64 0))), (some 14), none⟩, ⟨(.mov (.t 14)), (some 13), none⟩] false) (.cond (.t 13) (.seq (.region [⟨(.load (some 2) (.t 2)), (some 15), none⟩, ⟨(.call 69 [(.t 15), (.k (.int .i64 0))]), (some 16), none⟩, ⟨(.bin .eql (.t 16) (.k (.int .i64 0))), (some 17), none⟩, ⟨(.mov (.t 17)), (some 4), none⟩] false) .ret) (.seq (.region [⟨(.bin .eql (.t 12) (.k (.int .i64 1))), (some 19), none⟩, ⟨(.mov (.t 19)), (some 18), none⟩] false) (.cond (.t 18) (.seq (.region [⟨(.load (some 2) (.t 2)), (some 20), none⟩, ⟨(.mov (.t 5)), (some 21), none⟩, ⟨(.call 69 [(.t 20), (.t 21)]), (some 22), none⟩, ⟨(.bin .eql (.t 22) (.k (.int .i64 1))), (some 23), none⟩, ⟨(.mov (.t 23)), (some 4), none⟩] false) .ret) (.seq (.region [⟨(.bin .eql (.t 12) (.k (.int .i64 2))), (some 25), none⟩, ⟨(.mov (.t 25)), (some 24), none⟩] false) (.cond (.t 24) (.seq (.region [⟨(.fieldAddr 0 (.t 2)), (some 26), none⟩, ⟨(.load none (.t 26)), (some 27), none⟩, ⟨(.bin .gtr (.t 27) (.k (.int .i64 0))), (some 28), none⟩, ⟨(.mov (.t 28)), (some 29), none⟩, ⟨(.load (some 2) (.t 2)), (some 30), (some (29, true))⟩, ⟨(.load (some 2) (.t 2)), (some 31), (some (29, true))⟩, ⟨(.call 169 [(.t 31)]), (some 32), (some (29, true))⟩, ⟨(.eqa false 2 (.t 30) (.t 32)), (some 33), (some (29, true))⟩, ⟨(.pick (.t 29) (.t 33) (.k (.bool false))), (some 34), none⟩, ⟨(.mov (.t 34)), (some 4), none⟩] true) .ret) (.seq (.region [⟨(.bin .eql (.t 12) (.k (.int .i64 3))), (some 36), none⟩, ⟨(.mov (.t 36)), (some 35), none⟩] false) (.cond (.t 35) (.seq (.region [⟨(.load (some 2) (.t 2)), (some 37), none⟩, ⟨(.call 79 [(.t 37)]), (some 38), none⟩, ⟨(.mov (.t 38)), (some 4), none⟩] false) .ret) .skip)))))))))) (.seq (.seq (.region [⟨(.load (some 2) (.t 2)), (some 39), none⟩, ⟨(.call 117 [(.t 39)]), (some 40), none⟩, ⟨(.mov (.k (.int .i64 0))), (some 41), none⟩] false) (.block 1 (.loop m151_0))) (.seq (.region [⟨(.mov (.k (.bool true))), (some 4), none⟩] false) .ret)))))
theorem has151 : Has cx 151 71 m151 [(.tmp 4)] :=
  ⟨⟨Try.f151, Try.f151.body.getD .skip, by kernel_rfl, by kernel_rfl, by kernel_rfl, by kernel_rfl, by kernel_rfl, by kernel_rfl⟩⟩
theorem lp151_1 (n b : Nat) (hn : n ≤ 4) (hb : b < 65536) (r : Nat) (hr : r < R2 n) :
    LpS cx 71 0 m151_1 [(2, .ptr 0 0), (6, .int .i64 (r : Nat)), (7, .int .i64 (accX b r (0) : Nat)), (40, .int .i64 (R2 n : Nat)), (41, .int .i64 (r : Nat)), (47, .int .i64 (n : Nat)), (48, .int .i64 (0 : Nat))] [⟨[.int .i64 n, .int .i64 b], 1, 0, some 0, true⟩] (⟨.exit 3, [(2, .ptr 0 0), (6, .int .i64 (r : Nat)), (7, .int .i64 (accX b r (n) : Nat)), (40, .int .i64 (R2 n : Nat)), (41, .int .i64 (r : Nat))], [⟨[.int .i64 n, .int .i64 b], 1, 0, some 0, true⟩]⟩ : Out).x (⟨.exit 3, [(2, .ptr 0 0), (6, .int .i64 (r : Nat)), (7, .int .i64 (accX b r (n) : Nat)), (40, .int .i64 (R2 n : Nat)), (41, .int .i64 (r : Nat))], [⟨[.int .i64 n, .int .i64 b], 1, 0, some 0, true⟩]⟩ : Out).e (⟨.exit 3, [(2, .ptr 0 0), (6, .int .i64 (r : Nat)), (7, .int .i64 (accX b r (n) : Nat)), (40, .int .i64 (R2 n : Nat)), (41, .int .i64 (r : Nat))], [⟨[.int .i64 n, .int .i64 b], 1, 0, some 0, true⟩]⟩ : Out).h := by
  obtain ⟨h1, h2, h3, h4⟩ := shN hn
  refine lp_st (n) (fun _ => ()) (fun i _ => [(2, .ptr 0 0), (6, .int .i64 (r : Nat)), (7, .int .i64 (accX b r (i) : Nat)), (40, .int .i64 (R2 n : Nat)), (41, .int .i64 (r : Nat)), (47, .int .i64 (n : Nat)), (48, .int .i64 (i : Nat))]) (fun i _ => [⟨[.int .i64 n, .int .i64 b], 1, 0, some 0, true⟩]) (fun _ => (⟨.exit 3, [(2, .ptr 0 0), (6, .int .i64 (r : Nat)), (7, .int .i64 (accX b r (n) : Nat)), (40, .int .i64 (R2 n : Nat)), (41, .int .i64 (r : Nat))], [⟨[.int .i64 n, .int .i64 b], 1, 0, some 0, true⟩]⟩ : Out)) ?_ ?_ (n) 0 (by omega)
  · intro i u_ hi hu_
    refine ⟨(), rfl, ?_⟩
    have hlt : decide ((i : Int) < (n : Nat)) = true := decide_eq_true (by omega)
    have h5 := R2_le hi
    have a1 := accX_le b r i
    have a2 := bt_le b 0
    have a3 := bt_le b (R2 i)
    have a4 := bt_le r i
    have x1 := xor_le1 a2 a3
    have x2 : bt r i &&& (bt b 0 ^^^ bt b (R2 i)) ≤ 1 := Nat.le_trans Nat.and_le_left a4
    have b1 := b_xor (x := bt b 0) (y := bt b (R2 i)) (by omega) (by omega)
    have b2 := b_and (x := bt r i) (y := bt b 0 ^^^ bt b (R2 i)) (by omega) (by omega)
    have b3 : binV .xor (.int .i64 (accX b r i : Nat)) (.int .i64 (bt r i &&& (bt b 0 ^^^ bt b (R2 i)) : Nat)) = some (.int .i64 (accX b r (i + 1) : Nat)) := b_xor (by omega) (by omega)
    have e0 := ev69 n b 0 (by omega) (by omega)
    unfold m151_1
    repeat' (first
      | (refine g_op ?_; first
        | refine ep_mov rfl ?_ | refine sp_loadN rfl rfl rfl rfl rfl ?_
        | refine ep_call0 rfl (by first | exact e0 | exact ev63 r i (by omega) (by omega) | exact ev69 n b (R2 i) (by omega) (by omega)) rfl rfl ?_
        | refine sp_call rfl rfl rfl rfl (by first | exact e0 | exact ev63 r i (by omega) (by omega) | exact ev69 n b (R2 i) (by omega) (by omega)) ⟨rfl, rfl, rfl, rfl⟩ rfl rfl rfl ?_
        | refine ep_bin rfl rfl (by first | exact b1 | exact b2 | exact b3 | exact b_shl1 (by omega) (by omega) | exact b_add (by omega) (by omega) | exact b_sub (by omega) (by omega) | exact b_and (by omega) (by omega) | exact b_or (by omega) (by omega) | exact b_shr (by omega) | exact b_shl (by omega) (by omega) | exact b_lss | exact b_leq | exact b_gtr | exact b_geq | exact b_eql | exact b_neq) ?_)
      | (refine g_ops ?_; first | refine eo_none ?_ | refine eo_nil ?_)
      | (refine g_dops ?_; first | refine ed_none ?_ | refine ed_nil ?_)
      | refine ed_same rfl ?_ | refine ed_one rfl rfl rfl rfl ?_ | refine ed_two rfl rfl rfl rfl rfl rfl rfl ?_ | refine ed_write rfl rfl ?_
      | (refine g_code ?_; first | refine ec_seq ?_ | refine ec_region ?_ | refine ec_draw ?_ | refine ec_block ?_ | refine ec_skip ?_ | refine ec_exit ?_ | refine ec_condT rfl ?_ | refine ec_condF rfl ?_ | refine ec_condTH rfl (by assumption) ?_ | refine ec_condFH rfl (by assumption) ?_)
      | refine ek_seqN ?_ | refine ek_seqX ?_ | refine ek_blkN ?_ | refine ek_blkR ?_ | refine ek_blkX ?_ | refine ek_blkY rfl ?_)
    exact rnd_on (by rfl) (scmp2 (by rfl) (by rfl) (by exact ⟨rfl, rfl, rfl⟩) (by rfl) (by first | rfl | (simp; done) | (simp [ints, prs]; done)) (by rfl) (by first | rfl | (simp; done) | (simp [ints, prs]; done)))
  · intro u_ hu_
    have hlt : decide (((n : Nat) : Int) < (n : Nat)) = false := decide_eq_false (by omega)
    unfold m151_1
    repeat' (first
      | (refine g_op ?_; first
        | refine ep_mov rfl ?_ | refine sp_loadN rfl rfl rfl rfl rfl ?_
        | refine ep_bin rfl rfl (by first | exact b_add (by omega) (by omega) | exact b_sub (by omega) (by omega) | exact b_and (by omega) (by omega) | exact b_or (by omega) (by omega) | exact b_shr (by omega) | exact b_shl (by omega) (by omega) | exact b_lss | exact b_leq | exact b_gtr | exact b_geq | exact b_eql | exact b_neq) ?_)
      | (refine g_ops ?_; first | refine eo_none ?_ | refine eo_nil ?_)
      | (refine g_dops ?_; first | refine ed_none ?_ | refine ed_nil ?_)
      | refine ed_same rfl ?_ | refine ed_one rfl rfl rfl rfl ?_ | refine ed_two rfl rfl rfl rfl rfl rfl rfl ?_ | refine ed_write rfl rfl ?_
      | (refine g_code ?_; first | refine ec_seq ?_ | refine ec_region ?_ | refine ec_draw ?_ | refine ec_block ?_ | refine ec_skip ?_ | refine ec_exit ?_ | refine ec_condT rfl ?_ | refine ec_condF rfl ?_ | refine ec_condTH rfl (by assumption) ?_ | refine ec_condFH rfl (by assumption) ?_)
      | refine ek_seqN ?_ | refine ek_seqX ?_ | refine ek_blkN ?_ | refine ek_blkR ?_ | refine ek_blkX ?_ | refine ek_blkY rfl ?_)
    exact rnd_out (by rfl) (by simp) (scmp2 (by rfl) (by rfl) (by exact ⟨rfl, rfl, rfl⟩) (by rfl) (by first | rfl | (simp; done) | (simp [ints, prs]; done)) (by rfl) (by first | rfl | (simp; done) | (simp [ints, prs]; done)))

theorem lp151_0 (n b : Nat) (hn : n ≤ 4) (hb : b < 65536) (o : Out) (ho : (if allF (fun r => accX b r n == bt b r) 0 (R2 n) = true then (⟨.exit 1, [], []⟩ : Out) else ⟨.ret, [(4, .bool false)], []⟩) = o) :
    LpS cx 71 0 m151_0 [(2, .ptr 0 0), (40, .int .i64 (R2 n : Nat)), (41, .int .i64 (0 : Nat))] [⟨[.int .i64 n, .int .i64 b], 1, 0, some 0, true⟩] o.x o.e o.h := by
  obtain ⟨h1, h2, h3, h4⟩ := shN hn
  refine lp_all (R2 n) (fun r => accX b r n == bt b r) (fun i => [(2, .ptr 0 0), (40, .int .i64 (R2 n : Nat)), (41, .int .i64 (i : Nat))]) (fun i => [⟨[.int .i64 n, .int .i64 b], 1, 0, some 0, true⟩]) _ _ ?_ ?_ ?_ (R2 n) 0 o (by omega) ho
  · intro i hi hp
    have hlt : decide ((i : Int) < (R2 n : Nat)) = true := decide_eq_true (by omega)
    have hp' : (accX b i n == bt b i) = true := hp
    have lp := lp151_1 n b hn hb i hi
    rw [show accX b i 0 = bt b 0 from rfl] at lp
    have hq := ine (accX b i n) (bt b i)
    rw [show (accX b i n != bt b i) = !(accX b i n == bt b i) from rfl, hp'] at hq
    have e0 := ev69 n b 0 (by omega) (by omega)
    unfold m151_0
    repeat' (first
      | refine sc_loop lp rfl rfl ⟨rfl, rfl, rfl⟩ rfl rfl rfl ?_
      | (refine g_op ?_; first
        | refine ep_mov rfl ?_ | refine ep_load1 rfl rfl rfl rfl ?_ | refine ep_fieldAddr rfl ?_ | refine sp_loadN rfl rfl rfl rfl rfl ?_
        | refine ep_call0 rfl (by first | exact e0 | exact ev69 n b i (by omega) (by omega)) rfl rfl ?_
        | refine sp_call rfl rfl rfl rfl (by first | exact e0 | exact ev69 n b i (by omega) (by omega)) ⟨rfl, rfl, rfl, rfl⟩ rfl rfl rfl ?_
        | refine ep_bin rfl rfl (by first | exact b_add (by omega) (by omega) | exact b_sub (by omega) (by omega) | exact b_and (by omega) (by omega) | exact b_or (by omega) (by omega) | exact b_shr (by omega) | exact b_shl (by omega) (by omega) | exact b_lss | exact b_leq | exact b_gtr | exact b_geq | exact b_eql | exact b_neq) ?_)
      | (refine g_ops ?_; first | refine eo_none ?_ | refine eo_nil ?_)
      | (refine g_code ?_; first | refine ec_seq ?_ | refine ec_region ?_ | refine ec_block ?_ | refine ec_skip ?_ | refine ec_exit ?_ | refine ec_ret ?_ | refine ec_condT rfl ?_ | refine ec_condF rfl ?_ | refine ec_condTH rfl (by assumption) ?_ | refine ec_condFH rfl (by assumption) ?_)
      | refine ek_seqN ?_ | refine ek_seqX ?_ | refine ek_seqR ?_ | refine ek_blkN ?_ | refine ek_blkR ?_ | refine ek_blkX ?_ | refine ek_blkY rfl ?_)
    exact rnd_on (by rfl) (scmp2 (by rfl) (by rfl) (by exact ⟨rfl, rfl, rfl⟩) (by rfl) (by first | rfl | (simp; done) | (simp [ints, prs]; done)) (by rfl) (by first | rfl | (simp; done) | (simp [ints, prs]; done)))
  · intro i hi hp
    have hlt : decide ((i : Int) < (R2 n : Nat)) = true := decide_eq_true (by omega)
    have hp' : (accX b i n == bt b i) = false := hp
    have lp := lp151_1 n b hn hb i hi
    rw [show accX b i 0 = bt b 0 from rfl] at lp
    have hq := ine (accX b i n) (bt b i)
    rw [show (accX b i n != bt b i) = !(accX b i n == bt b i) from rfl, hp'] at hq
    have e0 := ev69 n b 0 (by omega) (by omega)
    unfold m151_0
    repeat' (first
      | refine sc_loop lp rfl rfl ⟨rfl, rfl, rfl⟩ rfl rfl rfl ?_
      | (refine g_op ?_; first
        | refine ep_mov rfl ?_ | refine ep_load1 rfl rfl rfl rfl ?_ | refine ep_fieldAddr rfl ?_ | refine sp_loadN rfl rfl rfl rfl rfl ?_
        | refine ep_call0 rfl (by first | exact e0 | exact ev69 n b i (by omega) (by omega)) rfl rfl ?_
        | refine sp_call rfl rfl rfl rfl (by first | exact e0 | exact ev69 n b i (by omega) (by omega)) ⟨rfl, rfl, rfl, rfl⟩ rfl rfl rfl ?_
        | refine ep_bin rfl rfl (by first | exact b_add (by omega) (by omega) | exact b_sub (by omega) (by omega) | exact b_and (by omega) (by omega) | exact b_or (by omega) (by omega) | exact b_shr (by omega) | exact b_shl (by omega) (by omega) | exact b_lss | exact b_leq | exact b_gtr | exact b_geq | exact b_eql | exact b_neq) ?_)
      | (refine g_ops ?_; first | refine eo_none ?_ | refine eo_nil ?_)
      | (refine g_code ?_; first | refine ec_seq ?_ | refine ec_region ?_ | refine ec_block ?_ | refine ec_skip ?_ | refine ec_exit ?_ | refine ec_ret ?_ | refine ec_condT rfl ?_ | refine ec_condF rfl ?_ | refine ec_condTH rfl (by assumption) ?_ | refine ec_condFH rfl (by assumption) ?_)
      | refine ek_seqN ?_ | refine ek_seqX ?_ | refine ek_seqR ?_ | refine ek_blkN ?_ | refine ek_blkR ?_ | refine ek_blkX ?_ | refine ek_blkY rfl ?_)
    exact rnd_out (by rfl) (by simp) (scmp2 (by rfl) (by rfl) (by exact ⟨rfl, rfl, rfl⟩) (by rfl) (by first | rfl | (simp; done) | (simp [ints, prs]; done)) (by rfl) (by first | rfl | (simp; done) | (simp [ints, prs]; done)))
  · have hlt : decide (((R2 n : Nat) : Int) < (R2 n : Nat)) = false := decide_eq_false (by omega)
    unfold m151_0
    repeat' (first
      | (refine g_op ?_; first
        | refine ep_mov rfl ?_ | refine ep_load1 rfl rfl rfl rfl ?_ | refine ep_fieldAddr rfl ?_ | refine sp_loadN rfl rfl rfl rfl rfl ?_
        | refine ep_bin rfl rfl (by first | exact b_add (by omega) (by omega) | exact b_sub (by omega) (by omega) | exact b_and (by omega) (by omega) | exact b_or (by omega) (by omega) | exact b_shr (by omega) | exact b_shl (by omega) (by omega) | exact b_lss | exact b_leq | exact b_gtr | exact b_geq | exact b_eql | exact b_neq) ?_)
      | (refine g_ops ?_; first | refine eo_none ?_ | refine eo_nil ?_)
      | (refine g_code ?_; first | refine ec_seq ?_ | refine ec_region ?_ | refine ec_block ?_ | refine ec_skip ?_ | refine ec_exit ?_ | refine ec_ret ?_ | refine ec_condT rfl ?_ | refine ec_condF rfl ?_ | refine ec_condTH rfl (by assumption) ?_ | refine ec_condFH rfl (by assumption) ?_)
      | refine ek_seqN ?_ | refine ek_seqX ?_ | refine ek_seqR ?_ | refine ek_blkN ?_ | refine ek_blkR ?_ | refine ek_blkX ?_ | refine ek_blkY rfl ?_)
    exact rnd_out (by rfl) (by simp) (scmp2 (by rfl) (by rfl) (by exact ⟨rfl, rfl, rfl⟩) (by rfl) (by first | rfl | (simp; done) | (simp [ints, prs]; done)) (by rfl) (by first | rfl | (simp; done) | (simp [ints, prs]; done)))

theorem ev151 (n b : Nat) (hn : n ≤ 4) (hb : b < 65536) (hb2 : b < R2 (R2 n)) (c : Nat) (hc : c < 5) : Ev cx 151 [.agg [.int .i64 n, .int .i64 b], .int .i64 c] [] (.bool (inC n b c)) [] := by
  obtain ⟨h1, h2, h3, h4⟩ := shN hn
  have e0 := ev69 n b 0 (by omega) (by omega)
  have e1 := ev69 n b (R2 n - 1) (by omega) (by omega)
  have s1 := b_sub1 (a := R2 n) (by omega) (by omega)
  rcases (show c = 0 ∨ c = 1 ∨ c = 2 ∨ c = 3 ∨ c = 4 by omega) with rfl | rfl | rfl | rfl | rfl
  · have q0 : ((((0 : Nat) : Int)) == 0) = true := by decide
    have hq := ieq0 (bt b 0)
    refine has151.eev rfl rfl ?_
    unfold m151
    repeat' (first
      | (refine g_op ?_; first
        | refine ep_mov rfl ?_ | refine ep_load1 rfl rfl rfl rfl ?_ | refine ep_fieldAddr rfl ?_ | refine sp_loadN rfl rfl rfl rfl rfl ?_
        | refine ep_call0 rfl (by first | exact e0 | exact ev117 _ _ hn) rfl rfl ?_
        | refine sp_call rfl rfl rfl rfl (by first | exact e0 | exact ev117 _ _ hn) ⟨rfl, rfl, rfl, rfl⟩ rfl rfl rfl ?_
        | refine ep_bin rfl rfl (by first | exact s1 | exact b_add (by omega) (by omega) | exact b_sub (by omega) (by omega) | exact b_and (by omega) (by omega) | exact b_or (by omega) (by omega) | exact b_shr (by omega) | exact b_shl (by omega) (by omega) | exact b_lss | exact b_leq | exact b_gtr | exact b_geq | exact b_eql | exact b_neq) ?_
        | refine ep_pickT rfl rfl ?_ | refine ep_pickF rfl rfl ?_ | refine ep_pickTH rfl (by assumption) rfl ?_ | refine ep_pickFH rfl (by assumption) rfl ?_ | refine sp_box rfl rfl rfl rfl rfl ?_ | refine ep_eqa0 rfl rfl ?_
        | refine ep_eqa1 rfl rfl ?_)
      | (refine g_ops ?_; first | refine eo_none ?_ | refine eo_nil ?_ | refine eo_yes rfl ?_ | refine eo_no rfl ?_ | refine eo_und rfl ?_ | refine eo_yesH rfl (by assumption) ?_ | refine eo_noH rfl (by assumption) ?_)
      | (refine g_dops ?_; first | refine ed_none ?_ | refine ed_nil ?_ | refine ed_yes rfl ?_ | refine ed_no rfl ?_ | refine ed_und rfl ?_ | refine ed_yesH rfl (by assumption) ?_ | refine ed_noH rfl (by assumption) ?_)
      | refine ed_same rfl ?_ | refine ed_one rfl rfl rfl rfl ?_ | refine ed_two rfl rfl rfl rfl rfl rfl rfl ?_ | refine ed_write rfl rfl ?_
      | (refine g_code ?_; first | refine ec_seq ?_ | refine ec_region ?_ | refine ec_draw ?_ | refine ec_block ?_ | refine ec_skip ?_ | refine ec_ret ?_ | refine ec_condT rfl ?_ | refine ec_condF rfl ?_ | refine ec_condTH rfl (by assumption) ?_ | refine ec_condFH rfl (by assumption) ?_)
      | refine ek_seqN ?_ | refine ek_seqX ?_ | refine ek_seqR ?_ | refine ek_blkN ?_ | refine ek_blkR ?_ | refine ek_blkX ?_ | refine ek_blkY rfl ?_)
    refine sfin (.inr rfl) (by rfl) (by rfl) (by exact ⟨rfl, rfl, rfl⟩) (by rfl) (by rfl) (by first | rfl | exact congrArg V.bool hq) (by first | rfl | (simp; done) | (simp [ints, prs]; done))
  · have q0 : ((((1 : Nat) : Int)) == 0) = false := by decide
    have q1 : ((((1 : Nat) : Int)) == 1) = true := by decide
    have hq := ieq1 (bt b (R2 n - 1))
    refine has151.eev rfl rfl ?_
    unfold m151
    repeat' (first
      | (refine g_op ?_; first
        | refine ep_mov rfl ?_ | refine ep_load1 rfl rfl rfl rfl ?_ | refine ep_fieldAddr rfl ?_ | refine sp_loadN rfl rfl rfl rfl rfl ?_
        | refine ep_call0 rfl (by first | exact e1 | exact ev117 _ _ hn) rfl rfl ?_
        | refine sp_call rfl rfl rfl rfl (by first | exact e1 | exact ev117 _ _ hn) ⟨rfl, rfl, rfl, rfl⟩ rfl rfl rfl ?_
        | refine ep_bin rfl rfl (by first | exact s1 | exact b_add (by omega) (by omega) | exact b_sub (by omega) (by omega) | exact b_and (by omega) (by omega) | exact b_or (by omega) (by omega) | exact b_shr (by omega) | exact b_shl (by omega) (by omega) | exact b_lss | exact b_leq | exact b_gtr | exact b_geq | exact b_eql | exact b_neq) ?_
        | refine ep_pickT rfl rfl ?_ | refine ep_pickF rfl rfl ?_ | refine ep_pickTH rfl (by assumption) rfl ?_ | refine ep_pickFH rfl (by assumption) rfl ?_ | refine sp_box rfl rfl rfl rfl rfl ?_ | refine ep_eqa0 rfl rfl ?_
        | refine ep_eqa1 rfl rfl ?_)
      | (refine g_ops ?_; first | refine eo_none ?_ | refine eo_nil ?_ | refine eo_yes rfl ?_ | refine eo_no rfl ?_ | refine eo_und rfl ?_ | refine eo_yesH rfl (by assumption) ?_ | refine eo_noH rfl (by assumption) ?_)
      | (refine g_dops ?_; first | refine ed_none ?_ | refine ed_nil ?_ | refine ed_yes rfl ?_ | refine ed_no rfl ?_ | refine ed_und rfl ?_ | refine ed_yesH rfl (by assumption) ?_ | refine ed_noH rfl (by assumption) ?_)
      | refine ed_same rfl ?_ | refine ed_one rfl rfl rfl rfl ?_ | refine ed_two rfl rfl rfl rfl rfl rfl rfl ?_ | refine ed_write rfl rfl ?_
      | (refine g_code ?_; first | refine ec_seq ?_ | refine ec_region ?_ | refine ec_draw ?_ | refine ec_block ?_ | refine ec_skip ?_ | refine ec_ret ?_ | refine ec_condT rfl ?_ | refine ec_condF rfl ?_ | refine ec_condTH rfl (by assumption) ?_ | refine ec_condFH rfl (by assumption) ?_)
      | refine ek_seqN ?_ | refine ek_seqX ?_ | refine ek_seqR ?_ | refine ek_blkN ?_ | refine ek_blkR ?_ | refine ek_blkX ?_ | refine ek_blkY rfl ?_)
    refine sfin (.inr rfl) (by rfl) (by rfl) (by exact ⟨rfl, rfl, rfl⟩) (by rfl) (by rfl) (by first | rfl | exact congrArg V.bool hq) (by first | rfl | (simp; done) | (simp [ints, prs]; done))
  · have q0 : ((((2 : Nat) : Int)) == 0) = false := by decide
    have q1 : ((((2 : Nat) : Int)) == 1) = false := by decide
    have q2 : ((((2 : Nat) : Int)) == 2) = true := by decide
    rw [show inC n b 2 = dualB n b from rfl]
    have e2 := ev169 n b hn hb
    have hd := dual_eq (n := n) hb2
    cases n with
    | zero =>
      rw [dual_0]
      have g0 : decide (((0 : Nat) : Int) > 0) = false := by decide
      refine has151.eev rfl rfl ?_
      unfold m151
      repeat' (first
        | (refine g_op ?_; first
          | refine ep_mov rfl ?_ | refine ep_load1 rfl rfl rfl rfl ?_ | refine ep_fieldAddr rfl ?_ | refine sp_loadN rfl rfl rfl rfl rfl ?_
          | refine ep_call0 rfl (by first | exact e2 | exact ev117 _ _ hn) rfl rfl ?_
          | refine sp_call rfl rfl rfl rfl (by first | exact e2 | exact ev117 _ _ hn) ⟨rfl, rfl, rfl, rfl⟩ rfl rfl rfl ?_
          | refine ep_bin rfl rfl (by first | exact s1 | exact b_add (by omega) (by omega) | exact b_sub (by omega) (by omega) | exact b_and (by omega) (by omega) | exact b_or (by omega) (by omega) | exact b_shr (by omega) | exact b_shl (by omega) (by omega) | exact b_lss | exact b_leq | exact b_gtr | exact b_geq | exact b_eql | exact b_neq) ?_
          | refine ep_pickT rfl rfl ?_ | refine ep_pickF rfl rfl ?_ | refine ep_pickTH rfl (by assumption) rfl ?_ | refine ep_pickFH rfl (by assumption) rfl ?_ | refine sp_box rfl rfl rfl rfl rfl ?_ | refine ep_eqa0 rfl rfl ?_
          | refine ep_eqa1 rfl rfl ?_)
        | (refine g_ops ?_; first | refine eo_none ?_ | refine eo_nil ?_ | refine eo_yes rfl ?_ | refine eo_no rfl ?_ | refine eo_und rfl ?_ | refine eo_yesH rfl (by assumption) ?_ | refine eo_noH rfl (by assumption) ?_)
        | (refine g_dops ?_; first | refine ed_none ?_ | refine ed_nil ?_ | refine ed_yes rfl ?_ | refine ed_no rfl ?_ | refine ed_und rfl ?_ | refine ed_yesH rfl (by assumption) ?_ | refine ed_noH rfl (by assumption) ?_)
        | refine ed_same rfl ?_ | refine ed_one rfl rfl rfl rfl ?_ | refine ed_two rfl rfl rfl rfl rfl rfl rfl ?_ | refine ed_write rfl rfl ?_
        | (refine g_code ?_; first | refine ec_seq ?_ | refine ec_region ?_ | refine ec_draw ?_ | refine ec_block ?_ | refine ec_skip ?_ | refine ec_ret ?_ | refine ec_condT rfl ?_ | refine ec_condF rfl ?_ | refine ec_condTH rfl (by assumption) ?_ | refine ec_condFH rfl (by assumption) ?_)
        | refine ek_seqN ?_ | refine ek_seqX ?_ | refine ek_seqR ?_ | refine ek_blkN ?_ | refine ek_blkR ?_ | refine ek_blkX ?_ | refine ek_blkY rfl ?_)
      refine sfin (.inr rfl) (by rfl) (by rfl) (by exact ⟨rfl, rfl, rfl⟩) (by rfl) (by rfl) (by rfl) (by first | rfl | (simp; done) | (simp [ints, prs]; done))
    | succ m =>
      have g0 : decide (((m + 1 : Nat) : Int) > 0) = true := decide_eq_true (by omega)
      have g1 : decide (((m + 1 : Nat) : Int) = ((m + 1 : Nat) : Int) ∧ ((b : Nat) : Int) = (pk (dualG (m + 1) b) (R2 (m + 1)) : Nat)) = dualB (m + 1) b := by
        rw [Bool.eq_iff_iff, decide_eq_true_eq, ← hd]; omega
      refine has151.eev rfl rfl ?_
      unfold m151
      repeat' (first
        | (refine g_op ?_; first
          | refine ep_mov rfl ?_ | refine ep_load1 rfl rfl rfl rfl ?_ | refine ep_fieldAddr rfl ?_ | refine sp_loadN rfl rfl rfl rfl rfl ?_
          | refine ep_call0 rfl (by first | exact e2 | exact ev117 _ _ hn) rfl rfl ?_
          | refine sp_call rfl rfl rfl rfl (by first | exact e2 | exact ev117 _ _ hn) ⟨rfl, rfl, rfl, rfl⟩ rfl rfl rfl ?_
          | refine ep_bin rfl rfl (by first | exact s1 | exact b_add (by omega) (by omega) | exact b_sub (by omega) (by omega) | exact b_and (by omega) (by omega) | exact b_or (by omega) (by omega) | exact b_shr (by omega) | exact b_shl (by omega) (by omega) | exact b_lss | exact b_leq | exact b_gtr | exact b_geq | exact b_eql | exact b_neq) ?_
          | refine ep_pickT rfl rfl ?_ | refine ep_pickF rfl rfl ?_ | refine ep_pickTH rfl (by assumption) rfl ?_ | refine ep_pickFH rfl (by assumption) rfl ?_ | refine sp_box rfl rfl rfl rfl rfl ?_ | refine ep_eqa0 rfl rfl ?_
          | refine ep_eqa1 rfl rfl ?_)
        | (refine g_ops ?_; first | refine eo_none ?_ | refine eo_nil ?_ | refine eo_yes rfl ?_ | refine eo_no rfl ?_ | refine eo_und rfl ?_ | refine eo_yesH rfl (by assumption) ?_ | refine eo_noH rfl (by assumption) ?_)
        | (refine g_dops ?_; first | refine ed_none ?_ | refine ed_nil ?_ | refine ed_yes rfl ?_ | refine ed_no rfl ?_ | refine ed_und rfl ?_ | refine ed_yesH rfl (by assumption) ?_ | refine ed_noH rfl (by assumption) ?_)
        | refine ed_same rfl ?_ | refine ed_one rfl rfl rfl rfl ?_ | refine ed_two rfl rfl rfl rfl rfl rfl rfl ?_ | refine ed_write rfl rfl ?_
        | (refine g_code ?_; first | refine ec_seq ?_ | refine ec_region ?_ | refine ec_draw ?_ | refine ec_block ?_ | refine ec_skip ?_ | refine ec_ret ?_ | refine ec_condT rfl ?_ | refine ec_condF rfl ?_ | refine ec_condTH rfl (by assumption) ?_ | refine ec_condFH rfl (by assumption) ?_)
        | refine ek_seqN ?_ | refine ek_seqX ?_ | refine ek_seqR ?_ | refine ek_blkN ?_ | refine ek_blkR ?_ | refine ek_blkX ?_ | refine ek_blkY rfl ?_)
      refine sfin (.inr rfl) (by rfl) (by rfl) (by exact ⟨rfl, rfl, rfl⟩) (by rfl) (by rfl) (by first | rfl | exact congrArg V.bool g1) (by first | rfl | (simp; done) | (simp [ints, prs]; done))
  · have q0 : ((((3 : Nat) : Int)) == 0) = false := by decide
    have q1 : ((((3 : Nat) : Int)) == 1) = false := by decide
    have q2 : ((((3 : Nat) : Int)) == 2) = false := by decide
    have q3 : ((((3 : Nat) : Int)) == 3) = true := by decide
    have e2 := ev79 n b hn hb
    refine has151.eev rfl rfl ?_
    unfold m151
    repeat' (first
      | (refine g_op ?_; first
        | refine ep_mov rfl ?_ | refine ep_load1 rfl rfl rfl rfl ?_ | refine ep_fieldAddr rfl ?_ | refine sp_loadN rfl rfl rfl rfl rfl ?_
        | refine ep_call0 rfl (by first | exact e2 | exact ev117 _ _ hn) rfl rfl ?_
        | refine sp_call rfl rfl rfl rfl (by first | exact e2 | exact ev117 _ _ hn) ⟨rfl, rfl, rfl, rfl⟩ rfl rfl rfl ?_
        | refine ep_bin rfl rfl (by first | exact s1 | exact b_add (by omega) (by omega) | exact b_sub (by omega) (by omega) | exact b_and (by omega) (by omega) | exact b_or (by omega) (by omega) | exact b_shr (by omega) | exact b_shl (by omega) (by omega) | exact b_lss | exact b_leq | exact b_gtr | exact b_geq | exact b_eql | exact b_neq) ?_
        | refine ep_pickT rfl rfl ?_ | refine ep_pickF rfl rfl ?_ | refine ep_pickTH rfl (by assumption) rfl ?_ | refine ep_pickFH rfl (by assumption) rfl ?_ | refine sp_box rfl rfl rfl rfl rfl ?_ | refine ep_eqa0 rfl rfl ?_
        | refine ep_eqa1 rfl rfl ?_)
      | (refine g_ops ?_; first | refine eo_none ?_ | refine eo_nil ?_ | refine eo_yes rfl ?_ | refine eo_no rfl ?_ | refine eo_und rfl ?_ | refine eo_yesH rfl (by assumption) ?_ | refine eo_noH rfl (by assumption) ?_)
      | (refine g_dops ?_; first | refine ed_none ?_ | refine ed_nil ?_ | refine ed_yes rfl ?_ | refine ed_no rfl ?_ | refine ed_und rfl ?_ | refine ed_yesH rfl (by assumption) ?_ | refine ed_noH rfl (by assumption) ?_)
      | refine ed_same rfl ?_ | refine ed_one rfl rfl rfl rfl ?_ | refine ed_two rfl rfl rfl rfl rfl rfl rfl ?_ | refine ed_write rfl rfl ?_
      | (refine g_code ?_; first | refine ec_seq ?_ | refine ec_region ?_ | refine ec_draw ?_ | refine ec_block ?_ | refine ec_skip ?_ | refine ec_ret ?_ | refine ec_condT rfl ?_ | refine ec_condF rfl ?_ | refine ec_condTH rfl (by assumption) ?_ | refine ec_condFH rfl (by assumption) ?_)
      | refine ek_seqN ?_ | refine ek_seqX ?_ | refine ek_seqR ?_ | refine ek_blkN ?_ | refine ek_blkR ?_ | refine ek_blkX ?_ | refine ek_blkY rfl ?_)
    refine sfin (.inr rfl) (by rfl) (by rfl) (by exact ⟨rfl, rfl, rfl⟩) (by rfl) (by rfl) (by rfl) (by first | rfl | (simp; done) | (simp [ints, prs]; done))
  · have q0 : ((((4 : Nat) : Int)) == 0) = false := by decide
    have q1 : ((((4 : Nat) : Int)) == 1) = false := by decide
    have q2 : ((((4 : Nat) : Int)) == 2) = false := by decide
    have q3 : ((((4 : Nat) : Int)) == 3) = false := by decide
    rw [show inC n b 4 = affB n b from rfl, ← aff_eq]
    cases h : affI n b
    · have lp := lp151_0 n b hn hb _ (if_neg (by rw [show allF (fun r => accX b r n == bt b r) 0 (R2 n) = _ from h]; simp))
      refine has151.eev rfl rfl ?_
      unfold m151
      repeat' (first
        | refine sc_loop lp rfl rfl ⟨rfl, rfl, rfl⟩ rfl rfl rfl ?_
        | (refine g_op ?_; first
          | refine ep_mov rfl ?_ | refine ep_load1 rfl rfl rfl rfl ?_ | refine ep_fieldAddr rfl ?_ | refine sp_loadN rfl rfl rfl rfl rfl ?_
          | refine ep_call0 rfl (by first | exact ev117 _ _ hn) rfl rfl ?_
          | refine sp_call rfl rfl rfl rfl (by first | exact ev117 _ _ hn) ⟨rfl, rfl, rfl, rfl⟩ rfl rfl rfl ?_
          | refine ep_bin rfl rfl (by first | exact s1 | exact b_add (by omega) (by omega) | exact b_sub (by omega) (by omega) | exact b_and (by omega) (by omega) | exact b_or (by omega) (by omega) | exact b_shr (by omega) | exact b_shl (by omega) (by omega) | exact b_lss | exact b_leq | exact b_gtr | exact b_geq | exact b_eql | exact b_neq) ?_
          | refine ep_pickT rfl rfl ?_ | refine ep_pickF rfl rfl ?_ | refine ep_pickTH rfl (by assumption) rfl ?_ | refine ep_pickFH rfl (by assumption) rfl ?_ | refine sp_box rfl rfl rfl rfl rfl ?_ | refine ep_eqa0 rfl rfl ?_
          | refine ep_eqa1 rfl rfl ?_)
        | (refine g_ops ?_; first | refine eo_none ?_ | refine eo_nil ?_ | refine eo_yes rfl ?_ | refine eo_no rfl ?_ | refine eo_und rfl ?_ | refine eo_yesH rfl (by assumption) ?_ | refine eo_noH rfl (by assumption) ?_)
        | (refine g_dops ?_; first | refine ed_none ?_ | refine ed_nil ?_ | refine ed_yes rfl ?_ | refine ed_no rfl ?_ | refine ed_und rfl ?_ | refine ed_yesH rfl (by assumption) ?_ | refine ed_noH rfl (by assumption) ?_)
        | refine ed_same rfl ?_ | refine ed_one rfl rfl rfl rfl ?_ | refine ed_two rfl rfl rfl rfl rfl rfl rfl ?_ | refine ed_write rfl rfl ?_
        | (refine g_code ?_; first | refine ec_seq ?_ | refine ec_region ?_ | refine ec_draw ?_ | refine ec_block ?_ | refine ec_skip ?_ | refine ec_ret ?_ | refine ec_condT rfl ?_ | refine ec_condF rfl ?_ | refine ec_condTH rfl (by assumption) ?_ | refine ec_condFH rfl (by assumption) ?_)
        | refine ek_seqN ?_ | refine ek_seqX ?_ | refine ek_seqR ?_ | refine ek_blkN ?_ | refine ek_blkR ?_ | refine ek_blkX ?_ | refine ek_blkY rfl ?_)
      refine sfin (.inr rfl) (by rfl) (by rfl) (by exact ⟨rfl, rfl, rfl⟩) (by rfl) (by rfl) (by rfl) (by first | rfl | (simp; done) | (simp [ints, prs]; done))
    · have lp := lp151_0 n b hn hb _ (if_pos h)
      refine has151.eev rfl rfl ?_
      unfold m151
      repeat' (first
        | refine sc_loop lp rfl rfl ⟨rfl, rfl, rfl⟩ rfl rfl rfl ?_
        | (refine g_op ?_; first
          | refine ep_mov rfl ?_ | refine ep_load1 rfl rfl rfl rfl ?_ | refine ep_fieldAddr rfl ?_ | refine sp_loadN rfl rfl rfl rfl rfl ?_
          | refine ep_call0 rfl (by first | exact ev117 _ _ hn) rfl rfl ?_
          | refine sp_call rfl rfl rfl rfl (by first | exact ev117 _ _ hn) ⟨rfl, rfl, rfl, rfl⟩ rfl rfl rfl ?_
          | refine ep_bin rfl rfl (by first | exact s1 | exact b_add (by omega) (by omega) | exact b_sub (by omega) (by omega) | exact b_and (by omega) (by omega) | exact b_or (by omega) (by omega) | exact b_shr (by omega) | exact b_shl (by omega) (by omega) | exact b_lss | exact b_leq | exact b_gtr | exact b_geq | exact b_eql | exact b_neq) ?_
          | refine ep_pickT rfl rfl ?_ | refine ep_pickF rfl rfl ?_ | refine ep_pickTH rfl (by assumption) rfl ?_ | refine ep_pickFH rfl (by assumption) rfl ?_ | refine sp_box rfl rfl rfl rfl rfl ?_ | refine ep_eqa0 rfl rfl ?_
          | refine ep_eqa1 rfl rfl ?_)
        | (refine g_ops ?_; first | refine eo_none ?_ | refine eo_nil ?_ | refine eo_yes rfl ?_ | refine eo_no rfl ?_ | refine eo_und rfl ?_ | refine eo_yesH rfl (by assumption) ?_ | refine eo_noH rfl (by assumption) ?_)
        | (refine g_dops ?_; first | refine ed_none ?_ | refine ed_nil ?_ | refine ed_yes rfl ?_ | refine ed_no rfl ?_ | refine ed_und rfl ?_ | refine ed_yesH rfl (by assumption) ?_ | refine ed_noH rfl (by assumption) ?_)
        | refine ed_same rfl ?_ | refine ed_one rfl rfl rfl rfl ?_ | refine ed_two rfl rfl rfl rfl rfl rfl rfl ?_ | refine ed_write rfl rfl ?_
        | (refine g_code ?_; first | refine ec_seq ?_ | refine ec_region ?_ | refine ec_draw ?_ | refine ec_block ?_ | refine ec_skip ?_ | refine ec_ret ?_ | refine ec_condT rfl ?_ | refine ec_condF rfl ?_ | refine ec_condTH rfl (by assumption) ?_ | refine ec_condFH rfl (by assumption) ?_)
        | refine ek_seqN ?_ | refine ek_seqX ?_ | refine ek_seqR ?_ | refine ek_blkN ?_ | refine ek_blkR ?_ | refine ek_blkX ?_ | refine ek_blkY rfl ?_)
      refine sfin (.inr rfl) (by rfl) (by rfl) (by exact ⟨rfl, rfl, rfl⟩) (by rfl) (by rfl) (by rfl) (by first | rfl | (simp; done) | (simp [ints, prs]; done))


def inCI (f : Int × Int) (c : Nat) : Bool := inC f.1.toNat f.2.toNat c
def allIC (fs : List (Int × Int)) (c : Nat) : Bool := allF (fun j => inCI (fs.getD j (0, 0)) c) 0 fs.length
def clQ (fs : List (Int × Int)) (m c j : Nat) : Bool := bt m j == 0 || inCI (fs.getD j (0, 0)) c
def clP (fs : List (Int × Int)) (m c : Nat) : Bool := allF (clQ fs m c) 0 fs.length
def clL (fs : List (Int × Int)) : List Nat := selm (allIC fs) idn 5
theorem fget_is {fs : List (Int × Int)} {i : Nat} (h : allFunc fs = true) (hi : i < fs.length) : isFn (fs.getD i (0, 0)).1 (fs.getD i (0, 0)).2 = true := all_get (P := fun j => isFn (fs.getD j (0, 0)).1 (fs.getD j (0, 0)).2) h hi
theorem bt_whole {m j : Nat} (h : j < m) : bt (R2 m - 1) j = 1 := by
  rw [bt_tb]; unfold R2; rw [Nat.testBit_two_pow_sub_one]; simp [h]
theorem clP_whole (fs : List (Int × Int)) (c : Nat) : clP fs (R2 fs.length - 1) c = allIC fs c := by
  unfold clP allIC
  rw [Bool.eq_iff_iff, allF_iff, allF_iff]
  constructor
  · intro h j h1 h2
    have := h j h1 h2
    rw [clQ, bt_whole (by omega)] at this
    simpa using this
  · intro h j h1 h2
    rw [clQ, h j h1 h2]; simp
theorem pk5_lt (P : Nat → Bool) (i : Nat) (h : i ≤ 5) : pk (bn P) i < 32 := by
  have := pk_lt (g := bn P) (n := i) fun r _ => bn_le P r
  have := R2_mono h
  have : R2 5 = 32 := by unfold R2; rfl
  omega
theorem pk_t {P : Nat → Bool} {i : Nat} (h : P i = true) : pk (bn P) (i + 1) = pk (bn P) i ||| R2 i := by
  rw [pk, bn, if_pos h]; unfold R2; rw [Nat.shiftLeft_eq, Nat.one_mul]
theorem pk_f {P : Nat → Bool} {i : Nat} (h : P i = false) : pk (bn P) (i + 1) = pk (bn P) i := by
  rw [pk, bn, if_neg (by rw [h]; simp)]; simp
theorem clL_eq (fs : List (Int × Int)) : selm (fun c => bt (pk (bn (clP fs (R2 fs.length - 1))) 5) c == 1) idn 5 = clL fs := by
  refine selm_congr 5 fun c hc => ⟨?_, fun _ => rfl⟩
  rw [bt_pk (fun r _ => bn_le _ r) hc, ← clP_whole]
  unfold bn; cases clP fs (R2 fs.length - 1) c <;> rfl
-- spec.l02Whole
def m100 : MC := (.seq (.region [⟨(.mov (.k (.int .i64 0))), (some 2), none⟩] false) (.seq (.region [⟨(.mov (.t 0)), (some 3), none⟩, ⟨(.len (.t 3)), (some 4), none⟩, ⟨(.conv .u64 (.t 4)), (some 5), none⟩, ⟨(.bin .shl (.k (.int .i64 1)) (.t 5)), (some 6), none⟩, ⟨(.bin .sub (.t 6) (.k (.int .i64 1))), (some 7), none⟩, ⟨(.mov (.t 7)), (some 2), none⟩] false) .ret))
theorem has100 : Has cx 100 8 m100 [(.tmp 2)] :=
  ⟨⟨Try.f100, Try.f100.body.getD .skip, by kernel_rfl, by kernel_rfl, by kernel_rfl, by kernel_rfl, by kernel_rfl, by kernel_rfl⟩⟩
theorem ev100 (fs : List (Int × Int)) (h8 : fs.length ≤ 8) : Ev cx 100 [.sl 0 0 fs.length] [⟨fns fs, 2, 0, some 0, false⟩] (.int .i64 (R2 fs.length - 1 : Nat)) [⟨fns fs, 2, 0, some 0, false⟩] := by
  have g1 := R2_mono h8
  have g2 : R2 8 = 256 := by unfold R2; rfl
  have g3 := R2_pos fs.length
  refine has100.eev rfl rfl ?_
  unfold m100
  repeat' (first
    | (refine g_op ?_; first
      | refine ep_mov rfl ?_
      | refine ep_bin rfl rfl (by first | exact b_shl1 (by omega) (by omega) | exact b_sub1 (by omega) (by omega) | exact b_add (by omega) (by omega) | exact b_sub (by omega) (by omega) | exact b_and (by omega) (by omega) | exact b_or (by omega) (by omega) | exact b_shr (by omega) | exact b_shl (by omega) (by omega) | exact b_lss | exact b_leq | exact b_gtr | exact b_geq | exact b_eql | exact b_neq) ?_
      | refine ep_conv rfl (by first | exact w_u64 (by omega) (by omega) | exact wrap_id (by omega) (by omega) | rfl) ?_ | refine ep_lenS rfl ?_ | refine ep_lenN rfl ?_ | refine ep_lenE rfl ?_)
    | (refine g_ops ?_; first | refine eo_none ?_ | refine eo_nil ?_)
    | (refine g_code ?_; first | refine ec_seq ?_ | refine ec_region ?_ | refine ec_ret ?_)
    | refine ek_seqN ?_ | refine ek_seqR ?_)
  refine sfin (.inr rfl) (by rfl) (by rfl) (by exact ⟨rfl, rfl, rfl⟩) (by rfl) (by rfl) (by rfl) (by first | rfl | (simp; done) | (simp [ints, prs]; done))
-- spec.l02Classes
def m99_1 : MC := (.seq (.seq (.region [⟨(.mov (.t 8)), (some 13), none⟩, ⟨(.mov (.t 0)), (some 14), none⟩, ⟨(.len (.t 14)), (some 15), none⟩, ⟨(.bin .lss (.t 13) (.t 15)), (some 16), none⟩] false) (.cond (.t 16) .skip (.exit 2))) (.seq (.block 3 (.region [⟨(.mov (.t 7)), (some 19), none⟩, ⟨(.mov (.t 19)), (some 20), none⟩, ⟨(.mov (.t 1)), (some 21), (some (20, true))⟩, ⟨(.mov (.t 8)), (some 22), (some (20, true))⟩, ⟨(.conv .u64 (.t 22)), (some 23), (some (20, true))⟩, ⟨(.bin .shr (.t 21) (.t 23)), (some 24), (some (20, true))⟩, ⟨(.bin .and (.t 24) (.k (.int .i64 1))), (some 25), (some (20, true))⟩, ⟨(.bin .eql (.t 25) (.k (.int .i64 0))), (some 26), (some (20, true))⟩, ⟨(.mov (.t 26)), (some 27), (some (20, true))⟩, ⟨(.mov (.t 0)), (some 28), (some (27, false))⟩, ⟨(.mov (.t 8)), (some 29), (some (27, false))⟩, ⟨(.indexAddr 2 (.t 28) (.t 29)), (some 30), (some (27, false))⟩, ⟨(.load (some 2) (.t 30)), (some 31), (some (27, false))⟩, ⟨(.mov (.t 6)), (some 32), (some (27, false))⟩, ⟨(.call 135 [(.t 31), (.t 32)]), (some 33), (some (27, false))⟩, ⟨(.pick (.t 27) (.k (.bool true)) (.t 33)), (some 34), (some (20, true))⟩, ⟨(.pick (.t 20) (.t 34) (.k (.bool false))), (some 35), none⟩, ⟨(.mov (.t 35)), (some 7), none⟩] false)) (.region [⟨(.mov (.t 8)), (some 17), none⟩, ⟨(.bin .add (.t 17) (.k (.int .i64 1))), (some 18), none⟩, ⟨(.mov (.t 18)), (some 8), none⟩] false)))
def m99_0 : MC := (.seq (.seq (.region [⟨(.mov (.t 6)), (some 9), none⟩, ⟨(.bin .lss (.t 9) (.k (.int .i64 5))), (some 10), none⟩] false) (.cond (.t 10) .skip (.exit 0))) (.seq (.block 1 (.seq (.region [⟨(.mov (.k (.bool true))), (some 7), none⟩] false) (.seq (.seq (.region [⟨(.mov (.k (.int .i64 0))), (some 8), none⟩] false) (.block 2 (.loop m99_1))) (.seq (.region [⟨(.mov (.t 7)), (some 36), none⟩] false) (.cond (.t 36) (.region [⟨(.mov (.t 5)), (some 37), none⟩, ⟨(.mov (.t 6)), (some 38), none⟩, ⟨(.conv .u64 (.t 38)), (some 39), none⟩, ⟨(.bin .shl (.k (.int .i64 1)) (.t 39)), (some 40), none⟩, ⟨(.bin .or (.t 37) (.t 40)), (some 41), none⟩, ⟨(.mov (.t 41)), (some 5), none⟩] false) .skip))))) (.region [⟨(.mov (.t 6)), (some 11), none⟩, ⟨(.bin .add (.t 11) (.k (.int .i64 1))), (some 12), none⟩, ⟨(.mov (.t 12)), (some 6), none⟩] false)))
def m99 : MC := (.seq (.region [⟨(.mov (.k (.int .i64 0))), (some 4), none⟩] false) (.seq (.region [⟨(.mov (.k (.int .i64 0))), (some 5), none⟩] false) (.seq (.seq (.region [⟨(.mov (.k (.int .i64 0))), (some 6), none⟩] false) (.block 0 (.loop m99_0))) (.seq (.region [⟨(.mov (.t 5)), (some 42), none⟩, ⟨(.mov (.t 42)), (some 4), none⟩] false) .ret))))
theorem has99 : Has cx 99 43 m99 [(.tmp 4)] :=
  ⟨⟨Try.f99, Try.f99.body.getD .skip, by kernel_rfl, by kernel_rfl, by kernel_rfl, by kernel_rfl, by kernel_rfl, by kernel_rfl⟩⟩
theorem evl02In (a b : Int) (c : Nat) (h : isFn a b = true) (hc : c < 5) : Ev cx 135 [.agg [.int .i64 a, .int .i64 b], .int .i64 c] [] (.bool (inCI (a, b) c)) [] := by
  obtain ⟨n, b, rfl, rfl, a1, a2, a3⟩ := isFn_nat h
  exact ev135 n b a1 a3 a2 c hc
theorem lp99_1 (fs : List (Int × Int)) (hln : fs.length ≤ 1048576) (hall : allFunc fs = true) (m : Nat) (hm : m < 65536) (h8 : fs.length ≤ 8) (c p : Nat) (hc : c < 5) :
    LpS cx 43 1 m99_1 [(0, .sl 0 0 fs.length), (1, .int .i64 (m : Nat)), (5, .int .i64 (p : Nat)), (6, .int .i64 (c : Nat)), (7, .bool (allF (clQ fs m c) 0 (0))), (8, .int .i64 (0 : Nat))] [⟨fns fs, 2, 0, some 0, false⟩] (⟨.exit 2, [(0, .sl 0 0 fs.length), (1, .int .i64 (m : Nat)), (5, .int .i64 (p : Nat)), (6, .int .i64 (c : Nat)), (7, .bool (allF (clQ fs m c) 0 (fs.length)))], [⟨fns fs, 2, 0, some 0, false⟩]⟩ : Out).x (⟨.exit 2, [(0, .sl 0 0 fs.length), (1, .int .i64 (m : Nat)), (5, .int .i64 (p : Nat)), (6, .int .i64 (c : Nat)), (7, .bool (allF (clQ fs m c) 0 (fs.length)))], [⟨fns fs, 2, 0, some 0, false⟩]⟩ : Out).e (⟨.exit 2, [(0, .sl 0 0 fs.length), (1, .int .i64 (m : Nat)), (5, .int .i64 (p : Nat)), (6, .int .i64 (c : Nat)), (7, .bool (allF (clQ fs m c) 0 (fs.length)))], [⟨fns fs, 2, 0, some 0, false⟩]⟩ : Out).h := by
  refine lp_st (fs.length) (fun _ => ()) (fun i _ => [(0, .sl 0 0 fs.length), (1, .int .i64 (m : Nat)), (5, .int .i64 (p : Nat)), (6, .int .i64 (c : Nat)), (7, .bool (allF (clQ fs m c) 0 (i))), (8, .int .i64 (i : Nat))]) (fun i _ => [⟨fns fs, 2, 0, some 0, false⟩]) (fun _ => (⟨.exit 2, [(0, .sl 0 0 fs.length), (1, .int .i64 (m : Nat)), (5, .int .i64 (p : Nat)), (6, .int .i64 (c : Nat)), (7, .bool (allF (clQ fs m c) 0 (fs.length)))], [⟨fns fs, 2, 0, some 0, false⟩]⟩ : Out)) ?_ ?_ (fs.length) 0 (by omega)
  · intro i u_ hi hu_
    refine ⟨(), rfl, ?_⟩
    have hlt : decide ((i : Int) < (fs.length : Nat)) = true := decide_eq_true (by omega)
    have hz := allF_s (clQ fs m c) i
    have hg := fns_get (l := fs) (j := i) hi
    have hb := bt_le m i
    have b1 : binV .and (.int .i64 (m >>> i : Nat)) (.int .i64 1) = some (.int .i64 (bt m i : Nat)) := b_bt (by omega)
    have b0 := b_shr (k' := .u64) (x := m) (y := i) (by omega)
    cases hA : allF (clQ fs m c) 0 i
    · have hz2 : allF (clQ fs m c) 0 (i + 1) = false := by rw [hz, hA]; rfl
      rw [hz2]
      unfold m99_1
      repeat' (first
        | (refine g_op ?_; first
          | refine ep_mov rfl ?_ | refine sp_loadN rfl rfl rfl rfl rfl ?_
          | refine ep_bin rfl rfl (by first | exact b_add (by omega) (by omega) | exact b_sub (by omega) (by omega) | exact b_and (by omega) (by omega) | exact b_or (by omega) (by omega) | exact b_shr (by omega) | exact b_shl (by omega) (by omega) | exact b_lss | exact b_leq | exact b_gtr | exact b_geq | exact b_eql | exact b_neq) ?_
          | refine ep_pickT rfl rfl ?_ | refine ep_pickF rfl rfl ?_ | refine ep_pickTH rfl (by assumption) rfl ?_ | refine ep_pickFH rfl (by assumption) rfl ?_ | refine ep_conv rfl (by first | exact w_u64 (by omega) (by omega) | exact wrap_id (by omega) (by omega) | rfl) ?_
          | refine ep_lenS rfl ?_ | refine ep_lenN rfl ?_ | refine ep_lenE rfl ?_ | refine sp_idx rfl rfl rfl (by omega) rfl ?_ | refine ep_loadSN rfl rfl rfl (by first | exact prs_get (by omega) | exact fns_get (by omega)) ?_)
        | (refine g_ops ?_; first | refine eo_none ?_ | refine eo_nil ?_ | refine eo_yes rfl ?_ | refine eo_no rfl ?_ | refine eo_und rfl ?_ | refine eo_yesH rfl (by assumption) ?_ | refine eo_noH rfl (by assumption) ?_)
        | (refine g_code ?_; first | refine ec_seq ?_ | refine ec_region ?_ | refine ec_block ?_ | refine ec_skip ?_ | refine ec_exit ?_ | refine ec_condT rfl ?_ | refine ec_condF rfl ?_ | refine ec_condTH rfl (by assumption) ?_ | refine ec_condFH rfl (by assumption) ?_)
        | refine ek_seqN ?_ | refine ek_seqX ?_ | refine ek_blkN ?_ | refine ek_blkR ?_ | refine ek_blkX ?_ | refine ek_blkY rfl ?_)
      exact rnd_on (by rfl) (scmp2 (by rfl) (by rfl) (by exact ⟨rfl, rfl, rfl⟩) (by rfl) (by first | rfl | (simp; done) | (simp [ints, prs]; done)) (by rfl) (by first | rfl | (simp; done) | (simp [ints, prs]; done)))
    by_cases hk : bt m i = 0
    · have hq : (((bt m i : Nat) : Int) == 0) = true := by simp [hk]
      have hz2 : allF (clQ fs m c) 0 (i + 1) = true := by rw [hz, hA, clQ, hk]; rfl
      rw [hz2]
      unfold m99_1
      repeat' (first
        | (refine g_op ?_; first
          | refine ep_mov rfl ?_ | refine sp_loadN rfl rfl rfl rfl rfl ?_
          | refine ep_bin rfl rfl (by first | exact b0 | exact b1 | exact b_add (by omega) (by omega) | exact b_sub (by omega) (by omega) | exact b_and (by omega) (by omega) | exact b_or (by omega) (by omega) | exact b_shr (by omega) | exact b_shl (by omega) (by omega) | exact b_lss | exact b_leq | exact b_gtr | exact b_geq | exact b_eql | exact b_neq) ?_
          | refine ep_pickT rfl rfl ?_ | refine ep_pickF rfl rfl ?_ | refine ep_pickTH rfl (by assumption) rfl ?_ | refine ep_pickFH rfl (by assumption) rfl ?_ | refine ep_conv rfl (by first | exact w_u64 (by omega) (by omega) | exact wrap_id (by omega) (by omega) | rfl) ?_
          | refine ep_lenS rfl ?_ | refine ep_lenN rfl ?_ | refine ep_lenE rfl ?_ | refine sp_idx rfl rfl rfl (by omega) rfl ?_ | refine ep_loadSN rfl rfl rfl (by first | exact prs_get (by omega) | exact fns_get (by omega)) ?_)
        | (refine g_ops ?_; first | refine eo_none ?_ | refine eo_nil ?_ | refine eo_yes rfl ?_ | refine eo_no rfl ?_ | refine eo_und rfl ?_ | refine eo_yesH rfl (by assumption) ?_ | refine eo_noH rfl (by assumption) ?_)
        | (refine g_code ?_; first | refine ec_seq ?_ | refine ec_region ?_ | refine ec_block ?_ | refine ec_skip ?_ | refine ec_exit ?_ | refine ec_condT rfl ?_ | refine ec_condF rfl ?_ | refine ec_condTH rfl (by assumption) ?_ | refine ec_condFH rfl (by assumption) ?_)
        | refine ek_seqN ?_ | refine ek_seqX ?_ | refine ek_blkN ?_ | refine ek_blkR ?_ | refine ek_blkX ?_ | refine ek_blkY rfl ?_)
      exact rnd_on (by rfl) (scmp2 (by rfl) (by rfl) (by exact ⟨rfl, rfl, rfl⟩) (by rfl) (by first | rfl | (simp; done) | (simp [ints, prs]; done)) (by rfl) (by first | rfl | (simp; done) | (simp [ints, prs]; done)))
    have hq : (((bt m i : Nat) : Int) == 0) = false := by simpa using hk
    have hi0 := fget_is hall hi
    have e1 := evl02In _ _ c hi0 hc
    have hz2 : allF (clQ fs m c) 0 (i + 1) = inCI (fs.getD i (0, 0)) c := by rw [hz, hA, clQ, show (bt m i == 0) = false by simpa using hk]; rfl
    rw [hz2]
    unfold m99_1
    repeat' (first
      | refine ep_loadSN rfl rfl rfl hg ?_
      | (refine g_op ?_; first
        | refine ep_mov rfl ?_ | refine sp_loadN rfl rfl rfl rfl rfl ?_
        | refine ep_call0 rfl (by first | exact e1) rfl rfl ?_
        | refine sp_call rfl rfl rfl rfl (by first | exact e1) ⟨rfl, rfl, rfl, rfl⟩ rfl rfl rfl ?_
        | refine ep_bin rfl rfl (by first | exact b0 | exact b1 | exact b_add (by omega) (by omega) | exact b_sub (by omega) (by omega) | exact b_and (by omega) (by omega) | exact b_or (by omega) (by omega) | exact b_shr (by omega) | exact b_shl (by omega) (by omega) | exact b_lss | exact b_leq | exact b_gtr | exact b_geq | exact b_eql | exact b_neq) ?_
        | refine ep_pickT rfl rfl ?_ | refine ep_pickF rfl rfl ?_ | refine ep_pickTH rfl (by assumption) rfl ?_ | refine ep_pickFH rfl (by assumption) rfl ?_ | refine ep_conv rfl (by first | exact w_u64 (by omega) (by omega) | exact wrap_id (by omega) (by omega) | rfl) ?_
        | refine ep_lenS rfl ?_ | refine ep_lenN rfl ?_ | refine ep_lenE rfl ?_ | refine sp_idx rfl rfl rfl (by omega) rfl ?_ | refine ep_loadSN rfl rfl rfl (by first | exact prs_get (by omega) | exact fns_get (by omega)) ?_)
      | (refine g_ops ?_; first | refine eo_none ?_ | refine eo_nil ?_ | refine eo_yes rfl ?_ | refine eo_no rfl ?_ | refine eo_und rfl ?_ | refine eo_yesH rfl (by assumption) ?_ | refine eo_noH rfl (by assumption) ?_)
      | (refine g_code ?_; first | refine ec_seq ?_ | refine ec_region ?_ | refine ec_block ?_ | refine ec_skip ?_ | refine ec_exit ?_ | refine ec_condT rfl ?_ | refine ec_condF rfl ?_ | refine ec_condTH rfl (by assumption) ?_ | refine ec_condFH rfl (by assumption) ?_)
      | refine ek_seqN ?_ | refine ek_seqX ?_ | refine ek_blkN ?_ | refine ek_blkR ?_ | refine ek_blkX ?_ | refine ek_blkY rfl ?_)
    exact rnd_on (by rfl) (scmp2 (by rfl) (by rfl) (by exact ⟨rfl, rfl, rfl⟩) (by rfl) (by first | rfl | (simp; done) | (simp [ints, prs]; done)) (by rfl) (by first | rfl | (simp; done) | (simp [ints, prs]; done)))
  · intro u_ hu_
    have hlt : decide (((fs.length : Nat) : Int) < (fs.length : Nat)) = false := decide_eq_false (by omega)
    unfold m99_1
    repeat' (first
      | (refine g_op ?_; first
        | refine ep_mov rfl ?_ | refine sp_loadN rfl rfl rfl rfl rfl ?_
        | refine ep_bin rfl rfl (by first | exact b_add (by omega) (by omega) | exact b_sub (by omega) (by omega) | exact b_and (by omega) (by omega) | exact b_or (by omega) (by omega) | exact b_shr (by omega) | exact b_shl (by omega) (by omega) | exact b_lss | exact b_leq | exact b_gtr | exact b_geq | exact b_eql | exact b_neq) ?_
        | refine ep_pickT rfl rfl ?_ | refine ep_pickF rfl rfl ?_ | refine ep_pickTH rfl (by assumption) rfl ?_ | refine ep_pickFH rfl (by assumption) rfl ?_ | refine ep_conv rfl (by first | exact w_u64 (by omega) (by omega) | exact wrap_id (by omega) (by omega) | rfl) ?_
        | refine ep_lenS rfl ?_ | refine ep_lenN rfl ?_ | refine ep_lenE rfl ?_ | refine sp_idx rfl rfl rfl (by omega) rfl ?_ | refine ep_loadSN rfl rfl rfl (by first | exact prs_get (by omega) | exact fns_get (by omega)) ?_)
      | (refine g_ops ?_; first | refine eo_none ?_ | refine eo_nil ?_ | refine eo_yes rfl ?_ | refine eo_no rfl ?_ | refine eo_und rfl ?_ | refine eo_yesH rfl (by assumption) ?_ | refine eo_noH rfl (by assumption) ?_)
      | (refine g_code ?_; first | refine ec_seq ?_ | refine ec_region ?_ | refine ec_block ?_ | refine ec_skip ?_ | refine ec_exit ?_ | refine ec_condT rfl ?_ | refine ec_condF rfl ?_ | refine ec_condTH rfl (by assumption) ?_ | refine ec_condFH rfl (by assumption) ?_)
      | refine ek_seqN ?_ | refine ek_seqX ?_ | refine ek_blkN ?_ | refine ek_blkR ?_ | refine ek_blkX ?_ | refine ek_blkY rfl ?_)
    exact rnd_out (by rfl) (by simp) (scmp2 (by rfl) (by rfl) (by exact ⟨rfl, rfl, rfl⟩) (by rfl) (by first | rfl | (simp; done) | (simp [ints, prs]; done)) (by rfl) (by first | rfl | (simp; done) | (simp [ints, prs]; done)))

theorem lp99_0 (fs : List (Int × Int)) (hln : fs.length ≤ 1048576) (hall : allFunc fs = true) (m : Nat) (hm : m < 65536) (h8 : fs.length ≤ 8) :
    LpS cx 43 1 m99_0 [(0, .sl 0 0 fs.length), (1, .int .i64 (m : Nat)), (5, .int .i64 (pk (bn (clP fs m)) (0) : Nat)), (6, .int .i64 (0 : Nat))] [⟨fns fs, 2, 0, some 0, false⟩] (⟨.exit 0, [(5, .int .i64 (pk (bn (clP fs m)) (5) : Nat))], [⟨fns fs, 2, 0, some 0, false⟩]⟩ : Out).x (⟨.exit 0, [(5, .int .i64 (pk (bn (clP fs m)) (5) : Nat))], [⟨fns fs, 2, 0, some 0, false⟩]⟩ : Out).e (⟨.exit 0, [(5, .int .i64 (pk (bn (clP fs m)) (5) : Nat))], [⟨fns fs, 2, 0, some 0, false⟩]⟩ : Out).h := by
  refine lp_st (5) (fun _ => ()) (fun i _ => [(0, .sl 0 0 fs.length), (1, .int .i64 (m : Nat)), (5, .int .i64 (pk (bn (clP fs m)) (i) : Nat)), (6, .int .i64 (i : Nat))]) (fun i _ => [⟨fns fs, 2, 0, some 0, false⟩]) (fun _ => (⟨.exit 0, [(5, .int .i64 (pk (bn (clP fs m)) (5) : Nat))], [⟨fns fs, 2, 0, some 0, false⟩]⟩ : Out)) ?_ ?_ (5) 0 (by omega)
  · intro i u_ hi hu_
    refine ⟨(), rfl, ?_⟩
    have hlt : decide ((i : Int) < (5 : Nat)) = true := decide_eq_true (by omega)
    have hlt5 : decide ((i : Int) < 5) = true := decide_eq_true (by omega)
    have hp5 := pk5_lt (clP fs m) i (by omega)
    have lp := lp99_1 fs hln hall m hm h8 i (pk (bn (clP fs m)) i) hi
    rw [allF_z, show allF (clQ fs m i) 0 fs.length = clP fs m i from rfl] at lp
    have g1 := R2_mono (i := i) (n := 4) (by omega)
    have g2 : R2 4 = 16 := by unfold R2; rfl
    cases hP : clP fs m i
    · rw [hP] at lp
      rw [pk_f hP]
      unfold m99_0
      repeat' (first
        | refine sc_loop lp rfl rfl ⟨rfl, rfl, rfl⟩ rfl rfl rfl ?_
        | (refine g_op ?_; first
          | refine ep_mov rfl ?_
          | refine ep_bin rfl rfl (by first | exact b_add (by omega) (by omega) | exact b_sub (by omega) (by omega) | exact b_and (by omega) (by omega) | exact b_or (by omega) (by omega) | exact b_shr (by omega) | exact b_shl (by omega) (by omega) | exact b_lss | exact b_leq | exact b_gtr | exact b_geq | exact b_eql | exact b_neq) ?_
          | refine ep_conv rfl (by first | exact w_u64 (by omega) (by omega) | exact wrap_id (by omega) (by omega) | rfl) ?_)
        | (refine g_ops ?_; first | refine eo_none ?_ | refine eo_nil ?_)
        | (refine g_code ?_; first | refine ec_seq ?_ | refine ec_region ?_ | refine ec_block ?_ | refine ec_skip ?_ | refine ec_exit ?_ | refine ec_condT rfl ?_ | refine ec_condF rfl ?_ | refine ec_condTH rfl (by assumption) ?_ | refine ec_condFH rfl (by assumption) ?_)
        | refine ek_seqN ?_ | refine ek_seqX ?_ | refine ek_seqR ?_ | refine ek_blkN ?_ | refine ek_blkR ?_ | refine ek_blkX ?_ | refine ek_blkY rfl ?_)
      exact rnd_on (by rfl) (scmp2 (by rfl) (by rfl) (by exact ⟨rfl, rfl, rfl⟩) (by rfl) (by first | rfl | (simp; done) | (simp [ints, prs]; done)) (by rfl) (by first | rfl | (simp; done) | (simp [ints, prs]; done)))
    rw [hP] at lp
    rw [pk_t hP]
    unfold m99_0
    repeat' (first
      | refine sc_loop lp rfl rfl ⟨rfl, rfl, rfl⟩ rfl rfl rfl ?_
      | (refine g_op ?_; first
        | refine ep_mov rfl ?_
        | refine ep_bin rfl rfl (by first | exact b_shl1 (by omega) (by omega) | exact b_or (x := pk (bn (clP fs m)) i) (by omega) (by omega) | exact b_add (by omega) (by omega) | exact b_sub (by omega) (by omega) | exact b_and (by omega) (by omega) | exact b_or (by omega) (by omega) | exact b_shr (by omega) | exact b_shl (by omega) (by omega) | exact b_lss | exact b_leq | exact b_gtr | exact b_geq | exact b_eql | exact b_neq) ?_
        | refine ep_conv rfl (by first | exact w_u64 (by omega) (by omega) | exact wrap_id (by omega) (by omega) | rfl) ?_)
      | (refine g_ops ?_; first | refine eo_none ?_ | refine eo_nil ?_)
      | (refine g_code ?_; first | refine ec_seq ?_ | refine ec_region ?_ | refine ec_block ?_ | refine ec_skip ?_ | refine ec_exit ?_ | refine ec_condT rfl ?_ | refine ec_condF rfl ?_ | refine ec_condTH rfl (by assumption) ?_ | refine ec_condFH rfl (by assumption) ?_)
      | refine ek_seqN ?_ | refine ek_seqX ?_ | refine ek_seqR ?_ | refine ek_blkN ?_ | refine ek_blkR ?_ | refine ek_blkX ?_ | refine ek_blkY rfl ?_)
    exact rnd_on (by rfl) (scmp2 (by rfl) (by rfl) (by exact ⟨rfl, rfl, rfl⟩) (by rfl) (by first | rfl | (simp; done) | (simp [ints, prs]; done)) (by rfl) (by first | rfl | (simp; done) | (simp [ints, prs]; done)))
  · intro u_ hu_
    have hlt : decide (((5 : Nat) : Int) < (5 : Nat)) = false := decide_eq_false (by omega)
    have hlt5 : decide (((5 : Nat) : Int) < 5) = false := by decide
    unfold m99_0
    repeat' (first
      | (refine g_op ?_; first
        | refine ep_mov rfl ?_
        | refine ep_bin rfl rfl (by first | exact b_add (by omega) (by omega) | exact b_sub (by omega) (by omega) | exact b_and (by omega) (by omega) | exact b_or (by omega) (by omega) | exact b_shr (by omega) | exact b_shl (by omega) (by omega) | exact b_lss | exact b_leq | exact b_gtr | exact b_geq | exact b_eql | exact b_neq) ?_
        | refine ep_conv rfl (by first | exact w_u64 (by omega) (by omega) | exact wrap_id (by omega) (by omega) | rfl) ?_)
      | (refine g_ops ?_; first | refine eo_none ?_ | refine eo_nil ?_)
      | (refine g_code ?_; first | refine ec_seq ?_ | refine ec_region ?_ | refine ec_block ?_ | refine ec_skip ?_ | refine ec_exit ?_ | refine ec_condT rfl ?_ | refine ec_condF rfl ?_ | refine ec_condTH rfl (by assumption) ?_ | refine ec_condFH rfl (by assumption) ?_)
      | refine ek_seqN ?_ | refine ek_seqX ?_ | refine ek_seqR ?_ | refine ek_blkN ?_ | refine ek_blkR ?_ | refine ek_blkX ?_ | refine ek_blkY rfl ?_)
    exact rnd_out (by rfl) (by simp) (scmp2 (by rfl) (by rfl) (by exact ⟨rfl, rfl, rfl⟩) (by rfl) (by first | rfl | (simp; done) | (simp [ints, prs]; done)) (by rfl) (by first | rfl | (simp; done) | (simp [ints, prs]; done)))

theorem ev99 (fs : List (Int × Int)) (hln : fs.length ≤ 1048576) (hall : allFunc fs = true) (m : Nat) (hm : m < 65536) (h8 : fs.length ≤ 8) : Ev cx 99 [.sl 0 0 fs.length, .int .i64 m] [⟨fns fs, 2, 0, some 0, false⟩] (.int .i64 (pk (bn (clP fs m)) 5 : Nat)) [⟨fns fs, 2, 0, some 0, false⟩] := by
  have lp := lp99_0 fs hln hall m hm h8
  rw [show pk (bn (clP fs m)) 0 = 0 from rfl] at lp
  refine has99.eev rfl rfl ?_
  unfold m99
  repeat' (first
    | refine sc_loop lp rfl rfl ⟨rfl, rfl, rfl⟩ rfl rfl rfl ?_
    | (refine g_op ?_; first
      | refine ep_mov rfl ?_)
    | (refine g_ops ?_; first | refine eo_none ?_ | refine eo_nil ?_)
    | (refine g_code ?_; first | refine ec_seq ?_ | refine ec_region ?_ | refine ec_block ?_ | refine ec_ret ?_)
    | refine ek_seqN ?_ | refine ek_seqX ?_ | refine ek_seqR ?_ | refine ek_blkN ?_ | refine ek_blkR ?_ | refine ek_blkX ?_ | refine ek_blkY rfl ?_)
  refine sfin (.inr rfl) (by rfl) (by rfl) (by exact ⟨rfl, rfl, rfl⟩) (by rfl) (by rfl) (by rfl) (by first | rfl | (simp; done) | (simp [ints, prs]; done))
-- spec.ClassesOf
def m47_0 : MC := (.seq (.seq (.region [⟨(.mov (.t 7)), (some 18), none⟩, ⟨(.bin .lss (.t 18) (.k (.int .i64 5))), (some 19), none⟩] false) (.cond (.t 19) .skip (.exit 0))) (.seq (.block 1 (.seq (.region [⟨(.mov (.t 5)), (some 22), none⟩, ⟨(.mov (.t 7)), (some 23), none⟩, ⟨(.conv .u64 (.t 23)), (some 24), none⟩, ⟨(.bin .shr (.t 22) (.t 24)), (some 25), none⟩, ⟨(.bin .and (.t 25) (.k (.int .i64 1))), (some 26), none⟩, ⟨(.bin .eql (.t 26) (.k (.int .i64 1))), (some 27), none⟩] false) (.cond (.t 27) (.region [⟨(.mov (.t 6)), (some 28), none⟩, ⟨(.mov (.t 7)), (some 29), none⟩, ⟨(.bslice 1 [(.int .i64 0)] 1 [(0, (1, (.t 29)))]), (some 30), none⟩, ⟨(.append 1 8 (.t 28) (.t 30)), (some 31), none⟩, ⟨(.mov (.t 31)), (some 6), none⟩] false) .skip))) (.region [⟨(.mov (.t 7)), (some 20), none⟩, ⟨(.bin .add (.t 20) (.k (.int .i64 1))), (some 21), none⟩, ⟨(.mov (.t 21)), (some 7), none⟩] false)))
def m47 : MC := (.seq (.region [⟨(.mov (.k .nils)), (some 2), none⟩, ⟨(.mov (.k (.int .i64 0))), (some 3), none⟩] false) (.seq (.seq (.region [⟨(.mov (.t 0)), (some 8), none⟩, ⟨(.call 83 [(.t 8)]), (some 9), none⟩, ⟨(.mov (.t 9)), (some 4), none⟩] false) (.seq (.region [⟨(.mov (.t 4)), (some 10), none⟩, ⟨(.bin .neq (.t 10) (.k (.int .i64 0))), (some 11), none⟩] false) (.cond (.t 11) (.seq (.region [⟨(.mov (.t 4)), (some 12), none⟩, ⟨(.mov (.k .nils)), (some 2), none⟩, ⟨(.mov (.t 12)), (some 3), none⟩] false) .ret) .skip))) (.seq (.region [⟨(.mov (.t 0)), (some 13), none⟩, ⟨(.mov (.t 0)), (some 14), none⟩, ⟨(.call 100 [(.t 14)]), (some 15), none⟩, ⟨(.call 99 [(.t 13), (.t 15)]), (some 16), none⟩, ⟨.empt, (some 17), none⟩, ⟨(.mov (.t 16)), (some 5), none⟩, ⟨(.mov (.t 17)), (some 6), none⟩] false) (.seq (.seq (.region [⟨(.mov (.k (.int .i64 0))), (some 7), none⟩] false) (.block 0 (.loop m47_0))) (.seq (.region [⟨(.mov (.t 6)), (some 32), none⟩, ⟨(.mov (.t 32)), (some 2), none⟩, ⟨(.mov (.k (.int .i64 0))), (some 3), none⟩] false) .ret)))))
theorem has47 : Has cx 47 33 m47 [(.tmp 2), (.tmp 3)] :=
  ⟨⟨Try.f47, Try.f47.body.getD .skip, by kernel_rfl, by kernel_rfl, by kernel_rfl, by kernel_rfl, by kernel_rfl, by kernel_rfl⟩⟩
theorem lp47_0 (fs : List (Int × Int)) (w : Nat) (hw : w < 32) (o : Out) (ho : (match selm (fun c => bt w c == 1) (idn) (5) with | [] => (⟨.exit 0, [(6, .emp)], [⟨fns fs, 2, 0, some 0, false⟩]⟩ : Out) | x :: xs => ⟨.exit 0, [(6, .sl 1 0 (x :: xs).length)], [⟨fns fs, 2, 0, some 0, false⟩, ⟨ints (x :: xs), 1, 1, some 0, false⟩]⟩) = o) :
    LpS cx 33 1 m47_0 [(5, .int .i64 (w : Nat)), (6, .emp), (7, .int .i64 (0 : Nat))] [⟨fns fs, 2, 0, some 0, false⟩] o.x o.e o.h := by
  subst ho
  refine lp_st (5) (selm (fun c => bt w c == 1) (idn)) (fun i s => match s with | [] => [(5, .int .i64 (w : Nat)), (6, .emp), (7, .int .i64 (i : Nat))] | x :: xs => [(5, .int .i64 (w : Nat)), (6, .sl 1 0 (x :: xs).length), (7, .int .i64 (i : Nat))]) (fun i s => match s with | [] => [⟨fns fs, 2, 0, some 0, false⟩] | x :: xs => [⟨fns fs, 2, 0, some 0, false⟩, ⟨ints (x :: xs), 1, 1, some 0, false⟩]) (fun s => match s with | [] => ⟨.exit 0, [(6, .emp)], [⟨fns fs, 2, 0, some 0, false⟩]⟩ | x :: xs => ⟨.exit 0, [(6, .sl 1 0 (x :: xs).length)], [⟨fns fs, 2, 0, some 0, false⟩, ⟨ints (x :: xs), 1, 1, some 0, false⟩]⟩) ?_ ?_ (5) 0 (by omega)
  · intro i s hi hs
    have hlt : decide ((i : Int) < (5 : Nat)) = true := decide_eq_true (by omega)
    have hle : decide ((i : Int) ≤ (5 : Nat) - 1) = true := decide_eq_true (by omega)
    have hlen : s.length ≤ 16 := by have := selm_len (fun c => bt w c == 1) (idn) i; rw [hs] at this; omega
    have hlt5 : decide ((i : Int) < 5) = true := decide_eq_true (by omega)
    have hq := ieq1 (bt w i)
    have b0 := b_shr (k' := .u64) (x := w) (y := i) (by omega)
    have b1 : binV .and (.int .i64 (w >>> i : Nat)) (.int .i64 1) = some (.int .i64 (bt w i : Nat)) := b_bt (by omega)
    cases hp : (fun c => bt w c == 1) i with
    | true =>
      have hp' : (bt w i == 1) = true := hp
      rw [hp'] at hq
      cases s with
      | nil =>
        refine ⟨[(idn) i], by rw [selm_t (p := fun c => bt w c == 1) hp, hs]; try rfl, ?_⟩
        unfold m47_0
        repeat' (first
          | (refine g_op ?_; first
            | refine ep_mov rfl ?_
            | refine ep_bin rfl rfl (by first | exact b0 | exact b1 | exact b_add (by omega) (by omega) | exact b_sub (by omega) (by omega) | exact b_and (by omega) (by omega) | exact b_or (by omega) (by omega) | exact b_shr (by omega) | exact b_shl (by omega) (by omega) | exact b_lss | exact b_leq | exact b_gtr | exact b_geq | exact b_eql | exact b_neq) ?_
            | refine ep_conv rfl (by first | exact w_u64 (by omega) (by omega) | exact wrap_id (by omega) (by omega) | rfl) ?_ | refine sp_bslice rfl rfl rfl rfl rfl ?_ | refine sp_push0 rfl (by first | exact .inl rfl | exact .inr rfl) rfl rfl rfl rfl rfl (by decide) rfl rfl rfl ?_
            | refine sp_push rfl rfl rfl rfl rfl rfl rfl (by first | exact ints_len _ | exact prs_len _ _ | exact zints_len _) (by omega) (Nat.zero_le _) rfl rfl rfl rfl rfl ?_)
          | (refine g_ops ?_; first | refine eo_none ?_ | refine eo_nil ?_)
          | (refine g_code ?_; first | refine ec_seq ?_ | refine ec_region ?_ | refine ec_block ?_ | refine ec_skip ?_ | refine ec_exit ?_ | refine ec_condT rfl ?_ | refine ec_condF rfl ?_ | refine ec_condTH rfl (by assumption) ?_ | refine ec_condFH rfl (by assumption) ?_)
          | refine ek_seqN ?_ | refine ek_seqX ?_ | refine ek_blkN ?_ | refine ek_blkR ?_ | refine ek_blkX ?_ | refine ek_blkY rfl ?_)
        exact rnd_on (by rfl) (scmp2 (by rfl) (by rfl) (by exact ⟨rfl, rfl, rfl⟩) (by rfl) (by first | rfl | (simp; done) | (simp [ints, prs]; done)) (by rfl) (by first | rfl | (simp; done) | (simp [ints, prs]; done)))
      | cons x xs =>
        refine ⟨(x :: xs) ++ [(idn) i], by rw [selm_t (p := fun c => bt w c == 1) hp, hs]; try rfl, ?_⟩
        unfold m47_0
        repeat' (first
          | (refine g_op ?_; first
            | refine ep_mov rfl ?_
            | refine ep_bin rfl rfl (by first | exact b0 | exact b1 | exact b_add (by omega) (by omega) | exact b_sub (by omega) (by omega) | exact b_and (by omega) (by omega) | exact b_or (by omega) (by omega) | exact b_shr (by omega) | exact b_shl (by omega) (by omega) | exact b_lss | exact b_leq | exact b_gtr | exact b_geq | exact b_eql | exact b_neq) ?_
            | refine ep_conv rfl (by first | exact w_u64 (by omega) (by omega) | exact wrap_id (by omega) (by omega) | rfl) ?_ | refine sp_bslice rfl rfl rfl rfl rfl ?_ | refine sp_push0 rfl (by first | exact .inl rfl | exact .inr rfl) rfl rfl rfl rfl rfl (by decide) rfl rfl rfl ?_
            | refine sp_push rfl rfl rfl rfl rfl rfl rfl (by first | exact ints_len _ | exact prs_len _ _ | exact zints_len _) (by omega) (Nat.zero_le _) rfl rfl rfl rfl rfl ?_)
          | (refine g_ops ?_; first | refine eo_none ?_ | refine eo_nil ?_)
          | (refine g_code ?_; first | refine ec_seq ?_ | refine ec_region ?_ | refine ec_block ?_ | refine ec_skip ?_ | refine ec_exit ?_ | refine ec_condT rfl ?_ | refine ec_condF rfl ?_ | refine ec_condTH rfl (by assumption) ?_ | refine ec_condFH rfl (by assumption) ?_)
          | refine ek_seqN ?_ | refine ek_seqX ?_ | refine ek_blkN ?_ | refine ek_blkR ?_ | refine ek_blkX ?_ | refine ek_blkY rfl ?_)
        exact rnd_on (by rfl) (scmp2 (by rfl) (by rfl) (by exact ⟨rfl, rfl, rfl⟩) (by rfl) (by first | rfl | (simp; done) | (simp [ints, prs]; done)) (by rfl) (by first | rfl | (simp; done) | (simp [ints, prs]; done)))
    | false =>
      have hp' : (bt w i == 1) = false := hp
      rw [hp'] at hq
      cases s with
      | nil =>
        refine ⟨[], by rw [selm_f (p := fun c => bt w c == 1) hp, hs]; try rfl, ?_⟩
        unfold m47_0
        repeat' (first
          | (refine g_op ?_; first
            | refine ep_mov rfl ?_
            | refine ep_bin rfl rfl (by first | exact b0 | exact b1 | exact b_add (by omega) (by omega) | exact b_sub (by omega) (by omega) | exact b_and (by omega) (by omega) | exact b_or (by omega) (by omega) | exact b_shr (by omega) | exact b_shl (by omega) (by omega) | exact b_lss | exact b_leq | exact b_gtr | exact b_geq | exact b_eql | exact b_neq) ?_
            | refine ep_conv rfl (by first | exact w_u64 (by omega) (by omega) | exact wrap_id (by omega) (by omega) | rfl) ?_ | refine sp_bslice rfl rfl rfl rfl rfl ?_ | refine sp_push0 rfl (by first | exact .inl rfl | exact .inr rfl) rfl rfl rfl rfl rfl (by decide) rfl rfl rfl ?_
            | refine sp_push rfl rfl rfl rfl rfl rfl rfl (by first | exact ints_len _ | exact prs_len _ _ | exact zints_len _) (by omega) (Nat.zero_le _) rfl rfl rfl rfl rfl ?_)
          | (refine g_ops ?_; first | refine eo_none ?_ | refine eo_nil ?_)
          | (refine g_code ?_; first | refine ec_seq ?_ | refine ec_region ?_ | refine ec_block ?_ | refine ec_skip ?_ | refine ec_exit ?_ | refine ec_condT rfl ?_ | refine ec_condF rfl ?_ | refine ec_condTH rfl (by assumption) ?_ | refine ec_condFH rfl (by assumption) ?_)
          | refine ek_seqN ?_ | refine ek_seqX ?_ | refine ek_blkN ?_ | refine ek_blkR ?_ | refine ek_blkX ?_ | refine ek_blkY rfl ?_)
        exact rnd_on (by rfl) (scmp2 (by rfl) (by rfl) (by exact ⟨rfl, rfl, rfl⟩) (by rfl) (by first | rfl | (simp; done) | (simp [ints, prs]; done)) (by rfl) (by first | rfl | (simp; done) | (simp [ints, prs]; done)))
      | cons x xs =>
        refine ⟨x :: xs, by rw [selm_f (p := fun c => bt w c == 1) hp, hs]; try rfl, ?_⟩
        unfold m47_0
        repeat' (first
          | (refine g_op ?_; first
            | refine ep_mov rfl ?_
            | refine ep_bin rfl rfl (by first | exact b0 | exact b1 | exact b_add (by omega) (by omega) | exact b_sub (by omega) (by omega) | exact b_and (by omega) (by omega) | exact b_or (by omega) (by omega) | exact b_shr (by omega) | exact b_shl (by omega) (by omega) | exact b_lss | exact b_leq | exact b_gtr | exact b_geq | exact b_eql | exact b_neq) ?_
            | refine ep_conv rfl (by first | exact w_u64 (by omega) (by omega) | exact wrap_id (by omega) (by omega) | rfl) ?_ | refine sp_bslice rfl rfl rfl rfl rfl ?_ | refine sp_push0 rfl (by first | exact .inl rfl | exact .inr rfl) rfl rfl rfl rfl rfl (by decide) rfl rfl rfl ?_
            | refine sp_push rfl rfl rfl rfl rfl rfl rfl (by first | exact ints_len _ | exact prs_len _ _ | exact zints_len _) (by omega) (Nat.zero_le _) rfl rfl rfl rfl rfl ?_)
          | (refine g_ops ?_; first | refine eo_none ?_ | refine eo_nil ?_)
          | (refine g_code ?_; first | refine ec_seq ?_ | refine ec_region ?_ | refine ec_block ?_ | refine ec_skip ?_ | refine ec_exit ?_ | refine ec_condT rfl ?_ | refine ec_condF rfl ?_ | refine ec_condTH rfl (by assumption) ?_ | refine ec_condFH rfl (by assumption) ?_)
          | refine ek_seqN ?_ | refine ek_seqX ?_ | refine ek_blkN ?_ | refine ek_blkR ?_ | refine ek_blkX ?_ | refine ek_blkY rfl ?_)
        exact rnd_on (by rfl) (scmp2 (by rfl) (by rfl) (by exact ⟨rfl, rfl, rfl⟩) (by rfl) (by first | rfl | (simp; done) | (simp [ints, prs]; done)) (by rfl) (by first | rfl | (simp; done) | (simp [ints, prs]; done)))
  · intro s hs
    have hlt : decide (((5 : Nat) : Int) < (5 : Nat)) = false := decide_eq_false (by omega)
    have hle : decide (((5 : Nat) : Int) ≤ (5 : Nat) - 1) = false := decide_eq_false (by omega)
    have hlt5 : decide (((5 : Nat) : Int) < 5) = false := by decide
    cases s with
    | nil =>
      unfold m47_0
      repeat' (first
        | (refine g_op ?_; first
          | refine ep_mov rfl ?_
          | refine ep_bin rfl rfl (by first | exact b_add (by omega) (by omega) | exact b_sub (by omega) (by omega) | exact b_and (by omega) (by omega) | exact b_or (by omega) (by omega) | exact b_shr (by omega) | exact b_shl (by omega) (by omega) | exact b_lss | exact b_leq | exact b_gtr | exact b_geq | exact b_eql | exact b_neq) ?_
          | refine ep_conv rfl (by first | exact w_u64 (by omega) (by omega) | exact wrap_id (by omega) (by omega) | rfl) ?_ | refine sp_bslice rfl rfl rfl rfl rfl ?_ | refine sp_push0 rfl (by first | exact .inl rfl | exact .inr rfl) rfl rfl rfl rfl rfl (by decide) rfl rfl rfl ?_
          | refine sp_push rfl rfl rfl rfl rfl rfl rfl (by first | exact ints_len _ | exact prs_len _ _ | exact zints_len _) (by omega) (Nat.zero_le _) rfl rfl rfl rfl rfl ?_)
        | (refine g_ops ?_; first | refine eo_none ?_ | refine eo_nil ?_)
        | (refine g_code ?_; first | refine ec_seq ?_ | refine ec_region ?_ | refine ec_block ?_ | refine ec_skip ?_ | refine ec_exit ?_ | refine ec_condT rfl ?_ | refine ec_condF rfl ?_ | refine ec_condTH rfl (by assumption) ?_ | refine ec_condFH rfl (by assumption) ?_)
        | refine ek_seqN ?_ | refine ek_seqX ?_ | refine ek_blkN ?_ | refine ek_blkR ?_ | refine ek_blkX ?_ | refine ek_blkY rfl ?_)
      exact rnd_out (by rfl) (by simp) (scmp2 (by rfl) (by rfl) (by exact ⟨rfl, rfl, rfl⟩) (by rfl) (by first | rfl | (simp; done) | (simp [ints, prs]; done)) (by rfl) (by first | rfl | (simp; done) | (simp [ints, prs]; done)))
    | cons x xs =>
      unfold m47_0
      repeat' (first
        | (refine g_op ?_; first
          | refine ep_mov rfl ?_
          | refine ep_bin rfl rfl (by first | exact b_add (by omega) (by omega) | exact b_sub (by omega) (by omega) | exact b_and (by omega) (by omega) | exact b_or (by omega) (by omega) | exact b_shr (by omega) | exact b_shl (by omega) (by omega) | exact b_lss | exact b_leq | exact b_gtr | exact b_geq | exact b_eql | exact b_neq) ?_
          | refine ep_conv rfl (by first | exact w_u64 (by omega) (by omega) | exact wrap_id (by omega) (by omega) | rfl) ?_ | refine sp_bslice rfl rfl rfl rfl rfl ?_ | refine sp_push0 rfl (by first | exact .inl rfl | exact .inr rfl) rfl rfl rfl rfl rfl (by decide) rfl rfl rfl ?_
          | refine sp_push rfl rfl rfl rfl rfl rfl rfl (by first | exact ints_len _ | exact prs_len _ _ | exact zints_len _) (by omega) (Nat.zero_le _) rfl rfl rfl rfl rfl ?_)
        | (refine g_ops ?_; first | refine eo_none ?_ | refine eo_nil ?_)
        | (refine g_code ?_; first | refine ec_seq ?_ | refine ec_region ?_ | refine ec_block ?_ | refine ec_skip ?_ | refine ec_exit ?_ | refine ec_condT rfl ?_ | refine ec_condF rfl ?_ | refine ec_condTH rfl (by assumption) ?_ | refine ec_condFH rfl (by assumption) ?_)
        | refine ek_seqN ?_ | refine ek_seqX ?_ | refine ek_blkN ?_ | refine ek_blkR ?_ | refine ek_blkX ?_ | refine ek_blkY rfl ?_)
      exact rnd_out (by rfl) (by simp) (scmp2 (by rfl) (by rfl) (by exact ⟨rfl, rfl, rfl⟩) (by rfl) (by first | rfl | (simp; done) | (simp [ints, prs]; done)) (by rfl) (by first | rfl | (simp; done) | (simp [ints, prs]; done)))

theorem ev47 (fs : List (Int × Int)) (hln : fs.length ≤ 1048576) : Ev cx 47 [.sl 0 0 fs.length] [⟨fns fs, 2, 0, some 0, false⟩] (.tup [slV (if lcode fs = 0 then .emp else .nils) 1 (if lcode fs = 0 then clL fs else []), .int .i64 (lcode fs)]) (⟨fns fs, 2, 0, some 0, false⟩ :: slH 1 1 ints (if lcode fs = 0 then clL fs else [])) := by
  have e1 := ev83 fs hln
  by_cases h0 : lcode fs = 0
  · have hall : allFunc fs = true := by
      cases h : allFunc fs
      · rw [lcode, h] at h0; simp at h0
      · rfl
    have h8 : fs.length ≤ 8 := by
      apply Classical.byContradiction
      intro h; rw [lcode, if_pos hall, if_pos (by omega)] at h0; simp at h0
    rw [if_pos h0, if_pos h0]
    rw [h0] at e1 ⊢
    have g1 := R2_mono h8
    have g2 : R2 8 = 256 := by unfold R2; rfl
    have e2 := ev100 fs h8
    have e3 := ev99 fs hln hall (R2 fs.length - 1) (by omega) h8
    have hw := pk5_lt (clP fs (R2 fs.length - 1)) 5 (by omega)
    cases hs : clL fs with
    | nil =>
      have lp := lp47_0 fs (pk (bn (clP fs (R2 fs.length - 1))) 5) hw _ (by rw [clL_eq, hs])
      refine has47.eev rfl rfl ?_
      unfold m47
      repeat' (first
        | refine sc_loop lp rfl rfl ⟨rfl, rfl, rfl⟩ rfl rfl rfl ?_
        | (refine g_op ?_; first
          | refine ep_mov rfl ?_
          | refine ep_call0 rfl (by first | exact e1 | exact e2 | exact e3) rfl rfl ?_
          | refine sp_call rfl rfl rfl rfl (by first | exact e1 | exact e2 | exact e3) ⟨rfl, rfl, rfl, rfl⟩ rfl rfl rfl ?_
          | refine ep_bin rfl rfl (by first | exact b_add (by omega) (by omega) | exact b_sub (by omega) (by omega) | exact b_and (by omega) (by omega) | exact b_or (by omega) (by omega) | exact b_shr (by omega) | exact b_shl (by omega) (by omega) | exact b_lss | exact b_leq | exact b_gtr | exact b_geq | exact b_eql | exact b_neq) ?_
          | refine ep_empt ?_)
        | (refine g_ops ?_; first | refine eo_none ?_ | refine eo_nil ?_)
        | (refine g_code ?_; first | refine ec_seq ?_ | refine ec_region ?_ | refine ec_block ?_ | refine ec_skip ?_ | refine ec_ret ?_ | refine ec_condT rfl ?_ | refine ec_condF rfl ?_ | refine ec_condTH rfl (by assumption) ?_ | refine ec_condFH rfl (by assumption) ?_)
        | refine ek_seqN ?_ | refine ek_seqX ?_ | refine ek_seqR ?_ | refine ek_blkN ?_ | refine ek_blkR ?_ | refine ek_blkX ?_ | refine ek_blkY rfl ?_)
      refine sfin (.inr rfl) (by rfl) (by rfl) (by exact ⟨rfl, rfl, rfl⟩) (by rfl) (by rfl) (by rfl) (by first | rfl | (simp; done) | (simp [ints, prs]; done))
    | cons x xs =>
      have lp := lp47_0 fs (pk (bn (clP fs (R2 fs.length - 1))) 5) hw _ (by rw [clL_eq, hs])
      refine has47.eev rfl rfl ?_
      unfold m47
      repeat' (first
        | refine sc_loop lp rfl rfl ⟨rfl, rfl, rfl⟩ rfl rfl rfl ?_
        | (refine g_op ?_; first
          | refine ep_mov rfl ?_
          | refine ep_call0 rfl (by first | exact e1 | exact e2 | exact e3) rfl rfl ?_
          | refine sp_call rfl rfl rfl rfl (by first | exact e1 | exact e2 | exact e3) ⟨rfl, rfl, rfl, rfl⟩ rfl rfl rfl ?_
          | refine ep_bin rfl rfl (by first | exact b_add (by omega) (by omega) | exact b_sub (by omega) (by omega) | exact b_and (by omega) (by omega) | exact b_or (by omega) (by omega) | exact b_shr (by omega) | exact b_shl (by omega) (by omega) | exact b_lss | exact b_leq | exact b_gtr | exact b_geq | exact b_eql | exact b_neq) ?_
          | refine ep_empt ?_)
        | (refine g_ops ?_; first | refine eo_none ?_ | refine eo_nil ?_)
        | (refine g_code ?_; first | refine ec_seq ?_ | refine ec_region ?_ | refine ec_block ?_ | refine ec_skip ?_ | refine ec_ret ?_ | refine ec_condT rfl ?_ | refine ec_condF rfl ?_ | refine ec_condTH rfl (by assumption) ?_ | refine ec_condFH rfl (by assumption) ?_)
        | refine ek_seqN ?_ | refine ek_seqX ?_ | refine ek_seqR ?_ | refine ek_blkN ?_ | refine ek_blkR ?_ | refine ek_blkX ?_ | refine ek_blkY rfl ?_)
      refine sfin (.inr rfl) (by rfl) (by rfl) (by exact ⟨rfl, rfl, rfl⟩) (by rfl) (by rfl) (by rfl) (by first | rfl | (simp; done) | (simp [ints, prs]; done))
  · have hq2 : (lcode fs != 0) = true := by simpa using h0
    rw [if_neg h0, if_neg h0]
    refine has47.eev rfl rfl ?_
    unfold m47
    repeat' (first
      | (refine g_op ?_; first
        | refine ep_mov rfl ?_
        | refine ep_call0 rfl (by first | exact e1) rfl rfl ?_
        | refine sp_call rfl rfl rfl rfl (by first | exact e1) ⟨rfl, rfl, rfl, rfl⟩ rfl rfl rfl ?_
        | refine ep_bin rfl rfl (by first | exact b_add (by omega) (by omega) | exact b_sub (by omega) (by omega) | exact b_and (by omega) (by omega) | exact b_or (by omega) (by omega) | exact b_shr (by omega) | exact b_shl (by omega) (by omega) | exact b_lss | exact b_leq | exact b_gtr | exact b_geq | exact b_eql | exact b_neq) ?_
        | refine ep_empt ?_)
      | (refine g_ops ?_; first | refine eo_none ?_ | refine eo_nil ?_)
      | (refine g_code ?_; first | refine ec_seq ?_ | refine ec_region ?_ | refine ec_block ?_ | refine ec_skip ?_ | refine ec_ret ?_ | refine ec_condT rfl ?_ | refine ec_condF rfl ?_ | refine ec_condTH rfl (by assumption) ?_ | refine ec_condFH rfl (by assumption) ?_)
      | refine ek_seqN ?_ | refine ek_seqX ?_ | refine ek_seqR ?_ | refine ek_blkN ?_ | refine ek_blkR ?_ | refine ek_blkX ?_ | refine ek_blkY rfl ?_)
    refine sfin (.inr rfl) (by rfl) (by rfl) (by exact ⟨rfl, rfl, rfl⟩) (by rfl) (by rfl) (by rfl) (by first | rfl | (simp; done) | (simp [ints, prs]; done))
-- impl.allIn$1
def m150 : MC := (.seq (.region [⟨(.box (.t 0)), (some 2), none⟩, ⟨(.mov (.k (.bool false))), (some 3), none⟩] false) (.seq (.region [⟨(.load (some 2) (.t 2)), (some 4), none⟩, ⟨(.load none (.t 1)), (some 5), none⟩, ⟨(.call 151 [(.t 4), (.t 5)]), (some 6), none⟩, ⟨(.un .not (.t 6)), (some 7), none⟩, ⟨(.mov (.t 7)), (some 3), none⟩] false) .ret))
theorem has150 : Has cx 150 8 m150 [(.tmp 3)] :=
  ⟨⟨Try.f150, Try.f150.body.getD .skip, by kernel_rfl, by kernel_rfl, by kernel_rfl, by kernel_rfl, by kernel_rfl, by kernel_rfl⟩⟩
theorem ev150 (a b : Int) (c : Nat) (h : isFn a b = true) (hc : c < 5) : Ev cx 150 [.agg [.int .i64 a, .int .i64 b], .ptr 0 0] [⟨[.int .i64 c], 1, 0, some 0, true⟩] (.bool (!inCI (a, b) c)) [⟨[.int .i64 c], 1, 0, some 0, true⟩] := by
  obtain ⟨n, b, rfl, rfl, a1, a2, a3⟩ := isFn_nat h
  have e1 := ev151 n b a1 a3 a2 c hc
  refine has150.eev rfl rfl ?_
  unfold m150
  repeat' (first
    | (refine g_op ?_; first
      | refine ep_mov rfl ?_ | refine ep_load1 rfl rfl rfl rfl ?_ | refine sp_loadN rfl rfl rfl rfl rfl ?_
      | refine ep_call0 rfl (by first | exact e1) rfl rfl ?_
      | refine sp_call rfl rfl rfl rfl (by first | exact e1) ⟨rfl, rfl, rfl, rfl⟩ rfl rfl rfl ?_
      | refine ep_not rfl ?_ | refine sp_box rfl rfl rfl rfl rfl ?_)
    | (refine g_ops ?_; first | refine eo_none ?_ | refine eo_nil ?_)
    | (refine g_code ?_; first | refine ec_seq ?_ | refine ec_region ?_ | refine ec_ret ?_)
    | refine ek_seqN ?_ | refine ek_seqR ?_)
  refine sfin (.inr rfl) (by rfl) (by rfl) (by exact ⟨rfl, rfl, rfl⟩) (by rfl) (by rfl) (by rfl) (by first | rfl | (simp; done) | (simp [ints, prs]; done))
-- impl.allIn
def m136 : MC := (.seq (.region [⟨(.box (.t 1)), (some 3), none⟩, ⟨(.mov (.k (.bool false))), (some 4), none⟩] false) (.seq (.region [⟨(.mov (.t 0)), (some 5), none⟩, ⟨(.mkfn 150 [(.t 3)]), (some 6), none⟩, ⟨(.call 104 [(.t 5), (.t 6)]), (some 7), none⟩, ⟨(.un .not (.t 7)), (some 8), none⟩, ⟨(.mov (.t 8)), (some 4), none⟩] false) .ret))
theorem has136 : Has cx 136 9 m136 [(.tmp 4)] :=
  ⟨⟨Try.f136, Try.f136.body.getD .skip, by kernel_rfl, by kernel_rfl, by kernel_rfl, by kernel_rfl, by kernel_rfl, by kernel_rfl⟩⟩
theorem lpix_allIn (fs : List (Int × Int)) (hln : fs.length ≤ 1048576) (hall : allFunc fs = true) (c : Nat) (hc : c < 5) (o : Out) (ho : (match firstF (fun i => !(fun j => !inCI (fs.getD j (0, 0)) c) i) 0 (fs.length) with | none => (⟨.exit 0, [], [⟨fns fs, 2, 0, some 0, false⟩, ⟨[.int .i64 c], 1, 1, some 0, true⟩]⟩ : Out) | some x => ⟨.ret, [(4, .int .i64 (x : Nat))], [⟨fns fs, 2, 0, some 0, false⟩, ⟨[.int .i64 c], 1, 1, some 0, true⟩]⟩) = o) :
    LpS cx 19 2 m137_0 [(0, .sl 0 0 fs.length), (1, .fn 150 [.ptr 1 0]), (7, .int .i64 (fs.length : Nat)), (8, .int .i64 (0 : Nat))] [⟨fns fs, 2, 0, some 0, false⟩, ⟨[.int .i64 c], 1, 1, some 0, true⟩] o.x o.e o.h := by
  refine lp_brk (fs.length) (fun i => !(fun j => !inCI (fs.getD j (0, 0)) c) i) (fun _ => ()) (fun i _ => [(0, .sl 0 0 fs.length), (1, .fn 150 [.ptr 1 0]), (7, .int .i64 (fs.length : Nat)), (8, .int .i64 (i : Nat))]) (fun i _ => [⟨fns fs, 2, 0, some 0, false⟩, ⟨[.int .i64 c], 1, 1, some 0, true⟩]) (fun _ => ⟨.exit 0, [], [⟨fns fs, 2, 0, some 0, false⟩, ⟨[.int .i64 c], 1, 1, some 0, true⟩]⟩) (fun i _ => ⟨.ret, [(4, .int .i64 (i : Nat))], [⟨fns fs, 2, 0, some 0, false⟩, ⟨[.int .i64 c], 1, 1, some 0, true⟩]⟩) ?_ ?_ ?_ (fs.length) 0 o (by omega) (fun h => by rw [← ho, firstF_none fun x h1 h2 => h x h1 (by omega)]) (fun x h1 h2 h3 h4 => by rw [← ho, firstF_some h1 (by omega) h3 h4])
  · intro i s hi hs hp
    have hlt : decide ((i : Int) < (fs.length : Nat)) = true := decide_eq_true (by omega)
    have hp' : (!(fun j => !inCI (fs.getD j (0, 0)) c) i) = true := hp
    refine ⟨(), rfl, ?_⟩
    have hg := fns_get (l := fs) (j := i) hi
    have e0 := ev150 (fs.getD i (0, 0)).1 (fs.getD i (0, 0)).2 c (fget_is hall hi) hc
    have hq : (!inCI (fs.getD i (0, 0)) c) = !((!(fun j => !inCI (fs.getD j (0, 0)) c) i)) := by simp
    rw [hp'] at hq
    rw [hq] at e0
    unfold m137_0
    repeat' (first
      | refine ep_loadSN rfl rfl rfl hg ?_
      | (refine g_op ?_; first
        | refine ep_mov rfl ?_ | refine sp_loadN rfl rfl rfl rfl rfl ?_
        | refine sp_callv rfl rfl rfl rfl rfl rfl (by first | exact e0) ⟨rfl, rfl, rfl, rfl⟩ rfl rfl rfl ?_
        | refine sp_callb rfl rfl rfl rfl rfl rfl (by first | exact e0) ⟨rfl, rfl, rfl, rfl⟩ rfl rfl rfl ?_
        | refine ep_bin rfl rfl (by first | exact b_add (by omega) (by omega) | exact b_sub (by omega) (by omega) | exact b_and (by omega) (by omega) | exact b_or (by omega) (by omega) | exact b_shr (by omega) | exact b_shl (by omega) (by omega) | exact b_lss | exact b_leq | exact b_gtr | exact b_geq | exact b_eql | exact b_neq) ?_
        | refine sp_idx rfl rfl rfl (by omega) rfl ?_ | refine ep_loadSN rfl rfl rfl (by first | exact prs_get (by omega) | exact fns_get (by omega)) ?_)
      | (refine g_ops ?_; first | refine eo_none ?_ | refine eo_nil ?_)
      | (refine g_code ?_; first | refine ec_seq ?_ | refine ec_region ?_ | refine ec_block ?_ | refine ec_skip ?_ | refine ec_exit ?_ | refine ec_ret ?_ | refine ec_condT rfl ?_ | refine ec_condF rfl ?_ | refine ec_condTH rfl (by assumption) ?_ | refine ec_condFH rfl (by assumption) ?_)
      | refine ek_seqN ?_ | refine ek_seqX ?_ | refine ek_seqR ?_ | refine ek_blkN ?_ | refine ek_blkR ?_ | refine ek_blkX ?_ | refine ek_blkY rfl ?_)
    exact rnd_on (by rfl) (scmp2 (by rfl) (by rfl) (by exact ⟨rfl, rfl, rfl⟩) (by rfl) (by first | rfl | (simp; done) | (simp [ints, prs]; done)) (by rfl) (by first | rfl | (simp; done) | (simp [ints, prs]; done)))
  · intro i s hi hs hp
    have hlt : decide ((i : Int) < (fs.length : Nat)) = true := decide_eq_true (by omega)
    have hp' : (!(fun j => !inCI (fs.getD j (0, 0)) c) i) = false := hp
    have hg := fns_get (l := fs) (j := i) hi
    have e0 := ev150 (fs.getD i (0, 0)).1 (fs.getD i (0, 0)).2 c (fget_is hall hi) hc
    have hq : (!inCI (fs.getD i (0, 0)) c) = !((!(fun j => !inCI (fs.getD j (0, 0)) c) i)) := by simp
    rw [hp'] at hq
    rw [hq] at e0
    unfold m137_0
    repeat' (first
      | refine ep_loadSN rfl rfl rfl hg ?_
      | (refine g_op ?_; first
        | refine ep_mov rfl ?_ | refine sp_loadN rfl rfl rfl rfl rfl ?_
        | refine sp_callv rfl rfl rfl rfl rfl rfl (by first | exact e0) ⟨rfl, rfl, rfl, rfl⟩ rfl rfl rfl ?_
        | refine sp_callb rfl rfl rfl rfl rfl rfl (by first | exact e0) ⟨rfl, rfl, rfl, rfl⟩ rfl rfl rfl ?_
        | refine ep_bin rfl rfl (by first | exact b_add (by omega) (by omega) | exact b_sub (by omega) (by omega) | exact b_and (by omega) (by omega) | exact b_or (by omega) (by omega) | exact b_shr (by omega) | exact b_shl (by omega) (by omega) | exact b_lss | exact b_leq | exact b_gtr | exact b_geq | exact b_eql | exact b_neq) ?_
        | refine sp_idx rfl rfl rfl (by omega) rfl ?_ | refine ep_loadSN rfl rfl rfl (by first | exact prs_get (by omega) | exact fns_get (by omega)) ?_)
      | (refine g_ops ?_; first | refine eo_none ?_ | refine eo_nil ?_)
      | (refine g_code ?_; first | refine ec_seq ?_ | refine ec_region ?_ | refine ec_block ?_ | refine ec_skip ?_ | refine ec_exit ?_ | refine ec_ret ?_ | refine ec_condT rfl ?_ | refine ec_condF rfl ?_ | refine ec_condTH rfl (by assumption) ?_ | refine ec_condFH rfl (by assumption) ?_)
      | refine ek_seqN ?_ | refine ek_seqX ?_ | refine ek_seqR ?_ | refine ek_blkN ?_ | refine ek_blkR ?_ | refine ek_blkX ?_ | refine ek_blkY rfl ?_)
    exact rnd_out (by rfl) (by simp) (scmp2 (by rfl) (by rfl) (by exact ⟨rfl, rfl, rfl⟩) (by rfl) (by first | rfl | (simp; done) | (simp [ints, prs]; done)) (by rfl) (by first | rfl | (simp; done) | (simp [ints, prs]; done)))
  · intro s hs
    have hlt : decide (((fs.length : Nat) : Int) < (fs.length : Nat)) = false := decide_eq_false (by omega)
    unfold m137_0
    repeat' (first
      | refine ep_loadSN rfl rfl rfl hg ?_
      | (refine g_op ?_; first
        | refine ep_mov rfl ?_ | refine sp_loadN rfl rfl rfl rfl rfl ?_
        | refine sp_callv rfl rfl rfl rfl rfl rfl (by first | exact e0) ⟨rfl, rfl, rfl, rfl⟩ rfl rfl rfl ?_
        | refine sp_callb rfl rfl rfl rfl rfl rfl (by first | exact e0) ⟨rfl, rfl, rfl, rfl⟩ rfl rfl rfl ?_
        | refine ep_bin rfl rfl (by first | exact b_add (by omega) (by omega) | exact b_sub (by omega) (by omega) | exact b_and (by omega) (by omega) | exact b_or (by omega) (by omega) | exact b_shr (by omega) | exact b_shl (by omega) (by omega) | exact b_lss | exact b_leq | exact b_gtr | exact b_geq | exact b_eql | exact b_neq) ?_
        | refine sp_idx rfl rfl rfl (by omega) rfl ?_ | refine ep_loadSN rfl rfl rfl (by first | exact prs_get (by omega) | exact fns_get (by omega)) ?_)
      | (refine g_ops ?_; first | refine eo_none ?_ | refine eo_nil ?_)
      | (refine g_code ?_; first | refine ec_seq ?_ | refine ec_region ?_ | refine ec_block ?_ | refine ec_skip ?_ | refine ec_exit ?_ | refine ec_ret ?_ | refine ec_condT rfl ?_ | refine ec_condF rfl ?_ | refine ec_condTH rfl (by assumption) ?_ | refine ec_condFH rfl (by assumption) ?_)
      | refine ek_seqN ?_ | refine ek_seqX ?_ | refine ek_seqR ?_ | refine ek_blkN ?_ | refine ek_blkR ?_ | refine ek_blkX ?_ | refine ek_blkY rfl ?_)
    exact rnd_out (by rfl) (by simp) (scmp2 (by rfl) (by rfl) (by exact ⟨rfl, rfl, rfl⟩) (by rfl) (by first | rfl | (simp; done) | (simp [ints, prs]; done)) (by rfl) (by first | rfl | (simp; done) | (simp [ints, prs]; done)))
theorem evix_allIn (fs : List (Int × Int)) (hln : fs.length ≤ 1048576) (hall : allFunc fs = true) (c : Nat) (hc : c < 5) : Ev cx 137 [.sl 0 0 fs.length, .fn 150 [.ptr 1 0]] [⟨fns fs, 2, 0, some 0, false⟩, ⟨[.int .i64 c], 1, 1, some 0, true⟩] (.int .i64 (match firstF (fun i => !(fun j => !inCI (fs.getD j (0, 0)) c) i) 0 (fs.length) with | none => -1 | some x => ((x : Nat) : Int))) [⟨fns fs, 2, 0, some 0, false⟩, ⟨[.int .i64 c], 1, 1, some 0, true⟩] := by
  cases hs : firstF (fun i => !(fun j => !inCI (fs.getD j (0, 0)) c) i) 0 (fs.length) with
  | none =>
    have lp := lpix_allIn fs hln hall c hc _ (by rw [hs])
    refine has137.eev rfl rfl ?_
    unfold m137
    repeat' (first
      | refine sc_loop lp rfl rfl ⟨rfl, rfl, rfl⟩ rfl rfl rfl ?_
      | (refine g_op ?_; first
        | refine ep_mov rfl ?_
        | refine ep_lenS rfl ?_ | refine ep_lenN rfl ?_ | refine ep_lenE rfl ?_)
      | (refine g_ops ?_; first | refine eo_none ?_ | refine eo_nil ?_)
      | (refine g_code ?_; first | refine ec_seq ?_ | refine ec_region ?_ | refine ec_block ?_ | refine ec_ret ?_)
      | refine ek_seqN ?_ | refine ek_seqX ?_ | refine ek_seqR ?_ | refine ek_blkN ?_ | refine ek_blkR ?_ | refine ek_blkX ?_ | refine ek_blkY rfl ?_)
    refine sfin (.inr rfl) (by rfl) (by rfl) (by exact ⟨rfl, rfl, rfl⟩) (by rfl) (by rfl) (by rfl) (by first | rfl | (simp; done) | (simp [ints, prs]; done))
  | some x =>
    have lp := lpix_allIn fs hln hall c hc _ (by rw [hs])
    refine has137.eev rfl rfl ?_
    unfold m137
    repeat' (first
      | refine sc_loop lp rfl rfl ⟨rfl, rfl, rfl⟩ rfl rfl rfl ?_
      | (refine g_op ?_; first
        | refine ep_mov rfl ?_
        | refine ep_lenS rfl ?_ | refine ep_lenN rfl ?_ | refine ep_lenE rfl ?_)
      | (refine g_ops ?_; first | refine eo_none ?_ | refine eo_nil ?_)
      | (refine g_code ?_; first | refine ec_seq ?_ | refine ec_region ?_ | refine ec_block ?_ | refine ec_ret ?_)
      | refine ek_seqN ?_ | refine ek_seqX ?_ | refine ek_seqR ?_ | refine ek_blkN ?_ | refine ek_blkR ?_ | refine ek_blkX ?_ | refine ek_blkY rfl ?_)
    refine sfin (.inr rfl) (by rfl) (by rfl) (by exact ⟨rfl, rfl, rfl⟩) (by rfl) (by rfl) (by rfl) (by first | rfl | (simp; done) | (simp [ints, prs]; done))
theorem evcf_allIn (fs : List (Int × Int)) (hln : fs.length ≤ 1048576) (hall : allFunc fs = true) (c : Nat) (hc : c < 5) : Ev cx 104 [.sl 0 0 fs.length, .fn 150 [.ptr 1 0]] [⟨fns fs, 2, 0, some 0, false⟩, ⟨[.int .i64 c], 1, 1, some 0, true⟩] (.bool (!allF (fun i => !(fun j => !inCI (fs.getD j (0, 0)) c) i) 0 (fs.length))) [⟨fns fs, 2, 0, some 0, false⟩, ⟨[.int .i64 c], 1, 1, some 0, true⟩] := by
  have e1 := evix_allIn fs hln hall c hc
  cases hs : firstF (fun i => !(fun j => !inCI (fs.getD j (0, 0)) c) i) 0 (fs.length) with
  | none =>
    rw [hs] at e1
    refine has104.eev rfl rfl ?_
    unfold m104
    repeat' (first
      | (refine g_op ?_; first
        | refine ep_mov rfl ?_
        | refine ep_call0 rfl (by first | exact e1) rfl rfl ?_
        | refine sp_call rfl rfl rfl rfl (by first | exact e1) ⟨rfl, rfl, rfl, rfl⟩ rfl rfl rfl ?_
        | refine ep_bin rfl rfl (by first | exact b_add (by omega) (by omega) | exact b_sub (by omega) (by omega) | exact b_and (by omega) (by omega) | exact b_or (by omega) (by omega) | exact b_shr (by omega) | exact b_shl (by omega) (by omega) | exact b_lss | exact b_leq | exact b_gtr | exact b_geq | exact b_eql | exact b_neq) ?_)
      | (refine g_ops ?_; first | refine eo_none ?_ | refine eo_nil ?_)
      | (refine g_code ?_; first | refine ec_seq ?_ | refine ec_region ?_ | refine ec_ret ?_)
      | refine ek_seqN ?_ | refine ek_seqR ?_)
    refine sfin (.inr rfl) (by rfl) (by rfl) (by exact ⟨rfl, rfl, rfl⟩) (by rfl) (by rfl) (by rw [firstF_allT hs]; rfl) (by first | rfl | (simp; done) | (simp [ints, prs]; done))
  | some x =>
    rw [hs] at e1
    have hge : decide (((x : Nat) : Int) ≥ 0) = true := decide_eq_true (by omega)
    refine has104.eev rfl rfl ?_
    unfold m104
    repeat' (first
      | (refine g_op ?_; first
        | refine ep_mov rfl ?_
        | refine ep_call0 rfl (by first | exact e1) rfl rfl ?_
        | refine sp_call rfl rfl rfl rfl (by first | exact e1) ⟨rfl, rfl, rfl, rfl⟩ rfl rfl rfl ?_
        | refine ep_bin rfl rfl (by first | exact b_add (by omega) (by omega) | exact b_sub (by omega) (by omega) | exact b_and (by omega) (by omega) | exact b_or (by omega) (by omega) | exact b_shr (by omega) | exact b_shl (by omega) (by omega) | exact b_lss | exact b_leq | exact b_gtr | exact b_geq | exact b_eql | exact b_neq) ?_)
      | (refine g_ops ?_; first | refine eo_none ?_ | refine eo_nil ?_)
      | (refine g_code ?_; first | refine ec_seq ?_ | refine ec_region ?_ | refine ec_ret ?_)
      | refine ek_seqN ?_ | refine ek_seqR ?_)
    refine sfin (.inr rfl) (by rfl) (by rfl) (by exact ⟨rfl, rfl, rfl⟩) (by rfl) (by rfl) (by rw [firstF_allF hs]; first | rfl | exact congrArg V.bool hge) (by first | rfl | (simp; done) | (simp [ints, prs]; done))

theorem ev136 (fs : List (Int × Int)) (hln : fs.length ≤ 1048576) (hall : allFunc fs = true) (c : Nat) (hc : c < 5) : Ev cx 136 [.sl 0 0 fs.length, .int .i64 c] [⟨fns fs, 2, 0, some 0, false⟩] (.bool (allIC fs c)) [⟨fns fs, 2, 0, some 0, false⟩] := by
  have e1 := evcf_allIn fs hln hall c hc
  rw [show (fun i => !(fun j => !inCI (fs.getD j (0, 0)) c) i) = fun j => inCI (fs.getD j (0, 0)) c by funext j; simp] at e1
  refine has136.eev rfl rfl ?_
  unfold m136
  repeat' (first
    | (refine g_op ?_; first
      | refine ep_mov rfl ?_
      | refine ep_call0 rfl (by first | exact e1) rfl rfl ?_
      | refine sp_call rfl rfl rfl rfl (by first | exact e1) ⟨rfl, rfl, rfl, rfl⟩ rfl rfl rfl ?_
      | refine ep_not rfl ?_ | refine sp_box rfl rfl rfl rfl rfl ?_ | refine ep_mkfn rfl ?_)
    | (refine g_ops ?_; first | refine eo_none ?_ | refine eo_nil ?_)
    | (refine g_code ?_; first | refine ec_seq ?_ | refine ec_region ?_ | refine ec_ret ?_)
    | refine ek_seqN ?_ | refine ek_seqR ?_)
  refine sfin (.inr rfl) (by rfl) (by rfl) (by exact ⟨rfl, rfl, rfl⟩) (by rfl) (by rfl) (by simp; rfl) (by first | rfl | (simp; done) | (simp [ints, prs]; done))
-- impl.classesOf
def m102_0 : MC := (.seq (.region [⟨(.bin .lss (.t 5) (.k (.int .i64 5))), (some 6), none⟩] false) (.seq (.cond (.t 6) .skip (.exit 0)) (.seq (.block 1 (.seq (.region [⟨(.mov (.t 5)), (some 7), none⟩, ⟨(.mov (.t 7)), (some 4), none⟩] false) (.seq (.region [⟨(.mov (.t 0)), (some 8), none⟩, ⟨(.mov (.t 4)), (some 9), none⟩, ⟨(.call 136 [(.t 8), (.t 9)]), (some 10), none⟩] false) (.cond (.t 10) (.region [⟨(.mov (.t 3)), (some 11), none⟩, ⟨(.mov (.t 4)), (some 12), none⟩, ⟨(.bslice 1 [(.int .i64 0)] 1 [(0, (1, (.t 12)))]), (some 13), none⟩, ⟨(.append 1 8 (.t 11) (.t 13)), (some 14), none⟩, ⟨(.mov (.t 14)), (some 3), none⟩] false) .skip)))) (.region [⟨(.bin .add (.t 5) (.k (.int .i64 1))), (some 15), none⟩, ⟨(.mov (.t 15)), (some 5), none⟩] false))))
def m102 : MC := (.seq (.region [⟨(.mov (.k .nils)), (some 2), none⟩] false) (.seq (.region [⟨(.mov (.k .nils)), (some 3), none⟩] false) (.seq (.seq (.region [⟨(.mov (.k (.int .i64 0))), (some 5), none⟩] false) (.block 0 (.loop m102_0))) (.seq (.region [⟨(.mov (.t 3)), (some 16), none⟩, ⟨(.mov (.t 16)), (some 2), none⟩] false) .ret))))
theorem has102 : Has cx 102 17 m102 [(.tmp 2)] :=
  ⟨⟨Try.f102, Try.f102.body.getD .skip, by kernel_rfl, by kernel_rfl, by kernel_rfl, by kernel_rfl, by kernel_rfl, by kernel_rfl⟩⟩
theorem lp102_0 (fs : List (Int × Int)) (hln : fs.length ≤ 1048576) (hall : allFunc fs = true) (o : Out) (ho : (match selm (allIC fs) (idn) (5) with | [] => (⟨.exit 0, [(3, .nils)], [⟨fns fs, 2, 0, some 0, false⟩]⟩ : Out) | x :: xs => ⟨.exit 0, [(3, .sl 1 0 (x :: xs).length)], [⟨fns fs, 2, 0, some 0, false⟩, ⟨ints (x :: xs), 1, 1, some 0, false⟩]⟩) = o) :
    LpS cx 17 1 m102_0 [(0, .sl 0 0 fs.length), (3, .nils), (5, .int .i64 (0 : Nat))] [⟨fns fs, 2, 0, some 0, false⟩] o.x o.e o.h := by
  subst ho
  refine lp_st (5) (selm (allIC fs) (idn)) (fun i s => match s with | [] => [(0, .sl 0 0 fs.length), (3, .nils), (5, .int .i64 (i : Nat))] | x :: xs => [(0, .sl 0 0 fs.length), (3, .sl 1 0 (x :: xs).length), (5, .int .i64 (i : Nat))]) (fun i s => match s with | [] => [⟨fns fs, 2, 0, some 0, false⟩] | x :: xs => [⟨fns fs, 2, 0, some 0, false⟩, ⟨ints (x :: xs), 1, 1, some 0, false⟩]) (fun s => match s with | [] => ⟨.exit 0, [(3, .nils)], [⟨fns fs, 2, 0, some 0, false⟩]⟩ | x :: xs => ⟨.exit 0, [(3, .sl 1 0 (x :: xs).length)], [⟨fns fs, 2, 0, some 0, false⟩, ⟨ints (x :: xs), 1, 1, some 0, false⟩]⟩) ?_ ?_ (5) 0 (by omega)
  · intro i s hi hs
    have hlt : decide ((i : Int) < (5 : Nat)) = true := decide_eq_true (by omega)
    have hle : decide ((i : Int) ≤ (5 : Nat) - 1) = true := decide_eq_true (by omega)
    have hlen : s.length ≤ 16 := by have := selm_len (allIC fs) (idn) i; rw [hs] at this; omega
    have hlt5 : decide ((i : Int) < 5) = true := decide_eq_true (by omega)
    cases hp : (allIC fs) i with
    | true =>
      have hp' : ((allIC fs) i) = true := hp
      have e1 := ev136 fs hln hall i hi
      rw [hp'] at e1
      cases s with
      | nil =>
        refine ⟨[(idn) i], by rw [selm_t (p := allIC fs) hp, hs]; try rfl, ?_⟩
        unfold m102_0
        repeat' (first
          | (refine g_op ?_; first
            | refine ep_mov rfl ?_
            | refine ep_call0 rfl (by first | exact e1) rfl rfl ?_
            | refine sp_call rfl rfl rfl rfl (by first | exact e1) ⟨rfl, rfl, rfl, rfl⟩ rfl rfl rfl ?_
            | refine ep_bin rfl rfl (by first | exact b_add (by omega) (by omega) | exact b_sub (by omega) (by omega) | exact b_and (by omega) (by omega) | exact b_or (by omega) (by omega) | exact b_shr (by omega) | exact b_shl (by omega) (by omega) | exact b_lss | exact b_leq | exact b_gtr | exact b_geq | exact b_eql | exact b_neq) ?_
            | refine sp_bslice rfl rfl rfl rfl rfl ?_ | refine sp_push0 rfl (by first | exact .inl rfl | exact .inr rfl) rfl rfl rfl rfl rfl (by decide) rfl rfl rfl ?_ | refine sp_push rfl rfl rfl rfl rfl rfl rfl (by first | exact ints_len _ | exact prs_len _ _ | exact zints_len _) (by omega) (Nat.zero_le _) rfl rfl rfl rfl rfl ?_)
          | (refine g_ops ?_; first | refine eo_none ?_ | refine eo_nil ?_)
          | (refine g_code ?_; first | refine ec_seq ?_ | refine ec_region ?_ | refine ec_block ?_ | refine ec_skip ?_ | refine ec_exit ?_ | refine ec_condT rfl ?_ | refine ec_condF rfl ?_ | refine ec_condTH rfl (by assumption) ?_ | refine ec_condFH rfl (by assumption) ?_)
          | refine ek_seqN ?_ | refine ek_seqX ?_ | refine ek_blkN ?_ | refine ek_blkR ?_ | refine ek_blkX ?_ | refine ek_blkY rfl ?_)
        exact rnd_on (by rfl) (scmp2 (by rfl) (by rfl) (by exact ⟨rfl, rfl, rfl⟩) (by rfl) (by first | rfl | (simp; done) | (simp [ints, prs]; done)) (by rfl) (by first | rfl | (simp; done) | (simp [ints, prs]; done)))
      | cons x xs =>
        refine ⟨(x :: xs) ++ [(idn) i], by rw [selm_t (p := allIC fs) hp, hs]; try rfl, ?_⟩
        unfold m102_0
        repeat' (first
          | (refine g_op ?_; first
            | refine ep_mov rfl ?_
            | refine ep_call0 rfl (by first | exact e1) rfl rfl ?_
            | refine sp_call rfl rfl rfl rfl (by first | exact e1) ⟨rfl, rfl, rfl, rfl⟩ rfl rfl rfl ?_
            | refine ep_bin rfl rfl (by first | exact b_add (by omega) (by omega) | exact b_sub (by omega) (by omega) | exact b_and (by omega) (by omega) | exact b_or (by omega) (by omega) | exact b_shr (by omega) | exact b_shl (by omega) (by omega) | exact b_lss | exact b_leq | exact b_gtr | exact b_geq | exact b_eql | exact b_neq) ?_
            | refine sp_bslice rfl rfl rfl rfl rfl ?_ | refine sp_push0 rfl (by first | exact .inl rfl | exact .inr rfl) rfl rfl rfl rfl rfl (by decide) rfl rfl rfl ?_ | refine sp_push rfl rfl rfl rfl rfl rfl rfl (by first | exact ints_len _ | exact prs_len _ _ | exact zints_len _) (by omega) (Nat.zero_le _) rfl rfl rfl rfl rfl ?_)
          | (refine g_ops ?_; first | refine eo_none ?_ | refine eo_nil ?_)
          | (refine g_code ?_; first | refine ec_seq ?_ | refine ec_region ?_ | refine ec_block ?_ | refine ec_skip ?_ | refine ec_exit ?_ | refine ec_condT rfl ?_ | refine ec_condF rfl ?_ | refine ec_condTH rfl (by assumption) ?_ | refine ec_condFH rfl (by assumption) ?_)
          | refine ek_seqN ?_ | refine ek_seqX ?_ | refine ek_blkN ?_ | refine ek_blkR ?_ | refine ek_blkX ?_ | refine ek_blkY rfl ?_)
        exact rnd_on (by rfl) (scmp2 (by rfl) (by rfl) (by exact ⟨rfl, rfl, rfl⟩) (by rfl) (by first | rfl | (simp; done) | (simp [ints, prs]; done)) (by rfl) (by first | rfl | (simp; done) | (simp [ints, prs]; done)))
    | false =>
      have hp' : ((allIC fs) i) = false := hp
      have e1 := ev136 fs hln hall i hi
      rw [hp'] at e1
      cases s with
      | nil =>
        refine ⟨[], by rw [selm_f (p := allIC fs) hp, hs]; try rfl, ?_⟩
        unfold m102_0
        repeat' (first
          | (refine g_op ?_; first
            | refine ep_mov rfl ?_
            | refine ep_call0 rfl (by first | exact e1) rfl rfl ?_
            | refine sp_call rfl rfl rfl rfl (by first | exact e1) ⟨rfl, rfl, rfl, rfl⟩ rfl rfl rfl ?_
            | refine ep_bin rfl rfl (by first | exact b_add (by omega) (by omega) | exact b_sub (by omega) (by omega) | exact b_and (by omega) (by omega) | exact b_or (by omega) (by omega) | exact b_shr (by omega) | exact b_shl (by omega) (by omega) | exact b_lss | exact b_leq | exact b_gtr | exact b_geq | exact b_eql | exact b_neq) ?_
            | refine sp_bslice rfl rfl rfl rfl rfl ?_ | refine sp_push0 rfl (by first | exact .inl rfl | exact .inr rfl) rfl rfl rfl rfl rfl (by decide) rfl rfl rfl ?_ | refine sp_push rfl rfl rfl rfl rfl rfl rfl (by first | exact ints_len _ | exact prs_len _ _ | exact zints_len _) (by omega) (Nat.zero_le _) rfl rfl rfl rfl rfl ?_)
          | (refine g_ops ?_; first | refine eo_none ?_ | refine eo_nil ?_)
          | (refine g_code ?_; first | refine ec_seq ?_ | refine ec_region ?_ | refine ec_block ?_ | refine ec_skip ?_ | refine ec_exit ?_ | refine ec_condT rfl ?_ | refine ec_condF rfl ?_ | refine ec_condTH rfl (by assumption) ?_ | refine ec_condFH rfl (by assumption) ?_)
          | refine ek_seqN ?_ | refine ek_seqX ?_ | refine ek_blkN ?_ | refine ek_blkR ?_ | refine ek_blkX ?_ | refine ek_blkY rfl ?_)
        exact rnd_on (by rfl) (scmp2 (by rfl) (by rfl) (by exact ⟨rfl, rfl, rfl⟩) (by rfl) (by first | rfl | (simp; done) | (simp [ints, prs]; done)) (by rfl) (by first | rfl | (simp; done) | (simp [ints, prs]; done)))
      | cons x xs =>
        refine ⟨x :: xs, by rw [selm_f (p := allIC fs) hp, hs]; try rfl, ?_⟩
        unfold m102_0
        repeat' (first
          | (refine g_op ?_; first
            | refine ep_mov rfl ?_
            | refine ep_call0 rfl (by first | exact e1) rfl rfl ?_
            | refine sp_call rfl rfl rfl rfl (by first | exact e1) ⟨rfl, rfl, rfl, rfl⟩ rfl rfl rfl ?_
            | refine ep_bin rfl rfl (by first | exact b_add (by omega) (by omega) | exact b_sub (by omega) (by omega) | exact b_and (by omega) (by omega) | exact b_or (by omega) (by omega) | exact b_shr (by omega) | exact b_shl (by omega) (by omega) | exact b_lss | exact b_leq | exact b_gtr | exact b_geq | exact b_eql | exact b_neq) ?_
            | refine sp_bslice rfl rfl rfl rfl rfl ?_ | refine sp_push0 rfl (by first | exact .inl rfl | exact .inr rfl) rfl rfl rfl rfl rfl (by decide) rfl rfl rfl ?_ | refine sp_push rfl rfl rfl rfl rfl rfl rfl (by first | exact ints_len _ | exact prs_len _ _ | exact zints_len _) (by omega) (Nat.zero_le _) rfl rfl rfl rfl rfl ?_)
          | (refine g_ops ?_; first | refine eo_none ?_ | refine eo_nil ?_)
          | (refine g_code ?_; first | refine ec_seq ?_ | refine ec_region ?_ | refine ec_block ?_ | refine ec_skip ?_ | refine ec_exit ?_ | refine ec_condT rfl ?_ | refine ec_condF rfl ?_ | refine ec_condTH rfl (by assumption) ?_ | refine ec_condFH rfl (by assumption) ?_)
          | refine ek_seqN ?_ | refine ek_seqX ?_ | refine ek_blkN ?_ | refine ek_blkR ?_ | refine ek_blkX ?_ | refine ek_blkY rfl ?_)
        exact rnd_on (by rfl) (scmp2 (by rfl) (by rfl) (by exact ⟨rfl, rfl, rfl⟩) (by rfl) (by first | rfl | (simp; done) | (simp [ints, prs]; done)) (by rfl) (by first | rfl | (simp; done) | (simp [ints, prs]; done)))
  · intro s hs
    have hlt : decide (((5 : Nat) : Int) < (5 : Nat)) = false := decide_eq_false (by omega)
    have hle : decide (((5 : Nat) : Int) ≤ (5 : Nat) - 1) = false := decide_eq_false (by omega)
    have hlt5 : decide (((5 : Nat) : Int) < 5) = false := by decide
    cases s with
    | nil =>
      unfold m102_0
      repeat' (first
        | (refine g_op ?_; first
          | refine ep_mov rfl ?_
          | refine ep_bin rfl rfl (by first | exact b_add (by omega) (by omega) | exact b_sub (by omega) (by omega) | exact b_and (by omega) (by omega) | exact b_or (by omega) (by omega) | exact b_shr (by omega) | exact b_shl (by omega) (by omega) | exact b_lss | exact b_leq | exact b_gtr | exact b_geq | exact b_eql | exact b_neq) ?_
          | refine sp_bslice rfl rfl rfl rfl rfl ?_ | refine sp_push0 rfl (by first | exact .inl rfl | exact .inr rfl) rfl rfl rfl rfl rfl (by decide) rfl rfl rfl ?_ | refine sp_push rfl rfl rfl rfl rfl rfl rfl (by first | exact ints_len _ | exact prs_len _ _ | exact zints_len _) (by omega) (Nat.zero_le _) rfl rfl rfl rfl rfl ?_)
        | (refine g_ops ?_; first | refine eo_none ?_ | refine eo_nil ?_)
        | (refine g_code ?_; first | refine ec_seq ?_ | refine ec_region ?_ | refine ec_block ?_ | refine ec_skip ?_ | refine ec_exit ?_ | refine ec_condT rfl ?_ | refine ec_condF rfl ?_ | refine ec_condTH rfl (by assumption) ?_ | refine ec_condFH rfl (by assumption) ?_)
        | refine ek_seqN ?_ | refine ek_seqX ?_ | refine ek_blkN ?_ | refine ek_blkR ?_ | refine ek_blkX ?_ | refine ek_blkY rfl ?_)
      exact rnd_out (by rfl) (by simp) (scmp2 (by rfl) (by rfl) (by exact ⟨rfl, rfl, rfl⟩) (by rfl) (by first | rfl | (simp; done) | (simp [ints, prs]; done)) (by rfl) (by first | rfl | (simp; done) | (simp [ints, prs]; done)))
    | cons x xs =>
      unfold m102_0
      repeat' (first
        | (refine g_op ?_; first
          | refine ep_mov rfl ?_
          | refine ep_bin rfl rfl (by first | exact b_add (by omega) (by omega) | exact b_sub (by omega) (by omega) | exact b_and (by omega) (by omega) | exact b_or (by omega) (by omega) | exact b_shr (by omega) | exact b_shl (by omega) (by omega) | exact b_lss | exact b_leq | exact b_gtr | exact b_geq | exact b_eql | exact b_neq) ?_
          | refine sp_bslice rfl rfl rfl rfl rfl ?_ | refine sp_push0 rfl (by first | exact .inl rfl | exact .inr rfl) rfl rfl rfl rfl rfl (by decide) rfl rfl rfl ?_ | refine sp_push rfl rfl rfl rfl rfl rfl rfl (by first | exact ints_len _ | exact prs_len _ _ | exact zints_len _) (by omega) (Nat.zero_le _) rfl rfl rfl rfl rfl ?_)
        | (refine g_ops ?_; first | refine eo_none ?_ | refine eo_nil ?_)
        | (refine g_code ?_; first | refine ec_seq ?_ | refine ec_region ?_ | refine ec_block ?_ | refine ec_skip ?_ | refine ec_exit ?_ | refine ec_condT rfl ?_ | refine ec_condF rfl ?_ | refine ec_condTH rfl (by assumption) ?_ | refine ec_condFH rfl (by assumption) ?_)
        | refine ek_seqN ?_ | refine ek_seqX ?_ | refine ek_blkN ?_ | refine ek_blkR ?_ | refine ek_blkX ?_ | refine ek_blkY rfl ?_)
      exact rnd_out (by rfl) (by simp) (scmp2 (by rfl) (by rfl) (by exact ⟨rfl, rfl, rfl⟩) (by rfl) (by first | rfl | (simp; done) | (simp [ints, prs]; done)) (by rfl) (by first | rfl | (simp; done) | (simp [ints, prs]; done)))

theorem ev102 (fs : List (Int × Int)) (hln : fs.length ≤ 1048576) (hall : allFunc fs = true) : Ev cx 102 [.sl 0 0 fs.length] [⟨fns fs, 2, 0, some 0, false⟩] (slV .nils 1 (clL fs)) (⟨fns fs, 2, 0, some 0, false⟩ :: slH 1 1 ints (clL fs)) := by
  cases hs : clL fs with
  | nil =>
    have lp := lp102_0 fs hln hall _ (by rw [show selm (allIC fs) idn 5 = _ from hs])
    refine has102.eev rfl rfl ?_
    unfold m102
    repeat' (first
      | refine sc_loop lp rfl rfl ⟨rfl, rfl, rfl⟩ rfl rfl rfl ?_
      | (refine g_op ?_; first
        | refine ep_mov rfl ?_)
      | (refine g_ops ?_; first | refine eo_none ?_ | refine eo_nil ?_)
      | (refine g_code ?_; first | refine ec_seq ?_ | refine ec_region ?_ | refine ec_block ?_ | refine ec_ret ?_)
      | refine ek_seqN ?_ | refine ek_seqX ?_ | refine ek_seqR ?_ | refine ek_blkN ?_ | refine ek_blkR ?_ | refine ek_blkX ?_ | refine ek_blkY rfl ?_)
    refine sfin (.inr rfl) (by rfl) (by rfl) (by exact ⟨rfl, rfl, rfl⟩) (by rfl) (by rfl) (by rfl) (by first | rfl | (simp; done) | (simp [ints, prs]; done))
  | cons x xs =>
    have lp := lp102_0 fs hln hall _ (by rw [show selm (allIC fs) idn 5 = _ from hs])
    refine has102.eev rfl rfl ?_
    unfold m102
    repeat' (first
      | refine sc_loop lp rfl rfl ⟨rfl, rfl, rfl⟩ rfl rfl rfl ?_
      | (refine g_op ?_; first
        | refine ep_mov rfl ?_)
      | (refine g_ops ?_; first | refine eo_none ?_ | refine eo_nil ?_)
      | (refine g_code ?_; first | refine ec_seq ?_ | refine ec_region ?_ | refine ec_block ?_ | refine ec_ret ?_)
      | refine ek_seqN ?_ | refine ek_seqX ?_ | refine ek_seqR ?_ | refine ek_blkN ?_ | refine ek_blkR ?_ | refine ek_blkX ?_ | refine ek_blkY rfl ?_)
    refine sfin (.inr rfl) (by rfl) (by rfl) (by exact ⟨rfl, rfl, rfl⟩) (by rfl) (by rfl) (by rfl) (by first | rfl | (simp; done) | (simp [ints, prs]; done))
-- impl.ClassesOf
def m48 : MC := (.seq (.region [⟨(.mov (.k .nils)), (some 2), none⟩, ⟨(.mov (.k (.int .i64 0))), (some 3), none⟩] false) (.seq (.seq (.region [⟨(.mov (.t 0)), (some 5), none⟩, ⟨(.call 101 [(.t 5)]), (some 6), none⟩, ⟨(.mov (.t 6)), (some 4), none⟩] false) (.seq (.region [⟨(.mov (.t 4)), (some 7), none⟩, ⟨(.bin .neq (.t 7) (.k (.int .i64 0))), (some 8), none⟩] false) (.cond (.t 8) (.seq (.region [⟨(.mov (.t 4)), (some 9), none⟩, ⟨(.mov (.k .nils)), (some 2), none⟩, ⟨(.mov (.t 9)), (some 3), none⟩] false) .ret) .skip))) (.seq (.region [⟨(.mov (.t 0)), (some 10), none⟩, ⟨(.call 102 [(.t 10)]), (some 11), none⟩, ⟨(.mov (.t 11)), (some 2), none⟩, ⟨(.mov (.k (.int .i64 0))), (some 3), none⟩] false) .ret)))
theorem has48 : Has cx 48 12 m48 [(.tmp 2), (.tmp 3)] :=
  ⟨⟨Try.f48, Try.f48.body.getD .skip, by kernel_rfl, by kernel_rfl, by kernel_rfl, by kernel_rfl, by kernel_rfl, by kernel_rfl⟩⟩
theorem ev48 (fs : List (Int × Int)) (hln : fs.length ≤ 1048576) : Ev cx 48 [.sl 0 0 fs.length] [⟨fns fs, 2, 0, some 0, false⟩] (.tup [slV .nils 1 (if lcode fs = 0 then clL fs else []), .int .i64 (lcode fs)]) (⟨fns fs, 2, 0, some 0, false⟩ :: slH 1 1 ints (if lcode fs = 0 then clL fs else [])) := by
  have e1 := ev101 fs hln
  by_cases h0 : lcode fs = 0
  · have hall : allFunc fs = true := by
      cases h : allFunc fs
      · rw [lcode, h] at h0; simp at h0
      · rfl
    rw [if_pos h0]
    rw [h0] at e1 ⊢
    have e2 := ev102 fs hln hall
    cases hs : clL fs with
    | nil =>
      rw [hs] at e2
      refine has48.eev rfl rfl ?_
      unfold m48
      repeat' (first
        | (refine g_op ?_; first
          | refine ep_mov rfl ?_
          | refine ep_call0 rfl (by first | exact e1 | exact e2) rfl rfl ?_
          | refine sp_call rfl rfl rfl rfl (by first | exact e1 | exact e2) ⟨rfl, rfl, rfl, rfl⟩ rfl rfl rfl ?_
          | refine ep_bin rfl rfl (by first | exact b_add (by omega) (by omega) | exact b_sub (by omega) (by omega) | exact b_and (by omega) (by omega) | exact b_or (by omega) (by omega) | exact b_shr (by omega) | exact b_shl (by omega) (by omega) | exact b_lss | exact b_leq | exact b_gtr | exact b_geq | exact b_eql | exact b_neq) ?_)
        | (refine g_ops ?_; first | refine eo_none ?_ | refine eo_nil ?_)
        | (refine g_code ?_; first | refine ec_seq ?_ | refine ec_region ?_ | refine ec_skip ?_ | refine ec_ret ?_ | refine ec_condT rfl ?_ | refine ec_condF rfl ?_ | refine ec_condTH rfl (by assumption) ?_ | refine ec_condFH rfl (by assumption) ?_)
        | refine ek_seqN ?_ | refine ek_seqR ?_)
      refine sfin (.inr rfl) (by rfl) (by rfl) (by exact ⟨rfl, rfl, rfl⟩) (by rfl) (by rfl) (by rfl) (by first | rfl | (simp; done) | (simp [ints, prs]; done))
    | cons x xs =>
      rw [hs] at e2
      refine has48.eev rfl rfl ?_
      unfold m48
      repeat' (first
        | (refine g_op ?_; first
          | refine ep_mov rfl ?_
          | refine ep_call0 rfl (by first | exact e1 | exact e2) rfl rfl ?_
          | refine sp_call rfl rfl rfl rfl (by first | exact e1 | exact e2) ⟨rfl, rfl, rfl, rfl⟩ rfl rfl rfl ?_
          | refine ep_bin rfl rfl (by first | exact b_add (by omega) (by omega) | exact b_sub (by omega) (by omega) | exact b_and (by omega) (by omega) | exact b_or (by omega) (by omega) | exact b_shr (by omega) | exact b_shl (by omega) (by omega) | exact b_lss | exact b_leq | exact b_gtr | exact b_geq | exact b_eql | exact b_neq) ?_)
        | (refine g_ops ?_; first | refine eo_none ?_ | refine eo_nil ?_)
        | (refine g_code ?_; first | refine ec_seq ?_ | refine ec_region ?_ | refine ec_skip ?_ | refine ec_ret ?_ | refine ec_condT rfl ?_ | refine ec_condF rfl ?_ | refine ec_condTH rfl (by assumption) ?_ | refine ec_condFH rfl (by assumption) ?_)
        | refine ek_seqN ?_ | refine ek_seqR ?_)
      refine sfin (.inr rfl) (by rfl) (by rfl) (by exact ⟨rfl, rfl, rfl⟩) (by rfl) (by rfl) (by rfl) (by first | rfl | (simp; done) | (simp [ints, prs]; done))
  · have hq2 : (lcode fs != 0) = true := by simpa using h0
    rw [if_neg h0]
    refine has48.eev rfl rfl ?_
    unfold m48
    repeat' (first
      | (refine g_op ?_; first
        | refine ep_mov rfl ?_
        | refine ep_call0 rfl (by first | exact e1) rfl rfl ?_
        | refine sp_call rfl rfl rfl rfl (by first | exact e1) ⟨rfl, rfl, rfl, rfl⟩ rfl rfl rfl ?_
        | refine ep_bin rfl rfl (by first | exact b_add (by omega) (by omega) | exact b_sub (by omega) (by omega) | exact b_and (by omega) (by omega) | exact b_or (by omega) (by omega) | exact b_shr (by omega) | exact b_shl (by omega) (by omega) | exact b_lss | exact b_leq | exact b_gtr | exact b_geq | exact b_eql | exact b_neq) ?_)
      | (refine g_ops ?_; first | refine eo_none ?_ | refine eo_nil ?_)
      | (refine g_code ?_; first | refine ec_seq ?_ | refine ec_region ?_ | refine ec_skip ?_ | refine ec_ret ?_ | refine ec_condT rfl ?_ | refine ec_condF rfl ?_ | refine ec_condTH rfl (by assumption) ?_ | refine ec_condFH rfl (by assumption) ?_)
      | refine ek_seqN ?_ | refine ek_seqR ?_)
    refine sfin (.inr rfl) (by rfl) (by rfl) (by exact ⟨rfl, rfl, rfl⟩) (by rfl) (by rfl) (by rfl) (by first | rfl | (simp; done) | (simp [ints, prs]; done))
-- laws.FnExactClassesOf
def m11 : MC := (.seq (.region [⟨(.mov (.k (.bool false))), (some 2), none⟩] false) (.seq (.region [⟨(.mov (.k (.int .i64 1048576))), (some 3), none⟩] false) (.seq (.region [⟨(.mov (.t 0)), (some 14), none⟩, ⟨(.mov (.t 3)), (some 15), none⟩, ⟨(.call 32 [(.t 14), (.t 15)]), (some 16), none⟩, ⟨(.mov (.t 16)), (some 3), none⟩] false) (.seq (.seq (.region [⟨(.mov (.t 3)), (some 17), none⟩, ⟨(.bin .lss (.t 17) (.k (.int .i64 0))), (some 18), none⟩] false) (.cond (.t 18) (.seq (.region [⟨(.mov (.k (.bool true))), (some 2), none⟩] false) .ret) .skip)) (.seq (.region [⟨(.mov (.t 0)), (some 20), none⟩, ⟨(.call 34 [(.t 20)]), (some 21), none⟩, ⟨(.call 47 [(.t 21)]), (some 22), none⟩, ⟨(.mov (.t 22)), (some 19), none⟩, ⟨(.extract (.t 19) 0), (some 23), none⟩, ⟨(.extract (.t 19) 1), (some 24), none⟩, ⟨(.mov (.t 23)), (some 4), none⟩, ⟨(.mov (.t 24)), (some 5), none⟩] false) (.seq (.region [⟨(.mov (.t 0)), (some 25), none⟩, ⟨(.call 34 [(.t 25)]), (some 26), none⟩, ⟨(.mov (.t 26)), (some 6), none⟩] false) (.seq (.region [⟨(.mov (.t 6)), (some 28), none⟩, ⟨(.call 48 [(.t 28)]), (some 29), none⟩, ⟨(.mov (.t 29)), (some 27), none⟩, ⟨(.extract (.t 27) 0), (some 30), none⟩, ⟨(.extract (.t 27) 1), (some 31), none⟩, ⟨(.mov (.t 30)), (some 7), none⟩, ⟨(.mov (.t 31)), (some 8), none⟩] false) (.seq (.seq (.region [⟨(.mov (.t 7)), (some 32), none⟩, ⟨(.mov (.t 4)), (some 33), none⟩, ⟨(.call 20 [(.t 32), (.t 33)]), (some 34), none⟩, ⟨(.un .not (.t 34)), (some 35), none⟩, ⟨(.mov (.t 35)), (some 36), none⟩, ⟨(.mov (.t 8)), (some 37), (some (36, false))⟩, ⟨(.mov (.t 5)), (some 38), (some (36, false))⟩, ⟨(.bin .neq (.t 37) (.t 38)), (some 39), (some (36, false))⟩, ⟨(.pick (.t 36) (.k (.bool true)) (.t 39)), (some 40), none⟩] false) (.cond (.t 40) (.seq (.region [⟨(.mov (.k (.bool false))), (some 2), none⟩] false) .ret) .skip)) (.seq (.seq (.region [⟨(.mov (.t 6)), (some 41), none⟩, ⟨(.mov (.t 0)), (some 42), none⟩, ⟨(.call 34 [(.t 42)]), (some 43), none⟩, ⟨(.call 36 [(.t 41), (.t 43)]), (some 44), none⟩, ⟨(.un .not (.t 44)), (some 45), none⟩] false) (.cond (.t 45) (.seq (.region [⟨(.mov (.k (.bool false))), (some 2), none⟩] false) .ret) .skip)) (.seq (.region [⟨(.mov (.k (.int .i64 1))), (some 9), none⟩] false) (.seq (.region [⟨(.mov (.t 6)), (some 46), none⟩, ⟨(.mov (.t 9)), (some 47), none⟩, ⟨(.call 45 [(.t 46), (.t 47)]), (some 48), none⟩, ⟨(.mov (.t 48)), (some 9), none⟩] false) (.seq (.seq (.region [⟨(.mov (.t 9)), (some 49), none⟩, ⟨(.bin .lss (.t 49) (.k (.int .i64 0))), (some 50), none⟩, ⟨(.mov (.t 50)), (some 51), none⟩, ⟨(.mov (.t 7)), (some 52), (some (51, false))⟩, ⟨(.mov (.t 4)), (some 53), (some (51, false))⟩, ⟨(.call 20 [(.t 52), (.t 53)]), (some 54), (some (51, false))⟩, ⟨(.un .not (.t 54)), (some 55), (some (51, false))⟩, ⟨(.pick (.t 51) (.k (.bool true)) (.t 55)), (some 56), none⟩, ⟨(.mov (.t 56)), (some 57), none⟩, ⟨(.mov (.t 8)), (some 58), (some (57, false))⟩, ⟨(.mov (.t 5)), (some 59), (some (57, false))⟩, ⟨(.bin .neq (.t 58) (.t 59)), (some 60), (some (57, false))⟩, ⟨(.pick (.t 57) (.k (.bool true)) (.t 60)), (some 61), none⟩] false) (.cond (.t 61) (.seq (.region [⟨(.mov (.k (.bool false))), (some 2), none⟩] false) .ret) .skip)) (.seq (.region [⟨(.mov (.k (.int .i64 1))), (some 10), none⟩] false) (.seq (.region [⟨(.mov (.t 7)), (some 62), none⟩, ⟨(.mov (.t 10)), (some 63), none⟩, ⟨(.call 24 [(.t 62), (.t 63)]), (some 64), none⟩, ⟨(.mov (.t 64)), (some 10), none⟩] false) (.seq (.region [⟨(.mov (.k (.int .i64 1))), (some 11), none⟩] false) (.seq (.region [⟨(.mov (.t 7)), (some 65), none⟩, ⟨(.mov (.t 11)), (some 66), none⟩, ⟨(.call 25 [(.t 65), (.t 66)]), (some 67), none⟩, ⟨(.mov (.t 67)), (some 11), none⟩] false) (.seq (.seq (.region [⟨(.mov (.t 11)), (some 68), none⟩, ⟨(.bin .lss (.t 68) (.k (.int .i64 0))), (some 69), none⟩] false) (.cond (.t 69) (.seq (.region [⟨(.mov (.k (.bool false))), (some 2), none⟩] false) .ret) .skip)) (.seq (.seq (.region [⟨(.mov (.t 11)), (some 70), none⟩, ⟨(.mov (.t 10)), (some 71), none⟩, ⟨(.bin .neq (.t 70) (.t 71)), (some 72), none⟩] false) (.cond (.t 72) (.seq (.region [⟨(.mov (.k (.bool false))), (some 2), none⟩] false) .ret) .skip)) (.seq (.region [⟨(.mov (.t 0)), (some 74), none⟩, ⟨(.call 34 [(.t 74)]), (some 75), none⟩, ⟨(.call 48 [(.t 75)]), (some 76), none⟩, ⟨(.mov (.t 76)), (some 73), none⟩, ⟨(.extract (.t 73) 0), (some 77), none⟩, ⟨(.extract (.t 73) 1), (some 78), none⟩, ⟨(.mov (.t 77)), (some 12), none⟩, ⟨(.mov (.t 78)), (some 13), none⟩] false) (.seq (.seq (.region [⟨(.mov (.t 12)), (some 79), none⟩, ⟨(.mov (.t 4)), (some 80), none⟩, ⟨(.call 20 [(.t 79), (.t 80)]), (some 81), none⟩, ⟨(.un .not (.t 81)), (some 82), none⟩, ⟨(.mov (.t 82)), (some 83), none⟩, ⟨(.mov (.t 13)), (some 84), (some (83, false))⟩, ⟨(.mov (.t 5)), (some 85), (some (83, false))⟩, ⟨(.bin .neq (.t 84) (.t 85)), (some 86), (some (83, false))⟩, ⟨(.pick (.t 83) (.k (.bool true)) (.t 86)), (some 87), none⟩] false) (.cond (.t 87) (.seq (.region [⟨(.mov (.k (.bool false))), (some 2), none⟩] false) .ret) .skip)) (.seq (.region [⟨(.mov (.k (.int .i64 1))), (some 11), none⟩] false) (.seq (.region [⟨(.mov (.t 7)), (some 88), none⟩, ⟨(.mov (.t 11)), (some 89), none⟩, ⟨(.call 25 [(.t 88), (.t 89)]), (some 90), none⟩, ⟨(.mov (.t 90)), (some 11), none⟩] false) (.seq (.seq (.region [⟨(.mov (.t 11)), (some 91), none⟩, ⟨(.bin .lss (.t 91) (.k (.int .i64 0))), (some 92), none⟩] false) (.cond (.t 92) (.seq (.region [⟨(.mov (.k (.bool false))), (some 2), none⟩] false) .ret) .skip)) (.seq (.seq (.region [⟨(.mov (.t 11)), (some 93), none⟩, ⟨(.mov (.t 10)), (some 94), none⟩, ⟨(.bin .neq (.t 93) (.t 94)), (some 95), none⟩] false) (.cond (.t 95) (.seq (.region [⟨(.mov (.k (.bool false))), (some 2), none⟩] false) .ret) .skip)) (.seq (.region [⟨(.mov (.k (.bool true))), (some 2), none⟩] false) .ret)))))))))))))))))))))))))
theorem has11 : Has cx 11 96 m11 [(.tmp 2)] :=
  ⟨⟨Try.f11, Try.f11.body.getD .skip, by kernel_rfl, by kernel_rfl, by kernel_rfl, by kernel_rfl, by kernel_rfl, by kernel_rfl⟩⟩
-- ROW ev11: bd0
theorem ev11 (a : V) (h : Heap) (c : List Int) (fa : FA .i64 2 a h c) (hb : c.length ≤ 2 * Go.maxLen) : Ev cx 11 [a] h (.bool true) h := by
  have hml : Go.maxLen = 9223372036854775807 := by decide
  cases fa with
  | nil =>
    have s0 := ev32_nils
    have e0 := ev34_nils
    rw [show zints [] = fns [] from rfl] at e0
    have e1 := ev47 [] (by simp)
    have e2 := ev48 [] (by simp)
    have h2 : (lcode [] != lcode []) = false := by simp
    have m1 := ev45 0 (fns []) (by omega) rfl
    have q5 : decide (((2 * 0 + 1 : Nat) : Int) < 0) = false := decide_eq_false (by omega)
    have q3 := ev36 0 (fns []) (fns []) (fun j => ([] : List (Int × Int)).getD j (0, 0)) (some 0) (some 0) (by omega) (fun j hj => fns_pair (by simp at hj)) (fun j hj => fns_pair (by simp at hj))
    by_cases h0 : lcode [] = 0
    · rw [if_pos h0, if_pos h0] at e1
      rw [if_pos h0] at e2
      cases hs : clL [] with
      | nil =>
        rw [hs] at e1 e2
        refine has11.eev rfl rfl ?_
        unfold m11
        repeat' (first
          | (refine g_op ?_; first
            | refine ep_mov rfl ?_
            | refine ep_call0 rfl (by first | exact e0 | exact s0 | exact e1 | exact e2 | exact q3 | exact m1 | exact ev20_nils_emp | exact ev24_nils | exact ev25_nils) rfl rfl ?_
            | refine sp_call rfl rfl rfl rfl (by first | exact e0 | exact s0 | exact e1 | exact e2 | exact q3 | exact m1 | exact ev20_nils_emp | exact ev24_nils | exact ev25_nils) ⟨rfl, rfl, rfl, rfl⟩ rfl rfl rfl ?_
            | refine ep_bin rfl rfl (by first | exact b_add (by omega) (by omega) | exact b_sub (by omega) (by omega) | exact b_and (by omega) (by omega) | exact b_or (by omega) (by omega) | exact b_shr (by omega) | exact b_shl (by omega) (by omega) | exact b_lss | exact b_leq | exact b_gtr | exact b_geq | exact b_eql | exact b_neq) ?_
            | refine ep_pickT rfl rfl ?_ | refine ep_pickF rfl rfl ?_ | refine ep_pickTH rfl (by assumption) rfl ?_ | refine ep_pickFH rfl (by assumption) rfl ?_ | refine ep_extract rfl rfl ?_ | refine ep_not rfl ?_)
          | (refine g_ops ?_; first | refine eo_none ?_ | refine eo_nil ?_ | refine eo_yes rfl ?_ | refine eo_no rfl ?_ | refine eo_und rfl ?_ | refine eo_yesH rfl (by assumption) ?_ | refine eo_noH rfl (by assumption) ?_)
          | (refine g_code ?_; first | refine ec_seq ?_ | refine ec_region ?_ | refine ec_skip ?_ | refine ec_ret ?_ | refine ec_condT rfl ?_ | refine ec_condF rfl ?_ | refine ec_condTH rfl (by assumption) ?_ | refine ec_condFH rfl (by assumption) ?_)
          | refine ek_seqN ?_ | refine ek_seqR ?_)
        refine sfin (.inr rfl) (by rfl) (by rfl) (by exact ⟨rfl, rfl, rfl⟩) (by rfl) (by rfl) (by rfl) (by first | rfl | (simp; done) | (simp [ints, prs]; done))
      | cons x xs =>
        have hlen := selm_len (allIC []) idn 5
        rw [show selm (allIC []) idn 5 = _ from hs] at hlen
        rw [hs] at e1 e2
        have e3 := ev20 (x :: xs).length (ints (x :: xs)) (ints (x :: xs)) (fun j => (((x :: xs).getD j 0 : Nat) : Int)) (some 0) (some 0) (by omega) (fun j hj => ints_get hj) (fun j hj => ints_get hj)
        have e4 := ev24 (x :: xs).length (ints (x :: xs)) (by omega) (ints_len _)
        have e5 := ev25 (x :: xs).length (ints (x :: xs)) (by omega)
        have q1 : decide ((((x :: xs).length + 1 : Nat) : Int) < 0) = false := decide_eq_false (by omega)
        have q2 : ((((x :: xs).length + 1 : Nat) : Int) != ((x :: xs).length + 1 : Nat)) = false := by simp
        refine has11.eev rfl rfl ?_
        unfold m11
        repeat' (first
          | (refine g_op ?_; first
            | refine ep_mov rfl ?_
            | refine ep_call0 rfl (by first | exact e0 | exact s0 | exact e1 | exact e2 | exact q3 | exact m1 | exact e3 | exact e4 | exact e5) rfl rfl ?_
            | refine sp_call rfl rfl rfl rfl (by first | exact e0 | exact s0 | exact e1 | exact e2 | exact q3 | exact m1 | exact e3 | exact e4 | exact e5) ⟨rfl, rfl, rfl, rfl⟩ rfl rfl rfl ?_
            | refine ep_bin rfl rfl (by first | exact b_add (by omega) (by omega) | exact b_sub (by omega) (by omega) | exact b_and (by omega) (by omega) | exact b_or (by omega) (by omega) | exact b_shr (by omega) | exact b_shl (by omega) (by omega) | exact b_lss | exact b_leq | exact b_gtr | exact b_geq | exact b_eql | exact b_neq) ?_
            | refine ep_pickT rfl rfl ?_ | refine ep_pickF rfl rfl ?_ | refine ep_pickTH rfl (by assumption) rfl ?_ | refine ep_pickFH rfl (by assumption) rfl ?_ | refine ep_extract rfl rfl ?_ | refine ep_not rfl ?_)
          | (refine g_ops ?_; first | refine eo_none ?_ | refine eo_nil ?_ | refine eo_yes rfl ?_ | refine eo_no rfl ?_ | refine eo_und rfl ?_ | refine eo_yesH rfl (by assumption) ?_ | refine eo_noH rfl (by assumption) ?_)
          | (refine g_code ?_; first | refine ec_seq ?_ | refine ec_region ?_ | refine ec_skip ?_ | refine ec_ret ?_ | refine ec_condT rfl ?_ | refine ec_condF rfl ?_ | refine ec_condTH rfl (by assumption) ?_ | refine ec_condFH rfl (by assumption) ?_)
          | refine ek_seqN ?_ | refine ek_seqR ?_)
        refine sfin (.inr rfl) (by rfl) (by rfl) (by exact ⟨rfl, rfl, rfl⟩) (by rfl) (by rfl) (by rfl) (by first | rfl | (simp; done) | (simp [ints, prs]; done))
    · rw [if_neg h0, if_neg h0] at e1
      rw [if_neg h0] at e2
      refine has11.eev rfl rfl ?_
      unfold m11
      repeat' (first
        | (refine g_op ?_; first
          | refine ep_mov rfl ?_
          | refine ep_call0 rfl (by first | exact e0 | exact s0 | exact e1 | exact e2 | exact q3 | exact m1 | exact ev20_nils_nils | exact ev24_nils | exact ev25_nils) rfl rfl ?_
          | refine sp_call rfl rfl rfl rfl (by first | exact e0 | exact s0 | exact e1 | exact e2 | exact q3 | exact m1 | exact ev20_nils_nils | exact ev24_nils | exact ev25_nils) ⟨rfl, rfl, rfl, rfl⟩ rfl rfl rfl ?_
          | refine ep_bin rfl rfl (by first | exact b_add (by omega) (by omega) | exact b_sub (by omega) (by omega) | exact b_and (by omega) (by omega) | exact b_or (by omega) (by omega) | exact b_shr (by omega) | exact b_shl (by omega) (by omega) | exact b_lss | exact b_leq | exact b_gtr | exact b_geq | exact b_eql | exact b_neq) ?_
          | refine ep_pickT rfl rfl ?_ | refine ep_pickF rfl rfl ?_ | refine ep_pickTH rfl (by assumption) rfl ?_ | refine ep_pickFH rfl (by assumption) rfl ?_ | refine ep_extract rfl rfl ?_ | refine ep_not rfl ?_)
        | (refine g_ops ?_; first | refine eo_none ?_ | refine eo_nil ?_ | refine eo_yes rfl ?_ | refine eo_no rfl ?_ | refine eo_und rfl ?_ | refine eo_yesH rfl (by assumption) ?_ | refine eo_noH rfl (by assumption) ?_)
        | (refine g_code ?_; first | refine ec_seq ?_ | refine ec_region ?_ | refine ec_skip ?_ | refine ec_ret ?_ | refine ec_condT rfl ?_ | refine ec_condF rfl ?_ | refine ec_condTH rfl (by assumption) ?_ | refine ec_condFH rfl (by assumption) ?_)
        | refine ek_seqN ?_ | refine ek_seqR ?_)
      refine sfin (.inr rfl) (by rfl) (by rfl) (by exact ⟨rfl, rfl, rfl⟩) (by rfl) (by rfl) (by rfl) (by first | rfl | (simp; done) | (simp [ints, prs]; done))
  | emp =>
    have s0 := ev32_emp
    have e0 := ev34_emp
    rw [show zints [] = fns [] from rfl] at e0
    have e1 := ev47 [] (by simp)
    have e2 := ev48 [] (by simp)
    have h2 : (lcode [] != lcode []) = false := by simp
    have m1 := ev45 0 (fns []) (by omega) rfl
    have q5 : decide (((2 * 0 + 1 : Nat) : Int) < 0) = false := decide_eq_false (by omega)
    have q3 := ev36 0 (fns []) (fns []) (fun j => ([] : List (Int × Int)).getD j (0, 0)) (some 0) (some 0) (by omega) (fun j hj => fns_pair (by simp at hj)) (fun j hj => fns_pair (by simp at hj))
    by_cases h0 : lcode [] = 0
    · rw [if_pos h0, if_pos h0] at e1
      rw [if_pos h0] at e2
      cases hs : clL [] with
      | nil =>
        rw [hs] at e1 e2
        refine has11.eev rfl rfl ?_
        unfold m11
        repeat' (first
          | (refine g_op ?_; first
            | refine ep_mov rfl ?_
            | refine ep_call0 rfl (by first | exact e0 | exact s0 | exact e1 | exact e2 | exact q3 | exact m1 | exact ev20_nils_emp | exact ev24_nils | exact ev25_nils) rfl rfl ?_
            | refine sp_call rfl rfl rfl rfl (by first | exact e0 | exact s0 | exact e1 | exact e2 | exact q3 | exact m1 | exact ev20_nils_emp | exact ev24_nils | exact ev25_nils) ⟨rfl, rfl, rfl, rfl⟩ rfl rfl rfl ?_
            | refine ep_bin rfl rfl (by first | exact b_add (by omega) (by omega) | exact b_sub (by omega) (by omega) | exact b_and (by omega) (by omega) | exact b_or (by omega) (by omega) | exact b_shr (by omega) | exact b_shl (by omega) (by omega) | exact b_lss | exact b_leq | exact b_gtr | exact b_geq | exact b_eql | exact b_neq) ?_
            | refine ep_pickT rfl rfl ?_ | refine ep_pickF rfl rfl ?_ | refine ep_pickTH rfl (by assumption) rfl ?_ | refine ep_pickFH rfl (by assumption) rfl ?_ | refine ep_extract rfl rfl ?_ | refine ep_not rfl ?_)
          | (refine g_ops ?_; first | refine eo_none ?_ | refine eo_nil ?_ | refine eo_yes rfl ?_ | refine eo_no rfl ?_ | refine eo_und rfl ?_ | refine eo_yesH rfl (by assumption) ?_ | refine eo_noH rfl (by assumption) ?_)
          | (refine g_code ?_; first | refine ec_seq ?_ | refine ec_region ?_ | refine ec_skip ?_ | refine ec_ret ?_ | refine ec_condT rfl ?_ | refine ec_condF rfl ?_ | refine ec_condTH rfl (by assumption) ?_ | refine ec_condFH rfl (by assumption) ?_)
          | refine ek_seqN ?_ | refine ek_seqR ?_)
        refine sfin (.inr rfl) (by rfl) (by rfl) (by exact ⟨rfl, rfl, rfl⟩) (by rfl) (by rfl) (by rfl) (by first | rfl | (simp; done) | (simp [ints, prs]; done))
      | cons x xs =>
        have hlen := selm_len (allIC []) idn 5
        rw [show selm (allIC []) idn 5 = _ from hs] at hlen
        rw [hs] at e1 e2
        have e3 := ev20 (x :: xs).length (ints (x :: xs)) (ints (x :: xs)) (fun j => (((x :: xs).getD j 0 : Nat) : Int)) (some 0) (some 0) (by omega) (fun j hj => ints_get hj) (fun j hj => ints_get hj)
        have e4 := ev24 (x :: xs).length (ints (x :: xs)) (by omega) (ints_len _)
        have e5 := ev25 (x :: xs).length (ints (x :: xs)) (by omega)
        have q1 : decide ((((x :: xs).length + 1 : Nat) : Int) < 0) = false := decide_eq_false (by omega)
        have q2 : ((((x :: xs).length + 1 : Nat) : Int) != ((x :: xs).length + 1 : Nat)) = false := by simp
        refine has11.eev rfl rfl ?_
        unfold m11
        repeat' (first
          | (refine g_op ?_; first
            | refine ep_mov rfl ?_
            | refine ep_call0 rfl (by first | exact e0 | exact s0 | exact e1 | exact e2 | exact q3 | exact m1 | exact e3 | exact e4 | exact e5) rfl rfl ?_
            | refine sp_call rfl rfl rfl rfl (by first | exact e0 | exact s0 | exact e1 | exact e2 | exact q3 | exact m1 | exact e3 | exact e4 | exact e5) ⟨rfl, rfl, rfl, rfl⟩ rfl rfl rfl ?_
            | refine ep_bin rfl rfl (by first | exact b_add (by omega) (by omega) | exact b_sub (by omega) (by omega) | exact b_and (by omega) (by omega) | exact b_or (by omega) (by omega) | exact b_shr (by omega) | exact b_shl (by omega) (by omega) | exact b_lss | exact b_leq | exact b_gtr | exact b_geq | exact b_eql | exact b_neq) ?_
            | refine ep_pickT rfl rfl ?_ | refine ep_pickF rfl rfl ?_ | refine ep_pickTH rfl (by assumption) rfl ?_ | refine ep_pickFH rfl (by assumption) rfl ?_ | refine ep_extract rfl rfl ?_ | refine ep_not rfl ?_)
          | (refine g_ops ?_; first | refine eo_none ?_ | refine eo_nil ?_ | refine eo_yes rfl ?_ | refine eo_no rfl ?_ | refine eo_und rfl ?_ | refine eo_yesH rfl (by assumption) ?_ | refine eo_noH rfl (by assumption) ?_)
          | (refine g_code ?_; first | refine ec_seq ?_ | refine ec_region ?_ | refine ec_skip ?_ | refine ec_ret ?_ | refine ec_condT rfl ?_ | refine ec_condF rfl ?_ | refine ec_condTH rfl (by assumption) ?_ | refine ec_condFH rfl (by assumption) ?_)
          | refine ek_seqN ?_ | refine ek_seqR ?_)
        refine sfin (.inr rfl) (by rfl) (by rfl) (by exact ⟨rfl, rfl, rfl⟩) (by rfl) (by rfl) (by rfl) (by first | rfl | (simp; done) | (simp [ints, prs]; done))
    · rw [if_neg h0, if_neg h0] at e1
      rw [if_neg h0] at e2
      refine has11.eev rfl rfl ?_
      unfold m11
      repeat' (first
        | (refine g_op ?_; first
          | refine ep_mov rfl ?_
          | refine ep_call0 rfl (by first | exact e0 | exact s0 | exact e1 | exact e2 | exact q3 | exact m1 | exact ev20_nils_nils | exact ev24_nils | exact ev25_nils) rfl rfl ?_
          | refine sp_call rfl rfl rfl rfl (by first | exact e0 | exact s0 | exact e1 | exact e2 | exact q3 | exact m1 | exact ev20_nils_nils | exact ev24_nils | exact ev25_nils) ⟨rfl, rfl, rfl, rfl⟩ rfl rfl rfl ?_
          | refine ep_bin rfl rfl (by first | exact b_add (by omega) (by omega) | exact b_sub (by omega) (by omega) | exact b_and (by omega) (by omega) | exact b_or (by omega) (by omega) | exact b_shr (by omega) | exact b_shl (by omega) (by omega) | exact b_lss | exact b_leq | exact b_gtr | exact b_geq | exact b_eql | exact b_neq) ?_
          | refine ep_pickT rfl rfl ?_ | refine ep_pickF rfl rfl ?_ | refine ep_pickTH rfl (by assumption) rfl ?_ | refine ep_pickFH rfl (by assumption) rfl ?_ | refine ep_extract rfl rfl ?_ | refine ep_not rfl ?_)
        | (refine g_ops ?_; first | refine eo_none ?_ | refine eo_nil ?_ | refine eo_yes rfl ?_ | refine eo_no rfl ?_ | refine eo_und rfl ?_ | refine eo_yesH rfl (by assumption) ?_ | refine eo_noH rfl (by assumption) ?_)
        | (refine g_code ?_; first | refine ec_seq ?_ | refine ec_region ?_ | refine ec_skip ?_ | refine ec_ret ?_ | refine ec_condT rfl ?_ | refine ec_condF rfl ?_ | refine ec_condTH rfl (by assumption) ?_ | refine ec_condFH rfl (by assumption) ?_)
        | refine ek_seqN ?_ | refine ek_seqR ?_)
      refine sfin (.inr rfl) (by rfl) (by rfl) (by exact ⟨rfl, rfl, rfl⟩) (by rfl) (by rfl) (by rfl) (by first | rfl | (simp; done) | (simp [ints, prs]; done))
  | sl o n c hc =>
    have s0 := ev32 o n c (by omega)
    by_cases hn : n ≤ 1048576
    · rw [if_pos hn] at s0
      have g1 : decide ((1048576 - (n : Nat) : Int) < 0) = false := decide_eq_false (by omega)
      have e0 := ev34 o n c hc hn
      rw [prOf_fns n c hc] at e0
      have e1 := ev47 (prOf c n) (by rw [prOf_len]; exact hn)
      have e2 := ev48 (prOf c n) (by rw [prOf_len]; exact hn)
      rw [prOf_len] at e1 e2
      have h2 : (lcode (prOf c n) != lcode (prOf c n)) = false := by simp
      have m1 := ev45 n (fns (prOf c n)) (by omega) (by rw [fns_len, prOf_len])
      have q5 : decide (((2 * n + 1 : Nat) : Int) < 0) = false := decide_eq_false (by omega)
      have q3 := ev36 n (fns (prOf c n)) (fns (prOf c n)) (fun j => ((prOf c n) : List (Int × Int)).getD j (0, 0)) (some 0) (some 0) (by omega) (fun j hj => fns_pair (by rwa [prOf_len])) (fun j hj => fns_pair (by rwa [prOf_len]))
      by_cases h0 : lcode (prOf c n) = 0
      · rw [if_pos h0, if_pos h0] at e1
        rw [if_pos h0] at e2
        cases hs : clL (prOf c n) with
        | nil =>
          rw [hs] at e1 e2
          refine has11.eev rfl rfl ?_
          unfold m11
          repeat' (first
            | (refine g_op ?_; first
              | refine ep_mov rfl ?_
              | refine ep_call0 rfl (by first | exact e0 | exact s0 | exact e1 | exact e2 | exact q3 | exact m1 | exact ev20_nils_emp | exact ev24_nils | exact ev25_nils) rfl rfl ?_
              | refine sp_call rfl rfl rfl rfl (by first | exact e0 | exact s0 | exact e1 | exact e2 | exact q3 | exact m1 | exact ev20_nils_emp | exact ev24_nils | exact ev25_nils) ⟨rfl, rfl, rfl, rfl⟩ rfl rfl rfl ?_
              | refine ep_bin rfl rfl (by first | exact b_add (by omega) (by omega) | exact b_sub (by omega) (by omega) | exact b_and (by omega) (by omega) | exact b_or (by omega) (by omega) | exact b_shr (by omega) | exact b_shl (by omega) (by omega) | exact b_lss | exact b_leq | exact b_gtr | exact b_geq | exact b_eql | exact b_neq) ?_
              | refine ep_pickT rfl rfl ?_ | refine ep_pickF rfl rfl ?_ | refine ep_pickTH rfl (by assumption) rfl ?_ | refine ep_pickFH rfl (by assumption) rfl ?_ | refine ep_extract rfl rfl ?_ | refine ep_not rfl ?_)
            | (refine g_ops ?_; first | refine eo_none ?_ | refine eo_nil ?_ | refine eo_yes rfl ?_ | refine eo_no rfl ?_ | refine eo_und rfl ?_ | refine eo_yesH rfl (by assumption) ?_ | refine eo_noH rfl (by assumption) ?_)
            | (refine g_code ?_; first | refine ec_seq ?_ | refine ec_region ?_ | refine ec_skip ?_ | refine ec_ret ?_ | refine ec_condT rfl ?_ | refine ec_condF rfl ?_ | refine ec_condTH rfl (by assumption) ?_ | refine ec_condFH rfl (by assumption) ?_)
            | refine ek_seqN ?_ | refine ek_seqR ?_)
          refine sfin (.inr rfl) (by rfl) (by rfl) (by exact ⟨rfl, rfl, rfl⟩) (by rfl) (by rfl) (by rfl) (by first | rfl | (simp; done) | (simp [ints, prs]; done))
        | cons x xs =>
          have hlen := selm_len (allIC (prOf c n)) idn 5
          rw [show selm (allIC (prOf c n)) idn 5 = _ from hs] at hlen
          rw [hs] at e1 e2
          have e3 := ev20 (x :: xs).length (ints (x :: xs)) (ints (x :: xs)) (fun j => (((x :: xs).getD j 0 : Nat) : Int)) (some 0) (some 0) (by omega) (fun j hj => ints_get hj) (fun j hj => ints_get hj)
          have e4 := ev24 (x :: xs).length (ints (x :: xs)) (by omega) (ints_len _)
          have e5 := ev25 (x :: xs).length (ints (x :: xs)) (by omega)
          have q1 : decide ((((x :: xs).length + 1 : Nat) : Int) < 0) = false := decide_eq_false (by omega)
          have q2 : ((((x :: xs).length + 1 : Nat) : Int) != ((x :: xs).length + 1 : Nat)) = false := by simp
          refine has11.eev rfl rfl ?_
          unfold m11
          repeat' (first
            | (refine g_op ?_; first
              | refine ep_mov rfl ?_
              | refine ep_call0 rfl (by first | exact e0 | exact s0 | exact e1 | exact e2 | exact q3 | exact m1 | exact e3 | exact e4 | exact e5) rfl rfl ?_
              | refine sp_call rfl rfl rfl rfl (by first | exact e0 | exact s0 | exact e1 | exact e2 | exact q3 | exact m1 | exact e3 | exact e4 | exact e5) ⟨rfl, rfl, rfl, rfl⟩ rfl rfl rfl ?_
              | refine ep_bin rfl rfl (by first | exact b_add (by omega) (by omega) | exact b_sub (by omega) (by omega) | exact b_and (by omega) (by omega) | exact b_or (by omega) (by omega) | exact b_shr (by omega) | exact b_shl (by omega) (by omega) | exact b_lss | exact b_leq | exact b_gtr | exact b_geq | exact b_eql | exact b_neq) ?_
              | refine ep_pickT rfl rfl ?_ | refine ep_pickF rfl rfl ?_ | refine ep_pickTH rfl (by assumption) rfl ?_ | refine ep_pickFH rfl (by assumption) rfl ?_ | refine ep_extract rfl rfl ?_ | refine ep_not rfl ?_)
            | (refine g_ops ?_; first | refine eo_none ?_ | refine eo_nil ?_ | refine eo_yes rfl ?_ | refine eo_no rfl ?_ | refine eo_und rfl ?_ | refine eo_yesH rfl (by assumption) ?_ | refine eo_noH rfl (by assumption) ?_)
            | (refine g_code ?_; first | refine ec_seq ?_ | refine ec_region ?_ | refine ec_skip ?_ | refine ec_ret ?_ | refine ec_condT rfl ?_ | refine ec_condF rfl ?_ | refine ec_condTH rfl (by assumption) ?_ | refine ec_condFH rfl (by assumption) ?_)
            | refine ek_seqN ?_ | refine ek_seqR ?_)
          refine sfin (.inr rfl) (by rfl) (by rfl) (by exact ⟨rfl, rfl, rfl⟩) (by rfl) (by rfl) (by rfl) (by first | rfl | (simp; done) | (simp [ints, prs]; done))
      · rw [if_neg h0, if_neg h0] at e1
        rw [if_neg h0] at e2
        refine has11.eev rfl rfl ?_
        unfold m11
        repeat' (first
          | (refine g_op ?_; first
            | refine ep_mov rfl ?_
            | refine ep_call0 rfl (by first | exact e0 | exact s0 | exact e1 | exact e2 | exact q3 | exact m1 | exact ev20_nils_nils | exact ev24_nils | exact ev25_nils) rfl rfl ?_
            | refine sp_call rfl rfl rfl rfl (by first | exact e0 | exact s0 | exact e1 | exact e2 | exact q3 | exact m1 | exact ev20_nils_nils | exact ev24_nils | exact ev25_nils) ⟨rfl, rfl, rfl, rfl⟩ rfl rfl rfl ?_
            | refine ep_bin rfl rfl (by first | exact b_add (by omega) (by omega) | exact b_sub (by omega) (by omega) | exact b_and (by omega) (by omega) | exact b_or (by omega) (by omega) | exact b_shr (by omega) | exact b_shl (by omega) (by omega) | exact b_lss | exact b_leq | exact b_gtr | exact b_geq | exact b_eql | exact b_neq) ?_
            | refine ep_pickT rfl rfl ?_ | refine ep_pickF rfl rfl ?_ | refine ep_pickTH rfl (by assumption) rfl ?_ | refine ep_pickFH rfl (by assumption) rfl ?_ | refine ep_extract rfl rfl ?_ | refine ep_not rfl ?_)
          | (refine g_ops ?_; first | refine eo_none ?_ | refine eo_nil ?_ | refine eo_yes rfl ?_ | refine eo_no rfl ?_ | refine eo_und rfl ?_ | refine eo_yesH rfl (by assumption) ?_ | refine eo_noH rfl (by assumption) ?_)
          | (refine g_code ?_; first | refine ec_seq ?_ | refine ec_region ?_ | refine ec_skip ?_ | refine ec_ret ?_ | refine ec_condT rfl ?_ | refine ec_condF rfl ?_ | refine ec_condTH rfl (by assumption) ?_ | refine ec_condFH rfl (by assumption) ?_)
          | refine ek_seqN ?_ | refine ek_seqR ?_)
        refine sfin (.inr rfl) (by rfl) (by rfl) (by exact ⟨rfl, rfl, rfl⟩) (by rfl) (by rfl) (by rfl) (by first | rfl | (simp; done) | (simp [ints, prs]; done))
    · rw [if_neg hn] at s0
      refine has11.eev rfl rfl ?_
      unfold m11
      repeat' (first
        | (refine g_op ?_; first
          | refine ep_mov rfl ?_
          | refine ep_call0 rfl (by first | exact s0) rfl rfl ?_
          | refine sp_call rfl rfl rfl rfl (by first | exact s0) ⟨rfl, rfl, rfl, rfl⟩ rfl rfl rfl ?_
          | refine ep_bin rfl rfl (by first | exact b_add (by omega) (by omega) | exact b_sub (by omega) (by omega) | exact b_and (by omega) (by omega) | exact b_or (by omega) (by omega) | exact b_shr (by omega) | exact b_shl (by omega) (by omega) | exact b_lss | exact b_leq | exact b_gtr | exact b_geq | exact b_eql | exact b_neq) ?_
          | refine ep_pickT rfl rfl ?_ | refine ep_pickF rfl rfl ?_ | refine ep_pickTH rfl (by assumption) rfl ?_ | refine ep_pickFH rfl (by assumption) rfl ?_ | refine ep_extract rfl rfl ?_ | refine ep_not rfl ?_)
        | (refine g_ops ?_; first | refine eo_none ?_ | refine eo_nil ?_ | refine eo_yes rfl ?_ | refine eo_no rfl ?_ | refine eo_und rfl ?_ | refine eo_yesH rfl (by assumption) ?_ | refine eo_noH rfl (by assumption) ?_)
        | (refine g_code ?_; first | refine ec_seq ?_ | refine ec_region ?_ | refine ec_skip ?_ | refine ec_ret ?_ | refine ec_condT rfl ?_ | refine ec_condF rfl ?_ | refine ec_condTH rfl (by assumption) ?_ | refine ec_condFH rfl (by assumption) ?_)
        | refine ek_seqN ?_ | refine ek_seqR ?_)
      refine sfin (.inr rfl) (by rfl) (by rfl) (by exact ⟨rfl, rfl, rfl⟩) (by rfl) (by rfl) (by rfl) (by first | rfl | (simp; done) | (simp [ints, prs]; done))



end Go.Proofs.Ytiidbbbcalepjaa
