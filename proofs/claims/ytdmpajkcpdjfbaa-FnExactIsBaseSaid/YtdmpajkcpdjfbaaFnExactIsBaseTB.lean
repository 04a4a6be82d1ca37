/- What each function that the statement reaches returns. -/
import Derived.Test.YtdmpajkcpdjfbaaFnExactIsBaseTA
set_option linter.unusedVariables false
set_option linter.unusedSimpArgs false
set_option maxRecDepth 100000
set_option maxHeartbeats 4000000
namespace Go.Proofs.Ytdmpajkcpdjfbaa
open Go Go.Proofs.Ytdmpajkcpdjfbaa.Mi
attribute [local irreducible] code opsK opsDK gopK opK seqK blockK callK binV
attribute [local irreducible] R2 bt
-- (impl.Func).isIn
def m153_1 : MC := (.seq (.region [⟨(.bin .lss (.t 48) (.t 47)), (some 49), none⟩] false) (.seq (.cond (.t 49) .skip (.exit 3)) (.seq (.block 4 (.seq (.region [⟨(.mov (.t 48)), (some 50), none⟩, ⟨(.mov (.t 50)), (some 8), none⟩] false) (.region [⟨(.mov (.t 7)), (some 51), none⟩, ⟨(.mov (.t 6)), (some 52), none⟩, ⟨(.mov (.t 8)), (some 53), none⟩, ⟨(.call 137 [(.t 52), (.t 53)]), (some 54), none⟩, ⟨(.load (some 2) (.t 2)), (some 55), none⟩, ⟨(.call 104 [(.t 55), (.k (.int .i64 0))]), (some 56), none⟩, ⟨(.load (some 2) (.t 2)), (some 57), none⟩, ⟨(.mov (.t 8)), (some 58), none⟩, ⟨(.bin .shl (.k (.int .i64 1)) (.t 58)), (some 59), none⟩, ⟨(.callw 104 [(.t 57), (.t 59)]), (some 60), none⟩, ⟨(.bin .xor (.t 56) (.t 60)), (some 61), none⟩, ⟨(.bin .and (.t 54) (.t 61)), (some 62), none⟩, ⟨(.bin .xor (.t 51) (.t 62)), (some 63), none⟩, ⟨(.mov (.t 63)), (some 7), none⟩] true))) (.region [⟨(.bin .add (.t 48) (.k (.int .i64 1))), (some 64), none⟩, ⟨(.mov (.t 64)), (some 48), none⟩] false))))
def m153_0 : MC := (.seq (.region [⟨(.bin .lss (.t 41) (.t 40)), (some 42), none⟩] false) (.seq (.cond (.t 42) .skip (.exit 1)) (.seq (.block 2 (.seq (.region [⟨(.mov (.t 41)), (some 43), none⟩, ⟨(.mov (.t 43)), (some 6), none⟩] false) (.seq (.region [⟨(.load (some 2) (.t 2)), (some 44), none⟩, ⟨(.call 104 [(.t 44), (.k (.int .i64 0))]), (some 45), none⟩, ⟨(.mov (.t 45)), (some 7), none⟩] false) (.seq (.seq (.region [⟨(.fieldAddr 0 (.t 2)), (some 46), none⟩, ⟨(.load none (.t 46)), (some 47), none⟩, ⟨(.mov (.k (.int .i64 0))), (some 48), none⟩] false) (.block 3 (.loop m153_1))) (.seq (.region [⟨(.mov (.t 7)), (some 65), none⟩, ⟨(.load (some 2) (.t 2)), (some 66), none⟩, ⟨(.mov (.t 6)), (some 67), none⟩, ⟨(.call 104 [(.t 66), (.t 67)]), (some 68), none⟩, ⟨(.bin .neq (.t 65) (.t 68)), (some 69), none⟩] false) (.cond (.t 69) (.seq (.region [⟨(.mov (.k (.bool false))), (some 4), none⟩] false) .ret) .skip)))))) (.region [⟨(.bin .add (.t 41) (.k (.int .i64 1))), (some 70), none⟩, ⟨(.mov (.t 70)), (some 41), none⟩] false))))
def m153 : MC := (.seq (.region [⟨(.box (.t 0)), (some 2), none⟩, ⟨(.mov (.k (.bool false))), (some 4), none⟩] false) (.seq (.region [⟨(.load (some 2) (.t 2)), (some 9), none⟩, ⟨(.call 106 [(.t 9)]), (some 10), none⟩, ⟨(.bin .sub (.t 10) (.k (.int .i64 1))), (some 11), none⟩, ⟨(.mov (.t 11)), (some 5), none⟩] false) (.seq (.seq (.region [⟨(.mov (.t 1)), (some 12), none⟩] false) (.block 0 (.seq (.region [⟨(.bin .eql (.t 12) (.k (.int .i64 0))), (some 14), none⟩, ⟨(.mov (.t 14)), (some 13), none⟩] false) (.cond (.t 13) (.seq (.region [⟨(.load (some 2) (.t 2)), (some 15), none⟩, ⟨(.call 104 [(.t 15), (.k (.int .i64 0))]), (some 16), none⟩, ⟨(.bin .eql (.t 16) (.k (.int .i64 0))), (some 17), none⟩, ⟨(.mov (.t 17)), (some 4), none⟩] false) .ret) (.seq (.region [⟨(.bin .eql (.t 12) (.k (.int .i64 1))), (some 19), none⟩, ⟨(.mov (.t 19)), (some 18), none⟩] false) (.cond (.t 18) (.seq (.region [⟨(.load (some 2) (.t 2)), (some 20), none⟩, ⟨(.mov (.t 5)), (some 21), none⟩, ⟨(.call 104 [(.t 20), (.t 21)]), (some 22), none⟩, ⟨(.bin .eql (.t 22) (.k (.int .i64 1))), (some 23), none⟩, ⟨(.mov (.t 23)), (some 4), none⟩] false) .ret) (.seq (.region [⟨(.bin .eql (.t 12) (.k (.int .i64 2))), (some 25), none⟩, ⟨(.mov (.t 25)), (some 24), none⟩] false) (.cond (.t 24) (.seq (.region [⟨(.fieldAddr 0 (.t 2)), (some 26), none⟩, ⟨(.load none (.t 26)), (some 27), none⟩, ⟨(.bin .gtr (.t 27) (.k (.int .i64 0))), (some 28), none⟩, ⟨(.mov (.t 28)), (some 29), none⟩, ⟨(.load (some 2) (.t 2)), (some 30), (some (29, true))⟩, ⟨(.load (some 2) (.t 2)), (some 31), (some (29, true))⟩, ⟨(.call 154 [(.t 31)]), (some 32), (some (29, true))⟩, ⟨(.eqa false 2 (.t 30) (.t 32)), (some 33), (some (29, true))⟩, ⟨(.pick (.t 29) (.t 33) (.k (.bool false))), (some 34), none⟩, ⟨(.mov (.t 34)), (some 4), none⟩] true) .ret) (.seq (.region [⟨(.bin .eql (.t 12) (.k (.int .i64 3))), (some 36), none⟩, ⟨(.mov (.t 36)), (some 35), none⟩] false) (.cond (.t 35) (.seq (.region [⟨(.load (some 2) (.t 2)), (some 37), none⟩, ⟨(.call 63 [(.t 37)]), (some 38), none⟩, ⟨(.mov (.t 38)), (some 4), none⟩] false) .ret) .skip)))))))))) (.seq (.seq (.region [⟨(.load (some 2) (.t 2)), (some 39), none⟩, ⟨(.call 106 [(.t 39)]), (some 40), none⟩, ⟨(.mov (.k (.int .i64 0))), (some 41), none⟩] false) (.block 1 (.loop m153_0))) (.seq (.region [⟨(.mov (.k (.bool true))), (some 4), none⟩] false) .ret)))))
theorem has153 : Has cx 153 71 m153 [(.tmp 4)] :=
  ⟨⟨Try.f153, Try.f153.body.getD .skip, by kernel_rfl, by kernel_rfl, by kernel_rfl, by kernel_rfl, by kernel_rfl, by kernel_rfl⟩⟩
theorem lp153_1 (n b : Nat) (hn : n ≤ 4) (hb : b < 65536) (r : Nat) (hr : r < R2 n) :
    LpS cx 71 0 m153_1 [(2, .ptr 0 0), (6, .int .i64 (r : Nat)), (7, .int .i64 (accX b r (0) : Nat)), (40, .int .i64 (R2 n : Nat)), (41, .int .i64 (r : Nat)), (47, .int .i64 (n : Nat)), (48, .int .i64 (0 : Nat))] [⟨[.int .i64 n, .int .i64 b], 1, 0, some 0, true⟩] (⟨.exit 3, [(2, .ptr 0 0), (6, .int .i64 (r : Nat)), (7, .int .i64 (accX b r (n) : Nat)), (40, .int .i64 (R2 n : Nat)), (41, .int .i64 (r : Nat))], [⟨[.int .i64 n, .int .i64 b], 1, 0, some 0, true⟩]⟩ : Out).x (⟨.exit 3, [(2, .ptr 0 0), (6, .int .i64 (r : Nat)), (7, .int .i64 (accX b r (n) : Nat)), (40, .int .i64 (R2 n : Nat)), (41, .int .i64 (r : Nat))], [⟨[.int .i64 n, .int .i64 b], 1, 0, some 0, true⟩]⟩ : Out).e (⟨.exit 3, [(2, .ptr 0 0), (6, .int .i64 (r : Nat)), (7, .int .i64 (accX b r (n) : Nat)), (40, .int .i64 (R2 n : Nat)), (41, .int .i64 (r : Nat))], [⟨[.int .i64 n, .int .i64 b], 1, 0, some 0, true⟩]⟩ : Out).h := by
  obtain ⟨h1, h2, h3, h4⟩ := shN hn
  refine lp_st (n) (fun _ => ()) (fun i _ => [(2, .ptr 0 0), (6, .int .i64 (r : Nat)), (7, .int .i64 (accX b r (i) : Nat)), (40, .int .i64 (R2 n : Nat)), (41, .int .i64 (r : Nat)), (47, .int .i64 (n : Nat)), (48, .int .i64 (i : Nat))]) (fun i _ => [⟨[.int .i64 n, .int .i64 b], 1, 0, some 0, true⟩]) (fun _ => (⟨.exit 3, [(2, .ptr 0 0), (6, .int .i64 (r : Nat)), (7, .int .i64 (accX b r (n) : Nat)), (40, .int .i64 (R2 n : Nat)), (41, .int .i64 (r : Nat))], [⟨[.int .i64 n, .int .i64 b], 1, 0, some 0, true⟩]⟩ : Out)) ?_ ?_ (n) 0 (by omega)
  · intro i u_ hi hu_
    refine ⟨(), rfl, ?_⟩
    have hlt : decide ((i : Int) < (n : Nat)) = true := decide_eq_true (by omega)
    have h5 := R2_le hi
    have a1 := accX_le b r i
    have a2 := bt_le b 0
    have a3 := bt_le b (R2 i)
    have a4 := bt_le r i
    have x1 := xor_le1 a2 a3
    have x2 : bt r i &&& (bt b 0 ^^^ bt b (R2 i)) ≤ 1 := Nat.le_trans Nat.and_le_left a4
    have b1 := b_xor (x := bt b 0) (y := bt b (R2 i)) (by omega) (by omega)
    have b2 := b_and (x := bt r i) (y := bt b 0 ^^^ bt b (R2 i)) (by omega) (by omega)
    have b3 : binV .xor (.int .i64 (accX b r i : Nat)) (.int .i64 (bt r i &&& (bt b 0 ^^^ bt b (R2 i)) : Nat)) = some (.int .i64 (accX b r (i + 1) : Nat)) := b_xor (by omega) (by omega)
    have e0 := ev104 n b 0 (by omega) (by omega)
    unfold m153_1
    repeat' (first
      | (refine g_op ?_; first
        | refine ep_mov rfl ?_ | refine sp_loadN rfl rfl rfl rfl rfl ?_
        | refine ep_call0 rfl (by first | exact e0 | exact ev137 r i (by omega) (by omega) | exact ev104 n b (R2 i) (by omega) (by omega)) rfl rfl ?_
        | refine sp_call rfl rfl rfl rfl (by first | exact e0 | exact ev137 r i (by omega) (by omega) | exact ev104 n b (R2 i) (by omega) (by omega)) ⟨rfl, rfl, rfl, rfl⟩ rfl rfl rfl ?_
        | refine ep_callw0 rfl (by first | exact e0 | exact ev137 r i (by omega) (by omega) | exact ev104 n b (R2 i) (by omega) (by omega)) rfl rfl ?_
        | refine sp_callw rfl rfl rfl rfl (by first | exact e0 | exact ev137 r i (by omega) (by omega) | exact ev104 n b (R2 i) (by omega) (by omega)) ⟨rfl, rfl, rfl, rfl⟩ rfl rfl rfl (by first | exact WrP_refl _ _ | (repeat' (first | exact rfl | exact True.intro | refine And.intro ?_ ?_))) ?_
        | refine ep_bin rfl rfl (by first | exact b1 | exact b2 | exact b3 | exact b_shl1 (by omega) (by omega) | exact b_add (by omega) (by omega) | exact b_sub (by omega) (by omega) | exact b_and (by omega) (by omega) | exact b_or (by omega) (by omega) | exact b_shr (by omega) | exact b_shl (by omega) (by omega) | exact b_lss | exact b_leq | exact b_gtr | exact b_geq | exact b_eql | exact b_neq) ?_)
      | (refine g_ops ?_; first | refine eo_none ?_ | refine eo_nil ?_)
      | (refine g_dops ?_; first | refine ed_none ?_ | refine ed_nil ?_)
      | refine ed_same rfl ?_ | refine ed_one rfl rfl rfl rfl ?_ | refine ed_two rfl rfl rfl rfl rfl rfl rfl ?_ | refine ed_write rfl rfl ?_
      | (refine g_code ?_; first | refine ec_seq ?_ | refine ec_region ?_ | refine ec_draw ?_ | refine ec_block ?_ | refine ec_skip ?_ | refine ec_exit ?_ | refine ec_condT rfl ?_ | refine ec_condF rfl ?_ | refine ec_condTH rfl (by assumption) ?_ | refine ec_condFH rfl (by assumption) ?_)
      | refine ek_seqN ?_ | refine ek_seqX ?_ | refine ek_blkN ?_ | refine ek_blkR ?_ | refine ek_blkX ?_ | refine ek_blkY rfl ?_)
    exact rnd_on (by rfl) (scmp2 (by rfl) (by rfl) (by exact ⟨rfl, rfl, rfl⟩) (by rfl) (by first | rfl | (simp; done) | (simp [ints, prs]; done)) (by rfl) (by first | rfl | (simp; done) | (simp [ints, prs]; done)))
  · intro u_ hu_
    have hlt : decide (((n : Nat) : Int) < (n : Nat)) = false := decide_eq_false (by omega)
    unfold m153_1
    repeat' (first
      | (refine g_op ?_; first
        | refine ep_mov rfl ?_ | refine sp_loadN rfl rfl rfl rfl rfl ?_
        | refine ep_bin rfl rfl (by first | exact b_add (by omega) (by omega) | exact b_sub (by omega) (by omega) | exact b_and (by omega) (by omega) | exact b_or (by omega) (by omega) | exact b_shr (by omega) | exact b_shl (by omega) (by omega) | exact b_lss | exact b_leq | exact b_gtr | exact b_geq | exact b_eql | exact b_neq) ?_)
      | (refine g_ops ?_; first | refine eo_none ?_ | refine eo_nil ?_)
      | (refine g_dops ?_; first | refine ed_none ?_ | refine ed_nil ?_)
      | refine ed_same rfl ?_ | refine ed_one rfl rfl rfl rfl ?_ | refine ed_two rfl rfl rfl rfl rfl rfl rfl ?_ | refine ed_write rfl rfl ?_
      | (refine g_code ?_; first | refine ec_seq ?_ | refine ec_region ?_ | refine ec_draw ?_ | refine ec_block ?_ | refine ec_skip ?_ | refine ec_exit ?_ | refine ec_condT rfl ?_ | refine ec_condF rfl ?_ | refine ec_condTH rfl (by assumption) ?_ | refine ec_condFH rfl (by assumption) ?_)
      | refine ek_seqN ?_ | refine ek_seqX ?_ | refine ek_blkN ?_ | refine ek_blkR ?_ | refine ek_blkX ?_ | refine ek_blkY rfl ?_)
    exact rnd_out (by rfl) (by simp) (scmp2 (by rfl) (by rfl) (by exact ⟨rfl, rfl, rfl⟩) (by rfl) (by first | rfl | (simp; done) | (simp [ints, prs]; done)) (by rfl) (by first | rfl | (simp; done) | (simp [ints, prs]; done)))

theorem lp153_0 (n b : Nat) (hn : n ≤ 4) (hb : b < 65536) (o : Out) (ho : (if allF (fun r => accX b r n == bt b r) 0 (R2 n) = true then (⟨.exit 1, [], []⟩ : Out) else ⟨.ret, [(4, .bool false)], []⟩) = o) :
    LpS cx 71 0 m153_0 [(2, .ptr 0 0), (40, .int .i64 (R2 n : Nat)), (41, .int .i64 (0 : Nat))] [⟨[.int .i64 n, .int .i64 b], 1, 0, some 0, true⟩] o.x o.e o.h := by
  obtain ⟨h1, h2, h3, h4⟩ := shN hn
  refine lp_all (R2 n) (fun r => accX b r n == bt b r) (fun i => [(2, .ptr 0 0), (40, .int .i64 (R2 n : Nat)), (41, .int .i64 (i : Nat))]) (fun i => [⟨[.int .i64 n, .int .i64 b], 1, 0, some 0, true⟩]) _ _ ?_ ?_ ?_ (R2 n) 0 o (by omega) ho
  · intro i hi hp
    have hlt : decide ((i : Int) < (R2 n : Nat)) = true := decide_eq_true (by omega)
    have hp' : (accX b i n == bt b i) = true := hp
    have lp := lp153_1 n b hn hb i hi
    rw [show accX b i 0 = bt b 0 from rfl] at lp
    have hq := ine (accX b i n) (bt b i)
    rw [show (accX b i n != bt b i) = !(accX b i n == bt b i) from rfl, hp'] at hq
    have e0 := ev104 n b 0 (by omega) (by omega)
    unfold m153_0
    repeat' (first
      | refine sc_loop lp rfl rfl ⟨rfl, rfl, rfl⟩ rfl rfl rfl ?_
      | (refine g_op ?_; first
        | refine ep_mov rfl ?_ | refine ep_load1 rfl rfl rfl rfl ?_ | refine ep_fieldAddr rfl ?_ | refine sp_loadN rfl rfl rfl rfl rfl ?_
        | refine ep_call0 rfl (by first | exact e0 | exact ev104 n b i (by omega) (by omega)) rfl rfl ?_
        | refine sp_call rfl rfl rfl rfl (by first | exact e0 | exact ev104 n b i (by omega) (by omega)) ⟨rfl, rfl, rfl, rfl⟩ rfl rfl rfl ?_
        | refine ep_bin rfl rfl (by first | exact b_add (by omega) (by omega) | exact b_sub (by omega) (by omega) | exact b_and (by omega) (by omega) | exact b_or (by omega) (by omega) | exact b_shr (by omega) | exact b_shl (by omega) (by omega) | exact b_lss | exact b_leq | exact b_gtr | exact b_geq | exact b_eql | exact b_neq) ?_)
      | (refine g_ops ?_; first | refine eo_none ?_ | refine eo_nil ?_)
      | (refine g_code ?_; first | refine ec_seq ?_ | refine ec_region ?_ | refine ec_block ?_ | refine ec_skip ?_ | refine ec_exit ?_ | refine ec_ret ?_ | refine ec_condT rfl ?_ | refine ec_condF rfl ?_ | refine ec_condTH rfl (by assumption) ?_ | refine ec_condFH rfl (by assumption) ?_)
      | refine ek_seqN ?_ | refine ek_seqX ?_ | refine ek_seqR ?_ | refine ek_blkN ?_ | refine ek_blkR ?_ | refine ek_blkX ?_ | refine ek_blkY rfl ?_)
    exact rnd_on (by rfl) (scmp2 (by rfl) (by rfl) (by exact ⟨rfl, rfl, rfl⟩) (by rfl) (by first | rfl | (simp; done) | (simp [ints, prs]; done)) (by rfl) (by first | rfl | (simp; done) | (simp [ints, prs]; done)))
  · intro i hi hp
    have hlt : decide ((i : Int) < (R2 n : Nat)) = true := decide_eq_true (by omega)
    have hp' : (accX b i n == bt b i) = false := hp
    have lp := lp153_1 n b hn hb i hi
    rw [show accX b i 0 = bt b 0 from rfl] at lp
    have hq := ine (accX b i n) (bt b i)
    rw [show (accX b i n != bt b i) = !(accX b i n == bt b i) from rfl, hp'] at hq
    have e0 := ev104 n b 0 (by omega) (by omega)
    unfold m153_0
    repeat' (first
      | refine sc_loop lp rfl rfl ⟨rfl, rfl, rfl⟩ rfl rfl rfl ?_
      | (refine g_op ?_; first
        | refine ep_mov rfl ?_ | refine ep_load1 rfl rfl rfl rfl ?_ | refine ep_fieldAddr rfl ?_ | refine sp_loadN rfl rfl rfl rfl rfl ?_
        | refine ep_call0 rfl (by first | exact e0 | exact ev104 n b i (by omega) (by omega)) rfl rfl ?_
        | refine sp_call rfl rfl rfl rfl (by first | exact e0 | exact ev104 n b i (by omega) (by omega)) ⟨rfl, rfl, rfl, rfl⟩ rfl rfl rfl ?_
        | refine ep_bin rfl rfl (by first | exact b_add (by omega) (by omega) | exact b_sub (by omega) (by omega) | exact b_and (by omega) (by omega) | exact b_or (by omega) (by omega) | exact b_shr (by omega) | exact b_shl (by omega) (by omega) | exact b_lss | exact b_leq | exact b_gtr | exact b_geq | exact b_eql | exact b_neq) ?_)
      | (refine g_ops ?_; first | refine eo_none ?_ | refine eo_nil ?_)
      | (refine g_code ?_; first | refine ec_seq ?_ | refine ec_region ?_ | refine ec_block ?_ | refine ec_skip ?_ | refine ec_exit ?_ | refine ec_ret ?_ | refine ec_condT rfl ?_ | refine ec_condF rfl ?_ | refine ec_condTH rfl (by assumption) ?_ | refine ec_condFH rfl (by assumption) ?_)
      | refine ek_seqN ?_ | refine ek_seqX ?_ | refine ek_seqR ?_ | refine ek_blkN ?_ | refine ek_blkR ?_ | refine ek_blkX ?_ | refine ek_blkY rfl ?_)
    exact rnd_out (by rfl) (by simp) (scmp2 (by rfl) (by rfl) (by exact ⟨rfl, rfl, rfl⟩) (by rfl) (by first | rfl | (simp; done) | (simp [ints, prs]; done)) (by rfl) (by first | rfl | (simp; done) | (simp [ints, prs]; done)))
  · have hlt : decide (((R2 n : Nat) : Int) < (R2 n : Nat)) = false := decide_eq_false (by omega)
    unfold m153_0
    repeat' (first
      | (refine g_op ?_; first
        | refine ep_mov rfl ?_ | refine ep_load1 rfl rfl rfl rfl ?_ | refine ep_fieldAddr rfl ?_ | refine sp_loadN rfl rfl rfl rfl rfl ?_
        | refine ep_bin rfl rfl (by first | exact b_add (by omega) (by omega) | exact b_sub (by omega) (by omega) | exact b_and (by omega) (by omega) | exact b_or (by omega) (by omega) | exact b_shr (by omega) | exact b_shl (by omega) (by omega) | exact b_lss | exact b_leq | exact b_gtr | exact b_geq | exact b_eql | exact b_neq) ?_)
      | (refine g_ops ?_; first | refine eo_none ?_ | refine eo_nil ?_)
      | (refine g_code ?_; first | refine ec_seq ?_ | refine ec_region ?_ | refine ec_block ?_ | refine ec_skip ?_ | refine ec_exit ?_ | refine ec_ret ?_ | refine ec_condT rfl ?_ | refine ec_condF rfl ?_ | refine ec_condTH rfl (by assumption) ?_ | refine ec_condFH rfl (by assumption) ?_)
      | refine ek_seqN ?_ | refine ek_seqX ?_ | refine ek_seqR ?_ | refine ek_blkN ?_ | refine ek_blkR ?_ | refine ek_blkX ?_ | refine ek_blkY rfl ?_)
    exact rnd_out (by rfl) (by simp) (scmp2 (by rfl) (by rfl) (by exact ⟨rfl, rfl, rfl⟩) (by rfl) (by first | rfl | (simp; done) | (simp [ints, prs]; done)) (by rfl) (by first | rfl | (simp; done) | (simp [ints, prs]; done)))

theorem ev153 (n b : Nat) (hn : n ≤ 4) (hb : b < 65536) (hb2 : b < R2 (R2 n)) (c : Nat) (hc : c < 5) : Ev cx 153 [.agg [.int .i64 n, .int .i64 b], .int .i64 c] [] (.bool (inC n b c)) [] := by
  obtain ⟨h1, h2, h3, h4⟩ := shN hn
  have e0 := ev104 n b 0 (by omega) (by omega)
  have e1 := ev104 n b (R2 n - 1) (by omega) (by omega)
  have s1 := b_sub1 (a := R2 n) (by omega) (by omega)
  rcases (show c = 0 ∨ c = 1 ∨ c = 2 ∨ c = 3 ∨ c = 4 by omega) with rfl | rfl | rfl | rfl | rfl
  · have q0 : ((((0 : Nat) : Int)) == 0) = true := by decide
    have hq := ieq0 (bt b 0)
    refine has153.eev rfl rfl ?_
    unfold m153
    repeat' (first
      | (refine g_op ?_; first
        | refine ep_mov rfl ?_ | refine ep_load1 rfl rfl rfl rfl ?_ | refine ep_fieldAddr rfl ?_ | refine sp_loadN rfl rfl rfl rfl rfl ?_
        | refine ep_call0 rfl (by first | exact e0 | exact ev106 _ _ hn) rfl rfl ?_
        | refine sp_call rfl rfl rfl rfl (by first | exact e0 | exact ev106 _ _ hn) ⟨rfl, rfl, rfl, rfl⟩ rfl rfl rfl ?_
        | refine ep_bin rfl rfl (by first | exact s1 | exact b_add (by omega) (by omega) | exact b_sub (by omega) (by omega) | exact b_and (by omega) (by omega) | exact b_or (by omega) (by omega) | exact b_shr (by omega) | exact b_shl (by omega) (by omega) | exact b_lss | exact b_leq | exact b_gtr | exact b_geq | exact b_eql | exact b_neq) ?_
        | refine ep_pickT rfl rfl ?_ | refine ep_pickF rfl rfl ?_ | refine ep_pickTH rfl (by assumption) rfl ?_ | refine ep_pickFH rfl (by assumption) rfl ?_ | refine sp_box rfl rfl rfl rfl rfl ?_ | refine ep_eqa0 rfl rfl ?_
        | refine ep_eqa1 rfl rfl ?_)
      | (refine g_ops ?_; first | refine eo_none ?_ | refine eo_nil ?_ | refine eo_yes rfl ?_ | refine eo_no rfl ?_ | refine eo_und rfl ?_ | refine eo_yesH rfl (by assumption) ?_ | refine eo_noH rfl (by assumption) ?_)
      | (refine g_dops ?_; first | refine ed_none ?_ | refine ed_nil ?_ | refine ed_yes rfl ?_ | refine ed_no rfl ?_ | refine ed_und rfl ?_ | refine ed_yesH rfl (by assumption) ?_ | refine ed_noH rfl (by assumption) ?_)
      | refine ed_same rfl ?_ | refine ed_one rfl rfl rfl rfl ?_ | refine ed_two rfl rfl rfl rfl rfl rfl rfl ?_ | refine ed_write rfl rfl ?_
      | (refine g_code ?_; first | refine ec_seq ?_ | refine ec_region ?_ | refine ec_draw ?_ | refine ec_block ?_ | refine ec_skip ?_ | refine ec_ret ?_ | refine ec_condT rfl ?_ | refine ec_condF rfl ?_ | refine ec_condTH rfl (by assumption) ?_ | refine ec_condFH rfl (by assumption) ?_)
      | refine ek_seqN ?_ | refine ek_seqX ?_ | refine ek_seqR ?_ | refine ek_blkN ?_ | refine ek_blkR ?_ | refine ek_blkX ?_ | refine ek_blkY rfl ?_)
    refine sfin (.inr rfl) (by rfl) (by rfl) (by exact ⟨rfl, rfl, rfl⟩) (by rfl) (by rfl) (by first | rfl | exact congrArg V.bool hq) (by first | rfl | (simp; done) | (simp [ints, prs]; done))
  · have q0 : ((((1 : Nat) : Int)) == 0) = false := by decide
    have q1 : ((((1 : Nat) : Int)) == 1) = true := by decide
    have hq := ieq1 (bt b (R2 n - 1))
    refine has153.eev rfl rfl ?_
    unfold m153
    repeat' (first
      | (refine g_op ?_; first
        | refine ep_mov rfl ?_ | refine ep_load1 rfl rfl rfl rfl ?_ | refine ep_fieldAddr rfl ?_ | refine sp_loadN rfl rfl rfl rfl rfl ?_
        | refine ep_call0 rfl (by first | exact e1 | exact ev106 _ _ hn) rfl rfl ?_
        | refine sp_call rfl rfl rfl rfl (by first | exact e1 | exact ev106 _ _ hn) ⟨rfl, rfl, rfl, rfl⟩ rfl rfl rfl ?_
        | refine ep_bin rfl rfl (by first | exact s1 | exact b_add (by omega) (by omega) | exact b_sub (by omega) (by omega) | exact b_and (by omega) (by omega) | exact b_or (by omega) (by omega) | exact b_shr (by omega) | exact b_shl (by omega) (by omega) | exact b_lss | exact b_leq | exact b_gtr | exact b_geq | exact b_eql | exact b_neq) ?_
        | refine ep_pickT rfl rfl ?_ | refine ep_pickF rfl rfl ?_ | refine ep_pickTH rfl (by assumption) rfl ?_ | refine ep_pickFH rfl (by assumption) rfl ?_ | refine sp_box rfl rfl rfl rfl rfl ?_ | refine ep_eqa0 rfl rfl ?_
        | refine ep_eqa1 rfl rfl ?_)
      | (refine g_ops ?_; first | refine eo_none ?_ | refine eo_nil ?_ | refine eo_yes rfl ?_ | refine eo_no rfl ?_ | refine eo_und rfl ?_ | refine eo_yesH rfl (by assumption) ?_ | refine eo_noH rfl (by assumption) ?_)
      | (refine g_dops ?_; first | refine ed_none ?_ | refine ed_nil ?_ | refine ed_yes rfl ?_ | refine ed_no rfl ?_ | refine ed_und rfl ?_ | refine ed_yesH rfl (by assumption) ?_ | refine ed_noH rfl (by assumption) ?_)
      | refine ed_same rfl ?_ | refine ed_one rfl rfl rfl rfl ?_ | refine ed_two rfl rfl rfl rfl rfl rfl rfl ?_ | refine ed_write rfl rfl ?_
      | (refine g_code ?_; first | refine ec_seq ?_ | refine ec_region ?_ | refine ec_draw ?_ | refine ec_block ?_ | refine ec_skip ?_ | refine ec_ret ?_ | refine ec_condT rfl ?_ | refine ec_condF rfl ?_ | refine ec_condTH rfl (by assumption) ?_ | refine ec_condFH rfl (by assumption) ?_)
      | refine ek_seqN ?_ | refine ek_seqX ?_ | refine ek_seqR ?_ | refine ek_blkN ?_ | refine ek_blkR ?_ | refine ek_blkX ?_ | refine ek_blkY rfl ?_)
    refine sfin (.inr rfl) (by rfl) (by rfl) (by exact ⟨rfl, rfl, rfl⟩) (by rfl) (by rfl) (by first | rfl | exact congrArg V.bool hq) (by first | rfl | (simp; done) | (simp [ints, prs]; done))
  · have q0 : ((((2 : Nat) : Int)) == 0) = false := by decide
    have q1 : ((((2 : Nat) : Int)) == 1) = false := by decide
    have q2 : ((((2 : Nat) : Int)) == 2) = true := by decide
    rw [show inC n b 2 = dualB n b from rfl]
    have e2 := ev154 n b hn hb
    have hd := dual_eq (n := n) hb2
    cases n with
    | zero =>
      rw [dual_0]
      have g0 : decide (((0 : Nat) : Int) > 0) = false := by decide
      refine has153.eev rfl rfl ?_
      unfold m153
      repeat' (first
        | (refine g_op ?_; first
          | refine ep_mov rfl ?_ | refine ep_load1 rfl rfl rfl rfl ?_ | refine ep_fieldAddr rfl ?_ | refine sp_loadN rfl rfl rfl rfl rfl ?_
          | refine ep_call0 rfl (by first | exact e2 | exact ev106 _ _ hn) rfl rfl ?_
          | refine sp_call rfl rfl rfl rfl (by first | exact e2 | exact ev106 _ _ hn) ⟨rfl, rfl, rfl, rfl⟩ rfl rfl rfl ?_
          | refine ep_bin rfl rfl (by first | exact s1 | exact b_add (by omega) (by omega) | exact b_sub (by omega) (by omega) | exact b_and (by omega) (by omega) | exact b_or (by omega) (by omega) | exact b_shr (by omega) | exact b_shl (by omega) (by omega) | exact b_lss | exact b_leq | exact b_gtr | exact b_geq | exact b_eql | exact b_neq) ?_
          | refine ep_pickT rfl rfl ?_ | refine ep_pickF rfl rfl ?_ | refine ep_pickTH rfl (by assumption) rfl ?_ | refine ep_pickFH rfl (by assumption) rfl ?_ | refine sp_box rfl rfl rfl rfl rfl ?_ | refine ep_eqa0 rfl rfl ?_
          | refine ep_eqa1 rfl rfl ?_)
        | (refine g_ops ?_; first | refine eo_none ?_ | refine eo_nil ?_ | refine eo_yes rfl ?_ | refine eo_no rfl ?_ | refine eo_und rfl ?_ | refine eo_yesH rfl (by assumption) ?_ | refine eo_noH rfl (by assumption) ?_)
        | (refine g_dops ?_; first | refine ed_none ?_ | refine ed_nil ?_ | refine ed_yes rfl ?_ | refine ed_no rfl ?_ | refine ed_und rfl ?_ | refine ed_yesH rfl (by assumption) ?_ | refine ed_noH rfl (by assumption) ?_)
        | refine ed_same rfl ?_ | refine ed_one rfl rfl rfl rfl ?_ | refine ed_two rfl rfl rfl rfl rfl rfl rfl ?_ | refine ed_write rfl rfl ?_
        | (refine g_code ?_; first | refine ec_seq ?_ | refine ec_region ?_ | refine ec_draw ?_ | refine ec_block ?_ | refine ec_skip ?_ | refine ec_ret ?_ | refine ec_condT rfl ?_ | refine ec_condF rfl ?_ | refine ec_condTH rfl (by assumption) ?_ | refine ec_condFH rfl (by assumption) ?_)
        | refine ek_seqN ?_ | refine ek_seqX ?_ | refine ek_seqR ?_ | refine ek_blkN ?_ | refine ek_blkR ?_ | refine ek_blkX ?_ | refine ek_blkY rfl ?_)
      refine sfin (.inr rfl) (by rfl) (by rfl) (by exact ⟨rfl, rfl, rfl⟩) (by rfl) (by rfl) (by rfl) (by first | rfl | (simp; done) | (simp [ints, prs]; done))
    | succ m =>
      have g0 : decide (((m + 1 : Nat) : Int) > 0) = true := decide_eq_true (by omega)
      have g1 : decide (((m + 1 : Nat) : Int) = ((m + 1 : Nat) : Int) ∧ ((b : Nat) : Int) = (pk (dualG (m + 1) b) (R2 (m + 1)) : Nat)) = dualB (m + 1) b := by
        rw [Bool.eq_iff_iff, decide_eq_true_eq, ← hd]; omega
      refine has153.eev rfl rfl ?_
      unfold m153
      repeat' (first
        | (refine g_op ?_; first
          | refine ep_mov rfl ?_ | refine ep_load1 rfl rfl rfl rfl ?_ | refine ep_fieldAddr rfl ?_ | refine sp_loadN rfl rfl rfl rfl rfl ?_
          | refine ep_call0 rfl (by first | exact e2 | exact ev106 _ _ hn) rfl rfl ?_
          | refine sp_call rfl rfl rfl rfl (by first | exact e2 | exact ev106 _ _ hn) ⟨rfl, rfl, rfl, rfl⟩ rfl rfl rfl ?_
          | refine ep_bin rfl rfl (by first | exact s1 | exact b_add (by omega) (by omega) | exact b_sub (by omega) (by omega) | exact b_and (by omega) (by omega) | exact b_or (by omega) (by omega) | exact b_shr (by omega) | exact b_shl (by omega) (by omega) | exact b_lss | exact b_leq | exact b_gtr | exact b_geq | exact b_eql | exact b_neq) ?_
          | refine ep_pickT rfl rfl ?_ | refine ep_pickF rfl rfl ?_ | refine ep_pickTH rfl (by assumption) rfl ?_ | refine ep_pickFH rfl (by assumption) rfl ?_ | refine sp_box rfl rfl rfl rfl rfl ?_ | refine ep_eqa0 rfl rfl ?_
          | refine ep_eqa1 rfl rfl ?_)
        | (refine g_ops ?_; first | refine eo_none ?_ | refine eo_nil ?_ | refine eo_yes rfl ?_ | refine eo_no rfl ?_ | refine eo_und rfl ?_ | refine eo_yesH rfl (by assumption) ?_ | refine eo_noH rfl (by assumption) ?_)
        | (refine g_dops ?_; first | refine ed_none ?_ | refine ed_nil ?_ | refine ed_yes rfl ?_ | refine ed_no rfl ?_ | refine ed_und rfl ?_ | refine ed_yesH rfl (by assumption) ?_ | refine ed_noH rfl (by assumption) ?_)
        | refine ed_same rfl ?_ | refine ed_one rfl rfl rfl rfl ?_ | refine ed_two rfl rfl rfl rfl rfl rfl rfl ?_ | refine ed_write rfl rfl ?_
        | (refine g_code ?_; first | refine ec_seq ?_ | refine ec_region ?_ | refine ec_draw ?_ | refine ec_block ?_ | refine ec_skip ?_ | refine ec_ret ?_ | refine ec_condT rfl ?_ | refine ec_condF rfl ?_ | refine ec_condTH rfl (by assumption) ?_ | refine ec_condFH rfl (by assumption) ?_)
        | refine ek_seqN ?_ | refine ek_seqX ?_ | refine ek_seqR ?_ | refine ek_blkN ?_ | refine ek_blkR ?_ | refine ek_blkX ?_ | refine ek_blkY rfl ?_)
      refine sfin (.inr rfl) (by rfl) (by rfl) (by exact ⟨rfl, rfl, rfl⟩) (by rfl) (by rfl) (by first | rfl | exact congrArg V.bool g1) (by first | rfl | (simp; done) | (simp [ints, prs]; done))
  · have q0 : ((((3 : Nat) : Int)) == 0) = false := by decide
    have q1 : ((((3 : Nat) : Int)) == 1) = false := by decide
    have q2 : ((((3 : Nat) : Int)) == 2) = false := by decide
    have q3 : ((((3 : Nat) : Int)) == 3) = true := by decide
    have e2 := ev63 n b hn hb
    refine has153.eev rfl rfl ?_
    unfold m153
    repeat' (first
      | (refine g_op ?_; first
        | refine ep_mov rfl ?_ | refine ep_load1 rfl rfl rfl rfl ?_ | refine ep_fieldAddr rfl ?_ | refine sp_loadN rfl rfl rfl rfl rfl ?_
        | refine ep_call0 rfl (by first | exact e2 | exact ev106 _ _ hn) rfl rfl ?_
        | refine sp_call rfl rfl rfl rfl (by first | exact e2 | exact ev106 _ _ hn) ⟨rfl, rfl, rfl, rfl⟩ rfl rfl rfl ?_
        | refine ep_bin rfl rfl (by first | exact s1 | exact b_add (by omega) (by omega) | exact b_sub (by omega) (by omega) | exact b_and (by omega) (by omega) | exact b_or (by omega) (by omega) | exact b_shr (by omega) | exact b_shl (by omega) (by omega) | exact b_lss | exact b_leq | exact b_gtr | exact b_geq | exact b_eql | exact b_neq) ?_
        | refine ep_pickT rfl rfl ?_ | refine ep_pickF rfl rfl ?_ | refine ep_pickTH rfl (by assumption) rfl ?_ | refine ep_pickFH rfl (by assumption) rfl ?_ | refine sp_box rfl rfl rfl rfl rfl ?_ | refine ep_eqa0 rfl rfl ?_
        | refine ep_eqa1 rfl rfl ?_)
      | (refine g_ops ?_; first | refine eo_none ?_ | refine eo_nil ?_ | refine eo_yes rfl ?_ | refine eo_no rfl ?_ | refine eo_und rfl ?_ | refine eo_yesH rfl (by assumption) ?_ | refine eo_noH rfl (by assumption) ?_)
      | (refine g_dops ?_; first | refine ed_none ?_ | refine ed_nil ?_ | refine ed_yes rfl ?_ | refine ed_no rfl ?_ | refine ed_und rfl ?_ | refine ed_yesH rfl (by assumption) ?_ | refine ed_noH rfl (by assumption) ?_)
      | refine ed_same rfl ?_ | refine ed_one rfl rfl rfl rfl ?_ | refine ed_two rfl rfl rfl rfl rfl rfl rfl ?_ | refine ed_write rfl rfl ?_
      | (refine g_code ?_; first | refine ec_seq ?_ | refine ec_region ?_ | refine ec_draw ?_ | refine ec_block ?_ | refine ec_skip ?_ | refine ec_ret ?_ | refine ec_condT rfl ?_ | refine ec_condF rfl ?_ | refine ec_condTH rfl (by assumption) ?_ | refine ec_condFH rfl (by assumption) ?_)
      | refine ek_seqN ?_ | refine ek_seqX ?_ | refine ek_seqR ?_ | refine ek_blkN ?_ | refine ek_blkR ?_ | refine ek_blkX ?_ | refine ek_blkY rfl ?_)
    refine sfin (.inr rfl) (by rfl) (by rfl) (by exact ⟨rfl, rfl, rfl⟩) (by rfl) (by rfl) (by rfl) (by first | rfl | (simp; done) | (simp [ints, prs]; done))
  · have q0 : ((((4 : Nat) : Int)) == 0) = false := by decide
    have q1 : ((((4 : Nat) : Int)) == 1) = false := by decide
    have q2 : ((((4 : Nat) : Int)) == 2) = false := by decide
    have q3 : ((((4 : Nat) : Int)) == 3) = false := by decide
    rw [show inC n b 4 = affB n b from rfl, ← aff_eq]
    cases h : affI n b
    · have lp := lp153_0 n b hn hb _ (if_neg (by rw [show allF (fun r => accX b r n == bt b r) 0 (R2 n) = _ from h]; simp))
      refine has153.eev rfl rfl ?_
      unfold m153
      repeat' (first
        | refine sc_loop lp rfl rfl ⟨rfl, rfl, rfl⟩ rfl rfl rfl ?_
        | (refine g_op ?_; first
          | refine ep_mov rfl ?_ | refine ep_load1 rfl rfl rfl rfl ?_ | refine ep_fieldAddr rfl ?_ | refine sp_loadN rfl rfl rfl rfl rfl ?_
          | refine ep_call0 rfl (by first | exact ev106 _ _ hn) rfl rfl ?_
          | refine sp_call rfl rfl rfl rfl (by first | exact ev106 _ _ hn) ⟨rfl, rfl, rfl, rfl⟩ rfl rfl rfl ?_
          | refine ep_bin rfl rfl (by first | exact s1 | exact b_add (by omega) (by omega) | exact b_sub (by omega) (by omega) | exact b_and (by omega) (by omega) | exact b_or (by omega) (by omega) | exact b_shr (by omega) | exact b_shl (by omega) (by omega) | exact b_lss | exact b_leq | exact b_gtr | exact b_geq | exact b_eql | exact b_neq) ?_
          | refine ep_pickT rfl rfl ?_ | refine ep_pickF rfl rfl ?_ | refine ep_pickTH rfl (by assumption) rfl ?_ | refine ep_pickFH rfl (by assumption) rfl ?_ | refine sp_box rfl rfl rfl rfl rfl ?_ | refine ep_eqa0 rfl rfl ?_
          | refine ep_eqa1 rfl rfl ?_)
        | (refine g_ops ?_; first | refine eo_none ?_ | refine eo_nil ?_ | refine eo_yes rfl ?_ | refine eo_no rfl ?_ | refine eo_und rfl ?_ | refine eo_yesH rfl (by assumption) ?_ | refine eo_noH rfl (by assumption) ?_)
        | (refine g_dops ?_; first | refine ed_none ?_ | refine ed_nil ?_ | refine ed_yes rfl ?_ | refine ed_no rfl ?_ | refine ed_und rfl ?_ | refine ed_yesH rfl (by assumption) ?_ | refine ed_noH rfl (by assumption) ?_)
        | refine ed_same rfl ?_ | refine ed_one rfl rfl rfl rfl ?_ | refine ed_two rfl rfl rfl rfl rfl rfl rfl ?_ | refine ed_write rfl rfl ?_
        | (refine g_code ?_; first | refine ec_seq ?_ | refine ec_region ?_ | refine ec_draw ?_ | refine ec_block ?_ | refine ec_skip ?_ | refine ec_ret ?_ | refine ec_condT rfl ?_ | refine ec_condF rfl ?_ | refine ec_condTH rfl (by assumption) ?_ | refine ec_condFH rfl (by assumption) ?_)
        | refine ek_seqN ?_ | refine ek_seqX ?_ | refine ek_seqR ?_ | refine ek_blkN ?_ | refine ek_blkR ?_ | refine ek_blkX ?_ | refine ek_blkY rfl ?_)
      refine sfin (.inr rfl) (by rfl) (by rfl) (by exact ⟨rfl, rfl, rfl⟩) (by rfl) (by rfl) (by rfl) (by first | rfl | (simp; done) | (simp [ints, prs]; done))
    · have lp := lp153_0 n b hn hb _ (if_pos h)
      refine has153.eev rfl rfl ?_
      unfold m153
      repeat' (first
        | refine sc_loop lp rfl rfl ⟨rfl, rfl, rfl⟩ rfl rfl rfl ?_
        | (refine g_op ?_; first
          | refine ep_mov rfl ?_ | refine ep_load1 rfl rfl rfl rfl ?_ | refine ep_fieldAddr rfl ?_ | refine sp_loadN rfl rfl rfl rfl rfl ?_
          | refine ep_call0 rfl (by first | exact ev106 _ _ hn) rfl rfl ?_
          | refine sp_call rfl rfl rfl rfl (by first | exact ev106 _ _ hn) ⟨rfl, rfl, rfl, rfl⟩ rfl rfl rfl ?_
          | refine ep_bin rfl rfl (by first | exact s1 | exact b_add (by omega) (by omega) | exact b_sub (by omega) (by omega) | exact b_and (by omega) (by omega) | exact b_or (by omega) (by omega) | exact b_shr (by omega) | exact b_shl (by omega) (by omega) | exact b_lss | exact b_leq | exact b_gtr | exact b_geq | exact b_eql | exact b_neq) ?_
          | refine ep_pickT rfl rfl ?_ | refine ep_pickF rfl rfl ?_ | refine ep_pickTH rfl (by assumption) rfl ?_ | refine ep_pickFH rfl (by assumption) rfl ?_ | refine sp_box rfl rfl rfl rfl rfl ?_ | refine ep_eqa0 rfl rfl ?_
          | refine ep_eqa1 rfl rfl ?_)
        | (refine g_ops ?_; first | refine eo_none ?_ | refine eo_nil ?_ | refine eo_yes rfl ?_ | refine eo_no rfl ?_ | refine eo_und rfl ?_ | refine eo_yesH rfl (by assumption) ?_ | refine eo_noH rfl (by assumption) ?_)
        | (refine g_dops ?_; first | refine ed_none ?_ | refine ed_nil ?_ | refine ed_yes rfl ?_ | refine ed_no rfl ?_ | refine ed_und rfl ?_ | refine ed_yesH rfl (by assumption) ?_ | refine ed_noH rfl (by assumption) ?_)
        | refine ed_same rfl ?_ | refine ed_one rfl rfl rfl rfl ?_ | refine ed_two rfl rfl rfl rfl rfl rfl rfl ?_ | refine ed_write rfl rfl ?_
        | (refine g_code ?_; first | refine ec_seq ?_ | refine ec_region ?_ | refine ec_draw ?_ | refine ec_block ?_ | refine ec_skip ?_ | refine ec_ret ?_ | refine ec_condT rfl ?_ | refine ec_condF rfl ?_ | refine ec_condTH rfl (by assumption) ?_ | refine ec_condFH rfl (by assumption) ?_)
        | refine ek_seqN ?_ | refine ek_seqX ?_ | refine ek_seqR ?_ | refine ek_blkN ?_ | refine ek_blkR ?_ | refine ek_blkX ?_ | refine ek_blkY rfl ?_)
      refine sfin (.inr rfl) (by rfl) (by rfl) (by exact ⟨rfl, rfl, rfl⟩) (by rfl) (by rfl) (by rfl) (by first | rfl | (simp; done) | (simp [ints, prs]; done))


def inCI (f : Int × Int) (c : Nat) : Bool := inC f.1.toNat f.2.toNat c
def allIC (fs : List (Int × Int)) (c : Nat) : Bool := allF (fun j => inCI (fs.getD j (0, 0)) c) 0 fs.length
def clQ (fs : List (Int × Int)) (m c j : Nat) : Bool := bt m j == 0 || inCI (fs.getD j (0, 0)) c
def clP (fs : List (Int × Int)) (m c : Nat) : Bool := allF (clQ fs m c) 0 fs.length
def clL (fs : List (Int × Int)) : List Nat := selm (allIC fs) idn 5
theorem fget_is {fs : List (Int × Int)} {i : Nat} (h : allFunc fs = true) (hi : i < fs.length) : isFn (fs.getD i (0, 0)).1 (fs.getD i (0, 0)).2 = true := all_get (P := fun j => isFn (fs.getD j (0, 0)).1 (fs.getD j (0, 0)).2) h hi
theorem bt_whole {m j : Nat} (h : j < m) : bt (R2 m - 1) j = 1 := by
  rw [bt_tb]; unfold R2; rw [Nat.testBit_two_pow_sub_one]; simp [h]
theorem clP_whole (fs : List (Int × Int)) (c : Nat) : clP fs (R2 fs.length - 1) c = allIC fs c := by
  unfold clP allIC
  rw [Bool.eq_iff_iff, allF_iff, allF_iff]
  constructor
  · intro h j h1 h2
    have := h j h1 h2
    rw [clQ, bt_whole (by omega)] at this
    simpa using this
  · intro h j h1 h2
    rw [clQ, h j h1 h2]; simp
theorem pk5_lt (P : Nat → Bool) (i : Nat) (h : i ≤ 5) : pk (bn P) i < 32 := by
  have := pk_lt (g := bn P) (n := i) fun r _ => bn_le P r
  have := R2_mono h
  have : R2 5 = 32 := by unfold R2; rfl
  omega
theorem pk_t {P : Nat → Bool} {i : Nat} (h : P i = true) : pk (bn P) (i + 1) = pk (bn P) i ||| R2 i := by
  rw [pk, bn, if_pos h]; unfold R2; rw [Nat.shiftLeft_eq, Nat.one_mul]
theorem pk_f {P : Nat → Bool} {i : Nat} (h : P i = false) : pk (bn P) (i + 1) = pk (bn P) i := by
  rw [pk, bn, if_neg (by rw [h]; simp)]; simp
theorem clL_eq (fs : List (Int × Int)) : selm (fun c => bt (pk (bn (clP fs (R2 fs.length - 1))) 5) c == 1) idn 5 = clL fs := by
  refine selm_congr 5 fun c hc => ⟨?_, fun _ => rfl⟩
  rw [bt_pk (fun r _ => bn_le _ r) hc, ← clP_whole]
  unfold bn; cases clP fs (R2 fs.length - 1) c <;> rfl
-- spec.l02Whole
def m78 : MC := (.seq (.region [⟨(.mov (.k (.int .i64 0))), (some 2), none⟩] false) (.seq (.region [⟨(.mov (.t 0)), (some 3), none⟩, ⟨(.len (.t 3)), (some 4), none⟩, ⟨(.conv .u64 (.t 4)), (some 5), none⟩, ⟨(.bin .shl (.k (.int .i64 1)) (.t 5)), (some 6), none⟩, ⟨(.bin .sub (.t 6) (.k (.int .i64 1))), (some 7), none⟩, ⟨(.mov (.t 7)), (some 2), none⟩] false) .ret))
theorem has78 : Has cx 78 8 m78 [(.tmp 2)] :=
  ⟨⟨Try.f78, Try.f78.body.getD .skip, by kernel_rfl, by kernel_rfl, by kernel_rfl, by kernel_rfl, by kernel_rfl, by kernel_rfl⟩⟩
theorem ev78 (fs : List (Int × Int)) (h8 : fs.length ≤ 8) : Ev cx 78 [.sl 0 0 fs.length] [⟨fns fs, 2, 0, some 0, false⟩] (.int .i64 (R2 fs.length - 1 : Nat)) [⟨fns fs, 2, 0, some 0, false⟩] := by
  have g1 := R2_mono h8
  have g2 : R2 8 = 256 := by unfold R2; rfl
  have g3 := R2_pos fs.length
  refine has78.eev rfl rfl ?_
  unfold m78
  repeat' (first
    | (refine g_op ?_; first
      | refine ep_mov rfl ?_
      | refine ep_bin rfl rfl (by first | exact b_shl1 (by omega) (by omega) | exact b_sub1 (by omega) (by omega) | exact b_add (by omega) (by omega) | exact b_sub (by omega) (by omega) | exact b_and (by omega) (by omega) | exact b_or (by omega) (by omega) | exact b_shr (by omega) | exact b_shl (by omega) (by omega) | exact b_lss | exact b_leq | exact b_gtr | exact b_geq | exact b_eql | exact b_neq) ?_
      | refine ep_conv rfl (by first | exact w_u64 (by omega) (by omega) | exact wrap_id (by omega) (by omega) | rfl) ?_ | refine ep_lenS rfl ?_ | refine ep_lenN rfl ?_ | refine ep_lenE rfl ?_)
    | (refine g_ops ?_; first | refine eo_none ?_ | refine eo_nil ?_)
    | (refine g_code ?_; first | refine ec_seq ?_ | refine ec_region ?_ | refine ec_ret ?_)
    | refine ek_seqN ?_ | refine ek_seqR ?_)
  refine sfin (.inr rfl) (by rfl) (by rfl) (by exact ⟨rfl, rfl, rfl⟩) (by rfl) (by rfl) (by rfl) (by first | rfl | (simp; done) | (simp [ints, prs]; done))
-- spec.l02Classes
def m120_1 : MC := (.seq (.seq (.region [⟨(.mov (.t 8)), (some 13), none⟩, ⟨(.mov (.t 0)), (some 14), none⟩, ⟨(.len (.t 14)), (some 15), none⟩, ⟨(.bin .lss (.t 13) (.t 15)), (some 16), none⟩] false) (.cond (.t 16) .skip (.exit 2))) (.seq (.block 3 (.region [⟨(.mov (.t 7)), (some 19), none⟩, ⟨(.mov (.t 19)), (some 20), none⟩, ⟨(.mov (.t 1)), (some 21), (some (20, true))⟩, ⟨(.mov (.t 8)), (some 22), (some (20, true))⟩, ⟨(.conv .u64 (.t 22)), (some 23), (some (20, true))⟩, ⟨(.bin .shr (.t 21) (.t 23)), (some 24), (some (20, true))⟩, ⟨(.bin .and (.t 24) (.k (.int .i64 1))), (some 25), (some (20, true))⟩, ⟨(.bin .eql (.t 25) (.k (.int .i64 0))), (some 26), (some (20, true))⟩, ⟨(.mov (.t 26)), (some 27), (some (20, true))⟩, ⟨(.mov (.t 0)), (some 28), (some (27, false))⟩, ⟨(.mov (.t 8)), (some 29), (some (27, false))⟩, ⟨(.indexAddr 2 (.t 28) (.t 29)), (some 30), (some (27, false))⟩, ⟨(.load (some 2) (.t 30)), (some 31), (some (27, false))⟩, ⟨(.mov (.t 6)), (some 32), (some (27, false))⟩, ⟨(.call 142 [(.t 31), (.t 32)]), (some 33), (some (27, false))⟩, ⟨(.pick (.t 27) (.k (.bool true)) (.t 33)), (some 34), (some (20, true))⟩, ⟨(.pick (.t 20) (.t 34) (.k (.bool false))), (some 35), none⟩, ⟨(.mov (.t 35)), (some 7), none⟩] false)) (.region [⟨(.mov (.t 8)), (some 17), none⟩, ⟨(.bin .add (.t 17) (.k (.int .i64 1))), (some 18), none⟩, ⟨(.mov (.t 18)), (some 8), none⟩] false)))
def m120_0 : MC := (.seq (.seq (.region [⟨(.mov (.t 6)), (some 9), none⟩, ⟨(.bin .lss (.t 9) (.k (.int .i64 5))), (some 10), none⟩] false) (.cond (.t 10) .skip (.exit 0))) (.seq (.block 1 (.seq (.region [⟨(.mov (.k (.bool true))), (some 7), none⟩] false) (.seq (.seq (.region [⟨(.mov (.k (.int .i64 0))), (some 8), none⟩] false) (.block 2 (.loop m120_1))) (.seq (.region [⟨(.mov (.t 7)), (some 36), none⟩] false) (.cond (.t 36) (.region [⟨(.mov (.t 5)), (some 37), none⟩, ⟨(.mov (.t 6)), (some 38), none⟩, ⟨(.conv .u64 (.t 38)), (some 39), none⟩, ⟨(.bin .shl (.k (.int .i64 1)) (.t 39)), (some 40), none⟩, ⟨(.bin .or (.t 37) (.t 40)), (some 41), none⟩, ⟨(.mov (.t 41)), (some 5), none⟩] false) .skip))))) (.region [⟨(.mov (.t 6)), (some 11), none⟩, ⟨(.bin .add (.t 11) (.k (.int .i64 1))), (some 12), none⟩, ⟨(.mov (.t 12)), (some 6), none⟩] false)))
def m120 : MC := (.seq (.region [⟨(.mov (.k (.int .i64 0))), (some 4), none⟩] false) (.seq (.region [⟨(.mov (.k (.int .i64 0))), (some 5), none⟩] false) (.seq (.seq (.region [⟨(.mov (.k (.int .i64 0))), (some 6), none⟩] false) (.block 0 (.loop m120_0))) (.seq (.region [⟨(.mov (.t 5)), (some 42), none⟩, ⟨(.mov (.t 42)), (some 4), none⟩] false) .ret))))
theorem has120 : Has cx 120 43 m120 [(.tmp 4)] :=
  ⟨⟨Try.f120, Try.f120.body.getD .skip, by kernel_rfl, by kernel_rfl, by kernel_rfl, by kernel_rfl, by kernel_rfl, by kernel_rfl⟩⟩
theorem evl02In (a b : Int) (c : Nat) (h : isFn a b = true) (hc : c < 5) : Ev cx 142 [.agg [.int .i64 a, .int .i64 b], .int .i64 c] [] (.bool (inCI (a, b) c)) [] := by
  obtain ⟨n, b, rfl, rfl, a1, a2, a3⟩ := isFn_nat h
  exact ev142 n b a1 a3 a2 c hc
theorem lp120_1 (fs : List (Int × Int)) (hln : fs.length ≤ 1048576) (hall : allFunc fs = true) (m : Nat) (hm : m < 65536) (h8 : fs.length ≤ 8) (c p : Nat) (hc : c < 5) :
    LpS cx 43 1 m120_1 [(0, .sl 0 0 fs.length), (1, .int .i64 (m : Nat)), (5, .int .i64 (p : Nat)), (6, .int .i64 (c : Nat)), (7, .bool (allF (clQ fs m c) 0 (0))), (8, .int .i64 (0 : Nat))] [⟨fns fs, 2, 0, some 0, false⟩] (⟨.exit 2, [(0, .sl 0 0 fs.length), (1, .int .i64 (m : Nat)), (5, .int .i64 (p : Nat)), (6, .int .i64 (c : Nat)), (7, .bool (allF (clQ fs m c) 0 (fs.length)))], [⟨fns fs, 2, 0, some 0, false⟩]⟩ : Out).x (⟨.exit 2, [(0, .sl 0 0 fs.length), (1, .int .i64 (m : Nat)), (5, .int .i64 (p : Nat)), (6, .int .i64 (c : Nat)), (7, .bool (allF (clQ fs m c) 0 (fs.length)))], [⟨fns fs, 2, 0, some 0, false⟩]⟩ : Out).e (⟨.exit 2, [(0, .sl 0 0 fs.length), (1, .int .i64 (m : Nat)), (5, .int .i64 (p : Nat)), (6, .int .i64 (c : Nat)), (7, .bool (allF (clQ fs m c) 0 (fs.length)))], [⟨fns fs, 2, 0, some 0, false⟩]⟩ : Out).h := by
  refine lp_st (fs.length) (fun _ => ()) (fun i _ => [(0, .sl 0 0 fs.length), (1, .int .i64 (m : Nat)), (5, .int .i64 (p : Nat)), (6, .int .i64 (c : Nat)), (7, .bool (allF (clQ fs m c) 0 (i))), (8, .int .i64 (i : Nat))]) (fun i _ => [⟨fns fs, 2, 0, some 0, false⟩]) (fun _ => (⟨.exit 2, [(0, .sl 0 0 fs.length), (1, .int .i64 (m : Nat)), (5, .int .i64 (p : Nat)), (6, .int .i64 (c : Nat)), (7, .bool (allF (clQ fs m c) 0 (fs.length)))], [⟨fns fs, 2, 0, some 0, false⟩]⟩ : Out)) ?_ ?_ (fs.length) 0 (by omega)
  · intro i u_ hi hu_
    refine ⟨(), rfl, ?_⟩
    have hlt : decide ((i : Int) < (fs.length : Nat)) = true := decide_eq_true (by omega)
    have hz := allF_s (clQ fs m c) i
    have hg := fns_get (l := fs) (j := i) hi
    have hb := bt_le m i
    have b1 : binV .and (.int .i64 (m >>> i : Nat)) (.int .i64 1) = some (.int .i64 (bt m i : Nat)) := b_bt (by omega)
    have b0 := b_shr (k' := .u64) (x := m) (y := i) (by omega)
    cases hA : allF (clQ fs m c) 0 i
    · have hz2 : allF (clQ fs m c) 0 (i + 1) = false := by rw [hz, hA]; rfl
      rw [hz2]
      unfold m120_1
      repeat' (first
        | (refine g_op ?_; first
          | refine ep_mov rfl ?_ | refine sp_loadN rfl rfl rfl rfl rfl ?_
          | refine ep_bin rfl rfl (by first | exact b_add (by omega) (by omega) | exact b_sub (by omega) (by omega) | exact b_and (by omega) (by omega) | exact b_or (by omega) (by omega) | exact b_shr (by omega) | exact b_shl (by omega) (by omega) | exact b_lss | exact b_leq | exact b_gtr | exact b_geq | exact b_eql | exact b_neq) ?_
          | refine ep_pickT rfl rfl ?_ | refine ep_pickF rfl rfl ?_ | refine ep_pickTH rfl (by assumption) rfl ?_ | refine ep_pickFH rfl (by assumption) rfl ?_ | refine ep_conv rfl (by first | exact w_u64 (by omega) (by omega) | exact wrap_id (by omega) (by omega) | rfl) ?_
          | refine ep_lenS rfl ?_ | refine ep_lenN rfl ?_ | refine ep_lenE rfl ?_ | refine sp_idx rfl rfl rfl (by omega) rfl ?_ | refine ep_loadSN rfl rfl rfl (by first | exact prs_get (by omega) | exact fns_get (by omega)) ?_)
        | (refine g_ops ?_; first | refine eo_none ?_ | refine eo_nil ?_ | refine eo_yes rfl ?_ | refine eo_no rfl ?_ | refine eo_und rfl ?_ | refine eo_yesH rfl (by assumption) ?_ | refine eo_noH rfl (by assumption) ?_)
        | (refine g_code ?_; first | refine ec_seq ?_ | refine ec_region ?_ | refine ec_block ?_ | refine ec_skip ?_ | refine ec_exit ?_ | refine ec_condT rfl ?_ | refine ec_condF rfl ?_ | refine ec_condTH rfl (by assumption) ?_ | refine ec_condFH rfl (by assumption) ?_)
        | refine ek_seqN ?_ | refine ek_seqX ?_ | refine ek_blkN ?_ | refine ek_blkR ?_ | refine ek_blkX ?_ | refine ek_blkY rfl ?_)
      exact rnd_on (by rfl) (scmp2 (by rfl) (by rfl) (by exact ⟨rfl, rfl, rfl⟩) (by rfl) (by first | rfl | (simp; done) | (simp [ints, prs]; done)) (by rfl) (by first | rfl | (simp; done) | (simp [ints, prs]; done)))
    by_cases hk : bt m i = 0
    · have hq : (((bt m i : Nat) : Int) == 0) = true := by simp [hk]
      have hz2 : allF (clQ fs m c) 0 (i + 1) = true := by rw [hz, hA, clQ, hk]; rfl
      rw [hz2]
      unfold m120_1
      repeat' (first
        | (refine g_op ?_; first
          | refine ep_mov rfl ?_ | refine sp_loadN rfl rfl rfl rfl rfl ?_
          | refine ep_bin rfl rfl (by first | exact b0 | exact b1 | exact b_add (by omega) (by omega) | exact b_sub (by omega) (by omega) | exact b_and (by omega) (by omega) | exact b_or (by omega) (by omega) | exact b_shr (by omega) | exact b_shl (by omega) (by omega) | exact b_lss | exact b_leq | exact b_gtr | exact b_geq | exact b_eql | exact b_neq) ?_
          | refine ep_pickT rfl rfl ?_ | refine ep_pickF rfl rfl ?_ | refine ep_pickTH rfl (by assumption) rfl ?_ | refine ep_pickFH rfl (by assumption) rfl ?_ | refine ep_conv rfl (by first | exact w_u64 (by omega) (by omega) | exact wrap_id (by omega) (by omega) | rfl) ?_
          | refine ep_lenS rfl ?_ | refine ep_lenN rfl ?_ | refine ep_lenE rfl ?_ | refine sp_idx rfl rfl rfl (by omega) rfl ?_ | refine ep_loadSN rfl rfl rfl (by first | exact prs_get (by omega) | exact fns_get (by omega)) ?_)
        | (refine g_ops ?_; first | refine eo_none ?_ | refine eo_nil ?_ | refine eo_yes rfl ?_ | refine eo_no rfl ?_ | refine eo_und rfl ?_ | refine eo_yesH rfl (by assumption) ?_ | refine eo_noH rfl (by assumption) ?_)
        | (refine g_code ?_; first | refine ec_seq ?_ | refine ec_region ?_ | refine ec_block ?_ | refine ec_skip ?_ | refine ec_exit ?_ | refine ec_condT rfl ?_ | refine ec_condF rfl ?_ | refine ec_condTH rfl (by assumption) ?_ | refine ec_condFH rfl (by assumption) ?_)
        | refine ek_seqN ?_ | refine ek_seqX ?_ | refine ek_blkN ?_ | refine ek_blkR ?_ | refine ek_blkX ?_ | refine ek_blkY rfl ?_)
      exact rnd_on (by rfl) (scmp2 (by rfl) (by rfl) (by exact ⟨rfl, rfl, rfl⟩) (by rfl) (by first | rfl | (simp; done) | (simp [ints, prs]; done)) (by rfl) (by first | rfl | (simp; done) | (simp [ints, prs]; done)))
    have hq : (((bt m i : Nat) : Int) == 0) = false := by simpa using hk
    have hi0 := fget_is hall hi
    have e1 := evl02In _ _ c hi0 hc
    have hz2 : allF (clQ fs m c) 0 (i + 1) = inCI (fs.getD i (0, 0)) c := by rw [hz, hA, clQ, show (bt m i == 0) = false by simpa using hk]; rfl
    rw [hz2]
    unfold m120_1
    repeat' (first
      | refine ep_loadSN rfl rfl rfl hg ?_
      | (refine g_op ?_; first
        | refine ep_mov rfl ?_ | refine sp_loadN rfl rfl rfl rfl rfl ?_
        | refine ep_call0 rfl (by first | exact e1) rfl rfl ?_
        | refine sp_call rfl rfl rfl rfl (by first | exact e1) ⟨rfl, rfl, rfl, rfl⟩ rfl rfl rfl ?_
        | refine ep_bin rfl rfl (by first | exact b0 | exact b1 | exact b_add (by omega) (by omega) | exact b_sub (by omega) (by omega) | exact b_and (by omega) (by omega) | exact b_or (by omega) (by omega) | exact b_shr (by omega) | exact b_shl (by omega) (by omega) | exact b_lss | exact b_leq | exact b_gtr | exact b_geq | exact b_eql | exact b_neq) ?_
        | refine ep_pickT rfl rfl ?_ | refine ep_pickF rfl rfl ?_ | refine ep_pickTH rfl (by assumption) rfl ?_ | refine ep_pickFH rfl (by assumption) rfl ?_ | refine ep_conv rfl (by first | exact w_u64 (by omega) (by omega) | exact wrap_id (by omega) (by omega) | rfl) ?_
        | refine ep_lenS rfl ?_ | refine ep_lenN rfl ?_ | refine ep_lenE rfl ?_ | refine sp_idx rfl rfl rfl (by omega) rfl ?_ | refine ep_loadSN rfl rfl rfl (by first | exact prs_get (by omega) | exact fns_get (by omega)) ?_)
      | (refine g_ops ?_; first | refine eo_none ?_ | refine eo_nil ?_ | refine eo_yes rfl ?_ | refine eo_no rfl ?_ | refine eo_und rfl ?_ | refine eo_yesH rfl (by assumption) ?_ | refine eo_noH rfl (by assumption) ?_)
      | (refine g_code ?_; first | refine ec_seq ?_ | refine ec_region ?_ | refine ec_block ?_ | refine ec_skip ?_ | refine ec_exit ?_ | refine ec_condT rfl ?_ | refine ec_condF rfl ?_ | refine ec_condTH rfl (by assumption) ?_ | refine ec_condFH rfl (by assumption) ?_)
      | refine ek_seqN ?_ | refine ek_seqX ?_ | refine ek_blkN ?_ | refine ek_blkR ?_ | refine ek_blkX ?_ | refine ek_blkY rfl ?_)
    exact rnd_on (by rfl) (scmp2 (by rfl) (by rfl) (by exact ⟨rfl, rfl, rfl⟩) (by rfl) (by first | rfl | (simp; done) | (simp [ints, prs]; done)) (by rfl) (by first | rfl | (simp; done) | (simp [ints, prs]; done)))
  · intro u_ hu_
    have hlt : decide (((fs.length : Nat) : Int) < (fs.length : Nat)) = false := decide_eq_false (by omega)
    unfold m120_1
    repeat' (first
      | (refine g_op ?_; first
        | refine ep_mov rfl ?_ | refine sp_loadN rfl rfl rfl rfl rfl ?_
        | refine ep_bin rfl rfl (by first | exact b_add (by omega) (by omega) | exact b_sub (by omega) (by omega) | exact b_and (by omega) (by omega) | exact b_or (by omega) (by omega) | exact b_shr (by omega) | exact b_shl (by omega) (by omega) | exact b_lss | exact b_leq | exact b_gtr | exact b_geq | exact b_eql | exact b_neq) ?_
        | refine ep_pickT rfl rfl ?_ | refine ep_pickF rfl rfl ?_ | refine ep_pickTH rfl (by assumption) rfl ?_ | refine ep_pickFH rfl (by assumption) rfl ?_ | refine ep_conv rfl (by first | exact w_u64 (by omega) (by omega) | exact wrap_id (by omega) (by omega) | rfl) ?_
        | refine ep_lenS rfl ?_ | refine ep_lenN rfl ?_ | refine ep_lenE rfl ?_ | refine sp_idx rfl rfl rfl (by omega) rfl ?_ | refine ep_loadSN rfl rfl rfl (by first | exact prs_get (by omega) | exact fns_get (by omega)) ?_)
      | (refine g_ops ?_; first | refine eo_none ?_ | refine eo_nil ?_ | refine eo_yes rfl ?_ | refine eo_no rfl ?_ | refine eo_und rfl ?_ | refine eo_yesH rfl (by assumption) ?_ | refine eo_noH rfl (by assumption) ?_)
      | (refine g_code ?_; first | refine ec_seq ?_ | refine ec_region ?_ | refine ec_block ?_ | refine ec_skip ?_ | refine ec_exit ?_ | refine ec_condT rfl ?_ | refine ec_condF rfl ?_ | refine ec_condTH rfl (by assumption) ?_ | refine ec_condFH rfl (by assumption) ?_)
      | refine ek_seqN ?_ | refine ek_seqX ?_ | refine ek_blkN ?_ | refine ek_blkR ?_ | refine ek_blkX ?_ | refine ek_blkY rfl ?_)
    exact rnd_out (by rfl) (by simp) (scmp2 (by rfl) (by rfl) (by exact ⟨rfl, rfl, rfl⟩) (by rfl) (by first | rfl | (simp; done) | (simp [ints, prs]; done)) (by rfl) (by first | rfl | (simp; done) | (simp [ints, prs]; done)))

theorem lp120_0 (fs : List (Int × Int)) (hln : fs.length ≤ 1048576) (hall : allFunc fs = true) (m : Nat) (hm : m < 65536) (h8 : fs.length ≤ 8) :
    LpS cx 43 1 m120_0 [(0, .sl 0 0 fs.length), (1, .int .i64 (m : Nat)), (5, .int .i64 (pk (bn (clP fs m)) (0) : Nat)), (6, .int .i64 (0 : Nat))] [⟨fns fs, 2, 0, some 0, false⟩] (⟨.exit 0, [(5, .int .i64 (pk (bn (clP fs m)) (5) : Nat))], [⟨fns fs, 2, 0, some 0, false⟩]⟩ : Out).x (⟨.exit 0, [(5, .int .i64 (pk (bn (clP fs m)) (5) : Nat))], [⟨fns fs, 2, 0, some 0, false⟩]⟩ : Out).e (⟨.exit 0, [(5, .int .i64 (pk (bn (clP fs m)) (5) : Nat))], [⟨fns fs, 2, 0, some 0, false⟩]⟩ : Out).h := by
  refine lp_st (5) (fun _ => ()) (fun i _ => [(0, .sl 0 0 fs.length), (1, .int .i64 (m : Nat)), (5, .int .i64 (pk (bn (clP fs m)) (i) : Nat)), (6, .int .i64 (i : Nat))]) (fun i _ => [⟨fns fs, 2, 0, some 0, false⟩]) (fun _ => (⟨.exit 0, [(5, .int .i64 (pk (bn (clP fs m)) (5) : Nat))], [⟨fns fs, 2, 0, some 0, false⟩]⟩ : Out)) ?_ ?_ (5) 0 (by omega)
  · intro i u_ hi hu_
    refine ⟨(), rfl, ?_⟩
    have hlt : decide ((i : Int) < (5 : Nat)) = true := decide_eq_true (by omega)
    have hlt5 : decide ((i : Int) < 5) = true := decide_eq_true (by omega)
    have hp5 := pk5_lt (clP fs m) i (by omega)
    have lp := lp120_1 fs hln hall m hm h8 i (pk (bn (clP fs m)) i) hi
    rw [allF_z, show allF (clQ fs m i) 0 fs.length = clP fs m i from rfl] at lp
    have g1 := R2_mono (i := i) (n := 4) (by omega)
    have g2 : R2 4 = 16 := by unfold R2; rfl
    cases hP : clP fs m i
    · rw [hP] at lp
      rw [pk_f hP]
      unfold m120_0
      repeat' (first
        | refine sc_loop lp rfl rfl ⟨rfl, rfl, rfl⟩ rfl rfl rfl ?_
        | (refine g_op ?_; first
          | refine ep_mov rfl ?_
          | refine ep_bin rfl rfl (by first | exact b_add (by omega) (by omega) | exact b_sub (by omega) (by omega) | exact b_and (by omega) (by omega) | exact b_or (by omega) (by omega) | exact b_shr (by omega) | exact b_shl (by omega) (by omega) | exact b_lss | exact b_leq | exact b_gtr | exact b_geq | exact b_eql | exact b_neq) ?_
          | refine ep_conv rfl (by first | exact w_u64 (by omega) (by omega) | exact wrap_id (by omega) (by omega) | rfl) ?_)
        | (refine g_ops ?_; first | refine eo_none ?_ | refine eo_nil ?_)
        | (refine g_code ?_; first | refine ec_seq ?_ | refine ec_region ?_ | refine ec_block ?_ | refine ec_skip ?_ | refine ec_exit ?_ | refine ec_condT rfl ?_ | refine ec_condF rfl ?_ | refine ec_condTH rfl (by assumption) ?_ | refine ec_condFH rfl (by assumption) ?_)
        | refine ek_seqN ?_ | refine ek_seqX ?_ | refine ek_seqR ?_ | refine ek_blkN ?_ | refine ek_blkR ?_ | refine ek_blkX ?_ | refine ek_blkY rfl ?_)
      exact rnd_on (by rfl) (scmp2 (by rfl) (by rfl) (by exact ⟨rfl, rfl, rfl⟩) (by rfl) (by first | rfl | (simp; done) | (simp [ints, prs]; done)) (by rfl) (by first | rfl | (simp; done) | (simp [ints, prs]; done)))
    rw [hP] at lp
    rw [pk_t hP]
    unfold m120_0
    repeat' (first
      | refine sc_loop lp rfl rfl ⟨rfl, rfl, rfl⟩ rfl rfl rfl ?_
      | (refine g_op ?_; first
        | refine ep_mov rfl ?_
        | refine ep_bin rfl rfl (by first | exact b_shl1 (by omega) (by omega) | exact b_or (x := pk (bn (clP fs m)) i) (by omega) (by omega) | exact b_add (by omega) (by omega) | exact b_sub (by omega) (by omega) | exact b_and (by omega) (by omega) | exact b_or (by omega) (by omega) | exact b_shr (by omega) | exact b_shl (by omega) (by omega) | exact b_lss | exact b_leq | exact b_gtr | exact b_geq | exact b_eql | exact b_neq) ?_
        | refine ep_conv rfl (by first | exact w_u64 (by omega) (by omega) | exact wrap_id (by omega) (by omega) | rfl) ?_)
      | (refine g_ops ?_; first | refine eo_none ?_ | refine eo_nil ?_)
      | (refine g_code ?_; first | refine ec_seq ?_ | refine ec_region ?_ | refine ec_block ?_ | refine ec_skip ?_ | refine ec_exit ?_ | refine ec_condT rfl ?_ | refine ec_condF rfl ?_ | refine ec_condTH rfl (by assumption) ?_ | refine ec_condFH rfl (by assumption) ?_)
      | refine ek_seqN ?_ | refine ek_seqX ?_ | refine ek_seqR ?_ | refine ek_blkN ?_ | refine ek_blkR ?_ | refine ek_blkX ?_ | refine ek_blkY rfl ?_)
    exact rnd_on (by rfl) (scmp2 (by rfl) (by rfl) (by exact ⟨rfl, rfl, rfl⟩) (by rfl) (by first | rfl | (simp; done) | (simp [ints, prs]; done)) (by rfl) (by first | rfl | (simp; done) | (simp [ints, prs]; done)))
  · intro u_ hu_
    have hlt : decide (((5 : Nat) : Int) < (5 : Nat)) = false := decide_eq_false (by omega)
    have hlt5 : decide (((5 : Nat) : Int) < 5) = false := by decide
    unfold m120_0
    repeat' (first
      | (refine g_op ?_; first
        | refine ep_mov rfl ?_
        | refine ep_bin rfl rfl (by first | exact b_add (by omega) (by omega) | exact b_sub (by omega) (by omega) | exact b_and (by omega) (by omega) | exact b_or (by omega) (by omega) | exact b_shr (by omega) | exact b_shl (by omega) (by omega) | exact b_lss | exact b_leq | exact b_gtr | exact b_geq | exact b_eql | exact b_neq) ?_
        | refine ep_conv rfl (by first | exact w_u64 (by omega) (by omega) | exact wrap_id (by omega) (by omega) | rfl) ?_)
      | (refine g_ops ?_; first | refine eo_none ?_ | refine eo_nil ?_)
      | (refine g_code ?_; first | refine ec_seq ?_ | refine ec_region ?_ | refine ec_block ?_ | refine ec_skip ?_ | refine ec_exit ?_ | refine ec_condT rfl ?_ | refine ec_condF rfl ?_ | refine ec_condTH rfl (by assumption) ?_ | refine ec_condFH rfl (by assumption) ?_)
      | refine ek_seqN ?_ | refine ek_seqX ?_ | refine ek_seqR ?_ | refine ek_blkN ?_ | refine ek_blkR ?_ | refine ek_blkX ?_ | refine ek_blkY rfl ?_)
    exact rnd_out (by rfl) (by simp) (scmp2 (by rfl) (by rfl) (by exact ⟨rfl, rfl, rfl⟩) (by rfl) (by first | rfl | (simp; done) | (simp [ints, prs]; done)) (by rfl) (by first | rfl | (simp; done) | (simp [ints, prs]; done)))

theorem ev120 (fs : List (Int × Int)) (hln : fs.length ≤ 1048576) (hall : allFunc fs = true) (m : Nat) (hm : m < 65536) (h8 : fs.length ≤ 8) : Ev cx 120 [.sl 0 0 fs.length, .int .i64 m] [⟨fns fs, 2, 0, some 0, false⟩] (.int .i64 (pk (bn (clP fs m)) 5 : Nat)) [⟨fns fs, 2, 0, some 0, false⟩] := by
  have lp := lp120_0 fs hln hall m hm h8
  rw [show pk (bn (clP fs m)) 0 = 0 from rfl] at lp
  refine has120.eev rfl rfl ?_
  unfold m120
  repeat' (first
    | refine sc_loop lp rfl rfl ⟨rfl, rfl, rfl⟩ rfl rfl rfl ?_
    | (refine g_op ?_; first
      | refine ep_mov rfl ?_)
    | (refine g_ops ?_; first | refine eo_none ?_ | refine eo_nil ?_)
    | (refine g_code ?_; first | refine ec_seq ?_ | refine ec_region ?_ | refine ec_block ?_ | refine ec_ret ?_)
    | refine ek_seqN ?_ | refine ek_seqX ?_ | refine ek_seqR ?_ | refine ek_blkN ?_ | refine ek_blkR ?_ | refine ek_blkX ?_ | refine ek_blkY rfl ?_)
  refine sfin (.inr rfl) (by rfl) (by rfl) (by exact ⟨rfl, rfl, rfl⟩) (by rfl) (by rfl) (by rfl) (by first | rfl | (simp; done) | (simp [ints, prs]; done))
-- impl.allIn$1
def m152 : MC := (.seq (.region [⟨(.box (.t 0)), (some 2), none⟩, ⟨(.mov (.k (.bool false))), (some 3), none⟩] false) (.seq (.region [⟨(.load (some 2) (.t 2)), (some 4), none⟩, ⟨(.load none (.t 1)), (some 5), none⟩, ⟨(.call 153 [(.t 4), (.t 5)]), (some 6), none⟩, ⟨(.un .not (.t 6)), (some 7), none⟩, ⟨(.mov (.t 7)), (some 3), none⟩] false) .ret))
theorem has152 : Has cx 152 8 m152 [(.tmp 3)] :=
  ⟨⟨Try.f152, Try.f152.body.getD .skip, by kernel_rfl, by kernel_rfl, by kernel_rfl, by kernel_rfl, by kernel_rfl, by kernel_rfl⟩⟩
theorem ev152 (a b : Int) (c : Nat) (h : isFn a b = true) (hc : c < 5) : Ev cx 152 [.agg [.int .i64 a, .int .i64 b], .ptr 0 0] [⟨[.int .i64 c], 1, 0, some 0, true⟩] (.bool (!inCI (a, b) c)) [⟨[.int .i64 c], 1, 0, some 0, true⟩] := by
  obtain ⟨n, b, rfl, rfl, a1, a2, a3⟩ := isFn_nat h
  have e1 := ev153 n b a1 a3 a2 c hc
  refine has152.eev rfl rfl ?_
  unfold m152
  repeat' (first
    | (refine g_op ?_; first
      | refine ep_mov rfl ?_ | refine ep_load1 rfl rfl rfl rfl ?_ | refine sp_loadN rfl rfl rfl rfl rfl ?_
      | refine ep_call0 rfl (by first | exact e1) rfl rfl ?_
      | refine sp_call rfl rfl rfl rfl (by first | exact e1) ⟨rfl, rfl, rfl, rfl⟩ rfl rfl rfl ?_
      | refine ep_not rfl ?_ | refine sp_box rfl rfl rfl rfl rfl ?_)
    | (refine g_ops ?_; first | refine eo_none ?_ | refine eo_nil ?_)
    | (refine g_code ?_; first | refine ec_seq ?_ | refine ec_region ?_ | refine ec_ret ?_)
    | refine ek_seqN ?_ | refine ek_seqR ?_)
  refine sfin (.inr rfl) (by rfl) (by rfl) (by exact ⟨rfl, rfl, rfl⟩) (by rfl) (by rfl) (by rfl) (by first | rfl | (simp; done) | (simp [ints, prs]; done))
-- impl.allIn
def m151 : MC := (.seq (.region [⟨(.box (.t 1)), (some 3), none⟩, ⟨(.mov (.k (.bool false))), (some 4), none⟩] false) (.seq (.region [⟨(.mov (.t 0)), (some 5), none⟩, ⟨(.mkfn 152 [(.t 3)]), (some 6), none⟩, ⟨(.call 115 [(.t 5), (.t 6)]), (some 7), none⟩, ⟨(.un .not (.t 7)), (some 8), none⟩, ⟨(.mov (.t 8)), (some 4), none⟩] false) .ret))
theorem has151 : Has cx 151 9 m151 [(.tmp 4)] :=
  ⟨⟨Try.f151, Try.f151.body.getD .skip, by kernel_rfl, by kernel_rfl, by kernel_rfl, by kernel_rfl, by kernel_rfl, by kernel_rfl⟩⟩
theorem lpix_allIn (fs : List (Int × Int)) (hln : fs.length ≤ 1048576) (hall : allFunc fs = true) (c : Nat) (hc : c < 5) (o : Out) (ho : (match firstF (fun i => !(fun j => !inCI (fs.getD j (0, 0)) c) i) 0 (fs.length) with | none => (⟨.exit 0, [], [⟨fns fs, 2, 0, some 0, false⟩, ⟨[.int .i64 c], 1, 1, some 0, true⟩]⟩ : Out) | some x => ⟨.ret, [(4, .int .i64 (x : Nat))], [⟨fns fs, 2, 0, some 0, false⟩, ⟨[.int .i64 c], 1, 1, some 0, true⟩]⟩) = o) :
    LpS cx 19 2 m140_0 [(0, .sl 0 0 fs.length), (1, .fn 152 [.ptr 1 0]), (7, .int .i64 (fs.length : Nat)), (8, .int .i64 (0 : Nat))] [⟨fns fs, 2, 0, some 0, false⟩, ⟨[.int .i64 c], 1, 1, some 0, true⟩] o.x o.e o.h := by
  refine lp_brk (fs.length) (fun i => !(fun j => !inCI (fs.getD j (0, 0)) c) i) (fun _ => ()) (fun i _ => [(0, .sl 0 0 fs.length), (1, .fn 152 [.ptr 1 0]), (7, .int .i64 (fs.length : Nat)), (8, .int .i64 (i : Nat))]) (fun i _ => [⟨fns fs, 2, 0, some 0, false⟩, ⟨[.int .i64 c], 1, 1, some 0, true⟩]) (fun _ => ⟨.exit 0, [], [⟨fns fs, 2, 0, some 0, false⟩, ⟨[.int .i64 c], 1, 1, some 0, true⟩]⟩) (fun i _ => ⟨.ret, [(4, .int .i64 (i : Nat))], [⟨fns fs, 2, 0, some 0, false⟩, ⟨[.int .i64 c], 1, 1, some 0, true⟩]⟩) ?_ ?_ ?_ (fs.length) 0 o (by omega) (fun h => by rw [← ho, firstF_none fun x h1 h2 => h x h1 (by omega)]) (fun x h1 h2 h3 h4 => by rw [← ho, firstF_some h1 (by omega) h3 h4])
  · intro i s hi hs hp
    have hlt : decide ((i : Int) < (fs.length : Nat)) = true := decide_eq_true (by omega)
    have hp' : (!(fun j => !inCI (fs.getD j (0, 0)) c) i) = true := hp
    refine ⟨(), rfl, ?_⟩
    have hg := fns_get (l := fs) (j := i) hi
    have e0 := ev152 (fs.getD i (0, 0)).1 (fs.getD i (0, 0)).2 c (fget_is hall hi) hc
    have hq : (!inCI (fs.getD i (0, 0)) c) = !((!(fun j => !inCI (fs.getD j (0, 0)) c) i)) := by simp
    rw [hp'] at hq
    rw [hq] at e0
    unfold m140_0
    repeat' (first
      | refine ep_loadSN rfl rfl rfl hg ?_
      | (refine g_op ?_; first
        | refine ep_mov rfl ?_ | refine sp_loadN rfl rfl rfl rfl rfl ?_
        | refine sp_callv rfl rfl rfl rfl rfl rfl (by first | exact e0) ⟨rfl, rfl, rfl, rfl⟩ rfl rfl rfl ?_
        | refine sp_callb rfl rfl rfl rfl rfl rfl (by first | exact e0) ⟨rfl, rfl, rfl, rfl⟩ rfl rfl rfl ?_
        | refine ep_bin rfl rfl (by first | exact b_add (by omega) (by omega) | exact b_sub (by omega) (by omega) | exact b_and (by omega) (by omega) | exact b_or (by omega) (by omega) | exact b_shr (by omega) | exact b_shl (by omega) (by omega) | exact b_lss | exact b_leq | exact b_gtr | exact b_geq | exact b_eql | exact b_neq) ?_
        | refine sp_idx rfl rfl rfl (by omega) rfl ?_ | refine ep_loadSN rfl rfl rfl (by first | exact prs_get (by omega) | exact fns_get (by omega)) ?_)
      | (refine g_ops ?_; first | refine eo_none ?_ | refine eo_nil ?_)
      | (refine g_code ?_; first | refine ec_seq ?_ | refine ec_region ?_ | refine ec_block ?_ | refine ec_skip ?_ | refine ec_exit ?_ | refine ec_ret ?_ | refine ec_condT rfl ?_ | refine ec_condF rfl ?_ | refine ec_condTH rfl (by assumption) ?_ | refine ec_condFH rfl (by assumption) ?_)
      | refine ek_seqN ?_ | refine ek_seqX ?_ | refine ek_seqR ?_ | refine ek_blkN ?_ | refine ek_blkR ?_ | refine ek_blkX ?_ | refine ek_blkY rfl ?_)
    exact rnd_on (by rfl) (scmp2 (by rfl) (by rfl) (by exact ⟨rfl, rfl, rfl⟩) (by rfl) (by first | rfl | (simp; done) | (simp [ints, prs]; done)) (by rfl) (by first | rfl | (simp; done) | (simp [ints, prs]; done)))
  · intro i s hi hs hp
    have hlt : decide ((i : Int) < (fs.length : Nat)) = true := decide_eq_true (by omega)
    have hp' : (!(fun j => !inCI (fs.getD j (0, 0)) c) i) = false := hp
    have hg := fns_get (l := fs) (j := i) hi
    have e0 := ev152 (fs.getD i (0, 0)).1 (fs.getD i (0, 0)).2 c (fget_is hall hi) hc
    have hq : (!inCI (fs.getD i (0, 0)) c) = !((!(fun j => !inCI (fs.getD j (0, 0)) c) i)) := by simp
    rw [hp'] at hq
    rw [hq] at e0
    unfold m140_0
    repeat' (first
      | refine ep_loadSN rfl rfl rfl hg ?_
      | (refine g_op ?_; first
        | refine ep_mov rfl ?_ | refine sp_loadN rfl rfl rfl rfl rfl ?_
        | refine sp_callv rfl rfl rfl rfl rfl rfl (by first | exact e0) ⟨rfl, rfl, rfl, rfl⟩ rfl rfl rfl ?_
        | refine sp_callb rfl rfl rfl rfl rfl rfl (by first | exact e0) ⟨rfl, rfl, rfl, rfl⟩ rfl rfl rfl ?_
        | refine ep_bin rfl rfl (by first | exact b_add (by omega) (by omega) | exact b_sub (by omega) (by omega) | exact b_and (by omega) (by omega) | exact b_or (by omega) (by omega) | exact b_shr (by omega) | exact b_shl (by omega) (by omega) | exact b_lss | exact b_leq | exact b_gtr | exact b_geq | exact b_eql | exact b_neq) ?_
        | refine sp_idx rfl rfl rfl (by omega) rfl ?_ | refine ep_loadSN rfl rfl rfl (by first | exact prs_get (by omega) | exact fns_get (by omega)) ?_)
      | (refine g_ops ?_; first | refine eo_none ?_ | refine eo_nil ?_)
      | (refine g_code ?_; first | refine ec_seq ?_ | refine ec_region ?_ | refine ec_block ?_ | refine ec_skip ?_ | refine ec_exit ?_ | refine ec_ret ?_ | refine ec_condT rfl ?_ | refine ec_condF rfl ?_ | refine ec_condTH rfl (by assumption) ?_ | refine ec_condFH rfl (by assumption) ?_)
      | refine ek_seqN ?_ | refine ek_seqX ?_ | refine ek_seqR ?_ | refine ek_blkN ?_ | refine ek_blkR ?_ | refine ek_blkX ?_ | refine ek_blkY rfl ?_)
    exact rnd_out (by rfl) (by simp) (scmp2 (by rfl) (by rfl) (by exact ⟨rfl, rfl, rfl⟩) (by rfl) (by first | rfl | (simp; done) | (simp [ints, prs]; done)) (by rfl) (by first | rfl | (simp; done) | (simp [ints, prs]; done)))
  · intro s hs
    have hlt : decide (((fs.length : Nat) : Int) < (fs.length : Nat)) = false := decide_eq_false (by omega)
    unfold m140_0
    repeat' (first
      | refine ep_loadSN rfl rfl rfl hg ?_
      | (refine g_op ?_; first
        | refine ep_mov rfl ?_ | refine sp_loadN rfl rfl rfl rfl rfl ?_
        | refine sp_callv rfl rfl rfl rfl rfl rfl (by first | exact e0) ⟨rfl, rfl, rfl, rfl⟩ rfl rfl rfl ?_
        | refine sp_callb rfl rfl rfl rfl rfl rfl (by first | exact e0) ⟨rfl, rfl, rfl, rfl⟩ rfl rfl rfl ?_
        | refine ep_bin rfl rfl (by first | exact b_add (by omega) (by omega) | exact b_sub (by omega) (by omega) | exact b_and (by omega) (by omega) | exact b_or (by omega) (by omega) | exact b_shr (by omega) | exact b_shl (by omega) (by omega) | exact b_lss | exact b_leq | exact b_gtr | exact b_geq | exact b_eql | exact b_neq) ?_
        | refine sp_idx rfl rfl rfl (by omega) rfl ?_ | refine ep_loadSN rfl rfl rfl (by first | exact prs_get (by omega) | exact fns_get (by omega)) ?_)
      | (refine g_ops ?_; first | refine eo_none ?_ | refine eo_nil ?_)
      | (refine g_code ?_; first | refine ec_seq ?_ | refine ec_region ?_ | refine ec_block ?_ | refine ec_skip ?_ | refine ec_exit ?_ | refine ec_ret ?_ | refine ec_condT rfl ?_ | refine ec_condF rfl ?_ | refine ec_condTH rfl (by assumption) ?_ | refine ec_condFH rfl (by assumption) ?_)
      | refine ek_seqN ?_ | refine ek_seqX ?_ | refine ek_seqR ?_ | refine ek_blkN ?_ | refine ek_blkR ?_ | refine ek_blkX ?_ | refine ek_blkY rfl ?_)
    exact rnd_out (by rfl) (by simp) (scmp2 (by rfl) (by rfl) (by exact ⟨rfl, rfl, rfl⟩) (by rfl) (by first | rfl | (simp; done) | (simp [ints, prs]; done)) (by rfl) (by first | rfl | (simp; done) | (simp [ints, prs]; done)))
theorem evix_allIn (fs : List (Int × Int)) (hln : fs.length ≤ 1048576) (hall : allFunc fs = true) (c : Nat) (hc : c < 5) : Ev cx 140 [.sl 0 0 fs.length, .fn 152 [.ptr 1 0]] [⟨fns fs, 2, 0, some 0, false⟩, ⟨[.int .i64 c], 1, 1, some 0, true⟩] (.int .i64 (match firstF (fun i => !(fun j => !inCI (fs.getD j (0, 0)) c) i) 0 (fs.length) with | none => -1 | some x => ((x : Nat) : Int))) [⟨fns fs, 2, 0, some 0, false⟩, ⟨[.int .i64 c], 1, 1, some 0, true⟩] := by
  cases hs : firstF (fun i => !(fun j => !inCI (fs.getD j (0, 0)) c) i) 0 (fs.length) with
  | none =>
    have lp := lpix_allIn fs hln hall c hc _ (by rw [hs])
    refine has140.eev rfl rfl ?_
    unfold m140
    repeat' (first
      | refine sc_loop lp rfl rfl ⟨rfl, rfl, rfl⟩ rfl rfl rfl ?_
      | (refine g_op ?_; first
        | refine ep_mov rfl ?_
        | refine ep_lenS rfl ?_ | refine ep_lenN rfl ?_ | refine ep_lenE rfl ?_)
      | (refine g_ops ?_; first | refine eo_none ?_ | refine eo_nil ?_)
      | (refine g_code ?_; first | refine ec_seq ?_ | refine ec_region ?_ | refine ec_block ?_ | refine ec_ret ?_)
      | refine ek_seqN ?_ | refine ek_seqX ?_ | refine ek_seqR ?_ | refine ek_blkN ?_ | refine ek_blkR ?_ | refine ek_blkX ?_ | refine ek_blkY rfl ?_)
    refine sfin (.inr rfl) (by rfl) (by rfl) (by exact ⟨rfl, rfl, rfl⟩) (by rfl) (by rfl) (by rfl) (by first | rfl | (simp; done) | (simp [ints, prs]; done))
  | some x =>
    have lp := lpix_allIn fs hln hall c hc _ (by rw [hs])
    refine has140.eev rfl rfl ?_
    unfold m140
    repeat' (first
      | refine sc_loop lp rfl rfl ⟨rfl, rfl, rfl⟩ rfl rfl rfl ?_
      | (refine g_op ?_; first
        | refine ep_mov rfl ?_
        | refine ep_lenS rfl ?_ | refine ep_lenN rfl ?_ | refine ep_lenE rfl ?_)
      | (refine g_ops ?_; first | refine eo_none ?_ | refine eo_nil ?_)
      | (refine g_code ?_; first | refine ec_seq ?_ | refine ec_region ?_ | refine ec_block ?_ | refine ec_ret ?_)
      | refine ek_seqN ?_ | refine ek_seqX ?_ | refine ek_seqR ?_ | refine ek_blkN ?_ | refine ek_blkR ?_ | refine ek_blkX ?_ | refine ek_blkY rfl ?_)
    refine sfin (.inr rfl) (by rfl) (by rfl) (by exact ⟨rfl, rfl, rfl⟩) (by rfl) (by rfl) (by rfl) (by first | rfl | (simp; done) | (simp [ints, prs]; done))
theorem evcf_allIn (fs : List (Int × Int)) (hln : fs.length ≤ 1048576) (hall : allFunc fs = true) (c : Nat) (hc : c < 5) : Ev cx 115 [.sl 0 0 fs.length, .fn 152 [.ptr 1 0]] [⟨fns fs, 2, 0, some 0, false⟩, ⟨[.int .i64 c], 1, 1, some 0, true⟩] (.bool (!allF (fun i => !(fun j => !inCI (fs.getD j (0, 0)) c) i) 0 (fs.length))) [⟨fns fs, 2, 0, some 0, false⟩, ⟨[.int .i64 c], 1, 1, some 0, true⟩] := by
  have e1 := evix_allIn fs hln hall c hc
  cases hs : firstF (fun i => !(fun j => !inCI (fs.getD j (0, 0)) c) i) 0 (fs.length) with
  | none =>
    rw [hs] at e1
    refine has115.eev rfl rfl ?_
    unfold m115
    repeat' (first
      | (refine g_op ?_; first
        | refine ep_mov rfl ?_
        | refine ep_call0 rfl (by first | exact e1) rfl rfl ?_
        | refine sp_call rfl rfl rfl rfl (by first | exact e1) ⟨rfl, rfl, rfl, rfl⟩ rfl rfl rfl ?_
        | refine ep_bin rfl rfl (by first | exact b_add (by omega) (by omega) | exact b_sub (by omega) (by omega) | exact b_and (by omega) (by omega) | exact b_or (by omega) (by omega) | exact b_shr (by omega) | exact b_shl (by omega) (by omega) | exact b_lss | exact b_leq | exact b_gtr | exact b_geq | exact b_eql | exact b_neq) ?_)
      | (refine g_ops ?_; first | refine eo_none ?_ | refine eo_nil ?_)
      | (refine g_code ?_; first | refine ec_seq ?_ | refine ec_region ?_ | refine ec_ret ?_)
      | refine ek_seqN ?_ | refine ek_seqR ?_)
    refine sfin (.inr rfl) (by rfl) (by rfl) (by exact ⟨rfl, rfl, rfl⟩) (by rfl) (by rfl) (by rw [firstF_allT hs]; rfl) (by first | rfl | (simp; done) | (simp [ints, prs]; done))
  | some x =>
    rw [hs] at e1
    have hge : decide (((x : Nat) : Int) ≥ 0) = true := decide_eq_true (by omega)
    refine has115.eev rfl rfl ?_
    unfold m115
    repeat' (first
      | (refine g_op ?_; first
        | refine ep_mov rfl ?_
        | refine ep_call0 rfl (by first | exact e1) rfl rfl ?_
        | refine sp_call rfl rfl rfl rfl (by first | exact e1) ⟨rfl, rfl, rfl, rfl⟩ rfl rfl rfl ?_
        | refine ep_bin rfl rfl (by first | exact b_add (by omega) (by omega) | exact b_sub (by omega) (by omega) | exact b_and (by omega) (by omega) | exact b_or (by omega) (by omega) | exact b_shr (by omega) | exact b_shl (by omega) (by omega) | exact b_lss | exact b_leq | exact b_gtr | exact b_geq | exact b_eql | exact b_neq) ?_)
      | (refine g_ops ?_; first | refine eo_none ?_ | refine eo_nil ?_)
      | (refine g_code ?_; first | refine ec_seq ?_ | refine ec_region ?_ | refine ec_ret ?_)
      | refine ek_seqN ?_ | refine ek_seqR ?_)
    refine sfin (.inr rfl) (by rfl) (by rfl) (by exact ⟨rfl, rfl, rfl⟩) (by rfl) (by rfl) (by rw [firstF_allF hs]; first | rfl | exact congrArg V.bool hge) (by first | rfl | (simp; done) | (simp [ints, prs]; done))

theorem ev151 (fs : List (Int × Int)) (hln : fs.length ≤ 1048576) (hall : allFunc fs = true) (c : Nat) (hc : c < 5) : Ev cx 151 [.sl 0 0 fs.length, .int .i64 c] [⟨fns fs, 2, 0, some 0, false⟩] (.bool (allIC fs c)) [⟨fns fs, 2, 0, some 0, false⟩] := by
  have e1 := evcf_allIn fs hln hall c hc
  rw [show (fun i => !(fun j => !inCI (fs.getD j (0, 0)) c) i) = fun j => inCI (fs.getD j (0, 0)) c by funext j; simp] at e1
  refine has151.eev rfl rfl ?_
  unfold m151
  repeat' (first
    | (refine g_op ?_; first
      | refine ep_mov rfl ?_
      | refine ep_call0 rfl (by first | exact e1) rfl rfl ?_
      | refine sp_call rfl rfl rfl rfl (by first | exact e1) ⟨rfl, rfl, rfl, rfl⟩ rfl rfl rfl ?_
      | refine ep_not rfl ?_ | refine sp_box rfl rfl rfl rfl rfl ?_ | refine ep_mkfn rfl ?_)
    | (refine g_ops ?_; first | refine eo_none ?_ | refine eo_nil ?_)
    | (refine g_code ?_; first | refine ec_seq ?_ | refine ec_region ?_ | refine ec_ret ?_)
    | refine ek_seqN ?_ | refine ek_seqR ?_)
  refine sfin (.inr rfl) (by rfl) (by rfl) (by exact ⟨rfl, rfl, rfl⟩) (by rfl) (by rfl) (by simp; rfl) (by first | rfl | (simp; done) | (simp [ints, prs]; done))
-- impl.classesOf
def m143_0 : MC := (.seq (.region [⟨(.bin .lss (.t 5) (.k (.int .i64 5))), (some 6), none⟩] false) (.seq (.cond (.t 6) .skip (.exit 0)) (.seq (.block 1 (.seq (.region [⟨(.mov (.t 5)), (some 7), none⟩, ⟨(.mov (.t 7)), (some 4), none⟩] false) (.seq (.region [⟨(.mov (.t 0)), (some 8), none⟩, ⟨(.mov (.t 4)), (some 9), none⟩, ⟨(.call 151 [(.t 8), (.t 9)]), (some 10), none⟩] false) (.cond (.t 10) (.region [⟨(.mov (.t 3)), (some 11), none⟩, ⟨(.mov (.t 4)), (some 12), none⟩, ⟨(.bslice 1 [(.int .i64 0)] 1 [(0, (1, (.t 12)))]), (some 13), none⟩, ⟨(.append 1 8 (.t 11) (.t 13)), (some 14), none⟩, ⟨(.mov (.t 14)), (some 3), none⟩] false) .skip)))) (.region [⟨(.bin .add (.t 5) (.k (.int .i64 1))), (some 15), none⟩, ⟨(.mov (.t 15)), (some 5), none⟩] false))))
def m143 : MC := (.seq (.region [⟨(.mov (.k .nils)), (some 2), none⟩] false) (.seq (.region [⟨(.mov (.k .nils)), (some 3), none⟩] false) (.seq (.seq (.region [⟨(.mov (.k (.int .i64 0))), (some 5), none⟩] false) (.block 0 (.loop m143_0))) (.seq (.region [⟨(.mov (.t 3)), (some 16), none⟩, ⟨(.mov (.t 16)), (some 2), none⟩] false) .ret))))
theorem has143 : Has cx 143 17 m143 [(.tmp 2)] :=
  ⟨⟨Try.f143, Try.f143.body.getD .skip, by kernel_rfl, by kernel_rfl, by kernel_rfl, by kernel_rfl, by kernel_rfl, by kernel_rfl⟩⟩
theorem lp143_0 (fs : List (Int × Int)) (hln : fs.length ≤ 1048576) (hall : allFunc fs = true) (o : Out) (ho : (match selm (allIC fs) (idn) (5) with | [] => (⟨.exit 0, [(3, .nils)], [⟨fns fs, 2, 0, some 0, false⟩]⟩ : Out) | x :: xs => ⟨.exit 0, [(3, .sl 1 0 (x :: xs).length)], [⟨fns fs, 2, 0, some 0, false⟩, ⟨ints (x :: xs), 1, 1, some 0, false⟩]⟩) = o) :
    LpS cx 17 1 m143_0 [(0, .sl 0 0 fs.length), (3, .nils), (5, .int .i64 (0 : Nat))] [⟨fns fs, 2, 0, some 0, false⟩] o.x o.e o.h := by
  subst ho
  refine lp_st (5) (selm (allIC fs) (idn)) (fun i s => match s with | [] => [(0, .sl 0 0 fs.length), (3, .nils), (5, .int .i64 (i : Nat))] | x :: xs => [(0, .sl 0 0 fs.length), (3, .sl 1 0 (x :: xs).length), (5, .int .i64 (i : Nat))]) (fun i s => match s with | [] => [⟨fns fs, 2, 0, some 0, false⟩] | x :: xs => [⟨fns fs, 2, 0, some 0, false⟩, ⟨ints (x :: xs), 1, 1, some 0, false⟩]) (fun s => match s with | [] => ⟨.exit 0, [(3, .nils)], [⟨fns fs, 2, 0, some 0, false⟩]⟩ | x :: xs => ⟨.exit 0, [(3, .sl 1 0 (x :: xs).length)], [⟨fns fs, 2, 0, some 0, false⟩, ⟨ints (x :: xs), 1, 1, some 0, false⟩]⟩) ?_ ?_ (5) 0 (by omega)
  · intro i s hi hs
    have hlt : decide ((i : Int) < (5 : Nat)) = true := decide_eq_true (by omega)
    have hle : decide ((i : Int) ≤ (5 : Nat) - 1) = true := decide_eq_true (by omega)
    have hlen : s.length ≤ 16 := by have := selm_len (allIC fs) (idn) i; rw [hs] at this; omega
    have hlt5 : decide ((i : Int) < 5) = true := decide_eq_true (by omega)
    cases hp : (allIC fs) i with
    | true =>
      have hp' : ((allIC fs) i) = true := hp
      have e1 := ev151 fs hln hall i hi
      rw [hp'] at e1
      cases s with
      | nil =>
        refine ⟨[(idn) i], by rw [selm_t (p := allIC fs) hp, hs]; try rfl, ?_⟩
        unfold m143_0
        repeat' (first
          | (refine g_op ?_; first
            | refine ep_mov rfl ?_
            | refine ep_call0 rfl (by first | exact e1) rfl rfl ?_
            | refine sp_call rfl rfl rfl rfl (by first | exact e1) ⟨rfl, rfl, rfl, rfl⟩ rfl rfl rfl ?_
            | refine ep_bin rfl rfl (by first | exact b_add (by omega) (by omega) | exact b_sub (by omega) (by omega) | exact b_and (by omega) (by omega) | exact b_or (by omega) (by omega) | exact b_shr (by omega) | exact b_shl (by omega) (by omega) | exact b_lss | exact b_leq | exact b_gtr | exact b_geq | exact b_eql | exact b_neq) ?_
            | refine sp_bslice rfl rfl rfl rfl rfl ?_ | refine sp_push0 rfl (by first | exact .inl rfl | exact .inr rfl) rfl rfl rfl rfl rfl (by decide) rfl rfl rfl ?_ | refine sp_push rfl rfl rfl rfl rfl rfl rfl (by first | exact ints_len _ | exact prs_len _ _ | exact zints_len _) (by omega) (Nat.zero_le _) rfl rfl rfl rfl rfl ?_)
          | (refine g_ops ?_; first | refine eo_none ?_ | refine eo_nil ?_)
          | (refine g_code ?_; first | refine ec_seq ?_ | refine ec_region ?_ | refine ec_block ?_ | refine ec_skip ?_ | refine ec_exit ?_ | refine ec_condT rfl ?_ | refine ec_condF rfl ?_ | refine ec_condTH rfl (by assumption) ?_ | refine ec_condFH rfl (by assumption) ?_)
          | refine ek_seqN ?_ | refine ek_seqX ?_ | refine ek_blkN ?_ | refine ek_blkR ?_ | refine ek_blkX ?_ | refine ek_blkY rfl ?_)
        exact rnd_on (by rfl) (scmp2 (by rfl) (by rfl) (by exact ⟨rfl, rfl, rfl⟩) (by rfl) (by first | rfl | (simp; done) | (simp [ints, prs]; done)) (by rfl) (by first | rfl | (simp; done) | (simp [ints, prs]; done)))
      | cons x xs =>
        refine ⟨(x :: xs) ++ [(idn) i], by rw [selm_t (p := allIC fs) hp, hs]; try rfl, ?_⟩
        unfold m143_0
        repeat' (first
          | (refine g_op ?_; first
            | refine ep_mov rfl ?_
            | refine ep_call0 rfl (by first | exact e1) rfl rfl ?_
            | refine sp_call rfl rfl rfl rfl (by first | exact e1) ⟨rfl, rfl, rfl, rfl⟩ rfl rfl rfl ?_
            | refine ep_bin rfl rfl (by first | exact b_add (by omega) (by omega) | exact b_sub (by omega) (by omega) | exact b_and (by omega) (by omega) | exact b_or (by omega) (by omega) | exact b_shr (by omega) | exact b_shl (by omega) (by omega) | exact b_lss | exact b_leq | exact b_gtr | exact b_geq | exact b_eql | exact b_neq) ?_
            | refine sp_bslice rfl rfl rfl rfl rfl ?_ | refine sp_push0 rfl (by first | exact .inl rfl | exact .inr rfl) rfl rfl rfl rfl rfl (by decide) rfl rfl rfl ?_ | refine sp_push rfl rfl rfl rfl rfl rfl rfl (by first | exact ints_len _ | exact prs_len _ _ | exact zints_len _) (by omega) (Nat.zero_le _) rfl rfl rfl rfl rfl ?_)
          | (refine g_ops ?_; first | refine eo_none ?_ | refine eo_nil ?_)
          | (refine g_code ?_; first | refine ec_seq ?_ | refine ec_region ?_ | refine ec_block ?_ | refine ec_skip ?_ | refine ec_exit ?_ | refine ec_condT rfl ?_ | refine ec_condF rfl ?_ | refine ec_condTH rfl (by assumption) ?_ | refine ec_condFH rfl (by assumption) ?_)
          | refine ek_seqN ?_ | refine ek_seqX ?_ | refine ek_blkN ?_ | refine ek_blkR ?_ | refine ek_blkX ?_ | refine ek_blkY rfl ?_)
        exact rnd_on (by rfl) (scmp2 (by rfl) (by rfl) (by exact ⟨rfl, rfl, rfl⟩) (by rfl) (by first | rfl | (simp; done) | (simp [ints, prs]; done)) (by rfl) (by first | rfl | (simp; done) | (simp [ints, prs]; done)))
    | false =>
      have hp' : ((allIC fs) i) = false := hp
      have e1 := ev151 fs hln hall i hi
      rw [hp'] at e1
      cases s with
      | nil =>
        refine ⟨[], by rw [selm_f (p := allIC fs) hp, hs]; try rfl, ?_⟩
        unfold m143_0
        repeat' (first
          | (refine g_op ?_; first
            | refine ep_mov rfl ?_
            | refine ep_call0 rfl (by first | exact e1) rfl rfl ?_
            | refine sp_call rfl rfl rfl rfl (by first | exact e1) ⟨rfl, rfl, rfl, rfl⟩ rfl rfl rfl ?_
            | refine ep_bin rfl rfl (by first | exact b_add (by omega) (by omega) | exact b_sub (by omega) (by omega) | exact b_and (by omega) (by omega) | exact b_or (by omega) (by omega) | exact b_shr (by omega) | exact b_shl (by omega) (by omega) | exact b_lss | exact b_leq | exact b_gtr | exact b_geq | exact b_eql | exact b_neq) ?_
            | refine sp_bslice rfl rfl rfl rfl rfl ?_ | refine sp_push0 rfl (by first | exact .inl rfl | exact .inr rfl) rfl rfl rfl rfl rfl (by decide) rfl rfl rfl ?_ | refine sp_push rfl rfl rfl rfl rfl rfl rfl (by first | exact ints_len _ | exact prs_len _ _ | exact zints_len _) (by omega) (Nat.zero_le _) rfl rfl rfl rfl rfl ?_)
          | (refine g_ops ?_; first | refine eo_none ?_ | refine eo_nil ?_)
          | (refine g_code ?_; first | refine ec_seq ?_ | refine ec_region ?_ | refine ec_block ?_ | refine ec_skip ?_ | refine ec_exit ?_ | refine ec_condT rfl ?_ | refine ec_condF rfl ?_ | refine ec_condTH rfl (by assumption) ?_ | refine ec_condFH rfl (by assumption) ?_)
          | refine ek_seqN ?_ | refine ek_seqX ?_ | refine ek_blkN ?_ | refine ek_blkR ?_ | refine ek_blkX ?_ | refine ek_blkY rfl ?_)
        exact rnd_on (by rfl) (scmp2 (by rfl) (by rfl) (by exact ⟨rfl, rfl, rfl⟩) (by rfl) (by first | rfl | (simp; done) | (simp [ints, prs]; done)) (by rfl) (by first | rfl | (simp; done) | (simp [ints, prs]; done)))
      | cons x xs =>
        refine ⟨x :: xs, by rw [selm_f (p := allIC fs) hp, hs]; try rfl, ?_⟩
        unfold m143_0
        repeat' (first
          | (refine g_op ?_; first
            | refine ep_mov rfl ?_
            | refine ep_call0 rfl (by first | exact e1) rfl rfl ?_
            | refine sp_call rfl rfl rfl rfl (by first | exact e1) ⟨rfl, rfl, rfl, rfl⟩ rfl rfl rfl ?_
            | refine ep_bin rfl rfl (by first | exact b_add (by omega) (by omega) | exact b_sub (by omega) (by omega) | exact b_and (by omega) (by omega) | exact b_or (by omega) (by omega) | exact b_shr (by omega) | exact b_shl (by omega) (by omega) | exact b_lss | exact b_leq | exact b_gtr | exact b_geq | exact b_eql | exact b_neq) ?_
            | refine sp_bslice rfl rfl rfl rfl rfl ?_ | refine sp_push0 rfl (by first | exact .inl rfl | exact .inr rfl) rfl rfl rfl rfl rfl (by decide) rfl rfl rfl ?_ | refine sp_push rfl rfl rfl rfl rfl rfl rfl (by first | exact ints_len _ | exact prs_len _ _ | exact zints_len _) (by omega) (Nat.zero_le _) rfl rfl rfl rfl rfl ?_)
          | (refine g_ops ?_; first | refine eo_none ?_ | refine eo_nil ?_)
          | (refine g_code ?_; first | refine ec_seq ?_ | refine ec_region ?_ | refine ec_block ?_ | refine ec_skip ?_ | refine ec_exit ?_ | refine ec_condT rfl ?_ | refine ec_condF rfl ?_ | refine ec_condTH rfl (by assumption) ?_ | refine ec_condFH rfl (by assumption) ?_)
          | refine ek_seqN ?_ | refine ek_seqX ?_ | refine ek_blkN ?_ | refine ek_blkR ?_ | refine ek_blkX ?_ | refine ek_blkY rfl ?_)
        exact rnd_on (by rfl) (scmp2 (by rfl) (by rfl) (by exact ⟨rfl, rfl, rfl⟩) (by rfl) (by first | rfl | (simp; done) | (simp [ints, prs]; done)) (by rfl) (by first | rfl | (simp; done) | (simp [ints, prs]; done)))
  · intro s hs
    have hlt : decide (((5 : Nat) : Int) < (5 : Nat)) = false := decide_eq_false (by omega)
    have hle : decide (((5 : Nat) : Int) ≤ (5 : Nat) - 1) = false := decide_eq_false (by omega)
    have hlt5 : decide (((5 : Nat) : Int) < 5) = false := by decide
    cases s with
    | nil =>
      unfold m143_0
      repeat' (first
        | (refine g_op ?_; first
          | refine ep_mov rfl ?_
          | refine ep_bin rfl rfl (by first | exact b_add (by omega) (by omega) | exact b_sub (by omega) (by omega) | exact b_and (by omega) (by omega) | exact b_or (by omega) (by omega) | exact b_shr (by omega) | exact b_shl (by omega) (by omega) | exact b_lss | exact b_leq | exact b_gtr | exact b_geq | exact b_eql | exact b_neq) ?_
          | refine sp_bslice rfl rfl rfl rfl rfl ?_ | refine sp_push0 rfl (by first | exact .inl rfl | exact .inr rfl) rfl rfl rfl rfl rfl (by decide) rfl rfl rfl ?_ | refine sp_push rfl rfl rfl rfl rfl rfl rfl (by first | exact ints_len _ | exact prs_len _ _ | exact zints_len _) (by omega) (Nat.zero_le _) rfl rfl rfl rfl rfl ?_)
        | (refine g_ops ?_; first | refine eo_none ?_ | refine eo_nil ?_)
        | (refine g_code ?_; first | refine ec_seq ?_ | refine ec_region ?_ | refine ec_block ?_ | refine ec_skip ?_ | refine ec_exit ?_ | refine ec_condT rfl ?_ | refine ec_condF rfl ?_ | refine ec_condTH rfl (by assumption) ?_ | refine ec_condFH rfl (by assumption) ?_)
        | refine ek_seqN ?_ | refine ek_seqX ?_ | refine ek_blkN ?_ | refine ek_blkR ?_ | refine ek_blkX ?_ | refine ek_blkY rfl ?_)
      exact rnd_out (by rfl) (by simp) (scmp2 (by rfl) (by rfl) (by exact ⟨rfl, rfl, rfl⟩) (by rfl) (by first | rfl | (simp; done) | (simp [ints, prs]; done)) (by rfl) (by first | rfl | (simp; done) | (simp [ints, prs]; done)))
    | cons x xs =>
      unfold m143_0
      repeat' (first
        | (refine g_op ?_; first
          | refine ep_mov rfl ?_
          | refine ep_bin rfl rfl (by first | exact b_add (by omega) (by omega) | exact b_sub (by omega) (by omega) | exact b_and (by omega) (by omega) | exact b_or (by omega) (by omega) | exact b_shr (by omega) | exact b_shl (by omega) (by omega) | exact b_lss | exact b_leq | exact b_gtr | exact b_geq | exact b_eql | exact b_neq) ?_
          | refine sp_bslice rfl rfl rfl rfl rfl ?_ | refine sp_push0 rfl (by first | exact .inl rfl | exact .inr rfl) rfl rfl rfl rfl rfl (by decide) rfl rfl rfl ?_ | refine sp_push rfl rfl rfl rfl rfl rfl rfl (by first | exact ints_len _ | exact prs_len _ _ | exact zints_len _) (by omega) (Nat.zero_le _) rfl rfl rfl rfl rfl ?_)
        | (refine g_ops ?_; first | refine eo_none ?_ | refine eo_nil ?_)
        | (refine g_code ?_; first | refine ec_seq ?_ | refine ec_region ?_ | refine ec_block ?_ | refine ec_skip ?_ | refine ec_exit ?_ | refine ec_condT rfl ?_ | refine ec_condF rfl ?_ | refine ec_condTH rfl (by assumption) ?_ | refine ec_condFH rfl (by assumption) ?_)
        | refine ek_seqN ?_ | refine ek_seqX ?_ | refine ek_blkN ?_ | refine ek_blkR ?_ | refine ek_blkX ?_ | refine ek_blkY rfl ?_)
      exact rnd_out (by rfl) (by simp) (scmp2 (by rfl) (by rfl) (by exact ⟨rfl, rfl, rfl⟩) (by rfl) (by first | rfl | (simp; done) | (simp [ints, prs]; done)) (by rfl) (by first | rfl | (simp; done) | (simp [ints, prs]; done)))

theorem ev143 (fs : List (Int × Int)) (hln : fs.length ≤ 1048576) (hall : allFunc fs = true) : Ev cx 143 [.sl 0 0 fs.length] [⟨fns fs, 2, 0, some 0, false⟩] (slV .nils 1 (clL fs)) (⟨fns fs, 2, 0, some 0, false⟩ :: slH 1 1 ints (clL fs)) := by
  cases hs : clL fs with
  | nil =>
    have lp := lp143_0 fs hln hall _ (by rw [show selm (allIC fs) idn 5 = _ from hs])
    refine has143.eev rfl rfl ?_
    unfold m143
    repeat' (first
      | refine sc_loop lp rfl rfl ⟨rfl, rfl, rfl⟩ rfl rfl rfl ?_
      | (refine g_op ?_; first
        | refine ep_mov rfl ?_)
      | (refine g_ops ?_; first | refine eo_none ?_ | refine eo_nil ?_)
      | (refine g_code ?_; first | refine ec_seq ?_ | refine ec_region ?_ | refine ec_block ?_ | refine ec_ret ?_)
      | refine ek_seqN ?_ | refine ek_seqX ?_ | refine ek_seqR ?_ | refine ek_blkN ?_ | refine ek_blkR ?_ | refine ek_blkX ?_ | refine ek_blkY rfl ?_)
    refine sfin (.inr rfl) (by rfl) (by rfl) (by exact ⟨rfl, rfl, rfl⟩) (by rfl) (by rfl) (by rfl) (by first | rfl | (simp; done) | (simp [ints, prs]; done))
  | cons x xs =>
    have lp := lp143_0 fs hln hall _ (by rw [show selm (allIC fs) idn 5 = _ from hs])
    refine has143.eev rfl rfl ?_
    unfold m143
    repeat' (first
      | refine sc_loop lp rfl rfl ⟨rfl, rfl, rfl⟩ rfl rfl rfl ?_
      | (refine g_op ?_; first
        | refine ep_mov rfl ?_)
      | (refine g_ops ?_; first | refine eo_none ?_ | refine eo_nil ?_)
      | (refine g_code ?_; first | refine ec_seq ?_ | refine ec_region ?_ | refine ec_block ?_ | refine ec_ret ?_)
      | refine ek_seqN ?_ | refine ek_seqX ?_ | refine ek_seqR ?_ | refine ek_blkN ?_ | refine ek_blkR ?_ | refine ek_blkX ?_ | refine ek_blkY rfl ?_)
    refine sfin (.inr rfl) (by rfl) (by rfl) (by exact ⟨rfl, rfl, rfl⟩) (by rfl) (by rfl) (by rfl) (by first | rfl | (simp; done) | (simp [ints, prs]; done))
def foldN {S : Type} (f : Nat → S → S) : Nat → S → S
  | 0, s => s
  | n + 1, s => f n (foldN f n s)
theorem foldN_inv {S : Type} {f : Nat → S → S} {I : S → Prop} : ∀ (n : Nat) (s : S), (∀ j s, j < n → I s → I (f j s)) → I s → I (foldN f n s)
  | 0, s, _, h => h
  | n + 1, s, hf, h => hf n _ (by omega) (foldN_inv n s (fun j s hj => hf j s (by omega)) h)
theorem foldN_congr {S : Type} {f g : Nat → S → S} {I : S → Prop} : ∀ (n : Nat) (s : S), (∀ j s, j < n → I s → f j s = g j s ∧ I (f j s)) → I s → foldN f n s = foldN g n s ∧ I (foldN f n s)
  | 0, s, _, h => ⟨rfl, h⟩
  | n + 1, s, hf, h => by
    obtain ⟨h1, h2⟩ := foldN_congr n s (fun j s hj => hf j s (by omega)) h
    obtain ⟨h3, h4⟩ := hf n _ (by omega) h2
    refine ⟨?_, h4⟩
    show f n (foldN f n s) = g n (foldN g n s)
    rw [h3, h1]
abbrev GS := List Int × Bool
def upS (d : Int) (b : Nat) (s : GS) : GS := if s.1.getD b 0 < 0 then (s.1.set b d, true) else s
def isNw (d : Int) (D : List Int) (now : List Nat) : Bool := d == 1 || !(allF (fun j => !(D.getD (now.getD j 0) 0 == d - 1)) 0 now.length)
def leafS (d : Int) (n b : Nat) (now : List Nat) (s : GS) : GS := upS d (valS b (R2 n) now) s
def leafI (d : Int) (n b : Nat) (now : List Nat) (s : GS) : GS := if isNw d s.1 now = true then leafS d n b now s else s
def walkT (L : List Nat) (leaf : List Nat → GS → GS) : Nat → List Nat → GS → GS
  | 0, now, s => leaf now s
  | m + 1, now, s => foldN (fun j s => walkT L leaf m (now ++ [L.getD j 0]) s) L.length s
def ngs (D : List Int) : Nat := D.countP (fun x => decide (x < 0))
def leD (D D' : List Int) : Prop := D'.length = D.length ∧ ∀ b, 0 ≤ D.getD b 0 → D'.getD b 0 = D.getD b 0
theorem leD_refl (D : List Int) : leD D D := ⟨rfl, fun _ _ => rfl⟩
theorem leD_trans {A B C : List Int} (h1 : leD A B) (h2 : leD B C) : leD A C :=
  ⟨by rw [h2.1, h1.1], fun b h => by rw [h2.2 b (by rw [h1.2 b h]; exact h), h1.2 b h]⟩
theorem getD_set {D : List Int} {b c : Nat} {d : Int} : (D.set b d).getD c 0 = if b = c ∧ c < D.length then d else D.getD c 0 := by
  rw [List.getD_eq_getElem?_getD, List.getElem?_set, List.getD_eq_getElem?_getD]
  by_cases h : b = c
  · subst h
    by_cases h2 : b < D.length
    · simp [h2]
    · simp [h2]
  · simp [h]
theorem upS_le (d : Int) (b : Nat) (s : GS) : leD s.1 (upS d b s).1 := by
  unfold upS
  split
  · rename_i h
    refine ⟨by simp, fun c hc => ?_⟩
    simp only
    rw [getD_set, if_neg]
    rintro ⟨rfl, _⟩
    omega
  · exact leD_refl _
theorem ngs_set : ∀ {D : List Int} {b : Nat} {d : Int}, 0 ≤ d → D.getD b 0 < 0 → ngs (D.set b d) + 1 = ngs D
  | [], b, d, _, h => by simp at h
  | x :: D, 0, d, hd, h => by
    have h' : x < 0 := by simpa using h
    simp [ngs, List.countP_cons, h', show ¬ d < 0 by omega]
  | x :: D, b + 1, d, hd, h => by
    have h' : D.getD b 0 < 0 := by simpa using h
    have := ngs_set hd h'
    simp only [ngs, List.set_cons_succ, List.countP_cons] at this ⊢
    omega
def invG (D0 : List Int) (s : GS) : Prop := leD D0 s.1 ∧ ngs s.1 ≤ ngs D0 ∧ (s.2 = true → ngs s.1 < ngs D0)
theorem upS_inv {D0 : List Int} {d : Int} {b : Nat} {s : GS} (hd : 0 ≤ d) (h : invG D0 s) : invG D0 (upS d b s) := by
  refine ⟨leD_trans h.1 (upS_le d b s), ?_⟩
  unfold upS
  split
  · rename_i hb
    have := ngs_set (d := d) hd hb
    have := h.2.1
    exact ⟨by simp only; omega, fun _ => by simp only; omega⟩
  · exact h.2
theorem walkT_inv {L : List Nat} {leaf : List Nat → GS → GS} {I : GS → Prop} (hl : ∀ now s, I s → I (leaf now s)) : ∀ (m : Nat) (now : List Nat) (s : GS), I s → I (walkT L leaf m now s)
  | 0, now, s, h => hl now s h
  | m + 1, now, s, h => foldN_inv _ _ (fun j s _ hs => walkT_inv hl m _ s hs) h
theorem leafI_inv {D0 : List Int} {d : Int} {n b : Nat} (hd : 0 ≤ d) (now : List Nat) (s : GS) (h : invG D0 s) : invG D0 (leafI d n b now s) := by
  unfold leafI; split
  · exact upS_inv hd h
  · exact h
def inL (L now : List Nat) : Prop := ∀ j, j < now.length → ∃ k, k < L.length ∧ now.getD j 0 = L.getD k 0
theorem inL_snoc {L now : List Nat} {j : Nat} (h : inL L now) (hj : j < L.length) : inL L (now ++ [L.getD j 0]) := by
  intro i hi
  by_cases h1 : i < now.length
  · obtain ⟨k, hk, e⟩ := h i h1
    refine ⟨k, hk, ?_⟩
    rw [List.getD_eq_getElem?_getD, List.getElem?_append_left h1, ← List.getD_eq_getElem?_getD]; exact e
  · simp at hi
    refine ⟨j, hj, ?_⟩
    rw [List.getD_eq_getElem?_getD, List.getElem?_append_right (by omega), show i - now.length = 0 by omega]; rfl
theorem isNw_congr {d : Int} {D0 D : List Int} {L now : List Nat} (hle : leD D0 D) (hL : ∀ k, k < L.length → 0 ≤ D0.getD (L.getD k 0) 0) (hn : inL L now) : isNw d D now = isNw d D0 now := by
  unfold isNw
  congr 2
  refine allF_congr _ _ fun x _ hx => ?_
  obtain ⟨k, hk, e⟩ := hn x (by omega)
  rw [e, hle.2 _ (hL k hk)]
theorem walk_eq {d : Int} {n b a : Nat} {D0 : List Int} {L : List Nat} (hd : 0 ≤ d) (hL : ∀ k, k < L.length → 0 ≤ D0.getD (L.getD k 0) 0)
    (H : ∀ t : List Nat, t.length = a → inL L t → isNw d D0 t = false → 0 ≤ D0.getD (valS b (R2 n) t) 0) : ∀ (m : Nat) (now : List Nat) (s : GS), now.length + m = a → inL L now → invG D0 s →
    walkT L (leafI d n b) m now s = walkT L (leafS d n b) m now s ∧ invG D0 (walkT L (leafI d n b) m now s)
  | 0, now, s, hm, hn, hs => by
    refine ⟨?_, leafI_inv hd now s hs⟩
    show leafI d n b now s = leafS d n b now s
    unfold leafI
    split
    · rfl
    · rename_i hw
      rw [isNw_congr hs.1 hL hn] at hw
      have := H now (by omega) hn (by simpa using hw)
      unfold leafS upS
      rw [if_neg]
      rw [hs.1.2 _ this]; omega
  | m + 1, now, s, hm, hn, hs => by
    refine foldN_congr L.length s (fun j s hj hI => ?_) hs
    exact walk_eq hd hL H m _ s (by simp; omega) (inL_snoc hn hj) hI
theorem walk_cl {d : Int} {n b N : Nat} {L : List Nat} (hd : 0 ≤ d) (hN : ∀ t, valS b (R2 n) t < N) : ∀ (m : Nat) (now rest : List Nat) (s : GS), s.1.length = N → rest.length = m → inL L rest →
    0 ≤ (walkT L (leafS d n b) m now s).1.getD (valS b (R2 n) (now ++ rest)) 0
  | 0, now, rest, s, hs, hm, _ => by
    have hr : rest = [] := List.eq_nil_of_length_eq_zero hm
    subst hr
    rw [List.append_nil]
    show 0 ≤ (leafS d n b now s).1.getD _ 0
    unfold leafS upS
    split
    · simp only; rw [getD_set, if_pos ⟨rfl, by rw [hs]; exact hN now⟩]; exact hd
    · omega
  | m + 1, now, [], s, hs, hm, _ => by simp at hm
  | m + 1, now, x :: rest, s, hs, hm, hr => by
    obtain ⟨k, hk, e⟩ := hr 0 (by simp)
    have e' : x = L.getD k 0 := by simpa using e
    subst e'
    have hr' : inL L rest := fun j hj => by
      obtain ⟨k', h1, h2⟩ := hr (j + 1) (by simp; omega)
      exact ⟨k', h1, by simpa using h2⟩
    have step : ∀ q, q ≤ L.length → ((foldN (fun j s => walkT L (leafS d n b) m (now ++ [L.getD j 0]) s) q s).1.length = N ∧ (k < q → 0 ≤ (foldN (fun j s => walkT L (leafS d n b) m (now ++ [L.getD j 0]) s) q s).1.getD (valS b (R2 n) (now ++ L.getD k 0 :: rest)) 0)) := by
      intro q
      induction q with
      | zero => intro _; exact ⟨hs, by omega⟩
      | succ q ih =>
        intro hq
        obtain ⟨i1, i2⟩ := ih (by omega)
        have hle := walkT_inv (L := L) (leaf := leafS d n b) (I := fun u => leD (foldN (fun j s => walkT L (leafS d n b) m (now ++ [L.getD j 0]) s) q s).1 u.1) (fun nw u hu => leD_trans hu (upS_le d _ u)) m (now ++ [L.getD q 0]) _ (leD_refl _)
        refine ⟨by rw [foldN, hle.1, i1], fun hk2 => ?_⟩
        by_cases hkq : k = q
        · subst hkq
          have := walk_cl hd hN m (now ++ [L.getD k 0]) rest (foldN (fun j s => walkT L (leafS d n b) m (now ++ [L.getD j 0]) s) k s) i1 (by simpa using hm) hr'
          rw [List.append_assoc] at this
          exact this
        · have h0 := i2 (by omega)
          rw [foldN, hle.2 _ h0]; exact h0
    exact (step L.length (Nat.le_refl _)).2 hk
def rndG (leaf : Int → Nat → Nat → List Nat → GS → GS) (fs : List (Int × Int)) (n : Nat) (d : Int) (L : List Nat) (D : List Int) : GS :=
  foldN (fun k s => walkT L (leaf d n (fs.getD k (0, 0)).2.toNat) (fs.getD k (0, 0)).1.toNat [] s) fs.length (D, false)
def kwI (N : Nat) (d : Int) (D : List Int) : List Nat := selm (fun b => decide (0 ≤ D.getD b 0 ∧ D.getD b 0 ≤ d - 1)) idn N
def kwS (N : Nat) (D : List Int) : List Nat := selm (fun b => decide (0 ≤ D.getD b 0)) idn N
def genI (fs : List (Int × Int)) (n : Nat) : Nat → Nat → List Int → List Int
  | 0, _, D => D
  | k + 1, d, D => if (rndG leafI fs n d (kwI (R2 (R2 n)) d D) D).2 = true then genI fs n k (d + 1) (rndG leafI fs n d (kwI (R2 (R2 n)) d D) D).1 else (rndG leafI fs n d (kwI (R2 (R2 n)) d D) D).1
def genS (fs : List (Int × Int)) (n : Nat) : Nat → Nat → List Int → List Int
  | 0, _, D => D
  | k + 1, d, D => if (rndG leafS fs n d (kwS (R2 (R2 n)) D) D).2 = true then genS fs n k (d + 1) (rndG leafS fs n d (kwS (R2 (R2 n)) D) D).1 else (rndG leafS fs n d (kwS (R2 (R2 n)) D) D).1
def bndD (d : Int) (D : List Int) : Prop := ∀ b, -1 ≤ D.getD b 0 ∧ D.getD b 0 ≤ d
theorem upS_bnd {d : Int} {b : Nat} {s : GS} (hd : 0 ≤ d) (h : bndD d s.1) : bndD d (upS d b s).1 := by
  unfold upS; split
  · intro c; simp only; rw [getD_set]; split
    · omega
    · exact h c
  · exact h
def gClo (fs : List (Int × Int)) (n : Nat) (d : Int) (D : List Int) : Prop := d = 1 ∨ ∀ k, k < fs.length → ∀ t : List Nat, t.length = (fs.getD k (0, 0)).1.toNat → (∀ j, j < t.length → t.getD j 0 < R2 (R2 n) ∧ 0 ≤ D.getD (t.getD j 0) 0 ∧ D.getD (t.getD j 0) 0 ≤ d - 2) → 0 ≤ D.getD (valS (fs.getD k (0, 0)).2.toNat (R2 n) t) 0
theorem selm_mem {p : Nat → Bool} {n x : Nat} (hx : x < n) (hp : p x = true) : ∃ k, k < (selm p idn n).length ∧ x = (selm p idn n).getD k 0 := by
  induction n with
  | zero => omega
  | succ n ih =>
    by_cases hn : x = n
    · subst hn
      rw [selm_t hp]
      refine ⟨(selm p idn x).length, by simp, ?_⟩
      rw [List.getD_eq_getElem?_getD, List.getElem?_append_right (Nat.le_refl _)]; simp
    · obtain ⟨k, h1, h2⟩ := ih (by omega)
      cases hpn : p n
      · rw [selm_f hpn]; exact ⟨k, h1, h2⟩
      · rw [selm_t hpn]
        refine ⟨k, by simp; omega, ?_⟩
        rw [List.getD_eq_getElem?_getD, List.getElem?_append_left h1, ← List.getD_eq_getElem?_getD]; exact h2
theorem selm_lt0 {p : Nat → Bool} {n j : Nat} (h : j < (selm p idn n).length) : (selm p idn n).getD j 0 < n ∧ p ((selm p idn n).getD j 0) = true := by
  have hm : (selm p idn n).getD j 0 ∈ selm p idn n := by
    rw [List.getD_eq_getElem?_getD, List.getElem?_eq_getElem h]; simp
  generalize (selm p idn n).getD j 0 = x at hm
  clear h
  induction n with
  | zero => simp [selm] at hm
  | succ n ih =>
    cases hp : p n
    · rw [selm_f hp] at hm; have := ih hm; exact ⟨by omega, this.2⟩
    · rw [selm_t hp] at hm
      rcases List.mem_append.mp hm with h1 | h1
      · have := ih h1; exact ⟨by omega, this.2⟩
      · have : x = n := by simpa using h1
        subst this; exact ⟨by omega, hp⟩
theorem rnd_inv {fs : List (Int × Int)} {n : Nat} {d : Int} {L : List Nat} {D : List Int} (hd : 0 ≤ d) : invG D (rndG leafS fs n d L D) := by
  refine foldN_inv (I := invG D) _ _ (fun k s _ hs => walkT_inv (fun now s hs => upS_inv hd hs) _ _ s hs) ?_
  exact ⟨leD_refl _, Nat.le_refl _, by simp⟩
theorem rndI_inv {fs : List (Int × Int)} {n : Nat} {d : Int} {L : List Nat} {D : List Int} (hd : 0 ≤ d) : invG D (rndG leafI fs n d L D) := by
  refine foldN_inv (I := invG D) _ _ (fun k s _ hs => walkT_inv (fun now s hs => leafI_inv hd now s hs) _ _ s hs) ?_
  exact ⟨leD_refl _, Nat.le_refl _, by simp⟩
theorem rnd_bnd {fs : List (Int × Int)} {n : Nat} {d : Int} {L : List Nat} {D : List Int} (hd : 0 ≤ d) (h : bndD d D) : bndD d (rndG leafS fs n d L D).1 :=
  foldN_inv (I := fun s : GS => bndD d s.1) _ _ (fun k s _ hs => walkT_inv (I := fun s : GS => bndD d s.1) (fun now s hs => upS_bnd hd hs) _ _ s hs) h
theorem rndI_bnd {fs : List (Int × Int)} {n : Nat} {d : Int} {L : List Nat} {D : List Int} (hd : 0 ≤ d) (h : bndD d D) : bndD d (rndG leafI fs n d L D).1 :=
  foldN_inv (I := fun s : GS => bndD d s.1) _ _ (fun k s _ hs => walkT_inv (I := fun s : GS => bndD d s.1) (fun now s hs => by unfold leafI; split; exact upS_bnd hd hs; exact hs) _ _ s hs) h
theorem valS_R (b n : Nat) (t : List Nat) : valS b (R2 n) t < R2 (R2 n) := valS_lt b (R2 n) t
theorem rnd_eq {fs : List (Int × Int)} {n : Nat} {d : Int} {D : List Int} (hd : 1 ≤ d) (hl : D.length = R2 (R2 n)) (hb : bndD (d - 1) D) (hc : gClo fs n d D) :
    kwI (R2 (R2 n)) d D = kwS (R2 (R2 n)) D ∧ rndG leafI fs n d (kwS (R2 (R2 n)) D) D = rndG leafS fs n d (kwS (R2 (R2 n)) D) D ∧ gClo fs n (d + 1) (rndG leafS fs n d (kwS (R2 (R2 n)) D) D).1 := by
  have hL : ∀ k, k < (kwS (R2 (R2 n)) D).length → 0 ≤ D.getD ((kwS (R2 (R2 n)) D).getD k 0) 0 := fun k hk => by
    exact of_decide_eq_true (selm_lt0 hk).2
  refine ⟨?_, ?_, ?_⟩
  · refine selm_congr _ fun i _ => ⟨?_, fun _ => rfl⟩
    have := hb i
    rw [Bool.eq_iff_iff]; simp only [decide_eq_true_eq]; omega
  · refine (foldN_congr (I := invG D) _ _ (fun k s hk hs => ?_) ⟨leD_refl _, Nat.le_refl _, by simp⟩).1
    refine walk_eq (a := (fs.getD k (0, 0)).1.toNat) (by omega) hL ?_ _ _ s (by rw [List.length_nil, Nat.zero_add]) (fun j hj => by simp at hj) hs
    intro t ht hin hw
    unfold isNw at hw
    rw [Bool.or_eq_false_iff] at hw
    rcases hc with h1 | hc
    · rw [h1] at hw; simp at hw
    · refine hc k hk t ht fun j hj => ?_
      obtain ⟨k', h1, h2⟩ := hin j hj
      have h3 := selm_lt0 h1
      have h4 := hL k' h1
      have h5 := hb (t.getD j 0)
      have h6 : allF (fun j => !(D.getD (t.getD j 0) 0 == d - 1)) 0 t.length = true := by simpa using hw.2
      have h7 := (allF_iff _ _).mp h6 j (by omega) (by omega)
      have h8 : D.getD (t.getD j 0) 0 ≠ d - 1 := by simpa using h7
      rw [h2] at *
      exact ⟨h3.1, h4, by omega⟩
  · right
    intro k hk t ht hm
    have hinv := rnd_inv (fs := fs) (n := n) (d := d) (L := kwS (R2 (R2 n)) D) (D := D) (by omega)
    -- members of t were known
    have hin : inL (kwS (R2 (R2 n)) D) t := fun j hj => by
      obtain ⟨g1, g2, g3⟩ := hm j hj
      have : 0 ≤ D.getD (t.getD j 0) 0 := by
        have hcell : ∀ (c : Nat), 0 ≤ (rndG leafS fs n d (kwS (R2 (R2 n)) D) D).1.getD c 0 → (rndG leafS fs n d (kwS (R2 (R2 n)) D) D).1.getD c 0 ≤ d - 1 → 0 ≤ D.getD c 0 := by
          intro c
          refine foldN_inv (I := fun s : GS => 0 ≤ s.1.getD c 0 → s.1.getD c 0 ≤ d - 1 → 0 ≤ D.getD c 0) _ _ (fun k s _ hs => walkT_inv (I := fun s : GS => 0 ≤ s.1.getD c 0 → s.1.getD c 0 ≤ d - 1 → 0 ≤ D.getD c 0) (fun now s hs => ?_) _ _ s hs) (fun h _ => h)
          unfold leafS upS
          split
          · simp only; rw [getD_set]; split
            · intro _ h; omega
            · exact hs
          · exact hs
        exact hcell _ g2 (by omega)
      obtain ⟨k', e1, e2⟩ := selm_mem (p := fun b => decide (0 ≤ D.getD b 0)) g1 (by simpa using this)
      exact ⟨k', e1, e2⟩
    have step : ∀ q, q ≤ fs.length → ((foldN (fun k s => walkT (kwS (R2 (R2 n)) D) (leafS d n (fs.getD k (0, 0)).2.toNat) (fs.getD k (0, 0)).1.toNat [] s) q (D, false)).1.length = R2 (R2 n) ∧ (k < q → 0 ≤ (foldN (fun k s => walkT (kwS (R2 (R2 n)) D) (leafS d n (fs.getD k (0, 0)).2.toNat) (fs.getD k (0, 0)).1.toNat [] s) q (D, false)).1.getD (valS (fs.getD k (0, 0)).2.toNat (R2 n) t) 0)) := by
      intro q
      induction q with
      | zero => intro _; exact ⟨hl, by omega⟩
      | succ q ih =>
        intro hq
        obtain ⟨i1, i2⟩ := ih (by omega)
        have hle := walkT_inv (L := kwS (R2 (R2 n)) D) (leaf := leafS d n (fs.getD q (0, 0)).2.toNat) (I := fun u => leD (foldN (fun k s => walkT (kwS (R2 (R2 n)) D) (leafS d n (fs.getD k (0, 0)).2.toNat) (fs.getD k (0, 0)).1.toNat [] s) q (D, false)).1 u.1) (fun nw u hu => leD_trans hu (upS_le d _ u)) (fs.getD q (0, 0)).1.toNat [] _ (leD_refl _)
        refine ⟨by rw [foldN, hle.1, i1], fun hk2 => ?_⟩
        by_cases hkq : k = q
        · subst hkq
          have := walk_cl (d := d) (n := n) (b := (fs.getD k (0, 0)).2.toNat) (L := kwS (R2 (R2 n)) D) (by omega) (valS_R _ n) (fs.getD k (0, 0)).1.toNat [] t _ i1 ht hin
          rw [List.nil_append] at this
          exact this
        · have h0 := i2 (by omega)
          rw [foldN, hle.2 _ h0]; exact h0
    exact (step fs.length (Nat.le_refl _)).2 hk
theorem gen_eq {fs : List (Int × Int)} {n : Nat} : ∀ (k d : Nat) (D : List Int), 1 ≤ d → D.length = R2 (R2 n) → bndD (d - 1) D → gClo fs n d D → genI fs n k d D = genS fs n k d D
  | 0, d, D, _, _, _, _ => rfl
  | k + 1, d, D, hd, hl, hb, hc => by
    obtain ⟨e1, e2, e3⟩ := rnd_eq (d := d) (by omega) hl hb hc
    rw [genI, genS, e1, e2]
    have hi := rnd_inv (fs := fs) (n := n) (d := d) (L := kwS (R2 (R2 n)) D) (D := D) (by omega)
    have hb2 : bndD d D := fun b => ⟨(hb b).1, by have := (hb b).2; omega⟩
    have hb3 := rnd_bnd (fs := fs) (n := n) (d := d) (L := kwS (R2 (R2 n)) D) (by omega) hb2
    have := gen_eq (fs := fs) (n := n) k (d + 1) (rndG leafS fs n d (kwS (R2 (R2 n)) D) D).1 (by omega) (by rw [hi.1.1, hl]) (by rw [show ((d + 1 : Nat) : Int) - 1 = d by omega]; exact hb3) e3
    rw [this]
def projB (n i : Nat) : Nat := pk (fun r => bt r i) (R2 n)
def D0 (n : Nat) : Nat → List Int := fun j => foldN (fun i D => D.set (projB n i) 0) j (List.replicate (R2 (R2 n)) (-1))
def depL (fs : List (Int × Int)) (n : Nat) : List Int := genS fs n (R2 (R2 n) + 1) 1 (D0 n n)
theorem D0_len (n j : Nat) : (D0 n j).length = R2 (R2 n) := foldN_inv (I := fun D : List Int => D.length = R2 (R2 n)) _ _ (fun j D _ h => by simpa using h) (by simp)
theorem D0_bnd (n j : Nat) : bndD 0 (D0 n j) := by
  refine foldN_inv (I := bndD 0) _ _ (fun j D _ h c => ?_) (fun c => ?_)
  · rw [getD_set]; split
    · omega
    · exact h c
  · rw [List.getD_eq_getElem?_getD, List.getElem?_replicate]
    split <;> simp
theorem ngs_le (D : List Int) : ngs D ≤ D.length := List.countP_le_length
theorem depL_I (fs : List (Int × Int)) (n : Nat) : genI fs n (R2 (R2 n) + 1) 1 (D0 n n) = depL fs n :=
  gen_eq _ 1 _ (by omega) (D0_len n n) (by simpa using D0_bnd n n) (.inl rfl)
theorem genS_len {fs : List (Int × Int)} {n : Nat} : ∀ (k d : Nat) (D : List Int), (genS fs n k d D).length = D.length
  | 0, d, D => rfl
  | k + 1, d, D => by
    rw [genS]
    have h := (rnd_inv (fs := fs) (n := n) (d := d) (L := kwS (R2 (R2 n)) D) (D := D) (by omega)).1.1
    split
    · rw [genS_len k, h]
    · exact h
theorem genS_bnd {fs : List (Int × Int)} {n : Nat} : ∀ (k d : Nat) (D : List Int), bndD d D → bndD (d + k) (genS fs n k d D)
  | 0, d, D, h => by simpa [genS] using h
  | k + 1, d, D, h => by
    rw [genS]
    have h1 := rnd_bnd (fs := fs) (n := n) (d := d) (L := kwS (R2 (R2 n)) D) (by omega) h
    have h2 : bndD ((d + 1 : Nat) : Int) (rndG leafS fs n d (kwS (R2 (R2 n)) D) D).1 := fun b => ⟨(h1 b).1, by have := (h1 b).2; omega⟩
    split
    · have := genS_bnd (fs := fs) (n := n) k (d + 1) _ h2
      intro b; have := this b; omega
    · intro b; have := h1 b; omega
theorem depL_len (fs : List (Int × Int)) (n : Nat) : (depL fs n).length = R2 (R2 n) := by rw [depL, genS_len, D0_len]

-- 131
section
variable {C : Cx} {e : Env} {h : Heap} {P : V → Heap → List Ans → Prop} {x y : X} {b : V}
theorem ep_capN (hx : x.ev e = some .nils) (k : ∃ A, P (.int .i64 0) h A) : ∃ A, opK (Ev C) (.cap x) e h A P := by
  obtain ⟨A, k⟩ := k
  refine ⟨A, ?_⟩
  simp only [opK, hx]; exact k
theorem sp_appG {es by_ n m i p cl j : Nat} {c l1 l2 l : List V} {h1 h' : Heap} (hx : x.ev e = some (.sl i 0 n)) (hy : y.ev e = some b) (hi : h[i]? = some ⟨c, es, cl, some p, false⟩) (h1' : c.take (n * es) = l1) (hb : rowOf h es b = some (l2, m))
    (hl : l1 ++ l2 = l) (hl1 : l1.length = n * es) (hl2 : l2.length = m * es) (hb2 : (n + m) * by_ ≤ 140737488355328) (hf : flatL l2 = true ∨ ∃ i o bk, y.ev e = some (.sl i o m) ∧ h[i]? = some bk ∧ bk.lit = false)
    (hp : p ≤ n * es) (hes : Nat.ble 1 es = true) (hh1 : updO ⟨l1, es, cl, some p, false⟩ i (n * es) 0 h = some h1) (hj : litO h.length = some j) (hh : snocO h1 ⟨l, es, cl, some p, false⟩ = some h') (k : ∃ A, P (.sl j 0 (n + m)) h' A) :
    ∃ A, opK (Ev C) (.append es by_ x y) e h A P := by
  have := litO_ok hj; subst this
  exact ep_app hx hy hi (by rw [List.drop_zero]; exact h1') hb rfl ⟨hl.symm, hl1, hl2, hb2⟩ hf ⟨hp, rfl, rfl⟩ hes (by rw [updO_ok hh1]; exact snocO_ok hh) k
theorem rowOf_at {i o n : Nat} {c l : List V} {cl : Nat} {pr : Option Nat} (hb : h[i]? = some ⟨c, 2, cl, pr, false⟩) (hl : (c.drop o).take (n * 2) = l) : rowOf h 2 (.sl i o n) = some (l, n) := by
  simp only [rowOf, hb, hl]
end
def gz (m : Nat) : List V := (List.replicate m [V.int .i64 0, V.int .i64 0]).flatten
def wo (fs : List (Int × Int)) (k : Nat) : List (Int × Int) := fs.take k ++ fs.drop (k + 1)
theorem fns_app (l l' : List (Int × Int)) : fns l ++ fns l' = fns (l ++ l') := by simp [fns]
theorem fns_take : ∀ (l : List (Int × Int)) (k : Nat), (fns l).take (k * 2) = fns (l.take k)
  | [], k => by simp [fns]
  | x :: l, 0 => by simp [fns]
  | x :: l, k + 1 => by
    have := fns_take l k
    rw [show (k + 1) * 2 = k * 2 + 1 + 1 by omega, show fns (x :: l) = .int .i64 x.1 :: .int .i64 x.2 :: fns l from rfl, List.take_succ_cons, List.take_succ_cons, this]; rfl
theorem fns_drop : ∀ (l : List (Int × Int)) (k : Nat), (fns l).drop (k * 2) = fns (l.drop k)
  | [], k => by simp [fns]
  | x :: l, 0 => by simp
  | x :: l, k + 1 => by
    have := fns_drop l k
    rw [show (k + 1) * 2 = k * 2 + 1 + 1 by omega, show fns (x :: l) = .int .i64 x.1 :: .int .i64 x.2 :: fns l from rfl, List.drop_succ_cons, List.drop_succ_cons, this]; rfl
theorem wo_len {fs : List (Int × Int)} {k : Nat} (hk : k < fs.length) : (wo fs k).length = k + (fs.length - k - 1) := by simp [wo]; omega
theorem wo_get {fs : List (Int × Int)} {k j : Nat} (hk : k < fs.length) : (wo fs k).getD j (0, 0) = if j < k then fs.getD j (0, 0) else fs.getD (j + 1) (0, 0) := by
  rw [wo, List.getD_eq_getElem?_getD, List.getElem?_append]
  simp only [List.length_take, Nat.min_eq_left (Nat.le_of_lt hk)]
  split
  · rename_i h; rw [List.getElem?_take, if_pos h, List.getD_eq_getElem?_getD]
  · rename_i h; rw [List.getElem?_drop, show k + 1 + (j - k) = j + 1 by omega, List.getD_eq_getElem?_getD]
-- slices.Grow[[]impl.Func,impl.Func]
def m147 : MC := (.seq (.region [⟨(.mov (.k .nils)), (some 4), none⟩] false) (.seq (.seq (.region [⟨(.mov (.t 1)), (some 5), none⟩, ⟨(.bin .lss (.t 5) (.k (.int .i64 0))), (some 6), none⟩] false) (.cond (.t 6) (.region [⟨.bad, (some 7), none⟩, ⟨.bad, none, none⟩] false) .skip)) (.seq (.seq (.region [⟨(.mov (.t 1)), (some 8), none⟩, ⟨(.mov (.t 0)), (some 9), none⟩, ⟨(.cap (.t 9)), (some 10), none⟩, ⟨(.mov (.t 0)), (some 11), none⟩, ⟨(.len (.t 11)), (some 12), none⟩, ⟨(.bin .sub (.t 10) (.t 12)), (some 13), none⟩, ⟨(.bin .sub (.t 8) (.t 13)), (some 14), none⟩, ⟨(.mov (.t 14)), (some 1), none⟩] false) (.seq (.region [⟨(.mov (.t 1)), (some 15), none⟩, ⟨(.bin .gtr (.t 15) (.k (.int .i64 0))), (some 16), none⟩] false) (.cond (.t 16) (.region [⟨(.mov (.t 0)), (some 17), none⟩, ⟨(.mov (.t 0)), (some 18), none⟩, ⟨(.cap (.t 18)), (some 19), none⟩, ⟨(.slice 2 (.t 17) none (some (.t 19))), (some 20), none⟩, ⟨(.mov (.t 1)), (some 21), none⟩, ⟨(.appmk 2 16 [(.int .i64 0), (.int .i64 0)] (.t 20) (.t 21)), (some 22), none⟩, ⟨(.mov (.t 0)), (some 23), none⟩, ⟨(.len (.t 23)), (some 24), none⟩, ⟨(.slice 2 (.t 22) none (some (.t 24))), (some 25), none⟩, ⟨(.mov (.t 25)), (some 0), none⟩] false) .skip))) (.seq (.region [⟨(.mov (.t 0)), (some 26), none⟩, ⟨(.mov (.t 26)), (some 4), none⟩] false) .ret))))
theorem has147 : Has cx 147 27 m147 [(.tmp 4)] :=
  ⟨⟨Try.f147, Try.f147.body.getD .skip, by kernel_rfl, by kernel_rfl, by kernel_rfl, by kernel_rfl, by kernel_rfl, by kernel_rfl⟩⟩
theorem evgrow0 : Ev cx 147 [.nils, .int .i64 (0 : Nat)] [] .nils [] := by
  have s1 : binV .sub (.int .i64 0) (.int .i64 0) = some (.int .i64 0) := b_sub (by omega) (by omega)
  have s2 : binV .sub (.int .i64 ((0 : Nat) : Int)) (.int .i64 0) = some (.int .i64 0) := b_sub (by omega) (by omega)
  have q1 : decide (((0 : Nat) : Int) < 0) = false := by decide
  have q2 : decide ((0 : Int) > 0) = false := by decide
  refine has147.eev rfl rfl ?_
  unfold m147
  repeat' (first
    | refine ep_capN rfl ?_
    | (refine g_op ?_; first
      | refine ep_mov rfl ?_
      | refine ep_bin rfl rfl (by first | exact s1 | exact s2 | exact b_add (by omega) (by omega) | exact b_sub (by omega) (by omega) | exact b_and (by omega) (by omega) | exact b_or (by omega) (by omega) | exact b_shr (by omega) | exact b_shl (by omega) (by omega) | exact b_lss | exact b_leq | exact b_gtr | exact b_geq | exact b_eql | exact b_neq) ?_
      | refine ep_lenS rfl ?_ | refine ep_lenN rfl ?_ | refine ep_lenE rfl ?_)
    | (refine g_ops ?_; first | refine eo_none ?_ | refine eo_nil ?_)
    | (refine g_code ?_; first | refine ec_seq ?_ | refine ec_region ?_ | refine ec_skip ?_ | refine ec_ret ?_ | refine ec_condT rfl ?_ | refine ec_condF rfl ?_ | refine ec_condTH rfl (by assumption) ?_ | refine ec_condFH rfl (by assumption) ?_)
    | refine ek_seqN ?_ | refine ek_seqR ?_)
  refine sfin (.inr rfl) (by rfl) (by rfl) (by exact ⟨rfl, rfl, rfl⟩) (by rfl) (by rfl) (by rfl) (by first | rfl | (simp; done) | (simp [ints, prs]; done))
theorem evgrow (m : Nat) (h1 : 1 ≤ m) (h2 : m ≤ 1048576) : Ev cx 147 [.nils, .int .i64 (m : Nat)] [] (.sl 0 0 0) [⟨gz m, 2, 0, some 0, false⟩] := by
  have s1 : binV .sub (.int .i64 0) (.int .i64 0) = some (.int .i64 0) := b_sub (by omega) (by omega)
  have s2 : binV .sub (.int .i64 ((m : Nat) : Int)) (.int .i64 0) = some (.int .i64 (m : Nat)) := by rw [b_sub (by omega) (by omega), Int.sub_zero]
  have q1 : decide (((m : Nat) : Int) < 0) = false := decide_eq_false (by omega)
  have q2 : decide (((m : Nat) : Int) > 0) = true := decide_eq_true (by omega)
  refine has147.eev rfl rfl ?_
  unfold m147
  repeat' (first
    | refine ep_capN rfl ?_
    | refine ep_sliceN rfl rfl rfl (.inl rfl) (.inr ⟨_, rfl⟩) ?_
    | refine sp_appmk (mm := m) (l := gz m) rfl rfl rfl (by omega) (by omega) rfl rfl rfl ?_
    | refine ep_slice (p := 0) (q := 0) (o' := 0) (n' := 0) rfl rfl rfl (.inl ⟨rfl, rfl⟩) (.inr ⟨_, rfl⟩) ⟨by omega, by omega, by omega, rfl, by omega⟩ rfl rfl ?_
    | (refine g_op ?_; first
      | refine ep_mov rfl ?_
      | refine ep_bin rfl rfl (by first | exact s1 | exact s2 | exact b_add (by omega) (by omega) | exact b_sub (by omega) (by omega) | exact b_and (by omega) (by omega) | exact b_or (by omega) (by omega) | exact b_shr (by omega) | exact b_shl (by omega) (by omega) | exact b_lss | exact b_leq | exact b_gtr | exact b_geq | exact b_eql | exact b_neq) ?_
      | refine ep_lenS rfl ?_ | refine ep_lenN rfl ?_ | refine ep_lenE rfl ?_)
    | (refine g_ops ?_; first | refine eo_none ?_ | refine eo_nil ?_)
    | (refine g_code ?_; first | refine ec_seq ?_ | refine ec_region ?_ | refine ec_skip ?_ | refine ec_ret ?_ | refine ec_condT rfl ?_ | refine ec_condF rfl ?_ | refine ec_condTH rfl (by assumption) ?_ | refine ec_condFH rfl (by assumption) ?_)
    | refine ek_seqN ?_ | refine ek_seqR ?_)
  refine sfin (.inr rfl) (by rfl) (by rfl) (by exact ⟨rfl, rfl, rfl⟩) (by rfl) (by rfl) (by rfl) (by first | rfl | (simp; done) | (simp [ints, prs]; done))
-- slices.Concat[[]impl.Func,impl.Func]
def m131_0 : MC := (.seq (.region [⟨(.bin .lss (.t 11) (.t 10)), (some 12), none⟩] false) (.seq (.cond (.t 12) .skip (.exit 0)) (.seq (.block 1 (.seq (.region [⟨(.indexAddr 1 (.t 9) (.t 11)), (some 13), none⟩, ⟨(.load none (.t 13)), (some 14), none⟩, ⟨(.mov (.t 14)), (some 5), none⟩] false) (.seq (.region [⟨(.mov (.t 3)), (some 15), none⟩, ⟨(.mov (.t 5)), (some 16), none⟩, ⟨(.len (.t 16)), (some 17), none⟩, ⟨(.bin .add (.t 15) (.t 17)), (some 18), none⟩, ⟨(.mov (.t 18)), (some 3), none⟩] false) (.seq (.region [⟨(.mov (.t 3)), (some 19), none⟩, ⟨(.bin .lss (.t 19) (.k (.int .i64 0))), (some 20), none⟩] false) (.cond (.t 20) (.region [⟨.bad, (some 21), none⟩, ⟨.bad, none, none⟩] false) .skip))))) (.region [⟨(.bin .add (.t 11) (.k (.int .i64 1))), (some 22), none⟩, ⟨(.mov (.t 22)), (some 11), none⟩] false))))
def m131_1 : MC := (.seq (.region [⟨(.bin .lss (.t 27) (.t 26)), (some 28), none⟩] false) (.seq (.cond (.t 28) .skip (.exit 2)) (.seq (.block 3 (.seq (.region [⟨(.indexAddr 1 (.t 25) (.t 27)), (some 29), none⟩, ⟨(.load none (.t 29)), (some 30), none⟩, ⟨(.mov (.t 30)), (some 8), none⟩] false) (.region [⟨(.mov (.t 6)), (some 31), none⟩, ⟨(.mov (.t 8)), (some 32), none⟩, ⟨(.append 2 16 (.t 31) (.t 32)), (some 33), none⟩, ⟨(.mov (.t 33)), (some 6), none⟩] false))) (.region [⟨(.bin .add (.t 27) (.k (.int .i64 1))), (some 34), none⟩, ⟨(.mov (.t 34)), (some 27), none⟩] false))))
def m131 : MC := (.seq (.region [⟨(.mov (.k .nils)), (some 2), none⟩] false) (.seq (.region [⟨(.mov (.k (.int .i64 0))), (some 3), none⟩] false) (.seq (.seq (.region [⟨(.mov (.t 0)), (some 9), none⟩, ⟨(.len (.t 9)), (some 10), none⟩, ⟨(.mov (.k (.int .i64 0))), (some 11), none⟩] false) (.block 0 (.loop m131_0))) (.seq (.region [⟨(.mov (.t 3)), (some 23), none⟩, ⟨(.call 147 [(.k .nils), (.t 23)]), (some 24), none⟩, ⟨(.mov (.t 24)), (some 6), none⟩] false) (.seq (.seq (.region [⟨(.mov (.t 0)), (some 25), none⟩, ⟨(.len (.t 25)), (some 26), none⟩, ⟨(.mov (.k (.int .i64 0))), (some 27), none⟩] false) (.block 2 (.loop m131_1))) (.seq (.region [⟨(.mov (.t 6)), (some 35), none⟩, ⟨(.mov (.t 35)), (some 2), none⟩] false) .ret))))))
theorem has131 : Has cx 131 36 m131 [(.tmp 2)] :=
  ⟨⟨Try.f131, Try.f131.body.getD .skip, by kernel_rfl, by kernel_rfl, by kernel_rfl, by kernel_rfl, by kernel_rfl, by kernel_rfl⟩⟩
theorem lpcc0_1 (fs : List (Int × Int)) : LpS cx 36 2 m131_0 [(0, .sl 0 0 2), (3, .int .i64 (0 : Nat)), (9, .sl 0 0 2), (10, .int .i64 (2 : Nat)), (11, .int .i64 (0 : Nat))] [⟨[.sl 1 0 0, .sl 1 2 0], 1, 0, some 0, true⟩, ⟨fns fs, 2, 1, some 0, false⟩] (⟨.exit 0, [(0, .sl 0 0 2), (3, .int .i64 (0 : Nat))], [⟨[.sl 1 0 0, .sl 1 2 0], 1, 0, some 0, true⟩, ⟨fns fs, 2, 1, some 0, false⟩]⟩ : Out).x (⟨.exit 0, [(0, .sl 0 0 2), (3, .int .i64 (0 : Nat))], [⟨[.sl 1 0 0, .sl 1 2 0], 1, 0, some 0, true⟩, ⟨fns fs, 2, 1, some 0, false⟩]⟩ : Out).e (⟨.exit 0, [(0, .sl 0 0 2), (3, .int .i64 (0 : Nat))], [⟨[.sl 1 0 0, .sl 1 2 0], 1, 0, some 0, true⟩, ⟨fns fs, 2, 1, some 0, false⟩]⟩ : Out).h := by
  have l0 : decide (((0 : Nat) : Int) < (2 : Nat)) = true := by decide
  have l1 : decide (((0 + 1 : Nat) : Int) < (2 : Nat)) = true := by decide
  have l2 : decide (((0 + 1 + 1 : Nat) : Int) < (2 : Nat)) = false := by decide
  have a1 : binV .add (.int .i64 ((0 : Nat) : Int)) (.int .i64 ((0 : Nat) : Int)) = some (.int .i64 ((0 : Nat) : Int)) := b_addN (a := 0) (b := 0) (by omega)
  have g1 : decide (((0 : Nat) : Int) < 0) = false := by decide
  refine round_on (e2 := [(0, .sl 0 0 2), (3, .int .i64 (0 : Nat)), (9, .sl 0 0 2), (10, .int .i64 (2 : Nat)), (11, .int .i64 (0 + 1 : Nat))]) (h2 := [⟨[.sl 1 0 0, .sl 1 2 0], 1, 0, some 0, true⟩, ⟨fns fs, 2, 1, some 0, false⟩]) ?_ (round_on (e2 := [(0, .sl 0 0 2), (3, .int .i64 (0 : Nat)), (9, .sl 0 0 2), (10, .int .i64 (2 : Nat)), (11, .int .i64 (0 + 1 + 1 : Nat))]) (h2 := [⟨[.sl 1 0 0, .sl 1 2 0], 1, 0, some 0, true⟩, ⟨fns fs, 2, 1, some 0, false⟩]) ?_ (round_out ?_))
  · unfold m131_0
    repeat' (first
      | (refine g_op ?_; first
        | refine ep_mov rfl ?_ | refine ep_load1 rfl rfl rfl rfl ?_
        | refine ep_bin rfl rfl (by first | exact a1 | exact b_add (by omega) (by omega) | exact b_sub (by omega) (by omega) | exact b_and (by omega) (by omega) | exact b_or (by omega) (by omega) | exact b_shr (by omega) | exact b_shl (by omega) (by omega) | exact b_lss | exact b_leq | exact b_gtr | exact b_geq | exact b_eql | exact b_neq) ?_
        | refine ep_lenS rfl ?_ | refine ep_lenN rfl ?_ | refine ep_lenE rfl ?_ | refine sp_idx rfl rfl rfl (by omega) rfl ?_ | refine ep_loadS rfl rfl rfl (by first | exact ints_get (by omega) | exact zints_get (by omega) | exact fget (by omega) | assumption) ?_)
      | (refine g_ops ?_; first | refine eo_none ?_ | refine eo_nil ?_)
      | (refine g_code ?_; first | refine ec_seq ?_ | refine ec_region ?_ | refine ec_block ?_ | refine ec_skip ?_ | refine ec_exit ?_ | refine ec_condT rfl ?_ | refine ec_condF rfl ?_ | refine ec_condTH rfl (by assumption) ?_ | refine ec_condFH rfl (by assumption) ?_)
      | refine ek_seqN ?_ | refine ek_seqX ?_ | refine ek_blkN ?_ | refine ek_blkR ?_ | refine ek_blkX ?_ | refine ek_blkY rfl ?_)
    exact rnd_on (by rfl) (scmp2 (by rfl) (by rfl) (by exact ⟨rfl, rfl, rfl⟩) (by rfl) (by first | rfl | (simp; done) | (simp [ints, prs]; done)) (by rfl) (by first | rfl | (simp; done) | (simp [ints, prs]; done)))
  · unfold m131_0
    repeat' (first
      | (refine g_op ?_; first
        | refine ep_mov rfl ?_ | refine ep_load1 rfl rfl rfl rfl ?_
        | refine ep_bin rfl rfl (by first | exact a1 | exact b_add (by omega) (by omega) | exact b_sub (by omega) (by omega) | exact b_and (by omega) (by omega) | exact b_or (by omega) (by omega) | exact b_shr (by omega) | exact b_shl (by omega) (by omega) | exact b_lss | exact b_leq | exact b_gtr | exact b_geq | exact b_eql | exact b_neq) ?_
        | refine ep_lenS rfl ?_ | refine ep_lenN rfl ?_ | refine ep_lenE rfl ?_ | refine sp_idx rfl rfl rfl (by omega) rfl ?_ | refine ep_loadS rfl rfl rfl (by first | exact ints_get (by omega) | exact zints_get (by omega) | exact fget (by omega) | assumption) ?_)
      | (refine g_ops ?_; first | refine eo_none ?_ | refine eo_nil ?_)
      | (refine g_code ?_; first | refine ec_seq ?_ | refine ec_region ?_ | refine ec_block ?_ | refine ec_skip ?_ | refine ec_exit ?_ | refine ec_condT rfl ?_ | refine ec_condF rfl ?_ | refine ec_condTH rfl (by assumption) ?_ | refine ec_condFH rfl (by assumption) ?_)
      | refine ek_seqN ?_ | refine ek_seqX ?_ | refine ek_blkN ?_ | refine ek_blkR ?_ | refine ek_blkX ?_ | refine ek_blkY rfl ?_)
    exact rnd_on (by rfl) (scmp2 (by rfl) (by rfl) (by exact ⟨rfl, rfl, rfl⟩) (by rfl) (by first | rfl | (simp; done) | (simp [ints, prs]; done)) (by rfl) (by first | rfl | (simp; done) | (simp [ints, prs]; done)))
  · unfold m131_0
    repeat' (first
      | (refine g_op ?_; first
        | refine ep_mov rfl ?_ | refine ep_load1 rfl rfl rfl rfl ?_
        | refine ep_bin rfl rfl (by first | exact b_add (by omega) (by omega) | exact b_sub (by omega) (by omega) | exact b_and (by omega) (by omega) | exact b_or (by omega) (by omega) | exact b_shr (by omega) | exact b_shl (by omega) (by omega) | exact b_lss | exact b_leq | exact b_gtr | exact b_geq | exact b_eql | exact b_neq) ?_
        | refine ep_lenS rfl ?_ | refine ep_lenN rfl ?_ | refine ep_lenE rfl ?_ | refine sp_idx rfl rfl rfl (by omega) rfl ?_ | refine ep_loadS rfl rfl rfl (by first | exact ints_get (by omega) | exact zints_get (by omega) | exact fget (by omega) | assumption) ?_)
      | (refine g_ops ?_; first | refine eo_none ?_ | refine eo_nil ?_)
      | (refine g_code ?_; first | refine ec_seq ?_ | refine ec_region ?_ | refine ec_block ?_ | refine ec_skip ?_ | refine ec_exit ?_ | refine ec_condT rfl ?_ | refine ec_condF rfl ?_ | refine ec_condTH rfl (by assumption) ?_ | refine ec_condFH rfl (by assumption) ?_)
      | refine ek_seqN ?_ | refine ek_seqX ?_ | refine ek_blkN ?_ | refine ek_blkR ?_ | refine ek_blkX ?_ | refine ek_blkY rfl ?_)
    exact rnd_out (by rfl) (by simp) (scmp2 (by rfl) (by rfl) (by exact ⟨rfl, rfl, rfl⟩) (by rfl) (by first | rfl | (simp; done) | (simp [ints, prs]; done)) (by rfl) (by first | rfl | (simp; done) | (simp [ints, prs]; done)))
theorem lpcc1_1 (fs : List (Int × Int)) : LpS cx 36 2 m131_1 [(6, .nils), (25, .sl 0 0 2), (26, .int .i64 (2 : Nat)), (27, .int .i64 (0 : Nat))] [⟨[.sl 1 0 0, .sl 1 2 0], 1, 0, some 0, true⟩, ⟨fns fs, 2, 1, some 0, false⟩] (⟨.exit 2, [(6, .nils)], [⟨[.sl 1 0 0, .sl 1 2 0], 1, 0, some 0, true⟩, ⟨fns fs, 2, 1, some 0, false⟩]⟩ : Out).x (⟨.exit 2, [(6, .nils)], [⟨[.sl 1 0 0, .sl 1 2 0], 1, 0, some 0, true⟩, ⟨fns fs, 2, 1, some 0, false⟩]⟩ : Out).e (⟨.exit 2, [(6, .nils)], [⟨[.sl 1 0 0, .sl 1 2 0], 1, 0, some 0, true⟩, ⟨fns fs, 2, 1, some 0, false⟩]⟩ : Out).h := by
  have l0 : decide (((0 : Nat) : Int) < (2 : Nat)) = true := by decide
  have l1 : decide (((0 + 1 : Nat) : Int) < (2 : Nat)) = true := by decide
  have l2 : decide (((0 + 1 + 1 : Nat) : Int) < (2 : Nat)) = false := by decide

  refine round_on (e2 := [(6, .nils), (25, .sl 0 0 2), (26, .int .i64 (2 : Nat)), (27, .int .i64 (0 + 1 : Nat))]) (h2 := [⟨[.sl 1 0 0, .sl 1 2 0], 1, 0, some 0, true⟩, ⟨fns fs, 2, 1, some 0, false⟩]) ?_ (round_on (e2 := [(6, .nils), (25, .sl 0 0 2), (26, .int .i64 (2 : Nat)), (27, .int .i64 (0 + 1 + 1 : Nat))]) (h2 := [⟨[.sl 1 0 0, .sl 1 2 0], 1, 0, some 0, true⟩, ⟨fns fs, 2, 1, some 0, false⟩]) ?_ (round_out ?_))
  · unfold m131_1
    repeat' (first
      | refine ep_appE rfl (.inl rfl) rfl (rowOf_at (l := []) rfl (by simp)) ?_
      | (refine g_op ?_; first
        | refine ep_mov rfl ?_ | refine ep_load1 rfl rfl rfl rfl ?_
        | refine ep_bin rfl rfl (by first | exact b_add (by omega) (by omega) | exact b_sub (by omega) (by omega) | exact b_and (by omega) (by omega) | exact b_or (by omega) (by omega) | exact b_shr (by omega) | exact b_shl (by omega) (by omega) | exact b_lss | exact b_leq | exact b_gtr | exact b_geq | exact b_eql | exact b_neq) ?_
        | refine sp_push0 rfl (by first | exact .inl rfl | exact .inr rfl) rfl rfl rfl rfl rfl (by decide) rfl rfl rfl ?_ | refine sp_push rfl rfl rfl rfl rfl rfl rfl (by first | exact ints_len _ | exact prs_len _ _ | exact zints_len _) (by omega) (Nat.zero_le _) rfl rfl rfl rfl rfl ?_
        | refine sp_idx rfl rfl rfl (by omega) rfl ?_ | refine ep_loadS rfl rfl rfl (by first | exact ints_get (by omega) | exact zints_get (by omega) | exact fget (by omega) | assumption) ?_)
      | (refine g_ops ?_; first | refine eo_none ?_ | refine eo_nil ?_)
      | (refine g_code ?_; first | refine ec_seq ?_ | refine ec_region ?_ | refine ec_block ?_ | refine ec_skip ?_ | refine ec_exit ?_ | refine ec_condT rfl ?_ | refine ec_condF rfl ?_ | refine ec_condTH rfl (by assumption) ?_ | refine ec_condFH rfl (by assumption) ?_)
      | refine ek_seqN ?_ | refine ek_seqX ?_ | refine ek_blkN ?_ | refine ek_blkR ?_ | refine ek_blkX ?_ | refine ek_blkY rfl ?_)
    exact rnd_on (by rfl) (scmp2 (by rfl) (by rfl) (by exact ⟨rfl, rfl, rfl⟩) (by rfl) (by first | rfl | (simp; done) | (simp [ints, prs]; done)) (by rfl) (by first | rfl | (simp; done) | (simp [ints, prs]; done)))
  · unfold m131_1
    repeat' (first
      | refine ep_appE rfl (.inl rfl) rfl (rowOf_at (l := []) rfl (by simp)) ?_
      | (refine g_op ?_; first
        | refine ep_mov rfl ?_ | refine ep_load1 rfl rfl rfl rfl ?_
        | refine ep_bin rfl rfl (by first | exact b_add (by omega) (by omega) | exact b_sub (by omega) (by omega) | exact b_and (by omega) (by omega) | exact b_or (by omega) (by omega) | exact b_shr (by omega) | exact b_shl (by omega) (by omega) | exact b_lss | exact b_leq | exact b_gtr | exact b_geq | exact b_eql | exact b_neq) ?_
        | refine sp_push0 rfl (by first | exact .inl rfl | exact .inr rfl) rfl rfl rfl rfl rfl (by decide) rfl rfl rfl ?_ | refine sp_push rfl rfl rfl rfl rfl rfl rfl (by first | exact ints_len _ | exact prs_len _ _ | exact zints_len _) (by omega) (Nat.zero_le _) rfl rfl rfl rfl rfl ?_
        | refine sp_idx rfl rfl rfl (by omega) rfl ?_ | refine ep_loadS rfl rfl rfl (by first | exact ints_get (by omega) | exact zints_get (by omega) | exact fget (by omega) | assumption) ?_)
      | (refine g_ops ?_; first | refine eo_none ?_ | refine eo_nil ?_)
      | (refine g_code ?_; first | refine ec_seq ?_ | refine ec_region ?_ | refine ec_block ?_ | refine ec_skip ?_ | refine ec_exit ?_ | refine ec_condT rfl ?_ | refine ec_condF rfl ?_ | refine ec_condTH rfl (by assumption) ?_ | refine ec_condFH rfl (by assumption) ?_)
      | refine ek_seqN ?_ | refine ek_seqX ?_ | refine ek_blkN ?_ | refine ek_blkR ?_ | refine ek_blkX ?_ | refine ek_blkY rfl ?_)
    exact rnd_on (by rfl) (scmp2 (by rfl) (by rfl) (by exact ⟨rfl, rfl, rfl⟩) (by rfl) (by first | rfl | (simp; done) | (simp [ints, prs]; done)) (by rfl) (by first | rfl | (simp; done) | (simp [ints, prs]; done)))
  · unfold m131_1
    repeat' (first
      | (refine g_op ?_; first
        | refine ep_mov rfl ?_ | refine ep_load1 rfl rfl rfl rfl ?_
        | refine ep_bin rfl rfl (by first | exact b_add (by omega) (by omega) | exact b_sub (by omega) (by omega) | exact b_and (by omega) (by omega) | exact b_or (by omega) (by omega) | exact b_shr (by omega) | exact b_shl (by omega) (by omega) | exact b_lss | exact b_leq | exact b_gtr | exact b_geq | exact b_eql | exact b_neq) ?_
        | refine sp_push0 rfl (by first | exact .inl rfl | exact .inr rfl) rfl rfl rfl rfl rfl (by decide) rfl rfl rfl ?_ | refine sp_push rfl rfl rfl rfl rfl rfl rfl (by first | exact ints_len _ | exact prs_len _ _ | exact zints_len _) (by omega) (Nat.zero_le _) rfl rfl rfl rfl rfl ?_
        | refine sp_idx rfl rfl rfl (by omega) rfl ?_ | refine ep_loadS rfl rfl rfl (by first | exact ints_get (by omega) | exact zints_get (by omega) | exact fget (by omega) | assumption) ?_)
      | (refine g_ops ?_; first | refine eo_none ?_ | refine eo_nil ?_)
      | (refine g_code ?_; first | refine ec_seq ?_ | refine ec_region ?_ | refine ec_block ?_ | refine ec_skip ?_ | refine ec_exit ?_ | refine ec_condT rfl ?_ | refine ec_condF rfl ?_ | refine ec_condTH rfl (by assumption) ?_ | refine ec_condFH rfl (by assumption) ?_)
      | refine ek_seqN ?_ | refine ek_seqX ?_ | refine ek_blkN ?_ | refine ek_blkR ?_ | refine ek_blkX ?_ | refine ek_blkY rfl ?_)
    exact rnd_out (by rfl) (by simp) (scmp2 (by rfl) (by rfl) (by exact ⟨rfl, rfl, rfl⟩) (by rfl) (by first | rfl | (simp; done) | (simp [ints, prs]; done)) (by rfl) (by first | rfl | (simp; done) | (simp [ints, prs]; done)))
theorem evcc_1 (fs : List (Int × Int)) : Ev cx 131 [.sl 0 0 2] [⟨[.sl 1 0 0, .sl 1 2 0], 1, 0, some 0, true⟩, ⟨fns fs, 2, 1, some 0, false⟩] (.nils) [⟨[.sl 1 0 0, .sl 1 2 0], 1, 0, some 0, true⟩, ⟨fns fs, 2, 1, some 0, false⟩] := by
  have lp0 := lpcc0_1 fs
  have lp1 := lpcc1_1 fs
  have e1 := evgrow0
  refine has131.eev rfl rfl ?_
  unfold m131
  repeat' (first
    | refine sc_loop lp0 rfl rfl ⟨rfl, rfl, rfl⟩ rfl rfl rfl ?_
    | refine sc_loop lp1 rfl rfl ⟨rfl, rfl, rfl⟩ rfl rfl rfl ?_
    | (refine g_op ?_; first
      | refine ep_mov rfl ?_
      | refine ep_call0 rfl (by first | exact e1) rfl rfl ?_
      | refine sp_call rfl rfl rfl rfl (by first | exact e1) ⟨rfl, rfl, rfl, rfl⟩ rfl rfl rfl ?_
      | refine ep_lenS rfl ?_ | refine ep_lenN rfl ?_ | refine ep_lenE rfl ?_)
    | (refine g_ops ?_; first | refine eo_none ?_ | refine eo_nil ?_)
    | (refine g_code ?_; first | refine ec_seq ?_ | refine ec_region ?_ | refine ec_block ?_ | refine ec_ret ?_)
    | refine ek_seqN ?_ | refine ek_seqX ?_ | refine ek_seqR ?_ | refine ek_blkN ?_ | refine ek_blkR ?_ | refine ek_blkX ?_ | refine ek_blkY rfl ?_)
  refine sfin (.inr rfl) (by rfl) (by rfl) (by exact ⟨rfl, rfl, rfl⟩) (by rfl) (by rfl) (by rfl) (by first | rfl | (simp; done) | (simp [ints, prs]; done))
theorem lpcc0_n (fs : List (Int × Int)) (k : Nat) (hk : k < fs.length) (h2 : 2 ≤ fs.length) (hln : fs.length ≤ 1048576) : LpS cx 36 2 m131_0 [(0, .sl 0 0 2), (3, .int .i64 (0 : Nat)), (9, .sl 0 0 2), (10, .int .i64 (2 : Nat)), (11, .int .i64 (0 : Nat))] [⟨[.sl 1 0 k, .sl 1 ((k + 1) * 2) (fs.length - k - 1)], 1, 0, some 0, true⟩, ⟨fns fs, 2, 1, some 0, false⟩] (⟨.exit 0, [(0, .sl 0 0 2), (3, .int .i64 (k + (fs.length - k - 1) : Nat))], [⟨[.sl 1 0 k, .sl 1 ((k + 1) * 2) (fs.length - k - 1)], 1, 0, some 0, true⟩, ⟨fns fs, 2, 1, some 0, false⟩]⟩ : Out).x (⟨.exit 0, [(0, .sl 0 0 2), (3, .int .i64 (k + (fs.length - k - 1) : Nat))], [⟨[.sl 1 0 k, .sl 1 ((k + 1) * 2) (fs.length - k - 1)], 1, 0, some 0, true⟩, ⟨fns fs, 2, 1, some 0, false⟩]⟩ : Out).e (⟨.exit 0, [(0, .sl 0 0 2), (3, .int .i64 (k + (fs.length - k - 1) : Nat))], [⟨[.sl 1 0 k, .sl 1 ((k + 1) * 2) (fs.length - k - 1)], 1, 0, some 0, true⟩, ⟨fns fs, 2, 1, some 0, false⟩]⟩ : Out).h := by
  have l0 : decide (((0 : Nat) : Int) < (2 : Nat)) = true := by decide
  have l1 : decide (((0 + 1 : Nat) : Int) < (2 : Nat)) = true := by decide
  have l2 : decide (((0 + 1 + 1 : Nat) : Int) < (2 : Nat)) = false := by decide
  have a1 : binV .add (.int .i64 ((0 : Nat) : Int)) (.int .i64 (k : Nat)) = some (.int .i64 (k : Nat)) := by
    have := b_addN (a := 0) (b := k) (by omega)
    rwa [Nat.zero_add] at this
  have a2 := b_addN (a := k) (b := fs.length - k - 1) (by omega)
  have g1 : decide (((k : Nat) : Int) < 0) = false := decide_eq_false (by omega)
  have g2 : decide (((k + (fs.length - k - 1) : Nat) : Int) < 0) = false := decide_eq_false (by omega)
  refine round_on (e2 := [(0, .sl 0 0 2), (3, .int .i64 (k : Nat)), (9, .sl 0 0 2), (10, .int .i64 (2 : Nat)), (11, .int .i64 (0 + 1 : Nat))]) (h2 := [⟨[.sl 1 0 k, .sl 1 ((k + 1) * 2) (fs.length - k - 1)], 1, 0, some 0, true⟩, ⟨fns fs, 2, 1, some 0, false⟩]) ?_ (round_on (e2 := [(0, .sl 0 0 2), (3, .int .i64 (k + (fs.length - k - 1) : Nat)), (9, .sl 0 0 2), (10, .int .i64 (2 : Nat)), (11, .int .i64 (0 + 1 + 1 : Nat))]) (h2 := [⟨[.sl 1 0 k, .sl 1 ((k + 1) * 2) (fs.length - k - 1)], 1, 0, some 0, true⟩, ⟨fns fs, 2, 1, some 0, false⟩]) ?_ (round_out ?_))
  · unfold m131_0
    repeat' (first
      | (refine g_op ?_; first
        | refine ep_mov rfl ?_ | refine ep_load1 rfl rfl rfl rfl ?_
        | refine ep_bin rfl rfl (by first | exact a1 | exact a2 | exact b_add (by omega) (by omega) | exact b_sub (by omega) (by omega) | exact b_and (by omega) (by omega) | exact b_or (by omega) (by omega) | exact b_shr (by omega) | exact b_shl (by omega) (by omega) | exact b_lss | exact b_leq | exact b_gtr | exact b_geq | exact b_eql | exact b_neq) ?_
        | refine ep_lenS rfl ?_ | refine ep_lenN rfl ?_ | refine ep_lenE rfl ?_ | refine sp_idx rfl rfl rfl (by omega) rfl ?_ | refine ep_loadS rfl rfl rfl (by first | exact ints_get (by omega) | exact zints_get (by omega) | exact fget (by omega) | assumption) ?_)
      | (refine g_ops ?_; first | refine eo_none ?_ | refine eo_nil ?_)
      | (refine g_code ?_; first | refine ec_seq ?_ | refine ec_region ?_ | refine ec_block ?_ | refine ec_skip ?_ | refine ec_exit ?_ | refine ec_condT rfl ?_ | refine ec_condF rfl ?_ | refine ec_condTH rfl (by assumption) ?_ | refine ec_condFH rfl (by assumption) ?_)
      | refine ek_seqN ?_ | refine ek_seqX ?_ | refine ek_blkN ?_ | refine ek_blkR ?_ | refine ek_blkX ?_ | refine ek_blkY rfl ?_)
    exact rnd_on (by rfl) (scmp2 (by rfl) (by rfl) (by exact ⟨rfl, rfl, rfl⟩) (by rfl) (by first | rfl | (simp; done) | (simp [ints, prs]; done)) (by rfl) (by first | rfl | (simp; done) | (simp [ints, prs]; done)))
  · unfold m131_0
    repeat' (first
      | (refine g_op ?_; first
        | refine ep_mov rfl ?_ | refine ep_load1 rfl rfl rfl rfl ?_
        | refine ep_bin rfl rfl (by first | exact a1 | exact a2 | exact b_add (by omega) (by omega) | exact b_sub (by omega) (by omega) | exact b_and (by omega) (by omega) | exact b_or (by omega) (by omega) | exact b_shr (by omega) | exact b_shl (by omega) (by omega) | exact b_lss | exact b_leq | exact b_gtr | exact b_geq | exact b_eql | exact b_neq) ?_
        | refine ep_lenS rfl ?_ | refine ep_lenN rfl ?_ | refine ep_lenE rfl ?_ | refine sp_idx rfl rfl rfl (by omega) rfl ?_ | refine ep_loadS rfl rfl rfl (by first | exact ints_get (by omega) | exact zints_get (by omega) | exact fget (by omega) | assumption) ?_)
      | (refine g_ops ?_; first | refine eo_none ?_ | refine eo_nil ?_)
      | (refine g_code ?_; first | refine ec_seq ?_ | refine ec_region ?_ | refine ec_block ?_ | refine ec_skip ?_ | refine ec_exit ?_ | refine ec_condT rfl ?_ | refine ec_condF rfl ?_ | refine ec_condTH rfl (by assumption) ?_ | refine ec_condFH rfl (by assumption) ?_)
      | refine ek_seqN ?_ | refine ek_seqX ?_ | refine ek_blkN ?_ | refine ek_blkR ?_ | refine ek_blkX ?_ | refine ek_blkY rfl ?_)
    exact rnd_on (by rfl) (scmp2 (by rfl) (by rfl) (by exact ⟨rfl, rfl, rfl⟩) (by rfl) (by first | rfl | (simp; done) | (simp [ints, prs]; done)) (by rfl) (by first | rfl | (simp; done) | (simp [ints, prs]; done)))
  · unfold m131_0
    repeat' (first
      | (refine g_op ?_; first
        | refine ep_mov rfl ?_ | refine ep_load1 rfl rfl rfl rfl ?_
        | refine ep_bin rfl rfl (by first | exact b_add (by omega) (by omega) | exact b_sub (by omega) (by omega) | exact b_and (by omega) (by omega) | exact b_or (by omega) (by omega) | exact b_shr (by omega) | exact b_shl (by omega) (by omega) | exact b_lss | exact b_leq | exact b_gtr | exact b_geq | exact b_eql | exact b_neq) ?_
        | refine ep_lenS rfl ?_ | refine ep_lenN rfl ?_ | refine ep_lenE rfl ?_ | refine sp_idx rfl rfl rfl (by omega) rfl ?_ | refine ep_loadS rfl rfl rfl (by first | exact ints_get (by omega) | exact zints_get (by omega) | exact fget (by omega) | assumption) ?_)
      | (refine g_ops ?_; first | refine eo_none ?_ | refine eo_nil ?_)
      | (refine g_code ?_; first | refine ec_seq ?_ | refine ec_region ?_ | refine ec_block ?_ | refine ec_skip ?_ | refine ec_exit ?_ | refine ec_condT rfl ?_ | refine ec_condF rfl ?_ | refine ec_condTH rfl (by assumption) ?_ | refine ec_condFH rfl (by assumption) ?_)
      | refine ek_seqN ?_ | refine ek_seqX ?_ | refine ek_blkN ?_ | refine ek_blkR ?_ | refine ek_blkX ?_ | refine ek_blkY rfl ?_)
    exact rnd_out (by rfl) (by simp) (scmp2 (by rfl) (by rfl) (by exact ⟨rfl, rfl, rfl⟩) (by rfl) (by first | rfl | (simp; done) | (simp [ints, prs]; done)) (by rfl) (by first | rfl | (simp; done) | (simp [ints, prs]; done)))
theorem lpcc1_n (fs : List (Int × Int)) (k : Nat) (hk : k < fs.length) (h2 : 2 ≤ fs.length) (hln : fs.length ≤ 1048576) : LpS cx 36 2 m131_1 [(6, .sl 2 0 0), (25, .sl 0 0 2), (26, .int .i64 (2 : Nat)), (27, .int .i64 (0 : Nat))] [⟨[.sl 1 0 k, .sl 1 ((k + 1) * 2) (fs.length - k - 1)], 1, 0, some 0, true⟩, ⟨fns fs, 2, 1, some 0, false⟩, ⟨gz (k + (fs.length - k - 1)), 2, 2, some 0, false⟩] (⟨.exit 2, [(6, .sl 2 0 (k + (fs.length - k - 1)))], [⟨[.sl 1 0 k, .sl 1 ((k + 1) * 2) (fs.length - k - 1)], 1, 0, some 0, true⟩, ⟨fns fs, 2, 1, some 0, false⟩, ⟨fns (wo fs k), 2, 2, some 0, false⟩]⟩ : Out).x (⟨.exit 2, [(6, .sl 2 0 (k + (fs.length - k - 1)))], [⟨[.sl 1 0 k, .sl 1 ((k + 1) * 2) (fs.length - k - 1)], 1, 0, some 0, true⟩, ⟨fns fs, 2, 1, some 0, false⟩, ⟨fns (wo fs k), 2, 2, some 0, false⟩]⟩ : Out).e (⟨.exit 2, [(6, .sl 2 0 (k + (fs.length - k - 1)))], [⟨[.sl 1 0 k, .sl 1 ((k + 1) * 2) (fs.length - k - 1)], 1, 0, some 0, true⟩, ⟨fns fs, 2, 1, some 0, false⟩, ⟨fns (wo fs k), 2, 2, some 0, false⟩]⟩ : Out).h := by
  have l0 : decide (((0 : Nat) : Int) < (2 : Nat)) = true := by decide
  have l1 : decide (((0 + 1 : Nat) : Int) < (2 : Nat)) = true := by decide
  have l2 : decide (((0 + 1 + 1 : Nat) : Int) < (2 : Nat)) = false := by decide
  have hf0 : [] ++ ((fns fs).drop 0).take (k * 2) = fns (fs.take k) := by rw [List.nil_append, List.drop_zero, fns_take]
  have hf1 : (((fns fs).drop 0).take (k * 2)).length = k * 2 := by rw [List.drop_zero, fns_take, fns_len, List.length_take, Nat.min_eq_left (by omega)]
  have hr : ((fns fs).drop ((k + 1) * 2)).take ((fs.length - k - 1) * 2) = fns (fs.drop (k + 1)) := by
    rw [fns_drop, fns_take, List.take_of_length_le (by simp; omega)]
  have hf2 : fns (fs.take k) ++ ((fns fs).drop ((k + 1) * 2)).take ((fs.length - k - 1) * 2) = fns (wo fs k) := by rw [hr, fns_app]; rfl
  have hf3 : (((fns fs).drop ((k + 1) * 2)).take ((fs.length - k - 1) * 2)).length = (fs.length - k - 1) * 2 := by rw [hr, fns_len, List.length_drop]; omega
  have hf5 : (fns (fs.take k)).length = k * 2 := by rw [fns_len, List.length_take, Nat.min_eq_left (by omega)]
  have hf4 : (fns (fs.take k)).take (k * 2) = fns (fs.take k) := List.take_of_length_le (by omega)
  refine round_on (e2 := [(6, .sl 2 0 k), (25, .sl 0 0 2), (26, .int .i64 (2 : Nat)), (27, .int .i64 (0 + 1 : Nat))]) (h2 := [⟨[.sl 1 0 k, .sl 1 ((k + 1) * 2) (fs.length - k - 1)], 1, 0, some 0, true⟩, ⟨fns fs, 2, 1, some 0, false⟩, ⟨fns (fs.take k), 2, 2, some 0, false⟩]) ?_ (round_on (e2 := [(6, .sl 2 0 (k + (fs.length - k - 1))), (25, .sl 0 0 2), (26, .int .i64 (2 : Nat)), (27, .int .i64 (0 + 1 + 1 : Nat))]) (h2 := [⟨[.sl 1 0 k, .sl 1 ((k + 1) * 2) (fs.length - k - 1)], 1, 0, some 0, true⟩, ⟨fns fs, 2, 1, some 0, false⟩, ⟨fns (wo fs k), 2, 2, some 0, false⟩]) ?_ (round_out ?_))
  · unfold m131_1
    repeat' (first
      | refine sp_appG (l1 := []) rfl rfl rfl (by simp) (rowOf_at rfl rfl) hf0 rfl hf1 (by omega) (.inr ⟨_, _, _, rfl, rfl, rfl⟩) (Nat.zero_le _) rfl rfl rfl rfl ?_
      | (refine g_op ?_; first
        | refine ep_mov rfl ?_ | refine ep_load1 rfl rfl rfl rfl ?_
        | refine ep_bin rfl rfl (by first | exact b_add (by omega) (by omega) | exact b_sub (by omega) (by omega) | exact b_and (by omega) (by omega) | exact b_or (by omega) (by omega) | exact b_shr (by omega) | exact b_shl (by omega) (by omega) | exact b_lss | exact b_leq | exact b_gtr | exact b_geq | exact b_eql | exact b_neq) ?_
        | refine sp_push0 rfl (by first | exact .inl rfl | exact .inr rfl) rfl rfl rfl rfl rfl (by decide) rfl rfl rfl ?_ | refine sp_push rfl rfl rfl rfl rfl rfl rfl (by first | exact ints_len _ | exact prs_len _ _ | exact zints_len _) (by omega) (Nat.zero_le _) rfl rfl rfl rfl rfl ?_
        | refine sp_idx rfl rfl rfl (by omega) rfl ?_ | refine ep_loadS rfl rfl rfl (by first | exact ints_get (by omega) | exact zints_get (by omega) | exact fget (by omega) | assumption) ?_)
      | (refine g_ops ?_; first | refine eo_none ?_ | refine eo_nil ?_)
      | (refine g_code ?_; first | refine ec_seq ?_ | refine ec_region ?_ | refine ec_block ?_ | refine ec_skip ?_ | refine ec_exit ?_ | refine ec_condT rfl ?_ | refine ec_condF rfl ?_ | refine ec_condTH rfl (by assumption) ?_ | refine ec_condFH rfl (by assumption) ?_)
      | refine ek_seqN ?_ | refine ek_seqX ?_ | refine ek_blkN ?_ | refine ek_blkR ?_ | refine ek_blkX ?_ | refine ek_blkY rfl ?_)
    exact rnd_on (by rfl) (scmp2 (by rfl) (by rfl) (by exact ⟨rfl, rfl, rfl⟩) (by rfl) (by first | rfl | (rw [Nat.zero_add]; rfl) | simp) (by rfl) (by first | rfl | (rw [Nat.zero_add]; rfl) | simp))
  · unfold m131_1
    repeat' (first
      | refine sp_appG rfl rfl rfl hf4 (rowOf_at rfl rfl) hf2 hf5 hf3 (by omega) (.inr ⟨_, _, _, rfl, rfl, rfl⟩) (Nat.zero_le _) rfl rfl rfl rfl ?_
      | (refine g_op ?_; first
        | refine ep_mov rfl ?_ | refine ep_load1 rfl rfl rfl rfl ?_
        | refine ep_bin rfl rfl (by first | exact b_add (by omega) (by omega) | exact b_sub (by omega) (by omega) | exact b_and (by omega) (by omega) | exact b_or (by omega) (by omega) | exact b_shr (by omega) | exact b_shl (by omega) (by omega) | exact b_lss | exact b_leq | exact b_gtr | exact b_geq | exact b_eql | exact b_neq) ?_
        | refine sp_push0 rfl (by first | exact .inl rfl | exact .inr rfl) rfl rfl rfl rfl rfl (by decide) rfl rfl rfl ?_ | refine sp_push rfl rfl rfl rfl rfl rfl rfl (by first | exact ints_len _ | exact prs_len _ _ | exact zints_len _) (by omega) (Nat.zero_le _) rfl rfl rfl rfl rfl ?_
        | refine sp_idx rfl rfl rfl (by omega) rfl ?_ | refine ep_loadS rfl rfl rfl (by first | exact ints_get (by omega) | exact zints_get (by omega) | exact fget (by omega) | assumption) ?_)
      | (refine g_ops ?_; first | refine eo_none ?_ | refine eo_nil ?_)
      | (refine g_code ?_; first | refine ec_seq ?_ | refine ec_region ?_ | refine ec_block ?_ | refine ec_skip ?_ | refine ec_exit ?_ | refine ec_condT rfl ?_ | refine ec_condF rfl ?_ | refine ec_condTH rfl (by assumption) ?_ | refine ec_condFH rfl (by assumption) ?_)
      | refine ek_seqN ?_ | refine ek_seqX ?_ | refine ek_blkN ?_ | refine ek_blkR ?_ | refine ek_blkX ?_ | refine ek_blkY rfl ?_)
    exact rnd_on (by rfl) (scmp2 (by rfl) (by rfl) (by exact ⟨rfl, rfl, rfl⟩) (by rfl) (by first | rfl | (simp; done) | (simp [ints, prs]; done)) (by rfl) (by first | rfl | (simp; done) | (simp [ints, prs]; done)))
  · unfold m131_1
    repeat' (first
      | (refine g_op ?_; first
        | refine ep_mov rfl ?_ | refine ep_load1 rfl rfl rfl rfl ?_
        | refine ep_bin rfl rfl (by first | exact b_add (by omega) (by omega) | exact b_sub (by omega) (by omega) | exact b_and (by omega) (by omega) | exact b_or (by omega) (by omega) | exact b_shr (by omega) | exact b_shl (by omega) (by omega) | exact b_lss | exact b_leq | exact b_gtr | exact b_geq | exact b_eql | exact b_neq) ?_
        | refine sp_push0 rfl (by first | exact .inl rfl | exact .inr rfl) rfl rfl rfl rfl rfl (by decide) rfl rfl rfl ?_ | refine sp_push rfl rfl rfl rfl rfl rfl rfl (by first | exact ints_len _ | exact prs_len _ _ | exact zints_len _) (by omega) (Nat.zero_le _) rfl rfl rfl rfl rfl ?_
        | refine sp_idx rfl rfl rfl (by omega) rfl ?_ | refine ep_loadS rfl rfl rfl (by first | exact ints_get (by omega) | exact zints_get (by omega) | exact fget (by omega) | assumption) ?_)
      | (refine g_ops ?_; first | refine eo_none ?_ | refine eo_nil ?_)
      | (refine g_code ?_; first | refine ec_seq ?_ | refine ec_region ?_ | refine ec_block ?_ | refine ec_skip ?_ | refine ec_exit ?_ | refine ec_condT rfl ?_ | refine ec_condF rfl ?_ | refine ec_condTH rfl (by assumption) ?_ | refine ec_condFH rfl (by assumption) ?_)
      | refine ek_seqN ?_ | refine ek_seqX ?_ | refine ek_blkN ?_ | refine ek_blkR ?_ | refine ek_blkX ?_ | refine ek_blkY rfl ?_)
    exact rnd_out (by rfl) (by simp) (scmp2 (by rfl) (by rfl) (by exact ⟨rfl, rfl, rfl⟩) (by rfl) (by first | rfl | (simp; done) | (simp [ints, prs]; done)) (by rfl) (by first | rfl | (simp; done) | (simp [ints, prs]; done)))
theorem evcc_n (fs : List (Int × Int)) (k : Nat) (hk : k < fs.length) (h2 : 2 ≤ fs.length) (hln : fs.length ≤ 1048576) : Ev cx 131 [.sl 0 0 2] [⟨[.sl 1 0 k, .sl 1 ((k + 1) * 2) (fs.length - k - 1)], 1, 0, some 0, true⟩, ⟨fns fs, 2, 1, some 0, false⟩] (.sl 2 0 (k + (fs.length - k - 1))) [⟨[.sl 1 0 k, .sl 1 ((k + 1) * 2) (fs.length - k - 1)], 1, 0, some 0, true⟩, ⟨fns fs, 2, 1, some 0, false⟩, ⟨fns (wo fs k), 2, 2, some 0, false⟩] := by
  have lp0 := lpcc0_n fs k hk h2 hln
  have lp1 := lpcc1_n fs k hk h2 hln
  have e1 := evgrow (k + (fs.length - k - 1)) (by omega) (by omega)
  refine has131.eev rfl rfl ?_
  unfold m131
  repeat' (first
    | refine sc_loop lp0 rfl rfl ⟨rfl, rfl, rfl⟩ rfl rfl rfl ?_
    | refine sc_loop lp1 rfl rfl ⟨rfl, rfl, rfl⟩ rfl rfl rfl ?_
    | (refine g_op ?_; first
      | refine ep_mov rfl ?_
      | refine ep_call0 rfl (by first | exact e1) rfl rfl ?_
      | refine sp_call rfl rfl rfl rfl (by first | exact e1) ⟨rfl, rfl, rfl, rfl⟩ rfl rfl rfl ?_
      | refine ep_lenS rfl ?_ | refine ep_lenN rfl ?_ | refine ep_lenE rfl ?_)
    | (refine g_ops ?_; first | refine eo_none ?_ | refine eo_nil ?_)
    | (refine g_code ?_; first | refine ec_seq ?_ | refine ec_region ?_ | refine ec_block ?_ | refine ec_ret ?_)
    | refine ek_seqN ?_ | refine ek_seqX ?_ | refine ek_seqR ?_ | refine ek_blkN ?_ | refine ek_blkR ?_ | refine ek_blkX ?_ | refine ek_blkY rfl ?_)
  refine sfin (.inr rfl) (by rfl) (by rfl) (by exact ⟨rfl, rfl, rfl⟩) (by rfl) (by rfl) (by rfl) (by first | rfl | (simp; done) | (simp [ints, prs]; done))
-- impl.without
def m91 : MC := (.seq (.region [⟨(.mov (.k .nils)), (some 4), none⟩] false) (.seq (.region [⟨(.mov (.t 0)), (some 5), none⟩, ⟨(.mov (.t 1)), (some 6), none⟩, ⟨(.slice 2 (.t 5) none (some (.t 6))), (some 7), none⟩, ⟨(.mov (.t 0)), (some 8), none⟩, ⟨(.mov (.t 1)), (some 9), none⟩, ⟨(.bin .add (.t 9) (.k (.int .i64 1))), (some 10), none⟩, ⟨(.slice 2 (.t 8) (some (.t 10)) none), (some 11), none⟩, ⟨(.bslice 1 [.nils, .nils] 2 [(0, (1, (.t 7))), (1, (1, (.t 11)))]), (some 12), none⟩, ⟨(.callw 131 [(.t 12)]), (some 13), none⟩, ⟨(.mov (.t 13)), (some 4), none⟩] true) .ret))
theorem has91 : Has cx 91 14 m91 [(.tmp 4)] :=
  ⟨⟨Try.f91, Try.f91.body.getD .skip, by kernel_rfl, by kernel_rfl, by kernel_rfl, by kernel_rfl, by kernel_rfl, by kernel_rfl⟩⟩
theorem evwo (fs : List (Int × Int)) (k : Nat) (hk : k < fs.length) (h2 : 2 ≤ fs.length) (hln : fs.length ≤ 1048576) : Ev cx 91 [.sl 0 0 fs.length, .int .i64 (k : Nat)] [⟨fns fs, 2, 0, some 0, false⟩] (.sl 1 0 (wo fs k).length) [⟨fns fs, 2, 0, some 0, false⟩, ⟨fns (wo fs k), 2, 1, some 0, false⟩] := by
  have e1 := evcc_n fs k hk h2 hln
  rw [← wo_len hk] at e1
  have hadd := b_addN (a := k) (b := 1) (by omega)
  refine has91.eev rfl rfl ?_
  unfold m91
  repeat' (first
    | refine ep_slice (p := 0) (q := (k : Nat)) (o' := 0) (n' := k) rfl rfl rfl (.inl ⟨rfl, rfl⟩) (.inr ⟨_, rfl⟩) ⟨by omega, by omega, by omega, rfl, by omega⟩ rfl rfl ?_
    | refine ep_slice (p := (k + 1 : Nat)) (q := (fs.length : Nat)) (o' := (k + 1) * 2) (n' := fs.length - k - 1) rfl rfl rfl (.inr ⟨_, rfl⟩) (.inl ⟨rfl, rfl⟩) ⟨by omega, by omega, by omega, by simp, by omega⟩ rfl rfl ?_
    | (refine g_op ?_; first
      | refine ep_mov rfl ?_
      | refine ep_callw0 rfl (by first | exact e1) rfl rfl ?_
      | refine sp_callw rfl rfl rfl rfl (by first | exact e1) ⟨rfl, rfl, rfl, rfl⟩ rfl rfl rfl (by first | exact WrP_refl _ _ | (repeat' (first | exact rfl | exact True.intro | refine And.intro ?_ ?_))) ?_
      | refine ep_bin rfl rfl (by first | exact hadd | exact b_add (by omega) (by omega) | exact b_sub (by omega) (by omega) | exact b_and (by omega) (by omega) | exact b_or (by omega) (by omega) | exact b_shr (by omega) | exact b_shl (by omega) (by omega) | exact b_lss | exact b_leq | exact b_gtr | exact b_geq | exact b_eql | exact b_neq) ?_
      | refine sp_bslice rfl rfl rfl rfl rfl ?_)
    | (refine g_ops ?_; first | refine eo_none ?_ | refine eo_nil ?_)
    | (refine g_dops ?_; first | refine ed_none ?_ | refine ed_nil ?_)
    | refine ed_same rfl ?_ | refine ed_one rfl rfl rfl rfl ?_ | refine ed_two rfl rfl rfl rfl rfl rfl rfl ?_ | refine ed_write rfl rfl ?_
    | (refine g_code ?_; first | refine ec_seq ?_ | refine ec_region ?_ | refine ec_draw ?_ | refine ec_ret ?_)
    | refine ek_seqN ?_ | refine ek_seqR ?_)
  refine sfin (.inr rfl) (by rfl) (by rfl) (by exact ⟨rfl, rfl, rfl⟩) (by rfl) (by rfl) (by rfl) (by first | rfl | (simp; done) | (simp [ints, prs]; done))
theorem evwo1 (fs : List (Int × Int)) (h1 : fs.length = 1) : Ev cx 91 [.sl 0 0 fs.length, .int .i64 (0 : Nat)] [⟨fns fs, 2, 0, some 0, false⟩] .nils [⟨fns fs, 2, 0, some 0, false⟩] := by
  have e1 := evcc_1 fs
  have hadd := b_addN (a := 0) (b := 1) (by omega)
  refine has91.eev rfl rfl ?_
  unfold m91
  repeat' (first
    | refine ep_slice (p := 0) (q := ((0 : Nat) : Int)) (o' := 0) (n' := 0) rfl rfl rfl (.inl ⟨rfl, rfl⟩) (.inr ⟨_, rfl⟩) ⟨by omega, by omega, by omega, rfl, by omega⟩ rfl rfl ?_
    | refine ep_slice (p := (0 + 1 : Nat)) (q := (fs.length : Nat)) (o' := 2) (n' := 0) rfl rfl rfl (.inr ⟨_, rfl⟩) (.inl ⟨rfl, rfl⟩) ⟨by omega, by omega, by omega, by simp, by omega⟩ rfl rfl ?_
    | (refine g_op ?_; first
      | refine ep_mov rfl ?_
      | refine ep_callw0 rfl (by first | exact e1) rfl rfl ?_
      | refine sp_callw rfl rfl rfl rfl (by first | exact e1) ⟨rfl, rfl, rfl, rfl⟩ rfl rfl rfl (by first | exact WrP_refl _ _ | (repeat' (first | exact rfl | exact True.intro | refine And.intro ?_ ?_))) ?_
      | refine ep_bin rfl rfl (by first | exact hadd | exact b_add (by omega) (by omega) | exact b_sub (by omega) (by omega) | exact b_and (by omega) (by omega) | exact b_or (by omega) (by omega) | exact b_shr (by omega) | exact b_shl (by omega) (by omega) | exact b_lss | exact b_leq | exact b_gtr | exact b_geq | exact b_eql | exact b_neq) ?_
      | refine sp_bslice rfl rfl rfl rfl rfl ?_)
    | (refine g_ops ?_; first | refine eo_none ?_ | refine eo_nil ?_)
    | (refine g_dops ?_; first | refine ed_none ?_ | refine ed_nil ?_)
    | refine ed_same rfl ?_ | refine ed_one rfl rfl rfl rfl ?_ | refine ed_two rfl rfl rfl rfl rfl rfl rfl ?_ | refine ed_write rfl rfl ?_
    | (refine g_code ?_; first | refine ec_seq ?_ | refine ec_region ?_ | refine ec_draw ?_ | refine ec_ret ?_)
    | refine ek_seqN ?_ | refine ek_seqR ?_)
  refine sfin (.inr rfl) (by rfl) (by rfl) (by exact ⟨rfl, rfl, rfl⟩) (by rfl) (by rfl) (by rfl) (by first | rfl | (simp; done) | (simp [ints, prs]; done))

-- 121 152 80
theorem lpix_aln (c : Nat) (o : Out) (ho : (match firstF (fun i => !(fun _ => false) i) 0 (0) with | none => (⟨.exit 0, [], [⟨[.int .i64 (c : Nat)], 1, 0, some 0, true⟩]⟩ : Out) | some x => ⟨.ret, [(4, .int .i64 (x : Nat))], [⟨[.int .i64 (c : Nat)], 1, 0, some 0, true⟩]⟩) = o) :
    LpS cx 19 1 m140_0 [(0, .nils), (1, .fn 152 [.ptr 0 0]), (7, .int .i64 (0 : Nat)), (8, .int .i64 (0 : Nat))] [⟨[.int .i64 (c : Nat)], 1, 0, some 0, true⟩] o.x o.e o.h := by
  refine lp_brk (0) (fun i => !(fun _ => false) i) (fun _ => ()) (fun i _ => [(0, .nils), (1, .fn 152 [.ptr 0 0]), (7, .int .i64 (0 : Nat)), (8, .int .i64 (i : Nat))]) (fun i _ => [⟨[.int .i64 (c : Nat)], 1, 0, some 0, true⟩]) (fun _ => ⟨.exit 0, [], [⟨[.int .i64 (c : Nat)], 1, 0, some 0, true⟩]⟩) (fun i _ => ⟨.ret, [(4, .int .i64 (i : Nat))], [⟨[.int .i64 (c : Nat)], 1, 0, some 0, true⟩]⟩) ?_ ?_ ?_ (0) 0 o (by omega) (fun h => by rw [← ho, firstF_none fun x h1 h2 => h x h1 (by omega)]) (fun x h1 h2 h3 h4 => by rw [← ho, firstF_some h1 (by omega) h3 h4])
  · intro i s hi hs hp
    exact absurd hi (by simp)
  · intro i s hi hs hp
    exact absurd hi (by simp)
  · intro s hs
    have hlt : decide (((0 : Nat) : Int) < (0 : Nat)) = false := decide_eq_false (by omega)
    unfold m140_0
    repeat' (first
      | (refine g_op ?_; first
        | refine ep_mov rfl ?_ | refine sp_loadN rfl rfl rfl rfl rfl ?_
        | refine sp_callv rfl rfl rfl rfl rfl rfl (by first | exact e0) ⟨rfl, rfl, rfl, rfl⟩ rfl rfl rfl ?_
        | refine sp_callb rfl rfl rfl rfl rfl rfl (by first | exact e0) ⟨rfl, rfl, rfl, rfl⟩ rfl rfl rfl ?_
        | refine ep_bin rfl rfl (by first | exact b_add (by omega) (by omega) | exact b_sub (by omega) (by omega) | exact b_and (by omega) (by omega) | exact b_or (by omega) (by omega) | exact b_shr (by omega) | exact b_shl (by omega) (by omega) | exact b_lss | exact b_leq | exact b_gtr | exact b_geq | exact b_eql | exact b_neq) ?_
        | refine sp_idx rfl rfl rfl (by omega) rfl ?_ | refine ep_loadSN rfl rfl rfl (by first | exact prs_get (by omega) | exact fns_get (by omega)) ?_)
      | (refine g_ops ?_; first | refine eo_none ?_ | refine eo_nil ?_)
      | (refine g_code ?_; first | refine ec_seq ?_ | refine ec_region ?_ | refine ec_block ?_ | refine ec_skip ?_ | refine ec_exit ?_ | refine ec_ret ?_ | refine ec_condT rfl ?_ | refine ec_condF rfl ?_ | refine ec_condTH rfl (by assumption) ?_ | refine ec_condFH rfl (by assumption) ?_)
      | refine ek_seqN ?_ | refine ek_seqX ?_ | refine ek_seqR ?_ | refine ek_blkN ?_ | refine ek_blkR ?_ | refine ek_blkX ?_ | refine ek_blkY rfl ?_)
    exact rnd_out (by rfl) (by simp) (scmp2 (by rfl) (by rfl) (by exact ⟨rfl, rfl, rfl⟩) (by rfl) (by first | rfl | (simp; done) | (simp [ints, prs]; done)) (by rfl) (by first | rfl | (simp; done) | (simp [ints, prs]; done)))
theorem evix_aln (c : Nat) : Ev cx 140 [.nils, .fn 152 [.ptr 0 0]] [⟨[.int .i64 (c : Nat)], 1, 0, some 0, true⟩] (.int .i64 (match firstF (fun i => !(fun _ => false) i) 0 (0) with | none => -1 | some x => ((x : Nat) : Int))) [⟨[.int .i64 (c : Nat)], 1, 0, some 0, true⟩] := by
  cases hs : firstF (fun i => !(fun _ => false) i) 0 (0) with
  | none =>
    have lp := lpix_aln c _ (by rw [hs])
    refine has140.eev rfl rfl ?_
    unfold m140
    repeat' (first
      | refine sc_loop lp rfl rfl ⟨rfl, rfl, rfl⟩ rfl rfl rfl ?_
      | (refine g_op ?_; first
        | refine ep_mov rfl ?_
        | refine ep_lenS rfl ?_ | refine ep_lenN rfl ?_ | refine ep_lenE rfl ?_)
      | (refine g_ops ?_; first | refine eo_none ?_ | refine eo_nil ?_)
      | (refine g_code ?_; first | refine ec_seq ?_ | refine ec_region ?_ | refine ec_block ?_ | refine ec_ret ?_)
      | refine ek_seqN ?_ | refine ek_seqX ?_ | refine ek_seqR ?_ | refine ek_blkN ?_ | refine ek_blkR ?_ | refine ek_blkX ?_ | refine ek_blkY rfl ?_)
    refine sfin (.inr rfl) (by rfl) (by rfl) (by exact ⟨rfl, rfl, rfl⟩) (by rfl) (by rfl) (by rfl) (by first | rfl | (simp; done) | (simp [ints, prs]; done))
  | some x =>
    have lp := lpix_aln c _ (by rw [hs])
    refine has140.eev rfl rfl ?_
    unfold m140
    repeat' (first
      | refine sc_loop lp rfl rfl ⟨rfl, rfl, rfl⟩ rfl rfl rfl ?_
      | (refine g_op ?_; first
        | refine ep_mov rfl ?_
        | refine ep_lenS rfl ?_ | refine ep_lenN rfl ?_ | refine ep_lenE rfl ?_)
      | (refine g_ops ?_; first | refine eo_none ?_ | refine eo_nil ?_)
      | (refine g_code ?_; first | refine ec_seq ?_ | refine ec_region ?_ | refine ec_block ?_ | refine ec_ret ?_)
      | refine ek_seqN ?_ | refine ek_seqX ?_ | refine ek_seqR ?_ | refine ek_blkN ?_ | refine ek_blkR ?_ | refine ek_blkX ?_ | refine ek_blkY rfl ?_)
    refine sfin (.inr rfl) (by rfl) (by rfl) (by exact ⟨rfl, rfl, rfl⟩) (by rfl) (by rfl) (by rfl) (by first | rfl | (simp; done) | (simp [ints, prs]; done))
theorem evcf_aln (c : Nat) : Ev cx 115 [.nils, .fn 152 [.ptr 0 0]] [⟨[.int .i64 (c : Nat)], 1, 0, some 0, true⟩] (.bool (!allF (fun i => !(fun _ => false) i) 0 (0))) [⟨[.int .i64 (c : Nat)], 1, 0, some 0, true⟩] := by
  have e1 := evix_aln c
  cases hs : firstF (fun i => !(fun _ => false) i) 0 (0) with
  | none =>
    rw [hs] at e1
    refine has115.eev rfl rfl ?_
    unfold m115
    repeat' (first
      | (refine g_op ?_; first
        | refine ep_mov rfl ?_
        | refine ep_call0 rfl (by first | exact e1) rfl rfl ?_
        | refine sp_call rfl rfl rfl rfl (by first | exact e1) ⟨rfl, rfl, rfl, rfl⟩ rfl rfl rfl ?_
        | refine ep_bin rfl rfl (by first | exact b_add (by omega) (by omega) | exact b_sub (by omega) (by omega) | exact b_and (by omega) (by omega) | exact b_or (by omega) (by omega) | exact b_shr (by omega) | exact b_shl (by omega) (by omega) | exact b_lss | exact b_leq | exact b_gtr | exact b_geq | exact b_eql | exact b_neq) ?_)
      | (refine g_ops ?_; first | refine eo_none ?_ | refine eo_nil ?_)
      | (refine g_code ?_; first | refine ec_seq ?_ | refine ec_region ?_ | refine ec_ret ?_)
      | refine ek_seqN ?_ | refine ek_seqR ?_)
    refine sfin (.inr rfl) (by rfl) (by rfl) (by exact ⟨rfl, rfl, rfl⟩) (by rfl) (by rfl) (by rw [firstF_allT hs]; rfl) (by first | rfl | (simp; done) | (simp [ints, prs]; done))
  | some x =>
    rw [hs] at e1
    have hge : decide (((x : Nat) : Int) ≥ 0) = true := decide_eq_true (by omega)
    refine has115.eev rfl rfl ?_
    unfold m115
    repeat' (first
      | (refine g_op ?_; first
        | refine ep_mov rfl ?_
        | refine ep_call0 rfl (by first | exact e1) rfl rfl ?_
        | refine sp_call rfl rfl rfl rfl (by first | exact e1) ⟨rfl, rfl, rfl, rfl⟩ rfl rfl rfl ?_
        | refine ep_bin rfl rfl (by first | exact b_add (by omega) (by omega) | exact b_sub (by omega) (by omega) | exact b_and (by omega) (by omega) | exact b_or (by omega) (by omega) | exact b_shr (by omega) | exact b_shl (by omega) (by omega) | exact b_lss | exact b_leq | exact b_gtr | exact b_geq | exact b_eql | exact b_neq) ?_)
      | (refine g_ops ?_; first | refine eo_none ?_ | refine eo_nil ?_)
      | (refine g_code ?_; first | refine ec_seq ?_ | refine ec_region ?_ | refine ec_ret ?_)
      | refine ek_seqN ?_ | refine ek_seqR ?_)
    refine sfin (.inr rfl) (by rfl) (by rfl) (by exact ⟨rfl, rfl, rfl⟩) (by rfl) (by rfl) (by rw [firstF_allF hs]; first | rfl | exact congrArg V.bool hge) (by first | rfl | (simp; done) | (simp [ints, prs]; done))

theorem evaln (c : Nat) : Ev cx 151 [.nils, .int .i64 (c : Nat)] [] (.bool true) [] := by
  have e1 := evcf_aln c
  rw [show (!allF (fun i => !(fun _ => false) i) 0 0) = false from rfl] at e1
  refine has151.eev rfl rfl ?_
  unfold m151
  repeat' (first
    | (refine g_op ?_; first
      | refine ep_mov rfl ?_
      | refine ep_call0 rfl (by first | exact e1) rfl rfl ?_
      | refine sp_call rfl rfl rfl rfl (by first | exact e1) ⟨rfl, rfl, rfl, rfl⟩ rfl rfl rfl ?_
      | refine ep_not rfl ?_ | refine sp_box rfl rfl rfl rfl rfl ?_ | refine ep_mkfn rfl ?_)
    | (refine g_ops ?_; first | refine eo_none ?_ | refine eo_nil ?_)
    | (refine g_code ?_; first | refine ec_seq ?_ | refine ec_region ?_ | refine ec_ret ?_)
    | refine ek_seqN ?_ | refine ek_seqR ?_)
  refine sfin (.inr rfl) (by rfl) (by rfl) (by exact ⟨rfl, rfl, rfl⟩) (by rfl) (by rfl) (by rfl) (by first | rfl | (simp; done) | (simp [ints, prs]; done))
theorem lpcon (u : Nat) (o : Out) (ho : (match selm (fun _ => true) (idn) (5) with | [] => (⟨.exit 0, [(3, .nils)], []⟩ : Out) | x :: xs => ⟨.exit 0, [(3, .sl 0 0 (x :: xs).length)], [⟨ints (x :: xs), 1, 0, some 0, false⟩]⟩) = o) :
    LpS cx 17 0 m143_0 [(0, .nils), (3, .nils), (5, .int .i64 (0 : Nat))] [] o.x o.e o.h := by
  subst ho
  refine lp_st (5) (selm (fun _ => true) (idn)) (fun i s => match s with | [] => [(0, .nils), (3, .nils), (5, .int .i64 (i : Nat))] | x :: xs => [(0, .nils), (3, .sl 0 0 (x :: xs).length), (5, .int .i64 (i : Nat))]) (fun i s => match s with | [] => [] | x :: xs => [⟨ints (x :: xs), 1, 0, some 0, false⟩]) (fun s => match s with | [] => ⟨.exit 0, [(3, .nils)], []⟩ | x :: xs => ⟨.exit 0, [(3, .sl 0 0 (x :: xs).length)], [⟨ints (x :: xs), 1, 0, some 0, false⟩]⟩) ?_ ?_ (5) 0 (by omega)
  · intro i s hi hs
    have hlt : decide ((i : Int) < (5 : Nat)) = true := decide_eq_true (by omega)
    have hle : decide ((i : Int) ≤ (5 : Nat) - 1) = true := decide_eq_true (by omega)
    have hlen : s.length ≤ 65536 := by have := selm_len (fun _ => true) (idn) i; rw [hs] at this; omega
    have e1 := evaln i
    have hp : (fun _ => true) i = true := rfl
    cases s with
    | nil =>
      refine ⟨[(idn) i], by rw [selm_t (p := fun _ => true) hp, hs]; try rfl, ?_⟩
      unfold m143_0
      repeat' (first
        | (refine g_op ?_; first
          | refine ep_mov rfl ?_
          | refine ep_call0 rfl (by first | exact e1) rfl rfl ?_
          | refine sp_call rfl rfl rfl rfl (by first | exact e1) ⟨rfl, rfl, rfl, rfl⟩ rfl rfl rfl ?_
          | refine ep_bin rfl rfl (by first | exact b_add (by omega) (by omega) | exact b_sub (by omega) (by omega) | exact b_and (by omega) (by omega) | exact b_or (by omega) (by omega) | exact b_shr (by omega) | exact b_shl (by omega) (by omega) | exact b_lss | exact b_leq | exact b_gtr | exact b_geq | exact b_eql | exact b_neq) ?_
          | refine sp_bslice rfl rfl rfl rfl rfl ?_ | refine sp_push0 rfl (by first | exact .inl rfl | exact .inr rfl) rfl rfl rfl rfl rfl (by decide) rfl rfl rfl ?_ | refine sp_push rfl rfl rfl rfl rfl rfl rfl (by first | exact ints_len _ | exact prs_len _ _ | exact zints_len _) (by omega) (Nat.zero_le _) rfl rfl rfl rfl rfl ?_)
        | (refine g_ops ?_; first | refine eo_none ?_ | refine eo_nil ?_)
        | (refine g_code ?_; first | refine ec_seq ?_ | refine ec_region ?_ | refine ec_block ?_ | refine ec_skip ?_ | refine ec_exit ?_ | refine ec_condT rfl ?_ | refine ec_condF rfl ?_ | refine ec_condTH rfl (by assumption) ?_ | refine ec_condFH rfl (by assumption) ?_)
        | refine ek_seqN ?_ | refine ek_seqX ?_ | refine ek_blkN ?_ | refine ek_blkR ?_ | refine ek_blkX ?_ | refine ek_blkY rfl ?_)
      exact rnd_on (by rfl) (scmp2 (by rfl) (by rfl) (by exact ⟨rfl, rfl, rfl⟩) (by rfl) (by first | rfl | (simp; done) | (simp [ints, prs]; done)) (by rfl) (by first | rfl | (simp; done) | (simp [ints, prs]; done)))
    | cons x xs =>
      refine ⟨(x :: xs) ++ [(idn) i], by rw [selm_t (p := fun _ => true) hp, hs]; try rfl, ?_⟩
      unfold m143_0
      repeat' (first
        | (refine g_op ?_; first
          | refine ep_mov rfl ?_
          | refine ep_call0 rfl (by first | exact e1) rfl rfl ?_
          | refine sp_call rfl rfl rfl rfl (by first | exact e1) ⟨rfl, rfl, rfl, rfl⟩ rfl rfl rfl ?_
          | refine ep_bin rfl rfl (by first | exact b_add (by omega) (by omega) | exact b_sub (by omega) (by omega) | exact b_and (by omega) (by omega) | exact b_or (by omega) (by omega) | exact b_shr (by omega) | exact b_shl (by omega) (by omega) | exact b_lss | exact b_leq | exact b_gtr | exact b_geq | exact b_eql | exact b_neq) ?_
          | refine sp_bslice rfl rfl rfl rfl rfl ?_ | refine sp_push0 rfl (by first | exact .inl rfl | exact .inr rfl) rfl rfl rfl rfl rfl (by decide) rfl rfl rfl ?_ | refine sp_push rfl rfl rfl rfl rfl rfl rfl (by first | exact ints_len _ | exact prs_len _ _ | exact zints_len _) (by omega) (Nat.zero_le _) rfl rfl rfl rfl rfl ?_)
        | (refine g_ops ?_; first | refine eo_none ?_ | refine eo_nil ?_)
        | (refine g_code ?_; first | refine ec_seq ?_ | refine ec_region ?_ | refine ec_block ?_ | refine ec_skip ?_ | refine ec_exit ?_ | refine ec_condT rfl ?_ | refine ec_condF rfl ?_ | refine ec_condTH rfl (by assumption) ?_ | refine ec_condFH rfl (by assumption) ?_)
        | refine ek_seqN ?_ | refine ek_seqX ?_ | refine ek_blkN ?_ | refine ek_blkR ?_ | refine ek_blkX ?_ | refine ek_blkY rfl ?_)
      exact rnd_on (by rfl) (scmp2 (by rfl) (by rfl) (by exact ⟨rfl, rfl, rfl⟩) (by rfl) (by first | rfl | (simp; done) | (simp [ints, prs]; done)) (by rfl) (by first | rfl | (simp; done) | (simp [ints, prs]; done)))
  · intro s hs
    have hlt : decide (((5 : Nat) : Int) < (5 : Nat)) = false := decide_eq_false (by omega)
    have hle : decide (((5 : Nat) : Int) ≤ (5 : Nat) - 1) = false := decide_eq_false (by omega)
    cases s with
    | nil =>
      unfold m143_0
      repeat' (first
        | (refine g_op ?_; first
          | refine ep_mov rfl ?_
          | refine ep_bin rfl rfl (by first | exact b_add (by omega) (by omega) | exact b_sub (by omega) (by omega) | exact b_and (by omega) (by omega) | exact b_or (by omega) (by omega) | exact b_shr (by omega) | exact b_shl (by omega) (by omega) | exact b_lss | exact b_leq | exact b_gtr | exact b_geq | exact b_eql | exact b_neq) ?_
          | refine sp_bslice rfl rfl rfl rfl rfl ?_ | refine sp_push0 rfl (by first | exact .inl rfl | exact .inr rfl) rfl rfl rfl rfl rfl (by decide) rfl rfl rfl ?_ | refine sp_push rfl rfl rfl rfl rfl rfl rfl (by first | exact ints_len _ | exact prs_len _ _ | exact zints_len _) (by omega) (Nat.zero_le _) rfl rfl rfl rfl rfl ?_)
        | (refine g_ops ?_; first | refine eo_none ?_ | refine eo_nil ?_)
        | (refine g_code ?_; first | refine ec_seq ?_ | refine ec_region ?_ | refine ec_block ?_ | refine ec_skip ?_ | refine ec_exit ?_ | refine ec_condT rfl ?_ | refine ec_condF rfl ?_ | refine ec_condTH rfl (by assumption) ?_ | refine ec_condFH rfl (by assumption) ?_)
        | refine ek_seqN ?_ | refine ek_seqX ?_ | refine ek_blkN ?_ | refine ek_blkR ?_ | refine ek_blkX ?_ | refine ek_blkY rfl ?_)
      exact rnd_out (by rfl) (by simp) (scmp2 (by rfl) (by rfl) (by exact ⟨rfl, rfl, rfl⟩) (by rfl) (by first | rfl | (simp; done) | (simp [ints, prs]; done)) (by rfl) (by first | rfl | (simp; done) | (simp [ints, prs]; done)))
    | cons x xs =>
      unfold m143_0
      repeat' (first
        | (refine g_op ?_; first
          | refine ep_mov rfl ?_
          | refine ep_bin rfl rfl (by first | exact b_add (by omega) (by omega) | exact b_sub (by omega) (by omega) | exact b_and (by omega) (by omega) | exact b_or (by omega) (by omega) | exact b_shr (by omega) | exact b_shl (by omega) (by omega) | exact b_lss | exact b_leq | exact b_gtr | exact b_geq | exact b_eql | exact b_neq) ?_
          | refine sp_bslice rfl rfl rfl rfl rfl ?_ | refine sp_push0 rfl (by first | exact .inl rfl | exact .inr rfl) rfl rfl rfl rfl rfl (by decide) rfl rfl rfl ?_ | refine sp_push rfl rfl rfl rfl rfl rfl rfl (by first | exact ints_len _ | exact prs_len _ _ | exact zints_len _) (by omega) (Nat.zero_le _) rfl rfl rfl rfl rfl ?_)
        | (refine g_ops ?_; first | refine eo_none ?_ | refine eo_nil ?_)
        | (refine g_code ?_; first | refine ec_seq ?_ | refine ec_region ?_ | refine ec_block ?_ | refine ec_skip ?_ | refine ec_exit ?_ | refine ec_condT rfl ?_ | refine ec_condF rfl ?_ | refine ec_condTH rfl (by assumption) ?_ | refine ec_condFH rfl (by assumption) ?_)
        | refine ek_seqN ?_ | refine ek_seqX ?_ | refine ek_blkN ?_ | refine ek_blkR ?_ | refine ek_blkX ?_ | refine ek_blkY rfl ?_)
      exact rnd_out (by rfl) (by simp) (scmp2 (by rfl) (by rfl) (by exact ⟨rfl, rfl, rfl⟩) (by rfl) (by first | rfl | (simp; done) | (simp [ints, prs]; done)) (by rfl) (by first | rfl | (simp; done) | (simp [ints, prs]; done)))

theorem evcon : Ev cx 143 [.nils] [] (.sl 0 0 5) [⟨ints [0, 1, 2, 3, 4], 1, 0, some 0, false⟩] := by
  have lp := lpcon 0 _ (by rw [show selm (fun _ => true) idn 5 = [0, 1, 2, 3, 4] from rfl])
  refine has143.eev rfl rfl ?_
  unfold m143
  repeat' (first
    | refine sc_loop lp rfl rfl ⟨rfl, rfl, rfl⟩ rfl rfl rfl ?_
    | (refine g_op ?_; first
      | refine ep_mov rfl ?_)
    | (refine g_ops ?_; first | refine eo_none ?_ | refine eo_nil ?_)
    | (refine g_code ?_; first | refine ec_seq ?_ | refine ec_region ?_ | refine ec_block ?_ | refine ec_ret ?_)
    | refine ek_seqN ?_ | refine ek_seqX ?_ | refine ek_seqR ?_ | refine ek_blkN ?_ | refine ek_blkR ?_ | refine ek_blkX ?_ | refine ek_blkY rfl ?_)
  refine sfin (.inr rfl) (by rfl) (by rfl) (by exact ⟨rfl, rfl, rfl⟩) (by rfl) (by rfl) (by rfl) (by first | rfl | (simp; done) | (simp [ints, prs]; done))
-- impl.isComplete
def m121 : MC := (.seq (.region [⟨(.mov (.k (.bool false))), (some 2), none⟩] false) (.seq (.region [⟨(.mov (.t 0)), (some 3), none⟩, ⟨(.call 143 [(.t 3)]), (some 4), none⟩, ⟨(.len (.t 4)), (some 5), none⟩, ⟨(.bin .eql (.t 5) (.k (.int .i64 0))), (some 6), none⟩, ⟨(.mov (.t 6)), (some 2), none⟩] false) .ret))
theorem has121 : Has cx 121 7 m121 [(.tmp 2)] :=
  ⟨⟨Try.f121, Try.f121.body.getD .skip, by kernel_rfl, by kernel_rfl, by kernel_rfl, by kernel_rfl, by kernel_rfl, by kernel_rfl⟩⟩
theorem evicn : Ev cx 121 [.nils] [] (.bool false) [] := by
  have e1 := evcon
  have hq : (((5 : Nat) : Int) == 0) = false := by decide
  refine has121.eev rfl rfl ?_
  unfold m121
  repeat' (first
    | (refine g_op ?_; first
      | refine ep_mov rfl ?_
      | refine ep_call0 rfl (by first | exact e1) rfl rfl ?_
      | refine sp_call rfl rfl rfl rfl (by first | exact e1) ⟨rfl, rfl, rfl, rfl⟩ rfl rfl rfl ?_
      | refine ep_bin rfl rfl (by first | exact b_add (by omega) (by omega) | exact b_sub (by omega) (by omega) | exact b_and (by omega) (by omega) | exact b_or (by omega) (by omega) | exact b_shr (by omega) | exact b_shl (by omega) (by omega) | exact b_lss | exact b_leq | exact b_gtr | exact b_geq | exact b_eql | exact b_neq) ?_
      | refine ep_lenS rfl ?_ | refine ep_lenN rfl ?_ | refine ep_lenE rfl ?_)
    | (refine g_ops ?_; first | refine eo_none ?_ | refine eo_nil ?_)
    | (refine g_code ?_; first | refine ec_seq ?_ | refine ec_region ?_ | refine ec_ret ?_)
    | refine ek_seqN ?_ | refine ek_seqR ?_)
  refine sfin (.inr rfl) (by rfl) (by rfl) (by exact ⟨rfl, rfl, rfl⟩) (by rfl) (by rfl) (by rfl) (by first | rfl | (simp; done) | (simp [ints, prs]; done))
theorem evic (fs : List (Int × Int)) (hln : fs.length ≤ 1048576) (hall : allFunc fs = true) : Ev cx 121 [.sl 0 0 fs.length] [⟨fns fs, 2, 0, some 0, false⟩] (.bool (clL fs).isEmpty) [⟨fns fs, 2, 0, some 0, false⟩] := by
  have e1 := ev143 fs hln hall
  cases hs : clL fs with
  | nil =>
    rw [hs] at e1
    refine has121.eev rfl rfl ?_
    unfold m121
    repeat' (first
      | (refine g_op ?_; first
        | refine ep_mov rfl ?_
        | refine ep_call0 rfl (by first | exact e1) rfl rfl ?_
        | refine sp_call rfl rfl rfl rfl (by first | exact e1) ⟨rfl, rfl, rfl, rfl⟩ rfl rfl rfl ?_
        | refine ep_bin rfl rfl (by first | exact b_add (by omega) (by omega) | exact b_sub (by omega) (by omega) | exact b_and (by omega) (by omega) | exact b_or (by omega) (by omega) | exact b_shr (by omega) | exact b_shl (by omega) (by omega) | exact b_lss | exact b_leq | exact b_gtr | exact b_geq | exact b_eql | exact b_neq) ?_
        | refine ep_lenS rfl ?_ | refine ep_lenN rfl ?_ | refine ep_lenE rfl ?_)
      | (refine g_ops ?_; first | refine eo_none ?_ | refine eo_nil ?_)
      | (refine g_code ?_; first | refine ec_seq ?_ | refine ec_region ?_ | refine ec_ret ?_)
      | refine ek_seqN ?_ | refine ek_seqR ?_)
    refine sfin (.inr rfl) (by rfl) (by rfl) (by exact ⟨rfl, rfl, rfl⟩) (by rfl) (by rfl) (by rfl) (by first | rfl | (simp; done) | (simp [ints, prs]; done))
  | cons x xs =>
    rw [hs] at e1
    have hq : ((((x :: xs).length : Nat) : Int) == 0) = false := by rw [ieq0]; simp
    refine has121.eev rfl rfl ?_
    unfold m121
    repeat' (first
      | (refine g_op ?_; first
        | refine ep_mov rfl ?_
        | refine ep_call0 rfl (by first | exact e1) rfl rfl ?_
        | refine sp_call rfl rfl rfl rfl (by first | exact e1) ⟨rfl, rfl, rfl, rfl⟩ rfl rfl rfl ?_
        | refine ep_bin rfl rfl (by first | exact b_add (by omega) (by omega) | exact b_sub (by omega) (by omega) | exact b_and (by omega) (by omega) | exact b_or (by omega) (by omega) | exact b_shr (by omega) | exact b_shl (by omega) (by omega) | exact b_lss | exact b_leq | exact b_gtr | exact b_geq | exact b_eql | exact b_neq) ?_
        | refine ep_lenS rfl ?_ | refine ep_lenN rfl ?_ | refine ep_lenE rfl ?_)
      | (refine g_ops ?_; first | refine eo_none ?_ | refine eo_nil ?_)
      | (refine g_code ?_; first | refine ec_seq ?_ | refine ec_region ?_ | refine ec_ret ?_)
      | refine ek_seqN ?_ | refine ek_seqR ?_)
    refine sfin (.inr rfl) (by rfl) (by rfl) (by exact ⟨rfl, rfl, rfl⟩) (by rfl) (by rfl) (by rfl) (by first | rfl | (simp; done) | (simp [ints, prs]; done))
-- 80
theorem wo_all {fs : List (Int × Int)} {k : Nat} (hk : k < fs.length) (hall : allFunc fs = true) : allFunc (wo fs k) = true := by
  unfold allFunc at hall ⊢
  rw [allF_iff] at hall ⊢
  intro j _ hj
  rw [wo_get hk]
  rw [wo_len hk] at hj
  split
  · exact hall j (Nat.zero_le _) (by omega)
  · exact hall (j + 1) (Nat.zero_le _) (by omega)
def baseB (fs : List (Int × Int)) : Bool := allF (fun k => !(clL (wo fs k)).isEmpty) 0 fs.length && (clL fs).isEmpty
theorem wo_1 {fs : List (Int × Int)} (h1 : fs.length = 1) : (clL (wo fs 0)).isEmpty = false := by
  have : wo fs 0 = [] := by
    apply List.eq_nil_of_length_eq_zero; rw [wo_len (by omega)]; omega
  rw [this]; rfl
theorem bt_wo {n i j : Nat} (hj : j < n) (hi : i < n) : bt (R2 n - 1 - R2 i) j = if j = i then 0 else 1 := by
  have h1 : R2 i < R2 n := by unfold R2; exact Nat.pow_lt_pow_right (by omega) hi
  rw [bt_tb, show R2 n - 1 - R2 i = R2 n - (R2 i + 1) by omega]
  unfold R2 at h1 ⊢
  rw [Nat.testBit_two_pow_sub_succ h1]
  have h2 := R2_tb i j
  unfold R2 at h2
  rw [h2]
  by_cases e : j = i
  · subst e; simp [hj]
  · rw [if_neg e]; simp [hj, show ¬ i = j from fun h => e h.symm]
theorem clP_wo {fs : List (Int × Int)} {i : Nat} (hi : i < fs.length) (c : Nat) : clP fs (R2 fs.length - 1 - R2 i) c = allIC (wo fs i) c := by
  rw [Bool.eq_iff_iff, clP, allIC, allF_iff, allF_iff]
  constructor
  · intro h j _ hj
    rw [wo_len hi] at hj
    rw [wo_get hi]
    split
    · rename_i hlt
      have := h j (Nat.zero_le _) (by omega)
      rw [clQ, bt_wo (by omega) hi, if_neg (by omega)] at this
      simpa using this
    · have := h (j + 1) (Nat.zero_le _) (by omega)
      rw [clQ, bt_wo (by omega) hi, if_neg (by omega)] at this
      simpa using this
  · intro h j _ hj
    rw [clQ, bt_wo (by omega) hi]
    by_cases e : j = i
    · rw [if_pos e]; rfl
    · rw [if_neg e]
      rcases Nat.lt_or_ge j i with hlt | hge
      · have := h j (Nat.zero_le _) (by rw [wo_len hi]; omega)
        rw [wo_get hi, if_pos hlt] at this
        exact this
      · have := h (j - 1) (Nat.zero_le _) (by rw [wo_len hi]; omega)
        rw [wo_get hi, if_neg (by omega), show j - 1 + 1 = j by omega] at this
        exact this
theorem pk5_0 (P : Nat → Bool) : (((pk (bn P) 5 : Nat) : Int) == 0) = (selm P idn 5).isEmpty := by
  rw [ieq0, Bool.eq_iff_iff, beq_iff_eq]
  have key := selm_congr (p := fun c => bt (pk (bn P) 5) c == 1) (q := P) (g := idn) (h := idn) 5 fun c hc => ⟨by rw [bt_pk (fun r _ => bn_le _ r) hc]; unfold bn; cases P c <;> rfl, fun _ => rfl⟩
  rw [← key]
  generalize hm : pk (bn P) 5 = m
  have hlt : m < R2 5 := by rw [← hm]; exact pk_lt fun r _ => bn_le _ r
  constructor
  · intro h
    subst h
    have h0 : ∀ c, (bt 0 c == 1) = false := fun c => by rw [bt_tb]; simp
    rw [show (fun c => bt 0 c == 1) = fun _ => false by funext c; exact h0 c]; rfl
  · intro h
    refine ext_bt (n := 5) hlt (by have := R2_pos 5; omega) fun r hr => ?_
    cases hb : (bt m r == 1)
    · have h1 := bt_le m r
      have h2 : bt 0 r = 0 := by rw [bt_tb]; simp
      have h3 : bt m r ≠ 1 := by simpa using hb
      omega
    · obtain ⟨k, hk, _⟩ := selm_mem (p := fun c => bt m c == 1) (n := 5) (x := r) hr hb
      rw [List.isEmpty_iff] at h
      rw [h] at hk; simp at hk
theorem ibC_0 (fs : List (Int × Int)) : (((pk (bn (clP fs (R2 fs.length - 1))) 5 : Nat) : Int) == 0) = (clL fs).isEmpty := by
  rw [pk5_0]
  congr 1
  exact selm_congr 5 fun c hc => ⟨clP_whole fs c, fun _ => rfl⟩
theorem ibC_i {fs : List (Int × Int)} {i : Nat} (hi : i < fs.length) : (((pk (bn (clP fs (R2 fs.length - 1 - R2 i))) 5 : Nat) : Int) == 0) = (clL (wo fs i)).isEmpty := by
  rw [pk5_0]
  congr 1
  exact selm_congr 5 fun c hc => ⟨clP_wo hi c, fun _ => rfl⟩
-- impl.isBase
def m80_0 : MC := (.seq (.region [⟨(.bin .lss (.t 6) (.t 5)), (some 7), none⟩] false) (.seq (.cond (.t 7) .skip (.exit 0)) (.seq (.block 1 (.seq (.region [⟨(.mov (.t 6)), (some 8), none⟩, ⟨(.mov (.t 8)), (some 3), none⟩] false) (.seq (.region [⟨(.mov (.t 0)), (some 9), none⟩, ⟨(.mov (.t 3)), (some 10), none⟩, ⟨(.call 91 [(.t 9), (.t 10)]), (some 11), none⟩, ⟨(.call 121 [(.t 11)]), (some 12), none⟩] false) (.cond (.t 12) (.seq (.region [⟨(.mov (.k (.bool false))), (some 2), none⟩] false) .ret) .skip)))) (.region [⟨(.bin .add (.t 6) (.k (.int .i64 1))), (some 13), none⟩, ⟨(.mov (.t 13)), (some 6), none⟩] false))))
def m80 : MC := (.seq (.region [⟨(.mov (.k (.bool false))), (some 2), none⟩] false) (.seq (.seq (.region [⟨(.mov (.t 0)), (some 4), none⟩, ⟨(.len (.t 4)), (some 5), none⟩, ⟨(.mov (.k (.int .i64 0))), (some 6), none⟩] false) (.block 0 (.loop m80_0))) (.seq (.region [⟨(.mov (.t 0)), (some 14), none⟩, ⟨(.call 121 [(.t 14)]), (some 15), none⟩, ⟨(.mov (.t 15)), (some 2), none⟩] false) .ret)))
theorem has80 : Has cx 80 16 m80 [(.tmp 2)] :=
  ⟨⟨Try.f80, Try.f80.body.getD .skip, by kernel_rfl, by kernel_rfl, by kernel_rfl, by kernel_rfl, by kernel_rfl, by kernel_rfl⟩⟩
theorem lpib_n (fs : List (Int × Int)) (hln : fs.length ≤ 1048576) (hall : allFunc fs = true) (h2 : 2 ≤ fs.length) (o : Out) (ho : (if allF (fun k => !(clL (wo fs k)).isEmpty) 0 (fs.length) = true then (⟨.exit 0, [(0, .sl 0 0 fs.length)], [⟨fns fs, 2, 0, some 0, false⟩]⟩ : Out) else ⟨.ret, [(2, .bool false)], [⟨fns fs, 2, 0, some 0, false⟩]⟩) = o) :
    LpS cx 16 1 m80_0 [(0, .sl 0 0 fs.length), (5, .int .i64 (fs.length : Nat)), (6, .int .i64 (0 : Nat))] [⟨fns fs, 2, 0, some 0, false⟩] o.x o.e o.h := by
  refine lp_all (fs.length) (fun k => !(clL (wo fs k)).isEmpty) (fun i => [(0, .sl 0 0 fs.length), (5, .int .i64 (fs.length : Nat)), (6, .int .i64 (i : Nat))]) (fun i => [⟨fns fs, 2, 0, some 0, false⟩]) _ _ ?_ ?_ ?_ (fs.length) 0 o (by omega) ho
  · intro i hi hp
    have hlt : decide ((i : Int) < (fs.length : Nat)) = true := decide_eq_true (by omega)
    have hp' : (!(clL (wo fs i)).isEmpty) = true := hp
    have e0 := evwo fs i hi h2 hln
    have e1 := evic (wo fs i) (by rw [wo_len hi]; omega) (wo_all hi hall)
    rw [show (clL (wo fs i)).isEmpty = false by simpa using hp'] at e1
    unfold m80_0
    repeat' (first
      | (refine g_op ?_; first
        | refine ep_mov rfl ?_
        | refine ep_call0 rfl (by first | exact e0 | exact e1) rfl rfl ?_
        | refine sp_call rfl rfl rfl rfl (by first | exact e0 | exact e1) ⟨rfl, rfl, rfl, rfl⟩ rfl rfl rfl ?_
        | refine ep_bin rfl rfl (by first | exact b_add (by omega) (by omega) | exact b_sub (by omega) (by omega) | exact b_and (by omega) (by omega) | exact b_or (by omega) (by omega) | exact b_shr (by omega) | exact b_shl (by omega) (by omega) | exact b_lss | exact b_leq | exact b_gtr | exact b_geq | exact b_eql | exact b_neq) ?_)
      | (refine g_ops ?_; first | refine eo_none ?_ | refine eo_nil ?_)
      | (refine g_code ?_; first | refine ec_seq ?_ | refine ec_region ?_ | refine ec_block ?_ | refine ec_skip ?_ | refine ec_exit ?_ | refine ec_ret ?_ | refine ec_condT rfl ?_ | refine ec_condF rfl ?_ | refine ec_condTH rfl (by assumption) ?_ | refine ec_condFH rfl (by assumption) ?_)
      | refine ek_seqN ?_ | refine ek_seqX ?_ | refine ek_seqR ?_ | refine ek_blkN ?_ | refine ek_blkR ?_ | refine ek_blkX ?_ | refine ek_blkY rfl ?_)
    exact rnd_on (by rfl) (scmp2 (by rfl) (by rfl) (by exact ⟨rfl, rfl, rfl⟩) (by rfl) (by first | rfl | (simp; done) | (simp [ints, prs]; done)) (by rfl) (by first | rfl | (simp; done) | (simp [ints, prs]; done)))
  · intro i hi hp
    have hlt : decide ((i : Int) < (fs.length : Nat)) = true := decide_eq_true (by omega)
    have hp' : (!(clL (wo fs i)).isEmpty) = false := hp
    have e0 := evwo fs i hi h2 hln
    have e1 := evic (wo fs i) (by rw [wo_len hi]; omega) (wo_all hi hall)
    rw [show (clL (wo fs i)).isEmpty = true by simpa using hp'] at e1
    unfold m80_0
    repeat' (first
      | (refine g_op ?_; first
        | refine ep_mov rfl ?_
        | refine ep_call0 rfl (by first | exact e0 | exact e1) rfl rfl ?_
        | refine sp_call rfl rfl rfl rfl (by first | exact e0 | exact e1) ⟨rfl, rfl, rfl, rfl⟩ rfl rfl rfl ?_
        | refine ep_bin rfl rfl (by first | exact b_add (by omega) (by omega) | exact b_sub (by omega) (by omega) | exact b_and (by omega) (by omega) | exact b_or (by omega) (by omega) | exact b_shr (by omega) | exact b_shl (by omega) (by omega) | exact b_lss | exact b_leq | exact b_gtr | exact b_geq | exact b_eql | exact b_neq) ?_)
      | (refine g_ops ?_; first | refine eo_none ?_ | refine eo_nil ?_)
      | (refine g_code ?_; first | refine ec_seq ?_ | refine ec_region ?_ | refine ec_block ?_ | refine ec_skip ?_ | refine ec_exit ?_ | refine ec_ret ?_ | refine ec_condT rfl ?_ | refine ec_condF rfl ?_ | refine ec_condTH rfl (by assumption) ?_ | refine ec_condFH rfl (by assumption) ?_)
      | refine ek_seqN ?_ | refine ek_seqX ?_ | refine ek_seqR ?_ | refine ek_blkN ?_ | refine ek_blkR ?_ | refine ek_blkX ?_ | refine ek_blkY rfl ?_)
    exact rnd_out (by rfl) (by simp) (scmp2 (by rfl) (by rfl) (by exact ⟨rfl, rfl, rfl⟩) (by rfl) (by first | rfl | (simp; done) | (simp [ints, prs]; done)) (by rfl) (by first | rfl | (simp; done) | (simp [ints, prs]; done)))
  · have hlt : decide (((fs.length : Nat) : Int) < (fs.length : Nat)) = false := decide_eq_false (by omega)
    unfold m80_0
    repeat' (first
      | (refine g_op ?_; first
        | refine ep_mov rfl ?_
        | refine ep_bin rfl rfl (by first | exact b_add (by omega) (by omega) | exact b_sub (by omega) (by omega) | exact b_and (by omega) (by omega) | exact b_or (by omega) (by omega) | exact b_shr (by omega) | exact b_shl (by omega) (by omega) | exact b_lss | exact b_leq | exact b_gtr | exact b_geq | exact b_eql | exact b_neq) ?_)
      | (refine g_ops ?_; first | refine eo_none ?_ | refine eo_nil ?_)
      | (refine g_code ?_; first | refine ec_seq ?_ | refine ec_region ?_ | refine ec_block ?_ | refine ec_skip ?_ | refine ec_exit ?_ | refine ec_ret ?_ | refine ec_condT rfl ?_ | refine ec_condF rfl ?_ | refine ec_condTH rfl (by assumption) ?_ | refine ec_condFH rfl (by assumption) ?_)
      | refine ek_seqN ?_ | refine ek_seqX ?_ | refine ek_seqR ?_ | refine ek_blkN ?_ | refine ek_blkR ?_ | refine ek_blkX ?_ | refine ek_blkY rfl ?_)
    exact rnd_out (by rfl) (by simp) (scmp2 (by rfl) (by rfl) (by exact ⟨rfl, rfl, rfl⟩) (by rfl) (by first | rfl | (simp; done) | (simp [ints, prs]; done)) (by rfl) (by first | rfl | (simp; done) | (simp [ints, prs]; done)))

theorem lpib_1 (fs : List (Int × Int)) (hln : fs.length ≤ 1048576) (hall : allFunc fs = true) (h2 : fs.length ≤ 1) (o : Out) (ho : (if allF (fun k => !(clL (wo fs k)).isEmpty) 0 (fs.length) = true then (⟨.exit 0, [(0, .sl 0 0 fs.length)], [⟨fns fs, 2, 0, some 0, false⟩]⟩ : Out) else ⟨.ret, [(2, .bool false)], [⟨fns fs, 2, 0, some 0, false⟩]⟩) = o) :
    LpS cx 16 1 m80_0 [(0, .sl 0 0 fs.length), (5, .int .i64 (fs.length : Nat)), (6, .int .i64 (0 : Nat))] [⟨fns fs, 2, 0, some 0, false⟩] o.x o.e o.h := by
  refine lp_all (fs.length) (fun k => !(clL (wo fs k)).isEmpty) (fun i => [(0, .sl 0 0 fs.length), (5, .int .i64 (fs.length : Nat)), (6, .int .i64 (i : Nat))]) (fun i => [⟨fns fs, 2, 0, some 0, false⟩]) _ _ ?_ ?_ ?_ (fs.length) 0 o (by omega) ho
  · intro i hi hp
    have hlt : decide ((i : Int) < (fs.length : Nat)) = true := decide_eq_true (by omega)
    have hp' : (!(clL (wo fs i)).isEmpty) = true := hp
    have h1 : fs.length = 1 := by omega
    have hi0 : i = 0 := by omega
    have e0 : Ev cx 91 [.sl 0 0 fs.length, .int .i64 (i : Nat)] [⟨fns fs, 2, 0, some 0, false⟩] .nils [⟨fns fs, 2, 0, some 0, false⟩] := by rw [hi0]; exact evwo1 fs h1
    have e1 := evicn
    unfold m80_0
    repeat' (first
      | (refine g_op ?_; first
        | refine ep_mov rfl ?_
        | refine ep_call0 rfl (by first | exact e0 | exact e1) rfl rfl ?_
        | refine sp_call rfl rfl rfl rfl (by first | exact e0 | exact e1) ⟨rfl, rfl, rfl, rfl⟩ rfl rfl rfl ?_
        | refine ep_bin rfl rfl (by first | exact b_add (by omega) (by omega) | exact b_sub (by omega) (by omega) | exact b_and (by omega) (by omega) | exact b_or (by omega) (by omega) | exact b_shr (by omega) | exact b_shl (by omega) (by omega) | exact b_lss | exact b_leq | exact b_gtr | exact b_geq | exact b_eql | exact b_neq) ?_)
      | (refine g_ops ?_; first | refine eo_none ?_ | refine eo_nil ?_)
      | (refine g_code ?_; first | refine ec_seq ?_ | refine ec_region ?_ | refine ec_block ?_ | refine ec_skip ?_ | refine ec_exit ?_ | refine ec_ret ?_ | refine ec_condT rfl ?_ | refine ec_condF rfl ?_ | refine ec_condTH rfl (by assumption) ?_ | refine ec_condFH rfl (by assumption) ?_)
      | refine ek_seqN ?_ | refine ek_seqX ?_ | refine ek_seqR ?_ | refine ek_blkN ?_ | refine ek_blkR ?_ | refine ek_blkX ?_ | refine ek_blkY rfl ?_)
    exact rnd_on (by rfl) (scmp2 (by rfl) (by rfl) (by exact ⟨rfl, rfl, rfl⟩) (by rfl) (by first | rfl | (simp; done) | (simp [ints, prs]; done)) (by rfl) (by first | rfl | (simp; done) | (simp [ints, prs]; done)))
  · intro i hi hp
    have hlt : decide ((i : Int) < (fs.length : Nat)) = true := decide_eq_true (by omega)
    have hp' : (!(clL (wo fs i)).isEmpty) = false := hp
    have h1 : fs.length = 1 := by omega
    have hi0 : i = 0 := by omega
    have e0 : Ev cx 91 [.sl 0 0 fs.length, .int .i64 (i : Nat)] [⟨fns fs, 2, 0, some 0, false⟩] .nils [⟨fns fs, 2, 0, some 0, false⟩] := by rw [hi0]; exact evwo1 fs h1
    have e1 := evicn
    subst hi0
    rw [wo_1 h1] at hp'
    simp at hp'
  · have hlt : decide (((fs.length : Nat) : Int) < (fs.length : Nat)) = false := decide_eq_false (by omega)
    unfold m80_0
    repeat' (first
      | (refine g_op ?_; first
        | refine ep_mov rfl ?_
        | refine ep_bin rfl rfl (by first | exact b_add (by omega) (by omega) | exact b_sub (by omega) (by omega) | exact b_and (by omega) (by omega) | exact b_or (by omega) (by omega) | exact b_shr (by omega) | exact b_shl (by omega) (by omega) | exact b_lss | exact b_leq | exact b_gtr | exact b_geq | exact b_eql | exact b_neq) ?_)
      | (refine g_ops ?_; first | refine eo_none ?_ | refine eo_nil ?_)
      | (refine g_code ?_; first | refine ec_seq ?_ | refine ec_region ?_ | refine ec_block ?_ | refine ec_skip ?_ | refine ec_exit ?_ | refine ec_ret ?_ | refine ec_condT rfl ?_ | refine ec_condF rfl ?_ | refine ec_condTH rfl (by assumption) ?_ | refine ec_condFH rfl (by assumption) ?_)
      | refine ek_seqN ?_ | refine ek_seqX ?_ | refine ek_seqR ?_ | refine ek_blkN ?_ | refine ek_blkR ?_ | refine ek_blkX ?_ | refine ek_blkY rfl ?_)
    exact rnd_out (by rfl) (by simp) (scmp2 (by rfl) (by rfl) (by exact ⟨rfl, rfl, rfl⟩) (by rfl) (by first | rfl | (simp; done) | (simp [ints, prs]; done)) (by rfl) (by first | rfl | (simp; done) | (simp [ints, prs]; done)))

theorem evib (fs : List (Int × Int)) (hln : fs.length ≤ 1048576) (hall : allFunc fs = true) : Ev cx 80 [.sl 0 0 fs.length] [⟨fns fs, 2, 0, some 0, false⟩] (.bool (baseB fs)) [⟨fns fs, 2, 0, some 0, false⟩] := by
  have e1 := evic fs hln hall
  by_cases h2 : 2 ≤ fs.length
  · cases hs : allF (fun k => !(clL (wo fs k)).isEmpty) 0 fs.length
    · have lp := lpib_n fs hln hall h2 _ (if_neg (by rw [hs]; simp))
      rw [baseB, hs, Bool.false_and]
      refine has80.eev rfl rfl ?_
      unfold m80
      repeat' (first
        | refine sc_loop lp rfl rfl ⟨rfl, rfl, rfl⟩ rfl rfl rfl ?_
        | (refine g_op ?_; first
          | refine ep_mov rfl ?_
          | refine ep_lenS rfl ?_ | refine ep_lenN rfl ?_ | refine ep_lenE rfl ?_)
        | (refine g_ops ?_; first | refine eo_none ?_ | refine eo_nil ?_)
        | (refine g_code ?_; first | refine ec_seq ?_ | refine ec_region ?_ | refine ec_block ?_ | refine ec_ret ?_)
        | refine ek_seqN ?_ | refine ek_seqX ?_ | refine ek_seqR ?_ | refine ek_blkN ?_ | refine ek_blkR ?_ | refine ek_blkX ?_ | refine ek_blkY rfl ?_)
      refine sfin (.inr rfl) (by rfl) (by rfl) (by exact ⟨rfl, rfl, rfl⟩) (by rfl) (by rfl) (by rfl) (by first | rfl | (simp; done) | (simp [ints, prs]; done))
    · have lp := lpib_n fs hln hall h2 _ (if_pos hs)
      rw [baseB, hs, Bool.true_and]
      refine has80.eev rfl rfl ?_
      unfold m80
      repeat' (first
        | refine sc_loop lp rfl rfl ⟨rfl, rfl, rfl⟩ rfl rfl rfl ?_
        | (refine g_op ?_; first
          | refine ep_mov rfl ?_
          | refine ep_call0 rfl (by first | exact e1) rfl rfl ?_
          | refine sp_call rfl rfl rfl rfl (by first | exact e1) ⟨rfl, rfl, rfl, rfl⟩ rfl rfl rfl ?_
          | refine ep_lenS rfl ?_ | refine ep_lenN rfl ?_ | refine ep_lenE rfl ?_)
        | (refine g_ops ?_; first | refine eo_none ?_ | refine eo_nil ?_)
        | (refine g_code ?_; first | refine ec_seq ?_ | refine ec_region ?_ | refine ec_block ?_ | refine ec_ret ?_)
        | refine ek_seqN ?_ | refine ek_seqX ?_ | refine ek_seqR ?_ | refine ek_blkN ?_ | refine ek_blkR ?_ | refine ek_blkX ?_ | refine ek_blkY rfl ?_)
      refine sfin (.inr rfl) (by rfl) (by rfl) (by exact ⟨rfl, rfl, rfl⟩) (by rfl) (by rfl) (by rfl) (by first | rfl | (simp; done) | (simp [ints, prs]; done))
  · cases hs : allF (fun k => !(clL (wo fs k)).isEmpty) 0 fs.length
    · have lp := lpib_1 fs hln hall (by omega) _ (if_neg (by rw [hs]; simp))
      rw [baseB, hs, Bool.false_and]
      refine has80.eev rfl rfl ?_
      unfold m80
      repeat' (first
        | refine sc_loop lp rfl rfl ⟨rfl, rfl, rfl⟩ rfl rfl rfl ?_
        | (refine g_op ?_; first
          | refine ep_mov rfl ?_
          | refine ep_lenS rfl ?_ | refine ep_lenN rfl ?_ | refine ep_lenE rfl ?_)
        | (refine g_ops ?_; first | refine eo_none ?_ | refine eo_nil ?_)
        | (refine g_code ?_; first | refine ec_seq ?_ | refine ec_region ?_ | refine ec_block ?_ | refine ec_ret ?_)
        | refine ek_seqN ?_ | refine ek_seqX ?_ | refine ek_seqR ?_ | refine ek_blkN ?_ | refine ek_blkR ?_ | refine ek_blkX ?_ | refine ek_blkY rfl ?_)
      refine sfin (.inr rfl) (by rfl) (by rfl) (by exact ⟨rfl, rfl, rfl⟩) (by rfl) (by rfl) (by rfl) (by first | rfl | (simp; done) | (simp [ints, prs]; done))
    · have lp := lpib_1 fs hln hall (by omega) _ (if_pos hs)
      rw [baseB, hs, Bool.true_and]
      refine has80.eev rfl rfl ?_
      unfold m80
      repeat' (first
        | refine sc_loop lp rfl rfl ⟨rfl, rfl, rfl⟩ rfl rfl rfl ?_
        | (refine g_op ?_; first
          | refine ep_mov rfl ?_
          | refine ep_call0 rfl (by first | exact e1) rfl rfl ?_
          | refine sp_call rfl rfl rfl rfl (by first | exact e1) ⟨rfl, rfl, rfl, rfl⟩ rfl rfl rfl ?_
          | refine ep_lenS rfl ?_ | refine ep_lenN rfl ?_ | refine ep_lenE rfl ?_)
        | (refine g_ops ?_; first | refine eo_none ?_ | refine eo_nil ?_)
        | (refine g_code ?_; first | refine ec_seq ?_ | refine ec_region ?_ | refine ec_block ?_ | refine ec_ret ?_)
        | refine ek_seqN ?_ | refine ek_seqX ?_ | refine ek_seqR ?_ | refine ek_blkN ?_ | refine ek_blkR ?_ | refine ek_blkX ?_ | refine ek_blkY rfl ?_)
      refine sfin (.inr rfl) (by rfl) (by rfl) (by exact ⟨rfl, rfl, rfl⟩) (by rfl) (by rfl) (by rfl) (by first | rfl | (simp; done) | (simp [ints, prs]; done))
-- 34
def ibB (fs : List (Int × Int)) : Bool := decide (lcode fs = 0) && baseB fs
-- impl.IsBase
def m34 : MC := (.seq (.region [⟨(.mov (.k (.bool false))), (some 2), none⟩, ⟨(.mov (.k (.int .i64 0))), (some 3), none⟩] false) (.seq (.seq (.region [⟨(.mov (.t 0)), (some 5), none⟩, ⟨(.call 79 [(.t 5)]), (some 6), none⟩, ⟨(.mov (.t 6)), (some 4), none⟩] false) (.seq (.region [⟨(.mov (.t 4)), (some 7), none⟩, ⟨(.bin .neq (.t 7) (.k (.int .i64 0))), (some 8), none⟩] false) (.cond (.t 8) (.seq (.region [⟨(.mov (.t 4)), (some 9), none⟩, ⟨(.mov (.k (.bool false))), (some 2), none⟩, ⟨(.mov (.t 9)), (some 3), none⟩] false) .ret) .skip))) (.seq (.region [⟨(.mov (.t 0)), (some 10), none⟩, ⟨(.call 80 [(.t 10)]), (some 11), none⟩, ⟨(.mov (.t 11)), (some 2), none⟩, ⟨(.mov (.k (.int .i64 0))), (some 3), none⟩] false) .ret)))
theorem has34 : Has cx 34 12 m34 [(.tmp 2), (.tmp 3)] :=
  ⟨⟨Try.f34, Try.f34.body.getD .skip, by kernel_rfl, by kernel_rfl, by kernel_rfl, by kernel_rfl, by kernel_rfl, by kernel_rfl⟩⟩
theorem ev34 (fs : List (Int × Int)) (hln : fs.length ≤ 1048576) : Ev cx 34 [.sl 0 0 fs.length] [⟨fns fs, 2, 0, some 0, false⟩] (.tup [.bool (ibB fs), .int .i64 (lcode fs)]) [⟨fns fs, 2, 0, some 0, false⟩] := by
  have e1 := ev79 fs hln
  by_cases h0 : lcode fs = 0
  · have ha : allFunc fs = true := by
      cases h : allFunc fs
      · rw [lcode, h] at h0; simp at h0
      · rfl
    have e2 := evib fs hln ha
    rw [ibB, decide_eq_true h0, Bool.true_and, h0]
    rw [h0] at e1
    refine has34.eev rfl rfl ?_
    unfold m34
    repeat' (first
      | (refine g_op ?_; first
        | refine ep_mov rfl ?_
        | refine ep_call0 rfl (by first | exact e1 | exact e2) rfl rfl ?_
        | refine sp_call rfl rfl rfl rfl (by first | exact e1 | exact e2) ⟨rfl, rfl, rfl, rfl⟩ rfl rfl rfl ?_
        | refine ep_bin rfl rfl (by first | exact b_add (by omega) (by omega) | exact b_sub (by omega) (by omega) | exact b_and (by omega) (by omega) | exact b_or (by omega) (by omega) | exact b_shr (by omega) | exact b_shl (by omega) (by omega) | exact b_lss | exact b_leq | exact b_gtr | exact b_geq | exact b_eql | exact b_neq) ?_)
      | (refine g_ops ?_; first | refine eo_none ?_ | refine eo_nil ?_)
      | (refine g_code ?_; first | refine ec_seq ?_ | refine ec_region ?_ | refine ec_skip ?_ | refine ec_ret ?_ | refine ec_condT rfl ?_ | refine ec_condF rfl ?_ | refine ec_condTH rfl (by assumption) ?_ | refine ec_condFH rfl (by assumption) ?_)
      | refine ek_seqN ?_ | refine ek_seqR ?_)
    refine sfin (.inr rfl) (by rfl) (by rfl) (by exact ⟨rfl, rfl, rfl⟩) (by rfl) (by rfl) (by rfl) (by first | rfl | (simp; done) | (simp [ints, prs]; done))
  · have hq2 : (lcode fs != 0) = true := by simpa using h0
    rw [ibB, decide_eq_false h0, Bool.false_and]
    refine has34.eev rfl rfl ?_
    unfold m34
    repeat' (first
      | (refine g_op ?_; first
        | refine ep_mov rfl ?_
        | refine ep_call0 rfl (by first | exact e1) rfl rfl ?_
        | refine sp_call rfl rfl rfl rfl (by first | exact e1) ⟨rfl, rfl, rfl, rfl⟩ rfl rfl rfl ?_
        | refine ep_bin rfl rfl (by first | exact b_add (by omega) (by omega) | exact b_sub (by omega) (by omega) | exact b_and (by omega) (by omega) | exact b_or (by omega) (by omega) | exact b_shr (by omega) | exact b_shl (by omega) (by omega) | exact b_lss | exact b_leq | exact b_gtr | exact b_geq | exact b_eql | exact b_neq) ?_)
      | (refine g_ops ?_; first | refine eo_none ?_ | refine eo_nil ?_)
      | (refine g_code ?_; first | refine ec_seq ?_ | refine ec_region ?_ | refine ec_skip ?_ | refine ec_ret ?_ | refine ec_condT rfl ?_ | refine ec_condF rfl ?_ | refine ec_condTH rfl (by assumption) ?_ | refine ec_condFH rfl (by assumption) ?_)
      | refine ek_seqN ?_ | refine ek_seqR ?_)
    refine sfin (.inr rfl) (by rfl) (by rfl) (by exact ⟨rfl, rfl, rfl⟩) (by rfl) (by rfl) (by rfl) (by first | rfl | (simp; done) | (simp [ints, prs]; done))
-- spec.l02Base
def m77_0 : MC := (.seq (.seq (.region [⟨(.mov (.t 5)), (some 11), none⟩, ⟨(.mov (.t 0)), (some 12), none⟩, ⟨(.len (.t 12)), (some 13), none⟩, ⟨(.bin .lss (.t 11) (.t 13)), (some 14), none⟩] false) (.cond (.t 14) .skip (.exit 0))) (.seq (.block 1 (.seq (.region [⟨(.mov (.t 5)), (some 17), none⟩, ⟨(.conv .u64 (.t 17)), (some 18), none⟩, ⟨(.bin .shl (.k (.int .i64 1)) (.t 18)), (some 19), none⟩, ⟨(.mov (.t 19)), (some 6), none⟩] false) (.seq (.region [⟨(.mov (.t 1)), (some 20), none⟩, ⟨(.mov (.t 6)), (some 21), none⟩, ⟨(.bin .and (.t 20) (.t 21)), (some 22), none⟩, ⟨(.bin .neq (.t 22) (.k (.int .i64 0))), (some 23), none⟩, ⟨(.mov (.t 23)), (some 24), none⟩, ⟨(.mov (.t 0)), (some 25), (some (24, true))⟩, ⟨(.mov (.t 1)), (some 26), (some (24, true))⟩, ⟨(.mov (.t 6)), (some 27), (some (24, true))⟩, ⟨(.bin .sub (.t 26) (.t 27)), (some 28), (some (24, true))⟩, ⟨(.call 120 [(.t 25), (.t 28)]), (some 29), (some (24, true))⟩, ⟨(.bin .eql (.t 29) (.k (.int .i64 0))), (some 30), (some (24, true))⟩, ⟨(.pick (.t 24) (.t 30) (.k (.bool false))), (some 31), none⟩] false) (.cond (.t 31) (.seq (.region [⟨(.mov (.k (.bool false))), (some 4), none⟩] false) .ret) .skip)))) (.region [⟨(.mov (.t 5)), (some 15), none⟩, ⟨(.bin .add (.t 15) (.k (.int .i64 1))), (some 16), none⟩, ⟨(.mov (.t 16)), (some 5), none⟩] false)))
def m77 : MC := (.seq (.region [⟨(.mov (.k (.bool false))), (some 4), none⟩] false) (.seq (.seq (.region [⟨(.mov (.t 0)), (some 7), none⟩, ⟨(.mov (.t 1)), (some 8), none⟩, ⟨(.call 120 [(.t 7), (.t 8)]), (some 9), none⟩, ⟨(.bin .neq (.t 9) (.k (.int .i64 0))), (some 10), none⟩] false) (.cond (.t 10) (.seq (.region [⟨(.mov (.k (.bool false))), (some 4), none⟩] false) .ret) .skip)) (.seq (.seq (.region [⟨(.mov (.k (.int .i64 0))), (some 5), none⟩] false) (.block 0 (.loop m77_0))) (.seq (.region [⟨(.mov (.k (.bool true))), (some 4), none⟩] false) .ret))))
theorem has77 : Has cx 77 32 m77 [(.tmp 4)] :=
  ⟨⟨Try.f77, Try.f77.body.getD .skip, by kernel_rfl, by kernel_rfl, by kernel_rfl, by kernel_rfl, by kernel_rfl, by kernel_rfl⟩⟩
theorem lpsb (fs : List (Int × Int)) (hln : fs.length ≤ 1048576) (hall : allFunc fs = true) (h8 : fs.length ≤ 8) (o : Out) (ho : (if allF (fun k => !(clL (wo fs k)).isEmpty) 0 (fs.length) = true then (⟨.exit 0, [], [⟨fns fs, 2, 0, some 0, false⟩]⟩ : Out) else ⟨.ret, [(4, .bool false)], [⟨fns fs, 2, 0, some 0, false⟩]⟩) = o) :
    LpS cx 32 1 m77_0 [(0, .sl 0 0 fs.length), (1, .int .i64 (R2 fs.length - 1 : Nat)), (5, .int .i64 (0 : Nat))] [⟨fns fs, 2, 0, some 0, false⟩] o.x o.e o.h := by
  refine lp_all (fs.length) (fun k => !(clL (wo fs k)).isEmpty) (fun i => [(0, .sl 0 0 fs.length), (1, .int .i64 (R2 fs.length - 1 : Nat)), (5, .int .i64 (i : Nat))]) (fun i => [⟨fns fs, 2, 0, some 0, false⟩]) _ _ ?_ ?_ ?_ (fs.length) 0 o (by omega) ho
  · intro i hi hp
    have hlt : decide ((i : Int) < (fs.length : Nat)) = true := decide_eq_true (by omega)
    have hp' : (!(clL (wo fs i)).isEmpty) = true := hp
    have g1 := R2_mono h8
    have g2 : R2 8 = 256 := by unfold R2; rfl
    have g3 : R2 i < R2 fs.length := by unfold R2; exact Nat.pow_lt_pow_right (by omega) hi
    have g4 := R2_pos i
    have hsh := b_shl1 (k' := .u64) (y := i) (by omega) (by omega)
    have han := b_and (x := R2 fs.length - 1) (y := R2 i) (by omega) (by omega)
    have hae : (R2 fs.length - 1) &&& R2 i = R2 i := by
      apply Nat.eq_of_testBit_eq
      intro j
      rw [Nat.testBit_and, R2_tb]
      by_cases e : i = j
      · subst e
        have := bt_whole (m := fs.length) hi
        rw [bt_tb] at this
        have hb : (R2 fs.length - 1).testBit i = true := by revert this; cases (R2 fs.length - 1).testBit i <;> simp
        rw [hb]; simp
      · simp [e]
    rw [hae] at han
    have hne : (((R2 i : Nat) : Int) != 0) = true := by simp; omega
    have hsub := b_subN (a := R2 fs.length - 1) (b := R2 i) (by omega) (by omega)
    have e1 := ev120 fs hln hall (R2 fs.length - 1 - R2 i) (by omega) h8
    have hq := ibC_i (fs := fs) hi
    rw [show (clL (wo fs i)).isEmpty = false by simpa using hp'] at hq
    unfold m77_0
    repeat' (first
      | (refine g_op ?_; first
        | refine ep_mov rfl ?_
        | refine ep_call0 rfl (by first | exact e1) rfl rfl ?_
        | refine sp_call rfl rfl rfl rfl (by first | exact e1) ⟨rfl, rfl, rfl, rfl⟩ rfl rfl rfl ?_
        | refine ep_bin rfl rfl (by first | exact hsh | exact han | exact hsub | exact b_add (by omega) (by omega) | exact b_sub (by omega) (by omega) | exact b_and (by omega) (by omega) | exact b_or (by omega) (by omega) | exact b_shr (by omega) | exact b_shl (by omega) (by omega) | exact b_lss | exact b_leq | exact b_gtr | exact b_geq | exact b_eql | exact b_neq) ?_
        | refine ep_pickT rfl rfl ?_ | refine ep_pickF rfl rfl ?_ | refine ep_pickTH rfl (by assumption) rfl ?_ | refine ep_pickFH rfl (by assumption) rfl ?_ | refine ep_conv rfl (by first | exact w_u64 (by omega) (by omega) | exact wrap_id (by omega) (by omega) | rfl) ?_
        | refine ep_lenS rfl ?_ | refine ep_lenN rfl ?_ | refine ep_lenE rfl ?_)
      | (refine g_ops ?_; first | refine eo_none ?_ | refine eo_nil ?_ | refine eo_yes rfl ?_ | refine eo_no rfl ?_ | refine eo_und rfl ?_ | refine eo_yesH rfl (by assumption) ?_ | refine eo_noH rfl (by assumption) ?_)
      | (refine g_code ?_; first | refine ec_seq ?_ | refine ec_region ?_ | refine ec_block ?_ | refine ec_skip ?_ | refine ec_exit ?_ | refine ec_ret ?_ | refine ec_condT rfl ?_ | refine ec_condF rfl ?_ | refine ec_condTH rfl (by assumption) ?_ | refine ec_condFH rfl (by assumption) ?_)
      | refine ek_seqN ?_ | refine ek_seqX ?_ | refine ek_seqR ?_ | refine ek_blkN ?_ | refine ek_blkR ?_ | refine ek_blkX ?_ | refine ek_blkY rfl ?_)
    exact rnd_on (by rfl) (scmp2 (by rfl) (by rfl) (by exact ⟨rfl, rfl, rfl⟩) (by rfl) (by first | rfl | (simp; done) | (simp [ints, prs]; done)) (by rfl) (by first | rfl | (simp; done) | (simp [ints, prs]; done)))
  · intro i hi hp
    have hlt : decide ((i : Int) < (fs.length : Nat)) = true := decide_eq_true (by omega)
    have hp' : (!(clL (wo fs i)).isEmpty) = false := hp
    have g1 := R2_mono h8
    have g2 : R2 8 = 256 := by unfold R2; rfl
    have g3 : R2 i < R2 fs.length := by unfold R2; exact Nat.pow_lt_pow_right (by omega) hi
    have g4 := R2_pos i
    have hsh := b_shl1 (k' := .u64) (y := i) (by omega) (by omega)
    have han := b_and (x := R2 fs.length - 1) (y := R2 i) (by omega) (by omega)
    have hae : (R2 fs.length - 1) &&& R2 i = R2 i := by
      apply Nat.eq_of_testBit_eq
      intro j
      rw [Nat.testBit_and, R2_tb]
      by_cases e : i = j
      · subst e
        have := bt_whole (m := fs.length) hi
        rw [bt_tb] at this
        have hb : (R2 fs.length - 1).testBit i = true := by revert this; cases (R2 fs.length - 1).testBit i <;> simp
        rw [hb]; simp
      · simp [e]
    rw [hae] at han
    have hne : (((R2 i : Nat) : Int) != 0) = true := by simp; omega
    have hsub := b_subN (a := R2 fs.length - 1) (b := R2 i) (by omega) (by omega)
    have e1 := ev120 fs hln hall (R2 fs.length - 1 - R2 i) (by omega) h8
    have hq := ibC_i (fs := fs) hi
    rw [show (clL (wo fs i)).isEmpty = true by simpa using hp'] at hq
    unfold m77_0
    repeat' (first
      | (refine g_op ?_; first
        | refine ep_mov rfl ?_
        | refine ep_call0 rfl (by first | exact e1) rfl rfl ?_
        | refine sp_call rfl rfl rfl rfl (by first | exact e1) ⟨rfl, rfl, rfl, rfl⟩ rfl rfl rfl ?_
        | refine ep_bin rfl rfl (by first | exact hsh | exact han | exact hsub | exact b_add (by omega) (by omega) | exact b_sub (by omega) (by omega) | exact b_and (by omega) (by omega) | exact b_or (by omega) (by omega) | exact b_shr (by omega) | exact b_shl (by omega) (by omega) | exact b_lss | exact b_leq | exact b_gtr | exact b_geq | exact b_eql | exact b_neq) ?_
        | refine ep_pickT rfl rfl ?_ | refine ep_pickF rfl rfl ?_ | refine ep_pickTH rfl (by assumption) rfl ?_ | refine ep_pickFH rfl (by assumption) rfl ?_ | refine ep_conv rfl (by first | exact w_u64 (by omega) (by omega) | exact wrap_id (by omega) (by omega) | rfl) ?_
        | refine ep_lenS rfl ?_ | refine ep_lenN rfl ?_ | refine ep_lenE rfl ?_)
      | (refine g_ops ?_; first | refine eo_none ?_ | refine eo_nil ?_ | refine eo_yes rfl ?_ | refine eo_no rfl ?_ | refine eo_und rfl ?_ | refine eo_yesH rfl (by assumption) ?_ | refine eo_noH rfl (by assumption) ?_)
      | (refine g_code ?_; first | refine ec_seq ?_ | refine ec_region ?_ | refine ec_block ?_ | refine ec_skip ?_ | refine ec_exit ?_ | refine ec_ret ?_ | refine ec_condT rfl ?_ | refine ec_condF rfl ?_ | refine ec_condTH rfl (by assumption) ?_ | refine ec_condFH rfl (by assumption) ?_)
      | refine ek_seqN ?_ | refine ek_seqX ?_ | refine ek_seqR ?_ | refine ek_blkN ?_ | refine ek_blkR ?_ | refine ek_blkX ?_ | refine ek_blkY rfl ?_)
    exact rnd_out (by rfl) (by simp) (scmp2 (by rfl) (by rfl) (by exact ⟨rfl, rfl, rfl⟩) (by rfl) (by first | rfl | (simp; done) | (simp [ints, prs]; done)) (by rfl) (by first | rfl | (simp; done) | (simp [ints, prs]; done)))
  · have hlt : decide (((fs.length : Nat) : Int) < (fs.length : Nat)) = false := decide_eq_false (by omega)
    unfold m77_0
    repeat' (first
      | (refine g_op ?_; first
        | refine ep_mov rfl ?_
        | refine ep_bin rfl rfl (by first | exact b_add (by omega) (by omega) | exact b_sub (by omega) (by omega) | exact b_and (by omega) (by omega) | exact b_or (by omega) (by omega) | exact b_shr (by omega) | exact b_shl (by omega) (by omega) | exact b_lss | exact b_leq | exact b_gtr | exact b_geq | exact b_eql | exact b_neq) ?_
        | refine ep_pickT rfl rfl ?_ | refine ep_pickF rfl rfl ?_ | refine ep_pickTH rfl (by assumption) rfl ?_ | refine ep_pickFH rfl (by assumption) rfl ?_ | refine ep_conv rfl (by first | exact w_u64 (by omega) (by omega) | exact wrap_id (by omega) (by omega) | rfl) ?_
        | refine ep_lenS rfl ?_ | refine ep_lenN rfl ?_ | refine ep_lenE rfl ?_)
      | (refine g_ops ?_; first | refine eo_none ?_ | refine eo_nil ?_ | refine eo_yes rfl ?_ | refine eo_no rfl ?_ | refine eo_und rfl ?_ | refine eo_yesH rfl (by assumption) ?_ | refine eo_noH rfl (by assumption) ?_)
      | (refine g_code ?_; first | refine ec_seq ?_ | refine ec_region ?_ | refine ec_block ?_ | refine ec_skip ?_ | refine ec_exit ?_ | refine ec_ret ?_ | refine ec_condT rfl ?_ | refine ec_condF rfl ?_ | refine ec_condTH rfl (by assumption) ?_ | refine ec_condFH rfl (by assumption) ?_)
      | refine ek_seqN ?_ | refine ek_seqX ?_ | refine ek_seqR ?_ | refine ek_blkN ?_ | refine ek_blkR ?_ | refine ek_blkX ?_ | refine ek_blkY rfl ?_)
    exact rnd_out (by rfl) (by simp) (scmp2 (by rfl) (by rfl) (by exact ⟨rfl, rfl, rfl⟩) (by rfl) (by first | rfl | (simp; done) | (simp [ints, prs]; done)) (by rfl) (by first | rfl | (simp; done) | (simp [ints, prs]; done)))

theorem evsb (fs : List (Int × Int)) (hln : fs.length ≤ 1048576) (hall : allFunc fs = true) (h8 : fs.length ≤ 8) : Ev cx 77 [.sl 0 0 fs.length, .int .i64 (R2 fs.length - 1 : Nat)] [⟨fns fs, 2, 0, some 0, false⟩] (.bool (baseB fs)) [⟨fns fs, 2, 0, some 0, false⟩] := by
  have g1 := R2_mono h8
  have g2 : R2 8 = 256 := by unfold R2; rfl
  have e1 := ev120 fs hln hall (R2 fs.length - 1) (by omega) h8
  have hz := ibC_0 fs
  cases hc : (clL fs).isEmpty
  · rw [hc] at hz
    have hq : (((pk (bn (clP fs (R2 fs.length - 1))) 5 : Nat) : Int) != 0) = true := by rw [bne, hz]; rfl
    rw [baseB, hc, Bool.and_false]
    refine has77.eev rfl rfl ?_
    unfold m77
    repeat' (first
      | (refine g_op ?_; first
        | refine ep_mov rfl ?_
        | refine ep_call0 rfl (by first | exact e1) rfl rfl ?_
        | refine sp_call rfl rfl rfl rfl (by first | exact e1) ⟨rfl, rfl, rfl, rfl⟩ rfl rfl rfl ?_
        | refine ep_bin rfl rfl (by first | exact b_add (by omega) (by omega) | exact b_sub (by omega) (by omega) | exact b_and (by omega) (by omega) | exact b_or (by omega) (by omega) | exact b_shr (by omega) | exact b_shl (by omega) (by omega) | exact b_lss | exact b_leq | exact b_gtr | exact b_geq | exact b_eql | exact b_neq) ?_)
      | (refine g_ops ?_; first | refine eo_none ?_ | refine eo_nil ?_)
      | (refine g_code ?_; first | refine ec_seq ?_ | refine ec_region ?_ | refine ec_block ?_ | refine ec_skip ?_ | refine ec_ret ?_ | refine ec_condT rfl ?_ | refine ec_condF rfl ?_ | refine ec_condTH rfl (by assumption) ?_ | refine ec_condFH rfl (by assumption) ?_)
      | refine ek_seqN ?_ | refine ek_seqX ?_ | refine ek_seqR ?_ | refine ek_blkN ?_ | refine ek_blkR ?_ | refine ek_blkX ?_ | refine ek_blkY rfl ?_)
    refine sfin (.inr rfl) (by rfl) (by rfl) (by exact ⟨rfl, rfl, rfl⟩) (by rfl) (by rfl) (by rfl) (by first | rfl | (simp; done) | (simp [ints, prs]; done))
  · rw [hc] at hz
    have hq : (((pk (bn (clP fs (R2 fs.length - 1))) 5 : Nat) : Int) != 0) = false := by rw [bne, hz]; rfl
    rw [baseB, hc, Bool.and_true]
    cases hs : allF (fun k => !(clL (wo fs k)).isEmpty) 0 fs.length
    · have lp := lpsb fs hln hall h8 _ (if_neg (by rw [hs]; simp))
      refine has77.eev rfl rfl ?_
      unfold m77
      repeat' (first
        | refine sc_loop lp rfl rfl ⟨rfl, rfl, rfl⟩ rfl rfl rfl ?_
        | (refine g_op ?_; first
          | refine ep_mov rfl ?_
          | refine ep_call0 rfl (by first | exact e1) rfl rfl ?_
          | refine sp_call rfl rfl rfl rfl (by first | exact e1) ⟨rfl, rfl, rfl, rfl⟩ rfl rfl rfl ?_
          | refine ep_bin rfl rfl (by first | exact b_add (by omega) (by omega) | exact b_sub (by omega) (by omega) | exact b_and (by omega) (by omega) | exact b_or (by omega) (by omega) | exact b_shr (by omega) | exact b_shl (by omega) (by omega) | exact b_lss | exact b_leq | exact b_gtr | exact b_geq | exact b_eql | exact b_neq) ?_)
        | (refine g_ops ?_; first | refine eo_none ?_ | refine eo_nil ?_)
        | (refine g_code ?_; first | refine ec_seq ?_ | refine ec_region ?_ | refine ec_block ?_ | refine ec_skip ?_ | refine ec_ret ?_ | refine ec_condT rfl ?_ | refine ec_condF rfl ?_ | refine ec_condTH rfl (by assumption) ?_ | refine ec_condFH rfl (by assumption) ?_)
        | refine ek_seqN ?_ | refine ek_seqX ?_ | refine ek_seqR ?_ | refine ek_blkN ?_ | refine ek_blkR ?_ | refine ek_blkX ?_ | refine ek_blkY rfl ?_)
      refine sfin (.inr rfl) (by rfl) (by rfl) (by exact ⟨rfl, rfl, rfl⟩) (by rfl) (by rfl) (by rfl) (by first | rfl | (simp; done) | (simp [ints, prs]; done))
    · have lp := lpsb fs hln hall h8 _ (if_pos hs)
      refine has77.eev rfl rfl ?_
      unfold m77
      repeat' (first
        | refine sc_loop lp rfl rfl ⟨rfl, rfl, rfl⟩ rfl rfl rfl ?_
        | (refine g_op ?_; first
          | refine ep_mov rfl ?_
          | refine ep_call0 rfl (by first | exact e1) rfl rfl ?_
          | refine sp_call rfl rfl rfl rfl (by first | exact e1) ⟨rfl, rfl, rfl, rfl⟩ rfl rfl rfl ?_
          | refine ep_bin rfl rfl (by first | exact b_add (by omega) (by omega) | exact b_sub (by omega) (by omega) | exact b_and (by omega) (by omega) | exact b_or (by omega) (by omega) | exact b_shr (by omega) | exact b_shl (by omega) (by omega) | exact b_lss | exact b_leq | exact b_gtr | exact b_geq | exact b_eql | exact b_neq) ?_)
        | (refine g_ops ?_; first | refine eo_none ?_ | refine eo_nil ?_)
        | (refine g_code ?_; first | refine ec_seq ?_ | refine ec_region ?_ | refine ec_block ?_ | refine ec_skip ?_ | refine ec_ret ?_ | refine ec_condT rfl ?_ | refine ec_condF rfl ?_ | refine ec_condTH rfl (by assumption) ?_ | refine ec_condFH rfl (by assumption) ?_)
        | refine ek_seqN ?_ | refine ek_seqX ?_ | refine ek_seqR ?_ | refine ek_blkN ?_ | refine ek_blkR ?_ | refine ek_blkX ?_ | refine ek_blkY rfl ?_)
      refine sfin (.inr rfl) (by rfl) (by rfl) (by exact ⟨rfl, rfl, rfl⟩) (by rfl) (by rfl) (by rfl) (by first | rfl | (simp; done) | (simp [ints, prs]; done))
-- spec.IsBase
def m33 : MC := (.seq (.region [⟨(.mov (.k (.bool false))), (some 2), none⟩, ⟨(.mov (.k (.int .i64 0))), (some 3), none⟩] false) (.seq (.seq (.region [⟨(.mov (.t 0)), (some 5), none⟩, ⟨(.call 69 [(.t 5)]), (some 6), none⟩, ⟨(.mov (.t 6)), (some 4), none⟩] false) (.seq (.region [⟨(.mov (.t 4)), (some 7), none⟩, ⟨(.bin .neq (.t 7) (.k (.int .i64 0))), (some 8), none⟩] false) (.cond (.t 8) (.seq (.region [⟨(.mov (.t 4)), (some 9), none⟩, ⟨(.mov (.k (.bool false))), (some 2), none⟩, ⟨(.mov (.t 9)), (some 3), none⟩] false) .ret) .skip))) (.seq (.region [⟨(.mov (.t 0)), (some 10), none⟩, ⟨(.mov (.t 0)), (some 11), none⟩, ⟨(.call 78 [(.t 11)]), (some 12), none⟩, ⟨(.call 77 [(.t 10), (.t 12)]), (some 13), none⟩, ⟨(.mov (.t 13)), (some 2), none⟩, ⟨(.mov (.k (.int .i64 0))), (some 3), none⟩] false) .ret)))
theorem has33 : Has cx 33 14 m33 [(.tmp 2), (.tmp 3)] :=
  ⟨⟨Try.f33, Try.f33.body.getD .skip, by kernel_rfl, by kernel_rfl, by kernel_rfl, by kernel_rfl, by kernel_rfl, by kernel_rfl⟩⟩
theorem ev33 (fs : List (Int × Int)) (hln : fs.length ≤ 1048576) : Ev cx 33 [.sl 0 0 fs.length] [⟨fns fs, 2, 0, some 0, false⟩] (.tup [.bool (ibB fs), .int .i64 (lcode fs)]) [⟨fns fs, 2, 0, some 0, false⟩] := by
  have e1 := ev69 fs hln
  by_cases h0 : lcode fs = 0
  · have ha : allFunc fs = true ∧ fs.length ≤ 8 := by
      unfold lcode at h0
      split at h0
      · rename_i h; split at h0
        · omega
        · exact ⟨h, by omega⟩
      · omega
    have e2 := ev78 fs ha.2
    have e3 := evsb fs hln ha.1 ha.2
    rw [ibB, decide_eq_true h0, Bool.true_and, h0]
    rw [h0] at e1
    refine has33.eev rfl rfl ?_
    unfold m33
    repeat' (first
      | (refine g_op ?_; first
        | refine ep_mov rfl ?_
        | refine ep_call0 rfl (by first | exact e1 | exact e2 | exact e3) rfl rfl ?_
        | refine sp_call rfl rfl rfl rfl (by first | exact e1 | exact e2 | exact e3) ⟨rfl, rfl, rfl, rfl⟩ rfl rfl rfl ?_
        | refine ep_bin rfl rfl (by first | exact b_add (by omega) (by omega) | exact b_sub (by omega) (by omega) | exact b_and (by omega) (by omega) | exact b_or (by omega) (by omega) | exact b_shr (by omega) | exact b_shl (by omega) (by omega) | exact b_lss | exact b_leq | exact b_gtr | exact b_geq | exact b_eql | exact b_neq) ?_)
      | (refine g_ops ?_; first | refine eo_none ?_ | refine eo_nil ?_)
      | (refine g_code ?_; first | refine ec_seq ?_ | refine ec_region ?_ | refine ec_skip ?_ | refine ec_ret ?_ | refine ec_condT rfl ?_ | refine ec_condF rfl ?_ | refine ec_condTH rfl (by assumption) ?_ | refine ec_condFH rfl (by assumption) ?_)
      | refine ek_seqN ?_ | refine ek_seqR ?_)
    refine sfin (.inr rfl) (by rfl) (by rfl) (by exact ⟨rfl, rfl, rfl⟩) (by rfl) (by rfl) (by rfl) (by first | rfl | (simp; done) | (simp [ints, prs]; done))
  · have hq2 : (lcode fs != 0) = true := by simpa using h0
    rw [ibB, decide_eq_false h0, Bool.false_and]
    refine has33.eev rfl rfl ?_
    unfold m33
    repeat' (first
      | (refine g_op ?_; first
        | refine ep_mov rfl ?_
        | refine ep_call0 rfl (by first | exact e1) rfl rfl ?_
        | refine sp_call rfl rfl rfl rfl (by first | exact e1) ⟨rfl, rfl, rfl, rfl⟩ rfl rfl rfl ?_
        | refine ep_bin rfl rfl (by first | exact b_add (by omega) (by omega) | exact b_sub (by omega) (by omega) | exact b_and (by omega) (by omega) | exact b_or (by omega) (by omega) | exact b_shr (by omega) | exact b_shl (by omega) (by omega) | exact b_lss | exact b_leq | exact b_gtr | exact b_geq | exact b_eql | exact b_neq) ?_)
      | (refine g_ops ?_; first | refine eo_none ?_ | refine eo_nil ?_)
      | (refine g_code ?_; first | refine ec_seq ?_ | refine ec_region ?_ | refine ec_skip ?_ | refine ec_ret ?_ | refine ec_condT rfl ?_ | refine ec_condF rfl ?_ | refine ec_condTH rfl (by assumption) ?_ | refine ec_condFH rfl (by assumption) ?_)
      | refine ek_seqN ?_ | refine ek_seqR ?_)
    refine sfin (.inr rfl) (by rfl) (by rfl) (by exact ⟨rfl, rfl, rfl⟩) (by rfl) (by rfl) (by rfl) (by first | rfl | (simp; done) | (simp [ints, prs]; done))
-- laws.FnExactIsBase
def m7 : MC := (.seq (.region [⟨(.mov (.k (.bool false))), (some 2), none⟩] false) (.seq (.region [⟨(.mov (.k (.int .i64 1048576))), (some 3), none⟩] false) (.seq (.region [⟨(.mov (.t 0)), (some 9), none⟩, ⟨(.mov (.t 3)), (some 10), none⟩, ⟨(.call 26 [(.t 9), (.t 10)]), (some 11), none⟩, ⟨(.mov (.t 11)), (some 3), none⟩] false) (.seq (.seq (.region [⟨(.mov (.t 3)), (some 12), none⟩, ⟨(.bin .lss (.t 12) (.k (.int .i64 0))), (some 13), none⟩] false) (.cond (.t 13) (.seq (.region [⟨(.mov (.k (.bool true))), (some 2), none⟩] false) .ret) .skip)) (.seq (.region [⟨(.mov (.t 0)), (some 15), none⟩, ⟨(.call 28 [(.t 15)]), (some 16), none⟩, ⟨(.call 33 [(.t 16)]), (some 17), none⟩, ⟨(.mov (.t 17)), (some 14), none⟩, ⟨(.extract (.t 14) 0), (some 18), none⟩, ⟨(.extract (.t 14) 1), (some 19), none⟩, ⟨(.mov (.t 18)), (some 4), none⟩, ⟨(.mov (.t 19)), (some 5), none⟩] false) (.seq (.region [⟨(.mov (.t 0)), (some 20), none⟩, ⟨(.call 28 [(.t 20)]), (some 21), none⟩, ⟨(.mov (.t 21)), (some 6), none⟩] false) (.seq (.region [⟨(.mov (.t 6)), (some 23), none⟩, ⟨(.call 34 [(.t 23)]), (some 24), none⟩, ⟨(.mov (.t 24)), (some 22), none⟩, ⟨(.extract (.t 22) 0), (some 25), none⟩, ⟨(.extract (.t 22) 1), (some 26), none⟩, ⟨(.mov (.t 25)), (some 7), none⟩, ⟨(.mov (.t 26)), (some 8), none⟩] false) (.seq (.seq (.region [⟨(.mov (.t 7)), (some 27), none⟩, ⟨(.mov (.t 4)), (some 28), none⟩, ⟨(.eqb true (.t 27) (.t 28)), (some 29), none⟩, ⟨(.mov (.t 29)), (some 30), none⟩, ⟨(.mov (.t 8)), (some 31), (some (30, false))⟩, ⟨(.mov (.t 5)), (some 32), (some (30, false))⟩, ⟨(.bin .neq (.t 31) (.t 32)), (some 33), (some (30, false))⟩, ⟨(.pick (.t 30) (.k (.bool true)) (.t 33)), (some 34), none⟩] false) (.cond (.t 34) (.seq (.region [⟨(.mov (.k (.bool false))), (some 2), none⟩] false) .ret) .skip)) (.seq (.seq (.region [⟨(.mov (.t 6)), (some 35), none⟩, ⟨(.mov (.t 0)), (some 36), none⟩, ⟨(.call 28 [(.t 36)]), (some 37), none⟩, ⟨(.call 32 [(.t 35), (.t 37)]), (some 38), none⟩, ⟨(.un .not (.t 38)), (some 39), none⟩] false) (.cond (.t 39) (.seq (.region [⟨(.mov (.k (.bool false))), (some 2), none⟩] false) .ret) .skip)) (.seq (.region [⟨(.mov (.k (.bool true))), (some 2), none⟩] false) .ret))))))))))
theorem has7 : Has cx 7 40 m7 [(.tmp 2)] :=
  ⟨⟨Try.f7, Try.f7.body.getD .skip, by kernel_rfl, by kernel_rfl, by kernel_rfl, by kernel_rfl, by kernel_rfl, by kernel_rfl⟩⟩
-- ROW ev7: bd0
theorem ev7 (a : V)  (h : Heap) (c : List Int) (fa : FA .i64 2 a h c) (hb : c.length ≤ 2 * Go.maxLen) : Ev cx 7 [a] h (.bool true) h := by
  have hml : Go.maxLen = 9223372036854775807 := by decide
  cases fa with
  | nil =>
    have s0 := ev26_nils
    have e0 := ev28_nils
    rw [show zints [] = fns [] from rfl] at e0
    have e1 := ev33 []  (by simp)
    have e2 := ev34 []  (by simp)
    have hr0 : (ibB [] != ibB []) = false := by simp
    have hr1 : (lcode [] != lcode []) = false := by simp
    have q3 := ev32 0 (fns []) (fns []) (fun j => ([] : List (Int × Int)).getD j (0, 0)) (some 0) (some 0) (by omega) (fun j hj => fns_pair (by simp at hj)) (fun j hj => fns_pair (by simp at hj))
    refine has7.eev rfl rfl ?_
    unfold m7
    repeat' (first
      | (refine g_op ?_; first
        | refine ep_mov rfl ?_
        | refine ep_call0 rfl (by first | exact e0 | exact s0 | exact e1 | exact e2 | exact q3) rfl rfl ?_
        | refine sp_call rfl rfl rfl rfl (by first | exact e0 | exact s0 | exact e1 | exact e2 | exact q3) ⟨rfl, rfl, rfl, rfl⟩ rfl rfl rfl ?_
        | refine ep_bin rfl rfl (by first | exact b_add (by omega) (by omega) | exact b_sub (by omega) (by omega) | exact b_and (by omega) (by omega) | exact b_or (by omega) (by omega) | exact b_shr (by omega) | exact b_shl (by omega) (by omega) | exact b_lss | exact b_leq | exact b_gtr | exact b_geq | exact b_eql | exact b_neq) ?_
        | refine ep_pickT rfl rfl ?_ | refine ep_pickF rfl rfl ?_ | refine ep_pickTH rfl (by assumption) rfl ?_ | refine ep_pickFH rfl (by assumption) rfl ?_ | refine ep_extract rfl rfl ?_ | refine ep_not rfl ?_
        | refine ep_eqb0 rfl rfl ?_ | refine ep_eqb1 rfl rfl ?_)
      | (refine g_ops ?_; first | refine eo_none ?_ | refine eo_nil ?_ | refine eo_yes rfl ?_ | refine eo_no rfl ?_ | refine eo_und rfl ?_ | refine eo_yesH rfl (by assumption) ?_ | refine eo_noH rfl (by assumption) ?_)
      | (refine g_code ?_; first | refine ec_seq ?_ | refine ec_region ?_ | refine ec_skip ?_ | refine ec_ret ?_ | refine ec_condT rfl ?_ | refine ec_condF rfl ?_ | refine ec_condTH rfl (by assumption) ?_ | refine ec_condFH rfl (by assumption) ?_)
      | refine ek_seqN ?_ | refine ek_seqR ?_)
    refine sfin (.inr rfl) (by rfl) (by rfl) (by exact ⟨rfl, rfl, rfl⟩) (by rfl) (by rfl) (by rfl) (by first | rfl | (simp; done) | (simp [ints, prs]; done))
  | emp =>
    have s0 := ev26_emp
    have e0 := ev28_emp
    rw [show zints [] = fns [] from rfl] at e0
    have e1 := ev33 []  (by simp)
    have e2 := ev34 []  (by simp)
    have hr0 : (ibB [] != ibB []) = false := by simp
    have hr1 : (lcode [] != lcode []) = false := by simp
    have q3 := ev32 0 (fns []) (fns []) (fun j => ([] : List (Int × Int)).getD j (0, 0)) (some 0) (some 0) (by omega) (fun j hj => fns_pair (by simp at hj)) (fun j hj => fns_pair (by simp at hj))
    refine has7.eev rfl rfl ?_
    unfold m7
    repeat' (first
      | (refine g_op ?_; first
        | refine ep_mov rfl ?_
        | refine ep_call0 rfl (by first | exact e0 | exact s0 | exact e1 | exact e2 | exact q3) rfl rfl ?_
        | refine sp_call rfl rfl rfl rfl (by first | exact e0 | exact s0 | exact e1 | exact e2 | exact q3) ⟨rfl, rfl, rfl, rfl⟩ rfl rfl rfl ?_
        | refine ep_bin rfl rfl (by first | exact b_add (by omega) (by omega) | exact b_sub (by omega) (by omega) | exact b_and (by omega) (by omega) | exact b_or (by omega) (by omega) | exact b_shr (by omega) | exact b_shl (by omega) (by omega) | exact b_lss | exact b_leq | exact b_gtr | exact b_geq | exact b_eql | exact b_neq) ?_
        | refine ep_pickT rfl rfl ?_ | refine ep_pickF rfl rfl ?_ | refine ep_pickTH rfl (by assumption) rfl ?_ | refine ep_pickFH rfl (by assumption) rfl ?_ | refine ep_extract rfl rfl ?_ | refine ep_not rfl ?_
        | refine ep_eqb0 rfl rfl ?_ | refine ep_eqb1 rfl rfl ?_)
      | (refine g_ops ?_; first | refine eo_none ?_ | refine eo_nil ?_ | refine eo_yes rfl ?_ | refine eo_no rfl ?_ | refine eo_und rfl ?_ | refine eo_yesH rfl (by assumption) ?_ | refine eo_noH rfl (by assumption) ?_)
      | (refine g_code ?_; first | refine ec_seq ?_ | refine ec_region ?_ | refine ec_skip ?_ | refine ec_ret ?_ | refine ec_condT rfl ?_ | refine ec_condF rfl ?_ | refine ec_condTH rfl (by assumption) ?_ | refine ec_condFH rfl (by assumption) ?_)
      | refine ek_seqN ?_ | refine ek_seqR ?_)
    refine sfin (.inr rfl) (by rfl) (by rfl) (by exact ⟨rfl, rfl, rfl⟩) (by rfl) (by rfl) (by rfl) (by first | rfl | (simp; done) | (simp [ints, prs]; done))
  | sl o n c hc =>
    have s0 := ev26 o n c (by omega)
    by_cases hn : n ≤ 1048576
    · rw [if_pos hn] at s0
      have g1 : decide ((1048576 - (n : Nat) : Int) < 0) = false := decide_eq_false (by omega)
      have e0 := ev28 o n c hc hn
      rw [prOf_fns n c hc] at e0
      have e1 := ev33 (prOf c n)  (by rw [prOf_len]; exact hn)
      have e2 := ev34 (prOf c n)  (by rw [prOf_len]; exact hn)
      rw [prOf_len] at e1 e2
      have hr0 : (ibB (prOf c n) != ibB (prOf c n)) = false := by simp
      have hr1 : (lcode (prOf c n) != lcode (prOf c n)) = false := by simp
      have q3 := ev32 n (fns (prOf c n)) (fns (prOf c n)) (fun j => ((prOf c n) : List (Int × Int)).getD j (0, 0)) (some 0) (some 0) (by omega) (fun j hj => fns_pair (by rwa [prOf_len])) (fun j hj => fns_pair (by rwa [prOf_len]))
      refine has7.eev rfl rfl ?_
      unfold m7
      repeat' (first
        | (refine g_op ?_; first
          | refine ep_mov rfl ?_
          | refine ep_call0 rfl (by first | exact e0 | exact s0 | exact e1 | exact e2 | exact q3) rfl rfl ?_
          | refine sp_call rfl rfl rfl rfl (by first | exact e0 | exact s0 | exact e1 | exact e2 | exact q3) ⟨rfl, rfl, rfl, rfl⟩ rfl rfl rfl ?_
          | refine ep_bin rfl rfl (by first | exact b_add (by omega) (by omega) | exact b_sub (by omega) (by omega) | exact b_and (by omega) (by omega) | exact b_or (by omega) (by omega) | exact b_shr (by omega) | exact b_shl (by omega) (by omega) | exact b_lss | exact b_leq | exact b_gtr | exact b_geq | exact b_eql | exact b_neq) ?_
          | refine ep_pickT rfl rfl ?_ | refine ep_pickF rfl rfl ?_ | refine ep_pickTH rfl (by assumption) rfl ?_ | refine ep_pickFH rfl (by assumption) rfl ?_ | refine ep_extract rfl rfl ?_ | refine ep_not rfl ?_
          | refine ep_eqb0 rfl rfl ?_ | refine ep_eqb1 rfl rfl ?_)
        | (refine g_ops ?_; first | refine eo_none ?_ | refine eo_nil ?_ | refine eo_yes rfl ?_ | refine eo_no rfl ?_ | refine eo_und rfl ?_ | refine eo_yesH rfl (by assumption) ?_ | refine eo_noH rfl (by assumption) ?_)
        | (refine g_code ?_; first | refine ec_seq ?_ | refine ec_region ?_ | refine ec_skip ?_ | refine ec_ret ?_ | refine ec_condT rfl ?_ | refine ec_condF rfl ?_ | refine ec_condTH rfl (by assumption) ?_ | refine ec_condFH rfl (by assumption) ?_)
        | refine ek_seqN ?_ | refine ek_seqR ?_)
      refine sfin (.inr rfl) (by rfl) (by rfl) (by exact ⟨rfl, rfl, rfl⟩) (by rfl) (by rfl) (by rfl) (by first | rfl | (simp; done) | (simp [ints, prs]; done))
    · rw [if_neg hn] at s0
      refine has7.eev rfl rfl ?_
      unfold m7
      repeat' (first
        | (refine g_op ?_; first
          | refine ep_mov rfl ?_
          | refine ep_call0 rfl (by first | exact s0) rfl rfl ?_
          | refine sp_call rfl rfl rfl rfl (by first | exact s0) ⟨rfl, rfl, rfl, rfl⟩ rfl rfl rfl ?_
          | refine ep_bin rfl rfl (by first | exact b_add (by omega) (by omega) | exact b_sub (by omega) (by omega) | exact b_and (by omega) (by omega) | exact b_or (by omega) (by omega) | exact b_shr (by omega) | exact b_shl (by omega) (by omega) | exact b_lss | exact b_leq | exact b_gtr | exact b_geq | exact b_eql | exact b_neq) ?_
          | refine ep_pickT rfl rfl ?_ | refine ep_pickF rfl rfl ?_ | refine ep_pickTH rfl (by assumption) rfl ?_ | refine ep_pickFH rfl (by assumption) rfl ?_ | refine ep_extract rfl rfl ?_ | refine ep_not rfl ?_
          | refine ep_eqb0 rfl rfl ?_ | refine ep_eqb1 rfl rfl ?_)
        | (refine g_ops ?_; first | refine eo_none ?_ | refine eo_nil ?_ | refine eo_yes rfl ?_ | refine eo_no rfl ?_ | refine eo_und rfl ?_ | refine eo_yesH rfl (by assumption) ?_ | refine eo_noH rfl (by assumption) ?_)
        | (refine g_code ?_; first | refine ec_seq ?_ | refine ec_region ?_ | refine ec_skip ?_ | refine ec_ret ?_ | refine ec_condT rfl ?_ | refine ec_condF rfl ?_ | refine ec_condTH rfl (by assumption) ?_ | refine ec_condFH rfl (by assumption) ?_)
        | refine ek_seqN ?_ | refine ek_seqR ?_)
      refine sfin (.inr rfl) (by rfl) (by rfl) (by exact ⟨rfl, rfl, rfl⟩) (by rfl) (by rfl) (by rfl) (by first | rfl | (simp; done) | (simp [ints, prs]; done))



end Go.Proofs.Ytdmpajkcpdjfbaa
