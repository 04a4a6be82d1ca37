/- What each function that the statement reaches returns. -/
import Derived.Test.YtdmpajkcpdjfbaaFnExactDepthNumbersTB
set_option linter.unusedVariables false
set_option linter.unusedSimpArgs false
set_option maxRecDepth 100000
set_option maxHeartbeats 4000000
namespace Go.Proofs.Ytdmpajkcpdjfbaa
open Go Go.Proofs.Ytdmpajkcpdjfbaa.Mi
attribute [local irreducible] code opsK opsDK gopK opK seqK blockK callK binV
attribute [local irreducible] R2 bt
-- spec.l04Depths
def m83_0 : MC := (.seq (.seq (.region [⟨(.mov (.t 6)), (some 14), none⟩, ⟨(.mov (.t 1)), (some 15), none⟩, ⟨(.call 98 [(.t 15)]), (some 16), none⟩, ⟨(.bin .leq (.t 14) (.t 16)), (some 17), none⟩] false) (.cond (.t 17) .skip (.exit 0))) (.seq (.block 1 (.region [⟨(.mov (.t 5)), (some 20), none⟩, ⟨(.bslice 1 [(.int .i64 0)] 1 [(0, (1, (.k (.int .i64 (-1)))))]), (some 21), none⟩, ⟨(.append 1 8 (.t 20) (.t 21)), (some 22), none⟩, ⟨(.mov (.t 22)), (some 5), none⟩] false)) (.region [⟨(.mov (.t 6)), (some 18), none⟩, ⟨(.bin .add (.t 18) (.k (.int .i64 1))), (some 19), none⟩, ⟨(.mov (.t 19)), (some 6), none⟩] false)))
def m83_1 : MC := (.seq (.seq (.region [⟨(.mov (.t 7)), (some 23), none⟩, ⟨(.mov (.t 1)), (some 24), none⟩, ⟨(.bin .lss (.t 23) (.t 24)), (some 25), none⟩] false) (.cond (.t 25) .skip (.exit 2))) (.seq (.block 3 (.region [⟨(.mov (.t 5)), (some 28), none⟩, ⟨(.mov (.t 1)), (some 29), none⟩, ⟨(.mov (.t 7)), (some 30), none⟩, ⟨(.call 122 [(.t 29), (.t 30)]), (some 31), none⟩, ⟨(.field 1 none (.t 31)), (some 32), none⟩, ⟨(.indexAddr 1 (.t 28) (.t 32)), (some 33), none⟩, ⟨(.store 1 (.t 33) (.k (.int .i64 0))), none, none⟩] false)) (.region [⟨(.mov (.t 7)), (some 26), none⟩, ⟨(.bin .add (.t 26) (.k (.int .i64 1))), (some 27), none⟩, ⟨(.mov (.t 27)), (some 7), none⟩] false)))
def m83_3 : MC := (.seq (.seq (.region [⟨(.mov (.t 11)), (some 38), none⟩, ⟨(.mov (.t 1)), (some 39), none⟩, ⟨(.call 98 [(.t 39)]), (some 40), none⟩, ⟨(.bin .leq (.t 38) (.t 40)), (some 41), none⟩] false) (.cond (.t 41) .skip (.exit 6))) (.seq (.block 7 (.seq (.region [⟨(.mov (.t 5)), (some 44), none⟩, ⟨(.mov (.t 11)), (some 45), none⟩, ⟨(.indexAddr 1 (.t 44) (.t 45)), (some 46), none⟩, ⟨(.load none (.t 46)), (some 47), none⟩, ⟨(.bin .geq (.t 47) (.k (.int .i64 0))), (some 48), none⟩] false) (.cond (.t 48) (.region [⟨(.mov (.t 10)), (some 49), none⟩, ⟨(.mov (.t 11)), (some 50), none⟩, ⟨(.bslice 1 [(.int .i64 0)] 1 [(0, (1, (.t 50)))]), (some 51), none⟩, ⟨(.append 1 8 (.t 49) (.t 51)), (some 52), none⟩, ⟨(.mov (.t 52)), (some 10), none⟩] false) .skip))) (.region [⟨(.mov (.t 11)), (some 42), none⟩, ⟨(.bin .add (.t 42) (.k (.int .i64 1))), (some 43), none⟩, ⟨(.mov (.t 43)), (some 11), none⟩] false)))
def m83_4 : MC := (.seq (.seq (.region [⟨(.mov (.t 12)), (some 53), none⟩, ⟨(.mov (.t 0)), (some 54), none⟩, ⟨(.len (.t 54)), (some 55), none⟩, ⟨(.bin .lss (.t 53) (.t 55)), (some 56), none⟩] false) (.cond (.t 56) .skip (.exit 8))) (.seq (.block 9 (.seq (.region [⟨(.mov (.t 0)), (some 59), none⟩, ⟨(.mov (.t 12)), (some 60), none⟩, ⟨(.indexAddr 2 (.t 59) (.t 60)), (some 61), none⟩, ⟨(.load (some 2) (.t 61)), (some 62), none⟩, ⟨(.mov (.t 5)), (some 63), none⟩, ⟨(.mov (.t 10)), (some 64), none⟩, ⟨.empt, (some 65), none⟩, ⟨(.mov (.t 1)), (some 66), none⟩, ⟨(.mov (.t 9)), (some 67), none⟩, ⟨(.call 123 [(.t 62), (.t 63), (.t 64), (.t 65), (.t 66), (.t 67)]), (some 68), none⟩] false) (.cond (.t 68) (.region [⟨(.mov (.k (.bool true))), (some 8), none⟩] false) .skip))) (.region [⟨(.mov (.t 12)), (some 57), none⟩, ⟨(.bin .add (.t 57) (.k (.int .i64 1))), (some 58), none⟩, ⟨(.mov (.t 58)), (some 12), none⟩] false)))
def m83_2 : MC := (.seq (.seq (.region [⟨(.mov (.t 8)), (some 34), none⟩] false) (.cond (.t 34) .skip (.exit 4))) (.seq (.block 5 (.seq (.region [⟨(.mov (.k (.bool false))), (some 8), none⟩] false) (.seq (.region [⟨.empt, (some 37), none⟩, ⟨(.mov (.t 37)), (some 10), none⟩] false) (.seq (.seq (.region [⟨(.mov (.k (.int .i64 0))), (some 11), none⟩] false) (.block 6 (.loop m83_3))) (.seq (.region [⟨(.mov (.k (.int .i64 0))), (some 12), none⟩] false) (.block 8 (.loop m83_4))))))) (.region [⟨(.mov (.t 9)), (some 35), none⟩, ⟨(.bin .add (.t 35) (.k (.int .i64 1))), (some 36), none⟩, ⟨(.mov (.t 36)), (some 9), none⟩] false)))
def m83 : MC := (.seq (.region [⟨(.mov (.k .nils)), (some 4), none⟩] false) (.seq (.region [⟨.empt, (some 13), none⟩, ⟨(.mov (.t 13)), (some 5), none⟩] false) (.seq (.seq (.region [⟨(.mov (.k (.int .i64 0))), (some 6), none⟩] false) (.block 0 (.loop m83_0))) (.seq (.seq (.region [⟨(.mov (.k (.int .i64 0))), (some 7), none⟩] false) (.block 2 (.loop m83_1))) (.seq (.region [⟨(.mov (.k (.bool true))), (some 8), none⟩] false) (.seq (.seq (.region [⟨(.mov (.k (.int .i64 1))), (some 9), none⟩] false) (.block 4 (.loop m83_2))) (.seq (.region [⟨(.mov (.t 5)), (some 69), none⟩, ⟨(.mov (.t 69)), (some 4), none⟩] false) .ret)))))))
theorem has83 : Has cx 83 70 m83 [(.tmp 4)] :=
  ⟨⟨Try.f83, Try.f83.body.getD .skip, by kernel_rfl, by kernel_rfl, by kernel_rfl, by kernel_rfl, by kernel_rfl, by kernel_rfl⟩⟩
theorem lp83_0 (q n : Nat) (fs : List (Int × Int)) (hn : n ≤ 3) (o : Out) (ho : (match selm (fun _ => true) (idn) (R2 (R2 n)) with | [] => (⟨.exit 0, [(0, .sl 0 0 fs.length), (1, .int .i64 (n : Nat)), (5, .emp)], [⟨fns fs, 2, 0, some q, false⟩]⟩ : Out) | x :: xs => ⟨.exit 0, [(0, .sl 0 0 fs.length), (1, .int .i64 (n : Nat)), (5, .sl 1 0 (x :: xs).length)], [⟨fns fs, 2, 0, some q, false⟩, ⟨zints <| mneg (x :: xs), 1, 1, some 0, false⟩]⟩) = o) :
    LpS cx 70 1 m83_0 [(0, .sl 0 0 fs.length), (1, .int .i64 (n : Nat)), (5, .emp), (6, .int .i64 (0 : Nat))] [⟨fns fs, 2, 0, some q, false⟩] o.x o.e o.h := by
  obtain ⟨h1, h2, h3, h4⟩ := shN (n := n) (by omega)
  subst ho
  refine lp_st (R2 (R2 n)) (selm (fun _ => true) (idn)) (fun i s => match s with | [] => [(0, .sl 0 0 fs.length), (1, .int .i64 (n : Nat)), (5, .emp), (6, .int .i64 (i : Nat))] | x :: xs => [(0, .sl 0 0 fs.length), (1, .int .i64 (n : Nat)), (5, .sl 1 0 (x :: xs).length), (6, .int .i64 (i : Nat))]) (fun i s => match s with | [] => [⟨fns fs, 2, 0, some q, false⟩] | x :: xs => [⟨fns fs, 2, 0, some q, false⟩, ⟨zints <| mneg (x :: xs), 1, 1, some 0, false⟩]) (fun s => match s with | [] => ⟨.exit 0, [(0, .sl 0 0 fs.length), (1, .int .i64 (n : Nat)), (5, .emp)], [⟨fns fs, 2, 0, some q, false⟩]⟩ | x :: xs => ⟨.exit 0, [(0, .sl 0 0 fs.length), (1, .int .i64 (n : Nat)), (5, .sl 1 0 (x :: xs).length)], [⟨fns fs, 2, 0, some q, false⟩, ⟨zints <| mneg (x :: xs), 1, 1, some 0, false⟩]⟩) ?_ ?_ (R2 (R2 n)) 0 (by omega)
  · intro i s hi hs
    have hlt : decide ((i : Int) < (R2 (R2 n) : Nat)) = true := decide_eq_true (by omega)
    have hle : decide ((i : Int) ≤ (R2 (R2 n) : Nat) - 1) = true := decide_eq_true (by omega)
    have hlen : s.length ≤ 65536 := by have := selm_len (fun _ => true) (idn) i; rw [hs] at this; omega
    have hp : (fun _ => true) i = true := rfl
    cases s with
    | nil =>
      refine ⟨[(idn) i], by rw [selm_t (p := fun _ => true) hp, hs]; try rfl, ?_⟩
      unfold m83_0
      repeat' (first
        | refine sp_push rfl rfl rfl rfl rfl rfl rfl (mneg_len _) (by omega) (Nat.zero_le _) rfl rfl rfl rfl rfl ?_
        | (refine g_op ?_; first
          | refine ep_mov rfl ?_
          | refine ep_call0 rfl (by first | exact ev98 n (by omega)) rfl rfl ?_
          | refine sp_call rfl rfl rfl rfl (by first | exact ev98 n (by omega)) ⟨rfl, rfl, rfl, rfl⟩ rfl rfl rfl ?_
          | refine ep_bin rfl rfl (by first | exact b_add (by omega) (by omega) | exact b_sub (by omega) (by omega) | exact b_and (by omega) (by omega) | exact b_or (by omega) (by omega) | exact b_shr (by omega) | exact b_shl (by omega) (by omega) | exact b_lss | exact b_leq | exact b_gtr | exact b_geq | exact b_eql | exact b_neq) ?_
          | refine sp_bslice rfl rfl rfl rfl rfl ?_ | refine sp_push0 rfl (by first | exact .inl rfl | exact .inr rfl) rfl rfl rfl rfl rfl (by decide) rfl rfl rfl ?_ | refine sp_push rfl rfl rfl rfl rfl rfl rfl (by first | exact ints_len _ | exact prs_len _ _ | exact zints_len _) (by omega) (Nat.zero_le _) rfl rfl rfl rfl rfl ?_)
        | (refine g_ops ?_; first | refine eo_none ?_ | refine eo_nil ?_)
        | (refine g_code ?_; first | refine ec_seq ?_ | refine ec_region ?_ | refine ec_block ?_ | refine ec_skip ?_ | refine ec_exit ?_ | refine ec_condT rfl ?_ | refine ec_condF rfl ?_ | refine ec_condTH rfl (by assumption) ?_ | refine ec_condFH rfl (by assumption) ?_)
        | refine ek_seqN ?_ | refine ek_seqX ?_ | refine ek_blkN ?_ | refine ek_blkR ?_ | refine ek_blkX ?_ | refine ek_blkY rfl ?_)
      exact rnd_on (by rfl) (scmp2 (by rfl) (by rfl) (by exact ⟨rfl, rfl, rfl⟩) (by rfl) (by first | rfl | (simp; done) | (simp [ints, prs, zints, mneg]; done)) (by rfl) (by first | rfl | (simp; done) | (simp [ints, prs, zints, mneg]; done)))
    | cons x xs =>
      refine ⟨(x :: xs) ++ [(idn) i], by rw [selm_t (p := fun _ => true) hp, hs]; try rfl, ?_⟩
      unfold m83_0
      repeat' (first
        | refine sp_push rfl rfl rfl rfl rfl rfl rfl (mneg_len _) (by omega) (Nat.zero_le _) rfl rfl rfl rfl rfl ?_
        | (refine g_op ?_; first
          | refine ep_mov rfl ?_
          | refine ep_call0 rfl (by first | exact ev98 n (by omega)) rfl rfl ?_
          | refine sp_call rfl rfl rfl rfl (by first | exact ev98 n (by omega)) ⟨rfl, rfl, rfl, rfl⟩ rfl rfl rfl ?_
          | refine ep_bin rfl rfl (by first | exact b_add (by omega) (by omega) | exact b_sub (by omega) (by omega) | exact b_and (by omega) (by omega) | exact b_or (by omega) (by omega) | exact b_shr (by omega) | exact b_shl (by omega) (by omega) | exact b_lss | exact b_leq | exact b_gtr | exact b_geq | exact b_eql | exact b_neq) ?_
          | refine sp_bslice rfl rfl rfl rfl rfl ?_ | refine sp_push0 rfl (by first | exact .inl rfl | exact .inr rfl) rfl rfl rfl rfl rfl (by decide) rfl rfl rfl ?_ | refine sp_push rfl rfl rfl rfl rfl rfl rfl (by first | exact ints_len _ | exact prs_len _ _ | exact zints_len _) (by omega) (Nat.zero_le _) rfl rfl rfl rfl rfl ?_)
        | (refine g_ops ?_; first | refine eo_none ?_ | refine eo_nil ?_)
        | (refine g_code ?_; first | refine ec_seq ?_ | refine ec_region ?_ | refine ec_block ?_ | refine ec_skip ?_ | refine ec_exit ?_ | refine ec_condT rfl ?_ | refine ec_condF rfl ?_ | refine ec_condTH rfl (by assumption) ?_ | refine ec_condFH rfl (by assumption) ?_)
        | refine ek_seqN ?_ | refine ek_seqX ?_ | refine ek_blkN ?_ | refine ek_blkR ?_ | refine ek_blkX ?_ | refine ek_blkY rfl ?_)
      exact rnd_on (by rfl) (scmp2 (by rfl) (by rfl) (by exact ⟨rfl, rfl, rfl⟩) (by rfl) (by first | rfl | (simp; done) | (simp [ints, prs, zints, mneg]; done)) (by rfl) (by first | rfl | (simp; done) | (simp [ints, prs, zints, mneg]; done)))
  · intro s hs
    have hlt : decide (((R2 (R2 n) : Nat) : Int) < (R2 (R2 n) : Nat)) = false := decide_eq_false (by omega)
    have hle : decide (((R2 (R2 n) : Nat) : Int) ≤ (R2 (R2 n) : Nat) - 1) = false := decide_eq_false (by omega)
    cases s with
    | nil =>
      unfold m83_0
      repeat' (first
        | (refine g_op ?_; first
          | refine ep_mov rfl ?_
          | refine ep_call0 rfl (by first | exact ev98 n (by omega)) rfl rfl ?_
          | refine sp_call rfl rfl rfl rfl (by first | exact ev98 n (by omega)) ⟨rfl, rfl, rfl, rfl⟩ rfl rfl rfl ?_
          | refine ep_bin rfl rfl (by first | exact b_add (by omega) (by omega) | exact b_sub (by omega) (by omega) | exact b_and (by omega) (by omega) | exact b_or (by omega) (by omega) | exact b_shr (by omega) | exact b_shl (by omega) (by omega) | exact b_lss | exact b_leq | exact b_gtr | exact b_geq | exact b_eql | exact b_neq) ?_
          | refine sp_bslice rfl rfl rfl rfl rfl ?_ | refine sp_push0 rfl (by first | exact .inl rfl | exact .inr rfl) rfl rfl rfl rfl rfl (by decide) rfl rfl rfl ?_ | refine sp_push rfl rfl rfl rfl rfl rfl rfl (by first | exact ints_len _ | exact prs_len _ _ | exact zints_len _) (by omega) (Nat.zero_le _) rfl rfl rfl rfl rfl ?_)
        | (refine g_ops ?_; first | refine eo_none ?_ | refine eo_nil ?_)
        | (refine g_code ?_; first | refine ec_seq ?_ | refine ec_region ?_ | refine ec_block ?_ | refine ec_skip ?_ | refine ec_exit ?_ | refine ec_condT rfl ?_ | refine ec_condF rfl ?_ | refine ec_condTH rfl (by assumption) ?_ | refine ec_condFH rfl (by assumption) ?_)
        | refine ek_seqN ?_ | refine ek_seqX ?_ | refine ek_blkN ?_ | refine ek_blkR ?_ | refine ek_blkX ?_ | refine ek_blkY rfl ?_)
      exact rnd_out (by rfl) (by simp) (scmp2 (by rfl) (by rfl) (by exact ⟨rfl, rfl, rfl⟩) (by rfl) (by first | rfl | (simp; done) | (simp [ints, prs]; done)) (by rfl) (by first | rfl | (simp; done) | (simp [ints, prs]; done)))
    | cons x xs =>
      unfold m83_0
      repeat' (first
        | (refine g_op ?_; first
          | refine ep_mov rfl ?_
          | refine ep_call0 rfl (by first | exact ev98 n (by omega)) rfl rfl ?_
          | refine sp_call rfl rfl rfl rfl (by first | exact ev98 n (by omega)) ⟨rfl, rfl, rfl, rfl⟩ rfl rfl rfl ?_
          | refine ep_bin rfl rfl (by first | exact b_add (by omega) (by omega) | exact b_sub (by omega) (by omega) | exact b_and (by omega) (by omega) | exact b_or (by omega) (by omega) | exact b_shr (by omega) | exact b_shl (by omega) (by omega) | exact b_lss | exact b_leq | exact b_gtr | exact b_geq | exact b_eql | exact b_neq) ?_
          | refine sp_bslice rfl rfl rfl rfl rfl ?_ | refine sp_push0 rfl (by first | exact .inl rfl | exact .inr rfl) rfl rfl rfl rfl rfl (by decide) rfl rfl rfl ?_ | refine sp_push rfl rfl rfl rfl rfl rfl rfl (by first | exact ints_len _ | exact prs_len _ _ | exact zints_len _) (by omega) (Nat.zero_le _) rfl rfl rfl rfl rfl ?_)
        | (refine g_ops ?_; first | refine eo_none ?_ | refine eo_nil ?_)
        | (refine g_code ?_; first | refine ec_seq ?_ | refine ec_region ?_ | refine ec_block ?_ | refine ec_skip ?_ | refine ec_exit ?_ | refine ec_condT rfl ?_ | refine ec_condF rfl ?_ | refine ec_condTH rfl (by assumption) ?_ | refine ec_condFH rfl (by assumption) ?_)
        | refine ek_seqN ?_ | refine ek_seqX ?_ | refine ek_blkN ?_ | refine ek_blkR ?_ | refine ek_blkX ?_ | refine ek_blkY rfl ?_)
      exact rnd_out (by rfl) (by simp) (scmp2 (by rfl) (by rfl) (by exact ⟨rfl, rfl, rfl⟩) (by rfl) (by first | rfl | (simp; done) | (simp [ints, prs]; done)) (by rfl) (by first | rfl | (simp; done) | (simp [ints, prs]; done)))

theorem lpds1 (q n N : Nat) (fs : List (Int × Int)) (hNn : N = R2 (R2 n)) (hn : n ≤ 3) :
    LpS cx 70 1 m83_1 [(0, .sl 0 0 fs.length), (1, .int .i64 (n : Nat)), (5, .sl 1 0 N), (7, .int .i64 (0 : Nat))] [⟨fns fs, 2, 0, some q, false⟩, ⟨zints (D0 n (0)), 1, 1, some 0, false⟩] (⟨.exit 2, [(0, .sl 0 0 fs.length), (1, .int .i64 (n : Nat)), (5, .sl 1 0 N)], [⟨fns fs, 2, 0, some q, false⟩, ⟨zints (D0 n (n)), 1, 1, some 0, false⟩]⟩ : Out).x (⟨.exit 2, [(0, .sl 0 0 fs.length), (1, .int .i64 (n : Nat)), (5, .sl 1 0 N)], [⟨fns fs, 2, 0, some q, false⟩, ⟨zints (D0 n (n)), 1, 1, some 0, false⟩]⟩ : Out).e (⟨.exit 2, [(0, .sl 0 0 fs.length), (1, .int .i64 (n : Nat)), (5, .sl 1 0 N)], [⟨fns fs, 2, 0, some q, false⟩, ⟨zints (D0 n (n)), 1, 1, some 0, false⟩]⟩ : Out).h := by
  refine lp_st (n) (fun _ => ()) (fun i _ => [(0, .sl 0 0 fs.length), (1, .int .i64 (n : Nat)), (5, .sl 1 0 N), (7, .int .i64 (i : Nat))]) (fun i _ => [⟨fns fs, 2, 0, some q, false⟩, ⟨zints (D0 n (i)), 1, 1, some 0, false⟩]) (fun _ => (⟨.exit 2, [(0, .sl 0 0 fs.length), (1, .int .i64 (n : Nat)), (5, .sl 1 0 N)], [⟨fns fs, 2, 0, some q, false⟩, ⟨zints (D0 n (n)), 1, 1, some 0, false⟩]⟩ : Out)) ?_ ?_ (n) 0 (by omega)
  · intro i u_ hi hu_
    refine ⟨(), rfl, ?_⟩
    have hlt : decide ((i : Int) < (n : Nat)) = true := decide_eq_true (by omega)
    have hp := projB_lt n i
    have hl := D0_len n i
    have hset := zints_set (D := D0 n i) (b := projB n i) (d := 0) (by omega)
    rw [← D0_s] at hset
    have hzl := zints_len (D0 n i)
    unfold m83_1
    repeat' (first
      | refine sp_storeS rfl rfl rfl rfl rfl rfl rfl (Nat.zero_le _) (by omega) hset rfl ?_
      | (refine g_op ?_; first
        | refine ep_mov rfl ?_
        | refine ep_call0 rfl (by first | exact evpjS n i (by omega) (by omega)) rfl rfl ?_
        | refine sp_call rfl rfl rfl rfl (by first | exact evpjS n i (by omega) (by omega)) ⟨rfl, rfl, rfl, rfl⟩ rfl rfl rfl ?_
        | refine ep_bin rfl rfl (by first | exact b_add (by omega) (by omega) | exact b_sub (by omega) (by omega) | exact b_and (by omega) (by omega) | exact b_or (by omega) (by omega) | exact b_shr (by omega) | exact b_shl (by omega) (by omega) | exact b_lss | exact b_leq | exact b_gtr | exact b_geq | exact b_eql | exact b_neq) ?_
        | refine sp_store rfl rfl rfl rfl rfl rfl rfl rfl rfl rfl ?_ | refine ep_field1 rfl rfl ?_ | refine sp_idx rfl rfl rfl (by omega) rfl ?_)
      | (refine g_ops ?_; first | refine eo_none ?_ | refine eo_nil ?_)
      | (refine g_code ?_; first | refine ec_seq ?_ | refine ec_region ?_ | refine ec_block ?_ | refine ec_skip ?_ | refine ec_exit ?_ | refine ec_condT rfl ?_ | refine ec_condF rfl ?_ | refine ec_condTH rfl (by assumption) ?_ | refine ec_condFH rfl (by assumption) ?_)
      | refine ek_seqN ?_ | refine ek_seqX ?_ | refine ek_blkN ?_ | refine ek_blkR ?_ | refine ek_blkX ?_ | refine ek_blkY rfl ?_)
    exact rnd_on (by rfl) (scmp2 (by rfl) (by rfl) (by exact ⟨rfl, rfl, rfl⟩) (by rfl) (by first | rfl | (simp; done) | (simp [ints, prs]; done)) (by rfl) (by first | rfl | (simp; done) | (simp [ints, prs]; done)))
  · intro u_ hu_
    have hlt : decide (((n : Nat) : Int) < (n : Nat)) = false := decide_eq_false (by omega)
    unfold m83_1
    repeat' (first
      | (refine g_op ?_; first
        | refine ep_mov rfl ?_
        | refine ep_bin rfl rfl (by first | exact b_add (by omega) (by omega) | exact b_sub (by omega) (by omega) | exact b_and (by omega) (by omega) | exact b_or (by omega) (by omega) | exact b_shr (by omega) | exact b_shl (by omega) (by omega) | exact b_lss | exact b_leq | exact b_gtr | exact b_geq | exact b_eql | exact b_neq) ?_
        | refine sp_store rfl rfl rfl rfl rfl rfl rfl rfl rfl rfl ?_ | refine ep_field1 rfl rfl ?_ | refine sp_idx rfl rfl rfl (by omega) rfl ?_)
      | (refine g_ops ?_; first | refine eo_none ?_ | refine eo_nil ?_)
      | (refine g_code ?_; first | refine ec_seq ?_ | refine ec_region ?_ | refine ec_block ?_ | refine ec_skip ?_ | refine ec_exit ?_ | refine ec_condT rfl ?_ | refine ec_condF rfl ?_ | refine ec_condTH rfl (by assumption) ?_ | refine ec_condFH rfl (by assumption) ?_)
      | refine ek_seqN ?_ | refine ek_seqX ?_ | refine ek_blkN ?_ | refine ek_blkR ?_ | refine ek_blkX ?_ | refine ek_blkY rfl ?_)
    exact rnd_out (by rfl) (by simp) (scmp2 (by rfl) (by rfl) (by exact ⟨rfl, rfl, rfl⟩) (by rfl) (by first | rfl | (simp; done) | (simp [ints, prs]; done)) (by rfl) (by first | rfl | (simp; done) | (simp [ints, prs]; done)))

theorem lpds3 (q n N d : Nat) (fs : List (Int × Int)) (D : List Int) (hNn : N = R2 (R2 n)) (hn : n ≤ 3) (hN : D.length = N) (o : Out) (ho : (match selm (fun b => decide (D.getD b 0 ≥ 0)) (idn) (R2 (R2 n)) with | [] => (⟨.exit 6, [(0, .sl 0 0 fs.length), (1, .int .i64 (n : Nat)), (5, .sl 1 0 N), (8, .bool false), (9, .int .i64 (d : Nat)), (10, .emp)], [⟨fns fs, 2, 0, some q, false⟩, ⟨zints D, 1, 1, some 0, false⟩]⟩ : Out) | x :: xs => ⟨.exit 6, [(0, .sl 0 0 fs.length), (1, .int .i64 (n : Nat)), (5, .sl 1 0 N), (8, .bool false), (9, .int .i64 (d : Nat)), (10, .sl 2 0 (x :: xs).length)], [⟨fns fs, 2, 0, some q, false⟩, ⟨zints D, 1, 1, some 0, false⟩, ⟨ints (x :: xs), 1, 2, some 0, false⟩]⟩) = o) :
    LpS cx 70 1 m83_3 [(0, .sl 0 0 fs.length), (1, .int .i64 (n : Nat)), (5, .sl 1 0 N), (8, .bool false), (9, .int .i64 (d : Nat)), (10, .emp), (11, .int .i64 (0 : Nat))] [⟨fns fs, 2, 0, some q, false⟩, ⟨zints D, 1, 1, some 0, false⟩] o.x o.e o.h := by
  obtain ⟨h1, h2, h3, h4⟩ := shN (n := n) (by omega)
  subst ho
  refine lp_st (R2 (R2 n)) (selm (fun b => decide (D.getD b 0 ≥ 0)) (idn)) (fun i s => match s with | [] => [(0, .sl 0 0 fs.length), (1, .int .i64 (n : Nat)), (5, .sl 1 0 N), (8, .bool false), (9, .int .i64 (d : Nat)), (10, .emp), (11, .int .i64 (i : Nat))] | x :: xs => [(0, .sl 0 0 fs.length), (1, .int .i64 (n : Nat)), (5, .sl 1 0 N), (8, .bool false), (9, .int .i64 (d : Nat)), (10, .sl 2 0 (x :: xs).length), (11, .int .i64 (i : Nat))]) (fun i s => match s with | [] => [⟨fns fs, 2, 0, some q, false⟩, ⟨zints D, 1, 1, some 0, false⟩] | x :: xs => [⟨fns fs, 2, 0, some q, false⟩, ⟨zints D, 1, 1, some 0, false⟩, ⟨ints (x :: xs), 1, 2, some 0, false⟩]) (fun s => match s with | [] => ⟨.exit 6, [(0, .sl 0 0 fs.length), (1, .int .i64 (n : Nat)), (5, .sl 1 0 N), (8, .bool false), (9, .int .i64 (d : Nat)), (10, .emp)], [⟨fns fs, 2, 0, some q, false⟩, ⟨zints D, 1, 1, some 0, false⟩]⟩ | x :: xs => ⟨.exit 6, [(0, .sl 0 0 fs.length), (1, .int .i64 (n : Nat)), (5, .sl 1 0 N), (8, .bool false), (9, .int .i64 (d : Nat)), (10, .sl 2 0 (x :: xs).length)], [⟨fns fs, 2, 0, some q, false⟩, ⟨zints D, 1, 1, some 0, false⟩, ⟨ints (x :: xs), 1, 2, some 0, false⟩]⟩) ?_ ?_ (R2 (R2 n)) 0 (by omega)
  · intro i s hi hs
    have hlt : decide ((i : Int) < (R2 (R2 n) : Nat)) = true := decide_eq_true (by omega)
    have hle : decide ((i : Int) ≤ (R2 (R2 n) : Nat) - 1) = true := decide_eq_true (by omega)
    have hlen : s.length ≤ 65536 := by have := selm_len (fun b => decide (D.getD b 0 ≥ 0)) (idn) i; rw [hs] at this; omega
    have hget := zints_get (l := D) (j := i) (by omega)
    cases hp : (fun b => decide (D.getD b 0 ≥ 0)) i with
    | true =>
      have hp' : (decide (D.getD i 0 ≥ 0)) = true := hp
      cases s with
      | nil =>
        refine ⟨[(idn) i], by rw [selm_t (p := fun b => decide (D.getD b 0 ≥ 0)) hp, hs]; try rfl, ?_⟩
        unfold m83_3
        repeat' (first
          | refine ep_loadS rfl rfl rfl hget ?_
          | (refine g_op ?_; first
            | refine ep_mov rfl ?_ | refine ep_load1 rfl rfl rfl rfl ?_
            | refine ep_call0 rfl (by first | exact ev98 n (by omega)) rfl rfl ?_
            | refine sp_call rfl rfl rfl rfl (by first | exact ev98 n (by omega)) ⟨rfl, rfl, rfl, rfl⟩ rfl rfl rfl ?_
            | refine ep_bin rfl rfl (by first | exact b_add (by omega) (by omega) | exact b_sub (by omega) (by omega) | exact b_and (by omega) (by omega) | exact b_or (by omega) (by omega) | exact b_shr (by omega) | exact b_shl (by omega) (by omega) | exact b_lss | exact b_leq | exact b_gtr | exact b_geq | exact b_eql | exact b_neq) ?_
            | refine sp_bslice rfl rfl rfl rfl rfl ?_ | refine sp_push0 rfl (by first | exact .inl rfl | exact .inr rfl) rfl rfl rfl rfl rfl (by decide) rfl rfl rfl ?_ | refine sp_push rfl rfl rfl rfl rfl rfl rfl (by first | exact ints_len _ | exact prs_len _ _ | exact zints_len _) (by omega) (Nat.zero_le _) rfl rfl rfl rfl rfl ?_
            | refine sp_idx rfl rfl rfl (by omega) rfl ?_ | refine ep_loadS rfl rfl rfl (by first | exact ints_get (by omega) | exact zints_get (by omega) | exact fget (by omega) | assumption) ?_)
          | (refine g_ops ?_; first | refine eo_none ?_ | refine eo_nil ?_)
          | (refine g_code ?_; first | refine ec_seq ?_ | refine ec_region ?_ | refine ec_block ?_ | refine ec_skip ?_ | refine ec_exit ?_ | refine ec_condT rfl ?_ | refine ec_condF rfl ?_ | refine ec_condTH rfl (by assumption) ?_ | refine ec_condFH rfl (by assumption) ?_)
          | refine ek_seqN ?_ | refine ek_seqX ?_ | refine ek_blkN ?_ | refine ek_blkR ?_ | refine ek_blkX ?_ | refine ek_blkY rfl ?_)
        exact rnd_on (by rfl) (scmp2 (by rfl) (by rfl) (by exact ⟨rfl, rfl, rfl⟩) (by rfl) (by first | rfl | (simp; done) | (simp [ints, prs]; done)) (by rfl) (by first | rfl | (simp; done) | (simp [ints, prs]; done)))
      | cons x xs =>
        refine ⟨(x :: xs) ++ [(idn) i], by rw [selm_t (p := fun b => decide (D.getD b 0 ≥ 0)) hp, hs]; try rfl, ?_⟩
        unfold m83_3
        repeat' (first
          | refine ep_loadS rfl rfl rfl hget ?_
          | (refine g_op ?_; first
            | refine ep_mov rfl ?_ | refine ep_load1 rfl rfl rfl rfl ?_
            | refine ep_call0 rfl (by first | exact ev98 n (by omega)) rfl rfl ?_
            | refine sp_call rfl rfl rfl rfl (by first | exact ev98 n (by omega)) ⟨rfl, rfl, rfl, rfl⟩ rfl rfl rfl ?_
            | refine ep_bin rfl rfl (by first | exact b_add (by omega) (by omega) | exact b_sub (by omega) (by omega) | exact b_and (by omega) (by omega) | exact b_or (by omega) (by omega) | exact b_shr (by omega) | exact b_shl (by omega) (by omega) | exact b_lss | exact b_leq | exact b_gtr | exact b_geq | exact b_eql | exact b_neq) ?_
            | refine sp_bslice rfl rfl rfl rfl rfl ?_ | refine sp_push0 rfl (by first | exact .inl rfl | exact .inr rfl) rfl rfl rfl rfl rfl (by decide) rfl rfl rfl ?_ | refine sp_push rfl rfl rfl rfl rfl rfl rfl (by first | exact ints_len _ | exact prs_len _ _ | exact zints_len _) (by omega) (Nat.zero_le _) rfl rfl rfl rfl rfl ?_
            | refine sp_idx rfl rfl rfl (by omega) rfl ?_ | refine ep_loadS rfl rfl rfl (by first | exact ints_get (by omega) | exact zints_get (by omega) | exact fget (by omega) | assumption) ?_)
          | (refine g_ops ?_; first | refine eo_none ?_ | refine eo_nil ?_)
          | (refine g_code ?_; first | refine ec_seq ?_ | refine ec_region ?_ | refine ec_block ?_ | refine ec_skip ?_ | refine ec_exit ?_ | refine ec_condT rfl ?_ | refine ec_condF rfl ?_ | refine ec_condTH rfl (by assumption) ?_ | refine ec_condFH rfl (by assumption) ?_)
          | refine ek_seqN ?_ | refine ek_seqX ?_ | refine ek_blkN ?_ | refine ek_blkR ?_ | refine ek_blkX ?_ | refine ek_blkY rfl ?_)
        exact rnd_on (by rfl) (scmp2 (by rfl) (by rfl) (by exact ⟨rfl, rfl, rfl⟩) (by rfl) (by first | rfl | (simp; done) | (simp [ints, prs]; done)) (by rfl) (by first | rfl | (simp; done) | (simp [ints, prs]; done)))
    | false =>
      have hp' : (decide (D.getD i 0 ≥ 0)) = false := hp
      cases s with
      | nil =>
        refine ⟨[], by rw [selm_f (p := fun b => decide (D.getD b 0 ≥ 0)) hp, hs]; try rfl, ?_⟩
        unfold m83_3
        repeat' (first
          | refine ep_loadS rfl rfl rfl hget ?_
          | (refine g_op ?_; first
            | refine ep_mov rfl ?_ | refine ep_load1 rfl rfl rfl rfl ?_
            | refine ep_call0 rfl (by first | exact ev98 n (by omega)) rfl rfl ?_
            | refine sp_call rfl rfl rfl rfl (by first | exact ev98 n (by omega)) ⟨rfl, rfl, rfl, rfl⟩ rfl rfl rfl ?_
            | refine ep_bin rfl rfl (by first | exact b_add (by omega) (by omega) | exact b_sub (by omega) (by omega) | exact b_and (by omega) (by omega) | exact b_or (by omega) (by omega) | exact b_shr (by omega) | exact b_shl (by omega) (by omega) | exact b_lss | exact b_leq | exact b_gtr | exact b_geq | exact b_eql | exact b_neq) ?_
            | refine sp_bslice rfl rfl rfl rfl rfl ?_ | refine sp_push0 rfl (by first | exact .inl rfl | exact .inr rfl) rfl rfl rfl rfl rfl (by decide) rfl rfl rfl ?_ | refine sp_push rfl rfl rfl rfl rfl rfl rfl (by first | exact ints_len _ | exact prs_len _ _ | exact zints_len _) (by omega) (Nat.zero_le _) rfl rfl rfl rfl rfl ?_
            | refine sp_idx rfl rfl rfl (by omega) rfl ?_ | refine ep_loadS rfl rfl rfl (by first | exact ints_get (by omega) | exact zints_get (by omega) | exact fget (by omega) | assumption) ?_)
          | (refine g_ops ?_; first | refine eo_none ?_ | refine eo_nil ?_)
          | (refine g_code ?_; first | refine ec_seq ?_ | refine ec_region ?_ | refine ec_block ?_ | refine ec_skip ?_ | refine ec_exit ?_ | refine ec_condT rfl ?_ | refine ec_condF rfl ?_ | refine ec_condTH rfl (by assumption) ?_ | refine ec_condFH rfl (by assumption) ?_)
          | refine ek_seqN ?_ | refine ek_seqX ?_ | refine ek_blkN ?_ | refine ek_blkR ?_ | refine ek_blkX ?_ | refine ek_blkY rfl ?_)
        exact rnd_on (by rfl) (scmp2 (by rfl) (by rfl) (by exact ⟨rfl, rfl, rfl⟩) (by rfl) (by first | rfl | (simp; done) | (simp [ints, prs]; done)) (by rfl) (by first | rfl | (simp; done) | (simp [ints, prs]; done)))
      | cons x xs =>
        refine ⟨x :: xs, by rw [selm_f (p := fun b => decide (D.getD b 0 ≥ 0)) hp, hs]; try rfl, ?_⟩
        unfold m83_3
        repeat' (first
          | refine ep_loadS rfl rfl rfl hget ?_
          | (refine g_op ?_; first
            | refine ep_mov rfl ?_ | refine ep_load1 rfl rfl rfl rfl ?_
            | refine ep_call0 rfl (by first | exact ev98 n (by omega)) rfl rfl ?_
            | refine sp_call rfl rfl rfl rfl (by first | exact ev98 n (by omega)) ⟨rfl, rfl, rfl, rfl⟩ rfl rfl rfl ?_
            | refine ep_bin rfl rfl (by first | exact b_add (by omega) (by omega) | exact b_sub (by omega) (by omega) | exact b_and (by omega) (by omega) | exact b_or (by omega) (by omega) | exact b_shr (by omega) | exact b_shl (by omega) (by omega) | exact b_lss | exact b_leq | exact b_gtr | exact b_geq | exact b_eql | exact b_neq) ?_
            | refine sp_bslice rfl rfl rfl rfl rfl ?_ | refine sp_push0 rfl (by first | exact .inl rfl | exact .inr rfl) rfl rfl rfl rfl rfl (by decide) rfl rfl rfl ?_ | refine sp_push rfl rfl rfl rfl rfl rfl rfl (by first | exact ints_len _ | exact prs_len _ _ | exact zints_len _) (by omega) (Nat.zero_le _) rfl rfl rfl rfl rfl ?_
            | refine sp_idx rfl rfl rfl (by omega) rfl ?_ | refine ep_loadS rfl rfl rfl (by first | exact ints_get (by omega) | exact zints_get (by omega) | exact fget (by omega) | assumption) ?_)
          | (refine g_ops ?_; first | refine eo_none ?_ | refine eo_nil ?_)
          | (refine g_code ?_; first | refine ec_seq ?_ | refine ec_region ?_ | refine ec_block ?_ | refine ec_skip ?_ | refine ec_exit ?_ | refine ec_condT rfl ?_ | refine ec_condF rfl ?_ | refine ec_condTH rfl (by assumption) ?_ | refine ec_condFH rfl (by assumption) ?_)
          | refine ek_seqN ?_ | refine ek_seqX ?_ | refine ek_blkN ?_ | refine ek_blkR ?_ | refine ek_blkX ?_ | refine ek_blkY rfl ?_)
        exact rnd_on (by rfl) (scmp2 (by rfl) (by rfl) (by exact ⟨rfl, rfl, rfl⟩) (by rfl) (by first | rfl | (simp; done) | (simp [ints, prs]; done)) (by rfl) (by first | rfl | (simp; done) | (simp [ints, prs]; done)))
  · intro s hs
    have hlt : decide (((R2 (R2 n) : Nat) : Int) < (R2 (R2 n) : Nat)) = false := decide_eq_false (by omega)
    have hle : decide (((R2 (R2 n) : Nat) : Int) ≤ (R2 (R2 n) : Nat) - 1) = false := decide_eq_false (by omega)
    cases s with
    | nil =>
      unfold m83_3
      repeat' (first
        | (refine g_op ?_; first
          | refine ep_mov rfl ?_ | refine ep_load1 rfl rfl rfl rfl ?_
          | refine ep_call0 rfl (by first | exact ev98 n (by omega)) rfl rfl ?_
          | refine sp_call rfl rfl rfl rfl (by first | exact ev98 n (by omega)) ⟨rfl, rfl, rfl, rfl⟩ rfl rfl rfl ?_
          | refine ep_bin rfl rfl (by first | exact b_add (by omega) (by omega) | exact b_sub (by omega) (by omega) | exact b_and (by omega) (by omega) | exact b_or (by omega) (by omega) | exact b_shr (by omega) | exact b_shl (by omega) (by omega) | exact b_lss | exact b_leq | exact b_gtr | exact b_geq | exact b_eql | exact b_neq) ?_
          | refine sp_bslice rfl rfl rfl rfl rfl ?_ | refine sp_push0 rfl (by first | exact .inl rfl | exact .inr rfl) rfl rfl rfl rfl rfl (by decide) rfl rfl rfl ?_ | refine sp_push rfl rfl rfl rfl rfl rfl rfl (by first | exact ints_len _ | exact prs_len _ _ | exact zints_len _) (by omega) (Nat.zero_le _) rfl rfl rfl rfl rfl ?_
          | refine sp_idx rfl rfl rfl (by omega) rfl ?_ | refine ep_loadS rfl rfl rfl (by first | exact ints_get (by omega) | exact zints_get (by omega) | exact fget (by omega) | assumption) ?_)
        | (refine g_ops ?_; first | refine eo_none ?_ | refine eo_nil ?_)
        | (refine g_code ?_; first | refine ec_seq ?_ | refine ec_region ?_ | refine ec_block ?_ | refine ec_skip ?_ | refine ec_exit ?_ | refine ec_condT rfl ?_ | refine ec_condF rfl ?_ | refine ec_condTH rfl (by assumption) ?_ | refine ec_condFH rfl (by assumption) ?_)
        | refine ek_seqN ?_ | refine ek_seqX ?_ | refine ek_blkN ?_ | refine ek_blkR ?_ | refine ek_blkX ?_ | refine ek_blkY rfl ?_)
      exact rnd_out (by rfl) (by simp) (scmp2 (by rfl) (by rfl) (by exact ⟨rfl, rfl, rfl⟩) (by rfl) (by first | rfl | (simp; done) | (simp [ints, prs]; done)) (by rfl) (by first | rfl | (simp; done) | (simp [ints, prs]; done)))
    | cons x xs =>
      unfold m83_3
      repeat' (first
        | (refine g_op ?_; first
          | refine ep_mov rfl ?_ | refine ep_load1 rfl rfl rfl rfl ?_
          | refine ep_call0 rfl (by first | exact ev98 n (by omega)) rfl rfl ?_
          | refine sp_call rfl rfl rfl rfl (by first | exact ev98 n (by omega)) ⟨rfl, rfl, rfl, rfl⟩ rfl rfl rfl ?_
          | refine ep_bin rfl rfl (by first | exact b_add (by omega) (by omega) | exact b_sub (by omega) (by omega) | exact b_and (by omega) (by omega) | exact b_or (by omega) (by omega) | exact b_shr (by omega) | exact b_shl (by omega) (by omega) | exact b_lss | exact b_leq | exact b_gtr | exact b_geq | exact b_eql | exact b_neq) ?_
          | refine sp_bslice rfl rfl rfl rfl rfl ?_ | refine sp_push0 rfl (by first | exact .inl rfl | exact .inr rfl) rfl rfl rfl rfl rfl (by decide) rfl rfl rfl ?_ | refine sp_push rfl rfl rfl rfl rfl rfl rfl (by first | exact ints_len _ | exact prs_len _ _ | exact zints_len _) (by omega) (Nat.zero_le _) rfl rfl rfl rfl rfl ?_
          | refine sp_idx rfl rfl rfl (by omega) rfl ?_ | refine ep_loadS rfl rfl rfl (by first | exact ints_get (by omega) | exact zints_get (by omega) | exact fget (by omega) | assumption) ?_)
        | (refine g_ops ?_; first | refine eo_none ?_ | refine eo_nil ?_)
        | (refine g_code ?_; first | refine ec_seq ?_ | refine ec_region ?_ | refine ec_block ?_ | refine ec_skip ?_ | refine ec_exit ?_ | refine ec_condT rfl ?_ | refine ec_condF rfl ?_ | refine ec_condTH rfl (by assumption) ?_ | refine ec_condFH rfl (by assumption) ?_)
        | refine ek_seqN ?_ | refine ek_seqX ?_ | refine ek_blkN ?_ | refine ek_blkR ?_ | refine ek_blkX ?_ | refine ek_blkY rfl ?_)
      exact rnd_out (by rfl) (by simp) (scmp2 (by rfl) (by rfl) (by exact ⟨rfl, rfl, rfl⟩) (by rfl) (by first | rfl | (simp; done) | (simp [ints, prs]; done)) (by rfl) (by first | rfl | (simp; done) | (simp [ints, prs]; done)))

theorem lpds4 (q n N d : Nat) (fs : List (Int × Int)) (D : List Int) (hNn : N = R2 (R2 n)) (hn : n ≤ 3) (hall : allFunc fs = true) (hln : fs.length ≤ 1048576) (hd : d < 65536) (hN : D.length = N) (L : List Nat) (hll : L.length ≤ 65536) (hLN : ∀ j, j < L.length → L.getD j 0 < N) :
    LpS cx 70 1 m83_4 [(0, .sl 0 0 fs.length), (1, .int .i64 (n : Nat)), (5, .sl 1 0 N), (8, .bool (rndS fs n d L D (0)).2), (9, .int .i64 (d : Nat)), (10, .sl 2 0 L.length), (12, .int .i64 (0 : Nat))] [⟨fns fs, 2, 0, some q, false⟩, ⟨zints (rndS fs n d L D (0)).1, 1, 1, some 0, false⟩, ⟨ints L, 1, 2, some 0, false⟩] (⟨.exit 8, [(0, .sl 0 0 fs.length), (1, .int .i64 (n : Nat)), (5, .sl 1 0 N), (8, .bool (rndS fs n d L D (fs.length)).2), (9, .int .i64 (d : Nat))], [⟨fns fs, 2, 0, some q, false⟩, ⟨zints (rndS fs n d L D (fs.length)).1, 1, 1, some 0, false⟩]⟩ : Out).x (⟨.exit 8, [(0, .sl 0 0 fs.length), (1, .int .i64 (n : Nat)), (5, .sl 1 0 N), (8, .bool (rndS fs n d L D (fs.length)).2), (9, .int .i64 (d : Nat))], [⟨fns fs, 2, 0, some q, false⟩, ⟨zints (rndS fs n d L D (fs.length)).1, 1, 1, some 0, false⟩]⟩ : Out).e (⟨.exit 8, [(0, .sl 0 0 fs.length), (1, .int .i64 (n : Nat)), (5, .sl 1 0 N), (8, .bool (rndS fs n d L D (fs.length)).2), (9, .int .i64 (d : Nat))], [⟨fns fs, 2, 0, some q, false⟩, ⟨zints (rndS fs n d L D (fs.length)).1, 1, 1, some 0, false⟩]⟩ : Out).h := by
  refine lp_st (fs.length) (fun _ => ()) (fun i _ => [(0, .sl 0 0 fs.length), (1, .int .i64 (n : Nat)), (5, .sl 1 0 N), (8, .bool (rndS fs n d L D (i)).2), (9, .int .i64 (d : Nat)), (10, .sl 2 0 L.length), (12, .int .i64 (i : Nat))]) (fun i _ => [⟨fns fs, 2, 0, some q, false⟩, ⟨zints (rndS fs n d L D (i)).1, 1, 1, some 0, false⟩, ⟨ints L, 1, 2, some 0, false⟩]) (fun _ => (⟨.exit 8, [(0, .sl 0 0 fs.length), (1, .int .i64 (n : Nat)), (5, .sl 1 0 N), (8, .bool (rndS fs n d L D (fs.length)).2), (9, .int .i64 (d : Nat))], [⟨fns fs, 2, 0, some q, false⟩, ⟨zints (rndS fs n d L D (fs.length)).1, 1, 1, some 0, false⟩]⟩ : Out)) ?_ ?_ (fs.length) 0 (by omega)
  · intro i u_ hi hu_
    refine ⟨(), rfl, ?_⟩
    have hlt : decide ((i : Int) < (fs.length : Nat)) = true := decide_eq_true (by omega)
    have hg := fns_get (l := fs) (j := i) hi
    have hget := allF_at (P := fun j => isFn (fs.getD j (0, 0)).1 (fs.getD j (0, 0)).2) hall hi
    obtain ⟨a, b, ha, hb, ha4, _, hb6⟩ := isFn_nat hget
    have e1 := evr_e n N d (fs.getD i (0, 0)).2.toNat (fs.getD i (0, 0)).1.toNat L hNn hn hd (by omega) (by omega) hll hLN (rndS fs n d L D i).1 (by rw [rndS_len]; exact hN)
    rw [show (((fs.getD i (0, 0)).1.toNat : Nat) : Int) = (fs.getD i (0, 0)).1 by omega, show (((fs.getD i (0, 0)).2.toNat : Nat) : Int) = (fs.getD i (0, 0)).2 by omega] at e1
    have hs := walk_or (d := d) (n := n) (b := (fs.getD i (0, 0)).2.toNat) (L := L) (fs.getD i (0, 0)).1.toNat [] (rndS fs n d L D i).1 (rndS fs n d L D i).2
    rw [show walkT L (leafS d n (fs.getD i (0, 0)).2.toNat) (fs.getD i (0, 0)).1.toNat [] ((rndS fs n d L D i).1, (rndS fs n d L D i).2) = rndS fs n d L D (i + 1) from rfl] at hs
    have hs1 := congrArg Prod.fst hs
    have hc := congrArg Prod.snd hs
    simp only at hs1 hc
    rw [← hs1] at e1
    generalize (walkT L (leafS d n (fs.getD i (0, 0)).2.toNat) (fs.getD i (0, 0)).1.toNat [] ((rndS fs n d L D i).1, false)).2 = c at *
    cases c
    · simp only [Bool.or_false] at hc
      unfold m83_4
      repeat' (first
        | refine ep_loadSN rfl rfl rfl hg ?_
        | (refine g_op ?_; first
          | refine ep_mov rfl ?_ | refine sp_loadN rfl rfl rfl rfl rfl ?_
          | refine ep_call0 rfl (by first | exact e1) rfl rfl ?_
          | refine sp_call rfl rfl rfl rfl (by first | exact e1) ⟨rfl, rfl, rfl, rfl⟩ rfl rfl rfl ?_
          | refine ep_bin rfl rfl (by first | exact b_add (by omega) (by omega) | exact b_sub (by omega) (by omega) | exact b_and (by omega) (by omega) | exact b_or (by omega) (by omega) | exact b_shr (by omega) | exact b_shl (by omega) (by omega) | exact b_lss | exact b_leq | exact b_gtr | exact b_geq | exact b_eql | exact b_neq) ?_
          | refine ep_lenS rfl ?_ | refine ep_lenN rfl ?_ | refine ep_lenE rfl ?_ | refine ep_empt ?_ | refine sp_idx rfl rfl rfl (by omega) rfl ?_ | refine ep_loadSN rfl rfl rfl (by first | exact prs_get (by omega) | exact fns_get (by omega)) ?_)
        | (refine g_ops ?_; first | refine eo_none ?_ | refine eo_nil ?_)
        | (refine g_code ?_; first | refine ec_seq ?_ | refine ec_region ?_ | refine ec_block ?_ | refine ec_skip ?_ | refine ec_exit ?_ | refine ec_condT rfl ?_ | refine ec_condF rfl ?_ | refine ec_condTH rfl (by assumption) ?_ | refine ec_condFH rfl (by assumption) ?_)
        | refine ek_seqN ?_ | refine ek_seqX ?_ | refine ek_blkN ?_ | refine ek_blkR ?_ | refine ek_blkX ?_ | refine ek_blkY rfl ?_)
      exact rnd_on (by rfl) (scmp2 (by rfl) (by rfl) (by exact ⟨rfl, rfl, rfl⟩) (by rfl) (by rw [hc]; rfl) (by rfl) (by rfl))
    · simp only [Bool.or_true] at hc
      unfold m83_4
      repeat' (first
        | refine ep_loadSN rfl rfl rfl hg ?_
        | (refine g_op ?_; first
          | refine ep_mov rfl ?_ | refine sp_loadN rfl rfl rfl rfl rfl ?_
          | refine ep_call0 rfl (by first | exact e1) rfl rfl ?_
          | refine sp_call rfl rfl rfl rfl (by first | exact e1) ⟨rfl, rfl, rfl, rfl⟩ rfl rfl rfl ?_
          | refine ep_bin rfl rfl (by first | exact b_add (by omega) (by omega) | exact b_sub (by omega) (by omega) | exact b_and (by omega) (by omega) | exact b_or (by omega) (by omega) | exact b_shr (by omega) | exact b_shl (by omega) (by omega) | exact b_lss | exact b_leq | exact b_gtr | exact b_geq | exact b_eql | exact b_neq) ?_
          | refine ep_lenS rfl ?_ | refine ep_lenN rfl ?_ | refine ep_lenE rfl ?_ | refine ep_empt ?_ | refine sp_idx rfl rfl rfl (by omega) rfl ?_ | refine ep_loadSN rfl rfl rfl (by first | exact prs_get (by omega) | exact fns_get (by omega)) ?_)
        | (refine g_ops ?_; first | refine eo_none ?_ | refine eo_nil ?_)
        | (refine g_code ?_; first | refine ec_seq ?_ | refine ec_region ?_ | refine ec_block ?_ | refine ec_skip ?_ | refine ec_exit ?_ | refine ec_condT rfl ?_ | refine ec_condF rfl ?_ | refine ec_condTH rfl (by assumption) ?_ | refine ec_condFH rfl (by assumption) ?_)
        | refine ek_seqN ?_ | refine ek_seqX ?_ | refine ek_blkN ?_ | refine ek_blkR ?_ | refine ek_blkX ?_ | refine ek_blkY rfl ?_)
      exact rnd_on (by rfl) (scmp2 (by rfl) (by rfl) (by exact ⟨rfl, rfl, rfl⟩) (by rfl) (by rw [hc]; rfl) (by rfl) (by rfl))
  · intro u_ hu_
    have hlt : decide (((fs.length : Nat) : Int) < (fs.length : Nat)) = false := decide_eq_false (by omega)
    unfold m83_4
    repeat' (first
      | (refine g_op ?_; first
        | refine ep_mov rfl ?_ | refine sp_loadN rfl rfl rfl rfl rfl ?_
        | refine ep_bin rfl rfl (by first | exact b_add (by omega) (by omega) | exact b_sub (by omega) (by omega) | exact b_and (by omega) (by omega) | exact b_or (by omega) (by omega) | exact b_shr (by omega) | exact b_shl (by omega) (by omega) | exact b_lss | exact b_leq | exact b_gtr | exact b_geq | exact b_eql | exact b_neq) ?_
        | refine ep_lenS rfl ?_ | refine ep_lenN rfl ?_ | refine ep_lenE rfl ?_ | refine ep_empt ?_ | refine sp_idx rfl rfl rfl (by omega) rfl ?_ | refine ep_loadSN rfl rfl rfl (by first | exact prs_get (by omega) | exact fns_get (by omega)) ?_)
      | (refine g_ops ?_; first | refine eo_none ?_ | refine eo_nil ?_)
      | (refine g_code ?_; first | refine ec_seq ?_ | refine ec_region ?_ | refine ec_block ?_ | refine ec_skip ?_ | refine ec_exit ?_ | refine ec_condT rfl ?_ | refine ec_condF rfl ?_ | refine ec_condTH rfl (by assumption) ?_ | refine ec_condFH rfl (by assumption) ?_)
      | refine ek_seqN ?_ | refine ek_seqX ?_ | refine ek_blkN ?_ | refine ek_blkR ?_ | refine ek_blkX ?_ | refine ek_blkY rfl ?_)
    exact rnd_out (by rfl) (by simp) (scmp2 (by rfl) (by rfl) (by exact ⟨rfl, rfl, rfl⟩) (by rfl) (by first | rfl | (simp; done) | (simp [ints, prs]; done)) (by rfl) (by first | rfl | (simp; done) | (simp [ints, prs]; done)))

theorem lpds2f (q n N d : Nat) (fs : List (Int × Int)) (D : List Int) : LpS cx 70 1 m83_2 [(0, .sl 0 0 fs.length), (1, .int .i64 (n : Nat)), (5, .sl 1 0 N), (8, .bool false), (9, .int .i64 (d : Nat))] [⟨fns fs, 2, 0, some q, false⟩, ⟨zints D, 1, 1, some 0, false⟩] (⟨.exit 4, [(5, .sl 1 0 N)], [⟨fns fs, 2, 0, some q, false⟩, ⟨zints D, 1, 1, some 0, false⟩]⟩ : Out).x (⟨.exit 4, [(5, .sl 1 0 N)], [⟨fns fs, 2, 0, some q, false⟩, ⟨zints D, 1, 1, some 0, false⟩]⟩ : Out).e (⟨.exit 4, [(5, .sl 1 0 N)], [⟨fns fs, 2, 0, some q, false⟩, ⟨zints D, 1, 1, some 0, false⟩]⟩ : Out).h := by
  refine round_out ?_
  unfold m83_2
  repeat' (first
    | (refine g_op ?_; first
      | refine ep_mov rfl ?_
      | refine ep_bin rfl rfl (by first | exact b_add (by omega) (by omega) | exact b_sub (by omega) (by omega) | exact b_and (by omega) (by omega) | exact b_or (by omega) (by omega) | exact b_shr (by omega) | exact b_shl (by omega) (by omega) | exact b_lss | exact b_leq | exact b_gtr | exact b_geq | exact b_eql | exact b_neq) ?_
      | refine ep_empt ?_)
    | (refine g_ops ?_; first | refine eo_none ?_ | refine eo_nil ?_)
    | (refine g_code ?_; first | refine ec_seq ?_ | refine ec_region ?_ | refine ec_block ?_ | refine ec_skip ?_ | refine ec_exit ?_ | refine ec_condT rfl ?_ | refine ec_condF rfl ?_ | refine ec_condTH rfl (by assumption) ?_ | refine ec_condFH rfl (by assumption) ?_)
    | refine ek_seqN ?_ | refine ek_seqX ?_ | refine ek_seqR ?_ | refine ek_blkN ?_ | refine ek_blkR ?_ | refine ek_blkX ?_ | refine ek_blkY rfl ?_)
  exact rnd_out (by rfl) (by simp) (scmp2 (by rfl) (by rfl) (by exact ⟨rfl, rfl, rfl⟩) (by rfl) (by first | rfl | (simp; done) | (simp [ints, prs]; done)) (by rfl) (by first | rfl | (simp; done) | (simp [ints, prs]; done)))
theorem lpds2 (q n N : Nat) (fs : List (Int × Int)) (hNn : N = R2 (R2 n)) (hn : n ≤ 3) (hall : allFunc fs = true) (hln : fs.length ≤ 1048576) : ∀ (k d : Nat) (D : List Int), ngs D < k → D.length = N → (∃ c, c < N ∧ D.getD c 0 = 0) → 1 ≤ d → d + k < 65536 →
    LpS cx 70 1 m83_2 [(0, .sl 0 0 fs.length), (1, .int .i64 (n : Nat)), (5, .sl 1 0 N), (8, .bool true), (9, .int .i64 (d : Nat))] [⟨fns fs, 2, 0, some q, false⟩, ⟨zints D, 1, 1, some 0, false⟩] (⟨.exit 4, [(5, .sl 1 0 N)], [⟨fns fs, 2, 0, some q, false⟩, ⟨zints (genS fs n k d D), 1, 1, some 0, false⟩]⟩ : Out).x (⟨.exit 4, [(5, .sl 1 0 N)], [⟨fns fs, 2, 0, some q, false⟩, ⟨zints (genS fs n k d D), 1, 1, some 0, false⟩]⟩ : Out).e (⟨.exit 4, [(5, .sl 1 0 N)], [⟨fns fs, 2, 0, some q, false⟩, ⟨zints (genS fs n k d D), 1, 1, some 0, false⟩]⟩ : Out).h
  | 0, d, D, hk, _, _, _, _ => by omega
  | k + 1, d, D, hk, hN, hz, hd, hdk => by
    obtain ⟨h1, h2, h3, h4⟩ := shN (n := n) (by omega)
    have hinv := rnd_inv (fs := fs) (n := n) (d := (d : Int)) (L := kwS (R2 (R2 n)) D) (D := D) (by omega)
    have hlen := selm_len (fun b => decide (D.getD b 0 ≥ 0)) idn (R2 (R2 n))
    have lp4 := lpds4 q n N d fs D hNn hn hall hln (by omega) hN (kwS (R2 (R2 n)) D) (show (kwS (R2 (R2 n)) D).length ≤ 65536 from Nat.le_trans (selm_len _ _ _) h2) (fun j hj => by have h9 : (kwS (R2 (R2 n)) D).getD j 0 < R2 (R2 n) := (selm_lt0 hj).1; omega)
    rw [genS]
    rw [show rndS fs n d (kwS (R2 (R2 n)) D) D fs.length = rndG leafS fs n d (kwS (R2 (R2 n)) D) D from rfl, show rndS fs n d (kwS (R2 (R2 n)) D) D 0 = (D, false) from rfl] at lp4
    generalize hs : rndG leafS fs n d (kwS (R2 (R2 n)) D) D = s at *
    obtain ⟨c, hc, h0⟩ := hz
    obtain ⟨qq, hq, _⟩ := selm_mem (p := fun b => decide (D.getD b 0 ≥ 0)) (n := R2 (R2 n)) (x := c) (by omega) (by simp only [decide_eq_true_eq]; rw [h0]; omega)
    rw [show kwS (R2 (R2 n)) D = selm (fun b => decide (D.getD b 0 ≥ 0)) idn (R2 (R2 n)) from rfl] at lp4
    have lp3 := lpds3 q n N d fs D hNn hn hN
    cases hL : selm (fun b => decide (D.getD b 0 ≥ 0)) idn (R2 (R2 n)) with
    | nil => rw [hL] at hq; simp at hq
    | cons y ys =>
    have lp3 := lp3 _ (by rw [hL])
    rw [hL] at lp4
    obtain ⟨D1, A1⟩ := s
    have hadd := b_addN (a := d) (b := 1) (by omega)
    cases A1
    · rw [if_neg (by simp)]
      refine round_on ?_ (lpds2f q n N (d + 1) fs D1)
      unfold m83_2
      repeat' (first
        | refine sc_loop lp3 rfl rfl ⟨rfl, rfl, rfl⟩ rfl rfl rfl ?_
        | refine sc_loop lp4 rfl rfl ⟨rfl, rfl, rfl⟩ rfl rfl rfl ?_
        | (refine g_op ?_; first
          | refine ep_mov rfl ?_
          | refine ep_bin rfl rfl (by first | exact hadd | exact b_add (by omega) (by omega) | exact b_sub (by omega) (by omega) | exact b_and (by omega) (by omega) | exact b_or (by omega) (by omega) | exact b_shr (by omega) | exact b_shl (by omega) (by omega) | exact b_lss | exact b_leq | exact b_gtr | exact b_geq | exact b_eql | exact b_neq) ?_
          | refine ep_empt ?_)
        | (refine g_ops ?_; first | refine eo_none ?_ | refine eo_nil ?_)
        | (refine g_code ?_; first | refine ec_seq ?_ | refine ec_region ?_ | refine ec_block ?_ | refine ec_skip ?_ | refine ec_exit ?_ | refine ec_condT rfl ?_ | refine ec_condF rfl ?_ | refine ec_condTH rfl (by assumption) ?_ | refine ec_condFH rfl (by assumption) ?_)
        | refine ek_seqN ?_ | refine ek_seqX ?_ | refine ek_seqR ?_ | refine ek_blkN ?_ | refine ek_blkR ?_ | refine ek_blkX ?_ | refine ek_blkY rfl ?_)
      exact rnd_on (by rfl) (scmp2 (by rfl) (by rfl) (by exact ⟨rfl, rfl, rfl⟩) (by rfl) (by first | rfl | (simp; done) | (simp [ints, prs]; done)) (by rfl) (by first | rfl | (simp; done) | (simp [ints, prs]; done)))
    · rw [if_pos rfl]
      have hg1 := hinv.2.2 rfl
      simp only at hg1
      refine round_on ?_ (lpds2 q n N fs hNn hn hall hln k (d + 1) D1 (by omega) (by rw [hinv.1.1]; exact hN) ⟨c, hc, by rw [hinv.1.2 c (by omega)]; exact h0⟩ (by omega) (by omega))
      unfold m83_2
      repeat' (first
        | refine sc_loop lp3 rfl rfl ⟨rfl, rfl, rfl⟩ rfl rfl rfl ?_
        | refine sc_loop lp4 rfl rfl ⟨rfl, rfl, rfl⟩ rfl rfl rfl ?_
        | (refine g_op ?_; first
          | refine ep_mov rfl ?_
          | refine ep_bin rfl rfl (by first | exact hadd | exact b_add (by omega) (by omega) | exact b_sub (by omega) (by omega) | exact b_and (by omega) (by omega) | exact b_or (by omega) (by omega) | exact b_shr (by omega) | exact b_shl (by omega) (by omega) | exact b_lss | exact b_leq | exact b_gtr | exact b_geq | exact b_eql | exact b_neq) ?_
          | refine ep_empt ?_)
        | (refine g_ops ?_; first | refine eo_none ?_ | refine eo_nil ?_)
        | (refine g_code ?_; first | refine ec_seq ?_ | refine ec_region ?_ | refine ec_block ?_ | refine ec_skip ?_ | refine ec_exit ?_ | refine ec_condT rfl ?_ | refine ec_condF rfl ?_ | refine ec_condTH rfl (by assumption) ?_ | refine ec_condFH rfl (by assumption) ?_)
        | refine ek_seqN ?_ | refine ek_seqX ?_ | refine ek_seqR ?_ | refine ek_blkN ?_ | refine ek_blkR ?_ | refine ek_blkX ?_ | refine ek_blkY rfl ?_)
      exact rnd_on (by rfl) (scmp2 (by rfl) (by rfl) (by exact ⟨rfl, rfl, rfl⟩) (by rfl) (by first | rfl | (simp; done) | (simp [ints, prs]; done)) (by rfl) (by first | rfl | (simp; done) | (simp [ints, prs]; done)))
theorem evdpq (q n : Nat) (fs : List (Int × Int)) (hn1 : 1 ≤ n) (hn : n ≤ 3) (hall : allFunc fs = true) (hln : fs.length ≤ 1048576) : Ev cx 83 [.sl 0 0 fs.length, .int .i64 (n : Nat)] [⟨fns fs, 2, 0, some q, false⟩] (.sl 1 0 (R2 (R2 n))) [⟨fns fs, 2, 0, some q, false⟩, ⟨zints (depL fs n), 1, 1, some 0, false⟩] := by
  obtain ⟨h1, h2, h3, h4⟩ := shN (n := n) (by omega)
  have h23 : R2 n ≤ 8 := by have := R2_mono (i := n) (n := 3) hn; have h8 : R2 3 = 8 := by { unfold R2; rfl }; omega
  have hN8 : R2 (R2 n) ≤ 256 := by have := R2_mono (i := R2 n) (n := 8) h23; have h8 : R2 8 = 256 := by { unfold R2; rfl }; omega
  have sa := (selm_all (g := idn) (R2 (R2 n))).1
  have lp1 := lpds1 q n (R2 (R2 n)) fs rfl hn
  rw [show D0 n 0 = List.replicate (R2 (R2 n)) (-1) from rfl] at lp1
  have hl := D0_len n n
  have lp2 := lpds2 q n (R2 (R2 n)) fs rfl hn hall hln (R2 (R2 n) + 1) 1 (D0 n n) (by have := ngs_le (D0 n n); omega) hl ⟨projB n (n - 1), projB_lt n _, by
    obtain ⟨m, rfl⟩ : ∃ m, n = m + 1 := ⟨n - 1, by omega⟩
    rw [D0_s, getD_set, show m + 1 - 1 = m from rfl, if_pos ⟨rfl, by rw [D0_len]; exact projB_lt _ _⟩]⟩ (by omega) (by omega)
  rw [show genS fs n (R2 (R2 n) + 1) 1 (D0 n n) = depL fs n from rfl] at lp2
  cases hs : selm (fun _ => true) idn (R2 (R2 n)) with
  | nil => rw [hs] at sa; simp at sa; omega
  | cons x xs =>
    rw [hs] at sa
    have lp0 := lp83_0 q n fs hn _ (by rw [hs])
    dsimp only at lp0
    rw [mneg_rep, sa] at lp0
    refine has83.eev rfl rfl ?_
    unfold m83
    repeat' (first
      | refine sc_loop lp0 rfl rfl ⟨rfl, rfl, rfl⟩ rfl rfl rfl ?_
      | refine sc_loop lp1 rfl rfl ⟨rfl, rfl, rfl⟩ rfl rfl rfl ?_
      | refine sc_loop lp2 rfl rfl ⟨rfl, rfl, rfl⟩ rfl rfl rfl ?_
      | (refine g_op ?_; first
        | refine ep_mov rfl ?_
        | refine ep_empt ?_)
      | (refine g_ops ?_; first | refine eo_none ?_ | refine eo_nil ?_)
      | (refine g_code ?_; first | refine ec_seq ?_ | refine ec_region ?_ | refine ec_block ?_ | refine ec_ret ?_)
      | refine ek_seqN ?_ | refine ek_seqX ?_ | refine ek_seqR ?_ | refine ek_blkN ?_ | refine ek_blkR ?_ | refine ek_blkX ?_ | refine ek_blkY rfl ?_)
    refine sfin (.inr rfl) (by rfl) (by rfl) (by exact ⟨rfl, rfl, rfl⟩) (by rfl) (by rfl) (by rfl) (by first | rfl | (simp; done) | (simp [ints, prs]; done))
theorem ev83 (n : Nat) (fs : List (Int × Int)) (hn1 : 1 ≤ n) (hn : n ≤ 3) (hall : allFunc fs = true) (hln : fs.length ≤ 1048576) : Ev cx 83 [.sl 0 0 fs.length, .int .i64 (n : Nat)] [⟨fns fs, 2, 0, some 0, false⟩] (.sl 1 0 (R2 (R2 n))) [⟨fns fs, 2, 0, some 0, false⟩, ⟨zints (depL fs n), 1, 1, some 0, false⟩] := evdpq 0 n fs hn1 hn hall hln

def a3 (fs : List (Int × Int)) : Bool := allF (fun j => !decide ((fs.getD j (0, 0)).1 > 2)) 0 fs.length
def gcode (fs : List (Int × Int)) (z : Int) : Int := if lcode fs = 0 then (if 2 ≤ z ∧ z ≤ 3 then (if z = 3 ∧ a3 fs = false then 2 else 0) else 2) else lcode fs
theorem fns_at0 {l : List (Int × Int)} {j : Nat} (h : j < l.length) : (fns l)[0 + j * 2 + 0]? = some (.int .i64 (l.getD j (0, 0)).1) := by
  have h2 := congrArg (fun q : List V => q[0]?) (fns_get h).2.2
  simpa [List.getElem?_take, List.getElem?_drop] using h2
theorem gcode_0 {fs : List (Int × Int)} {z : Int} (h : gcode fs z = 0) : allFunc fs = true ∧ fs.length ≤ 8 ∧ 2 ≤ z ∧ z ≤ 3 := by
  unfold gcode at h
  split at h
  · rename_i h0
    split at h
    · rename_i h1
      unfold lcode at h0
      split at h0
      · rename_i ha
        split at h0
        · omega
        · exact ⟨ha, by omega, h1⟩
      · omega
    · omega
  · exact absurd h (by assumption)
theorem genS_le {fs : List (Int × Int)} {n : Nat} : ∀ (k d : Nat) (D : List Int), leD D (genS fs n k d D)
  | 0, d, D => leD_refl D
  | k + 1, d, D => by
    rw [genS]
    have h := (rnd_inv (fs := fs) (n := n) (d := d) (L := kwS (R2 (R2 n)) D) (D := D) (by omega)).1
    split
    · exact leD_trans h (genS_le k _ _)
    · exact h
theorem depL_pj {fs : List (Int × Int)} {n i : Nat} (hi : i < n) : (depL fs n).getD (projB n i) 0 = 0 := by
  have h0 : ∀ m, i < m → (D0 n m).getD (projB n i) 0 = 0 := by
    intro m
    induction m with
    | zero => intro h; omega
    | succ m ih =>
      intro h
      rw [D0_s, getD_set]
      split
      · rfl
      · by_cases e : i = m
        · subst e; rename_i hn; exact absurd ⟨rfl, by rw [D0_len]; exact projB_lt _ _⟩ hn
        · exact ih (by omega)
  have h1 := h0 n hi
  rw [depL, (genS_le _ _ _).2 _ (by omega), h1]
theorem kw_dep {fs : List (Int × Int)} {n : Nat} (hn : 1 ≤ n) : kwS (R2 (R2 n)) (depL fs n) ≠ [] := by
  obtain ⟨k, hk, _⟩ := selm_mem (p := fun b => decide (0 ≤ (depL fs n).getD b 0)) (n := R2 (R2 n)) (x := projB n 0) (projB_lt _ _) (by simp only [decide_eq_true_eq]; rw [depL_pj hn]; omega)
  intro he
  have he' : selm (fun b => decide (0 ≤ (depL fs n).getD b 0)) idn (R2 (R2 n)) = [] := he
  rw [he'] at hk; simp at hk
def gbL (fs : List (Int × Int)) (z : Int) : List Nat := if gcode fs z = 0 then kwS (R2 (R2 z.toNat)) (depL fs z.toNat) else []
abbrev gbC (fs : List (Int × Int)) (z : Int) : Int := gcode fs z
theorem gbL_len (fs : List (Int × Int)) (z : Int) : (gbL fs z).length ≤ 65536 := by
  unfold gbL
  split
  · rename_i h
    have hz := gcode_0 h
    have := selm_len (fun b => decide (0 ≤ (depL fs z.toNat).getD b 0)) idn (R2 (R2 z.toNat))
    have h2 := (shN (n := z.toNat) (by omega)).2.1
    unfold kwS; omega
  · simp
-- spec.l04Code
def m81_0 : MC := (.seq (.seq (.region [⟨(.mov (.t 6)), (some 15), none⟩, ⟨(.mov (.t 0)), (some 16), none⟩, ⟨(.len (.t 16)), (some 17), none⟩, ⟨(.bin .lss (.t 15) (.t 17)), (some 18), none⟩] false) (.cond (.t 18) .skip (.exit 0))) (.seq (.block 1 (.seq (.region [⟨(.mov (.t 1)), (some 21), none⟩, ⟨(.bin .eql (.t 21) (.k (.int .i64 3))), (some 22), none⟩, ⟨(.mov (.t 22)), (some 23), none⟩, ⟨(.mov (.t 0)), (some 24), (some (23, true))⟩, ⟨(.mov (.t 6)), (some 25), (some (23, true))⟩, ⟨(.indexAddr 2 (.t 24) (.t 25)), (some 26), (some (23, true))⟩, ⟨(.fieldAddr 0 (.t 26)), (some 27), (some (23, true))⟩, ⟨(.load none (.t 27)), (some 28), (some (23, true))⟩, ⟨(.bin .gtr (.t 28) (.k (.int .i64 2))), (some 29), (some (23, true))⟩, ⟨(.pick (.t 23) (.t 29) (.k (.bool false))), (some 30), none⟩] false) (.cond (.t 30) (.seq (.region [⟨(.mov (.k (.int .i64 2))), (some 4), none⟩] false) .ret) .skip))) (.region [⟨(.mov (.t 6)), (some 19), none⟩, ⟨(.bin .add (.t 19) (.k (.int .i64 1))), (some 20), none⟩, ⟨(.mov (.t 20)), (some 6), none⟩] false)))
def m81 : MC := (.seq (.region [⟨(.mov (.k (.int .i64 0))), (some 4), none⟩] false) (.seq (.seq (.region [⟨(.mov (.t 0)), (some 7), none⟩, ⟨(.call 69 [(.t 7)]), (some 8), none⟩, ⟨(.mov (.t 8)), (some 5), none⟩] false) (.seq (.region [⟨(.mov (.t 5)), (some 9), none⟩, ⟨(.bin .neq (.t 9) (.k (.int .i64 0))), (some 10), none⟩] false) (.cond (.t 10) (.seq (.region [⟨(.mov (.t 5)), (some 11), none⟩, ⟨(.mov (.t 11)), (some 4), none⟩] false) .ret) .skip))) (.seq (.seq (.region [⟨(.mov (.t 1)), (some 12), none⟩, ⟨(.call 97 [(.t 12), (.k (.int .i64 2)), (.k (.int .i64 3))]), (some 13), none⟩, ⟨(.un .not (.t 13)), (some 14), none⟩] false) (.cond (.t 14) (.seq (.region [⟨(.mov (.k (.int .i64 2))), (some 4), none⟩] false) .ret) .skip)) (.seq (.seq (.region [⟨(.mov (.k (.int .i64 0))), (some 6), none⟩] false) (.block 0 (.loop m81_0))) (.seq (.region [⟨(.mov (.k (.int .i64 0))), (some 4), none⟩] false) .ret)))))
theorem has81 : Has cx 81 31 m81 [(.tmp 4)] :=
  ⟨⟨Try.f81, Try.f81.body.getD .skip, by kernel_rfl, by kernel_rfl, by kernel_rfl, by kernel_rfl, by kernel_rfl, by kernel_rfl⟩⟩
theorem lplc_n (fs : List (Int × Int)) (z : Int) (hln : fs.length ≤ 1048576) (hz : (z == 3) = false) :
    LpS cx 31 1 m81_0 [(0, .sl 0 0 fs.length), (1, .int .i64 (z)), (6, .int .i64 (0 : Nat))] [⟨fns fs, 2, 0, some 0, false⟩] (⟨.exit 0, [], [⟨fns fs, 2, 0, some 0, false⟩]⟩ : Out).x (⟨.exit 0, [], [⟨fns fs, 2, 0, some 0, false⟩]⟩ : Out).e (⟨.exit 0, [], [⟨fns fs, 2, 0, some 0, false⟩]⟩ : Out).h := by
  refine lp_st (fs.length) (fun _ => ()) (fun i _ => [(0, .sl 0 0 fs.length), (1, .int .i64 (z)), (6, .int .i64 (i : Nat))]) (fun i _ => [⟨fns fs, 2, 0, some 0, false⟩]) (fun _ => (⟨.exit 0, [], [⟨fns fs, 2, 0, some 0, false⟩]⟩ : Out)) ?_ ?_ (fs.length) 0 (by omega)
  · intro i u_ hi hu_
    refine ⟨(), rfl, ?_⟩
    have hlt : decide ((i : Int) < (fs.length : Nat)) = true := decide_eq_true (by omega)
    unfold m81_0
    repeat' (first
      | (refine g_op ?_; first
        | refine ep_mov rfl ?_ | refine ep_load1 rfl rfl rfl rfl ?_ | refine ep_fieldAddr rfl ?_
        | refine ep_bin rfl rfl (by first | exact b_add (by omega) (by omega) | exact b_sub (by omega) (by omega) | exact b_and (by omega) (by omega) | exact b_or (by omega) (by omega) | exact b_shr (by omega) | exact b_shl (by omega) (by omega) | exact b_lss | exact b_leq | exact b_gtr | exact b_geq | exact b_eql | exact b_neq) ?_
        | refine ep_pickT rfl rfl ?_ | refine ep_pickF rfl rfl ?_ | refine ep_pickTH rfl (by assumption) rfl ?_ | refine ep_pickFH rfl (by assumption) rfl ?_ | refine ep_lenS rfl ?_ | refine ep_lenN rfl ?_
        | refine ep_lenE rfl ?_ | refine sp_idx rfl rfl rfl (by omega) rfl ?_ | refine ep_loadS rfl rfl rfl (by first | exact ints_get (by omega) | exact zints_get (by omega) | exact fget (by omega) | assumption) ?_)
      | (refine g_ops ?_; first | refine eo_none ?_ | refine eo_nil ?_ | refine eo_yes rfl ?_ | refine eo_no rfl ?_ | refine eo_und rfl ?_ | refine eo_yesH rfl (by assumption) ?_ | refine eo_noH rfl (by assumption) ?_)
      | (refine g_code ?_; first | refine ec_seq ?_ | refine ec_region ?_ | refine ec_block ?_ | refine ec_skip ?_ | refine ec_exit ?_ | refine ec_ret ?_ | refine ec_condT rfl ?_ | refine ec_condF rfl ?_ | refine ec_condTH rfl (by assumption) ?_ | refine ec_condFH rfl (by assumption) ?_)
      | refine ek_seqN ?_ | refine ek_seqX ?_ | refine ek_seqR ?_ | refine ek_blkN ?_ | refine ek_blkR ?_ | refine ek_blkX ?_ | refine ek_blkY rfl ?_)
    exact rnd_on (by rfl) (scmp2 (by rfl) (by rfl) (by exact ⟨rfl, rfl, rfl⟩) (by rfl) (by first | rfl | (simp; done) | (simp [ints, prs]; done)) (by rfl) (by first | rfl | (simp; done) | (simp [ints, prs]; done)))
  · intro u_ hu_
    have hlt : decide (((fs.length : Nat) : Int) < (fs.length : Nat)) = false := decide_eq_false (by omega)
    unfold m81_0
    repeat' (first
      | (refine g_op ?_; first
        | refine ep_mov rfl ?_ | refine ep_load1 rfl rfl rfl rfl ?_ | refine ep_fieldAddr rfl ?_
        | refine ep_bin rfl rfl (by first | exact b_add (by omega) (by omega) | exact b_sub (by omega) (by omega) | exact b_and (by omega) (by omega) | exact b_or (by omega) (by omega) | exact b_shr (by omega) | exact b_shl (by omega) (by omega) | exact b_lss | exact b_leq | exact b_gtr | exact b_geq | exact b_eql | exact b_neq) ?_
        | refine ep_pickT rfl rfl ?_ | refine ep_pickF rfl rfl ?_ | refine ep_pickTH rfl (by assumption) rfl ?_ | refine ep_pickFH rfl (by assumption) rfl ?_ | refine ep_lenS rfl ?_ | refine ep_lenN rfl ?_
        | refine ep_lenE rfl ?_ | refine sp_idx rfl rfl rfl (by omega) rfl ?_ | refine ep_loadS rfl rfl rfl (by first | exact ints_get (by omega) | exact zints_get (by omega) | exact fget (by omega) | assumption) ?_)
      | (refine g_ops ?_; first | refine eo_none ?_ | refine eo_nil ?_ | refine eo_yes rfl ?_ | refine eo_no rfl ?_ | refine eo_und rfl ?_ | refine eo_yesH rfl (by assumption) ?_ | refine eo_noH rfl (by assumption) ?_)
      | (refine g_code ?_; first | refine ec_seq ?_ | refine ec_region ?_ | refine ec_block ?_ | refine ec_skip ?_ | refine ec_exit ?_ | refine ec_ret ?_ | refine ec_condT rfl ?_ | refine ec_condF rfl ?_ | refine ec_condTH rfl (by assumption) ?_ | refine ec_condFH rfl (by assumption) ?_)
      | refine ek_seqN ?_ | refine ek_seqX ?_ | refine ek_seqR ?_ | refine ek_blkN ?_ | refine ek_blkR ?_ | refine ek_blkX ?_ | refine ek_blkY rfl ?_)
    exact rnd_out (by rfl) (by simp) (scmp2 (by rfl) (by rfl) (by exact ⟨rfl, rfl, rfl⟩) (by rfl) (by first | rfl | (simp; done) | (simp [ints, prs]; done)) (by rfl) (by first | rfl | (simp; done) | (simp [ints, prs]; done)))

theorem lplc_y (fs : List (Int × Int)) (z : Int) (hln : fs.length ≤ 1048576) (hz : (z == 3) = true) (o : Out) (ho : (if allF (fun j => !decide ((fs.getD j (0, 0)).1 > 2)) 0 (fs.length) = true then (⟨.exit 0, [], [⟨fns fs, 2, 0, some 0, false⟩]⟩ : Out) else ⟨.ret, [(4, .int .i64 2)], [⟨fns fs, 2, 0, some 0, false⟩]⟩) = o) :
    LpS cx 31 1 m81_0 [(0, .sl 0 0 fs.length), (1, .int .i64 (z)), (6, .int .i64 (0 : Nat))] [⟨fns fs, 2, 0, some 0, false⟩] o.x o.e o.h := by
  refine lp_all (fs.length) (fun j => !decide ((fs.getD j (0, 0)).1 > 2)) (fun i => [(0, .sl 0 0 fs.length), (1, .int .i64 (z)), (6, .int .i64 (i : Nat))]) (fun i => [⟨fns fs, 2, 0, some 0, false⟩]) _ _ ?_ ?_ ?_ (fs.length) 0 o (by omega) ho
  · intro i hi hp
    have hlt : decide ((i : Int) < (fs.length : Nat)) = true := decide_eq_true (by omega)
    have hp' : (!decide ((fs.getD i (0, 0)).1 > 2)) = true := hp
    have hg0 := fns_at0 (l := fs) (j := i) hi
    have hq : decide ((fs.getD i (0, 0)).1 > 2) = false := by simpa using hp'
    unfold m81_0
    repeat' (first
      | refine ep_loadS rfl rfl rfl hg0 ?_
      | (refine g_op ?_; first
        | refine ep_mov rfl ?_ | refine ep_load1 rfl rfl rfl rfl ?_ | refine ep_fieldAddr rfl ?_
        | refine ep_bin rfl rfl (by first | exact b_add (by omega) (by omega) | exact b_sub (by omega) (by omega) | exact b_and (by omega) (by omega) | exact b_or (by omega) (by omega) | exact b_shr (by omega) | exact b_shl (by omega) (by omega) | exact b_lss | exact b_leq | exact b_gtr | exact b_geq | exact b_eql | exact b_neq) ?_
        | refine ep_pickT rfl rfl ?_ | refine ep_pickF rfl rfl ?_ | refine ep_pickTH rfl (by assumption) rfl ?_ | refine ep_pickFH rfl (by assumption) rfl ?_ | refine ep_lenS rfl ?_ | refine ep_lenN rfl ?_
        | refine ep_lenE rfl ?_ | refine sp_idx rfl rfl rfl (by omega) rfl ?_ | refine ep_loadS rfl rfl rfl (by first | exact ints_get (by omega) | exact zints_get (by omega) | exact fget (by omega) | assumption) ?_)
      | (refine g_ops ?_; first | refine eo_none ?_ | refine eo_nil ?_ | refine eo_yes rfl ?_ | refine eo_no rfl ?_ | refine eo_und rfl ?_ | refine eo_yesH rfl (by assumption) ?_ | refine eo_noH rfl (by assumption) ?_)
      | (refine g_code ?_; first | refine ec_seq ?_ | refine ec_region ?_ | refine ec_block ?_ | refine ec_skip ?_ | refine ec_exit ?_ | refine ec_ret ?_ | refine ec_condT rfl ?_ | refine ec_condF rfl ?_ | refine ec_condTH rfl (by assumption) ?_ | refine ec_condFH rfl (by assumption) ?_)
      | refine ek_seqN ?_ | refine ek_seqX ?_ | refine ek_seqR ?_ | refine ek_blkN ?_ | refine ek_blkR ?_ | refine ek_blkX ?_ | refine ek_blkY rfl ?_)
    exact rnd_on (by rfl) (scmp2 (by rfl) (by rfl) (by exact ⟨rfl, rfl, rfl⟩) (by rfl) (by first | rfl | (simp; done) | (simp [ints, prs]; done)) (by rfl) (by first | rfl | (simp; done) | (simp [ints, prs]; done)))
  · intro i hi hp
    have hlt : decide ((i : Int) < (fs.length : Nat)) = true := decide_eq_true (by omega)
    have hp' : (!decide ((fs.getD i (0, 0)).1 > 2)) = false := hp
    have hg0 := fns_at0 (l := fs) (j := i) hi
    have hq : decide ((fs.getD i (0, 0)).1 > 2) = true := by simpa using hp'
    unfold m81_0
    repeat' (first
      | refine ep_loadS rfl rfl rfl hg0 ?_
      | (refine g_op ?_; first
        | refine ep_mov rfl ?_ | refine ep_load1 rfl rfl rfl rfl ?_ | refine ep_fieldAddr rfl ?_
        | refine ep_bin rfl rfl (by first | exact b_add (by omega) (by omega) | exact b_sub (by omega) (by omega) | exact b_and (by omega) (by omega) | exact b_or (by omega) (by omega) | exact b_shr (by omega) | exact b_shl (by omega) (by omega) | exact b_lss | exact b_leq | exact b_gtr | exact b_geq | exact b_eql | exact b_neq) ?_
        | refine ep_pickT rfl rfl ?_ | refine ep_pickF rfl rfl ?_ | refine ep_pickTH rfl (by assumption) rfl ?_ | refine ep_pickFH rfl (by assumption) rfl ?_ | refine ep_lenS rfl ?_ | refine ep_lenN rfl ?_
        | refine ep_lenE rfl ?_ | refine sp_idx rfl rfl rfl (by omega) rfl ?_ | refine ep_loadS rfl rfl rfl (by first | exact ints_get (by omega) | exact zints_get (by omega) | exact fget (by omega) | assumption) ?_)
      | (refine g_ops ?_; first | refine eo_none ?_ | refine eo_nil ?_ | refine eo_yes rfl ?_ | refine eo_no rfl ?_ | refine eo_und rfl ?_ | refine eo_yesH rfl (by assumption) ?_ | refine eo_noH rfl (by assumption) ?_)
      | (refine g_code ?_; first | refine ec_seq ?_ | refine ec_region ?_ | refine ec_block ?_ | refine ec_skip ?_ | refine ec_exit ?_ | refine ec_ret ?_ | refine ec_condT rfl ?_ | refine ec_condF rfl ?_ | refine ec_condTH rfl (by assumption) ?_ | refine ec_condFH rfl (by assumption) ?_)
      | refine ek_seqN ?_ | refine ek_seqX ?_ | refine ek_seqR ?_ | refine ek_blkN ?_ | refine ek_blkR ?_ | refine ek_blkX ?_ | refine ek_blkY rfl ?_)
    exact rnd_out (by rfl) (by simp) (scmp2 (by rfl) (by rfl) (by exact ⟨rfl, rfl, rfl⟩) (by rfl) (by first | rfl | (simp; done) | (simp [ints, prs]; done)) (by rfl) (by first | rfl | (simp; done) | (simp [ints, prs]; done)))
  · have hlt : decide (((fs.length : Nat) : Int) < (fs.length : Nat)) = false := decide_eq_false (by omega)
    unfold m81_0
    repeat' (first
      | (refine g_op ?_; first
        | refine ep_mov rfl ?_ | refine ep_load1 rfl rfl rfl rfl ?_ | refine ep_fieldAddr rfl ?_
        | refine ep_bin rfl rfl (by first | exact b_add (by omega) (by omega) | exact b_sub (by omega) (by omega) | exact b_and (by omega) (by omega) | exact b_or (by omega) (by omega) | exact b_shr (by omega) | exact b_shl (by omega) (by omega) | exact b_lss | exact b_leq | exact b_gtr | exact b_geq | exact b_eql | exact b_neq) ?_
        | refine ep_pickT rfl rfl ?_ | refine ep_pickF rfl rfl ?_ | refine ep_pickTH rfl (by assumption) rfl ?_ | refine ep_pickFH rfl (by assumption) rfl ?_ | refine ep_lenS rfl ?_ | refine ep_lenN rfl ?_
        | refine ep_lenE rfl ?_ | refine sp_idx rfl rfl rfl (by omega) rfl ?_ | refine ep_loadS rfl rfl rfl (by first | exact ints_get (by omega) | exact zints_get (by omega) | exact fget (by omega) | assumption) ?_)
      | (refine g_ops ?_; first | refine eo_none ?_ | refine eo_nil ?_ | refine eo_yes rfl ?_ | refine eo_no rfl ?_ | refine eo_und rfl ?_ | refine eo_yesH rfl (by assumption) ?_ | refine eo_noH rfl (by assumption) ?_)
      | (refine g_code ?_; first | refine ec_seq ?_ | refine ec_region ?_ | refine ec_block ?_ | refine ec_skip ?_ | refine ec_exit ?_ | refine ec_ret ?_ | refine ec_condT rfl ?_ | refine ec_condF rfl ?_ | refine ec_condTH rfl (by assumption) ?_ | refine ec_condFH rfl (by assumption) ?_)
      | refine ek_seqN ?_ | refine ek_seqX ?_ | refine ek_seqR ?_ | refine ek_blkN ?_ | refine ek_blkR ?_ | refine ek_blkX ?_ | refine ek_blkY rfl ?_)
    exact rnd_out (by rfl) (by simp) (scmp2 (by rfl) (by rfl) (by exact ⟨rfl, rfl, rfl⟩) (by rfl) (by first | rfl | (simp; done) | (simp [ints, prs]; done)) (by rfl) (by first | rfl | (simp; done) | (simp [ints, prs]; done)))

theorem ev81 (fs : List (Int × Int)) (z : Int) (hln : fs.length ≤ 1048576) : Ev cx 81 [.sl 0 0 fs.length, .int .i64 z] [⟨fns fs, 2, 0, some 0, false⟩] (.int .i64 (gcode fs z)) [⟨fns fs, 2, 0, some 0, false⟩] := by
  have e1 := ev69 fs hln
  have e2 := ev97 z 2 3
  by_cases h0 : lcode fs = 0
  · rw [h0] at e1
    by_cases h1 : 2 ≤ z ∧ z ≤ 3
    · rw [decide_eq_true h1] at e2
      cases hz : (z == 3)
      · have hC : gcode fs z = 0 := by rw [gcode, if_pos h0, if_pos h1, if_neg (fun h => by rw [h.1] at hz; simp at hz)]
        have lp := lplc_n fs z hln hz
        rw [hC]
        refine has81.eev rfl rfl ?_
        unfold m81
        repeat' (first
          | refine sc_loop lp rfl rfl ⟨rfl, rfl, rfl⟩ rfl rfl rfl ?_
          | (refine g_op ?_; first
            | refine ep_mov rfl ?_
            | refine ep_call0 rfl (by first | exact e1 | exact e2) rfl rfl ?_
            | refine sp_call rfl rfl rfl rfl (by first | exact e1 | exact e2) ⟨rfl, rfl, rfl, rfl⟩ rfl rfl rfl ?_
            | refine ep_bin rfl rfl (by first | exact b_add (by omega) (by omega) | exact b_sub (by omega) (by omega) | exact b_and (by omega) (by omega) | exact b_or (by omega) (by omega) | exact b_shr (by omega) | exact b_shl (by omega) (by omega) | exact b_lss | exact b_leq | exact b_gtr | exact b_geq | exact b_eql | exact b_neq) ?_
            | refine ep_not rfl ?_)
          | (refine g_ops ?_; first | refine eo_none ?_ | refine eo_nil ?_)
          | (refine g_code ?_; first | refine ec_seq ?_ | refine ec_region ?_ | refine ec_block ?_ | refine ec_skip ?_ | refine ec_ret ?_ | refine ec_condT rfl ?_ | refine ec_condF rfl ?_ | refine ec_condTH rfl (by assumption) ?_ | refine ec_condFH rfl (by assumption) ?_)
          | refine ek_seqN ?_ | refine ek_seqX ?_ | refine ek_seqR ?_ | refine ek_blkN ?_ | refine ek_blkR ?_ | refine ek_blkX ?_ | refine ek_blkY rfl ?_)
        refine sfin (.inr rfl) (by rfl) (by rfl) (by exact ⟨rfl, rfl, rfl⟩) (by rfl) (by rfl) (by rfl) (by first | rfl | (simp; done) | (simp [ints, prs]; done))
      · have hz3 : z = 3 := by simpa using hz
        cases h3 : a3 fs
        · have hC : gcode fs z = 2 := by rw [gcode, if_pos h0, if_pos h1, if_pos ⟨hz3, h3⟩]
          have lp := lplc_y fs z hln hz _ (if_neg (by rw [show allF (fun j => !decide ((fs.getD j (0, 0)).1 > 2)) 0 fs.length = false from h3]; simp))
          rw [hC]
          refine has81.eev rfl rfl ?_
          unfold m81
          repeat' (first
            | refine sc_loop lp rfl rfl ⟨rfl, rfl, rfl⟩ rfl rfl rfl ?_
            | (refine g_op ?_; first
              | refine ep_mov rfl ?_
              | refine ep_call0 rfl (by first | exact e1 | exact e2) rfl rfl ?_
              | refine sp_call rfl rfl rfl rfl (by first | exact e1 | exact e2) ⟨rfl, rfl, rfl, rfl⟩ rfl rfl rfl ?_
              | refine ep_bin rfl rfl (by first | exact b_add (by omega) (by omega) | exact b_sub (by omega) (by omega) | exact b_and (by omega) (by omega) | exact b_or (by omega) (by omega) | exact b_shr (by omega) | exact b_shl (by omega) (by omega) | exact b_lss | exact b_leq | exact b_gtr | exact b_geq | exact b_eql | exact b_neq) ?_
              | refine ep_not rfl ?_)
            | (refine g_ops ?_; first | refine eo_none ?_ | refine eo_nil ?_)
            | (refine g_code ?_; first | refine ec_seq ?_ | refine ec_region ?_ | refine ec_block ?_ | refine ec_skip ?_ | refine ec_ret ?_ | refine ec_condT rfl ?_ | refine ec_condF rfl ?_ | refine ec_condTH rfl (by assumption) ?_ | refine ec_condFH rfl (by assumption) ?_)
            | refine ek_seqN ?_ | refine ek_seqX ?_ | refine ek_seqR ?_ | refine ek_blkN ?_ | refine ek_blkR ?_ | refine ek_blkX ?_ | refine ek_blkY rfl ?_)
          refine sfin (.inr rfl) (by rfl) (by rfl) (by exact ⟨rfl, rfl, rfl⟩) (by rfl) (by rfl) (by rfl) (by first | rfl | (simp; done) | (simp [ints, prs]; done))
        · have hC : gcode fs z = 0 := by rw [gcode, if_pos h0, if_pos h1, if_neg (fun h => by rw [h3] at h; simp at h)]
          have lp := lplc_y fs z hln hz _ (if_pos h3)
          rw [hC]
          refine has81.eev rfl rfl ?_
          unfold m81
          repeat' (first
            | refine sc_loop lp rfl rfl ⟨rfl, rfl, rfl⟩ rfl rfl rfl ?_
            | (refine g_op ?_; first
              | refine ep_mov rfl ?_
              | refine ep_call0 rfl (by first | exact e1 | exact e2) rfl rfl ?_
              | refine sp_call rfl rfl rfl rfl (by first | exact e1 | exact e2) ⟨rfl, rfl, rfl, rfl⟩ rfl rfl rfl ?_
              | refine ep_bin rfl rfl (by first | exact b_add (by omega) (by omega) | exact b_sub (by omega) (by omega) | exact b_and (by omega) (by omega) | exact b_or (by omega) (by omega) | exact b_shr (by omega) | exact b_shl (by omega) (by omega) | exact b_lss | exact b_leq | exact b_gtr | exact b_geq | exact b_eql | exact b_neq) ?_
              | refine ep_not rfl ?_)
            | (refine g_ops ?_; first | refine eo_none ?_ | refine eo_nil ?_)
            | (refine g_code ?_; first | refine ec_seq ?_ | refine ec_region ?_ | refine ec_block ?_ | refine ec_skip ?_ | refine ec_ret ?_ | refine ec_condT rfl ?_ | refine ec_condF rfl ?_ | refine ec_condTH rfl (by assumption) ?_ | refine ec_condFH rfl (by assumption) ?_)
            | refine ek_seqN ?_ | refine ek_seqX ?_ | refine ek_seqR ?_ | refine ek_blkN ?_ | refine ek_blkR ?_ | refine ek_blkX ?_ | refine ek_blkY rfl ?_)
          refine sfin (.inr rfl) (by rfl) (by rfl) (by exact ⟨rfl, rfl, rfl⟩) (by rfl) (by rfl) (by rfl) (by first | rfl | (simp; done) | (simp [ints, prs]; done))
    · rw [decide_eq_false h1] at e2
      have hC : gcode fs z = 2 := by rw [gcode, if_pos h0, if_neg h1]
      rw [hC]
      refine has81.eev rfl rfl ?_
      unfold m81
      repeat' (first
        | (refine g_op ?_; first
          | refine ep_mov rfl ?_
          | refine ep_call0 rfl (by first | exact e1 | exact e2) rfl rfl ?_
          | refine sp_call rfl rfl rfl rfl (by first | exact e1 | exact e2) ⟨rfl, rfl, rfl, rfl⟩ rfl rfl rfl ?_
          | refine ep_bin rfl rfl (by first | exact b_add (by omega) (by omega) | exact b_sub (by omega) (by omega) | exact b_and (by omega) (by omega) | exact b_or (by omega) (by omega) | exact b_shr (by omega) | exact b_shl (by omega) (by omega) | exact b_lss | exact b_leq | exact b_gtr | exact b_geq | exact b_eql | exact b_neq) ?_
          | refine ep_not rfl ?_)
        | (refine g_ops ?_; first | refine eo_none ?_ | refine eo_nil ?_)
        | (refine g_code ?_; first | refine ec_seq ?_ | refine ec_region ?_ | refine ec_block ?_ | refine ec_skip ?_ | refine ec_ret ?_ | refine ec_condT rfl ?_ | refine ec_condF rfl ?_ | refine ec_condTH rfl (by assumption) ?_ | refine ec_condFH rfl (by assumption) ?_)
        | refine ek_seqN ?_ | refine ek_seqX ?_ | refine ek_seqR ?_ | refine ek_blkN ?_ | refine ek_blkR ?_ | refine ek_blkX ?_ | refine ek_blkY rfl ?_)
      refine sfin (.inr rfl) (by rfl) (by rfl) (by exact ⟨rfl, rfl, rfl⟩) (by rfl) (by rfl) (by rfl) (by first | rfl | (simp; done) | (simp [ints, prs]; done))
  · have hC : gcode fs z = lcode fs := by rw [gcode, if_neg h0]
    have hq2 : (lcode fs != 0) = true := by simpa using h0
    rw [hC]
    refine has81.eev rfl rfl ?_
    unfold m81
    repeat' (first
      | (refine g_op ?_; first
        | refine ep_mov rfl ?_
        | refine ep_call0 rfl (by first | exact e1 | exact e2) rfl rfl ?_
        | refine sp_call rfl rfl rfl rfl (by first | exact e1 | exact e2) ⟨rfl, rfl, rfl, rfl⟩ rfl rfl rfl ?_
        | refine ep_bin rfl rfl (by first | exact b_add (by omega) (by omega) | exact b_sub (by omega) (by omega) | exact b_and (by omega) (by omega) | exact b_or (by omega) (by omega) | exact b_shr (by omega) | exact b_shl (by omega) (by omega) | exact b_lss | exact b_leq | exact b_gtr | exact b_geq | exact b_eql | exact b_neq) ?_
        | refine ep_not rfl ?_)
      | (refine g_ops ?_; first | refine eo_none ?_ | refine eo_nil ?_)
      | (refine g_code ?_; first | refine ec_seq ?_ | refine ec_region ?_ | refine ec_block ?_ | refine ec_skip ?_ | refine ec_ret ?_ | refine ec_condT rfl ?_ | refine ec_condF rfl ?_ | refine ec_condTH rfl (by assumption) ?_ | refine ec_condFH rfl (by assumption) ?_)
      | refine ek_seqN ?_ | refine ek_seqX ?_ | refine ek_seqR ?_ | refine ek_blkN ?_ | refine ek_blkR ?_ | refine ek_blkX ?_ | refine ek_blkY rfl ?_)
    refine sfin (.inr rfl) (by rfl) (by rfl) (by exact ⟨rfl, rfl, rfl⟩) (by rfl) (by rfl) (by rfl) (by first | rfl | (simp; done) | (simp [ints, prs]; done))
-- impl.generationCode$1
def m125 : MC := (.seq (.region [⟨(.mov (.k (.bool false))), (some 2), none⟩] false) (.seq (.region [⟨(.mov (.t 0)), (some 3), none⟩, ⟨(.call 73 [(.t 3)]), (some 4), none⟩, ⟨(.un .not (.t 4)), (some 5), none⟩, ⟨(.mov (.t 5)), (some 2), none⟩] false) .ret))
theorem has125 : Has cx 125 6 m125 [(.tmp 2)] :=
  ⟨⟨Try.f125, Try.f125.body.getD .skip, by kernel_rfl, by kernel_rfl, by kernel_rfl, by kernel_rfl, by kernel_rfl, by kernel_rfl⟩⟩
theorem evgc1 (fs : List (Int × Int)) (hln : fs.length ≤ 1048576) : Ev cx 125 [.sl 0 0 fs.length] [⟨fns fs, 2, 0, some 0, false⟩] (.bool (!allFunc fs)) [⟨fns fs, 2, 0, some 0, false⟩] := by
  refine has125.eev rfl rfl ?_
  unfold m125
  repeat' (first
    | (refine g_op ?_; first
      | refine ep_mov rfl ?_
      | refine ep_call0 rfl (by first | exact ev73 fs hln) rfl rfl ?_
      | refine sp_call rfl rfl rfl rfl (by first | exact ev73 fs hln) ⟨rfl, rfl, rfl, rfl⟩ rfl rfl rfl ?_
      | refine ep_not rfl ?_)
    | (refine g_ops ?_; first | refine eo_none ?_ | refine eo_nil ?_)
    | (refine g_code ?_; first | refine ec_seq ?_ | refine ec_region ?_ | refine ec_ret ?_)
    | refine ek_seqN ?_ | refine ek_seqR ?_)
  refine sfin (.inr rfl) (by rfl) (by rfl) (by exact ⟨rfl, rfl, rfl⟩) (by rfl) (by rfl) (by rfl) (by first | rfl | (simp; done) | (simp [ints, prs]; done))
-- impl.generationCode$2
def m126 : MC := (.seq (.region [⟨(.box (.t 0)), (some 1), none⟩, ⟨(.mov (.k (.bool false))), (some 2), none⟩] false) (.seq (.region [⟨(.fieldAddr 0 (.t 1)), (some 3), none⟩, ⟨(.load none (.t 3)), (some 4), none⟩, ⟨(.bin .gtr (.t 4) (.k (.int .i64 2))), (some 5), none⟩, ⟨(.mov (.t 5)), (some 2), none⟩] false) .ret))
theorem has126 : Has cx 126 6 m126 [(.tmp 2)] :=
  ⟨⟨Try.f126, Try.f126.body.getD .skip, by kernel_rfl, by kernel_rfl, by kernel_rfl, by kernel_rfl, by kernel_rfl, by kernel_rfl⟩⟩
theorem evgc2 (a b : Int) : Ev cx 126 [.agg [.int .i64 a, .int .i64 b]] [] (.bool (decide (a > 2))) [] := by
  refine has126.eev rfl rfl ?_
  unfold m126
  repeat' (first
    | (refine g_op ?_; first
      | refine ep_mov rfl ?_ | refine ep_load1 rfl rfl rfl rfl ?_ | refine ep_fieldAddr rfl ?_
      | refine ep_bin rfl rfl (by first | exact b_add (by omega) (by omega) | exact b_sub (by omega) (by omega) | exact b_and (by omega) (by omega) | exact b_or (by omega) (by omega) | exact b_shr (by omega) | exact b_shl (by omega) (by omega) | exact b_lss | exact b_leq | exact b_gtr | exact b_geq | exact b_eql | exact b_neq) ?_
      | refine sp_box rfl rfl rfl rfl rfl ?_)
    | (refine g_ops ?_; first | refine eo_none ?_ | refine eo_nil ?_)
    | (refine g_code ?_; first | refine ec_seq ?_ | refine ec_region ?_ | refine ec_ret ?_)
    | refine ek_seqN ?_ | refine ek_seqR ?_)
  refine sfin (.inr rfl) (by rfl) (by rfl) (by exact ⟨rfl, rfl, rfl⟩) (by rfl) (by rfl) (by rfl) (by first | rfl | (simp; done) | (simp [ints, prs]; done))
-- slices.IndexFunc[[][]impl.Func,[]impl.Func]
def m144_0 : MC := (.seq (.region [⟨(.bin .lss (.t 8) (.t 7)), (some 9), none⟩] false) (.seq (.cond (.t 9) .skip (.exit 0)) (.seq (.block 1 (.seq (.region [⟨(.mov (.t 8)), (some 10), none⟩, ⟨(.mov (.t 10)), (some 5), none⟩] false) (.seq (.region [⟨(.mov (.t 1)), (some 11), none⟩, ⟨(.mov (.t 0)), (some 12), none⟩, ⟨(.mov (.t 5)), (some 13), none⟩, ⟨(.indexAddr 1 (.t 12) (.t 13)), (some 14), none⟩, ⟨(.load none (.t 14)), (some 15), none⟩, ⟨(.callv (.t 11) [(.t 15)]), (some 16), none⟩] false) (.cond (.t 16) (.seq (.region [⟨(.mov (.t 5)), (some 17), none⟩, ⟨(.mov (.t 17)), (some 4), none⟩] false) .ret) .skip)))) (.region [⟨(.bin .add (.t 8) (.k (.int .i64 1))), (some 18), none⟩, ⟨(.mov (.t 18)), (some 8), none⟩] false))))
def m144 : MC := (.seq (.region [⟨(.mov (.k (.int .i64 0))), (some 4), none⟩] false) (.seq (.seq (.region [⟨(.mov (.t 0)), (some 6), none⟩, ⟨(.len (.t 6)), (some 7), none⟩, ⟨(.mov (.k (.int .i64 0))), (some 8), none⟩] false) (.block 0 (.loop m144_0))) (.seq (.region [⟨(.mov (.k (.int .i64 (-1)))), (some 4), none⟩] false) .ret)))
theorem has144 : Has cx 144 19 m144 [(.tmp 4)] :=
  ⟨⟨Try.f144, Try.f144.body.getD .skip, by kernel_rfl, by kernel_rfl, by kernel_rfl, by kernel_rfl, by kernel_rfl, by kernel_rfl⟩⟩

-- slices.ContainsFunc[[][]impl.Func,[]impl.Func]
def m124 : MC := (.seq (.region [⟨(.mov (.k (.bool false))), (some 4), none⟩] false) (.seq (.region [⟨(.mov (.t 0)), (some 5), none⟩, ⟨(.mov (.t 1)), (some 6), none⟩, ⟨(.call 144 [(.t 5), (.t 6)]), (some 7), none⟩, ⟨(.bin .geq (.t 7) (.k (.int .i64 0))), (some 8), none⟩, ⟨(.mov (.t 8)), (some 4), none⟩] false) .ret))
theorem has124 : Has cx 124 9 m124 [(.tmp 4)] :=
  ⟨⟨Try.f124, Try.f124.body.getD .skip, by kernel_rfl, by kernel_rfl, by kernel_rfl, by kernel_rfl, by kernel_rfl, by kernel_rfl⟩⟩

theorem lpix_gc2 (fs : List (Int × Int)) (hln : fs.length ≤ 1048576) (o : Out) (ho : (match firstF (fun i => !(fun j => decide ((fs.getD j (0, 0)).1 > 2)) i) 0 (fs.length) with | none => (⟨.exit 0, [], [⟨fns fs, 2, 0, some 0, false⟩]⟩ : Out) | some x => ⟨.ret, [(4, .int .i64 (x : Nat))], [⟨fns fs, 2, 0, some 0, false⟩]⟩) = o) :
    LpS cx 19 1 m140_0 [(0, .sl 0 0 fs.length), (1, .fn 126 []), (7, .int .i64 (fs.length : Nat)), (8, .int .i64 (0 : Nat))] [⟨fns fs, 2, 0, some 0, false⟩] o.x o.e o.h := by
  refine lp_brk (fs.length) (fun i => !(fun j => decide ((fs.getD j (0, 0)).1 > 2)) i) (fun _ => ()) (fun i _ => [(0, .sl 0 0 fs.length), (1, .fn 126 []), (7, .int .i64 (fs.length : Nat)), (8, .int .i64 (i : Nat))]) (fun i _ => [⟨fns fs, 2, 0, some 0, false⟩]) (fun _ => ⟨.exit 0, [], [⟨fns fs, 2, 0, some 0, false⟩]⟩) (fun i _ => ⟨.ret, [(4, .int .i64 (i : Nat))], [⟨fns fs, 2, 0, some 0, false⟩]⟩) ?_ ?_ ?_ (fs.length) 0 o (by omega) (fun h => by rw [← ho, firstF_none fun x h1 h2 => h x h1 (by omega)]) (fun x h1 h2 h3 h4 => by rw [← ho, firstF_some h1 (by omega) h3 h4])
  · intro i s hi hs hp
    have hlt : decide ((i : Int) < (fs.length : Nat)) = true := decide_eq_true (by omega)
    have hp' : (!(fun j => decide ((fs.getD j (0, 0)).1 > 2)) i) = true := hp
    refine ⟨(), rfl, ?_⟩
    have hg := fns_get (l := fs) (j := i) hi
    have e0 := evgc2 (fs.getD i (0, 0)).1 (fs.getD i (0, 0)).2
    have hq : (decide ((fs.getD i (0, 0)).1 > 2)) = !((!(fun j => decide ((fs.getD j (0, 0)).1 > 2)) i)) := by simp
    rw [hp'] at hq
    rw [hq] at e0
    unfold m140_0
    repeat' (first
      | refine ep_loadSN rfl rfl rfl hg ?_
      | (refine g_op ?_; first
        | refine ep_mov rfl ?_ | refine sp_loadN rfl rfl rfl rfl rfl ?_
        | refine sp_callv rfl rfl rfl rfl rfl rfl (by first | exact e0) ⟨rfl, rfl, rfl, rfl⟩ rfl rfl rfl ?_
        | refine sp_callb rfl rfl rfl rfl rfl rfl (by first | exact e0) ⟨rfl, rfl, rfl, rfl⟩ rfl rfl rfl ?_
        | refine ep_bin rfl rfl (by first | exact b_add (by omega) (by omega) | exact b_sub (by omega) (by omega) | exact b_and (by omega) (by omega) | exact b_or (by omega) (by omega) | exact b_shr (by omega) | exact b_shl (by omega) (by omega) | exact b_lss | exact b_leq | exact b_gtr | exact b_geq | exact b_eql | exact b_neq) ?_
        | refine sp_idx rfl rfl rfl (by omega) rfl ?_ | refine ep_loadSN rfl rfl rfl (by first | exact prs_get (by omega) | exact fns_get (by omega)) ?_)
      | (refine g_ops ?_; first | refine eo_none ?_ | refine eo_nil ?_)
      | (refine g_code ?_; first | refine ec_seq ?_ | refine ec_region ?_ | refine ec_block ?_ | refine ec_skip ?_ | refine ec_exit ?_ | refine ec_ret ?_ | refine ec_condT rfl ?_ | refine ec_condF rfl ?_ | refine ec_condTH rfl (by assumption) ?_ | refine ec_condFH rfl (by assumption) ?_)
      | refine ek_seqN ?_ | refine ek_seqX ?_ | refine ek_seqR ?_ | refine ek_blkN ?_ | refine ek_blkR ?_ | refine ek_blkX ?_ | refine ek_blkY rfl ?_)
    exact rnd_on (by rfl) (scmp2 (by rfl) (by rfl) (by exact ⟨rfl, rfl, rfl⟩) (by rfl) (by first | rfl | (simp; done) | (simp [ints, prs]; done)) (by rfl) (by first | rfl | (simp; done) | (simp [ints, prs]; done)))
  · intro i s hi hs hp
    have hlt : decide ((i : Int) < (fs.length : Nat)) = true := decide_eq_true (by omega)
    have hp' : (!(fun j => decide ((fs.getD j (0, 0)).1 > 2)) i) = false := hp
    have hg := fns_get (l := fs) (j := i) hi
    have e0 := evgc2 (fs.getD i (0, 0)).1 (fs.getD i (0, 0)).2
    have hq : (decide ((fs.getD i (0, 0)).1 > 2)) = !((!(fun j => decide ((fs.getD j (0, 0)).1 > 2)) i)) := by simp
    rw [hp'] at hq
    rw [hq] at e0
    unfold m140_0
    repeat' (first
      | refine ep_loadSN rfl rfl rfl hg ?_
      | (refine g_op ?_; first
        | refine ep_mov rfl ?_ | refine sp_loadN rfl rfl rfl rfl rfl ?_
        | refine sp_callv rfl rfl rfl rfl rfl rfl (by first | exact e0) ⟨rfl, rfl, rfl, rfl⟩ rfl rfl rfl ?_
        | refine sp_callb rfl rfl rfl rfl rfl rfl (by first | exact e0) ⟨rfl, rfl, rfl, rfl⟩ rfl rfl rfl ?_
        | refine ep_bin rfl rfl (by first | exact b_add (by omega) (by omega) | exact b_sub (by omega) (by omega) | exact b_and (by omega) (by omega) | exact b_or (by omega) (by omega) | exact b_shr (by omega) | exact b_shl (by omega) (by omega) | exact b_lss | exact b_leq | exact b_gtr | exact b_geq | exact b_eql | exact b_neq) ?_
        | refine sp_idx rfl rfl rfl (by omega) rfl ?_ | refine ep_loadSN rfl rfl rfl (by first | exact prs_get (by omega) | exact fns_get (by omega)) ?_)
      | (refine g_ops ?_; first | refine eo_none ?_ | refine eo_nil ?_)
      | (refine g_code ?_; first | refine ec_seq ?_ | refine ec_region ?_ | refine ec_block ?_ | refine ec_skip ?_ | refine ec_exit ?_ | refine ec_ret ?_ | refine ec_condT rfl ?_ | refine ec_condF rfl ?_ | refine ec_condTH rfl (by assumption) ?_ | refine ec_condFH rfl (by assumption) ?_)
      | refine ek_seqN ?_ | refine ek_seqX ?_ | refine ek_seqR ?_ | refine ek_blkN ?_ | refine ek_blkR ?_ | refine ek_blkX ?_ | refine ek_blkY rfl ?_)
    exact rnd_out (by rfl) (by simp) (scmp2 (by rfl) (by rfl) (by exact ⟨rfl, rfl, rfl⟩) (by rfl) (by first | rfl | (simp; done) | (simp [ints, prs]; done)) (by rfl) (by first | rfl | (simp; done) | (simp [ints, prs]; done)))
  · intro s hs
    have hlt : decide (((fs.length : Nat) : Int) < (fs.length : Nat)) = false := decide_eq_false (by omega)
    unfold m140_0
    repeat' (first
      | refine ep_loadSN rfl rfl rfl hg ?_
      | (refine g_op ?_; first
        | refine ep_mov rfl ?_ | refine sp_loadN rfl rfl rfl rfl rfl ?_
        | refine sp_callv rfl rfl rfl rfl rfl rfl (by first | exact e0) ⟨rfl, rfl, rfl, rfl⟩ rfl rfl rfl ?_
        | refine sp_callb rfl rfl rfl rfl rfl rfl (by first | exact e0) ⟨rfl, rfl, rfl, rfl⟩ rfl rfl rfl ?_
        | refine ep_bin rfl rfl (by first | exact b_add (by omega) (by omega) | exact b_sub (by omega) (by omega) | exact b_and (by omega) (by omega) | exact b_or (by omega) (by omega) | exact b_shr (by omega) | exact b_shl (by omega) (by omega) | exact b_lss | exact b_leq | exact b_gtr | exact b_geq | exact b_eql | exact b_neq) ?_
        | refine sp_idx rfl rfl rfl (by omega) rfl ?_ | refine ep_loadSN rfl rfl rfl (by first | exact prs_get (by omega) | exact fns_get (by omega)) ?_)
      | (refine g_ops ?_; first | refine eo_none ?_ | refine eo_nil ?_)
      | (refine g_code ?_; first | refine ec_seq ?_ | refine ec_region ?_ | refine ec_block ?_ | refine ec_skip ?_ | refine ec_exit ?_ | refine ec_ret ?_ | refine ec_condT rfl ?_ | refine ec_condF rfl ?_ | refine ec_condTH rfl (by assumption) ?_ | refine ec_condFH rfl (by assumption) ?_)
      | refine ek_seqN ?_ | refine ek_seqX ?_ | refine ek_seqR ?_ | refine ek_blkN ?_ | refine ek_blkR ?_ | refine ek_blkX ?_ | refine ek_blkY rfl ?_)
    exact rnd_out (by rfl) (by simp) (scmp2 (by rfl) (by rfl) (by exact ⟨rfl, rfl, rfl⟩) (by rfl) (by first | rfl | (simp; done) | (simp [ints, prs]; done)) (by rfl) (by first | rfl | (simp; done) | (simp [ints, prs]; done)))
theorem evix_gc2 (fs : List (Int × Int)) (hln : fs.length ≤ 1048576) : Ev cx 140 [.sl 0 0 fs.length, .fn 126 []] [⟨fns fs, 2, 0, some 0, false⟩] (.int .i64 (match firstF (fun i => !(fun j => decide ((fs.getD j (0, 0)).1 > 2)) i) 0 (fs.length) with | none => -1 | some x => ((x : Nat) : Int))) [⟨fns fs, 2, 0, some 0, false⟩] := by
  cases hs : firstF (fun i => !(fun j => decide ((fs.getD j (0, 0)).1 > 2)) i) 0 (fs.length) with
  | none =>
    have lp := lpix_gc2 fs hln _ (by rw [hs])
    refine has140.eev rfl rfl ?_
    unfold m140
    repeat' (first
      | refine sc_loop lp rfl rfl ⟨rfl, rfl, rfl⟩ rfl rfl rfl ?_
      | (refine g_op ?_; first
        | refine ep_mov rfl ?_
        | refine ep_lenS rfl ?_ | refine ep_lenN rfl ?_ | refine ep_lenE rfl ?_)
      | (refine g_ops ?_; first | refine eo_none ?_ | refine eo_nil ?_)
      | (refine g_code ?_; first | refine ec_seq ?_ | refine ec_region ?_ | refine ec_block ?_ | refine ec_ret ?_)
      | refine ek_seqN ?_ | refine ek_seqX ?_ | refine ek_seqR ?_ | refine ek_blkN ?_ | refine ek_blkR ?_ | refine ek_blkX ?_ | refine ek_blkY rfl ?_)
    refine sfin (.inr rfl) (by rfl) (by rfl) (by exact ⟨rfl, rfl, rfl⟩) (by rfl) (by rfl) (by rfl) (by first | rfl | (simp; done) | (simp [ints, prs]; done))
  | some x =>
    have lp := lpix_gc2 fs hln _ (by rw [hs])
    refine has140.eev rfl rfl ?_
    unfold m140
    repeat' (first
      | refine sc_loop lp rfl rfl ⟨rfl, rfl, rfl⟩ rfl rfl rfl ?_
      | (refine g_op ?_; first
        | refine ep_mov rfl ?_
        | refine ep_lenS rfl ?_ | refine ep_lenN rfl ?_ | refine ep_lenE rfl ?_)
      | (refine g_ops ?_; first | refine eo_none ?_ | refine eo_nil ?_)
      | (refine g_code ?_; first | refine ec_seq ?_ | refine ec_region ?_ | refine ec_block ?_ | refine ec_ret ?_)
      | refine ek_seqN ?_ | refine ek_seqX ?_ | refine ek_seqR ?_ | refine ek_blkN ?_ | refine ek_blkR ?_ | refine ek_blkX ?_ | refine ek_blkY rfl ?_)
    refine sfin (.inr rfl) (by rfl) (by rfl) (by exact ⟨rfl, rfl, rfl⟩) (by rfl) (by rfl) (by rfl) (by first | rfl | (simp; done) | (simp [ints, prs]; done))
theorem evcf_gc2 (fs : List (Int × Int)) (hln : fs.length ≤ 1048576) : Ev cx 115 [.sl 0 0 fs.length, .fn 126 []] [⟨fns fs, 2, 0, some 0, false⟩] (.bool (!allF (fun i => !(fun j => decide ((fs.getD j (0, 0)).1 > 2)) i) 0 (fs.length))) [⟨fns fs, 2, 0, some 0, false⟩] := by
  have e1 := evix_gc2 fs hln
  cases hs : firstF (fun i => !(fun j => decide ((fs.getD j (0, 0)).1 > 2)) i) 0 (fs.length) with
  | none =>
    rw [hs] at e1
    refine has115.eev rfl rfl ?_
    unfold m115
    repeat' (first
      | (refine g_op ?_; first
        | refine ep_mov rfl ?_
        | refine ep_call0 rfl (by first | exact e1) rfl rfl ?_
        | refine sp_call rfl rfl rfl rfl (by first | exact e1) ⟨rfl, rfl, rfl, rfl⟩ rfl rfl rfl ?_
        | refine ep_bin rfl rfl (by first | exact b_add (by omega) (by omega) | exact b_sub (by omega) (by omega) | exact b_and (by omega) (by omega) | exact b_or (by omega) (by omega) | exact b_shr (by omega) | exact b_shl (by omega) (by omega) | exact b_lss | exact b_leq | exact b_gtr | exact b_geq | exact b_eql | exact b_neq) ?_)
      | (refine g_ops ?_; first | refine eo_none ?_ | refine eo_nil ?_)
      | (refine g_code ?_; first | refine ec_seq ?_ | refine ec_region ?_ | refine ec_ret ?_)
      | refine ek_seqN ?_ | refine ek_seqR ?_)
    refine sfin (.inr rfl) (by rfl) (by rfl) (by exact ⟨rfl, rfl, rfl⟩) (by rfl) (by rfl) (by rw [firstF_allT hs]; rfl) (by first | rfl | (simp; done) | (simp [ints, prs]; done))
  | some x =>
    rw [hs] at e1
    have hge : decide (((x : Nat) : Int) ≥ 0) = true := decide_eq_true (by omega)
    refine has115.eev rfl rfl ?_
    unfold m115
    repeat' (first
      | (refine g_op ?_; first
        | refine ep_mov rfl ?_
        | refine ep_call0 rfl (by first | exact e1) rfl rfl ?_
        | refine sp_call rfl rfl rfl rfl (by first | exact e1) ⟨rfl, rfl, rfl, rfl⟩ rfl rfl rfl ?_
        | refine ep_bin rfl rfl (by first | exact b_add (by omega) (by omega) | exact b_sub (by omega) (by omega) | exact b_and (by omega) (by omega) | exact b_or (by omega) (by omega) | exact b_shr (by omega) | exact b_shl (by omega) (by omega) | exact b_lss | exact b_leq | exact b_gtr | exact b_geq | exact b_eql | exact b_neq) ?_)
      | (refine g_ops ?_; first | refine eo_none ?_ | refine eo_nil ?_)
      | (refine g_code ?_; first | refine ec_seq ?_ | refine ec_region ?_ | refine ec_ret ?_)
      | refine ek_seqN ?_ | refine ek_seqR ?_)
    refine sfin (.inr rfl) (by rfl) (by rfl) (by exact ⟨rfl, rfl, rfl⟩) (by rfl) (by rfl) (by rw [firstF_allF hs]; first | rfl | exact congrArg V.bool hge) (by first | rfl | (simp; done) | (simp [ints, prs]; done))

theorem lpix_ll1 (fs : List (Int × Int)) (hln : fs.length ≤ 1048576) (o : Out) (ho : (match firstF (fun i => !(fun _ => !allFunc fs) i) 0 (1) with | none => (⟨.exit 0, [], [⟨[.sl 1 0 fs.length], 1, 0, some 0, true⟩, ⟨fns fs, 2, 1, some 0, false⟩]⟩ : Out) | some x => ⟨.ret, [(4, .int .i64 (x : Nat))], [⟨[.sl 1 0 fs.length], 1, 0, some 0, true⟩, ⟨fns fs, 2, 1, some 0, false⟩]⟩) = o) :
    LpS cx 19 2 m144_0 [(0, .sl 0 0 1), (1, .fn 125 []), (7, .int .i64 (1 : Nat)), (8, .int .i64 (0 : Nat))] [⟨[.sl 1 0 fs.length], 1, 0, some 0, true⟩, ⟨fns fs, 2, 1, some 0, false⟩] o.x o.e o.h := by
  refine lp_brk (1) (fun i => !(fun _ => !allFunc fs) i) (fun _ => ()) (fun i _ => [(0, .sl 0 0 1), (1, .fn 125 []), (7, .int .i64 (1 : Nat)), (8, .int .i64 (i : Nat))]) (fun i _ => [⟨[.sl 1 0 fs.length], 1, 0, some 0, true⟩, ⟨fns fs, 2, 1, some 0, false⟩]) (fun _ => ⟨.exit 0, [], [⟨[.sl 1 0 fs.length], 1, 0, some 0, true⟩, ⟨fns fs, 2, 1, some 0, false⟩]⟩) (fun i _ => ⟨.ret, [(4, .int .i64 (i : Nat))], [⟨[.sl 1 0 fs.length], 1, 0, some 0, true⟩, ⟨fns fs, 2, 1, some 0, false⟩]⟩) ?_ ?_ ?_ (1) 0 o (by omega) (fun h => by rw [← ho, firstF_none fun x h1 h2 => h x h1 (by omega)]) (fun x h1 h2 h3 h4 => by rw [← ho, firstF_some h1 (by omega) h3 h4])
  · intro i s hi hs hp
    have hlt : decide ((i : Int) < (1 : Nat)) = true := decide_eq_true (by omega)
    have hp' : (!(fun _ => !allFunc fs) i) = true := hp
    refine ⟨(), rfl, ?_⟩
    have e0 := evgc1 fs hln
    have hq : (!allFunc fs) = !((!(fun _ => !allFunc fs) i)) := by simp
    rw [hp'] at hq
    rw [hq] at e0
    obtain rfl : i = 0 := by omega
    unfold m144_0
    repeat' (first
      | (refine g_op ?_; first
        | refine ep_mov rfl ?_ | refine ep_load1 rfl rfl rfl rfl ?_
        | refine sp_callv rfl rfl rfl rfl rfl rfl (by first | exact e0) ⟨rfl, rfl, rfl, rfl⟩ rfl rfl rfl ?_
        | refine sp_callb rfl rfl rfl rfl rfl rfl (by first | exact e0) ⟨rfl, rfl, rfl, rfl⟩ rfl rfl rfl ?_
        | refine ep_bin rfl rfl (by first | exact b_add (by omega) (by omega) | exact b_sub (by omega) (by omega) | exact b_and (by omega) (by omega) | exact b_or (by omega) (by omega) | exact b_shr (by omega) | exact b_shl (by omega) (by omega) | exact b_lss | exact b_leq | exact b_gtr | exact b_geq | exact b_eql | exact b_neq) ?_
        | refine sp_idx rfl rfl rfl (by omega) rfl ?_ | refine ep_loadS rfl rfl rfl (by first | exact ints_get (by omega) | exact zints_get (by omega) | exact fget (by omega) | assumption) ?_)
      | (refine g_ops ?_; first | refine eo_none ?_ | refine eo_nil ?_)
      | (refine g_code ?_; first | refine ec_seq ?_ | refine ec_region ?_ | refine ec_block ?_ | refine ec_skip ?_ | refine ec_exit ?_ | refine ec_ret ?_ | refine ec_condT rfl ?_ | refine ec_condF rfl ?_ | refine ec_condTH rfl (by assumption) ?_ | refine ec_condFH rfl (by assumption) ?_)
      | refine ek_seqN ?_ | refine ek_seqX ?_ | refine ek_seqR ?_ | refine ek_blkN ?_ | refine ek_blkR ?_ | refine ek_blkX ?_ | refine ek_blkY rfl ?_)
    exact rnd_on (by rfl) (scmp2 (by rfl) (by rfl) (by exact ⟨rfl, rfl, rfl⟩) (by rfl) (by first | rfl | (simp; done) | (simp [ints, prs]; done)) (by rfl) (by first | rfl | (simp; done) | (simp [ints, prs]; done)))
  · intro i s hi hs hp
    have hlt : decide ((i : Int) < (1 : Nat)) = true := decide_eq_true (by omega)
    have hp' : (!(fun _ => !allFunc fs) i) = false := hp
    have e0 := evgc1 fs hln
    have hq : (!allFunc fs) = !((!(fun _ => !allFunc fs) i)) := by simp
    rw [hp'] at hq
    rw [hq] at e0
    obtain rfl : i = 0 := by omega
    unfold m144_0
    repeat' (first
      | (refine g_op ?_; first
        | refine ep_mov rfl ?_ | refine ep_load1 rfl rfl rfl rfl ?_
        | refine sp_callv rfl rfl rfl rfl rfl rfl (by first | exact e0) ⟨rfl, rfl, rfl, rfl⟩ rfl rfl rfl ?_
        | refine sp_callb rfl rfl rfl rfl rfl rfl (by first | exact e0) ⟨rfl, rfl, rfl, rfl⟩ rfl rfl rfl ?_
        | refine ep_bin rfl rfl (by first | exact b_add (by omega) (by omega) | exact b_sub (by omega) (by omega) | exact b_and (by omega) (by omega) | exact b_or (by omega) (by omega) | exact b_shr (by omega) | exact b_shl (by omega) (by omega) | exact b_lss | exact b_leq | exact b_gtr | exact b_geq | exact b_eql | exact b_neq) ?_
        | refine sp_idx rfl rfl rfl (by omega) rfl ?_ | refine ep_loadS rfl rfl rfl (by first | exact ints_get (by omega) | exact zints_get (by omega) | exact fget (by omega) | assumption) ?_)
      | (refine g_ops ?_; first | refine eo_none ?_ | refine eo_nil ?_)
      | (refine g_code ?_; first | refine ec_seq ?_ | refine ec_region ?_ | refine ec_block ?_ | refine ec_skip ?_ | refine ec_exit ?_ | refine ec_ret ?_ | refine ec_condT rfl ?_ | refine ec_condF rfl ?_ | refine ec_condTH rfl (by assumption) ?_ | refine ec_condFH rfl (by assumption) ?_)
      | refine ek_seqN ?_ | refine ek_seqX ?_ | refine ek_seqR ?_ | refine ek_blkN ?_ | refine ek_blkR ?_ | refine ek_blkX ?_ | refine ek_blkY rfl ?_)
    exact rnd_out (by rfl) (by simp) (scmp2 (by rfl) (by rfl) (by exact ⟨rfl, rfl, rfl⟩) (by rfl) (by first | rfl | (simp; done) | (simp [ints, prs]; done)) (by rfl) (by first | rfl | (simp; done) | (simp [ints, prs]; done)))
  · intro s hs
    have hlt : decide (((1 : Nat) : Int) < (1 : Nat)) = false := decide_eq_false (by omega)
    unfold m144_0
    repeat' (first
      | (refine g_op ?_; first
        | refine ep_mov rfl ?_ | refine ep_load1 rfl rfl rfl rfl ?_
        | refine sp_callv rfl rfl rfl rfl rfl rfl (by first | exact e0) ⟨rfl, rfl, rfl, rfl⟩ rfl rfl rfl ?_
        | refine sp_callb rfl rfl rfl rfl rfl rfl (by first | exact e0) ⟨rfl, rfl, rfl, rfl⟩ rfl rfl rfl ?_
        | refine ep_bin rfl rfl (by first | exact b_add (by omega) (by omega) | exact b_sub (by omega) (by omega) | exact b_and (by omega) (by omega) | exact b_or (by omega) (by omega) | exact b_shr (by omega) | exact b_shl (by omega) (by omega) | exact b_lss | exact b_leq | exact b_gtr | exact b_geq | exact b_eql | exact b_neq) ?_
        | refine sp_idx rfl rfl rfl (by omega) rfl ?_ | refine ep_loadS rfl rfl rfl (by first | exact ints_get (by omega) | exact zints_get (by omega) | exact fget (by omega) | assumption) ?_)
      | (refine g_ops ?_; first | refine eo_none ?_ | refine eo_nil ?_)
      | (refine g_code ?_; first | refine ec_seq ?_ | refine ec_region ?_ | refine ec_block ?_ | refine ec_skip ?_ | refine ec_exit ?_ | refine ec_ret ?_ | refine ec_condT rfl ?_ | refine ec_condF rfl ?_ | refine ec_condTH rfl (by assumption) ?_ | refine ec_condFH rfl (by assumption) ?_)
      | refine ek_seqN ?_ | refine ek_seqX ?_ | refine ek_seqR ?_ | refine ek_blkN ?_ | refine ek_blkR ?_ | refine ek_blkX ?_ | refine ek_blkY rfl ?_)
    exact rnd_out (by rfl) (by simp) (scmp2 (by rfl) (by rfl) (by exact ⟨rfl, rfl, rfl⟩) (by rfl) (by first | rfl | (simp; done) | (simp [ints, prs]; done)) (by rfl) (by first | rfl | (simp; done) | (simp [ints, prs]; done)))
theorem evix_ll1 (fs : List (Int × Int)) (hln : fs.length ≤ 1048576) : Ev cx 144 [.sl 0 0 1, .fn 125 []] [⟨[.sl 1 0 fs.length], 1, 0, some 0, true⟩, ⟨fns fs, 2, 1, some 0, false⟩] (.int .i64 (match firstF (fun i => !(fun _ => !allFunc fs) i) 0 (1) with | none => -1 | some x => ((x : Nat) : Int))) [⟨[.sl 1 0 fs.length], 1, 0, some 0, true⟩, ⟨fns fs, 2, 1, some 0, false⟩] := by
  cases hs : firstF (fun i => !(fun _ => !allFunc fs) i) 0 (1) with
  | none =>
    have lp := lpix_ll1 fs hln _ (by rw [hs])
    refine has144.eev rfl rfl ?_
    unfold m144
    repeat' (first
      | refine sc_loop lp rfl rfl ⟨rfl, rfl, rfl⟩ rfl rfl rfl ?_
      | (refine g_op ?_; first
        | refine ep_mov rfl ?_
        | refine ep_lenS rfl ?_ | refine ep_lenN rfl ?_ | refine ep_lenE rfl ?_)
      | (refine g_ops ?_; first | refine eo_none ?_ | refine eo_nil ?_)
      | (refine g_code ?_; first | refine ec_seq ?_ | refine ec_region ?_ | refine ec_block ?_ | refine ec_ret ?_)
      | refine ek_seqN ?_ | refine ek_seqX ?_ | refine ek_seqR ?_ | refine ek_blkN ?_ | refine ek_blkR ?_ | refine ek_blkX ?_ | refine ek_blkY rfl ?_)
    refine sfin (.inr rfl) (by rfl) (by rfl) (by exact ⟨rfl, rfl, rfl⟩) (by rfl) (by rfl) (by rfl) (by first | rfl | (simp; done) | (simp [ints, prs]; done))
  | some x =>
    have lp := lpix_ll1 fs hln _ (by rw [hs])
    refine has144.eev rfl rfl ?_
    unfold m144
    repeat' (first
      | refine sc_loop lp rfl rfl ⟨rfl, rfl, rfl⟩ rfl rfl rfl ?_
      | (refine g_op ?_; first
        | refine ep_mov rfl ?_
        | refine ep_lenS rfl ?_ | refine ep_lenN rfl ?_ | refine ep_lenE rfl ?_)
      | (refine g_ops ?_; first | refine eo_none ?_ | refine eo_nil ?_)
      | (refine g_code ?_; first | refine ec_seq ?_ | refine ec_region ?_ | refine ec_block ?_ | refine ec_ret ?_)
      | refine ek_seqN ?_ | refine ek_seqX ?_ | refine ek_seqR ?_ | refine ek_blkN ?_ | refine ek_blkR ?_ | refine ek_blkX ?_ | refine ek_blkY rfl ?_)
    refine sfin (.inr rfl) (by rfl) (by rfl) (by exact ⟨rfl, rfl, rfl⟩) (by rfl) (by rfl) (by rfl) (by first | rfl | (simp; done) | (simp [ints, prs]; done))
theorem evcf_ll1 (fs : List (Int × Int)) (hln : fs.length ≤ 1048576) : Ev cx 124 [.sl 0 0 1, .fn 125 []] [⟨[.sl 1 0 fs.length], 1, 0, some 0, true⟩, ⟨fns fs, 2, 1, some 0, false⟩] (.bool (!allF (fun i => !(fun _ => !allFunc fs) i) 0 (1))) [⟨[.sl 1 0 fs.length], 1, 0, some 0, true⟩, ⟨fns fs, 2, 1, some 0, false⟩] := by
  have e1 := evix_ll1 fs hln
  cases hs : firstF (fun i => !(fun _ => !allFunc fs) i) 0 (1) with
  | none =>
    rw [hs] at e1
    refine has124.eev rfl rfl ?_
    unfold m124
    repeat' (first
      | (refine g_op ?_; first
        | refine ep_mov rfl ?_
        | refine ep_call0 rfl (by first | exact e1) rfl rfl ?_
        | refine sp_call rfl rfl rfl rfl (by first | exact e1) ⟨rfl, rfl, rfl, rfl⟩ rfl rfl rfl ?_
        | refine ep_bin rfl rfl (by first | exact b_add (by omega) (by omega) | exact b_sub (by omega) (by omega) | exact b_and (by omega) (by omega) | exact b_or (by omega) (by omega) | exact b_shr (by omega) | exact b_shl (by omega) (by omega) | exact b_lss | exact b_leq | exact b_gtr | exact b_geq | exact b_eql | exact b_neq) ?_)
      | (refine g_ops ?_; first | refine eo_none ?_ | refine eo_nil ?_)
      | (refine g_code ?_; first | refine ec_seq ?_ | refine ec_region ?_ | refine ec_ret ?_)
      | refine ek_seqN ?_ | refine ek_seqR ?_)
    refine sfin (.inr rfl) (by rfl) (by rfl) (by exact ⟨rfl, rfl, rfl⟩) (by rfl) (by rfl) (by rw [firstF_allT hs]; rfl) (by first | rfl | (simp; done) | (simp [ints, prs]; done))
  | some x =>
    rw [hs] at e1
    have hge : decide (((x : Nat) : Int) ≥ 0) = true := decide_eq_true (by omega)
    refine has124.eev rfl rfl ?_
    unfold m124
    repeat' (first
      | (refine g_op ?_; first
        | refine ep_mov rfl ?_
        | refine ep_call0 rfl (by first | exact e1) rfl rfl ?_
        | refine sp_call rfl rfl rfl rfl (by first | exact e1) ⟨rfl, rfl, rfl, rfl⟩ rfl rfl rfl ?_
        | refine ep_bin rfl rfl (by first | exact b_add (by omega) (by omega) | exact b_sub (by omega) (by omega) | exact b_and (by omega) (by omega) | exact b_or (by omega) (by omega) | exact b_shr (by omega) | exact b_shl (by omega) (by omega) | exact b_lss | exact b_leq | exact b_gtr | exact b_geq | exact b_eql | exact b_neq) ?_)
      | (refine g_ops ?_; first | refine eo_none ?_ | refine eo_nil ?_)
      | (refine g_code ?_; first | refine ec_seq ?_ | refine ec_region ?_ | refine ec_ret ?_)
      | refine ek_seqN ?_ | refine ek_seqR ?_)
    refine sfin (.inr rfl) (by rfl) (by rfl) (by exact ⟨rfl, rfl, rfl⟩) (by rfl) (by rfl) (by rw [firstF_allF hs]; first | rfl | exact congrArg V.bool hge) (by first | rfl | (simp; done) | (simp [ints, prs]; done))

-- impl.generationCode
def m86_0 : MC := (.seq (.region [⟨(.bin .lss (.t 14) (.t 13)), (some 15), none⟩] false) (.seq (.cond (.t 15) .skip (.exit 0)) (.seq (.block 1 (.seq (.region [⟨(.indexAddr 1 (.t 12) (.t 14)), (some 16), none⟩, ⟨(.load none (.t 16)), (some 17), none⟩, ⟨(.mov (.t 17)), (some 6), none⟩] false) (.seq (.region [⟨(.mov (.t 6)), (some 18), none⟩, ⟨(.len (.t 18)), (some 19), none⟩, ⟨(.bin .gtr (.t 19) (.k (.int .i64 8))), (some 20), none⟩, ⟨(.mov (.t 20)), (some 21), none⟩, ⟨(.mov (.t 0)), (some 22), (some (21, false))⟩, ⟨(.bin .eql (.t 22) (.k (.int .i64 3))), (some 23), (some (21, false))⟩, ⟨(.mov (.t 23)), (some 24), (some (21, false))⟩, ⟨(.mov (.t 6)), (some 25), (some (24, true))⟩, ⟨(.call 115 [(.t 25), (.k (.fn 126 []))]), (some 26), (some (24, true))⟩, ⟨(.pick (.t 24) (.t 26) (.k (.bool false))), (some 27), (some (21, false))⟩, ⟨(.pick (.t 21) (.k (.bool true)) (.t 27)), (some 28), none⟩] false) (.cond (.t 28) (.seq (.region [⟨(.mov (.k (.int .i64 2))), (some 4), none⟩] false) .ret) .skip)))) (.region [⟨(.bin .add (.t 14) (.k (.int .i64 1))), (some 29), none⟩, ⟨(.mov (.t 29)), (some 14), none⟩] false))))
def m86 : MC := (.seq (.region [⟨(.mov (.k (.int .i64 0))), (some 4), none⟩] false) (.seq (.seq (.region [⟨(.mov (.t 1)), (some 7), none⟩, ⟨(.call 124 [(.t 7), (.k (.fn 125 []))]), (some 8), none⟩] false) (.cond (.t 8) (.seq (.region [⟨(.mov (.k (.int .i64 1))), (some 4), none⟩] false) .ret) .skip)) (.seq (.seq (.region [⟨(.mov (.t 0)), (some 9), none⟩, ⟨(.call 101 [(.t 9), (.k (.int .i64 2)), (.k (.int .i64 3))]), (some 10), none⟩, ⟨(.un .not (.t 10)), (some 11), none⟩] false) (.cond (.t 11) (.seq (.region [⟨(.mov (.k (.int .i64 2))), (some 4), none⟩] false) .ret) .skip)) (.seq (.seq (.region [⟨(.mov (.t 1)), (some 12), none⟩, ⟨(.len (.t 12)), (some 13), none⟩, ⟨(.mov (.k (.int .i64 0))), (some 14), none⟩] false) (.block 0 (.loop m86_0))) (.seq (.region [⟨(.mov (.k (.int .i64 0))), (some 4), none⟩] false) .ret)))))
theorem has86 : Has cx 86 30 m86 [(.tmp 4)] :=
  ⟨⟨Try.f86, Try.f86.body.getD .skip, by kernel_rfl, by kernel_rfl, by kernel_rfl, by kernel_rfl, by kernel_rfl, by kernel_rfl⟩⟩
theorem lpgc_A (fs : List (Int × Int)) (z : Int) (hln : fs.length ≤ 1048576) (h8 : fs.length > 8) : LpS cx 30 2 m86_0 [(0, .int .i64 (z)), (12, .sl 0 0 1), (13, .int .i64 (1 : Nat)), (14, .int .i64 (0 : Nat))] [⟨[.sl 1 0 fs.length], 1, 0, some 0, true⟩, ⟨fns fs, 2, 1, some 0, false⟩] (⟨.ret, [(4, .int .i64 2)], [⟨[.sl 1 0 fs.length], 1, 0, some 0, true⟩, ⟨fns fs, 2, 1, some 0, false⟩]⟩ : Out).x (⟨.ret, [(4, .int .i64 2)], [⟨[.sl 1 0 fs.length], 1, 0, some 0, true⟩, ⟨fns fs, 2, 1, some 0, false⟩]⟩ : Out).e (⟨.ret, [(4, .int .i64 2)], [⟨[.sl 1 0 fs.length], 1, 0, some 0, true⟩, ⟨fns fs, 2, 1, some 0, false⟩]⟩ : Out).h := by
  have hg8 : decide (((fs.length : Nat) : Int) > 8) = true := decide_eq_true (by omega)
  have hlt0 : decide (((0 : Nat) : Int) < (1 : Nat)) = true := by decide
  have hlt1 : decide (((0 + 1 : Nat) : Int) < (1 : Nat)) = false := by decide
  refine round_out ?_
  unfold m86_0
  repeat' (first
    | (refine g_op ?_; first
      | refine ep_mov rfl ?_ | refine ep_load1 rfl rfl rfl rfl ?_
      | refine ep_bin rfl rfl (by first | exact b_add (by omega) (by omega) | exact b_sub (by omega) (by omega) | exact b_and (by omega) (by omega) | exact b_or (by omega) (by omega) | exact b_shr (by omega) | exact b_shl (by omega) (by omega) | exact b_lss | exact b_leq | exact b_gtr | exact b_geq | exact b_eql | exact b_neq) ?_
      | refine ep_pickT rfl rfl ?_ | refine ep_pickF rfl rfl ?_ | refine ep_pickTH rfl (by assumption) rfl ?_ | refine ep_pickFH rfl (by assumption) rfl ?_ | refine ep_lenS rfl ?_ | refine ep_lenN rfl ?_
      | refine ep_lenE rfl ?_ | refine sp_idx rfl rfl rfl (by omega) rfl ?_ | refine ep_loadS rfl rfl rfl (by first | exact ints_get (by omega) | exact zints_get (by omega) | exact fget (by omega) | assumption) ?_)
    | (refine g_ops ?_; first | refine eo_none ?_ | refine eo_nil ?_ | refine eo_yes rfl ?_ | refine eo_no rfl ?_ | refine eo_und rfl ?_ | refine eo_yesH rfl (by assumption) ?_ | refine eo_noH rfl (by assumption) ?_)
    | (refine g_code ?_; first | refine ec_seq ?_ | refine ec_region ?_ | refine ec_block ?_ | refine ec_skip ?_ | refine ec_exit ?_ | refine ec_ret ?_ | refine ec_condT rfl ?_ | refine ec_condF rfl ?_ | refine ec_condTH rfl (by assumption) ?_ | refine ec_condFH rfl (by assumption) ?_)
    | refine ek_seqN ?_ | refine ek_seqX ?_ | refine ek_seqR ?_ | refine ek_blkN ?_ | refine ek_blkR ?_ | refine ek_blkX ?_ | refine ek_blkY rfl ?_)
  exact rnd_out (by rfl) (by simp) (scmp2 (by rfl) (by rfl) (by exact ⟨rfl, rfl, rfl⟩) (by rfl) (by first | rfl | (simp; done) | (simp [ints, prs]; done)) (by rfl) (by first | rfl | (simp; done) | (simp [ints, prs]; done)))
theorem lpgc_B (fs : List (Int × Int)) (z : Int) (hln : fs.length ≤ 1048576) (h8 : fs.length ≤ 8) (hz : (z == 3) = false) : LpS cx 30 2 m86_0 [(0, .int .i64 (z)), (12, .sl 0 0 1), (13, .int .i64 (1 : Nat)), (14, .int .i64 (0 : Nat))] [⟨[.sl 1 0 fs.length], 1, 0, some 0, true⟩, ⟨fns fs, 2, 1, some 0, false⟩] (⟨.exit 0, [], [⟨[.sl 1 0 fs.length], 1, 0, some 0, true⟩, ⟨fns fs, 2, 1, some 0, false⟩]⟩ : Out).x (⟨.exit 0, [], [⟨[.sl 1 0 fs.length], 1, 0, some 0, true⟩, ⟨fns fs, 2, 1, some 0, false⟩]⟩ : Out).e (⟨.exit 0, [], [⟨[.sl 1 0 fs.length], 1, 0, some 0, true⟩, ⟨fns fs, 2, 1, some 0, false⟩]⟩ : Out).h := by
  have hg8 : decide (((fs.length : Nat) : Int) > 8) = false := decide_eq_false (by omega)
  have hlt0 : decide (((0 : Nat) : Int) < (1 : Nat)) = true := by decide
  have hlt1 : decide (((0 + 1 : Nat) : Int) < (1 : Nat)) = false := by decide
  refine round_on (e2 := [(0, .int .i64 (z)), (12, .sl 0 0 1), (13, .int .i64 (1 : Nat)), (14, .int .i64 (0 + 1 : Nat))]) (h2 := [⟨[.sl 1 0 fs.length], 1, 0, some 0, true⟩, ⟨fns fs, 2, 1, some 0, false⟩]) ?_ (round_out ?_)
  · unfold m86_0
    repeat' (first
      | (refine g_op ?_; first
        | refine ep_mov rfl ?_ | refine ep_load1 rfl rfl rfl rfl ?_
        | refine ep_bin rfl rfl (by first | exact b_add (by omega) (by omega) | exact b_sub (by omega) (by omega) | exact b_and (by omega) (by omega) | exact b_or (by omega) (by omega) | exact b_shr (by omega) | exact b_shl (by omega) (by omega) | exact b_lss | exact b_leq | exact b_gtr | exact b_geq | exact b_eql | exact b_neq) ?_
        | refine ep_pickT rfl rfl ?_ | refine ep_pickF rfl rfl ?_ | refine ep_pickTH rfl (by assumption) rfl ?_ | refine ep_pickFH rfl (by assumption) rfl ?_ | refine ep_lenS rfl ?_ | refine ep_lenN rfl ?_
        | refine ep_lenE rfl ?_ | refine sp_idx rfl rfl rfl (by omega) rfl ?_ | refine ep_loadS rfl rfl rfl (by first | exact ints_get (by omega) | exact zints_get (by omega) | exact fget (by omega) | assumption) ?_)
      | (refine g_ops ?_; first | refine eo_none ?_ | refine eo_nil ?_ | refine eo_yes rfl ?_ | refine eo_no rfl ?_ | refine eo_und rfl ?_ | refine eo_yesH rfl (by assumption) ?_ | refine eo_noH rfl (by assumption) ?_)
      | (refine g_code ?_; first | refine ec_seq ?_ | refine ec_region ?_ | refine ec_block ?_ | refine ec_skip ?_ | refine ec_exit ?_ | refine ec_ret ?_ | refine ec_condT rfl ?_ | refine ec_condF rfl ?_ | refine ec_condTH rfl (by assumption) ?_ | refine ec_condFH rfl (by assumption) ?_)
      | refine ek_seqN ?_ | refine ek_seqX ?_ | refine ek_seqR ?_ | refine ek_blkN ?_ | refine ek_blkR ?_ | refine ek_blkX ?_ | refine ek_blkY rfl ?_)
    exact rnd_on (by rfl) (scmp2 (by rfl) (by rfl) (by exact ⟨rfl, rfl, rfl⟩) (by rfl) (by first | rfl | (simp; done) | (simp [ints, prs]; done)) (by rfl) (by first | rfl | (simp; done) | (simp [ints, prs]; done)))
  · unfold m86_0
    repeat' (first
      | (refine g_op ?_; first
        | refine ep_mov rfl ?_ | refine ep_load1 rfl rfl rfl rfl ?_
        | refine ep_bin rfl rfl (by first | exact b_add (by omega) (by omega) | exact b_sub (by omega) (by omega) | exact b_and (by omega) (by omega) | exact b_or (by omega) (by omega) | exact b_shr (by omega) | exact b_shl (by omega) (by omega) | exact b_lss | exact b_leq | exact b_gtr | exact b_geq | exact b_eql | exact b_neq) ?_
        | refine ep_pickT rfl rfl ?_ | refine ep_pickF rfl rfl ?_ | refine ep_pickTH rfl (by assumption) rfl ?_ | refine ep_pickFH rfl (by assumption) rfl ?_ | refine ep_lenS rfl ?_ | refine ep_lenN rfl ?_
        | refine ep_lenE rfl ?_ | refine sp_idx rfl rfl rfl (by omega) rfl ?_ | refine ep_loadS rfl rfl rfl (by first | exact ints_get (by omega) | exact zints_get (by omega) | exact fget (by omega) | assumption) ?_)
      | (refine g_ops ?_; first | refine eo_none ?_ | refine eo_nil ?_ | refine eo_yes rfl ?_ | refine eo_no rfl ?_ | refine eo_und rfl ?_ | refine eo_yesH rfl (by assumption) ?_ | refine eo_noH rfl (by assumption) ?_)
      | (refine g_code ?_; first | refine ec_seq ?_ | refine ec_region ?_ | refine ec_block ?_ | refine ec_skip ?_ | refine ec_exit ?_ | refine ec_ret ?_ | refine ec_condT rfl ?_ | refine ec_condF rfl ?_ | refine ec_condTH rfl (by assumption) ?_ | refine ec_condFH rfl (by assumption) ?_)
      | refine ek_seqN ?_ | refine ek_seqX ?_ | refine ek_seqR ?_ | refine ek_blkN ?_ | refine ek_blkR ?_ | refine ek_blkX ?_ | refine ek_blkY rfl ?_)
    exact rnd_out (by rfl) (by simp) (scmp2 (by rfl) (by rfl) (by exact ⟨rfl, rfl, rfl⟩) (by rfl) (by first | rfl | (simp; done) | (simp [ints, prs]; done)) (by rfl) (by first | rfl | (simp; done) | (simp [ints, prs]; done)))
theorem lpgc_C (fs : List (Int × Int)) (z : Int) (hln : fs.length ≤ 1048576) (h8 : fs.length ≤ 8) (hz : (z == 3) = true) (h3 : a3 fs = true) : LpS cx 30 2 m86_0 [(0, .int .i64 (z)), (12, .sl 0 0 1), (13, .int .i64 (1 : Nat)), (14, .int .i64 (0 : Nat))] [⟨[.sl 1 0 fs.length], 1, 0, some 0, true⟩, ⟨fns fs, 2, 1, some 0, false⟩] (⟨.exit 0, [], [⟨[.sl 1 0 fs.length], 1, 0, some 0, true⟩, ⟨fns fs, 2, 1, some 0, false⟩]⟩ : Out).x (⟨.exit 0, [], [⟨[.sl 1 0 fs.length], 1, 0, some 0, true⟩, ⟨fns fs, 2, 1, some 0, false⟩]⟩ : Out).e (⟨.exit 0, [], [⟨[.sl 1 0 fs.length], 1, 0, some 0, true⟩, ⟨fns fs, 2, 1, some 0, false⟩]⟩ : Out).h := by
  have hg8 : decide (((fs.length : Nat) : Int) > 8) = false := decide_eq_false (by omega)
  have e3 := evcf_gc2 fs hln
  rw [show (!allF (fun i => !(fun j => decide ((fs.getD j (0, 0)).1 > 2)) i) 0 fs.length) = !a3 fs from rfl, h3] at e3
  have hlt0 : decide (((0 : Nat) : Int) < (1 : Nat)) = true := by decide
  have hlt1 : decide (((0 + 1 : Nat) : Int) < (1 : Nat)) = false := by decide
  refine round_on (e2 := [(0, .int .i64 (z)), (12, .sl 0 0 1), (13, .int .i64 (1 : Nat)), (14, .int .i64 (0 + 1 : Nat))]) (h2 := [⟨[.sl 1 0 fs.length], 1, 0, some 0, true⟩, ⟨fns fs, 2, 1, some 0, false⟩]) ?_ (round_out ?_)
  · unfold m86_0
    repeat' (first
      | (refine g_op ?_; first
        | refine ep_mov rfl ?_ | refine ep_load1 rfl rfl rfl rfl ?_
        | refine ep_call0 rfl (by first | exact e3) rfl rfl ?_
        | refine sp_call rfl rfl rfl rfl (by first | exact e3) ⟨rfl, rfl, rfl, rfl⟩ rfl rfl rfl ?_
        | refine ep_bin rfl rfl (by first | exact b_add (by omega) (by omega) | exact b_sub (by omega) (by omega) | exact b_and (by omega) (by omega) | exact b_or (by omega) (by omega) | exact b_shr (by omega) | exact b_shl (by omega) (by omega) | exact b_lss | exact b_leq | exact b_gtr | exact b_geq | exact b_eql | exact b_neq) ?_
        | refine ep_pickT rfl rfl ?_ | refine ep_pickF rfl rfl ?_ | refine ep_pickTH rfl (by assumption) rfl ?_ | refine ep_pickFH rfl (by assumption) rfl ?_ | refine ep_lenS rfl ?_ | refine ep_lenN rfl ?_
        | refine ep_lenE rfl ?_ | refine sp_idx rfl rfl rfl (by omega) rfl ?_ | refine ep_loadS rfl rfl rfl (by first | exact ints_get (by omega) | exact zints_get (by omega) | exact fget (by omega) | assumption) ?_)
      | (refine g_ops ?_; first | refine eo_none ?_ | refine eo_nil ?_ | refine eo_yes rfl ?_ | refine eo_no rfl ?_ | refine eo_und rfl ?_ | refine eo_yesH rfl (by assumption) ?_ | refine eo_noH rfl (by assumption) ?_)
      | (refine g_code ?_; first | refine ec_seq ?_ | refine ec_region ?_ | refine ec_block ?_ | refine ec_skip ?_ | refine ec_exit ?_ | refine ec_ret ?_ | refine ec_condT rfl ?_ | refine ec_condF rfl ?_ | refine ec_condTH rfl (by assumption) ?_ | refine ec_condFH rfl (by assumption) ?_)
      | refine ek_seqN ?_ | refine ek_seqX ?_ | refine ek_seqR ?_ | refine ek_blkN ?_ | refine ek_blkR ?_ | refine ek_blkX ?_ | refine ek_blkY rfl ?_)
    exact rnd_on (by rfl) (scmp2 (by rfl) (by rfl) (by exact ⟨rfl, rfl, rfl⟩) (by rfl) (by first | rfl | (simp; done) | (simp [ints, prs]; done)) (by rfl) (by first | rfl | (simp; done) | (simp [ints, prs]; done)))
  · unfold m86_0
    repeat' (first
      | (refine g_op ?_; first
        | refine ep_mov rfl ?_ | refine ep_load1 rfl rfl rfl rfl ?_
        | refine ep_bin rfl rfl (by first | exact b_add (by omega) (by omega) | exact b_sub (by omega) (by omega) | exact b_and (by omega) (by omega) | exact b_or (by omega) (by omega) | exact b_shr (by omega) | exact b_shl (by omega) (by omega) | exact b_lss | exact b_leq | exact b_gtr | exact b_geq | exact b_eql | exact b_neq) ?_
        | refine ep_pickT rfl rfl ?_ | refine ep_pickF rfl rfl ?_ | refine ep_pickTH rfl (by assumption) rfl ?_ | refine ep_pickFH rfl (by assumption) rfl ?_ | refine ep_lenS rfl ?_ | refine ep_lenN rfl ?_
        | refine ep_lenE rfl ?_ | refine sp_idx rfl rfl rfl (by omega) rfl ?_ | refine ep_loadS rfl rfl rfl (by first | exact ints_get (by omega) | exact zints_get (by omega) | exact fget (by omega) | assumption) ?_)
      | (refine g_ops ?_; first | refine eo_none ?_ | refine eo_nil ?_ | refine eo_yes rfl ?_ | refine eo_no rfl ?_ | refine eo_und rfl ?_ | refine eo_yesH rfl (by assumption) ?_ | refine eo_noH rfl (by assumption) ?_)
      | (refine g_code ?_; first | refine ec_seq ?_ | refine ec_region ?_ | refine ec_block ?_ | refine ec_skip ?_ | refine ec_exit ?_ | refine ec_ret ?_ | refine ec_condT rfl ?_ | refine ec_condF rfl ?_ | refine ec_condTH rfl (by assumption) ?_ | refine ec_condFH rfl (by assumption) ?_)
      | refine ek_seqN ?_ | refine ek_seqX ?_ | refine ek_seqR ?_ | refine ek_blkN ?_ | refine ek_blkR ?_ | refine ek_blkX ?_ | refine ek_blkY rfl ?_)
    exact rnd_out (by rfl) (by simp) (scmp2 (by rfl) (by rfl) (by exact ⟨rfl, rfl, rfl⟩) (by rfl) (by first | rfl | (simp; done) | (simp [ints, prs]; done)) (by rfl) (by first | rfl | (simp; done) | (simp [ints, prs]; done)))
theorem lpgc_D (fs : List (Int × Int)) (z : Int) (hln : fs.length ≤ 1048576) (h8 : fs.length ≤ 8) (hz : (z == 3) = true) (h3 : a3 fs = false) : LpS cx 30 2 m86_0 [(0, .int .i64 (z)), (12, .sl 0 0 1), (13, .int .i64 (1 : Nat)), (14, .int .i64 (0 : Nat))] [⟨[.sl 1 0 fs.length], 1, 0, some 0, true⟩, ⟨fns fs, 2, 1, some 0, false⟩] (⟨.ret, [(4, .int .i64 2)], [⟨[.sl 1 0 fs.length], 1, 0, some 0, true⟩, ⟨fns fs, 2, 1, some 0, false⟩]⟩ : Out).x (⟨.ret, [(4, .int .i64 2)], [⟨[.sl 1 0 fs.length], 1, 0, some 0, true⟩, ⟨fns fs, 2, 1, some 0, false⟩]⟩ : Out).e (⟨.ret, [(4, .int .i64 2)], [⟨[.sl 1 0 fs.length], 1, 0, some 0, true⟩, ⟨fns fs, 2, 1, some 0, false⟩]⟩ : Out).h := by
  have hg8 : decide (((fs.length : Nat) : Int) > 8) = false := decide_eq_false (by omega)
  have e3 := evcf_gc2 fs hln
  rw [show (!allF (fun i => !(fun j => decide ((fs.getD j (0, 0)).1 > 2)) i) 0 fs.length) = !a3 fs from rfl, h3] at e3
  have hlt0 : decide (((0 : Nat) : Int) < (1 : Nat)) = true := by decide
  have hlt1 : decide (((0 + 1 : Nat) : Int) < (1 : Nat)) = false := by decide
  refine round_out ?_
  unfold m86_0
  repeat' (first
    | (refine g_op ?_; first
      | refine ep_mov rfl ?_ | refine ep_load1 rfl rfl rfl rfl ?_
      | refine ep_call0 rfl (by first | exact e3) rfl rfl ?_
      | refine sp_call rfl rfl rfl rfl (by first | exact e3) ⟨rfl, rfl, rfl, rfl⟩ rfl rfl rfl ?_
      | refine ep_bin rfl rfl (by first | exact b_add (by omega) (by omega) | exact b_sub (by omega) (by omega) | exact b_and (by omega) (by omega) | exact b_or (by omega) (by omega) | exact b_shr (by omega) | exact b_shl (by omega) (by omega) | exact b_lss | exact b_leq | exact b_gtr | exact b_geq | exact b_eql | exact b_neq) ?_
      | refine ep_pickT rfl rfl ?_ | refine ep_pickF rfl rfl ?_ | refine ep_pickTH rfl (by assumption) rfl ?_ | refine ep_pickFH rfl (by assumption) rfl ?_ | refine ep_lenS rfl ?_ | refine ep_lenN rfl ?_
      | refine ep_lenE rfl ?_ | refine sp_idx rfl rfl rfl (by omega) rfl ?_ | refine ep_loadS rfl rfl rfl (by first | exact ints_get (by omega) | exact zints_get (by omega) | exact fget (by omega) | assumption) ?_)
    | (refine g_ops ?_; first | refine eo_none ?_ | refine eo_nil ?_ | refine eo_yes rfl ?_ | refine eo_no rfl ?_ | refine eo_und rfl ?_ | refine eo_yesH rfl (by assumption) ?_ | refine eo_noH rfl (by assumption) ?_)
    | (refine g_code ?_; first | refine ec_seq ?_ | refine ec_region ?_ | refine ec_block ?_ | refine ec_skip ?_ | refine ec_exit ?_ | refine ec_ret ?_ | refine ec_condT rfl ?_ | refine ec_condF rfl ?_ | refine ec_condTH rfl (by assumption) ?_ | refine ec_condFH rfl (by assumption) ?_)
    | refine ek_seqN ?_ | refine ek_seqX ?_ | refine ek_seqR ?_ | refine ek_blkN ?_ | refine ek_blkR ?_ | refine ek_blkX ?_ | refine ek_blkY rfl ?_)
  exact rnd_out (by rfl) (by simp) (scmp2 (by rfl) (by rfl) (by exact ⟨rfl, rfl, rfl⟩) (by rfl) (by first | rfl | (simp; done) | (simp [ints, prs]; done)) (by rfl) (by first | rfl | (simp; done) | (simp [ints, prs]; done)))
theorem ev86_1 (fs : List (Int × Int)) (z : Int) (hln : fs.length ≤ 1048576) : Ev cx 86 [.int .i64 z, .sl 0 0 1] [⟨[.sl 1 0 fs.length], 1, 0, some 0, true⟩, ⟨fns fs, 2, 1, some 0, false⟩] (.int .i64 (gcode fs z)) [⟨[.sl 1 0 fs.length], 1, 0, some 0, true⟩, ⟨fns fs, 2, 1, some 0, false⟩] := by
  have e1 := evcf_ll1 fs hln
  have e2 := ev101 z 2 3
  cases ha : allFunc fs
  · rw [show (!allF (fun i => !(fun _ => !allFunc fs) i) 0 1) = true by simp [allF, ha]] at e1
    have hl1 : lcode fs = 1 := by rw [lcode, if_neg (by rw [ha]; simp)]
    have hC : gcode fs z = 1 := by rw [gcode, hl1, if_neg (by omega)]
    rw [hC]
    refine has86.eev rfl rfl ?_
    unfold m86
    repeat' (first
      | (refine g_op ?_; first
        | refine ep_mov rfl ?_
        | refine ep_call0 rfl (by first | exact e1 | exact e2) rfl rfl ?_
        | refine sp_call rfl rfl rfl rfl (by first | exact e1 | exact e2) ⟨rfl, rfl, rfl, rfl⟩ rfl rfl rfl ?_
        | refine ep_not rfl ?_ | refine ep_lenS rfl ?_ | refine ep_lenN rfl ?_ | refine ep_lenE rfl ?_)
      | (refine g_ops ?_; first | refine eo_none ?_ | refine eo_nil ?_)
      | (refine g_code ?_; first | refine ec_seq ?_ | refine ec_region ?_ | refine ec_block ?_ | refine ec_skip ?_ | refine ec_ret ?_ | refine ec_condT rfl ?_ | refine ec_condF rfl ?_ | refine ec_condTH rfl (by assumption) ?_ | refine ec_condFH rfl (by assumption) ?_)
      | refine ek_seqN ?_ | refine ek_seqX ?_ | refine ek_seqR ?_ | refine ek_blkN ?_ | refine ek_blkR ?_ | refine ek_blkX ?_ | refine ek_blkY rfl ?_)
    refine sfin (.inr rfl) (by rfl) (by rfl) (by exact ⟨rfl, rfl, rfl⟩) (by rfl) (by rfl) (by rfl) (by first | rfl | (simp; done) | (simp [ints, prs]; done))
  · rw [show (!allF (fun i => !(fun _ => !allFunc fs) i) 0 1) = false by simp [allF, ha]] at e1
    have hl : lcode fs = if fs.length > 8 then 2 else 0 := by rw [lcode, if_pos ha]
    by_cases h1 : 2 ≤ z ∧ z ≤ 3
    · rw [decide_eq_true h1] at e2
      by_cases h8 : fs.length > 8
      · rw [if_pos h8] at hl
        have hC : gcode fs z = 2 := by rw [gcode, hl, if_neg (by omega)]
        have lp := lpgc_A fs z hln h8
        rw [hC]
        refine has86.eev rfl rfl ?_
        unfold m86
        repeat' (first
          | refine sc_loop lp rfl rfl ⟨rfl, rfl, rfl⟩ rfl rfl rfl ?_
          | (refine g_op ?_; first
            | refine ep_mov rfl ?_
            | refine ep_call0 rfl (by first | exact e1 | exact e2) rfl rfl ?_
            | refine sp_call rfl rfl rfl rfl (by first | exact e1 | exact e2) ⟨rfl, rfl, rfl, rfl⟩ rfl rfl rfl ?_
            | refine ep_not rfl ?_ | refine ep_lenS rfl ?_ | refine ep_lenN rfl ?_ | refine ep_lenE rfl ?_)
          | (refine g_ops ?_; first | refine eo_none ?_ | refine eo_nil ?_)
          | (refine g_code ?_; first | refine ec_seq ?_ | refine ec_region ?_ | refine ec_block ?_ | refine ec_skip ?_ | refine ec_ret ?_ | refine ec_condT rfl ?_ | refine ec_condF rfl ?_ | refine ec_condTH rfl (by assumption) ?_ | refine ec_condFH rfl (by assumption) ?_)
          | refine ek_seqN ?_ | refine ek_seqX ?_ | refine ek_seqR ?_ | refine ek_blkN ?_ | refine ek_blkR ?_ | refine ek_blkX ?_ | refine ek_blkY rfl ?_)
        refine sfin (.inr rfl) (by rfl) (by rfl) (by exact ⟨rfl, rfl, rfl⟩) (by rfl) (by rfl) (by rfl) (by first | rfl | (simp; done) | (simp [ints, prs]; done))
      · rw [if_neg h8] at hl
        cases hz : (z == 3)
        · have hC : gcode fs z = 0 := by rw [gcode, if_pos hl, if_pos h1, if_neg (fun h => by rw [h.1] at hz; simp at hz)]
          have lp := lpgc_B fs z hln (by omega) hz
          rw [hC]
          refine has86.eev rfl rfl ?_
          unfold m86
          repeat' (first
            | refine sc_loop lp rfl rfl ⟨rfl, rfl, rfl⟩ rfl rfl rfl ?_
            | (refine g_op ?_; first
              | refine ep_mov rfl ?_
              | refine ep_call0 rfl (by first | exact e1 | exact e2) rfl rfl ?_
              | refine sp_call rfl rfl rfl rfl (by first | exact e1 | exact e2) ⟨rfl, rfl, rfl, rfl⟩ rfl rfl rfl ?_
              | refine ep_not rfl ?_ | refine ep_lenS rfl ?_ | refine ep_lenN rfl ?_ | refine ep_lenE rfl ?_)
            | (refine g_ops ?_; first | refine eo_none ?_ | refine eo_nil ?_)
            | (refine g_code ?_; first | refine ec_seq ?_ | refine ec_region ?_ | refine ec_block ?_ | refine ec_skip ?_ | refine ec_ret ?_ | refine ec_condT rfl ?_ | refine ec_condF rfl ?_ | refine ec_condTH rfl (by assumption) ?_ | refine ec_condFH rfl (by assumption) ?_)
            | refine ek_seqN ?_ | refine ek_seqX ?_ | refine ek_seqR ?_ | refine ek_blkN ?_ | refine ek_blkR ?_ | refine ek_blkX ?_ | refine ek_blkY rfl ?_)
          refine sfin (.inr rfl) (by rfl) (by rfl) (by exact ⟨rfl, rfl, rfl⟩) (by rfl) (by rfl) (by rfl) (by first | rfl | (simp; done) | (simp [ints, prs]; done))
        · have hz3 : z = 3 := by simpa using hz
          cases h3 : a3 fs
          · have hC : gcode fs z = 2 := by rw [gcode, if_pos hl, if_pos h1, if_pos ⟨hz3, h3⟩]
            have lp := lpgc_D fs z hln (by omega) hz h3
            rw [hC]
            refine has86.eev rfl rfl ?_
            unfold m86
            repeat' (first
              | refine sc_loop lp rfl rfl ⟨rfl, rfl, rfl⟩ rfl rfl rfl ?_
              | (refine g_op ?_; first
                | refine ep_mov rfl ?_
                | refine ep_call0 rfl (by first | exact e1 | exact e2) rfl rfl ?_
                | refine sp_call rfl rfl rfl rfl (by first | exact e1 | exact e2) ⟨rfl, rfl, rfl, rfl⟩ rfl rfl rfl ?_
                | refine ep_not rfl ?_ | refine ep_lenS rfl ?_ | refine ep_lenN rfl ?_ | refine ep_lenE rfl ?_)
              | (refine g_ops ?_; first | refine eo_none ?_ | refine eo_nil ?_)
              | (refine g_code ?_; first | refine ec_seq ?_ | refine ec_region ?_ | refine ec_block ?_ | refine ec_skip ?_ | refine ec_ret ?_ | refine ec_condT rfl ?_ | refine ec_condF rfl ?_ | refine ec_condTH rfl (by assumption) ?_ | refine ec_condFH rfl (by assumption) ?_)
              | refine ek_seqN ?_ | refine ek_seqX ?_ | refine ek_seqR ?_ | refine ek_blkN ?_ | refine ek_blkR ?_ | refine ek_blkX ?_ | refine ek_blkY rfl ?_)
            refine sfin (.inr rfl) (by rfl) (by rfl) (by exact ⟨rfl, rfl, rfl⟩) (by rfl) (by rfl) (by rfl) (by first | rfl | (simp; done) | (simp [ints, prs]; done))
          · have hC : gcode fs z = 0 := by rw [gcode, if_pos hl, if_pos h1, if_neg (fun h => by rw [h3] at h; simp at h)]
            have lp := lpgc_C fs z hln (by omega) hz h3
            rw [hC]
            refine has86.eev rfl rfl ?_
            unfold m86
            repeat' (first
              | refine sc_loop lp rfl rfl ⟨rfl, rfl, rfl⟩ rfl rfl rfl ?_
              | (refine g_op ?_; first
                | refine ep_mov rfl ?_
                | refine ep_call0 rfl (by first | exact e1 | exact e2) rfl rfl ?_
                | refine sp_call rfl rfl rfl rfl (by first | exact e1 | exact e2) ⟨rfl, rfl, rfl, rfl⟩ rfl rfl rfl ?_
                | refine ep_not rfl ?_ | refine ep_lenS rfl ?_ | refine ep_lenN rfl ?_ | refine ep_lenE rfl ?_)
              | (refine g_ops ?_; first | refine eo_none ?_ | refine eo_nil ?_)
              | (refine g_code ?_; first | refine ec_seq ?_ | refine ec_region ?_ | refine ec_block ?_ | refine ec_skip ?_ | refine ec_ret ?_ | refine ec_condT rfl ?_ | refine ec_condF rfl ?_ | refine ec_condTH rfl (by assumption) ?_ | refine ec_condFH rfl (by assumption) ?_)
              | refine ek_seqN ?_ | refine ek_seqX ?_ | refine ek_seqR ?_ | refine ek_blkN ?_ | refine ek_blkR ?_ | refine ek_blkX ?_ | refine ek_blkY rfl ?_)
            refine sfin (.inr rfl) (by rfl) (by rfl) (by exact ⟨rfl, rfl, rfl⟩) (by rfl) (by rfl) (by rfl) (by first | rfl | (simp; done) | (simp [ints, prs]; done))
    · rw [decide_eq_false h1] at e2
      have hC : gcode fs z = 2 := by
        by_cases h0 : lcode fs = 0
        · rw [gcode, if_pos h0, if_neg h1]
        · rw [gcode, if_neg h0]
          by_cases h8 : fs.length > 8
          · rw [hl, if_pos h8]
          · rw [if_neg h8] at hl; exact absurd hl h0
      rw [hC]
      refine has86.eev rfl rfl ?_
      unfold m86
      repeat' (first
        | (refine g_op ?_; first
          | refine ep_mov rfl ?_
          | refine ep_call0 rfl (by first | exact e1 | exact e2) rfl rfl ?_
          | refine sp_call rfl rfl rfl rfl (by first | exact e1 | exact e2) ⟨rfl, rfl, rfl, rfl⟩ rfl rfl rfl ?_
          | refine ep_not rfl ?_ | refine ep_lenS rfl ?_ | refine ep_lenN rfl ?_ | refine ep_lenE rfl ?_)
        | (refine g_ops ?_; first | refine eo_none ?_ | refine eo_nil ?_)
        | (refine g_code ?_; first | refine ec_seq ?_ | refine ec_region ?_ | refine ec_block ?_ | refine ec_skip ?_ | refine ec_ret ?_ | refine ec_condT rfl ?_ | refine ec_condF rfl ?_ | refine ec_condTH rfl (by assumption) ?_ | refine ec_condFH rfl (by assumption) ?_)
        | refine ek_seqN ?_ | refine ek_seqX ?_ | refine ek_seqR ?_ | refine ek_blkN ?_ | refine ek_blkR ?_ | refine ek_blkX ?_ | refine ek_blkY rfl ?_)
      refine sfin (.inr rfl) (by rfl) (by rfl) (by exact ⟨rfl, rfl, rfl⟩) (by rfl) (by rfl) (by rfl) (by first | rfl | (simp; done) | (simp [ints, prs]; done))
-- 90
def cn (D : List Int) (k : Nat) : Nat → Nat
  | 0 => 0
  | i + 1 => cn D k i + (if D.getD i 0 = (k : Int) then 1 else 0)
theorem cn_le (D : List Int) (k : Nat) : ∀ i, cn D k i ≤ i
  | 0 => Nat.le_refl _
  | i + 1 => by have := cn_le D k i; rw [cn]; split <;> omega
def cntL (D : List Int) (M i : Nat) : List Nat := (List.range M).map fun k => cn D k i
theorem cntL_len (D : List Int) (M i : Nat) : (cntL D M i).length = M := by simp [cntL]
theorem cntL_at {D : List Int} {M i k : Nat} (hk : k < M) : (cntL D M i).getD k 0 = cn D k i := by
  rw [List.getD_eq_getElem?_getD, cntL, List.getElem?_map, List.getElem?_range hk]; rfl
theorem cntL_set {D : List Int} {M i d : Nat} (hd : D.getD i 0 = (d : Nat)) (hM : d < M) : (cntL D M i).set d (cn D d i + 1) = cntL D M (i + 1) := by
  apply List.ext_getElem?
  intro k
  rw [List.getElem?_set, cntL_len, cntL, cntL, List.getElem?_map, List.getElem?_map]
  by_cases hk : k < M
  · rw [List.getElem?_range hk]
    simp only [Option.map_some, cn]
    by_cases e : d = k
    · subst e; rw [if_pos rfl, if_pos hM, if_pos hd]
    · rw [if_neg e, if_neg (by rw [hd]; omega)]; rfl
  · rw [show (List.range M)[k]? = none by simp; omega, if_neg (by omega)]; rfl
theorem cntL_neg {D : List Int} {M i : Nat} (hd : D.getD i 0 < 0) : cntL D M (i + 1) = cntL D M i := by
  unfold cntL
  apply List.map_congr_left
  intro k _
  rw [cn, if_neg (by omega)]; rfl
theorem cn_0 {D : List Int} {k : Nat} : ∀ {i : Nat}, (∀ j, j < i → D.getD j 0 < (k : Int)) → cn D k i = 0
  | 0, _ => rfl
  | i + 1, h => by
    have := h i (by omega)
    rw [cn, cn_0 (fun j hj => h j (by omega)), if_neg (by omega)]
theorem cntL_snoc {D : List Int} {m i : Nat} (h : ∀ j, j < i → D.getD j 0 < (m : Int)) : cntL D (m + 1) i = cntL D m i ++ [0] := by
  rw [cntL, List.range_succ, List.map_append, List.map_singleton, cn_0 h]; rfl
theorem cntL_z (D : List Int) (M : Nat) : cntL D M 0 = List.replicate M 0 := by
  apply List.ext_getElem?
  intro k
  rw [cntL, List.getElem?_map, List.getElem?_replicate]
  by_cases hk : k < M
  · rw [List.getElem?_range hk, if_pos hk]; rfl
  · rw [if_neg hk, show (List.range M)[k]? = none by simp; omega]; rfl
def mlen (D : List Int) : Nat → Nat
  | 0 => 0
  | i + 1 => max (mlen D i) (D.getD i 0 + 1).toNat
theorem mlen_lt {D : List Int} : ∀ {i j : Nat}, j < i → D.getD j 0 < (mlen D i : Int)
  | 0, j, h => by omega
  | i + 1, j, h => by
    rw [mlen]
    by_cases e : j = i
    · subst e; omega
    · have := mlen_lt (D := D) (i := i) (j := j) (by omega); omega
theorem mlen_le {D : List Int} {B : Nat} (h : ∀ j, D.getD j 0 < (B : Int)) : ∀ i, mlen D i ≤ B
  | 0 => Nat.zero_le _
  | i + 1 => by have := mlen_le h i; have := h i; rw [mlen]; omega
def mxI (D : List Int) : Nat → Int
  | 0 => D.getD 0 0
  | i + 1 => if D.getD i 0 > mxI D i then D.getD i 0 else mxI D i
theorem mxI_mlen {D : List Int} : ∀ i, (mxI D (i + 1) + 1).toNat = mlen D (i + 1)
  | 0 => by rw [mxI, mxI, if_neg (by omega), mlen, mlen]; omega
  | i + 1 => by
    have := mxI_mlen (D := D) i
    rw [mxI, mlen, ← this]
    split <;> omega
theorem ints_set {l : List Nat} {b d : Nat} (h : b < l.length) : (ints l).take (0 + b * 1) ++ [V.int .i64 (d : Nat)] ++ (ints l).drop (0 + b * 1 + 1) = ints (l.set b d) := by
  simp only [ints, Nat.mul_one, Nat.zero_add]
  rw [List.set_eq_take_append_cons_drop, if_pos h]
  simp
-- slices.Max[[]int64,int64]
def m90_0 : MC := (.seq (.seq (.region [⟨(.mov (.t 4)), (some 12), none⟩, ⟨(.mov (.t 0)), (some 13), none⟩, ⟨(.len (.t 13)), (some 14), none⟩, ⟨(.bin .lss (.t 12) (.t 14)), (some 15), none⟩] false) (.cond (.t 15) .skip (.exit 0))) (.seq (.block 1 (.region [⟨(.mov (.t 3)), (some 18), none⟩, ⟨(.mov (.t 0)), (some 19), none⟩, ⟨(.mov (.t 4)), (some 20), none⟩, ⟨(.indexAddr 1 (.t 19) (.t 20)), (some 21), none⟩, ⟨(.load none (.t 21)), (some 22), none⟩, ⟨(.mm true [(.t 18), (.t 22)]), (some 23), none⟩, ⟨(.mov (.t 23)), (some 3), none⟩] false)) (.region [⟨(.mov (.t 4)), (some 16), none⟩, ⟨(.bin .add (.t 16) (.k (.int .i64 1))), (some 17), none⟩, ⟨(.mov (.t 17)), (some 4), none⟩] false)))
def m90 : MC := (.seq (.region [⟨(.mov (.k (.int .i64 0))), (some 2), none⟩] false) (.seq (.seq (.region [⟨(.mov (.t 0)), (some 5), none⟩, ⟨(.len (.t 5)), (some 6), none⟩, ⟨(.bin .lss (.t 6) (.k (.int .i64 1))), (some 7), none⟩] false) (.cond (.t 7) (.region [⟨.bad, (some 8), none⟩, ⟨.bad, none, none⟩] false) .skip)) (.seq (.region [⟨(.mov (.t 0)), (some 9), none⟩, ⟨(.indexAddr 1 (.t 9) (.k (.int .i64 0))), (some 10), none⟩, ⟨(.load none (.t 10)), (some 11), none⟩, ⟨(.mov (.t 11)), (some 3), none⟩] false) (.seq (.seq (.region [⟨(.mov (.k (.int .i64 1))), (some 4), none⟩] false) (.block 0 (.loop m90_0))) (.seq (.region [⟨(.mov (.t 3)), (some 24), none⟩, ⟨(.mov (.t 24)), (some 2), none⟩] false) .ret)))))
theorem has90 : Has cx 90 25 m90 [(.tmp 2)] :=
  ⟨⟨Try.f90, Try.f90.body.getD .skip, by kernel_rfl, by kernel_rfl, by kernel_rfl, by kernel_rfl, by kernel_rfl, by kernel_rfl⟩⟩
theorem lpmx (D : List Int) (N : Nat) (hN : D.length = N + 1) (hN6 : N ≤ 65536) :
    LpS cx 25 1 m90_0 [(0, .sl 0 0 (N + 1)), (3, .int .i64 (mxI D (0 + 1))), (4, .int .i64 (0 + 1 : Nat))] [⟨zints D, 1, 0, some 0, false⟩] (⟨.exit 0, [(3, .int .i64 (mxI D (N + 1)))], [⟨zints D, 1, 0, some 0, false⟩]⟩ : Out).x (⟨.exit 0, [(3, .int .i64 (mxI D (N + 1)))], [⟨zints D, 1, 0, some 0, false⟩]⟩ : Out).e (⟨.exit 0, [(3, .int .i64 (mxI D (N + 1)))], [⟨zints D, 1, 0, some 0, false⟩]⟩ : Out).h := by
  refine lp_st (N) (fun _ => ()) (fun i _ => [(0, .sl 0 0 (N + 1)), (3, .int .i64 (mxI D (i + 1))), (4, .int .i64 (i + 1 : Nat))]) (fun i _ => [⟨zints D, 1, 0, some 0, false⟩]) (fun _ => (⟨.exit 0, [(3, .int .i64 (mxI D (N + 1)))], [⟨zints D, 1, 0, some 0, false⟩]⟩ : Out)) ?_ ?_ (N) 0 (by omega)
  · intro i u_ hi hu_
    refine ⟨(), rfl, ?_⟩
    have hlt : decide ((i : Int) < (N : Nat)) = true := decide_eq_true (by omega)
    have hq : decide (((i + 1 : Nat) : Int) < (N + 1 : Nat)) = true := decide_eq_true (by omega)
    have hget := zints_get (l := D) (j := i + 1) (by omega)
    have hmm : mxI D (i + 1 + 1) = if true = true then (if D.getD (i + 1) 0 > mxI D (i + 1) then D.getD (i + 1) 0 else mxI D (i + 1)) else (if D.getD (i + 1) 0 < mxI D (i + 1) then D.getD (i + 1) 0 else mxI D (i + 1)) := by rw [if_pos rfl]; rfl
    have hadd := b_addN (a := i + 1) (b := 1) (by omega)
    unfold m90_0
    repeat' (first
      | refine ep_loadS rfl rfl rfl hget ?_
      | refine ep_mm rfl hmm ?_
      | (refine g_op ?_; first
        | refine ep_mov rfl ?_ | refine ep_load1 rfl rfl rfl rfl ?_
        | refine ep_bin rfl rfl (by first | exact hadd | exact b_add (by omega) (by omega) | exact b_sub (by omega) (by omega) | exact b_and (by omega) (by omega) | exact b_or (by omega) (by omega) | exact b_shr (by omega) | exact b_shl (by omega) (by omega) | exact b_lss | exact b_leq | exact b_gtr | exact b_geq | exact b_eql | exact b_neq) ?_
        | refine ep_lenS rfl ?_ | refine ep_lenN rfl ?_ | refine ep_lenE rfl ?_ | refine sp_idx rfl rfl rfl (by omega) rfl ?_ | refine ep_loadS rfl rfl rfl (by first | exact ints_get (by omega) | exact zints_get (by omega) | exact fget (by omega) | assumption) ?_)
      | (refine g_ops ?_; first | refine eo_none ?_ | refine eo_nil ?_)
      | (refine g_code ?_; first | refine ec_seq ?_ | refine ec_region ?_ | refine ec_block ?_ | refine ec_skip ?_ | refine ec_exit ?_ | refine ec_condT rfl ?_ | refine ec_condF rfl ?_ | refine ec_condTH rfl (by assumption) ?_ | refine ec_condFH rfl (by assumption) ?_)
      | refine ek_seqN ?_ | refine ek_seqX ?_ | refine ek_blkN ?_ | refine ek_blkR ?_ | refine ek_blkX ?_ | refine ek_blkY rfl ?_)
    exact rnd_on (by rfl) (scmp2 (by rfl) (by rfl) (by exact ⟨rfl, rfl, rfl⟩) (by rfl) (by first | rfl | (simp; done) | (simp [ints, prs]; done)) (by rfl) (by first | rfl | (simp; done) | (simp [ints, prs]; done)))
  · intro u_ hu_
    have hlt : decide (((N : Nat) : Int) < (N : Nat)) = false := decide_eq_false (by omega)
    have hq : decide (((N + 1 : Nat) : Int) < (N + 1 : Nat)) = false := decide_eq_false (by omega)
    unfold m90_0
    repeat' (first
      | (refine g_op ?_; first
        | refine ep_mov rfl ?_ | refine ep_load1 rfl rfl rfl rfl ?_
        | refine ep_bin rfl rfl (by first | exact b_add (by omega) (by omega) | exact b_sub (by omega) (by omega) | exact b_and (by omega) (by omega) | exact b_or (by omega) (by omega) | exact b_shr (by omega) | exact b_shl (by omega) (by omega) | exact b_lss | exact b_leq | exact b_gtr | exact b_geq | exact b_eql | exact b_neq) ?_
        | refine ep_lenS rfl ?_ | refine ep_lenN rfl ?_ | refine ep_lenE rfl ?_ | refine sp_idx rfl rfl rfl (by omega) rfl ?_ | refine ep_loadS rfl rfl rfl (by first | exact ints_get (by omega) | exact zints_get (by omega) | exact fget (by omega) | assumption) ?_)
      | (refine g_ops ?_; first | refine eo_none ?_ | refine eo_nil ?_)
      | (refine g_code ?_; first | refine ec_seq ?_ | refine ec_region ?_ | refine ec_block ?_ | refine ec_skip ?_ | refine ec_exit ?_ | refine ec_condT rfl ?_ | refine ec_condF rfl ?_ | refine ec_condTH rfl (by assumption) ?_ | refine ec_condFH rfl (by assumption) ?_)
      | refine ek_seqN ?_ | refine ek_seqX ?_ | refine ek_blkN ?_ | refine ek_blkR ?_ | refine ek_blkX ?_ | refine ek_blkY rfl ?_)
    exact rnd_out (by rfl) (by simp) (scmp2 (by rfl) (by rfl) (by exact ⟨rfl, rfl, rfl⟩) (by rfl) (by first | rfl | (simp; done) | (simp [ints, prs]; done)) (by rfl) (by first | rfl | (simp; done) | (simp [ints, prs]; done)))

theorem evmx (D : List Int) (N : Nat) (hN : D.length = N + 1) (hN6 : N ≤ 65536) : Ev cx 90 [.sl 0 0 (N + 1)] [⟨zints D, 1, 0, some 0, false⟩] (.int .i64 (mxI D (N + 1))) [⟨zints D, 1, 0, some 0, false⟩] := by
  have lp := lpmx D N hN hN6
  rw [show mxI D (0 + 1) = D.getD 0 0 by rw [Nat.zero_add, mxI, mxI, if_neg (by omega)], show ((0 + 1 : Nat) : Int) = 1 from rfl] at lp
  have hq : decide (((N + 1 : Nat) : Int) < 1) = false := decide_eq_false (by omega)
  have hget := zints_get (l := D) (j := 0) (by omega)
  refine has90.eev rfl rfl ?_
  unfold m90
  repeat' (first
    | refine sc_loop lp rfl rfl ⟨rfl, rfl, rfl⟩ rfl rfl rfl ?_
    | refine sp_idx (j := 0) rfl rfl rfl (by omega) rfl ?_
    | refine ep_loadS rfl rfl rfl hget ?_
    | (refine g_op ?_; first
      | refine ep_mov rfl ?_ | refine ep_load1 rfl rfl rfl rfl ?_
      | refine ep_bin rfl rfl (by first | exact b_add (by omega) (by omega) | exact b_sub (by omega) (by omega) | exact b_and (by omega) (by omega) | exact b_or (by omega) (by omega) | exact b_shr (by omega) | exact b_shl (by omega) (by omega) | exact b_lss | exact b_leq | exact b_gtr | exact b_geq | exact b_eql | exact b_neq) ?_
      | refine ep_lenS rfl ?_ | refine ep_lenN rfl ?_ | refine ep_lenE rfl ?_ | refine sp_idx rfl rfl rfl (by omega) rfl ?_ | refine ep_loadS rfl rfl rfl (by first | exact ints_get (by omega) | exact zints_get (by omega) | exact fget (by omega) | assumption) ?_)
    | (refine g_ops ?_; first | refine eo_none ?_ | refine eo_nil ?_)
    | (refine g_code ?_; first | refine ec_seq ?_ | refine ec_region ?_ | refine ec_block ?_ | refine ec_skip ?_ | refine ec_ret ?_ | refine ec_condT rfl ?_ | refine ec_condF rfl ?_ | refine ec_condTH rfl (by assumption) ?_ | refine ec_condFH rfl (by assumption) ?_)
    | refine ek_seqN ?_ | refine ek_seqX ?_ | refine ek_seqR ?_ | refine ek_blkN ?_ | refine ek_blkR ?_ | refine ek_blkX ?_ | refine ek_blkY rfl ?_)
  refine sfin (.inr rfl) (by rfl) (by rfl) (by exact ⟨rfl, rfl, rfl⟩) (by rfl) (by rfl) (by rfl) (by first | rfl | (simp; done) | (simp [ints, prs]; done))
-- 48
theorem depL_bnd (fs : List (Int × Int)) (n : Nat) (b : Nat) : (depL fs n).getD b 0 < ((R2 (R2 n) + 4 : Nat) : Int) := by
  have := genS_bnd (fs := fs) (n := n) (R2 (R2 n) + 1) 1 (D0 n n) (fun c => by have := D0_bnd n n c; omega) b
  unfold depL; omega
def dnL (fs : List (Int × Int)) (z : Int) : List Nat := if gcode fs z = 0 then cntL (depL fs z.toNat) (mlen (depL fs z.toNat) (R2 (R2 z.toNat))) (R2 (R2 z.toNat)) else []
abbrev dnC (fs : List (Int × Int)) (z : Int) : Int := gcode fs z
theorem dn_ne {fs : List (Int × Int)} {n : Nat} (hn : 1 ≤ n) : 1 ≤ mlen (depL fs n) (R2 (R2 n)) := by
  have h1 := mlen_lt (D := depL fs n) (projB_lt n 0)
  rw [depL_pj hn] at h1; omega
-- impl.DepthNumbers
def m48_0 : MC := (.seq (.region [⟨(.bin .lss (.t 33) (.t 32)), (some 34), none⟩] false) (.seq (.cond (.t 34) .skip (.exit 0)) (.seq (.block 1 (.seq (.region [⟨(.indexAddr 1 (.t 31) (.t 33)), (some 35), none⟩, ⟨(.load none (.t 35)), (some 36), none⟩, ⟨(.mov (.t 36)), (some 10), none⟩] false) (.seq (.region [⟨(.mov (.t 10)), (some 37), none⟩, ⟨(.bin .geq (.t 37) (.k (.int .i64 0))), (some 38), none⟩] false) (.cond (.t 38) (.region [⟨(.mov (.t 8)), (some 39), none⟩, ⟨(.mov (.t 10)), (some 40), none⟩, ⟨(.indexAddr 1 (.t 39) (.t 40)), (some 41), none⟩, ⟨(.load none (.t 41)), (some 42), none⟩, ⟨(.bin .add (.t 42) (.k (.int .i64 1))), (some 43), none⟩, ⟨(.indexAddr 1 (.t 39) (.t 40)), (some 44), none⟩, ⟨(.store 1 (.t 44) (.t 43)), none, none⟩] false) .skip)))) (.region [⟨(.bin .add (.t 33) (.k (.int .i64 1))), (some 45), none⟩, ⟨(.mov (.t 45)), (some 33), none⟩] false))))
def m48 : MC := (.seq (.region [⟨(.mov (.k .nils)), (some 4), none⟩, ⟨(.mov (.k (.int .i64 0))), (some 5), none⟩] false) (.seq (.seq (.region [⟨(.mov (.t 1)), (some 11), none⟩, ⟨(.mov (.t 0)), (some 12), none⟩, ⟨(.bslice 1 [.nils] 1 [(0, (1, (.t 12)))]), (some 13), none⟩, ⟨(.call 86 [(.t 11), (.t 13)]), (some 14), none⟩, ⟨(.mov (.t 14)), (some 6), none⟩] false) (.seq (.region [⟨(.mov (.t 6)), (some 15), none⟩, ⟨(.bin .neq (.t 15) (.k (.int .i64 0))), (some 16), none⟩] false) (.cond (.t 16) (.seq (.region [⟨(.mov (.t 6)), (some 17), none⟩, ⟨(.mov (.k .nils)), (some 4), none⟩, ⟨(.mov (.t 17)), (some 5), none⟩] false) .ret) .skip))) (.seq (.region [⟨(.mov (.t 0)), (some 18), none⟩, ⟨(.mov (.t 1)), (some 19), none⟩, ⟨(.call 88 [(.t 18), (.t 19)]), (some 20), none⟩, ⟨(.mov (.t 20)), (some 7), none⟩] false) (.seq (.region [⟨(.mov (.t 7)), (some 21), none⟩, ⟨(.nilck (.t 21)), (some 22), none⟩, ⟨(.fieldAddr 2 (.t 22)), (some 23), none⟩, ⟨(.load none (.t 23)), (some 24), none⟩, ⟨(.call 90 [(.t 24)]), (some 25), none⟩, ⟨(.bin .add (.t 25) (.k (.int .i64 1))), (some 26), none⟩, ⟨(.make 1 8 [(.int .i64 0)] (.t 26)), (some 27), none⟩, ⟨(.mov (.t 27)), (some 8), none⟩] false) (.seq (.seq (.region [⟨(.mov (.t 7)), (some 28), none⟩, ⟨(.nilck (.t 28)), (some 29), none⟩, ⟨(.fieldAddr 2 (.t 29)), (some 30), none⟩, ⟨(.load none (.t 30)), (some 31), none⟩, ⟨(.len (.t 31)), (some 32), none⟩, ⟨(.mov (.k (.int .i64 0))), (some 33), none⟩] false) (.block 0 (.loop m48_0))) (.seq (.region [⟨(.mov (.t 8)), (some 46), none⟩, ⟨(.mov (.t 46)), (some 4), none⟩, ⟨(.mov (.k (.int .i64 0))), (some 5), none⟩] false) .ret))))))
theorem has48 : Has cx 48 47 m48 [(.tmp 4), (.tmp 5)] :=
  ⟨⟨Try.f48, Try.f48.body.getD .skip, by kernel_rfl, by kernel_rfl, by kernel_rfl, by kernel_rfl, by kernel_rfl, by kernel_rfl⟩⟩
theorem lpdni (N M : Nat) (fs : List (Int × Int)) (D : List Int) (hN : D.length = N) (hM : M = mlen D N) (hN6 : N ≤ 65536) (hM6 : M ≤ 70000) :
    LpS cx 47 1 m48_0 [(8, .sl 1 0 M), (31, .sl 2 0 N), (32, .int .i64 (N : Nat)), (33, .int .i64 (0 : Nat))] [⟨fns fs, 2, 0, some 0, false⟩, ⟨ints (cntL D M (0)), 1, 1, some 0, false⟩, ⟨zints D, 1, 2, some 0, false⟩] (⟨.exit 0, [(8, .sl 1 0 M)], [⟨fns fs, 2, 0, some 0, false⟩, ⟨ints (cntL D M (N)), 1, 1, some 0, false⟩]⟩ : Out).x (⟨.exit 0, [(8, .sl 1 0 M)], [⟨fns fs, 2, 0, some 0, false⟩, ⟨ints (cntL D M (N)), 1, 1, some 0, false⟩]⟩ : Out).e (⟨.exit 0, [(8, .sl 1 0 M)], [⟨fns fs, 2, 0, some 0, false⟩, ⟨ints (cntL D M (N)), 1, 1, some 0, false⟩]⟩ : Out).h := by
  refine lp_st (N) (fun _ => ()) (fun i _ => [(8, .sl 1 0 M), (31, .sl 2 0 N), (32, .int .i64 (N : Nat)), (33, .int .i64 (i : Nat))]) (fun i _ => [⟨fns fs, 2, 0, some 0, false⟩, ⟨ints (cntL D M (i)), 1, 1, some 0, false⟩, ⟨zints D, 1, 2, some 0, false⟩]) (fun _ => (⟨.exit 0, [(8, .sl 1 0 M)], [⟨fns fs, 2, 0, some 0, false⟩, ⟨ints (cntL D M (N)), 1, 1, some 0, false⟩]⟩ : Out)) ?_ ?_ (N) 0 (by omega)
  · intro i u_ hi hu_
    refine ⟨(), rfl, ?_⟩
    have hlt : decide ((i : Int) < (N : Nat)) = true := decide_eq_true (by omega)
    have hget := zints_get (l := D) (j := i) (by omega)
    have hlt2 := mlen_lt (D := D) hi
    rw [← hM] at hlt2
    rcases Int.lt_or_le (D.getD i 0) 0 with hd | hd
    · have hq : decide (D.getD i 0 ≥ 0) = false := decide_eq_false (by omega)
      rw [cntL_neg hd]
      have hg2 := hget
      have hset := hget
      have hadd := hget
      unfold m48_0
      repeat' (first
        | refine ep_loadS rfl rfl rfl hget ?_
        | refine ep_loadS rfl rfl rfl hg2 ?_
        | refine sp_storeS rfl rfl rfl rfl rfl rfl rfl (Nat.zero_le _) (by omega) hset rfl ?_
        | (refine g_op ?_; first
          | refine ep_mov rfl ?_ | refine ep_load1 rfl rfl rfl rfl ?_
          | refine ep_bin rfl rfl (by first | exact hadd | exact b_add (by omega) (by omega) | exact b_sub (by omega) (by omega) | exact b_and (by omega) (by omega) | exact b_or (by omega) (by omega) | exact b_shr (by omega) | exact b_shl (by omega) (by omega) | exact b_lss | exact b_leq | exact b_gtr | exact b_geq | exact b_eql | exact b_neq) ?_
          | refine sp_store rfl rfl rfl rfl rfl rfl rfl rfl rfl rfl ?_ | refine sp_idx rfl rfl rfl (by omega) rfl ?_ | refine ep_loadS rfl rfl rfl (by first | exact ints_get (by omega) | exact zints_get (by omega) | exact fget (by omega) | assumption) ?_)
        | (refine g_ops ?_; first | refine eo_none ?_ | refine eo_nil ?_)
        | (refine g_code ?_; first | refine ec_seq ?_ | refine ec_region ?_ | refine ec_block ?_ | refine ec_skip ?_ | refine ec_exit ?_ | refine ec_condT rfl ?_ | refine ec_condF rfl ?_ | refine ec_condTH rfl (by assumption) ?_ | refine ec_condFH rfl (by assumption) ?_)
        | refine ek_seqN ?_ | refine ek_seqX ?_ | refine ek_blkN ?_ | refine ek_blkR ?_ | refine ek_blkX ?_ | refine ek_blkY rfl ?_)
      exact rnd_on (by rfl) (scmp2 (by rfl) (by rfl) (by exact ⟨rfl, rfl, rfl⟩) (by rfl) (by first | rfl | (simp; done) | (simp [ints, prs]; done)) (by rfl) (by first | rfl | (simp; done) | (simp [ints, prs]; done)))
    · obtain ⟨d, hd2⟩ := Int.eq_ofNat_of_zero_le hd
      rw [hd2] at hget hlt2
      have hq : decide (((d : Nat) : Int) ≥ 0) = true := decide_eq_true (by omega)
      have hl := cntL_len D M i
      have hil := ints_len (cntL D M i)
      have hg2 := ints_get (l := cntL D M i) (j := d) (by omega)
      rw [cntL_at (by omega)] at hg2
      have hset := ints_set (l := cntL D M i) (b := d) (d := cn D d i + 1) (by omega)
      rw [cntL_set hd2 (by omega)] at hset
      have hc := cn_le D d i
      have hadd := b_addN (a := cn D d i) (b := 1) (by omega)
      unfold m48_0
      repeat' (first
        | refine ep_loadS rfl rfl rfl hget ?_
        | refine ep_loadS rfl rfl rfl hg2 ?_
        | refine sp_storeS rfl rfl rfl rfl rfl rfl rfl (Nat.zero_le _) (by omega) hset rfl ?_
        | (refine g_op ?_; first
          | refine ep_mov rfl ?_ | refine ep_load1 rfl rfl rfl rfl ?_
          | refine ep_bin rfl rfl (by first | exact hadd | exact b_add (by omega) (by omega) | exact b_sub (by omega) (by omega) | exact b_and (by omega) (by omega) | exact b_or (by omega) (by omega) | exact b_shr (by omega) | exact b_shl (by omega) (by omega) | exact b_lss | exact b_leq | exact b_gtr | exact b_geq | exact b_eql | exact b_neq) ?_
          | refine sp_store rfl rfl rfl rfl rfl rfl rfl rfl rfl rfl ?_ | refine sp_idx rfl rfl rfl (by omega) rfl ?_ | refine ep_loadS rfl rfl rfl (by first | exact ints_get (by omega) | exact zints_get (by omega) | exact fget (by omega) | assumption) ?_)
        | (refine g_ops ?_; first | refine eo_none ?_ | refine eo_nil ?_)
        | (refine g_code ?_; first | refine ec_seq ?_ | refine ec_region ?_ | refine ec_block ?_ | refine ec_skip ?_ | refine ec_exit ?_ | refine ec_condT rfl ?_ | refine ec_condF rfl ?_ | refine ec_condTH rfl (by assumption) ?_ | refine ec_condFH rfl (by assumption) ?_)
        | refine ek_seqN ?_ | refine ek_seqX ?_ | refine ek_blkN ?_ | refine ek_blkR ?_ | refine ek_blkX ?_ | refine ek_blkY rfl ?_)
      exact rnd_on (by rfl) (scmp2 (by rfl) (by rfl) (by exact ⟨rfl, rfl, rfl⟩) (by rfl) (by first | rfl | (simp; done) | (simp [ints, prs]; done)) (by rfl) (by first | rfl | (simp; done) | (simp [ints, prs]; done)))
  · intro u_ hu_
    have hlt : decide (((N : Nat) : Int) < (N : Nat)) = false := decide_eq_false (by omega)
    unfold m48_0
    repeat' (first
      | (refine g_op ?_; first
        | refine ep_mov rfl ?_ | refine ep_load1 rfl rfl rfl rfl ?_
        | refine ep_bin rfl rfl (by first | exact b_add (by omega) (by omega) | exact b_sub (by omega) (by omega) | exact b_and (by omega) (by omega) | exact b_or (by omega) (by omega) | exact b_shr (by omega) | exact b_shl (by omega) (by omega) | exact b_lss | exact b_leq | exact b_gtr | exact b_geq | exact b_eql | exact b_neq) ?_
        | refine sp_store rfl rfl rfl rfl rfl rfl rfl rfl rfl rfl ?_ | refine sp_idx rfl rfl rfl (by omega) rfl ?_ | refine ep_loadS rfl rfl rfl (by first | exact ints_get (by omega) | exact zints_get (by omega) | exact fget (by omega) | assumption) ?_)
      | (refine g_ops ?_; first | refine eo_none ?_ | refine eo_nil ?_)
      | (refine g_code ?_; first | refine ec_seq ?_ | refine ec_region ?_ | refine ec_block ?_ | refine ec_skip ?_ | refine ec_exit ?_ | refine ec_condT rfl ?_ | refine ec_condF rfl ?_ | refine ec_condTH rfl (by assumption) ?_ | refine ec_condFH rfl (by assumption) ?_)
      | refine ek_seqN ?_ | refine ek_seqX ?_ | refine ek_blkN ?_ | refine ek_blkR ?_ | refine ek_blkX ?_ | refine ek_blkY rfl ?_)
    exact rnd_out (by rfl) (by simp) (scmp2 (by rfl) (by rfl) (by exact ⟨rfl, rfl, rfl⟩) (by rfl) (by first | rfl | (simp; done) | (simp [ints, prs]; done)) (by rfl) (by first | rfl | (simp; done) | (simp [ints, prs]; done)))

theorem ev48 (fs : List (Int × Int)) (z : Int) (hln : fs.length ≤ 1048576) : Ev cx 48 [.sl 0 0 fs.length, .int .i64 z] [⟨fns fs, 2, 0, some 0, false⟩] (.tup [slV .nils 1 (dnL fs z), .int .i64 (dnC fs z)]) (⟨fns fs, 2, 0, some 0, false⟩ :: slH 1 1 ints (dnL fs z)) := by
  have e1 := ev86_1 fs z hln
  by_cases h0 : gcode fs z = 0
  · obtain ⟨ha, hl, hz1, hz2⟩ := gcode_0 h0
    obtain ⟨n, rfl⟩ := Int.eq_ofNat_of_zero_le (show (0 : Int) ≤ z by omega)
    obtain ⟨h1, h2, h3, h4⟩ := shN (n := n) (by omega)
    have hL : dnL fs (n : Nat) = cntL (depL fs n) (mlen (depL fs n) (R2 (R2 n))) (R2 (R2 n)) := if_pos h0
    have e2 := ev88 n fs (by omega) (by omega) ha hln
    have hM := mlen_le (D := depL fs n) (depL_bnd fs n) (R2 (R2 n))
    have hM1 := dn_ne (fs := fs) (n := n) (by omega)
    have lp := lpdni (R2 (R2 n)) (mlen (depL fs n) (R2 (R2 n))) fs (depL fs n) (depL_len fs n) rfl (by omega) (by omega)
    rw [cntL_z] at lp
    have hz : ints (List.replicate (mlen (depL fs n) (R2 (R2 n))) 0) = (List.replicate (mlen (depL fs n) (R2 (R2 n))) [V.int .i64 0]).flatten := go_flat _
    obtain ⟨N', hN'⟩ : ∃ N', R2 (R2 n) = N' + 1 := ⟨R2 (R2 n) - 1, by omega⟩
    have e3 := evmx (depL fs n) N' (by rw [depL_len]; exact hN') (by omega)
    have hmx := mxI_mlen (D := depL fs n) N'
    rw [← hN'] at e3 hmx
    have hmx2 : mxI (depL fs n) (R2 (R2 n)) + 1 = (mlen (depL fs n) (R2 (R2 n)) : Nat) := by omega
    have hadd : binV .add (.int .i64 (mxI (depL fs n) (R2 (R2 n)))) (.int .i64 1) = some (.int .i64 (mlen (depL fs n) (R2 (R2 n)) : Nat)) := by rw [b_add (by omega) (by omega), hmx2]
    rw [show dnC fs (n : Nat) = 0 from h0]
    rw [h0] at e1
    rw [hL]
    have hlen := cntL_len (depL fs n) (mlen (depL fs n) (R2 (R2 n))) (R2 (R2 n))
    generalize mlen (depL fs n) (R2 (R2 n)) = M at *
    cases hs : cntL (depL fs n) M (R2 (R2 n)) with
    | nil => rw [hs] at hlen; simp at hlen; omega
    | cons x xs =>
      rw [hs] at lp hlen
      subst hlen
      refine has48.eev rfl rfl ?_
      unfold m48
      repeat' (first
        | refine sc_loop lp rfl rfl ⟨rfl, rfl, rfl⟩ rfl rfl rfl ?_
        | refine sp_make (mm := (x :: xs).length) (l := ints (List.replicate (x :: xs).length 0)) rfl rfl (by omega) hz rfl rfl ?_
        | (refine g_op ?_; first
          | refine ep_mov rfl ?_ | refine ep_load1 rfl rfl rfl rfl ?_ | refine ep_fieldAddr rfl ?_
          | refine ep_call0 rfl (by first | exact e1 | exact e2 | exact e3) rfl rfl ?_
          | refine sp_call rfl rfl rfl rfl (by first | exact e1 | exact e2 | exact e3) ⟨rfl, rfl, rfl, rfl⟩ rfl rfl rfl ?_
          | refine ep_bin rfl rfl (by first | exact hadd | exact b_add (by omega) (by omega) | exact b_sub (by omega) (by omega) | exact b_and (by omega) (by omega) | exact b_or (by omega) (by omega) | exact b_shr (by omega) | exact b_shl (by omega) (by omega) | exact b_lss | exact b_leq | exact b_gtr | exact b_geq | exact b_eql | exact b_neq) ?_
          | refine ep_lenS rfl ?_ | refine ep_lenN rfl ?_ | refine ep_lenE rfl ?_ | refine sp_bslice rfl rfl rfl rfl rfl ?_ | refine ep_nilckP rfl ?_ | refine ep_nilckF rfl ?_)
        | (refine g_ops ?_; first | refine eo_none ?_ | refine eo_nil ?_)
        | (refine g_code ?_; first | refine ec_seq ?_ | refine ec_region ?_ | refine ec_block ?_ | refine ec_skip ?_ | refine ec_ret ?_ | refine ec_condT rfl ?_ | refine ec_condF rfl ?_ | refine ec_condTH rfl (by assumption) ?_ | refine ec_condFH rfl (by assumption) ?_)
        | refine ek_seqN ?_ | refine ek_seqX ?_ | refine ek_seqR ?_ | refine ek_blkN ?_ | refine ek_blkR ?_ | refine ek_blkX ?_ | refine ek_blkY rfl ?_)
      refine sfin (.inr rfl) (by rfl) (by rfl) (by exact ⟨rfl, rfl, rfl⟩) (by rfl) (by rfl) (by rfl) (by first | rfl | (simp; done) | (simp [ints, prs]; done))
  · have hL : dnL fs z = [] := if_neg h0
    have hq2 : (gcode fs z != 0) = true := by simpa using h0
    rw [hL]
    refine has48.eev rfl rfl ?_
    unfold m48
    repeat' (first
      | (refine g_op ?_; first
        | refine ep_mov rfl ?_ | refine ep_load1 rfl rfl rfl rfl ?_ | refine ep_fieldAddr rfl ?_
        | refine ep_call0 rfl (by first | exact e1) rfl rfl ?_
        | refine sp_call rfl rfl rfl rfl (by first | exact e1) ⟨rfl, rfl, rfl, rfl⟩ rfl rfl rfl ?_
        | refine ep_bin rfl rfl (by first | exact b_add (by omega) (by omega) | exact b_sub (by omega) (by omega) | exact b_and (by omega) (by omega) | exact b_or (by omega) (by omega) | exact b_shr (by omega) | exact b_shl (by omega) (by omega) | exact b_lss | exact b_leq | exact b_gtr | exact b_geq | exact b_eql | exact b_neq) ?_
        | refine ep_lenS rfl ?_ | refine ep_lenN rfl ?_ | refine ep_lenE rfl ?_ | refine sp_bslice rfl rfl rfl rfl rfl ?_ | refine ep_nilckP rfl ?_ | refine ep_nilckF rfl ?_)
      | (refine g_ops ?_; first | refine eo_none ?_ | refine eo_nil ?_)
      | (refine g_code ?_; first | refine ec_seq ?_ | refine ec_region ?_ | refine ec_block ?_ | refine ec_skip ?_ | refine ec_ret ?_ | refine ec_condT rfl ?_ | refine ec_condF rfl ?_ | refine ec_condTH rfl (by assumption) ?_ | refine ec_condFH rfl (by assumption) ?_)
      | refine ek_seqN ?_ | refine ek_seqX ?_ | refine ek_seqR ?_ | refine ek_blkN ?_ | refine ek_blkR ?_ | refine ek_blkX ?_ | refine ek_blkY rfl ?_)
    refine sfin (.inr rfl) (by rfl) (by rfl) (by exact ⟨rfl, rfl, rfl⟩) (by rfl) (by rfl) (by rfl) (by first | rfl | (simp; done) | (simp [ints, prs]; done))
-- spec.DepthNumbers
def m47_1 : MC := (.seq (.seq (.region [⟨(.mov (.t 7)), (some 26), none⟩, ⟨(.mov (.t 9)), (some 27), none⟩, ⟨(.indexAddr 1 (.t 26) (.t 27)), (some 28), none⟩, ⟨(.load none (.t 28)), (some 29), none⟩, ⟨(.mov (.t 8)), (some 30), none⟩, ⟨(.len (.t 30)), (some 31), none⟩, ⟨(.bin .geq (.t 29) (.t 31)), (some 32), none⟩] false) (.cond (.t 32) .skip (.exit 2))) (.block 3 (.region [⟨(.mov (.t 8)), (some 33), none⟩, ⟨(.bslice 1 [(.int .i64 0)] 1 [(0, (1, (.k (.int .i64 0))))]), (some 34), none⟩, ⟨(.append 1 8 (.t 33) (.t 34)), (some 35), none⟩, ⟨(.mov (.t 35)), (some 8), none⟩] false)))
def m47_0 : MC := (.seq (.seq (.region [⟨(.mov (.t 9)), (some 20), none⟩, ⟨(.mov (.t 7)), (some 21), none⟩, ⟨(.len (.t 21)), (some 22), none⟩, ⟨(.bin .lss (.t 20) (.t 22)), (some 23), none⟩] false) (.cond (.t 23) .skip (.exit 0))) (.seq (.block 1 (.seq (.block 2 (.loop m47_1)) (.seq (.region [⟨(.mov (.t 7)), (some 36), none⟩, ⟨(.mov (.t 9)), (some 37), none⟩, ⟨(.indexAddr 1 (.t 36) (.t 37)), (some 38), none⟩, ⟨(.load none (.t 38)), (some 39), none⟩, ⟨(.bin .geq (.t 39) (.k (.int .i64 0))), (some 40), none⟩] false) (.cond (.t 40) (.region [⟨(.mov (.t 8)), (some 41), none⟩, ⟨(.mov (.t 7)), (some 42), none⟩, ⟨(.mov (.t 9)), (some 43), none⟩, ⟨(.indexAddr 1 (.t 42) (.t 43)), (some 44), none⟩, ⟨(.load none (.t 44)), (some 45), none⟩, ⟨(.indexAddr 1 (.t 41) (.t 45)), (some 46), none⟩, ⟨(.load none (.t 46)), (some 47), none⟩, ⟨(.bin .add (.t 47) (.k (.int .i64 1))), (some 48), none⟩, ⟨(.indexAddr 1 (.t 41) (.t 45)), (some 49), none⟩, ⟨(.store 1 (.t 49) (.t 48)), none, none⟩] false) .skip)))) (.region [⟨(.mov (.t 9)), (some 24), none⟩, ⟨(.bin .add (.t 24) (.k (.int .i64 1))), (some 25), none⟩, ⟨(.mov (.t 25)), (some 9), none⟩] false)))
def m47 : MC := (.seq (.region [⟨(.mov (.k .nils)), (some 4), none⟩, ⟨(.mov (.k (.int .i64 0))), (some 5), none⟩] false) (.seq (.seq (.region [⟨(.mov (.t 0)), (some 10), none⟩, ⟨(.mov (.t 1)), (some 11), none⟩, ⟨(.call 81 [(.t 10), (.t 11)]), (some 12), none⟩, ⟨(.mov (.t 12)), (some 6), none⟩] false) (.seq (.region [⟨(.mov (.t 6)), (some 13), none⟩, ⟨(.bin .neq (.t 13) (.k (.int .i64 0))), (some 14), none⟩] false) (.cond (.t 14) (.seq (.region [⟨(.mov (.t 6)), (some 15), none⟩, ⟨(.mov (.k .nils)), (some 4), none⟩, ⟨(.mov (.t 15)), (some 5), none⟩] false) .ret) .skip))) (.seq (.region [⟨(.mov (.t 0)), (some 16), none⟩, ⟨(.mov (.t 1)), (some 17), none⟩, ⟨(.call 83 [(.t 16), (.t 17)]), (some 18), none⟩, ⟨.empt, (some 19), none⟩, ⟨(.mov (.t 18)), (some 7), none⟩, ⟨(.mov (.t 19)), (some 8), none⟩] false) (.seq (.seq (.region [⟨(.mov (.k (.int .i64 0))), (some 9), none⟩] false) (.block 0 (.loop m47_0))) (.seq (.region [⟨(.mov (.t 8)), (some 50), none⟩, ⟨(.mov (.t 50)), (some 4), none⟩, ⟨(.mov (.k (.int .i64 0))), (some 5), none⟩] false) .ret)))))
theorem has47 : Has cx 47 51 m47 [(.tmp 4), (.tmp 5)] :=
  ⟨⟨Try.f47, Try.f47.body.getD .skip, by kernel_rfl, by kernel_rfl, by kernel_rfl, by kernel_rfl, by kernel_rfl, by kernel_rfl⟩⟩
theorem lpdn1a (N i m k : Nat) (fs : List (Int × Int)) (D : List Int) (hN : D.length = N) (hi : i < N) (hk : max m (D.getD i 0 + 1).toNat = m + k) (hlt : ∀ j, j < i → D.getD j 0 < (m : Int)) (hm6 : m + k ≤ 70000) (s0 : List Nat) (hs0 : cntL D m i = s0) (o : Out) (ho : (match cntL D (m + k) i with | [] => (⟨.exit 2, [(7, .sl 1 0 N), (8, .emp), (9, .int .i64 (i : Nat))], [⟨fns fs, 2, 0, some 0, false⟩, ⟨zints D, 1, 1, some 0, false⟩]⟩ : Out) | x :: xs => (⟨.exit 2, [(7, .sl 1 0 N), (8, .sl 2 0 (x :: xs).length), (9, .int .i64 (i : Nat))], [⟨fns fs, 2, 0, some 0, false⟩, ⟨zints D, 1, 1, some 0, false⟩, ⟨ints (x :: xs), 1, 2, some 0, false⟩]⟩ : Out)) = o) :
    LpS cx 51 1 m47_1 (match (generalizing := false) s0 with | [] => [(7, .sl 1 0 N), (8, .emp), (9, .int .i64 (i : Nat))] | x :: xs => [(7, .sl 1 0 N), (8, .sl 2 0 (x :: xs).length), (9, .int .i64 (i : Nat))]) (match (generalizing := false) s0 with | [] => [⟨fns fs, 2, 0, some 0, false⟩, ⟨zints D, 1, 1, some 0, false⟩] | x :: xs => [⟨fns fs, 2, 0, some 0, false⟩, ⟨zints D, 1, 1, some 0, false⟩, ⟨ints (x :: xs), 1, 2, some 0, false⟩]) o.x o.e o.h := by
  subst ho hs0
  have hget := zints_get (l := D) (j := i) (by omega)
  suffices key : LpS cx 51 1 m47_1 ((fun (q : Nat) (s : List Nat) => match s with | [] => [(7, .sl 1 0 N), (8, .emp), (9, .int .i64 (i : Nat))] | x :: xs => [(7, .sl 1 0 N), (8, .sl 2 0 (x :: xs).length), (9, .int .i64 (i : Nat))]) 0 ((fun q => cntL D (m + q) i) 0)) ((fun (q : Nat) (s : List Nat) => match s with | [] => [⟨fns fs, 2, 0, some 0, false⟩, ⟨zints D, 1, 1, some 0, false⟩] | x :: xs => [⟨fns fs, 2, 0, some 0, false⟩, ⟨zints D, 1, 1, some 0, false⟩, ⟨ints (x :: xs), 1, 2, some 0, false⟩]) 0 ((fun q => cntL D (m + q) i) 0)) ((fun s => match s with | [] => (⟨.exit 2, [(7, .sl 1 0 N), (8, .emp), (9, .int .i64 (i : Nat))], [⟨fns fs, 2, 0, some 0, false⟩, ⟨zints D, 1, 1, some 0, false⟩]⟩ : Out) | x :: xs => (⟨.exit 2, [(7, .sl 1 0 N), (8, .sl 2 0 (x :: xs).length), (9, .int .i64 (i : Nat))], [⟨fns fs, 2, 0, some 0, false⟩, ⟨zints D, 1, 1, some 0, false⟩, ⟨ints (x :: xs), 1, 2, some 0, false⟩]⟩ : Out)) ((fun q => cntL D (m + q) i) k)).x ((fun s => match s with | [] => (⟨.exit 2, [(7, .sl 1 0 N), (8, .emp), (9, .int .i64 (i : Nat))], [⟨fns fs, 2, 0, some 0, false⟩, ⟨zints D, 1, 1, some 0, false⟩]⟩ : Out) | x :: xs => (⟨.exit 2, [(7, .sl 1 0 N), (8, .sl 2 0 (x :: xs).length), (9, .int .i64 (i : Nat))], [⟨fns fs, 2, 0, some 0, false⟩, ⟨zints D, 1, 1, some 0, false⟩, ⟨ints (x :: xs), 1, 2, some 0, false⟩]⟩ : Out)) ((fun q => cntL D (m + q) i) k)).e ((fun s => match s with | [] => (⟨.exit 2, [(7, .sl 1 0 N), (8, .emp), (9, .int .i64 (i : Nat))], [⟨fns fs, 2, 0, some 0, false⟩, ⟨zints D, 1, 1, some 0, false⟩]⟩ : Out) | x :: xs => (⟨.exit 2, [(7, .sl 1 0 N), (8, .sl 2 0 (x :: xs).length), (9, .int .i64 (i : Nat))], [⟨fns fs, 2, 0, some 0, false⟩, ⟨zints D, 1, 1, some 0, false⟩, ⟨ints (x :: xs), 1, 2, some 0, false⟩]⟩ : Out)) ((fun q => cntL D (m + q) i) k)).h by
    dsimp only [Nat.add_zero] at key
    cases hc : cntL D m i <;> rw [hc] at key <;> exact key
  refine lp_st (k) (fun q => cntL D (m + q) i) (fun q s => match s with | [] => [(7, .sl 1 0 N), (8, .emp), (9, .int .i64 (i : Nat))] | x :: xs => [(7, .sl 1 0 N), (8, .sl 2 0 (x :: xs).length), (9, .int .i64 (i : Nat))]) (fun q s => match s with | [] => [⟨fns fs, 2, 0, some 0, false⟩, ⟨zints D, 1, 1, some 0, false⟩] | x :: xs => [⟨fns fs, 2, 0, some 0, false⟩, ⟨zints D, 1, 1, some 0, false⟩, ⟨ints (x :: xs), 1, 2, some 0, false⟩]) (fun s => match s with | [] => (⟨.exit 2, [(7, .sl 1 0 N), (8, .emp), (9, .int .i64 (i : Nat))], [⟨fns fs, 2, 0, some 0, false⟩, ⟨zints D, 1, 1, some 0, false⟩]⟩ : Out) | x :: xs => (⟨.exit 2, [(7, .sl 1 0 N), (8, .sl 2 0 (x :: xs).length), (9, .int .i64 (i : Nat))], [⟨fns fs, 2, 0, some 0, false⟩, ⟨zints D, 1, 1, some 0, false⟩, ⟨ints (x :: xs), 1, 2, some 0, false⟩]⟩ : Out)) ?_ ?_ (k) 0 (by omega)
  · intro q s hq hs
    have hlen := cntL_len D (m + q) i
    rw [hs] at hlen
    have hsn := cntL_snoc (D := D) (m := m + q) (i := i) (fun j hj => by have := hlt j hj; omega)
    rw [hs] at hsn
    cases s with
    | nil =>
      refine ⟨[0], hsn, ?_⟩
      have hc : decide (D.getD i 0 ≥ 0) = true := decide_eq_true (by simp at hlen; omega)
      unfold m47_1
      repeat' (first
        | refine ep_loadS rfl rfl rfl hget ?_
        | (refine g_op ?_; first
          | refine ep_mov rfl ?_ | refine ep_load1 rfl rfl rfl rfl ?_
          | refine ep_bin rfl rfl (by first | exact b_add (by omega) (by omega) | exact b_sub (by omega) (by omega) | exact b_and (by omega) (by omega) | exact b_or (by omega) (by omega) | exact b_shr (by omega) | exact b_shl (by omega) (by omega) | exact b_lss | exact b_leq | exact b_gtr | exact b_geq | exact b_eql | exact b_neq) ?_
          | refine ep_lenS rfl ?_ | refine ep_lenN rfl ?_ | refine ep_lenE rfl ?_ | refine sp_bslice rfl rfl rfl rfl rfl ?_ | refine sp_push0 rfl (by first | exact .inl rfl | exact .inr rfl) rfl rfl rfl rfl rfl (by decide) rfl rfl rfl ?_
          | refine sp_push rfl rfl rfl rfl rfl rfl rfl (by first | exact ints_len _ | exact prs_len _ _ | exact zints_len _) (by omega) (Nat.zero_le _) rfl rfl rfl rfl rfl ?_ | refine sp_idx rfl rfl rfl (by omega) rfl ?_
          | refine ep_loadS rfl rfl rfl (by first | exact ints_get (by omega) | exact zints_get (by omega) | exact fget (by omega) | assumption) ?_)
        | (refine g_ops ?_; first | refine eo_none ?_ | refine eo_nil ?_)
        | (refine g_code ?_; first | refine ec_seq ?_ | refine ec_region ?_ | refine ec_block ?_ | refine ec_skip ?_ | refine ec_exit ?_ | refine ec_condT rfl ?_ | refine ec_condF rfl ?_ | refine ec_condTH rfl (by assumption) ?_ | refine ec_condFH rfl (by assumption) ?_)
        | refine ek_seqN ?_ | refine ek_seqX ?_ | refine ek_blkN ?_ | refine ek_blkR ?_ | refine ek_blkX ?_ | refine ek_blkY rfl ?_)
      exact rnd_on (by rfl) (scmp2 (by rfl) (by rfl) (by exact ⟨rfl, rfl, rfl⟩) (by rfl) (by first | rfl | (simp; done) | (simp [ints, prs]; done)) (by rfl) (by first | rfl | (simp; done) | (simp [ints, prs]; done)))
    | cons x xs =>
      refine ⟨(x :: xs) ++ [0], hsn, ?_⟩
      have hc : decide (D.getD i 0 ≥ ((x :: xs).length : Nat)) = true := decide_eq_true (by omega)
      unfold m47_1
      repeat' (first
        | refine ep_loadS rfl rfl rfl hget ?_
        | (refine g_op ?_; first
          | refine ep_mov rfl ?_ | refine ep_load1 rfl rfl rfl rfl ?_
          | refine ep_bin rfl rfl (by first | exact b_add (by omega) (by omega) | exact b_sub (by omega) (by omega) | exact b_and (by omega) (by omega) | exact b_or (by omega) (by omega) | exact b_shr (by omega) | exact b_shl (by omega) (by omega) | exact b_lss | exact b_leq | exact b_gtr | exact b_geq | exact b_eql | exact b_neq) ?_
          | refine ep_lenS rfl ?_ | refine ep_lenN rfl ?_ | refine ep_lenE rfl ?_ | refine sp_bslice rfl rfl rfl rfl rfl ?_ | refine sp_push0 rfl (by first | exact .inl rfl | exact .inr rfl) rfl rfl rfl rfl rfl (by decide) rfl rfl rfl ?_
          | refine sp_push rfl rfl rfl rfl rfl rfl rfl (by first | exact ints_len _ | exact prs_len _ _ | exact zints_len _) (by omega) (Nat.zero_le _) rfl rfl rfl rfl rfl ?_ | refine sp_idx rfl rfl rfl (by omega) rfl ?_
          | refine ep_loadS rfl rfl rfl (by first | exact ints_get (by omega) | exact zints_get (by omega) | exact fget (by omega) | assumption) ?_)
        | (refine g_ops ?_; first | refine eo_none ?_ | refine eo_nil ?_)
        | (refine g_code ?_; first | refine ec_seq ?_ | refine ec_region ?_ | refine ec_block ?_ | refine ec_skip ?_ | refine ec_exit ?_ | refine ec_condT rfl ?_ | refine ec_condF rfl ?_ | refine ec_condTH rfl (by assumption) ?_ | refine ec_condFH rfl (by assumption) ?_)
        | refine ek_seqN ?_ | refine ek_seqX ?_ | refine ek_blkN ?_ | refine ek_blkR ?_ | refine ek_blkX ?_ | refine ek_blkY rfl ?_)
      exact rnd_on (by rfl) (scmp2 (by rfl) (by rfl) (by exact ⟨rfl, rfl, rfl⟩) (by rfl) (by first | rfl | (simp; done) | (simp [ints, prs]; done)) (by rfl) (by first | rfl | (simp; done) | (simp [ints, prs]; done)))
  · intro s hs
    have hlen := cntL_len D (m + k) i
    rw [hs] at hlen
    cases s with
    | nil =>
      have hc : decide (D.getD i 0 ≥ 0) = false := decide_eq_false (by simp at hlen; omega)
      unfold m47_1
      repeat' (first
        | refine ep_loadS rfl rfl rfl hget ?_
        | (refine g_op ?_; first
          | refine ep_mov rfl ?_ | refine ep_load1 rfl rfl rfl rfl ?_
          | refine ep_bin rfl rfl (by first | exact b_add (by omega) (by omega) | exact b_sub (by omega) (by omega) | exact b_and (by omega) (by omega) | exact b_or (by omega) (by omega) | exact b_shr (by omega) | exact b_shl (by omega) (by omega) | exact b_lss | exact b_leq | exact b_gtr | exact b_geq | exact b_eql | exact b_neq) ?_
          | refine ep_lenS rfl ?_ | refine ep_lenN rfl ?_ | refine ep_lenE rfl ?_ | refine sp_bslice rfl rfl rfl rfl rfl ?_ | refine sp_push0 rfl (by first | exact .inl rfl | exact .inr rfl) rfl rfl rfl rfl rfl (by decide) rfl rfl rfl ?_
          | refine sp_push rfl rfl rfl rfl rfl rfl rfl (by first | exact ints_len _ | exact prs_len _ _ | exact zints_len _) (by omega) (Nat.zero_le _) rfl rfl rfl rfl rfl ?_ | refine sp_idx rfl rfl rfl (by omega) rfl ?_
          | refine ep_loadS rfl rfl rfl (by first | exact ints_get (by omega) | exact zints_get (by omega) | exact fget (by omega) | assumption) ?_)
        | (refine g_ops ?_; first | refine eo_none ?_ | refine eo_nil ?_)
        | (refine g_code ?_; first | refine ec_seq ?_ | refine ec_region ?_ | refine ec_block ?_ | refine ec_skip ?_ | refine ec_exit ?_ | refine ec_condT rfl ?_ | refine ec_condF rfl ?_ | refine ec_condTH rfl (by assumption) ?_ | refine ec_condFH rfl (by assumption) ?_)
        | refine ek_seqN ?_ | refine ek_seqX ?_ | refine ek_blkN ?_ | refine ek_blkR ?_ | refine ek_blkX ?_ | refine ek_blkY rfl ?_)
      exact rnd_out (by rfl) (by simp) (scmp2 (by rfl) (by rfl) (by exact ⟨rfl, rfl, rfl⟩) (by rfl) (by first | rfl | (simp; done) | (simp [ints, prs]; done)) (by rfl) (by first | rfl | (simp; done) | (simp [ints, prs]; done)))
    | cons x xs =>
      have hc : decide (D.getD i 0 ≥ ((x :: xs).length : Nat)) = false := decide_eq_false (by omega)
      unfold m47_1
      repeat' (first
        | refine ep_loadS rfl rfl rfl hget ?_
        | (refine g_op ?_; first
          | refine ep_mov rfl ?_ | refine ep_load1 rfl rfl rfl rfl ?_
          | refine ep_bin rfl rfl (by first | exact b_add (by omega) (by omega) | exact b_sub (by omega) (by omega) | exact b_and (by omega) (by omega) | exact b_or (by omega) (by omega) | exact b_shr (by omega) | exact b_shl (by omega) (by omega) | exact b_lss | exact b_leq | exact b_gtr | exact b_geq | exact b_eql | exact b_neq) ?_
          | refine ep_lenS rfl ?_ | refine ep_lenN rfl ?_ | refine ep_lenE rfl ?_ | refine sp_bslice rfl rfl rfl rfl rfl ?_ | refine sp_push0 rfl (by first | exact .inl rfl | exact .inr rfl) rfl rfl rfl rfl rfl (by decide) rfl rfl rfl ?_
          | refine sp_push rfl rfl rfl rfl rfl rfl rfl (by first | exact ints_len _ | exact prs_len _ _ | exact zints_len _) (by omega) (Nat.zero_le _) rfl rfl rfl rfl rfl ?_ | refine sp_idx rfl rfl rfl (by omega) rfl ?_
          | refine ep_loadS rfl rfl rfl (by first | exact ints_get (by omega) | exact zints_get (by omega) | exact fget (by omega) | assumption) ?_)
        | (refine g_ops ?_; first | refine eo_none ?_ | refine eo_nil ?_)
        | (refine g_code ?_; first | refine ec_seq ?_ | refine ec_region ?_ | refine ec_block ?_ | refine ec_skip ?_ | refine ec_exit ?_ | refine ec_condT rfl ?_ | refine ec_condF rfl ?_ | refine ec_condTH rfl (by assumption) ?_ | refine ec_condFH rfl (by assumption) ?_)
        | refine ek_seqN ?_ | refine ek_seqX ?_ | refine ek_blkN ?_ | refine ek_blkR ?_ | refine ek_blkX ?_ | refine ek_blkY rfl ?_)
      exact rnd_out (by rfl) (by simp) (scmp2 (by rfl) (by rfl) (by exact ⟨rfl, rfl, rfl⟩) (by rfl) (by first | rfl | (simp; done) | (simp [ints, prs]; done)) (by rfl) (by first | rfl | (simp; done) | (simp [ints, prs]; done)))
theorem lpdn0 (N : Nat) (fs : List (Int × Int)) (D : List Int) (hN : D.length = N) (hN6 : N ≤ 65536) (hM6 : ∀ i, mlen D i ≤ 70000) (o : Out) (ho : (match cntL D (mlen D N) N with | [] => (⟨.exit 0, [(8, .emp)], [⟨fns fs, 2, 0, some 0, false⟩]⟩ : Out) | x :: xs => (⟨.exit 0, [(8, .sl 1 0 (x :: xs).length)], [⟨fns fs, 2, 0, some 0, false⟩, ⟨ints (x :: xs), 1, 1, some 0, false⟩]⟩ : Out)) = o) :
    LpS cx 51 1 m47_0 [(7, .sl 1 0 N), (8, .emp), (9, .int .i64 (0 : Nat))] [⟨fns fs, 2, 0, some 0, false⟩, ⟨zints D, 1, 1, some 0, false⟩] o.x o.e o.h := by
  subst ho
  refine lp_st (N) (fun i => cntL D (mlen D i) i) (fun i s => match s with | [] => [(7, .sl 1 0 N), (8, .emp), (9, .int .i64 (i : Nat))] | x :: xs => [(7, .sl 1 0 N), (8, .sl 2 0 (x :: xs).length), (9, .int .i64 (i : Nat))]) (fun i s => match s with | [] => [⟨fns fs, 2, 0, some 0, false⟩, ⟨zints D, 1, 1, some 0, false⟩] | x :: xs => [⟨fns fs, 2, 0, some 0, false⟩, ⟨zints D, 1, 1, some 0, false⟩, ⟨ints (x :: xs), 1, 2, some 0, false⟩]) (fun s => match s with | [] => (⟨.exit 0, [(8, .emp)], [⟨fns fs, 2, 0, some 0, false⟩]⟩ : Out) | x :: xs => (⟨.exit 0, [(8, .sl 1 0 (x :: xs).length)], [⟨fns fs, 2, 0, some 0, false⟩, ⟨ints (x :: xs), 1, 1, some 0, false⟩]⟩ : Out)) ?_ ?_ (N) 0 (by omega)
  · intro i s hi hs
    have hlt : decide ((i : Int) < (N : Nat)) = true := decide_eq_true (by omega)
    have hget := zints_get (l := D) (j := i) (by omega)
    rcases Int.lt_or_le (D.getD i 0) 0 with hd | hd
    · cases s with
      | nil =>
        have hm1 : mlen D (i + 1) = mlen D i := by rw [mlen]; omega
        have hq : decide (D.getD i 0 ≥ 0) = false := decide_eq_false (by omega)
        have lp1 := lpdn1a N i (mlen D i) (mlen D (i + 1) - mlen D i) fs D hN hi (by rw [mlen]; omega) (fun j hj => mlen_lt hj) (by have := hM6 (i + 1); have : mlen D i ≤ mlen D (i + 1) := by { rw [mlen]; omega }; omega) [] hs _ rfl
        rw [show mlen D i + (mlen D (i + 1) - mlen D i) = mlen D (i + 1) by have : mlen D i ≤ mlen D (i + 1) := by { rw [mlen]; omega }; omega] at lp1
        rw [hm1, hs] at lp1
        refine ⟨[], by rw [hm1, cntL_neg hd, hs], ?_⟩
        unfold m47_0
        repeat' (first
          | refine ep_loadS rfl rfl rfl hget ?_
          | refine sc_loop lp1 rfl rfl ⟨rfl, rfl, rfl⟩ rfl rfl rfl ?_
          | (refine g_op ?_; first
            | refine ep_mov rfl ?_ | refine ep_load1 rfl rfl rfl rfl ?_
            | refine ep_bin rfl rfl (by first | exact b_add (by omega) (by omega) | exact b_sub (by omega) (by omega) | exact b_and (by omega) (by omega) | exact b_or (by omega) (by omega) | exact b_shr (by omega) | exact b_shl (by omega) (by omega) | exact b_lss | exact b_leq | exact b_gtr | exact b_geq | exact b_eql | exact b_neq) ?_
            | refine sp_store rfl rfl rfl rfl rfl rfl rfl rfl rfl rfl ?_ | refine ep_lenS rfl ?_ | refine ep_lenN rfl ?_ | refine ep_lenE rfl ?_ | refine sp_idx rfl rfl rfl (by omega) rfl ?_ | refine ep_loadS rfl rfl rfl (by first | exact ints_get (by omega) | exact zints_get (by omega) | exact fget (by omega) | assumption) ?_)
          | (refine g_ops ?_; first | refine eo_none ?_ | refine eo_nil ?_)
          | (refine g_code ?_; first | refine ec_seq ?_ | refine ec_region ?_ | refine ec_block ?_ | refine ec_skip ?_ | refine ec_exit ?_ | refine ec_condT rfl ?_ | refine ec_condF rfl ?_ | refine ec_condTH rfl (by assumption) ?_ | refine ec_condFH rfl (by assumption) ?_)
          | refine ek_seqN ?_ | refine ek_seqX ?_ | refine ek_seqR ?_ | refine ek_blkN ?_ | refine ek_blkR ?_ | refine ek_blkX ?_ | refine ek_blkY rfl ?_)
        exact rnd_on (by rfl) (scmp2 (by rfl) (by rfl) (by exact ⟨rfl, rfl, rfl⟩) (by rfl) (by first | rfl | (simp; done) | (simp [ints, prs]; done)) (by rfl) (by first | rfl | (simp; done) | (simp [ints, prs]; done)))
      | cons x xs =>
        have hm1 : mlen D (i + 1) = mlen D i := by rw [mlen]; omega
        have hq : decide (D.getD i 0 ≥ 0) = false := decide_eq_false (by omega)
        have lp1 := lpdn1a N i (mlen D i) (mlen D (i + 1) - mlen D i) fs D hN hi (by rw [mlen]; omega) (fun j hj => mlen_lt hj) (by have := hM6 (i + 1); have : mlen D i ≤ mlen D (i + 1) := by { rw [mlen]; omega }; omega) (x :: xs) hs _ rfl
        rw [show mlen D i + (mlen D (i + 1) - mlen D i) = mlen D (i + 1) by have : mlen D i ≤ mlen D (i + 1) := by { rw [mlen]; omega }; omega] at lp1
        rw [hm1, hs] at lp1
        refine ⟨(x :: xs), by rw [hm1, cntL_neg hd, hs], ?_⟩
        unfold m47_0
        repeat' (first
          | refine ep_loadS rfl rfl rfl hget ?_
          | refine sc_loop lp1 rfl rfl ⟨rfl, rfl, rfl⟩ rfl rfl rfl ?_
          | (refine g_op ?_; first
            | refine ep_mov rfl ?_ | refine ep_load1 rfl rfl rfl rfl ?_
            | refine ep_bin rfl rfl (by first | exact b_add (by omega) (by omega) | exact b_sub (by omega) (by omega) | exact b_and (by omega) (by omega) | exact b_or (by omega) (by omega) | exact b_shr (by omega) | exact b_shl (by omega) (by omega) | exact b_lss | exact b_leq | exact b_gtr | exact b_geq | exact b_eql | exact b_neq) ?_
            | refine sp_store rfl rfl rfl rfl rfl rfl rfl rfl rfl rfl ?_ | refine ep_lenS rfl ?_ | refine ep_lenN rfl ?_ | refine ep_lenE rfl ?_ | refine sp_idx rfl rfl rfl (by omega) rfl ?_ | refine ep_loadS rfl rfl rfl (by first | exact ints_get (by omega) | exact zints_get (by omega) | exact fget (by omega) | assumption) ?_)
          | (refine g_ops ?_; first | refine eo_none ?_ | refine eo_nil ?_)
          | (refine g_code ?_; first | refine ec_seq ?_ | refine ec_region ?_ | refine ec_block ?_ | refine ec_skip ?_ | refine ec_exit ?_ | refine ec_condT rfl ?_ | refine ec_condF rfl ?_ | refine ec_condTH rfl (by assumption) ?_ | refine ec_condFH rfl (by assumption) ?_)
          | refine ek_seqN ?_ | refine ek_seqX ?_ | refine ek_seqR ?_ | refine ek_blkN ?_ | refine ek_blkR ?_ | refine ek_blkX ?_ | refine ek_blkY rfl ?_)
        exact rnd_on (by rfl) (scmp2 (by rfl) (by rfl) (by exact ⟨rfl, rfl, rfl⟩) (by rfl) (by first | rfl | (simp; done) | (simp [ints, prs]; done)) (by rfl) (by first | rfl | (simp; done) | (simp [ints, prs]; done)))
    · cases s with
      | nil =>
        obtain ⟨d, hd2⟩ := Int.eq_ofNat_of_zero_le hd
        have hdm : d < mlen D (i + 1) := by rw [mlen]; omega
        have hq : decide (((d : Nat) : Int) ≥ 0) = true := decide_eq_true (by omega)
        have lp1 := lpdn1a N i (mlen D i) (mlen D (i + 1) - mlen D i) fs D hN hi (by rw [mlen]; omega) (fun j hj => mlen_lt hj) (by have := hM6 (i + 1); have : mlen D i ≤ mlen D (i + 1) := by { rw [mlen]; omega }; omega) [] hs _ rfl
        rw [show mlen D i + (mlen D (i + 1) - mlen D i) = mlen D (i + 1) by have : mlen D i ≤ mlen D (i + 1) := by { rw [mlen]; omega }; omega] at lp1
        have hl1 := cntL_len D (mlen D (i + 1)) i
        have hl2 := cntL_len D (mlen D (i + 1)) (i + 1)
        have hil := ints_len (cntL D (mlen D (i + 1)) i)
        have hg2 := ints_get (l := cntL D (mlen D (i + 1)) i) (j := d) (by omega)
        rw [cntL_at (by omega)] at hg2
        have hset := ints_set (l := cntL D (mlen D (i + 1)) i) (b := d) (d := cn D d i + 1) (by omega)
        rw [cntL_set hd2 (by omega)] at hset
        have hc := cn_le D d i
        have hadd := b_addN (a := cn D d i) (b := 1) (by omega)
        rw [hd2] at hget
        cases hs1 : cntL D (mlen D (i + 1)) i with
        | nil => rw [hs1] at hl1; simp at hl1; omega
        | cons y ys =>
          rw [hs1] at lp1 hl1 hg2 hset hil
          dsimp only at lp1
          cases hs2 : cntL D (mlen D (i + 1)) (i + 1) with
          | nil => rw [hs2] at hl2; simp at hl2; omega
          | cons z zs =>
            rw [hs2] at hl2 hset
            have hyz : (y :: ys).length = (z :: zs).length := by omega
            refine ⟨z :: zs, rfl, ?_⟩
            rw [hyz] at lp1 hil hl1
            unfold m47_0
            repeat' (first
              | refine ep_loadS rfl rfl rfl hget ?_
              | refine ep_loadS rfl rfl rfl hg2 ?_
              | refine sp_storeS rfl rfl rfl rfl rfl rfl rfl (Nat.zero_le _) (by omega) hset rfl ?_
              | refine sc_loop lp1 rfl rfl ⟨rfl, rfl, rfl⟩ rfl rfl rfl ?_
              | (refine g_op ?_; first
                | refine ep_mov rfl ?_ | refine ep_load1 rfl rfl rfl rfl ?_
                | refine ep_bin rfl rfl (by first | exact hadd | exact b_add (by omega) (by omega) | exact b_sub (by omega) (by omega) | exact b_and (by omega) (by omega) | exact b_or (by omega) (by omega) | exact b_shr (by omega) | exact b_shl (by omega) (by omega) | exact b_lss | exact b_leq | exact b_gtr | exact b_geq | exact b_eql | exact b_neq) ?_
                | refine sp_store rfl rfl rfl rfl rfl rfl rfl rfl rfl rfl ?_ | refine ep_lenS rfl ?_ | refine ep_lenN rfl ?_ | refine ep_lenE rfl ?_ | refine sp_idx rfl rfl rfl (by omega) rfl ?_ | refine ep_loadS rfl rfl rfl (by first | exact ints_get (by omega) | exact zints_get (by omega) | exact fget (by omega) | assumption) ?_)
              | (refine g_ops ?_; first | refine eo_none ?_ | refine eo_nil ?_)
              | (refine g_code ?_; first | refine ec_seq ?_ | refine ec_region ?_ | refine ec_block ?_ | refine ec_skip ?_ | refine ec_exit ?_ | refine ec_condT rfl ?_ | refine ec_condF rfl ?_ | refine ec_condTH rfl (by assumption) ?_ | refine ec_condFH rfl (by assumption) ?_)
              | refine ek_seqN ?_ | refine ek_seqX ?_ | refine ek_seqR ?_ | refine ek_blkN ?_ | refine ek_blkR ?_ | refine ek_blkX ?_ | refine ek_blkY rfl ?_)
            exact rnd_on (by rfl) (scmp2 (by rfl) (by rfl) (by exact ⟨rfl, rfl, rfl⟩) (by rfl) (by first | rfl | (simp; done) | (simp [ints, prs]; done)) (by rfl) (by first | rfl | (simp; done) | (simp [ints, prs]; done)))
      | cons x xs =>
        obtain ⟨d, hd2⟩ := Int.eq_ofNat_of_zero_le hd
        have hdm : d < mlen D (i + 1) := by rw [mlen]; omega
        have hq : decide (((d : Nat) : Int) ≥ 0) = true := decide_eq_true (by omega)
        have lp1 := lpdn1a N i (mlen D i) (mlen D (i + 1) - mlen D i) fs D hN hi (by rw [mlen]; omega) (fun j hj => mlen_lt hj) (by have := hM6 (i + 1); have : mlen D i ≤ mlen D (i + 1) := by { rw [mlen]; omega }; omega) (x :: xs) hs _ rfl
        rw [show mlen D i + (mlen D (i + 1) - mlen D i) = mlen D (i + 1) by have : mlen D i ≤ mlen D (i + 1) := by { rw [mlen]; omega }; omega] at lp1
        have hl1 := cntL_len D (mlen D (i + 1)) i
        have hl2 := cntL_len D (mlen D (i + 1)) (i + 1)
        have hil := ints_len (cntL D (mlen D (i + 1)) i)
        have hg2 := ints_get (l := cntL D (mlen D (i + 1)) i) (j := d) (by omega)
        rw [cntL_at (by omega)] at hg2
        have hset := ints_set (l := cntL D (mlen D (i + 1)) i) (b := d) (d := cn D d i + 1) (by omega)
        rw [cntL_set hd2 (by omega)] at hset
        have hc := cn_le D d i
        have hadd := b_addN (a := cn D d i) (b := 1) (by omega)
        rw [hd2] at hget
        cases hs1 : cntL D (mlen D (i + 1)) i with
        | nil => rw [hs1] at hl1; simp at hl1; omega
        | cons y ys =>
          rw [hs1] at lp1 hl1 hg2 hset hil
          dsimp only at lp1
          cases hs2 : cntL D (mlen D (i + 1)) (i + 1) with
          | nil => rw [hs2] at hl2; simp at hl2; omega
          | cons z zs =>
            rw [hs2] at hl2 hset
            have hyz : (y :: ys).length = (z :: zs).length := by omega
            refine ⟨z :: zs, rfl, ?_⟩
            rw [hyz] at lp1 hil hl1
            unfold m47_0
            repeat' (first
              | refine ep_loadS rfl rfl rfl hget ?_
              | refine ep_loadS rfl rfl rfl hg2 ?_
              | refine sp_storeS rfl rfl rfl rfl rfl rfl rfl (Nat.zero_le _) (by omega) hset rfl ?_
              | refine sc_loop lp1 rfl rfl ⟨rfl, rfl, rfl⟩ rfl rfl rfl ?_
              | (refine g_op ?_; first
                | refine ep_mov rfl ?_ | refine ep_load1 rfl rfl rfl rfl ?_
                | refine ep_bin rfl rfl (by first | exact hadd | exact b_add (by omega) (by omega) | exact b_sub (by omega) (by omega) | exact b_and (by omega) (by omega) | exact b_or (by omega) (by omega) | exact b_shr (by omega) | exact b_shl (by omega) (by omega) | exact b_lss | exact b_leq | exact b_gtr | exact b_geq | exact b_eql | exact b_neq) ?_
                | refine sp_store rfl rfl rfl rfl rfl rfl rfl rfl rfl rfl ?_ | refine ep_lenS rfl ?_ | refine ep_lenN rfl ?_ | refine ep_lenE rfl ?_ | refine sp_idx rfl rfl rfl (by omega) rfl ?_ | refine ep_loadS rfl rfl rfl (by first | exact ints_get (by omega) | exact zints_get (by omega) | exact fget (by omega) | assumption) ?_)
              | (refine g_ops ?_; first | refine eo_none ?_ | refine eo_nil ?_)
              | (refine g_code ?_; first | refine ec_seq ?_ | refine ec_region ?_ | refine ec_block ?_ | refine ec_skip ?_ | refine ec_exit ?_ | refine ec_condT rfl ?_ | refine ec_condF rfl ?_ | refine ec_condTH rfl (by assumption) ?_ | refine ec_condFH rfl (by assumption) ?_)
              | refine ek_seqN ?_ | refine ek_seqX ?_ | refine ek_seqR ?_ | refine ek_blkN ?_ | refine ek_blkR ?_ | refine ek_blkX ?_ | refine ek_blkY rfl ?_)
            exact rnd_on (by rfl) (scmp2 (by rfl) (by rfl) (by exact ⟨rfl, rfl, rfl⟩) (by rfl) (by first | rfl | (simp; done) | (simp [ints, prs]; done)) (by rfl) (by first | rfl | (simp; done) | (simp [ints, prs]; done)))
  · intro s hs
    have hlt : decide (((N : Nat) : Int) < (N : Nat)) = false := decide_eq_false (by omega)
    cases s with
    | nil =>
      unfold m47_0
      repeat' (first
        | (refine g_op ?_; first
          | refine ep_mov rfl ?_ | refine ep_load1 rfl rfl rfl rfl ?_
          | refine ep_bin rfl rfl (by first | exact b_add (by omega) (by omega) | exact b_sub (by omega) (by omega) | exact b_and (by omega) (by omega) | exact b_or (by omega) (by omega) | exact b_shr (by omega) | exact b_shl (by omega) (by omega) | exact b_lss | exact b_leq | exact b_gtr | exact b_geq | exact b_eql | exact b_neq) ?_
          | refine sp_store rfl rfl rfl rfl rfl rfl rfl rfl rfl rfl ?_ | refine ep_lenS rfl ?_ | refine ep_lenN rfl ?_ | refine ep_lenE rfl ?_ | refine sp_idx rfl rfl rfl (by omega) rfl ?_ | refine ep_loadS rfl rfl rfl (by first | exact ints_get (by omega) | exact zints_get (by omega) | exact fget (by omega) | assumption) ?_)
        | (refine g_ops ?_; first | refine eo_none ?_ | refine eo_nil ?_)
        | (refine g_code ?_; first | refine ec_seq ?_ | refine ec_region ?_ | refine ec_block ?_ | refine ec_skip ?_ | refine ec_exit ?_ | refine ec_condT rfl ?_ | refine ec_condF rfl ?_ | refine ec_condTH rfl (by assumption) ?_ | refine ec_condFH rfl (by assumption) ?_)
        | refine ek_seqN ?_ | refine ek_seqX ?_ | refine ek_seqR ?_ | refine ek_blkN ?_ | refine ek_blkR ?_ | refine ek_blkX ?_ | refine ek_blkY rfl ?_)
      exact rnd_out (by rfl) (by simp) (scmp2 (by rfl) (by rfl) (by exact ⟨rfl, rfl, rfl⟩) (by rfl) (by first | rfl | (simp; done) | (simp [ints, prs]; done)) (by rfl) (by first | rfl | (simp; done) | (simp [ints, prs]; done)))
    | cons x xs =>
      unfold m47_0
      repeat' (first
        | (refine g_op ?_; first
          | refine ep_mov rfl ?_ | refine ep_load1 rfl rfl rfl rfl ?_
          | refine ep_bin rfl rfl (by first | exact b_add (by omega) (by omega) | exact b_sub (by omega) (by omega) | exact b_and (by omega) (by omega) | exact b_or (by omega) (by omega) | exact b_shr (by omega) | exact b_shl (by omega) (by omega) | exact b_lss | exact b_leq | exact b_gtr | exact b_geq | exact b_eql | exact b_neq) ?_
          | refine sp_store rfl rfl rfl rfl rfl rfl rfl rfl rfl rfl ?_ | refine ep_lenS rfl ?_ | refine ep_lenN rfl ?_ | refine ep_lenE rfl ?_ | refine sp_idx rfl rfl rfl (by omega) rfl ?_ | refine ep_loadS rfl rfl rfl (by first | exact ints_get (by omega) | exact zints_get (by omega) | exact fget (by omega) | assumption) ?_)
        | (refine g_ops ?_; first | refine eo_none ?_ | refine eo_nil ?_)
        | (refine g_code ?_; first | refine ec_seq ?_ | refine ec_region ?_ | refine ec_block ?_ | refine ec_skip ?_ | refine ec_exit ?_ | refine ec_condT rfl ?_ | refine ec_condF rfl ?_ | refine ec_condTH rfl (by assumption) ?_ | refine ec_condFH rfl (by assumption) ?_)
        | refine ek_seqN ?_ | refine ek_seqX ?_ | refine ek_seqR ?_ | refine ek_blkN ?_ | refine ek_blkR ?_ | refine ek_blkX ?_ | refine ek_blkY rfl ?_)
      exact rnd_out (by rfl) (by simp) (scmp2 (by rfl) (by rfl) (by exact ⟨rfl, rfl, rfl⟩) (by rfl) (by first | rfl | (simp; done) | (simp [ints, prs]; done)) (by rfl) (by first | rfl | (simp; done) | (simp [ints, prs]; done)))
theorem ev47 (fs : List (Int × Int)) (z : Int) (hln : fs.length ≤ 1048576) : Ev cx 47 [.sl 0 0 fs.length, .int .i64 z] [⟨fns fs, 2, 0, some 0, false⟩] (.tup [slV (if dnC fs z = 0 then .emp else .nils) 1 (dnL fs z), .int .i64 (dnC fs z)]) (⟨fns fs, 2, 0, some 0, false⟩ :: slH 1 1 ints (dnL fs z)) := by
  have e1 := ev81 fs z hln
  by_cases h0 : gcode fs z = 0
  · obtain ⟨ha, hl, hz1, hz2⟩ := gcode_0 h0
    obtain ⟨n, rfl⟩ := Int.eq_ofNat_of_zero_le (show (0 : Int) ≤ z by omega)
    obtain ⟨h1, h2, h3, h4⟩ := shN (n := n) (by omega)
    have hL : dnL fs (n : Nat) = cntL (depL fs n) (mlen (depL fs n) (R2 (R2 n))) (R2 (R2 n)) := if_pos h0
    have e2 := ev83 n fs (by omega) (by omega) ha hln
    have hM1 := dn_ne (fs := fs) (n := n) (by omega)
    have lp := lpdn0 (R2 (R2 n)) fs (depL fs n) (depL_len fs n) (by omega) (fun i => by have := mlen_le (D := depL fs n) (depL_bnd fs n) i; omega)
    rw [show dnC fs (n : Nat) = 0 from h0]
    rw [h0] at e1
    rw [hL]
    have hlen := cntL_len (depL fs n) (mlen (depL fs n) (R2 (R2 n))) (R2 (R2 n))
    cases hs : cntL (depL fs n) (mlen (depL fs n) (R2 (R2 n))) (R2 (R2 n)) with
    | nil => rw [hs] at hlen; simp at hlen; omega
    | cons x xs =>
      have lp := lp _ (by rw [hs])
      refine has47.eev rfl rfl ?_
      unfold m47
      repeat' (first
        | refine sc_loop lp rfl rfl ⟨rfl, rfl, rfl⟩ rfl rfl rfl ?_
        | (refine g_op ?_; first
          | refine ep_mov rfl ?_
          | refine ep_call0 rfl (by first | exact e1 | exact e2) rfl rfl ?_
          | refine sp_call rfl rfl rfl rfl (by first | exact e1 | exact e2) ⟨rfl, rfl, rfl, rfl⟩ rfl rfl rfl ?_
          | refine ep_bin rfl rfl (by first | exact b_add (by omega) (by omega) | exact b_sub (by omega) (by omega) | exact b_and (by omega) (by omega) | exact b_or (by omega) (by omega) | exact b_shr (by omega) | exact b_shl (by omega) (by omega) | exact b_lss | exact b_leq | exact b_gtr | exact b_geq | exact b_eql | exact b_neq) ?_
          | refine ep_empt ?_)
        | (refine g_ops ?_; first | refine eo_none ?_ | refine eo_nil ?_)
        | (refine g_code ?_; first | refine ec_seq ?_ | refine ec_region ?_ | refine ec_block ?_ | refine ec_skip ?_ | refine ec_ret ?_ | refine ec_condT rfl ?_ | refine ec_condF rfl ?_ | refine ec_condTH rfl (by assumption) ?_ | refine ec_condFH rfl (by assumption) ?_)
        | refine ek_seqN ?_ | refine ek_seqX ?_ | refine ek_seqR ?_ | refine ek_blkN ?_ | refine ek_blkR ?_ | refine ek_blkX ?_ | refine ek_blkY rfl ?_)
      refine sfin (.inr rfl) (by rfl) (by rfl) (by exact ⟨rfl, rfl, rfl⟩) (by rfl) (by rfl) (by rfl) (by first | rfl | (simp; done) | (simp [ints, prs]; done))
  · have hL : dnL fs z = [] := if_neg h0
    have hq2 : (gcode fs z != 0) = true := by simpa using h0
    rw [hL]
    refine has47.eev rfl rfl ?_
    unfold m47
    repeat' (first
      | (refine g_op ?_; first
        | refine ep_mov rfl ?_
        | refine ep_call0 rfl (by first | exact e1) rfl rfl ?_
        | refine sp_call rfl rfl rfl rfl (by first | exact e1) ⟨rfl, rfl, rfl, rfl⟩ rfl rfl rfl ?_
        | refine ep_bin rfl rfl (by first | exact b_add (by omega) (by omega) | exact b_sub (by omega) (by omega) | exact b_and (by omega) (by omega) | exact b_or (by omega) (by omega) | exact b_shr (by omega) | exact b_shl (by omega) (by omega) | exact b_lss | exact b_leq | exact b_gtr | exact b_geq | exact b_eql | exact b_neq) ?_
        | refine ep_empt ?_)
      | (refine g_ops ?_; first | refine eo_none ?_ | refine eo_nil ?_)
      | (refine g_code ?_; first | refine ec_seq ?_ | refine ec_region ?_ | refine ec_block ?_ | refine ec_skip ?_ | refine ec_ret ?_ | refine ec_condT rfl ?_ | refine ec_condF rfl ?_ | refine ec_condTH rfl (by assumption) ?_ | refine ec_condFH rfl (by assumption) ?_)
      | refine ek_seqN ?_ | refine ek_seqX ?_ | refine ek_seqR ?_ | refine ek_blkN ?_ | refine ek_blkR ?_ | refine ek_blkX ?_ | refine ek_blkY rfl ?_)
    refine sfin (.inr rfl) (by rfl) (by rfl) (by exact ⟨rfl, rfl, rfl⟩) (by rfl) (by rfl) (by rw [if_neg h0]; rfl) (by first | rfl | (simp; done) | (simp [ints, prs]; done))

-- 13
theorem dnL_len (fs : List (Int × Int)) (z : Int) : (dnL fs z).length ≤ 70000 := by
  unfold dnL
  split
  · rename_i h
    have hz := gcode_0 h
    have h2 := (shN (n := z.toNat) (by omega)).2.1
    have := mlen_le (D := depL fs z.toNat) (depL_bnd fs z.toNat) (R2 (R2 z.toNat))
    rw [cntL_len]; omega
  · simp
-- laws.FnExactDepthNumbers
def m13 : MC := (.seq (.region [⟨(.mov (.k (.bool false))), (some 4), none⟩] false) (.seq (.region [⟨(.mov (.k (.int .i64 1048576))), (some 5), none⟩] false) (.seq (.region [⟨(.mov (.t 0)), (some 16), none⟩, ⟨(.mov (.t 5)), (some 17), none⟩, ⟨(.call 26 [(.t 16), (.t 17)]), (some 18), none⟩, ⟨(.mov (.t 18)), (some 5), none⟩] false) (.seq (.seq (.region [⟨(.mov (.t 5)), (some 19), none⟩, ⟨(.bin .lss (.t 19) (.k (.int .i64 0))), (some 20), none⟩] false) (.cond (.t 20) (.seq (.region [⟨(.mov (.k (.bool true))), (some 4), none⟩] false) .ret) .skip)) (.seq (.region [⟨(.mov (.t 0)), (some 22), none⟩, ⟨(.call 28 [(.t 22)]), (some 23), none⟩, ⟨(.mov (.t 1)), (some 24), none⟩, ⟨(.call 47 [(.t 23), (.t 24)]), (some 25), none⟩, ⟨(.mov (.t 25)), (some 21), none⟩, ⟨(.extract (.t 21) 0), (some 26), none⟩, ⟨(.extract (.t 21) 1), (some 27), none⟩, ⟨(.mov (.t 26)), (some 6), none⟩, ⟨(.mov (.t 27)), (some 7), none⟩] false) (.seq (.region [⟨(.mov (.t 0)), (some 28), none⟩, ⟨(.call 28 [(.t 28)]), (some 29), none⟩, ⟨(.mov (.t 29)), (some 8), none⟩] false) (.seq (.region [⟨(.mov (.t 8)), (some 31), none⟩, ⟨(.mov (.t 1)), (some 32), none⟩, ⟨(.call 48 [(.t 31), (.t 32)]), (some 33), none⟩, ⟨(.mov (.t 33)), (some 30), none⟩, ⟨(.extract (.t 30) 0), (some 34), none⟩, ⟨(.extract (.t 30) 1), (some 35), none⟩, ⟨(.mov (.t 34)), (some 9), none⟩, ⟨(.mov (.t 35)), (some 10), none⟩] false) (.seq (.seq (.region [⟨(.mov (.t 9)), (some 36), none⟩, ⟨(.mov (.t 6)), (some 37), none⟩, ⟨(.call 19 [(.t 36), (.t 37)]), (some 38), none⟩, ⟨(.un .not (.t 38)), (some 39), none⟩, ⟨(.mov (.t 39)), (some 40), none⟩, ⟨(.mov (.t 10)), (some 41), (some (40, false))⟩, ⟨(.mov (.t 7)), (some 42), (some (40, false))⟩, ⟨(.bin .neq (.t 41) (.t 42)), (some 43), (some (40, false))⟩, ⟨(.pick (.t 40) (.k (.bool true)) (.t 43)), (some 44), none⟩] false) (.cond (.t 44) (.seq (.region [⟨(.mov (.k (.bool false))), (some 4), none⟩] false) .ret) .skip)) (.seq (.seq (.region [⟨(.mov (.t 8)), (some 45), none⟩, ⟨(.mov (.t 0)), (some 46), none⟩, ⟨(.call 28 [(.t 46)]), (some 47), none⟩, ⟨(.call 32 [(.t 45), (.t 47)]), (some 48), none⟩, ⟨(.un .not (.t 48)), (some 49), none⟩] false) (.cond (.t 49) (.seq (.region [⟨(.mov (.k (.bool false))), (some 4), none⟩] false) .ret) .skip)) (.seq (.region [⟨(.mov (.k (.int .i64 1))), (some 11), none⟩] false) (.seq (.region [⟨(.mov (.t 8)), (some 50), none⟩, ⟨(.mov (.t 11)), (some 51), none⟩, ⟨(.call 45 [(.t 50), (.t 51)]), (some 52), none⟩, ⟨(.mov (.t 52)), (some 11), none⟩] false) (.seq (.seq (.region [⟨(.mov (.t 11)), (some 53), none⟩, ⟨(.bin .lss (.t 53) (.k (.int .i64 0))), (some 54), none⟩, ⟨(.mov (.t 54)), (some 55), none⟩, ⟨(.mov (.t 9)), (some 56), (some (55, false))⟩, ⟨(.mov (.t 6)), (some 57), (some (55, false))⟩, ⟨(.call 19 [(.t 56), (.t 57)]), (some 58), (some (55, false))⟩, ⟨(.un .not (.t 58)), (some 59), (some (55, false))⟩, ⟨(.pick (.t 55) (.k (.bool true)) (.t 59)), (some 60), none⟩, ⟨(.mov (.t 60)), (some 61), none⟩, ⟨(.mov (.t 10)), (some 62), (some (61, false))⟩, ⟨(.mov (.t 7)), (some 63), (some (61, false))⟩, ⟨(.bin .neq (.t 62) (.t 63)), (some 64), (some (61, false))⟩, ⟨(.pick (.t 61) (.k (.bool true)) (.t 64)), (some 65), none⟩] false) (.cond (.t 65) (.seq (.region [⟨(.mov (.k (.bool false))), (some 4), none⟩] false) .ret) .skip)) (.seq (.region [⟨(.mov (.k (.int .i64 1))), (some 12), none⟩] false) (.seq (.region [⟨(.mov (.t 9)), (some 66), none⟩, ⟨(.mov (.t 12)), (some 67), none⟩, ⟨(.call 20 [(.t 66), (.t 67)]), (some 68), none⟩, ⟨(.mov (.t 68)), (some 12), none⟩] false) (.seq (.region [⟨(.mov (.k (.int .i64 1))), (some 13), none⟩] false) (.seq (.region [⟨(.mov (.t 9)), (some 69), none⟩, ⟨(.mov (.t 13)), (some 70), none⟩, ⟨(.call 21 [(.t 69), (.t 70)]), (some 71), none⟩, ⟨(.mov (.t 71)), (some 13), none⟩] false) (.seq (.seq (.region [⟨(.mov (.t 13)), (some 72), none⟩, ⟨(.bin .lss (.t 72) (.k (.int .i64 0))), (some 73), none⟩] false) (.cond (.t 73) (.seq (.region [⟨(.mov (.k (.bool false))), (some 4), none⟩] false) .ret) .skip)) (.seq (.seq (.region [⟨(.mov (.t 13)), (some 74), none⟩, ⟨(.mov (.t 12)), (some 75), none⟩, ⟨(.bin .neq (.t 74) (.t 75)), (some 76), none⟩] false) (.cond (.t 76) (.seq (.region [⟨(.mov (.k (.bool false))), (some 4), none⟩] false) .ret) .skip)) (.seq (.region [⟨(.mov (.t 0)), (some 78), none⟩, ⟨(.call 28 [(.t 78)]), (some 79), none⟩, ⟨(.mov (.t 1)), (some 80), none⟩, ⟨(.call 48 [(.t 79), (.t 80)]), (some 81), none⟩, ⟨(.mov (.t 81)), (some 77), none⟩, ⟨(.extract (.t 77) 0), (some 82), none⟩, ⟨(.extract (.t 77) 1), (some 83), none⟩, ⟨(.mov (.t 82)), (some 14), none⟩, ⟨(.mov (.t 83)), (some 15), none⟩] false) (.seq (.seq (.region [⟨(.mov (.t 14)), (some 84), none⟩, ⟨(.mov (.t 6)), (some 85), none⟩, ⟨(.call 19 [(.t 84), (.t 85)]), (some 86), none⟩, ⟨(.un .not (.t 86)), (some 87), none⟩, ⟨(.mov (.t 87)), (some 88), none⟩, ⟨(.mov (.t 15)), (some 89), (some (88, false))⟩, ⟨(.mov (.t 7)), (some 90), (some (88, false))⟩, ⟨(.bin .neq (.t 89) (.t 90)), (some 91), (some (88, false))⟩, ⟨(.pick (.t 88) (.k (.bool true)) (.t 91)), (some 92), none⟩] false) (.cond (.t 92) (.seq (.region [⟨(.mov (.k (.bool false))), (some 4), none⟩] false) .ret) .skip)) (.seq (.region [⟨(.mov (.k (.int .i64 1))), (some 13), none⟩] false) (.seq (.region [⟨(.mov (.t 9)), (some 93), none⟩, ⟨(.mov (.t 13)), (some 94), none⟩, ⟨(.call 21 [(.t 93), (.t 94)]), (some 95), none⟩, ⟨(.mov (.t 95)), (some 13), none⟩] false) (.seq (.seq (.region [⟨(.mov (.t 13)), (some 96), none⟩, ⟨(.bin .lss (.t 96) (.k (.int .i64 0))), (some 97), none⟩] false) (.cond (.t 97) (.seq (.region [⟨(.mov (.k (.bool false))), (some 4), none⟩] false) .ret) .skip)) (.seq (.seq (.region [⟨(.mov (.t 13)), (some 98), none⟩, ⟨(.mov (.t 12)), (some 99), none⟩, ⟨(.bin .neq (.t 98) (.t 99)), (some 100), none⟩] false) (.cond (.t 100) (.seq (.region [⟨(.mov (.k (.bool false))), (some 4), none⟩] false) .ret) .skip)) (.seq (.region [⟨(.mov (.k (.bool true))), (some 4), none⟩] false) .ret)))))))))))))))))))))))))
theorem has13 : Has cx 13 101 m13 [(.tmp 4)] :=
  ⟨⟨Try.f13, Try.f13.body.getD .skip, by kernel_rfl, by kernel_rfl, by kernel_rfl, by kernel_rfl, by kernel_rfl, by kernel_rfl⟩⟩
-- ROW ev13: bd0
theorem ev13 (a : V) (z : Int) (h : Heap) (c : List Int) (fa : FA .i64 2 a h c) (hb : c.length ≤ 2 * Go.maxLen) : Ev cx 13 [a, .int .i64 z] h (.bool true) h := by
  have hml : Go.maxLen = 9223372036854775807 := by decide
  cases fa with
  | nil =>
    have s0 := ev26_nils
    have e0 := ev28_nils
    rw [show zints [] = fns [] from rfl] at e0
    have e1 := ev47 [] z (by simp)
    have e2 := ev48 [] z (by simp)
    have h2 : (dnC [] z != dnC [] z) = false := by simp
    have m1 := ev45 0 (fns []) (by omega) rfl
    have q5 : decide (((2 * 0 + 1 : Nat) : Int) < 0) = false := decide_eq_false (by omega)
    have q3 := ev32 0 (fns []) (fns []) (fun j => ([] : List (Int × Int)).getD j (0, 0)) (some 0) (some 0) (by omega) (fun j hj => fns_pair (by simp at hj)) (fun j hj => fns_pair (by simp at hj))
    cases hs : dnL [] z with
    | nil =>
      rw [hs] at e1 e2
      by_cases hc0 : dnC [] z = 0
      · rw [if_pos hc0] at e1
        refine has13.eev rfl rfl ?_
        unfold m13
        repeat' (first
          | (refine g_op ?_; first
            | refine ep_mov rfl ?_
            | refine ep_call0 rfl (by first | exact e0 | exact s0 | exact e1 | exact e2 | exact q3 | exact m1 | exact ev19_nils_emp | exact ev20_nils | exact ev21_nils) rfl rfl ?_
            | refine sp_call rfl rfl rfl rfl (by first | exact e0 | exact s0 | exact e1 | exact e2 | exact q3 | exact m1 | exact ev19_nils_emp | exact ev20_nils | exact ev21_nils) ⟨rfl, rfl, rfl, rfl⟩ rfl rfl rfl ?_
            | refine ep_bin rfl rfl (by first | exact b_add (by omega) (by omega) | exact b_sub (by omega) (by omega) | exact b_and (by omega) (by omega) | exact b_or (by omega) (by omega) | exact b_shr (by omega) | exact b_shl (by omega) (by omega) | exact b_lss | exact b_leq | exact b_gtr | exact b_geq | exact b_eql | exact b_neq) ?_
            | refine ep_pickT rfl rfl ?_ | refine ep_pickF rfl rfl ?_ | refine ep_pickTH rfl (by assumption) rfl ?_ | refine ep_pickFH rfl (by assumption) rfl ?_ | refine ep_extract rfl rfl ?_ | refine ep_not rfl ?_)
          | (refine g_ops ?_; first | refine eo_none ?_ | refine eo_nil ?_ | refine eo_yes rfl ?_ | refine eo_no rfl ?_ | refine eo_und rfl ?_ | refine eo_yesH rfl (by assumption) ?_ | refine eo_noH rfl (by assumption) ?_)
          | (refine g_code ?_; first | refine ec_seq ?_ | refine ec_region ?_ | refine ec_skip ?_ | refine ec_ret ?_ | refine ec_condT rfl ?_ | refine ec_condF rfl ?_ | refine ec_condTH rfl (by assumption) ?_ | refine ec_condFH rfl (by assumption) ?_)
          | refine ek_seqN ?_ | refine ek_seqR ?_)
        refine sfin (.inr rfl) (by rfl) (by rfl) (by exact ⟨rfl, rfl, rfl⟩) (by rfl) (by rfl) (by rfl) (by first | rfl | (simp; done) | (simp [ints, prs]; done))
      · rw [if_neg hc0] at e1
        refine has13.eev rfl rfl ?_
        unfold m13
        repeat' (first
          | (refine g_op ?_; first
            | refine ep_mov rfl ?_
            | refine ep_call0 rfl (by first | exact e0 | exact s0 | exact e1 | exact e2 | exact q3 | exact m1 | exact ev19_nils_nils | exact ev20_nils | exact ev21_nils) rfl rfl ?_
            | refine sp_call rfl rfl rfl rfl (by first | exact e0 | exact s0 | exact e1 | exact e2 | exact q3 | exact m1 | exact ev19_nils_nils | exact ev20_nils | exact ev21_nils) ⟨rfl, rfl, rfl, rfl⟩ rfl rfl rfl ?_
            | refine ep_bin rfl rfl (by first | exact b_add (by omega) (by omega) | exact b_sub (by omega) (by omega) | exact b_and (by omega) (by omega) | exact b_or (by omega) (by omega) | exact b_shr (by omega) | exact b_shl (by omega) (by omega) | exact b_lss | exact b_leq | exact b_gtr | exact b_geq | exact b_eql | exact b_neq) ?_
            | refine ep_pickT rfl rfl ?_ | refine ep_pickF rfl rfl ?_ | refine ep_pickTH rfl (by assumption) rfl ?_ | refine ep_pickFH rfl (by assumption) rfl ?_ | refine ep_extract rfl rfl ?_ | refine ep_not rfl ?_)
          | (refine g_ops ?_; first | refine eo_none ?_ | refine eo_nil ?_ | refine eo_yes rfl ?_ | refine eo_no rfl ?_ | refine eo_und rfl ?_ | refine eo_yesH rfl (by assumption) ?_ | refine eo_noH rfl (by assumption) ?_)
          | (refine g_code ?_; first | refine ec_seq ?_ | refine ec_region ?_ | refine ec_skip ?_ | refine ec_ret ?_ | refine ec_condT rfl ?_ | refine ec_condF rfl ?_ | refine ec_condTH rfl (by assumption) ?_ | refine ec_condFH rfl (by assumption) ?_)
          | refine ek_seqN ?_ | refine ek_seqR ?_)
        refine sfin (.inr rfl) (by rfl) (by rfl) (by exact ⟨rfl, rfl, rfl⟩) (by rfl) (by rfl) (by rfl) (by first | rfl | (simp; done) | (simp [ints, prs]; done))
    | cons x xs =>
      have hlen := dnL_len [] z
      rw [hs] at e1 e2 hlen
      have e3 := ev19 (x :: xs).length (ints (x :: xs)) (ints (x :: xs)) (fun j => (((x :: xs).getD j 0 : Nat) : Int)) (some 0) (some 0) (by omega) (fun j hj => ints_get hj) (fun j hj => ints_get hj)
      have e4 := ev20 (x :: xs).length (ints (x :: xs)) (by omega) (ints_len _)
      have e5 := ev21 (x :: xs).length (ints (x :: xs)) (by omega)
      have q1 : decide ((((x :: xs).length + 1 : Nat) : Int) < 0) = false := decide_eq_false (by omega)
      have q2 : ((((x :: xs).length + 1 : Nat) : Int) != ((x :: xs).length + 1 : Nat)) = false := by simp
      refine has13.eev rfl rfl ?_
      unfold m13
      repeat' (first
        | (refine g_op ?_; first
          | refine ep_mov rfl ?_
          | refine ep_call0 rfl (by first | exact e0 | exact s0 | exact e1 | exact e2 | exact q3 | exact m1 | exact e3 | exact e4 | exact e5) rfl rfl ?_
          | refine sp_call rfl rfl rfl rfl (by first | exact e0 | exact s0 | exact e1 | exact e2 | exact q3 | exact m1 | exact e3 | exact e4 | exact e5) ⟨rfl, rfl, rfl, rfl⟩ rfl rfl rfl ?_
          | refine ep_bin rfl rfl (by first | exact b_add (by omega) (by omega) | exact b_sub (by omega) (by omega) | exact b_and (by omega) (by omega) | exact b_or (by omega) (by omega) | exact b_shr (by omega) | exact b_shl (by omega) (by omega) | exact b_lss | exact b_leq | exact b_gtr | exact b_geq | exact b_eql | exact b_neq) ?_
          | refine ep_pickT rfl rfl ?_ | refine ep_pickF rfl rfl ?_ | refine ep_pickTH rfl (by assumption) rfl ?_ | refine ep_pickFH rfl (by assumption) rfl ?_ | refine ep_extract rfl rfl ?_ | refine ep_not rfl ?_)
        | (refine g_ops ?_; first | refine eo_none ?_ | refine eo_nil ?_ | refine eo_yes rfl ?_ | refine eo_no rfl ?_ | refine eo_und rfl ?_ | refine eo_yesH rfl (by assumption) ?_ | refine eo_noH rfl (by assumption) ?_)
        | (refine g_code ?_; first | refine ec_seq ?_ | refine ec_region ?_ | refine ec_skip ?_ | refine ec_ret ?_ | refine ec_condT rfl ?_ | refine ec_condF rfl ?_ | refine ec_condTH rfl (by assumption) ?_ | refine ec_condFH rfl (by assumption) ?_)
        | refine ek_seqN ?_ | refine ek_seqR ?_)
      refine sfin (.inr rfl) (by rfl) (by rfl) (by exact ⟨rfl, rfl, rfl⟩) (by rfl) (by rfl) (by rfl) (by first | rfl | (simp; done) | (simp [ints, prs]; done))
  | emp =>
    have s0 := ev26_emp
    have e0 := ev28_emp
    rw [show zints [] = fns [] from rfl] at e0
    have e1 := ev47 [] z (by simp)
    have e2 := ev48 [] z (by simp)
    have h2 : (dnC [] z != dnC [] z) = false := by simp
    have m1 := ev45 0 (fns []) (by omega) rfl
    have q5 : decide (((2 * 0 + 1 : Nat) : Int) < 0) = false := decide_eq_false (by omega)
    have q3 := ev32 0 (fns []) (fns []) (fun j => ([] : List (Int × Int)).getD j (0, 0)) (some 0) (some 0) (by omega) (fun j hj => fns_pair (by simp at hj)) (fun j hj => fns_pair (by simp at hj))
    cases hs : dnL [] z with
    | nil =>
      rw [hs] at e1 e2
      by_cases hc0 : dnC [] z = 0
      · rw [if_pos hc0] at e1
        refine has13.eev rfl rfl ?_
        unfold m13
        repeat' (first
          | (refine g_op ?_; first
            | refine ep_mov rfl ?_
            | refine ep_call0 rfl (by first | exact e0 | exact s0 | exact e1 | exact e2 | exact q3 | exact m1 | exact ev19_nils_emp | exact ev20_nils | exact ev21_nils) rfl rfl ?_
            | refine sp_call rfl rfl rfl rfl (by first | exact e0 | exact s0 | exact e1 | exact e2 | exact q3 | exact m1 | exact ev19_nils_emp | exact ev20_nils | exact ev21_nils) ⟨rfl, rfl, rfl, rfl⟩ rfl rfl rfl ?_
            | refine ep_bin rfl rfl (by first | exact b_add (by omega) (by omega) | exact b_sub (by omega) (by omega) | exact b_and (by omega) (by omega) | exact b_or (by omega) (by omega) | exact b_shr (by omega) | exact b_shl (by omega) (by omega) | exact b_lss | exact b_leq | exact b_gtr | exact b_geq | exact b_eql | exact b_neq) ?_
            | refine ep_pickT rfl rfl ?_ | refine ep_pickF rfl rfl ?_ | refine ep_pickTH rfl (by assumption) rfl ?_ | refine ep_pickFH rfl (by assumption) rfl ?_ | refine ep_extract rfl rfl ?_ | refine ep_not rfl ?_)
          | (refine g_ops ?_; first | refine eo_none ?_ | refine eo_nil ?_ | refine eo_yes rfl ?_ | refine eo_no rfl ?_ | refine eo_und rfl ?_ | refine eo_yesH rfl (by assumption) ?_ | refine eo_noH rfl (by assumption) ?_)
          | (refine g_code ?_; first | refine ec_seq ?_ | refine ec_region ?_ | refine ec_skip ?_ | refine ec_ret ?_ | refine ec_condT rfl ?_ | refine ec_condF rfl ?_ | refine ec_condTH rfl (by assumption) ?_ | refine ec_condFH rfl (by assumption) ?_)
          | refine ek_seqN ?_ | refine ek_seqR ?_)
        refine sfin (.inr rfl) (by rfl) (by rfl) (by exact ⟨rfl, rfl, rfl⟩) (by rfl) (by rfl) (by rfl) (by first | rfl | (simp; done) | (simp [ints, prs]; done))
      · rw [if_neg hc0] at e1
        refine has13.eev rfl rfl ?_
        unfold m13
        repeat' (first
          | (refine g_op ?_; first
            | refine ep_mov rfl ?_
            | refine ep_call0 rfl (by first | exact e0 | exact s0 | exact e1 | exact e2 | exact q3 | exact m1 | exact ev19_nils_nils | exact ev20_nils | exact ev21_nils) rfl rfl ?_
            | refine sp_call rfl rfl rfl rfl (by first | exact e0 | exact s0 | exact e1 | exact e2 | exact q3 | exact m1 | exact ev19_nils_nils | exact ev20_nils | exact ev21_nils) ⟨rfl, rfl, rfl, rfl⟩ rfl rfl rfl ?_
            | refine ep_bin rfl rfl (by first | exact b_add (by omega) (by omega) | exact b_sub (by omega) (by omega) | exact b_and (by omega) (by omega) | exact b_or (by omega) (by omega) | exact b_shr (by omega) | exact b_shl (by omega) (by omega) | exact b_lss | exact b_leq | exact b_gtr | exact b_geq | exact b_eql | exact b_neq) ?_
            | refine ep_pickT rfl rfl ?_ | refine ep_pickF rfl rfl ?_ | refine ep_pickTH rfl (by assumption) rfl ?_ | refine ep_pickFH rfl (by assumption) rfl ?_ | refine ep_extract rfl rfl ?_ | refine ep_not rfl ?_)
          | (refine g_ops ?_; first | refine eo_none ?_ | refine eo_nil ?_ | refine eo_yes rfl ?_ | refine eo_no rfl ?_ | refine eo_und rfl ?_ | refine eo_yesH rfl (by assumption) ?_ | refine eo_noH rfl (by assumption) ?_)
          | (refine g_code ?_; first | refine ec_seq ?_ | refine ec_region ?_ | refine ec_skip ?_ | refine ec_ret ?_ | refine ec_condT rfl ?_ | refine ec_condF rfl ?_ | refine ec_condTH rfl (by assumption) ?_ | refine ec_condFH rfl (by assumption) ?_)
          | refine ek_seqN ?_ | refine ek_seqR ?_)
        refine sfin (.inr rfl) (by rfl) (by rfl) (by exact ⟨rfl, rfl, rfl⟩) (by rfl) (by rfl) (by rfl) (by first | rfl | (simp; done) | (simp [ints, prs]; done))
    | cons x xs =>
      have hlen := dnL_len [] z
      rw [hs] at e1 e2 hlen
      have e3 := ev19 (x :: xs).length (ints (x :: xs)) (ints (x :: xs)) (fun j => (((x :: xs).getD j 0 : Nat) : Int)) (some 0) (some 0) (by omega) (fun j hj => ints_get hj) (fun j hj => ints_get hj)
      have e4 := ev20 (x :: xs).length (ints (x :: xs)) (by omega) (ints_len _)
      have e5 := ev21 (x :: xs).length (ints (x :: xs)) (by omega)
      have q1 : decide ((((x :: xs).length + 1 : Nat) : Int) < 0) = false := decide_eq_false (by omega)
      have q2 : ((((x :: xs).length + 1 : Nat) : Int) != ((x :: xs).length + 1 : Nat)) = false := by simp
      refine has13.eev rfl rfl ?_
      unfold m13
      repeat' (first
        | (refine g_op ?_; first
          | refine ep_mov rfl ?_
          | refine ep_call0 rfl (by first | exact e0 | exact s0 | exact e1 | exact e2 | exact q3 | exact m1 | exact e3 | exact e4 | exact e5) rfl rfl ?_
          | refine sp_call rfl rfl rfl rfl (by first | exact e0 | exact s0 | exact e1 | exact e2 | exact q3 | exact m1 | exact e3 | exact e4 | exact e5) ⟨rfl, rfl, rfl, rfl⟩ rfl rfl rfl ?_
          | refine ep_bin rfl rfl (by first | exact b_add (by omega) (by omega) | exact b_sub (by omega) (by omega) | exact b_and (by omega) (by omega) | exact b_or (by omega) (by omega) | exact b_shr (by omega) | exact b_shl (by omega) (by omega) | exact b_lss | exact b_leq | exact b_gtr | exact b_geq | exact b_eql | exact b_neq) ?_
          | refine ep_pickT rfl rfl ?_ | refine ep_pickF rfl rfl ?_ | refine ep_pickTH rfl (by assumption) rfl ?_ | refine ep_pickFH rfl (by assumption) rfl ?_ | refine ep_extract rfl rfl ?_ | refine ep_not rfl ?_)
        | (refine g_ops ?_; first | refine eo_none ?_ | refine eo_nil ?_ | refine eo_yes rfl ?_ | refine eo_no rfl ?_ | refine eo_und rfl ?_ | refine eo_yesH rfl (by assumption) ?_ | refine eo_noH rfl (by assumption) ?_)
        | (refine g_code ?_; first | refine ec_seq ?_ | refine ec_region ?_ | refine ec_skip ?_ | refine ec_ret ?_ | refine ec_condT rfl ?_ | refine ec_condF rfl ?_ | refine ec_condTH rfl (by assumption) ?_ | refine ec_condFH rfl (by assumption) ?_)
        | refine ek_seqN ?_ | refine ek_seqR ?_)
      refine sfin (.inr rfl) (by rfl) (by rfl) (by exact ⟨rfl, rfl, rfl⟩) (by rfl) (by rfl) (by rfl) (by first | rfl | (simp; done) | (simp [ints, prs]; done))
  | sl o n c hc =>
    have s0 := ev26 o n c (by omega)
    by_cases hn : n ≤ 1048576
    · rw [if_pos hn] at s0
      have g1 : decide ((1048576 - (n : Nat) : Int) < 0) = false := decide_eq_false (by omega)
      have e0 := ev28 o n c hc hn
      rw [prOf_fns n c hc] at e0
      have e1 := ev47 (prOf c n) z (by rw [prOf_len]; exact hn)
      have e2 := ev48 (prOf c n) z (by rw [prOf_len]; exact hn)
      rw [prOf_len] at e1 e2
      have h2 : (dnC (prOf c n) z != dnC (prOf c n) z) = false := by simp
      have m1 := ev45 n (fns (prOf c n)) (by omega) (by rw [fns_len, prOf_len])
      have q5 : decide (((2 * n + 1 : Nat) : Int) < 0) = false := decide_eq_false (by omega)
      have q3 := ev32 n (fns (prOf c n)) (fns (prOf c n)) (fun j => ((prOf c n) : List (Int × Int)).getD j (0, 0)) (some 0) (some 0) (by omega) (fun j hj => fns_pair (by rwa [prOf_len])) (fun j hj => fns_pair (by rwa [prOf_len]))
      cases hs : dnL (prOf c n) z with
      | nil =>
        rw [hs] at e1 e2
        by_cases hc0 : dnC (prOf c n) z = 0
        · rw [if_pos hc0] at e1
          refine has13.eev rfl rfl ?_
          unfold m13
          repeat' (first
            | (refine g_op ?_; first
              | refine ep_mov rfl ?_
              | refine ep_call0 rfl (by first | exact e0 | exact s0 | exact e1 | exact e2 | exact q3 | exact m1 | exact ev19_nils_emp | exact ev20_nils | exact ev21_nils) rfl rfl ?_
              | refine sp_call rfl rfl rfl rfl (by first | exact e0 | exact s0 | exact e1 | exact e2 | exact q3 | exact m1 | exact ev19_nils_emp | exact ev20_nils | exact ev21_nils) ⟨rfl, rfl, rfl, rfl⟩ rfl rfl rfl ?_
              | refine ep_bin rfl rfl (by first | exact b_add (by omega) (by omega) | exact b_sub (by omega) (by omega) | exact b_and (by omega) (by omega) | exact b_or (by omega) (by omega) | exact b_shr (by omega) | exact b_shl (by omega) (by omega) | exact b_lss | exact b_leq | exact b_gtr | exact b_geq | exact b_eql | exact b_neq) ?_
              | refine ep_pickT rfl rfl ?_ | refine ep_pickF rfl rfl ?_ | refine ep_pickTH rfl (by assumption) rfl ?_ | refine ep_pickFH rfl (by assumption) rfl ?_ | refine ep_extract rfl rfl ?_ | refine ep_not rfl ?_)
            | (refine g_ops ?_; first | refine eo_none ?_ | refine eo_nil ?_ | refine eo_yes rfl ?_ | refine eo_no rfl ?_ | refine eo_und rfl ?_ | refine eo_yesH rfl (by assumption) ?_ | refine eo_noH rfl (by assumption) ?_)
            | (refine g_code ?_; first | refine ec_seq ?_ | refine ec_region ?_ | refine ec_skip ?_ | refine ec_ret ?_ | refine ec_condT rfl ?_ | refine ec_condF rfl ?_ | refine ec_condTH rfl (by assumption) ?_ | refine ec_condFH rfl (by assumption) ?_)
            | refine ek_seqN ?_ | refine ek_seqR ?_)
          refine sfin (.inr rfl) (by rfl) (by rfl) (by exact ⟨rfl, rfl, rfl⟩) (by rfl) (by rfl) (by rfl) (by first | rfl | (simp; done) | (simp [ints, prs]; done))
        · rw [if_neg hc0] at e1
          refine has13.eev rfl rfl ?_
          unfold m13
          repeat' (first
            | (refine g_op ?_; first
              | refine ep_mov rfl ?_
              | refine ep_call0 rfl (by first | exact e0 | exact s0 | exact e1 | exact e2 | exact q3 | exact m1 | exact ev19_nils_nils | exact ev20_nils | exact ev21_nils) rfl rfl ?_
              | refine sp_call rfl rfl rfl rfl (by first | exact e0 | exact s0 | exact e1 | exact e2 | exact q3 | exact m1 | exact ev19_nils_nils | exact ev20_nils | exact ev21_nils) ⟨rfl, rfl, rfl, rfl⟩ rfl rfl rfl ?_
              | refine ep_bin rfl rfl (by first | exact b_add (by omega) (by omega) | exact b_sub (by omega) (by omega) | exact b_and (by omega) (by omega) | exact b_or (by omega) (by omega) | exact b_shr (by omega) | exact b_shl (by omega) (by omega) | exact b_lss | exact b_leq | exact b_gtr | exact b_geq | exact b_eql | exact b_neq) ?_
              | refine ep_pickT rfl rfl ?_ | refine ep_pickF rfl rfl ?_ | refine ep_pickTH rfl (by assumption) rfl ?_ | refine ep_pickFH rfl (by assumption) rfl ?_ | refine ep_extract rfl rfl ?_ | refine ep_not rfl ?_)
            | (refine g_ops ?_; first | refine eo_none ?_ | refine eo_nil ?_ | refine eo_yes rfl ?_ | refine eo_no rfl ?_ | refine eo_und rfl ?_ | refine eo_yesH rfl (by assumption) ?_ | refine eo_noH rfl (by assumption) ?_)
            | (refine g_code ?_; first | refine ec_seq ?_ | refine ec_region ?_ | refine ec_skip ?_ | refine ec_ret ?_ | refine ec_condT rfl ?_ | refine ec_condF rfl ?_ | refine ec_condTH rfl (by assumption) ?_ | refine ec_condFH rfl (by assumption) ?_)
            | refine ek_seqN ?_ | refine ek_seqR ?_)
          refine sfin (.inr rfl) (by rfl) (by rfl) (by exact ⟨rfl, rfl, rfl⟩) (by rfl) (by rfl) (by rfl) (by first | rfl | (simp; done) | (simp [ints, prs]; done))
      | cons x xs =>
        have hlen := dnL_len (prOf c n) z
        rw [hs] at e1 e2 hlen
        have e3 := ev19 (x :: xs).length (ints (x :: xs)) (ints (x :: xs)) (fun j => (((x :: xs).getD j 0 : Nat) : Int)) (some 0) (some 0) (by omega) (fun j hj => ints_get hj) (fun j hj => ints_get hj)
        have e4 := ev20 (x :: xs).length (ints (x :: xs)) (by omega) (ints_len _)
        have e5 := ev21 (x :: xs).length (ints (x :: xs)) (by omega)
        have q1 : decide ((((x :: xs).length + 1 : Nat) : Int) < 0) = false := decide_eq_false (by omega)
        have q2 : ((((x :: xs).length + 1 : Nat) : Int) != ((x :: xs).length + 1 : Nat)) = false := by simp
        refine has13.eev rfl rfl ?_
        unfold m13
        repeat' (first
          | (refine g_op ?_; first
            | refine ep_mov rfl ?_
            | refine ep_call0 rfl (by first | exact e0 | exact s0 | exact e1 | exact e2 | exact q3 | exact m1 | exact e3 | exact e4 | exact e5) rfl rfl ?_
            | refine sp_call rfl rfl rfl rfl (by first | exact e0 | exact s0 | exact e1 | exact e2 | exact q3 | exact m1 | exact e3 | exact e4 | exact e5) ⟨rfl, rfl, rfl, rfl⟩ rfl rfl rfl ?_
            | refine ep_bin rfl rfl (by first | exact b_add (by omega) (by omega) | exact b_sub (by omega) (by omega) | exact b_and (by omega) (by omega) | exact b_or (by omega) (by omega) | exact b_shr (by omega) | exact b_shl (by omega) (by omega) | exact b_lss | exact b_leq | exact b_gtr | exact b_geq | exact b_eql | exact b_neq) ?_
            | refine ep_pickT rfl rfl ?_ | refine ep_pickF rfl rfl ?_ | refine ep_pickTH rfl (by assumption) rfl ?_ | refine ep_pickFH rfl (by assumption) rfl ?_ | refine ep_extract rfl rfl ?_ | refine ep_not rfl ?_)
          | (refine g_ops ?_; first | refine eo_none ?_ | refine eo_nil ?_ | refine eo_yes rfl ?_ | refine eo_no rfl ?_ | refine eo_und rfl ?_ | refine eo_yesH rfl (by assumption) ?_ | refine eo_noH rfl (by assumption) ?_)
          | (refine g_code ?_; first | refine ec_seq ?_ | refine ec_region ?_ | refine ec_skip ?_ | refine ec_ret ?_ | refine ec_condT rfl ?_ | refine ec_condF rfl ?_ | refine ec_condTH rfl (by assumption) ?_ | refine ec_condFH rfl (by assumption) ?_)
          | refine ek_seqN ?_ | refine ek_seqR ?_)
        refine sfin (.inr rfl) (by rfl) (by rfl) (by exact ⟨rfl, rfl, rfl⟩) (by rfl) (by rfl) (by rfl) (by first | rfl | (simp; done) | (simp [ints, prs]; done))
    · rw [if_neg hn] at s0
      refine has13.eev rfl rfl ?_
      unfold m13
      repeat' (first
        | (refine g_op ?_; first
          | refine ep_mov rfl ?_
          | refine ep_call0 rfl (by first | exact s0) rfl rfl ?_
          | refine sp_call rfl rfl rfl rfl (by first | exact s0) ⟨rfl, rfl, rfl, rfl⟩ rfl rfl rfl ?_
          | refine ep_bin rfl rfl (by first | exact b_add (by omega) (by omega) | exact b_sub (by omega) (by omega) | exact b_and (by omega) (by omega) | exact b_or (by omega) (by omega) | exact b_shr (by omega) | exact b_shl (by omega) (by omega) | exact b_lss | exact b_leq | exact b_gtr | exact b_geq | exact b_eql | exact b_neq) ?_
          | refine ep_pickT rfl rfl ?_ | refine ep_pickF rfl rfl ?_ | refine ep_pickTH rfl (by assumption) rfl ?_ | refine ep_pickFH rfl (by assumption) rfl ?_ | refine ep_extract rfl rfl ?_ | refine ep_not rfl ?_)
        | (refine g_ops ?_; first | refine eo_none ?_ | refine eo_nil ?_ | refine eo_yes rfl ?_ | refine eo_no rfl ?_ | refine eo_und rfl ?_ | refine eo_yesH rfl (by assumption) ?_ | refine eo_noH rfl (by assumption) ?_)
        | (refine g_code ?_; first | refine ec_seq ?_ | refine ec_region ?_ | refine ec_skip ?_ | refine ec_ret ?_ | refine ec_condT rfl ?_ | refine ec_condF rfl ?_ | refine ec_condTH rfl (by assumption) ?_ | refine ec_condFH rfl (by assumption) ?_)
        | refine ek_seqN ?_ | refine ek_seqR ?_)
      refine sfin (.inr rfl) (by rfl) (by rfl) (by exact ⟨rfl, rfl, rfl⟩) (by rfl) (by rfl) (by rfl) (by first | rfl | (simp; done) | (simp [ints, prs]; done))



end Go.Proofs.Ytdmpajkcpdjfbaa
