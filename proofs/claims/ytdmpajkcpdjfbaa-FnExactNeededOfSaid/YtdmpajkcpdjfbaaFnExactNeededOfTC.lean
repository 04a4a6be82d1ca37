/- What each function that the statement reaches returns. -/
import Derived.Test.YtdmpajkcpdjfbaaFnExactNeededOfTB
set_option linter.unusedVariables false
set_option linter.unusedSimpArgs false
set_option maxRecDepth 100000
set_option maxHeartbeats 4000000
namespace Go.Proofs.Ytdmpajkcpdjfbaa
open Go Go.Proofs.Ytdmpajkcpdjfbaa.Mi
attribute [local irreducible] code opsK opsDK gopK opK seqK blockK callK binV
attribute [local irreducible] R2 bt
-- spec.l04Depths
def m83_0 : MC := (.seq (.seq (.region [⟨(.mov (.t 6)), (some 14), none⟩, ⟨(.mov (.t 1)), (some 15), none⟩, ⟨(.call 98 [(.t 15)]), (some 16), none⟩, ⟨(.bin .leq (.t 14) (.t 16)), (some 17), none⟩] false) (.cond (.t 17) .skip (.exit 0))) (.seq (.block 1 (.region [⟨(.mov (.t 5)), (some 20), none⟩, ⟨(.bslice 1 [(.int .i64 0)] 1 [(0, (1, (.k (.int .i64 (-1)))))]), (some 21), none⟩, ⟨(.append 1 8 (.t 20) (.t 21)), (some 22), none⟩, ⟨(.mov (.t 22)), (some 5), none⟩] false)) (.region [⟨(.mov (.t 6)), (some 18), none⟩, ⟨(.bin .add (.t 18) (.k (.int .i64 1))), (some 19), none⟩, ⟨(.mov (.t 19)), (some 6), none⟩] false)))
def m83_1 : MC := (.seq (.seq (.region [⟨(.mov (.t 7)), (some 23), none⟩, ⟨(.mov (.t 1)), (some 24), none⟩, ⟨(.bin .lss (.t 23) (.t 24)), (some 25), none⟩] false) (.cond (.t 25) .skip (.exit 2))) (.seq (.block 3 (.region [⟨(.mov (.t 5)), (some 28), none⟩, ⟨(.mov (.t 1)), (some 29), none⟩, ⟨(.mov (.t 7)), (some 30), none⟩, ⟨(.call 122 [(.t 29), (.t 30)]), (some 31), none⟩, ⟨(.field 1 none (.t 31)), (some 32), none⟩, ⟨(.indexAddr 1 (.t 28) (.t 32)), (some 33), none⟩, ⟨(.store 1 (.t 33) (.k (.int .i64 0))), none, none⟩] false)) (.region [⟨(.mov (.t 7)), (some 26), none⟩, ⟨(.bin .add (.t 26) (.k (.int .i64 1))), (some 27), none⟩, ⟨(.mov (.t 27)), (some 7), none⟩] false)))
def m83_3 : MC := (.seq (.seq (.region [⟨(.mov (.t 11)), (some 38), none⟩, ⟨(.mov (.t 1)), (some 39), none⟩, ⟨(.call 98 [(.t 39)]), (some 40), none⟩, ⟨(.bin .leq (.t 38) (.t 40)), (some 41), none⟩] false) (.cond (.t 41) .skip (.exit 6))) (.seq (.block 7 (.seq (.region [⟨(.mov (.t 5)), (some 44), none⟩, ⟨(.mov (.t 11)), (some 45), none⟩, ⟨(.indexAddr 1 (.t 44) (.t 45)), (some 46), none⟩, ⟨(.load none (.t 46)), (some 47), none⟩, ⟨(.bin .geq (.t 47) (.k (.int .i64 0))), (some 48), none⟩] false) (.cond (.t 48) (.region [⟨(.mov (.t 10)), (some 49), none⟩, ⟨(.mov (.t 11)), (some 50), none⟩, ⟨(.bslice 1 [(.int .i64 0)] 1 [(0, (1, (.t 50)))]), (some 51), none⟩, ⟨(.append 1 8 (.t 49) (.t 51)), (some 52), none⟩, ⟨(.mov (.t 52)), (some 10), none⟩] false) .skip))) (.region [⟨(.mov (.t 11)), (some 42), none⟩, ⟨(.bin .add (.t 42) (.k (.int .i64 1))), (some 43), none⟩, ⟨(.mov (.t 43)), (some 11), none⟩] false)))
def m83_4 : MC := (.seq (.seq (.region [⟨(.mov (.t 12)), (some 53), none⟩, ⟨(.mov (.t 0)), (some 54), none⟩, ⟨(.len (.t 54)), (some 55), none⟩, ⟨(.bin .lss (.t 53) (.t 55)), (some 56), none⟩] false) (.cond (.t 56) .skip (.exit 8))) (.seq (.block 9 (.seq (.region [⟨(.mov (.t 0)), (some 59), none⟩, ⟨(.mov (.t 12)), (some 60), none⟩, ⟨(.indexAddr 2 (.t 59) (.t 60)), (some 61), none⟩, ⟨(.load (some 2) (.t 61)), (some 62), none⟩, ⟨(.mov (.t 5)), (some 63), none⟩, ⟨(.mov (.t 10)), (some 64), none⟩, ⟨.empt, (some 65), none⟩, ⟨(.mov (.t 1)), (some 66), none⟩, ⟨(.mov (.t 9)), (some 67), none⟩, ⟨(.call 123 [(.t 62), (.t 63), (.t 64), (.t 65), (.t 66), (.t 67)]), (some 68), none⟩] false) (.cond (.t 68) (.region [⟨(.mov (.k (.bool true))), (some 8), none⟩] false) .skip))) (.region [⟨(.mov (.t 12)), (some 57), none⟩, ⟨(.bin .add (.t 57) (.k (.int .i64 1))), (some 58), none⟩, ⟨(.mov (.t 58)), (some 12), none⟩] false)))
def m83_2 : MC := (.seq (.seq (.region [⟨(.mov (.t 8)), (some 34), none⟩] false) (.cond (.t 34) .skip (.exit 4))) (.seq (.block 5 (.seq (.region [⟨(.mov (.k (.bool false))), (some 8), none⟩] false) (.seq (.region [⟨.empt, (some 37), none⟩, ⟨(.mov (.t 37)), (some 10), none⟩] false) (.seq (.seq (.region [⟨(.mov (.k (.int .i64 0))), (some 11), none⟩] false) (.block 6 (.loop m83_3))) (.seq (.region [⟨(.mov (.k (.int .i64 0))), (some 12), none⟩] false) (.block 8 (.loop m83_4))))))) (.region [⟨(.mov (.t 9)), (some 35), none⟩, ⟨(.bin .add (.t 35) (.k (.int .i64 1))), (some 36), none⟩, ⟨(.mov (.t 36)), (some 9), none⟩] false)))
def m83 : MC := (.seq (.region [⟨(.mov (.k .nils)), (some 4), none⟩] false) (.seq (.region [⟨.empt, (some 13), none⟩, ⟨(.mov (.t 13)), (some 5), none⟩] false) (.seq (.seq (.region [⟨(.mov (.k (.int .i64 0))), (some 6), none⟩] false) (.block 0 (.loop m83_0))) (.seq (.seq (.region [⟨(.mov (.k (.int .i64 0))), (some 7), none⟩] false) (.block 2 (.loop m83_1))) (.seq (.region [⟨(.mov (.k (.bool true))), (some 8), none⟩] false) (.seq (.seq (.region [⟨(.mov (.k (.int .i64 1))), (some 9), none⟩] false) (.block 4 (.loop m83_2))) (.seq (.region [⟨(.mov (.t 5)), (some 69), none⟩, ⟨(.mov (.t 69)), (some 4), none⟩] false) .ret)))))))
theorem has83 : Has cx 83 70 m83 [(.tmp 4)] :=
  ⟨⟨Try.f83, Try.f83.body.getD .skip, by kernel_rfl, by kernel_rfl, by kernel_rfl, by kernel_rfl, by kernel_rfl, by kernel_rfl⟩⟩
theorem lp83_0 (q n : Nat) (fs : List (Int × Int)) (hn : n ≤ 3) (o : Out) (ho : (match selm (fun _ => true) (idn) (R2 (R2 n)) with | [] => (⟨.exit 0, [(0, .sl 0 0 fs.length), (1, .int .i64 (n : Nat)), (5, .emp)], [⟨fns fs, 2, 0, some q, false⟩]⟩ : Out) | x :: xs => ⟨.exit 0, [(0, .sl 0 0 fs.length), (1, .int .i64 (n : Nat)), (5, .sl 1 0 (x :: xs).length)], [⟨fns fs, 2, 0, some q, false⟩, ⟨zints <| mneg (x :: xs), 1, 1, some 0, false⟩]⟩) = o) :
    LpS cx 70 1 m83_0 [(0, .sl 0 0 fs.length), (1, .int .i64 (n : Nat)), (5, .emp), (6, .int .i64 (0 : Nat))] [⟨fns fs, 2, 0, some q, false⟩] o.x o.e o.h := by
  obtain ⟨h1, h2, h3, h4⟩ := shN (n := n) (by omega)
  subst ho
  refine lp_st (R2 (R2 n)) (selm (fun _ => true) (idn)) (fun i s => match s with | [] => [(0, .sl 0 0 fs.length), (1, .int .i64 (n : Nat)), (5, .emp), (6, .int .i64 (i : Nat))] | x :: xs => [(0, .sl 0 0 fs.length), (1, .int .i64 (n : Nat)), (5, .sl 1 0 (x :: xs).length), (6, .int .i64 (i : Nat))]) (fun i s => match s with | [] => [⟨fns fs, 2, 0, some q, false⟩] | x :: xs => [⟨fns fs, 2, 0, some q, false⟩, ⟨zints <| mneg (x :: xs), 1, 1, some 0, false⟩]) (fun s => match s with | [] => ⟨.exit 0, [(0, .sl 0 0 fs.length), (1, .int .i64 (n : Nat)), (5, .emp)], [⟨fns fs, 2, 0, some q, false⟩]⟩ | x :: xs => ⟨.exit 0, [(0, .sl 0 0 fs.length), (1, .int .i64 (n : Nat)), (5, .sl 1 0 (x :: xs).length)], [⟨fns fs, 2, 0, some q, false⟩, ⟨zints <| mneg (x :: xs), 1, 1, some 0, false⟩]⟩) ?_ ?_ (R2 (R2 n)) 0 (by omega)
  · intro i s hi hs
    have hlt : decide ((i : Int) < (R2 (R2 n) : Nat)) = true := decide_eq_true (by omega)
    have hle : decide ((i : Int) ≤ (R2 (R2 n) : Nat) - 1) = true := decide_eq_true (by omega)
    have hlen : s.length ≤ 65536 := by have := selm_len (fun _ => true) (idn) i; rw [hs] at this; omega
    have hp : (fun _ => true) i = true := rfl
    cases s with
    | nil =>
      refine ⟨[(idn) i], by rw [selm_t (p := fun _ => true) hp, hs]; try rfl, ?_⟩
      unfold m83_0
      repeat' (first
        | refine sp_push rfl rfl rfl rfl rfl rfl rfl (mneg_len _) (by omega) (Nat.zero_le _) rfl rfl rfl rfl rfl ?_
        | (refine g_op ?_; first
          | refine ep_mov rfl ?_
          | refine ep_call0 rfl (by first | exact ev98 n (by omega)) rfl rfl ?_
          | refine sp_call rfl rfl rfl rfl (by first | exact ev98 n (by omega)) ⟨rfl, rfl, rfl, rfl⟩ rfl rfl rfl ?_
          | refine ep_bin rfl rfl (by first | exact b_add (by omega) (by omega) | exact b_sub (by omega) (by omega) | exact b_and (by omega) (by omega) | exact b_or (by omega) (by omega) | exact b_shr (by omega) | exact b_shl (by omega) (by omega) | exact b_lss | exact b_leq | exact b_gtr | exact b_geq | exact b_eql | exact b_neq) ?_
          | refine sp_bslice rfl rfl rfl rfl rfl ?_ | refine sp_push0 rfl (by first | exact .inl rfl | exact .inr rfl) rfl rfl rfl rfl rfl (by decide) rfl rfl rfl ?_ | refine sp_push rfl rfl rfl rfl rfl rfl rfl (by first | exact ints_len _ | exact prs_len _ _ | exact zints_len _) (by omega) (Nat.zero_le _) rfl rfl rfl rfl rfl ?_)
        | (refine g_ops ?_; first | refine eo_none ?_ | refine eo_nil ?_)
        | (refine g_code ?_; first | refine ec_seq ?_ | refine ec_region ?_ | refine ec_block ?_ | refine ec_skip ?_ | refine ec_exit ?_ | refine ec_condT rfl ?_ | refine ec_condF rfl ?_ | refine ec_condTH rfl (by assumption) ?_ | refine ec_condFH rfl (by assumption) ?_)
        | refine ek_seqN ?_ | refine ek_seqX ?_ | refine ek_blkN ?_ | refine ek_blkR ?_ | refine ek_blkX ?_ | refine ek_blkY rfl ?_)
      exact rnd_on (by rfl) (scmp2 (by rfl) (by rfl) (by exact ⟨rfl, rfl, rfl⟩) (by rfl) (by first | rfl | (simp; done) | (simp [ints, prs, zints, mneg]; done)) (by rfl) (by first | rfl | (simp; done) | (simp [ints, prs, zints, mneg]; done)))
    | cons x xs =>
      refine ⟨(x :: xs) ++ [(idn) i], by rw [selm_t (p := fun _ => true) hp, hs]; try rfl, ?_⟩
      unfold m83_0
      repeat' (first
        | refine sp_push rfl rfl rfl rfl rfl rfl rfl (mneg_len _) (by omega) (Nat.zero_le _) rfl rfl rfl rfl rfl ?_
        | (refine g_op ?_; first
          | refine ep_mov rfl ?_
          | refine ep_call0 rfl (by first | exact ev98 n (by omega)) rfl rfl ?_
          | refine sp_call rfl rfl rfl rfl (by first | exact ev98 n (by omega)) ⟨rfl, rfl, rfl, rfl⟩ rfl rfl rfl ?_
          | refine ep_bin rfl rfl (by first | exact b_add (by omega) (by omega) | exact b_sub (by omega) (by omega) | exact b_and (by omega) (by omega) | exact b_or (by omega) (by omega) | exact b_shr (by omega) | exact b_shl (by omega) (by omega) | exact b_lss | exact b_leq | exact b_gtr | exact b_geq | exact b_eql | exact b_neq) ?_
          | refine sp_bslice rfl rfl rfl rfl rfl ?_ | refine sp_push0 rfl (by first | exact .inl rfl | exact .inr rfl) rfl rfl rfl rfl rfl (by decide) rfl rfl rfl ?_ | refine sp_push rfl rfl rfl rfl rfl rfl rfl (by first | exact ints_len _ | exact prs_len _ _ | exact zints_len _) (by omega) (Nat.zero_le _) rfl rfl rfl rfl rfl ?_)
        | (refine g_ops ?_; first | refine eo_none ?_ | refine eo_nil ?_)
        | (refine g_code ?_; first | refine ec_seq ?_ | refine ec_region ?_ | refine ec_block ?_ | refine ec_skip ?_ | refine ec_exit ?_ | refine ec_condT rfl ?_ | refine ec_condF rfl ?_ | refine ec_condTH rfl (by assumption) ?_ | refine ec_condFH rfl (by assumption) ?_)
        | refine ek_seqN ?_ | refine ek_seqX ?_ | refine ek_blkN ?_ | refine ek_blkR ?_ | refine ek_blkX ?_ | refine ek_blkY rfl ?_)
      exact rnd_on (by rfl) (scmp2 (by rfl) (by rfl) (by exact ⟨rfl, rfl, rfl⟩) (by rfl) (by first | rfl | (simp; done) | (simp [ints, prs, zints, mneg]; done)) (by rfl) (by first | rfl | (simp; done) | (simp [ints, prs, zints, mneg]; done)))
  · intro s hs
    have hlt : decide (((R2 (R2 n) : Nat) : Int) < (R2 (R2 n) : Nat)) = false := decide_eq_false (by omega)
    have hle : decide (((R2 (R2 n) : Nat) : Int) ≤ (R2 (R2 n) : Nat) - 1) = false := decide_eq_false (by omega)
    cases s with
    | nil =>
      unfold m83_0
      repeat' (first
        | (refine g_op ?_; first
          | refine ep_mov rfl ?_
          | refine ep_call0 rfl (by first | exact ev98 n (by omega)) rfl rfl ?_
          | refine sp_call rfl rfl rfl rfl (by first | exact ev98 n (by omega)) ⟨rfl, rfl, rfl, rfl⟩ rfl rfl rfl ?_
          | refine ep_bin rfl rfl (by first | exact b_add (by omega) (by omega) | exact b_sub (by omega) (by omega) | exact b_and (by omega) (by omega) | exact b_or (by omega) (by omega) | exact b_shr (by omega) | exact b_shl (by omega) (by omega) | exact b_lss | exact b_leq | exact b_gtr | exact b_geq | exact b_eql | exact b_neq) ?_
          | refine sp_bslice rfl rfl rfl rfl rfl ?_ | refine sp_push0 rfl (by first | exact .inl rfl | exact .inr rfl) rfl rfl rfl rfl rfl (by decide) rfl rfl rfl ?_ | refine sp_push rfl rfl rfl rfl rfl rfl rfl (by first | exact ints_len _ | exact prs_len _ _ | exact zints_len _) (by omega) (Nat.zero_le _) rfl rfl rfl rfl rfl ?_)
        | (refine g_ops ?_; first | refine eo_none ?_ | refine eo_nil ?_)
        | (refine g_code ?_; first | refine ec_seq ?_ | refine ec_region ?_ | refine ec_block ?_ | refine ec_skip ?_ | refine ec_exit ?_ | refine ec_condT rfl ?_ | refine ec_condF rfl ?_ | refine ec_condTH rfl (by assumption) ?_ | refine ec_condFH rfl (by assumption) ?_)
        | refine ek_seqN ?_ | refine ek_seqX ?_ | refine ek_blkN ?_ | refine ek_blkR ?_ | refine ek_blkX ?_ | refine ek_blkY rfl ?_)
      exact rnd_out (by rfl) (by simp) (scmp2 (by rfl) (by rfl) (by exact ⟨rfl, rfl, rfl⟩) (by rfl) (by first | rfl | (simp; done) | (simp [ints, prs]; done)) (by rfl) (by first | rfl | (simp; done) | (simp [ints, prs]; done)))
    | cons x xs =>
      unfold m83_0
      repeat' (first
        | (refine g_op ?_; first
          | refine ep_mov rfl ?_
          | refine ep_call0 rfl (by first | exact ev98 n (by omega)) rfl rfl ?_
          | refine sp_call rfl rfl rfl rfl (by first | exact ev98 n (by omega)) ⟨rfl, rfl, rfl, rfl⟩ rfl rfl rfl ?_
          | refine ep_bin rfl rfl (by first | exact b_add (by omega) (by omega) | exact b_sub (by omega) (by omega) | exact b_and (by omega) (by omega) | exact b_or (by omega) (by omega) | exact b_shr (by omega) | exact b_shl (by omega) (by omega) | exact b_lss | exact b_leq | exact b_gtr | exact b_geq | exact b_eql | exact b_neq) ?_
          | refine sp_bslice rfl rfl rfl rfl rfl ?_ | refine sp_push0 rfl (by first | exact .inl rfl | exact .inr rfl) rfl rfl rfl rfl rfl (by decide) rfl rfl rfl ?_ | refine sp_push rfl rfl rfl rfl rfl rfl rfl (by first | exact ints_len _ | exact prs_len _ _ | exact zints_len _) (by omega) (Nat.zero_le _) rfl rfl rfl rfl rfl ?_)
        | (refine g_ops ?_; first | refine eo_none ?_ | refine eo_nil ?_)
        | (refine g_code ?_; first | refine ec_seq ?_ | refine ec_region ?_ | refine ec_block ?_ | refine ec_skip ?_ | refine ec_exit ?_ | refine ec_condT rfl ?_ | refine ec_condF rfl ?_ | refine ec_condTH rfl (by assumption) ?_ | refine ec_condFH rfl (by assumption) ?_)
        | refine ek_seqN ?_ | refine ek_seqX ?_ | refine ek_blkN ?_ | refine ek_blkR ?_ | refine ek_blkX ?_ | refine ek_blkY rfl ?_)
      exact rnd_out (by rfl) (by simp) (scmp2 (by rfl) (by rfl) (by exact ⟨rfl, rfl, rfl⟩) (by rfl) (by first | rfl | (simp; done) | (simp [ints, prs]; done)) (by rfl) (by first | rfl | (simp; done) | (simp [ints, prs]; done)))

theorem lpds1 (q n N : Nat) (fs : List (Int × Int)) (hNn : N = R2 (R2 n)) (hn : n ≤ 3) :
    LpS cx 70 1 m83_1 [(0, .sl 0 0 fs.length), (1, .int .i64 (n : Nat)), (5, .sl 1 0 N), (7, .int .i64 (0 : Nat))] [⟨fns fs, 2, 0, some q, false⟩, ⟨zints (D0 n (0)), 1, 1, some 0, false⟩] (⟨.exit 2, [(0, .sl 0 0 fs.length), (1, .int .i64 (n : Nat)), (5, .sl 1 0 N)], [⟨fns fs, 2, 0, some q, false⟩, ⟨zints (D0 n (n)), 1, 1, some 0, false⟩]⟩ : Out).x (⟨.exit 2, [(0, .sl 0 0 fs.length), (1, .int .i64 (n : Nat)), (5, .sl 1 0 N)], [⟨fns fs, 2, 0, some q, false⟩, ⟨zints (D0 n (n)), 1, 1, some 0, false⟩]⟩ : Out).e (⟨.exit 2, [(0, .sl 0 0 fs.length), (1, .int .i64 (n : Nat)), (5, .sl 1 0 N)], [⟨fns fs, 2, 0, some q, false⟩, ⟨zints (D0 n (n)), 1, 1, some 0, false⟩]⟩ : Out).h := by
  refine lp_st (n) (fun _ => ()) (fun i _ => [(0, .sl 0 0 fs.length), (1, .int .i64 (n : Nat)), (5, .sl 1 0 N), (7, .int .i64 (i : Nat))]) (fun i _ => [⟨fns fs, 2, 0, some q, false⟩, ⟨zints (D0 n (i)), 1, 1, some 0, false⟩]) (fun _ => (⟨.exit 2, [(0, .sl 0 0 fs.length), (1, .int .i64 (n : Nat)), (5, .sl 1 0 N)], [⟨fns fs, 2, 0, some q, false⟩, ⟨zints (D0 n (n)), 1, 1, some 0, false⟩]⟩ : Out)) ?_ ?_ (n) 0 (by omega)
  · intro i u_ hi hu_
    refine ⟨(), rfl, ?_⟩
    have hlt : decide ((i : Int) < (n : Nat)) = true := decide_eq_true (by omega)
    have hp := projB_lt n i
    have hl := D0_len n i
    have hset := zints_set (D := D0 n i) (b := projB n i) (d := 0) (by omega)
    rw [← D0_s] at hset
    have hzl := zints_len (D0 n i)
    unfold m83_1
    repeat' (first
      | refine sp_storeS rfl rfl rfl rfl rfl rfl rfl (Nat.zero_le _) (by omega) hset rfl ?_
      | (refine g_op ?_; first
        | refine ep_mov rfl ?_
        | refine ep_call0 rfl (by first | exact evpjS n i (by omega) (by omega)) rfl rfl ?_
        | refine sp_call rfl rfl rfl rfl (by first | exact evpjS n i (by omega) (by omega)) ⟨rfl, rfl, rfl, rfl⟩ rfl rfl rfl ?_
        | refine ep_bin rfl rfl (by first | exact b_add (by omega) (by omega) | exact b_sub (by omega) (by omega) | exact b_and (by omega) (by omega) | exact b_or (by omega) (by omega) | exact b_shr (by omega) | exact b_shl (by omega) (by omega) | exact b_lss | exact b_leq | exact b_gtr | exact b_geq | exact b_eql | exact b_neq) ?_
        | refine sp_store rfl rfl rfl rfl rfl rfl rfl rfl rfl rfl ?_ | refine ep_field1 rfl rfl ?_ | refine sp_idx rfl rfl rfl (by omega) rfl ?_)
      | (refine g_ops ?_; first | refine eo_none ?_ | refine eo_nil ?_)
      | (refine g_code ?_; first | refine ec_seq ?_ | refine ec_region ?_ | refine ec_block ?_ | refine ec_skip ?_ | refine ec_exit ?_ | refine ec_condT rfl ?_ | refine ec_condF rfl ?_ | refine ec_condTH rfl (by assumption) ?_ | refine ec_condFH rfl (by assumption) ?_)
      | refine ek_seqN ?_ | refine ek_seqX ?_ | refine ek_blkN ?_ | refine ek_blkR ?_ | refine ek_blkX ?_ | refine ek_blkY rfl ?_)
    exact rnd_on (by rfl) (scmp2 (by rfl) (by rfl) (by exact ⟨rfl, rfl, rfl⟩) (by rfl) (by first | rfl | (simp; done) | (simp [ints, prs]; done)) (by rfl) (by first | rfl | (simp; done) | (simp [ints, prs]; done)))
  · intro u_ hu_
    have hlt : decide (((n : Nat) : Int) < (n : Nat)) = false := decide_eq_false (by omega)
    unfold m83_1
    repeat' (first
      | (refine g_op ?_; first
        | refine ep_mov rfl ?_
        | refine ep_bin rfl rfl (by first | exact b_add (by omega) (by omega) | exact b_sub (by omega) (by omega) | exact b_and (by omega) (by omega) | exact b_or (by omega) (by omega) | exact b_shr (by omega) | exact b_shl (by omega) (by omega) | exact b_lss | exact b_leq | exact b_gtr | exact b_geq | exact b_eql | exact b_neq) ?_
        | refine sp_store rfl rfl rfl rfl rfl rfl rfl rfl rfl rfl ?_ | refine ep_field1 rfl rfl ?_ | refine sp_idx rfl rfl rfl (by omega) rfl ?_)
      | (refine g_ops ?_; first | refine eo_none ?_ | refine eo_nil ?_)
      | (refine g_code ?_; first | refine ec_seq ?_ | refine ec_region ?_ | refine ec_block ?_ | refine ec_skip ?_ | refine ec_exit ?_ | refine ec_condT rfl ?_ | refine ec_condF rfl ?_ | refine ec_condTH rfl (by assumption) ?_ | refine ec_condFH rfl (by assumption) ?_)
      | refine ek_seqN ?_ | refine ek_seqX ?_ | refine ek_blkN ?_ | refine ek_blkR ?_ | refine ek_blkX ?_ | refine ek_blkY rfl ?_)
    exact rnd_out (by rfl) (by simp) (scmp2 (by rfl) (by rfl) (by exact ⟨rfl, rfl, rfl⟩) (by rfl) (by first | rfl | (simp; done) | (simp [ints, prs]; done)) (by rfl) (by first | rfl | (simp; done) | (simp [ints, prs]; done)))

theorem lpds3 (q n N d : Nat) (fs : List (Int × Int)) (D : List Int) (hNn : N = R2 (R2 n)) (hn : n ≤ 3) (hN : D.length = N) (o : Out) (ho : (match selm (fun b => decide (D.getD b 0 ≥ 0)) (idn) (R2 (R2 n)) with | [] => (⟨.exit 6, [(0, .sl 0 0 fs.length), (1, .int .i64 (n : Nat)), (5, .sl 1 0 N), (8, .bool false), (9, .int .i64 (d : Nat)), (10, .emp)], [⟨fns fs, 2, 0, some q, false⟩, ⟨zints D, 1, 1, some 0, false⟩]⟩ : Out) | x :: xs => ⟨.exit 6, [(0, .sl 0 0 fs.length), (1, .int .i64 (n : Nat)), (5, .sl 1 0 N), (8, .bool false), (9, .int .i64 (d : Nat)), (10, .sl 2 0 (x :: xs).length)], [⟨fns fs, 2, 0, some q, false⟩, ⟨zints D, 1, 1, some 0, false⟩, ⟨ints (x :: xs), 1, 2, some 0, false⟩]⟩) = o) :
    LpS cx 70 1 m83_3 [(0, .sl 0 0 fs.length), (1, .int .i64 (n : Nat)), (5, .sl 1 0 N), (8, .bool false), (9, .int .i64 (d : Nat)), (10, .emp), (11, .int .i64 (0 : Nat))] [⟨fns fs, 2, 0, some q, false⟩, ⟨zints D, 1, 1, some 0, false⟩] o.x o.e o.h := by
  obtain ⟨h1, h2, h3, h4⟩ := shN (n := n) (by omega)
  subst ho
  refine lp_st (R2 (R2 n)) (selm (fun b => decide (D.getD b 0 ≥ 0)) (idn)) (fun i s => match s with | [] => [(0, .sl 0 0 fs.length), (1, .int .i64 (n : Nat)), (5, .sl 1 0 N), (8, .bool false), (9, .int .i64 (d : Nat)), (10, .emp), (11, .int .i64 (i : Nat))] | x :: xs => [(0, .sl 0 0 fs.length), (1, .int .i64 (n : Nat)), (5, .sl 1 0 N), (8, .bool false), (9, .int .i64 (d : Nat)), (10, .sl 2 0 (x :: xs).length), (11, .int .i64 (i : Nat))]) (fun i s => match s with | [] => [⟨fns fs, 2, 0, some q, false⟩, ⟨zints D, 1, 1, some 0, false⟩] | x :: xs => [⟨fns fs, 2, 0, some q, false⟩, ⟨zints D, 1, 1, some 0, false⟩, ⟨ints (x :: xs), 1, 2, some 0, false⟩]) (fun s => match s with | [] => ⟨.exit 6, [(0, .sl 0 0 fs.length), (1, .int .i64 (n : Nat)), (5, .sl 1 0 N), (8, .bool false), (9, .int .i64 (d : Nat)), (10, .emp)], [⟨fns fs, 2, 0, some q, false⟩, ⟨zints D, 1, 1, some 0, false⟩]⟩ | x :: xs => ⟨.exit 6, [(0, .sl 0 0 fs.length), (1, .int .i64 (n : Nat)), (5, .sl 1 0 N), (8, .bool false), (9, .int .i64 (d : Nat)), (10, .sl 2 0 (x :: xs).length)], [⟨fns fs, 2, 0, some q, false⟩, ⟨zints D, 1, 1, some 0, false⟩, ⟨ints (x :: xs), 1, 2, some 0, false⟩]⟩) ?_ ?_ (R2 (R2 n)) 0 (by omega)
  · intro i s hi hs
    have hlt : decide ((i : Int) < (R2 (R2 n) : Nat)) = true := decide_eq_true (by omega)
    have hle : decide ((i : Int) ≤ (R2 (R2 n) : Nat) - 1) = true := decide_eq_true (by omega)
    have hlen : s.length ≤ 65536 := by have := selm_len (fun b => decide (D.getD b 0 ≥ 0)) (idn) i; rw [hs] at this; omega
    have hget := zints_get (l := D) (j := i) (by omega)
    cases hp : (fun b => decide (D.getD b 0 ≥ 0)) i with
    | true =>
      have hp' : (decide (D.getD i 0 ≥ 0)) = true := hp
      cases s with
      | nil =>
        refine ⟨[(idn) i], by rw [selm_t (p := fun b => decide (D.getD b 0 ≥ 0)) hp, hs]; try rfl, ?_⟩
        unfold m83_3
        repeat' (first
          | refine ep_loadS rfl rfl rfl hget ?_
          | (refine g_op ?_; first
            | refine ep_mov rfl ?_ | refine ep_load1 rfl rfl rfl rfl ?_
            | refine ep_call0 rfl (by first | exact ev98 n (by omega)) rfl rfl ?_
            | refine sp_call rfl rfl rfl rfl (by first | exact ev98 n (by omega)) ⟨rfl, rfl, rfl, rfl⟩ rfl rfl rfl ?_
            | refine ep_bin rfl rfl (by first | exact b_add (by omega) (by omega) | exact b_sub (by omega) (by omega) | exact b_and (by omega) (by omega) | exact b_or (by omega) (by omega) | exact b_shr (by omega) | exact b_shl (by omega) (by omega) | exact b_lss | exact b_leq | exact b_gtr | exact b_geq | exact b_eql | exact b_neq) ?_
            | refine sp_bslice rfl rfl rfl rfl rfl ?_ | refine sp_push0 rfl (by first | exact .inl rfl | exact .inr rfl) rfl rfl rfl rfl rfl (by decide) rfl rfl rfl ?_ | refine sp_push rfl rfl rfl rfl rfl rfl rfl (by first | exact ints_len _ | exact prs_len _ _ | exact zints_len _) (by omega) (Nat.zero_le _) rfl rfl rfl rfl rfl ?_
            | refine sp_idx rfl rfl rfl (by omega) rfl ?_ | refine ep_loadS rfl rfl rfl (by first | exact ints_get (by omega) | exact zints_get (by omega) | exact fget (by omega) | assumption) ?_)
          | (refine g_ops ?_; first | refine eo_none ?_ | refine eo_nil ?_)
          | (refine g_code ?_; first | refine ec_seq ?_ | refine ec_region ?_ | refine ec_block ?_ | refine ec_skip ?_ | refine ec_exit ?_ | refine ec_condT rfl ?_ | refine ec_condF rfl ?_ | refine ec_condTH rfl (by assumption) ?_ | refine ec_condFH rfl (by assumption) ?_)
          | refine ek_seqN ?_ | refine ek_seqX ?_ | refine ek_blkN ?_ | refine ek_blkR ?_ | refine ek_blkX ?_ | refine ek_blkY rfl ?_)
        exact rnd_on (by rfl) (scmp2 (by rfl) (by rfl) (by exact ⟨rfl, rfl, rfl⟩) (by rfl) (by first | rfl | (simp; done) | (simp [ints, prs]; done)) (by rfl) (by first | rfl | (simp; done) | (simp [ints, prs]; done)))
      | cons x xs =>
        refine ⟨(x :: xs) ++ [(idn) i], by rw [selm_t (p := fun b => decide (D.getD b 0 ≥ 0)) hp, hs]; try rfl, ?_⟩
        unfold m83_3
        repeat' (first
          | refine ep_loadS rfl rfl rfl hget ?_
          | (refine g_op ?_; first
            | refine ep_mov rfl ?_ | refine ep_load1 rfl rfl rfl rfl ?_
            | refine ep_call0 rfl (by first | exact ev98 n (by omega)) rfl rfl ?_
            | refine sp_call rfl rfl rfl rfl (by first | exact ev98 n (by omega)) ⟨rfl, rfl, rfl, rfl⟩ rfl rfl rfl ?_
            | refine ep_bin rfl rfl (by first | exact b_add (by omega) (by omega) | exact b_sub (by omega) (by omega) | exact b_and (by omega) (by omega) | exact b_or (by omega) (by omega) | exact b_shr (by omega) | exact b_shl (by omega) (by omega) | exact b_lss | exact b_leq | exact b_gtr | exact b_geq | exact b_eql | exact b_neq) ?_
            | refine sp_bslice rfl rfl rfl rfl rfl ?_ | refine sp_push0 rfl (by first | exact .inl rfl | exact .inr rfl) rfl rfl rfl rfl rfl (by decide) rfl rfl rfl ?_ | refine sp_push rfl rfl rfl rfl rfl rfl rfl (by first | exact ints_len _ | exact prs_len _ _ | exact zints_len _) (by omega) (Nat.zero_le _) rfl rfl rfl rfl rfl ?_
            | refine sp_idx rfl rfl rfl (by omega) rfl ?_ | refine ep_loadS rfl rfl rfl (by first | exact ints_get (by omega) | exact zints_get (by omega) | exact fget (by omega) | assumption) ?_)
          | (refine g_ops ?_; first | refine eo_none ?_ | refine eo_nil ?_)
          | (refine g_code ?_; first | refine ec_seq ?_ | refine ec_region ?_ | refine ec_block ?_ | refine ec_skip ?_ | refine ec_exit ?_ | refine ec_condT rfl ?_ | refine ec_condF rfl ?_ | refine ec_condTH rfl (by assumption) ?_ | refine ec_condFH rfl (by assumption) ?_)
          | refine ek_seqN ?_ | refine ek_seqX ?_ | refine ek_blkN ?_ | refine ek_blkR ?_ | refine ek_blkX ?_ | refine ek_blkY rfl ?_)
        exact rnd_on (by rfl) (scmp2 (by rfl) (by rfl) (by exact ⟨rfl, rfl, rfl⟩) (by rfl) (by first | rfl | (simp; done) | (simp [ints, prs]; done)) (by rfl) (by first | rfl | (simp; done) | (simp [ints, prs]; done)))
    | false =>
      have hp' : (decide (D.getD i 0 ≥ 0)) = false := hp
      cases s with
      | nil =>
        refine ⟨[], by rw [selm_f (p := fun b => decide (D.getD b 0 ≥ 0)) hp, hs]; try rfl, ?_⟩
        unfold m83_3
        repeat' (first
          | refine ep_loadS rfl rfl rfl hget ?_
          | (refine g_op ?_; first
            | refine ep_mov rfl ?_ | refine ep_load1 rfl rfl rfl rfl ?_
            | refine ep_call0 rfl (by first | exact ev98 n (by omega)) rfl rfl ?_
            | refine sp_call rfl rfl rfl rfl (by first | exact ev98 n (by omega)) ⟨rfl, rfl, rfl, rfl⟩ rfl rfl rfl ?_
            | refine ep_bin rfl rfl (by first | exact b_add (by omega) (by omega) | exact b_sub (by omega) (by omega) | exact b_and (by omega) (by omega) | exact b_or (by omega) (by omega) | exact b_shr (by omega) | exact b_shl (by omega) (by omega) | exact b_lss | exact b_leq | exact b_gtr | exact b_geq | exact b_eql | exact b_neq) ?_
            | refine sp_bslice rfl rfl rfl rfl rfl ?_ | refine sp_push0 rfl (by first | exact .inl rfl | exact .inr rfl) rfl rfl rfl rfl rfl (by decide) rfl rfl rfl ?_ | refine sp_push rfl rfl rfl rfl rfl rfl rfl (by first | exact ints_len _ | exact prs_len _ _ | exact zints_len _) (by omega) (Nat.zero_le _) rfl rfl rfl rfl rfl ?_
            | refine sp_idx rfl rfl rfl (by omega) rfl ?_ | refine ep_loadS rfl rfl rfl (by first | exact ints_get (by omega) | exact zints_get (by omega) | exact fget (by omega) | assumption) ?_)
          | (refine g_ops ?_; first | refine eo_none ?_ | refine eo_nil ?_)
          | (refine g_code ?_; first | refine ec_seq ?_ | refine ec_region ?_ | refine ec_block ?_ | refine ec_skip ?_ | refine ec_exit ?_ | refine ec_condT rfl ?_ | refine ec_condF rfl ?_ | refine ec_condTH rfl (by assumption) ?_ | refine ec_condFH rfl (by assumption) ?_)
          | refine ek_seqN ?_ | refine ek_seqX ?_ | refine ek_blkN ?_ | refine ek_blkR ?_ | refine ek_blkX ?_ | refine ek_blkY rfl ?_)
        exact rnd_on (by rfl) (scmp2 (by rfl) (by rfl) (by exact ⟨rfl, rfl, rfl⟩) (by rfl) (by first | rfl | (simp; done) | (simp [ints, prs]; done)) (by rfl) (by first | rfl | (simp; done) | (simp [ints, prs]; done)))
      | cons x xs =>
        refine ⟨x :: xs, by rw [selm_f (p := fun b => decide (D.getD b 0 ≥ 0)) hp, hs]; try rfl, ?_⟩
        unfold m83_3
        repeat' (first
          | refine ep_loadS rfl rfl rfl hget ?_
          | (refine g_op ?_; first
            | refine ep_mov rfl ?_ | refine ep_load1 rfl rfl rfl rfl ?_
            | refine ep_call0 rfl (by first | exact ev98 n (by omega)) rfl rfl ?_
            | refine sp_call rfl rfl rfl rfl (by first | exact ev98 n (by omega)) ⟨rfl, rfl, rfl, rfl⟩ rfl rfl rfl ?_
            | refine ep_bin rfl rfl (by first | exact b_add (by omega) (by omega) | exact b_sub (by omega) (by omega) | exact b_and (by omega) (by omega) | exact b_or (by omega) (by omega) | exact b_shr (by omega) | exact b_shl (by omega) (by omega) | exact b_lss | exact b_leq | exact b_gtr | exact b_geq | exact b_eql | exact b_neq) ?_
            | refine sp_bslice rfl rfl rfl rfl rfl ?_ | refine sp_push0 rfl (by first | exact .inl rfl | exact .inr rfl) rfl rfl rfl rfl rfl (by decide) rfl rfl rfl ?_ | refine sp_push rfl rfl rfl rfl rfl rfl rfl (by first | exact ints_len _ | exact prs_len _ _ | exact zints_len _) (by omega) (Nat.zero_le _) rfl rfl rfl rfl rfl ?_
            | refine sp_idx rfl rfl rfl (by omega) rfl ?_ | refine ep_loadS rfl rfl rfl (by first | exact ints_get (by omega) | exact zints_get (by omega) | exact fget (by omega) | assumption) ?_)
          | (refine g_ops ?_; first | refine eo_none ?_ | refine eo_nil ?_)
          | (refine g_code ?_; first | refine ec_seq ?_ | refine ec_region ?_ | refine ec_block ?_ | refine ec_skip ?_ | refine ec_exit ?_ | refine ec_condT rfl ?_ | refine ec_condF rfl ?_ | refine ec_condTH rfl (by assumption) ?_ | refine ec_condFH rfl (by assumption) ?_)
          | refine ek_seqN ?_ | refine ek_seqX ?_ | refine ek_blkN ?_ | refine ek_blkR ?_ | refine ek_blkX ?_ | refine ek_blkY rfl ?_)
        exact rnd_on (by rfl) (scmp2 (by rfl) (by rfl) (by exact ⟨rfl, rfl, rfl⟩) (by rfl) (by first | rfl | (simp; done) | (simp [ints, prs]; done)) (by rfl) (by first | rfl | (simp; done) | (simp [ints, prs]; done)))
  · intro s hs
    have hlt : decide (((R2 (R2 n) : Nat) : Int) < (R2 (R2 n) : Nat)) = false := decide_eq_false (by omega)
    have hle : decide (((R2 (R2 n) : Nat) : Int) ≤ (R2 (R2 n) : Nat) - 1) = false := decide_eq_false (by omega)
    cases s with
    | nil =>
      unfold m83_3
      repeat' (first
        | (refine g_op ?_; first
          | refine ep_mov rfl ?_ | refine ep_load1 rfl rfl rfl rfl ?_
          | refine ep_call0 rfl (by first | exact ev98 n (by omega)) rfl rfl ?_
          | refine sp_call rfl rfl rfl rfl (by first | exact ev98 n (by omega)) ⟨rfl, rfl, rfl, rfl⟩ rfl rfl rfl ?_
          | refine ep_bin rfl rfl (by first | exact b_add (by omega) (by omega) | exact b_sub (by omega) (by omega) | exact b_and (by omega) (by omega) | exact b_or (by omega) (by omega) | exact b_shr (by omega) | exact b_shl (by omega) (by omega) | exact b_lss | exact b_leq | exact b_gtr | exact b_geq | exact b_eql | exact b_neq) ?_
          | refine sp_bslice rfl rfl rfl rfl rfl ?_ | refine sp_push0 rfl (by first | exact .inl rfl | exact .inr rfl) rfl rfl rfl rfl rfl (by decide) rfl rfl rfl ?_ | refine sp_push rfl rfl rfl rfl rfl rfl rfl (by first | exact ints_len _ | exact prs_len _ _ | exact zints_len _) (by omega) (Nat.zero_le _) rfl rfl rfl rfl rfl ?_
          | refine sp_idx rfl rfl rfl (by omega) rfl ?_ | refine ep_loadS rfl rfl rfl (by first | exact ints_get (by omega) | exact zints_get (by omega) | exact fget (by omega) | assumption) ?_)
        | (refine g_ops ?_; first | refine eo_none ?_ | refine eo_nil ?_)
        | (refine g_code ?_; first | refine ec_seq ?_ | refine ec_region ?_ | refine ec_block ?_ | refine ec_skip ?_ | refine ec_exit ?_ | refine ec_condT rfl ?_ | refine ec_condF rfl ?_ | refine ec_condTH rfl (by assumption) ?_ | refine ec_condFH rfl (by assumption) ?_)
        | refine ek_seqN ?_ | refine ek_seqX ?_ | refine ek_blkN ?_ | refine ek_blkR ?_ | refine ek_blkX ?_ | refine ek_blkY rfl ?_)
      exact rnd_out (by rfl) (by simp) (scmp2 (by rfl) (by rfl) (by exact ⟨rfl, rfl, rfl⟩) (by rfl) (by first | rfl | (simp; done) | (simp [ints, prs]; done)) (by rfl) (by first | rfl | (simp; done) | (simp [ints, prs]; done)))
    | cons x xs =>
      unfold m83_3
      repeat' (first
        | (refine g_op ?_; first
          | refine ep_mov rfl ?_ | refine ep_load1 rfl rfl rfl rfl ?_
          | refine ep_call0 rfl (by first | exact ev98 n (by omega)) rfl rfl ?_
          | refine sp_call rfl rfl rfl rfl (by first | exact ev98 n (by omega)) ⟨rfl, rfl, rfl, rfl⟩ rfl rfl rfl ?_
          | refine ep_bin rfl rfl (by first | exact b_add (by omega) (by omega) | exact b_sub (by omega) (by omega) | exact b_and (by omega) (by omega) | exact b_or (by omega) (by omega) | exact b_shr (by omega) | exact b_shl (by omega) (by omega) | exact b_lss | exact b_leq | exact b_gtr | exact b_geq | exact b_eql | exact b_neq) ?_
          | refine sp_bslice rfl rfl rfl rfl rfl ?_ | refine sp_push0 rfl (by first | exact .inl rfl | exact .inr rfl) rfl rfl rfl rfl rfl (by decide) rfl rfl rfl ?_ | refine sp_push rfl rfl rfl rfl rfl rfl rfl (by first | exact ints_len _ | exact prs_len _ _ | exact zints_len _) (by omega) (Nat.zero_le _) rfl rfl rfl rfl rfl ?_
          | refine sp_idx rfl rfl rfl (by omega) rfl ?_ | refine ep_loadS rfl rfl rfl (by first | exact ints_get (by omega) | exact zints_get (by omega) | exact fget (by omega) | assumption) ?_)
        | (refine g_ops ?_; first | refine eo_none ?_ | refine eo_nil ?_)
        | (refine g_code ?_; first | refine ec_seq ?_ | refine ec_region ?_ | refine ec_block ?_ | refine ec_skip ?_ | refine ec_exit ?_ | refine ec_condT rfl ?_ | refine ec_condF rfl ?_ | refine ec_condTH rfl (by assumption) ?_ | refine ec_condFH rfl (by assumption) ?_)
        | refine ek_seqN ?_ | refine ek_seqX ?_ | refine ek_blkN ?_ | refine ek_blkR ?_ | refine ek_blkX ?_ | refine ek_blkY rfl ?_)
      exact rnd_out (by rfl) (by simp) (scmp2 (by rfl) (by rfl) (by exact ⟨rfl, rfl, rfl⟩) (by rfl) (by first | rfl | (simp; done) | (simp [ints, prs]; done)) (by rfl) (by first | rfl | (simp; done) | (simp [ints, prs]; done)))

theorem lpds4 (q n N d : Nat) (fs : List (Int × Int)) (D : List Int) (hNn : N = R2 (R2 n)) (hn : n ≤ 3) (hall : allFunc fs = true) (hln : fs.length ≤ 1048576) (hd : d < 65536) (hN : D.length = N) (L : List Nat) (hll : L.length ≤ 65536) (hLN : ∀ j, j < L.length → L.getD j 0 < N) :
    LpS cx 70 1 m83_4 [(0, .sl 0 0 fs.length), (1, .int .i64 (n : Nat)), (5, .sl 1 0 N), (8, .bool (rndS fs n d L D (0)).2), (9, .int .i64 (d : Nat)), (10, .sl 2 0 L.length), (12, .int .i64 (0 : Nat))] [⟨fns fs, 2, 0, some q, false⟩, ⟨zints (rndS fs n d L D (0)).1, 1, 1, some 0, false⟩, ⟨ints L, 1, 2, some 0, false⟩] (⟨.exit 8, [(0, .sl 0 0 fs.length), (1, .int .i64 (n : Nat)), (5, .sl 1 0 N), (8, .bool (rndS fs n d L D (fs.length)).2), (9, .int .i64 (d : Nat))], [⟨fns fs, 2, 0, some q, false⟩, ⟨zints (rndS fs n d L D (fs.length)).1, 1, 1, some 0, false⟩]⟩ : Out).x (⟨.exit 8, [(0, .sl 0 0 fs.length), (1, .int .i64 (n : Nat)), (5, .sl 1 0 N), (8, .bool (rndS fs n d L D (fs.length)).2), (9, .int .i64 (d : Nat))], [⟨fns fs, 2, 0, some q, false⟩, ⟨zints (rndS fs n d L D (fs.length)).1, 1, 1, some 0, false⟩]⟩ : Out).e (⟨.exit 8, [(0, .sl 0 0 fs.length), (1, .int .i64 (n : Nat)), (5, .sl 1 0 N), (8, .bool (rndS fs n d L D (fs.length)).2), (9, .int .i64 (d : Nat))], [⟨fns fs, 2, 0, some q, false⟩, ⟨zints (rndS fs n d L D (fs.length)).1, 1, 1, some 0, false⟩]⟩ : Out).h := by
  refine lp_st (fs.length) (fun _ => ()) (fun i _ => [(0, .sl 0 0 fs.length), (1, .int .i64 (n : Nat)), (5, .sl 1 0 N), (8, .bool (rndS fs n d L D (i)).2), (9, .int .i64 (d : Nat)), (10, .sl 2 0 L.length), (12, .int .i64 (i : Nat))]) (fun i _ => [⟨fns fs, 2, 0, some q, false⟩, ⟨zints (rndS fs n d L D (i)).1, 1, 1, some 0, false⟩, ⟨ints L, 1, 2, some 0, false⟩]) (fun _ => (⟨.exit 8, [(0, .sl 0 0 fs.length), (1, .int .i64 (n : Nat)), (5, .sl 1 0 N), (8, .bool (rndS fs n d L D (fs.length)).2), (9, .int .i64 (d : Nat))], [⟨fns fs, 2, 0, some q, false⟩, ⟨zints (rndS fs n d L D (fs.length)).1, 1, 1, some 0, false⟩]⟩ : Out)) ?_ ?_ (fs.length) 0 (by omega)
  · intro i u_ hi hu_
    refine ⟨(), rfl, ?_⟩
    have hlt : decide ((i : Int) < (fs.length : Nat)) = true := decide_eq_true (by omega)
    have hg := fns_get (l := fs) (j := i) hi
    have hget := allF_at (P := fun j => isFn (fs.getD j (0, 0)).1 (fs.getD j (0, 0)).2) hall hi
    obtain ⟨a, b, ha, hb, ha4, _, hb6⟩ := isFn_nat hget
    have e1 := evr_e n N d (fs.getD i (0, 0)).2.toNat (fs.getD i (0, 0)).1.toNat L hNn hn hd (by omega) (by omega) hll hLN (rndS fs n d L D i).1 (by rw [rndS_len]; exact hN)
    rw [show (((fs.getD i (0, 0)).1.toNat : Nat) : Int) = (fs.getD i (0, 0)).1 by omega, show (((fs.getD i (0, 0)).2.toNat : Nat) : Int) = (fs.getD i (0, 0)).2 by omega] at e1
    have hs := walk_or (d := d) (n := n) (b := (fs.getD i (0, 0)).2.toNat) (L := L) (fs.getD i (0, 0)).1.toNat [] (rndS fs n d L D i).1 (rndS fs n d L D i).2
    rw [show walkT L (leafS d n (fs.getD i (0, 0)).2.toNat) (fs.getD i (0, 0)).1.toNat [] ((rndS fs n d L D i).1, (rndS fs n d L D i).2) = rndS fs n d L D (i + 1) from rfl] at hs
    have hs1 := congrArg Prod.fst hs
    have hc := congrArg Prod.snd hs
    simp only at hs1 hc
    rw [← hs1] at e1
    generalize (walkT L (leafS d n (fs.getD i (0, 0)).2.toNat) (fs.getD i (0, 0)).1.toNat [] ((rndS fs n d L D i).1, false)).2 = c at *
    cases c
    · simp only [Bool.or_false] at hc
      unfold m83_4
      repeat' (first
        | refine ep_loadSN rfl rfl rfl hg ?_
        | (refine g_op ?_; first
          | refine ep_mov rfl ?_ | refine sp_loadN rfl rfl rfl rfl rfl ?_
          | refine ep_call0 rfl (by first | exact e1) rfl rfl ?_
          | refine sp_call rfl rfl rfl rfl (by first | exact e1) ⟨rfl, rfl, rfl, rfl⟩ rfl rfl rfl ?_
          | refine ep_bin rfl rfl (by first | exact b_add (by omega) (by omega) | exact b_sub (by omega) (by omega) | exact b_and (by omega) (by omega) | exact b_or (by omega) (by omega) | exact b_shr (by omega) | exact b_shl (by omega) (by omega) | exact b_lss | exact b_leq | exact b_gtr | exact b_geq | exact b_eql | exact b_neq) ?_
          | refine ep_lenS rfl ?_ | refine ep_lenN rfl ?_ | refine ep_lenE rfl ?_ | refine ep_empt ?_ | refine sp_idx rfl rfl rfl (by omega) rfl ?_ | refine ep_loadSN rfl rfl rfl (by first | exact prs_get (by omega) | exact fns_get (by omega)) ?_)
        | (refine g_ops ?_; first | refine eo_none ?_ | refine eo_nil ?_)
        | (refine g_code ?_; first | refine ec_seq ?_ | refine ec_region ?_ | refine ec_block ?_ | refine ec_skip ?_ | refine ec_exit ?_ | refine ec_condT rfl ?_ | refine ec_condF rfl ?_ | refine ec_condTH rfl (by assumption) ?_ | refine ec_condFH rfl (by assumption) ?_)
        | refine ek_seqN ?_ | refine ek_seqX ?_ | refine ek_blkN ?_ | refine ek_blkR ?_ | refine ek_blkX ?_ | refine ek_blkY rfl ?_)
      exact rnd_on (by rfl) (scmp2 (by rfl) (by rfl) (by exact ⟨rfl, rfl, rfl⟩) (by rfl) (by rw [hc]; rfl) (by rfl) (by rfl))
    · simp only [Bool.or_true] at hc
      unfold m83_4
      repeat' (first
        | refine ep_loadSN rfl rfl rfl hg ?_
        | (refine g_op ?_; first
          | refine ep_mov rfl ?_ | refine sp_loadN rfl rfl rfl rfl rfl ?_
          | refine ep_call0 rfl (by first | exact e1) rfl rfl ?_
          | refine sp_call rfl rfl rfl rfl (by first | exact e1) ⟨rfl, rfl, rfl, rfl⟩ rfl rfl rfl ?_
          | refine ep_bin rfl rfl (by first | exact b_add (by omega) (by omega) | exact b_sub (by omega) (by omega) | exact b_and (by omega) (by omega) | exact b_or (by omega) (by omega) | exact b_shr (by omega) | exact b_shl (by omega) (by omega) | exact b_lss | exact b_leq | exact b_gtr | exact b_geq | exact b_eql | exact b_neq) ?_
          | refine ep_lenS rfl ?_ | refine ep_lenN rfl ?_ | refine ep_lenE rfl ?_ | refine ep_empt ?_ | refine sp_idx rfl rfl rfl (by omega) rfl ?_ | refine ep_loadSN rfl rfl rfl (by first | exact prs_get (by omega) | exact fns_get (by omega)) ?_)
        | (refine g_ops ?_; first | refine eo_none ?_ | refine eo_nil ?_)
        | (refine g_code ?_; first | refine ec_seq ?_ | refine ec_region ?_ | refine ec_block ?_ | refine ec_skip ?_ | refine ec_exit ?_ | refine ec_condT rfl ?_ | refine ec_condF rfl ?_ | refine ec_condTH rfl (by assumption) ?_ | refine ec_condFH rfl (by assumption) ?_)
        | refine ek_seqN ?_ | refine ek_seqX ?_ | refine ek_blkN ?_ | refine ek_blkR ?_ | refine ek_blkX ?_ | refine ek_blkY rfl ?_)
      exact rnd_on (by rfl) (scmp2 (by rfl) (by rfl) (by exact ⟨rfl, rfl, rfl⟩) (by rfl) (by rw [hc]; rfl) (by rfl) (by rfl))
  · intro u_ hu_
    have hlt : decide (((fs.length : Nat) : Int) < (fs.length : Nat)) = false := decide_eq_false (by omega)
    unfold m83_4
    repeat' (first
      | (refine g_op ?_; first
        | refine ep_mov rfl ?_ | refine sp_loadN rfl rfl rfl rfl rfl ?_
        | refine ep_bin rfl rfl (by first | exact b_add (by omega) (by omega) | exact b_sub (by omega) (by omega) | exact b_and (by omega) (by omega) | exact b_or (by omega) (by omega) | exact b_shr (by omega) | exact b_shl (by omega) (by omega) | exact b_lss | exact b_leq | exact b_gtr | exact b_geq | exact b_eql | exact b_neq) ?_
        | refine ep_lenS rfl ?_ | refine ep_lenN rfl ?_ | refine ep_lenE rfl ?_ | refine ep_empt ?_ | refine sp_idx rfl rfl rfl (by omega) rfl ?_ | refine ep_loadSN rfl rfl rfl (by first | exact prs_get (by omega) | exact fns_get (by omega)) ?_)
      | (refine g_ops ?_; first | refine eo_none ?_ | refine eo_nil ?_)
      | (refine g_code ?_; first | refine ec_seq ?_ | refine ec_region ?_ | refine ec_block ?_ | refine ec_skip ?_ | refine ec_exit ?_ | refine ec_condT rfl ?_ | refine ec_condF rfl ?_ | refine ec_condTH rfl (by assumption) ?_ | refine ec_condFH rfl (by assumption) ?_)
      | refine ek_seqN ?_ | refine ek_seqX ?_ | refine ek_blkN ?_ | refine ek_blkR ?_ | refine ek_blkX ?_ | refine ek_blkY rfl ?_)
    exact rnd_out (by rfl) (by simp) (scmp2 (by rfl) (by rfl) (by exact ⟨rfl, rfl, rfl⟩) (by rfl) (by first | rfl | (simp; done) | (simp [ints, prs]; done)) (by rfl) (by first | rfl | (simp; done) | (simp [ints, prs]; done)))

theorem lpds2f (q n N d : Nat) (fs : List (Int × Int)) (D : List Int) : LpS cx 70 1 m83_2 [(0, .sl 0 0 fs.length), (1, .int .i64 (n : Nat)), (5, .sl 1 0 N), (8, .bool false), (9, .int .i64 (d : Nat))] [⟨fns fs, 2, 0, some q, false⟩, ⟨zints D, 1, 1, some 0, false⟩] (⟨.exit 4, [(5, .sl 1 0 N)], [⟨fns fs, 2, 0, some q, false⟩, ⟨zints D, 1, 1, some 0, false⟩]⟩ : Out).x (⟨.exit 4, [(5, .sl 1 0 N)], [⟨fns fs, 2, 0, some q, false⟩, ⟨zints D, 1, 1, some 0, false⟩]⟩ : Out).e (⟨.exit 4, [(5, .sl 1 0 N)], [⟨fns fs, 2, 0, some q, false⟩, ⟨zints D, 1, 1, some 0, false⟩]⟩ : Out).h := by
  refine round_out ?_
  unfold m83_2
  repeat' (first
    | (refine g_op ?_; first
      | refine ep_mov rfl ?_
      | refine ep_bin rfl rfl (by first | exact b_add (by omega) (by omega) | exact b_sub (by omega) (by omega) | exact b_and (by omega) (by omega) | exact b_or (by omega) (by omega) | exact b_shr (by omega) | exact b_shl (by omega) (by omega) | exact b_lss | exact b_leq | exact b_gtr | exact b_geq | exact b_eql | exact b_neq) ?_
      | refine ep_empt ?_)
    | (refine g_ops ?_; first | refine eo_none ?_ | refine eo_nil ?_)
    | (refine g_code ?_; first | refine ec_seq ?_ | refine ec_region ?_ | refine ec_block ?_ | refine ec_skip ?_ | refine ec_exit ?_ | refine ec_condT rfl ?_ | refine ec_condF rfl ?_ | refine ec_condTH rfl (by assumption) ?_ | refine ec_condFH rfl (by assumption) ?_)
    | refine ek_seqN ?_ | refine ek_seqX ?_ | refine ek_seqR ?_ | refine ek_blkN ?_ | refine ek_blkR ?_ | refine ek_blkX ?_ | refine ek_blkY rfl ?_)
  exact rnd_out (by rfl) (by simp) (scmp2 (by rfl) (by rfl) (by exact ⟨rfl, rfl, rfl⟩) (by rfl) (by first | rfl | (simp; done) | (simp [ints, prs]; done)) (by rfl) (by first | rfl | (simp; done) | (simp [ints, prs]; done)))
theorem lpds2 (q n N : Nat) (fs : List (Int × Int)) (hNn : N = R2 (R2 n)) (hn : n ≤ 3) (hall : allFunc fs = true) (hln : fs.length ≤ 1048576) : ∀ (k d : Nat) (D : List Int), ngs D < k → D.length = N → (∃ c, c < N ∧ D.getD c 0 = 0) → 1 ≤ d → d + k < 65536 →
    LpS cx 70 1 m83_2 [(0, .sl 0 0 fs.length), (1, .int .i64 (n : Nat)), (5, .sl 1 0 N), (8, .bool true), (9, .int .i64 (d : Nat))] [⟨fns fs, 2, 0, some q, false⟩, ⟨zints D, 1, 1, some 0, false⟩] (⟨.exit 4, [(5, .sl 1 0 N)], [⟨fns fs, 2, 0, some q, false⟩, ⟨zints (genS fs n k d D), 1, 1, some 0, false⟩]⟩ : Out).x (⟨.exit 4, [(5, .sl 1 0 N)], [⟨fns fs, 2, 0, some q, false⟩, ⟨zints (genS fs n k d D), 1, 1, some 0, false⟩]⟩ : Out).e (⟨.exit 4, [(5, .sl 1 0 N)], [⟨fns fs, 2, 0, some q, false⟩, ⟨zints (genS fs n k d D), 1, 1, some 0, false⟩]⟩ : Out).h
  | 0, d, D, hk, _, _, _, _ => by omega
  | k + 1, d, D, hk, hN, hz, hd, hdk => by
    obtain ⟨h1, h2, h3, h4⟩ := shN (n := n) (by omega)
    have hinv := rnd_inv (fs := fs) (n := n) (d := (d : Int)) (L := kwS (R2 (R2 n)) D) (D := D) (by omega)
    have hlen := selm_len (fun b => decide (D.getD b 0 ≥ 0)) idn (R2 (R2 n))
    have lp4 := lpds4 q n N d fs D hNn hn hall hln (by omega) hN (kwS (R2 (R2 n)) D) (show (kwS (R2 (R2 n)) D).length ≤ 65536 from Nat.le_trans (selm_len _ _ _) h2) (fun j hj => by have h9 : (kwS (R2 (R2 n)) D).getD j 0 < R2 (R2 n) := (selm_lt0 hj).1; omega)
    rw [genS]
    rw [show rndS fs n d (kwS (R2 (R2 n)) D) D fs.length = rndG leafS fs n d (kwS (R2 (R2 n)) D) D from rfl, show rndS fs n d (kwS (R2 (R2 n)) D) D 0 = (D, false) from rfl] at lp4
    generalize hs : rndG leafS fs n d (kwS (R2 (R2 n)) D) D = s at *
    obtain ⟨c, hc, h0⟩ := hz
    obtain ⟨qq, hq, _⟩ := selm_mem (p := fun b => decide (D.getD b 0 ≥ 0)) (n := R2 (R2 n)) (x := c) (by omega) (by simp only [decide_eq_true_eq]; rw [h0]; omega)
    rw [show kwS (R2 (R2 n)) D = selm (fun b => decide (D.getD b 0 ≥ 0)) idn (R2 (R2 n)) from rfl] at lp4
    have lp3 := lpds3 q n N d fs D hNn hn hN
    cases hL : selm (fun b => decide (D.getD b 0 ≥ 0)) idn (R2 (R2 n)) with
    | nil => rw [hL] at hq; simp at hq
    | cons y ys =>
    have lp3 := lp3 _ (by rw [hL])
    rw [hL] at lp4
    obtain ⟨D1, A1⟩ := s
    have hadd := b_addN (a := d) (b := 1) (by omega)
    cases A1
    · rw [if_neg (by simp)]
      refine round_on ?_ (lpds2f q n N (d + 1) fs D1)
      unfold m83_2
      repeat' (first
        | refine sc_loop lp3 rfl rfl ⟨rfl, rfl, rfl⟩ rfl rfl rfl ?_
        | refine sc_loop lp4 rfl rfl ⟨rfl, rfl, rfl⟩ rfl rfl rfl ?_
        | (refine g_op ?_; first
          | refine ep_mov rfl ?_
          | refine ep_bin rfl rfl (by first | exact hadd | exact b_add (by omega) (by omega) | exact b_sub (by omega) (by omega) | exact b_and (by omega) (by omega) | exact b_or (by omega) (by omega) | exact b_shr (by omega) | exact b_shl (by omega) (by omega) | exact b_lss | exact b_leq | exact b_gtr | exact b_geq | exact b_eql | exact b_neq) ?_
          | refine ep_empt ?_)
        | (refine g_ops ?_; first | refine eo_none ?_ | refine eo_nil ?_)
        | (refine g_code ?_; first | refine ec_seq ?_ | refine ec_region ?_ | refine ec_block ?_ | refine ec_skip ?_ | refine ec_exit ?_ | refine ec_condT rfl ?_ | refine ec_condF rfl ?_ | refine ec_condTH rfl (by assumption) ?_ | refine ec_condFH rfl (by assumption) ?_)
        | refine ek_seqN ?_ | refine ek_seqX ?_ | refine ek_seqR ?_ | refine ek_blkN ?_ | refine ek_blkR ?_ | refine ek_blkX ?_ | refine ek_blkY rfl ?_)
      exact rnd_on (by rfl) (scmp2 (by rfl) (by rfl) (by exact ⟨rfl, rfl, rfl⟩) (by rfl) (by first | rfl | (simp; done) | (simp [ints, prs]; done)) (by rfl) (by first | rfl | (simp; done) | (simp [ints, prs]; done)))
    · rw [if_pos rfl]
      have hg1 := hinv.2.2 rfl
      simp only at hg1
      refine round_on ?_ (lpds2 q n N fs hNn hn hall hln k (d + 1) D1 (by omega) (by rw [hinv.1.1]; exact hN) ⟨c, hc, by rw [hinv.1.2 c (by omega)]; exact h0⟩ (by omega) (by omega))
      unfold m83_2
      repeat' (first
        | refine sc_loop lp3 rfl rfl ⟨rfl, rfl, rfl⟩ rfl rfl rfl ?_
        | refine sc_loop lp4 rfl rfl ⟨rfl, rfl, rfl⟩ rfl rfl rfl ?_
        | (refine g_op ?_; first
          | refine ep_mov rfl ?_
          | refine ep_bin rfl rfl (by first | exact hadd | exact b_add (by omega) (by omega) | exact b_sub (by omega) (by omega) | exact b_and (by omega) (by omega) | exact b_or (by omega) (by omega) | exact b_shr (by omega) | exact b_shl (by omega) (by omega) | exact b_lss | exact b_leq | exact b_gtr | exact b_geq | exact b_eql | exact b_neq) ?_
          | refine ep_empt ?_)
        | (refine g_ops ?_; first | refine eo_none ?_ | refine eo_nil ?_)
        | (refine g_code ?_; first | refine ec_seq ?_ | refine ec_region ?_ | refine ec_block ?_ | refine ec_skip ?_ | refine ec_exit ?_ | refine ec_condT rfl ?_ | refine ec_condF rfl ?_ | refine ec_condTH rfl (by assumption) ?_ | refine ec_condFH rfl (by assumption) ?_)
        | refine ek_seqN ?_ | refine ek_seqX ?_ | refine ek_seqR ?_ | refine ek_blkN ?_ | refine ek_blkR ?_ | refine ek_blkX ?_ | refine ek_blkY rfl ?_)
      exact rnd_on (by rfl) (scmp2 (by rfl) (by rfl) (by exact ⟨rfl, rfl, rfl⟩) (by rfl) (by first | rfl | (simp; done) | (simp [ints, prs]; done)) (by rfl) (by first | rfl | (simp; done) | (simp [ints, prs]; done)))
theorem evdpq (q n : Nat) (fs : List (Int × Int)) (hn1 : 1 ≤ n) (hn : n ≤ 3) (hall : allFunc fs = true) (hln : fs.length ≤ 1048576) : Ev cx 83 [.sl 0 0 fs.length, .int .i64 (n : Nat)] [⟨fns fs, 2, 0, some q, false⟩] (.sl 1 0 (R2 (R2 n))) [⟨fns fs, 2, 0, some q, false⟩, ⟨zints (depL fs n), 1, 1, some 0, false⟩] := by
  obtain ⟨h1, h2, h3, h4⟩ := shN (n := n) (by omega)
  have h23 : R2 n ≤ 8 := by have := R2_mono (i := n) (n := 3) hn; have h8 : R2 3 = 8 := by { unfold R2; rfl }; omega
  have hN8 : R2 (R2 n) ≤ 256 := by have := R2_mono (i := R2 n) (n := 8) h23; have h8 : R2 8 = 256 := by { unfold R2; rfl }; omega
  have sa := (selm_all (g := idn) (R2 (R2 n))).1
  have lp1 := lpds1 q n (R2 (R2 n)) fs rfl hn
  rw [show D0 n 0 = List.replicate (R2 (R2 n)) (-1) from rfl] at lp1
  have hl := D0_len n n
  have lp2 := lpds2 q n (R2 (R2 n)) fs rfl hn hall hln (R2 (R2 n) + 1) 1 (D0 n n) (by have := ngs_le (D0 n n); omega) hl ⟨projB n (n - 1), projB_lt n _, by
    obtain ⟨m, rfl⟩ : ∃ m, n = m + 1 := ⟨n - 1, by omega⟩
    rw [D0_s, getD_set, show m + 1 - 1 = m from rfl, if_pos ⟨rfl, by rw [D0_len]; exact projB_lt _ _⟩]⟩ (by omega) (by omega)
  rw [show genS fs n (R2 (R2 n) + 1) 1 (D0 n n) = depL fs n from rfl] at lp2
  cases hs : selm (fun _ => true) idn (R2 (R2 n)) with
  | nil => rw [hs] at sa; simp at sa; omega
  | cons x xs =>
    rw [hs] at sa
    have lp0 := lp83_0 q n fs hn _ (by rw [hs])
    dsimp only at lp0
    rw [mneg_rep, sa] at lp0
    refine has83.eev rfl rfl ?_
    unfold m83
    repeat' (first
      | refine sc_loop lp0 rfl rfl ⟨rfl, rfl, rfl⟩ rfl rfl rfl ?_
      | refine sc_loop lp1 rfl rfl ⟨rfl, rfl, rfl⟩ rfl rfl rfl ?_
      | refine sc_loop lp2 rfl rfl ⟨rfl, rfl, rfl⟩ rfl rfl rfl ?_
      | (refine g_op ?_; first
        | refine ep_mov rfl ?_
        | refine ep_empt ?_)
      | (refine g_ops ?_; first | refine eo_none ?_ | refine eo_nil ?_)
      | (refine g_code ?_; first | refine ec_seq ?_ | refine ec_region ?_ | refine ec_block ?_ | refine ec_ret ?_)
      | refine ek_seqN ?_ | refine ek_seqX ?_ | refine ek_seqR ?_ | refine ek_blkN ?_ | refine ek_blkR ?_ | refine ek_blkX ?_ | refine ek_blkY rfl ?_)
    refine sfin (.inr rfl) (by rfl) (by rfl) (by exact ⟨rfl, rfl, rfl⟩) (by rfl) (by rfl) (by rfl) (by first | rfl | (simp; done) | (simp [ints, prs]; done))
theorem ev83 (n : Nat) (fs : List (Int × Int)) (hn1 : 1 ≤ n) (hn : n ≤ 3) (hall : allFunc fs = true) (hln : fs.length ≤ 1048576) : Ev cx 83 [.sl 0 0 fs.length, .int .i64 (n : Nat)] [⟨fns fs, 2, 0, some 0, false⟩] (.sl 1 0 (R2 (R2 n))) [⟨fns fs, 2, 0, some 0, false⟩, ⟨zints (depL fs n), 1, 1, some 0, false⟩] := evdpq 0 n fs hn1 hn hall hln

def a3 (fs : List (Int × Int)) : Bool := allF (fun j => !decide ((fs.getD j (0, 0)).1 > 2)) 0 fs.length
def gcode (fs : List (Int × Int)) (z : Int) : Int := if lcode fs = 0 then (if 2 ≤ z ∧ z ≤ 3 then (if z = 3 ∧ a3 fs = false then 2 else 0) else 2) else lcode fs
theorem fns_at0 {l : List (Int × Int)} {j : Nat} (h : j < l.length) : (fns l)[0 + j * 2 + 0]? = some (.int .i64 (l.getD j (0, 0)).1) := by
  have h2 := congrArg (fun q : List V => q[0]?) (fns_get h).2.2
  simpa [List.getElem?_take, List.getElem?_drop] using h2
theorem gcode_0 {fs : List (Int × Int)} {z : Int} (h : gcode fs z = 0) : allFunc fs = true ∧ fs.length ≤ 8 ∧ 2 ≤ z ∧ z ≤ 3 := by
  unfold gcode at h
  split at h
  · rename_i h0
    split at h
    · rename_i h1
      unfold lcode at h0
      split at h0
      · rename_i ha
        split at h0
        · omega
        · exact ⟨ha, by omega, h1⟩
      · omega
    · omega
  · exact absurd h (by assumption)
theorem genS_le {fs : List (Int × Int)} {n : Nat} : ∀ (k d : Nat) (D : List Int), leD D (genS fs n k d D)
  | 0, d, D => leD_refl D
  | k + 1, d, D => by
    rw [genS]
    have h := (rnd_inv (fs := fs) (n := n) (d := d) (L := kwS (R2 (R2 n)) D) (D := D) (by omega)).1
    split
    · exact leD_trans h (genS_le k _ _)
    · exact h
theorem depL_pj {fs : List (Int × Int)} {n i : Nat} (hi : i < n) : (depL fs n).getD (projB n i) 0 = 0 := by
  have h0 : ∀ m, i < m → (D0 n m).getD (projB n i) 0 = 0 := by
    intro m
    induction m with
    | zero => intro h; omega
    | succ m ih =>
      intro h
      rw [D0_s, getD_set]
      split
      · rfl
      · by_cases e : i = m
        · subst e; rename_i hn; exact absurd ⟨rfl, by rw [D0_len]; exact projB_lt _ _⟩ hn
        · exact ih (by omega)
  have h1 := h0 n hi
  rw [depL, (genS_le _ _ _).2 _ (by omega), h1]
theorem kw_dep {fs : List (Int × Int)} {n : Nat} (hn : 1 ≤ n) : kwS (R2 (R2 n)) (depL fs n) ≠ [] := by
  obtain ⟨k, hk, _⟩ := selm_mem (p := fun b => decide (0 ≤ (depL fs n).getD b 0)) (n := R2 (R2 n)) (x := projB n 0) (projB_lt _ _) (by simp only [decide_eq_true_eq]; rw [depL_pj hn]; omega)
  intro he
  have he' : selm (fun b => decide (0 ≤ (depL fs n).getD b 0)) idn (R2 (R2 n)) = [] := he
  rw [he'] at hk; simp at hk
-- spec.l04Code
def m81_0 : MC := (.seq (.seq (.region [⟨(.mov (.t 6)), (some 15), none⟩, ⟨(.mov (.t 0)), (some 16), none⟩, ⟨(.len (.t 16)), (some 17), none⟩, ⟨(.bin .lss (.t 15) (.t 17)), (some 18), none⟩] false) (.cond (.t 18) .skip (.exit 0))) (.seq (.block 1 (.seq (.region [⟨(.mov (.t 1)), (some 21), none⟩, ⟨(.bin .eql (.t 21) (.k (.int .i64 3))), (some 22), none⟩, ⟨(.mov (.t 22)), (some 23), none⟩, ⟨(.mov (.t 0)), (some 24), (some (23, true))⟩, ⟨(.mov (.t 6)), (some 25), (some (23, true))⟩, ⟨(.indexAddr 2 (.t 24) (.t 25)), (some 26), (some (23, true))⟩, ⟨(.fieldAddr 0 (.t 26)), (some 27), (some (23, true))⟩, ⟨(.load none (.t 27)), (some 28), (some (23, true))⟩, ⟨(.bin .gtr (.t 28) (.k (.int .i64 2))), (some 29), (some (23, true))⟩, ⟨(.pick (.t 23) (.t 29) (.k (.bool false))), (some 30), none⟩] false) (.cond (.t 30) (.seq (.region [⟨(.mov (.k (.int .i64 2))), (some 4), none⟩] false) .ret) .skip))) (.region [⟨(.mov (.t 6)), (some 19), none⟩, ⟨(.bin .add (.t 19) (.k (.int .i64 1))), (some 20), none⟩, ⟨(.mov (.t 20)), (some 6), none⟩] false)))
def m81 : MC := (.seq (.region [⟨(.mov (.k (.int .i64 0))), (some 4), none⟩] false) (.seq (.seq (.region [⟨(.mov (.t 0)), (some 7), none⟩, ⟨(.call 69 [(.t 7)]), (some 8), none⟩, ⟨(.mov (.t 8)), (some 5), none⟩] false) (.seq (.region [⟨(.mov (.t 5)), (some 9), none⟩, ⟨(.bin .neq (.t 9) (.k (.int .i64 0))), (some 10), none⟩] false) (.cond (.t 10) (.seq (.region [⟨(.mov (.t 5)), (some 11), none⟩, ⟨(.mov (.t 11)), (some 4), none⟩] false) .ret) .skip))) (.seq (.seq (.region [⟨(.mov (.t 1)), (some 12), none⟩, ⟨(.call 97 [(.t 12), (.k (.int .i64 2)), (.k (.int .i64 3))]), (some 13), none⟩, ⟨(.un .not (.t 13)), (some 14), none⟩] false) (.cond (.t 14) (.seq (.region [⟨(.mov (.k (.int .i64 2))), (some 4), none⟩] false) .ret) .skip)) (.seq (.seq (.region [⟨(.mov (.k (.int .i64 0))), (some 6), none⟩] false) (.block 0 (.loop m81_0))) (.seq (.region [⟨(.mov (.k (.int .i64 0))), (some 4), none⟩] false) .ret)))))
theorem has81 : Has cx 81 31 m81 [(.tmp 4)] :=
  ⟨⟨Try.f81, Try.f81.body.getD .skip, by kernel_rfl, by kernel_rfl, by kernel_rfl, by kernel_rfl, by kernel_rfl, by kernel_rfl⟩⟩
theorem lplc_n (fs : List (Int × Int)) (z : Int) (hln : fs.length ≤ 1048576) (hz : (z == 3) = false) :
    LpS cx 31 1 m81_0 [(0, .sl 0 0 fs.length), (1, .int .i64 (z)), (6, .int .i64 (0 : Nat))] [⟨fns fs, 2, 0, some 0, false⟩] (⟨.exit 0, [], [⟨fns fs, 2, 0, some 0, false⟩]⟩ : Out).x (⟨.exit 0, [], [⟨fns fs, 2, 0, some 0, false⟩]⟩ : Out).e (⟨.exit 0, [], [⟨fns fs, 2, 0, some 0, false⟩]⟩ : Out).h := by
  refine lp_st (fs.length) (fun _ => ()) (fun i _ => [(0, .sl 0 0 fs.length), (1, .int .i64 (z)), (6, .int .i64 (i : Nat))]) (fun i _ => [⟨fns fs, 2, 0, some 0, false⟩]) (fun _ => (⟨.exit 0, [], [⟨fns fs, 2, 0, some 0, false⟩]⟩ : Out)) ?_ ?_ (fs.length) 0 (by omega)
  · intro i u_ hi hu_
    refine ⟨(), rfl, ?_⟩
    have hlt : decide ((i : Int) < (fs.length : Nat)) = true := decide_eq_true (by omega)
    unfold m81_0
    repeat' (first
      | (refine g_op ?_; first
        | refine ep_mov rfl ?_ | refine ep_load1 rfl rfl rfl rfl ?_ | refine ep_fieldAddr rfl ?_
        | refine ep_bin rfl rfl (by first | exact b_add (by omega) (by omega) | exact b_sub (by omega) (by omega) | exact b_and (by omega) (by omega) | exact b_or (by omega) (by omega) | exact b_shr (by omega) | exact b_shl (by omega) (by omega) | exact b_lss | exact b_leq | exact b_gtr | exact b_geq | exact b_eql | exact b_neq) ?_
        | refine ep_pickT rfl rfl ?_ | refine ep_pickF rfl rfl ?_ | refine ep_pickTH rfl (by assumption) rfl ?_ | refine ep_pickFH rfl (by assumption) rfl ?_ | refine ep_lenS rfl ?_ | refine ep_lenN rfl ?_
        | refine ep_lenE rfl ?_ | refine sp_idx rfl rfl rfl (by omega) rfl ?_ | refine ep_loadS rfl rfl rfl (by first | exact ints_get (by omega) | exact zints_get (by omega) | exact fget (by omega) | assumption) ?_)
      | (refine g_ops ?_; first | refine eo_none ?_ | refine eo_nil ?_ | refine eo_yes rfl ?_ | refine eo_no rfl ?_ | refine eo_und rfl ?_ | refine eo_yesH rfl (by assumption) ?_ | refine eo_noH rfl (by assumption) ?_)
      | (refine g_code ?_; first | refine ec_seq ?_ | refine ec_region ?_ | refine ec_block ?_ | refine ec_skip ?_ | refine ec_exit ?_ | refine ec_ret ?_ | refine ec_condT rfl ?_ | refine ec_condF rfl ?_ | refine ec_condTH rfl (by assumption) ?_ | refine ec_condFH rfl (by assumption) ?_)
      | refine ek_seqN ?_ | refine ek_seqX ?_ | refine ek_seqR ?_ | refine ek_blkN ?_ | refine ek_blkR ?_ | refine ek_blkX ?_ | refine ek_blkY rfl ?_)
    exact rnd_on (by rfl) (scmp2 (by rfl) (by rfl) (by exact ⟨rfl, rfl, rfl⟩) (by rfl) (by first | rfl | (simp; done) | (simp [ints, prs]; done)) (by rfl) (by first | rfl | (simp; done) | (simp [ints, prs]; done)))
  · intro u_ hu_
    have hlt : decide (((fs.length : Nat) : Int) < (fs.length : Nat)) = false := decide_eq_false (by omega)
    unfold m81_0
    repeat' (first
      | (refine g_op ?_; first
        | refine ep_mov rfl ?_ | refine ep_load1 rfl rfl rfl rfl ?_ | refine ep_fieldAddr rfl ?_
        | refine ep_bin rfl rfl (by first | exact b_add (by omega) (by omega) | exact b_sub (by omega) (by omega) | exact b_and (by omega) (by omega) | exact b_or (by omega) (by omega) | exact b_shr (by omega) | exact b_shl (by omega) (by omega) | exact b_lss | exact b_leq | exact b_gtr | exact b_geq | exact b_eql | exact b_neq) ?_
        | refine ep_pickT rfl rfl ?_ | refine ep_pickF rfl rfl ?_ | refine ep_pickTH rfl (by assumption) rfl ?_ | refine ep_pickFH rfl (by assumption) rfl ?_ | refine ep_lenS rfl ?_ | refine ep_lenN rfl ?_
        | refine ep_lenE rfl ?_ | refine sp_idx rfl rfl rfl (by omega) rfl ?_ | refine ep_loadS rfl rfl rfl (by first | exact ints_get (by omega) | exact zints_get (by omega) | exact fget (by omega) | assumption) ?_)
      | (refine g_ops ?_; first | refine eo_none ?_ | refine eo_nil ?_ | refine eo_yes rfl ?_ | refine eo_no rfl ?_ | refine eo_und rfl ?_ | refine eo_yesH rfl (by assumption) ?_ | refine eo_noH rfl (by assumption) ?_)
      | (refine g_code ?_; first | refine ec_seq ?_ | refine ec_region ?_ | refine ec_block ?_ | refine ec_skip ?_ | refine ec_exit ?_ | refine ec_ret ?_ | refine ec_condT rfl ?_ | refine ec_condF rfl ?_ | refine ec_condTH rfl (by assumption) ?_ | refine ec_condFH rfl (by assumption) ?_)
      | refine ek_seqN ?_ | refine ek_seqX ?_ | refine ek_seqR ?_ | refine ek_blkN ?_ | refine ek_blkR ?_ | refine ek_blkX ?_ | refine ek_blkY rfl ?_)
    exact rnd_out (by rfl) (by simp) (scmp2 (by rfl) (by rfl) (by exact ⟨rfl, rfl, rfl⟩) (by rfl) (by first | rfl | (simp; done) | (simp [ints, prs]; done)) (by rfl) (by first | rfl | (simp; done) | (simp [ints, prs]; done)))

theorem lplc_y (fs : List (Int × Int)) (z : Int) (hln : fs.length ≤ 1048576) (hz : (z == 3) = true) (o : Out) (ho : (if allF (fun j => !decide ((fs.getD j (0, 0)).1 > 2)) 0 (fs.length) = true then (⟨.exit 0, [], [⟨fns fs, 2, 0, some 0, false⟩]⟩ : Out) else ⟨.ret, [(4, .int .i64 2)], [⟨fns fs, 2, 0, some 0, false⟩]⟩) = o) :
    LpS cx 31 1 m81_0 [(0, .sl 0 0 fs.length), (1, .int .i64 (z)), (6, .int .i64 (0 : Nat))] [⟨fns fs, 2, 0, some 0, false⟩] o.x o.e o.h := by
  refine lp_all (fs.length) (fun j => !decide ((fs.getD j (0, 0)).1 > 2)) (fun i => [(0, .sl 0 0 fs.length), (1, .int .i64 (z)), (6, .int .i64 (i : Nat))]) (fun i => [⟨fns fs, 2, 0, some 0, false⟩]) _ _ ?_ ?_ ?_ (fs.length) 0 o (by omega) ho
  · intro i hi hp
    have hlt : decide ((i : Int) < (fs.length : Nat)) = true := decide_eq_true (by omega)
    have hp' : (!decide ((fs.getD i (0, 0)).1 > 2)) = true := hp
    have hg0 := fns_at0 (l := fs) (j := i) hi
    have hq : decide ((fs.getD i (0, 0)).1 > 2) = false := by simpa using hp'
    unfold m81_0
    repeat' (first
      | refine ep_loadS rfl rfl rfl hg0 ?_
      | (refine g_op ?_; first
        | refine ep_mov rfl ?_ | refine ep_load1 rfl rfl rfl rfl ?_ | refine ep_fieldAddr rfl ?_
        | refine ep_bin rfl rfl (by first | exact b_add (by omega) (by omega) | exact b_sub (by omega) (by omega) | exact b_and (by omega) (by omega) | exact b_or (by omega) (by omega) | exact b_shr (by omega) | exact b_shl (by omega) (by omega) | exact b_lss | exact b_leq | exact b_gtr | exact b_geq | exact b_eql | exact b_neq) ?_
        | refine ep_pickT rfl rfl ?_ | refine ep_pickF rfl rfl ?_ | refine ep_pickTH rfl (by assumption) rfl ?_ | refine ep_pickFH rfl (by assumption) rfl ?_ | refine ep_lenS rfl ?_ | refine ep_lenN rfl ?_
        | refine ep_lenE rfl ?_ | refine sp_idx rfl rfl rfl (by omega) rfl ?_ | refine ep_loadS rfl rfl rfl (by first | exact ints_get (by omega) | exact zints_get (by omega) | exact fget (by omega) | assumption) ?_)
      | (refine g_ops ?_; first | refine eo_none ?_ | refine eo_nil ?_ | refine eo_yes rfl ?_ | refine eo_no rfl ?_ | refine eo_und rfl ?_ | refine eo_yesH rfl (by assumption) ?_ | refine eo_noH rfl (by assumption) ?_)
      | (refine g_code ?_; first | refine ec_seq ?_ | refine ec_region ?_ | refine ec_block ?_ | refine ec_skip ?_ | refine ec_exit ?_ | refine ec_ret ?_ | refine ec_condT rfl ?_ | refine ec_condF rfl ?_ | refine ec_condTH rfl (by assumption) ?_ | refine ec_condFH rfl (by assumption) ?_)
      | refine ek_seqN ?_ | refine ek_seqX ?_ | refine ek_seqR ?_ | refine ek_blkN ?_ | refine ek_blkR ?_ | refine ek_blkX ?_ | refine ek_blkY rfl ?_)
    exact rnd_on (by rfl) (scmp2 (by rfl) (by rfl) (by exact ⟨rfl, rfl, rfl⟩) (by rfl) (by first | rfl | (simp; done) | (simp [ints, prs]; done)) (by rfl) (by first | rfl | (simp; done) | (simp [ints, prs]; done)))
  · intro i hi hp
    have hlt : decide ((i : Int) < (fs.length : Nat)) = true := decide_eq_true (by omega)
    have hp' : (!decide ((fs.getD i (0, 0)).1 > 2)) = false := hp
    have hg0 := fns_at0 (l := fs) (j := i) hi
    have hq : decide ((fs.getD i (0, 0)).1 > 2) = true := by simpa using hp'
    unfold m81_0
    repeat' (first
      | refine ep_loadS rfl rfl rfl hg0 ?_
      | (refine g_op ?_; first
        | refine ep_mov rfl ?_ | refine ep_load1 rfl rfl rfl rfl ?_ | refine ep_fieldAddr rfl ?_
        | refine ep_bin rfl rfl (by first | exact b_add (by omega) (by omega) | exact b_sub (by omega) (by omega) | exact b_and (by omega) (by omega) | exact b_or (by omega) (by omega) | exact b_shr (by omega) | exact b_shl (by omega) (by omega) | exact b_lss | exact b_leq | exact b_gtr | exact b_geq | exact b_eql | exact b_neq) ?_
        | refine ep_pickT rfl rfl ?_ | refine ep_pickF rfl rfl ?_ | refine ep_pickTH rfl (by assumption) rfl ?_ | refine ep_pickFH rfl (by assumption) rfl ?_ | refine ep_lenS rfl ?_ | refine ep_lenN rfl ?_
        | refine ep_lenE rfl ?_ | refine sp_idx rfl rfl rfl (by omega) rfl ?_ | refine ep_loadS rfl rfl rfl (by first | exact ints_get (by omega) | exact zints_get (by omega) | exact fget (by omega) | assumption) ?_)
      | (refine g_ops ?_; first | refine eo_none ?_ | refine eo_nil ?_ | refine eo_yes rfl ?_ | refine eo_no rfl ?_ | refine eo_und rfl ?_ | refine eo_yesH rfl (by assumption) ?_ | refine eo_noH rfl (by assumption) ?_)
      | (refine g_code ?_; first | refine ec_seq ?_ | refine ec_region ?_ | refine ec_block ?_ | refine ec_skip ?_ | refine ec_exit ?_ | refine ec_ret ?_ | refine ec_condT rfl ?_ | refine ec_condF rfl ?_ | refine ec_condTH rfl (by assumption) ?_ | refine ec_condFH rfl (by assumption) ?_)
      | refine ek_seqN ?_ | refine ek_seqX ?_ | refine ek_seqR ?_ | refine ek_blkN ?_ | refine ek_blkR ?_ | refine ek_blkX ?_ | refine ek_blkY rfl ?_)
    exact rnd_out (by rfl) (by simp) (scmp2 (by rfl) (by rfl) (by exact ⟨rfl, rfl, rfl⟩) (by rfl) (by first | rfl | (simp; done) | (simp [ints, prs]; done)) (by rfl) (by first | rfl | (simp; done) | (simp [ints, prs]; done)))
  · have hlt : decide (((fs.length : Nat) : Int) < (fs.length : Nat)) = false := decide_eq_false (by omega)
    unfold m81_0
    repeat' (first
      | (refine g_op ?_; first
        | refine ep_mov rfl ?_ | refine ep_load1 rfl rfl rfl rfl ?_ | refine ep_fieldAddr rfl ?_
        | refine ep_bin rfl rfl (by first | exact b_add (by omega) (by omega) | exact b_sub (by omega) (by omega) | exact b_and (by omega) (by omega) | exact b_or (by omega) (by omega) | exact b_shr (by omega) | exact b_shl (by omega) (by omega) | exact b_lss | exact b_leq | exact b_gtr | exact b_geq | exact b_eql | exact b_neq) ?_
        | refine ep_pickT rfl rfl ?_ | refine ep_pickF rfl rfl ?_ | refine ep_pickTH rfl (by assumption) rfl ?_ | refine ep_pickFH rfl (by assumption) rfl ?_ | refine ep_lenS rfl ?_ | refine ep_lenN rfl ?_
        | refine ep_lenE rfl ?_ | refine sp_idx rfl rfl rfl (by omega) rfl ?_ | refine ep_loadS rfl rfl rfl (by first | exact ints_get (by omega) | exact zints_get (by omega) | exact fget (by omega) | assumption) ?_)
      | (refine g_ops ?_; first | refine eo_none ?_ | refine eo_nil ?_ | refine eo_yes rfl ?_ | refine eo_no rfl ?_ | refine eo_und rfl ?_ | refine eo_yesH rfl (by assumption) ?_ | refine eo_noH rfl (by assumption) ?_)
      | (refine g_code ?_; first | refine ec_seq ?_ | refine ec_region ?_ | refine ec_block ?_ | refine ec_skip ?_ | refine ec_exit ?_ | refine ec_ret ?_ | refine ec_condT rfl ?_ | refine ec_condF rfl ?_ | refine ec_condTH rfl (by assumption) ?_ | refine ec_condFH rfl (by assumption) ?_)
      | refine ek_seqN ?_ | refine ek_seqX ?_ | refine ek_seqR ?_ | refine ek_blkN ?_ | refine ek_blkR ?_ | refine ek_blkX ?_ | refine ek_blkY rfl ?_)
    exact rnd_out (by rfl) (by simp) (scmp2 (by rfl) (by rfl) (by exact ⟨rfl, rfl, rfl⟩) (by rfl) (by first | rfl | (simp; done) | (simp [ints, prs]; done)) (by rfl) (by first | rfl | (simp; done) | (simp [ints, prs]; done)))

theorem ev81 (fs : List (Int × Int)) (z : Int) (hln : fs.length ≤ 1048576) : Ev cx 81 [.sl 0 0 fs.length, .int .i64 z] [⟨fns fs, 2, 0, some 0, false⟩] (.int .i64 (gcode fs z)) [⟨fns fs, 2, 0, some 0, false⟩] := by
  have e1 := ev69 fs hln
  have e2 := ev97 z 2 3
  by_cases h0 : lcode fs = 0
  · rw [h0] at e1
    by_cases h1 : 2 ≤ z ∧ z ≤ 3
    · rw [decide_eq_true h1] at e2
      cases hz : (z == 3)
      · have hC : gcode fs z = 0 := by rw [gcode, if_pos h0, if_pos h1, if_neg (fun h => by rw [h.1] at hz; simp at hz)]
        have lp := lplc_n fs z hln hz
        rw [hC]
        refine has81.eev rfl rfl ?_
        unfold m81
        repeat' (first
          | refine sc_loop lp rfl rfl ⟨rfl, rfl, rfl⟩ rfl rfl rfl ?_
          | (refine g_op ?_; first
            | refine ep_mov rfl ?_
            | refine ep_call0 rfl (by first | exact e1 | exact e2) rfl rfl ?_
            | refine sp_call rfl rfl rfl rfl (by first | exact e1 | exact e2) ⟨rfl, rfl, rfl, rfl⟩ rfl rfl rfl ?_
            | refine ep_bin rfl rfl (by first | exact b_add (by omega) (by omega) | exact b_sub (by omega) (by omega) | exact b_and (by omega) (by omega) | exact b_or (by omega) (by omega) | exact b_shr (by omega) | exact b_shl (by omega) (by omega) | exact b_lss | exact b_leq | exact b_gtr | exact b_geq | exact b_eql | exact b_neq) ?_
            | refine ep_not rfl ?_)
          | (refine g_ops ?_; first | refine eo_none ?_ | refine eo_nil ?_)
          | (refine g_code ?_; first | refine ec_seq ?_ | refine ec_region ?_ | refine ec_block ?_ | refine ec_skip ?_ | refine ec_ret ?_ | refine ec_condT rfl ?_ | refine ec_condF rfl ?_ | refine ec_condTH rfl (by assumption) ?_ | refine ec_condFH rfl (by assumption) ?_)
          | refine ek_seqN ?_ | refine ek_seqX ?_ | refine ek_seqR ?_ | refine ek_blkN ?_ | refine ek_blkR ?_ | refine ek_blkX ?_ | refine ek_blkY rfl ?_)
        refine sfin (.inr rfl) (by rfl) (by rfl) (by exact ⟨rfl, rfl, rfl⟩) (by rfl) (by rfl) (by rfl) (by first | rfl | (simp; done) | (simp [ints, prs]; done))
      · have hz3 : z = 3 := by simpa using hz
        cases h3 : a3 fs
        · have hC : gcode fs z = 2 := by rw [gcode, if_pos h0, if_pos h1, if_pos ⟨hz3, h3⟩]
          have lp := lplc_y fs z hln hz _ (if_neg (by rw [show allF (fun j => !decide ((fs.getD j (0, 0)).1 > 2)) 0 fs.length = false from h3]; simp))
          rw [hC]
          refine has81.eev rfl rfl ?_
          unfold m81
          repeat' (first
            | refine sc_loop lp rfl rfl ⟨rfl, rfl, rfl⟩ rfl rfl rfl ?_
            | (refine g_op ?_; first
              | refine ep_mov rfl ?_
              | refine ep_call0 rfl (by first | exact e1 | exact e2) rfl rfl ?_
              | refine sp_call rfl rfl rfl rfl (by first | exact e1 | exact e2) ⟨rfl, rfl, rfl, rfl⟩ rfl rfl rfl ?_
              | refine ep_bin rfl rfl (by first | exact b_add (by omega) (by omega) | exact b_sub (by omega) (by omega) | exact b_and (by omega) (by omega) | exact b_or (by omega) (by omega) | exact b_shr (by omega) | exact b_shl (by omega) (by omega) | exact b_lss | exact b_leq | exact b_gtr | exact b_geq | exact b_eql | exact b_neq) ?_
              | refine ep_not rfl ?_)
            | (refine g_ops ?_; first | refine eo_none ?_ | refine eo_nil ?_)
            | (refine g_code ?_; first | refine ec_seq ?_ | refine ec_region ?_ | refine ec_block ?_ | refine ec_skip ?_ | refine ec_ret ?_ | refine ec_condT rfl ?_ | refine ec_condF rfl ?_ | refine ec_condTH rfl (by assumption) ?_ | refine ec_condFH rfl (by assumption) ?_)
            | refine ek_seqN ?_ | refine ek_seqX ?_ | refine ek_seqR ?_ | refine ek_blkN ?_ | refine ek_blkR ?_ | refine ek_blkX ?_ | refine ek_blkY rfl ?_)
          refine sfin (.inr rfl) (by rfl) (by rfl) (by exact ⟨rfl, rfl, rfl⟩) (by rfl) (by rfl) (by rfl) (by first | rfl | (simp; done) | (simp [ints, prs]; done))
        · have hC : gcode fs z = 0 := by rw [gcode, if_pos h0, if_pos h1, if_neg (fun h => by rw [h3] at h; simp at h)]
          have lp := lplc_y fs z hln hz _ (if_pos h3)
          rw [hC]
          refine has81.eev rfl rfl ?_
          unfold m81
          repeat' (first
            | refine sc_loop lp rfl rfl ⟨rfl, rfl, rfl⟩ rfl rfl rfl ?_
            | (refine g_op ?_; first
              | refine ep_mov rfl ?_
              | refine ep_call0 rfl (by first | exact e1 | exact e2) rfl rfl ?_
              | refine sp_call rfl rfl rfl rfl (by first | exact e1 | exact e2) ⟨rfl, rfl, rfl, rfl⟩ rfl rfl rfl ?_
              | refine ep_bin rfl rfl (by first | exact b_add (by omega) (by omega) | exact b_sub (by omega) (by omega) | exact b_and (by omega) (by omega) | exact b_or (by omega) (by omega) | exact b_shr (by omega) | exact b_shl (by omega) (by omega) | exact b_lss | exact b_leq | exact b_gtr | exact b_geq | exact b_eql | exact b_neq) ?_
              | refine ep_not rfl ?_)
            | (refine g_ops ?_; first | refine eo_none ?_ | refine eo_nil ?_)
            | (refine g_code ?_; first | refine ec_seq ?_ | refine ec_region ?_ | refine ec_block ?_ | refine ec_skip ?_ | refine ec_ret ?_ | refine ec_condT rfl ?_ | refine ec_condF rfl ?_ | refine ec_condTH rfl (by assumption) ?_ | refine ec_condFH rfl (by assumption) ?_)
            | refine ek_seqN ?_ | refine ek_seqX ?_ | refine ek_seqR ?_ | refine ek_blkN ?_ | refine ek_blkR ?_ | refine ek_blkX ?_ | refine ek_blkY rfl ?_)
          refine sfin (.inr rfl) (by rfl) (by rfl) (by exact ⟨rfl, rfl, rfl⟩) (by rfl) (by rfl) (by rfl) (by first | rfl | (simp; done) | (simp [ints, prs]; done))
    · rw [decide_eq_false h1] at e2
      have hC : gcode fs z = 2 := by rw [gcode, if_pos h0, if_neg h1]
      rw [hC]
      refine has81.eev rfl rfl ?_
      unfold m81
      repeat' (first
        | (refine g_op ?_; first
          | refine ep_mov rfl ?_
          | refine ep_call0 rfl (by first | exact e1 | exact e2) rfl rfl ?_
          | refine sp_call rfl rfl rfl rfl (by first | exact e1 | exact e2) ⟨rfl, rfl, rfl, rfl⟩ rfl rfl rfl ?_
          | refine ep_bin rfl rfl (by first | exact b_add (by omega) (by omega) | exact b_sub (by omega) (by omega) | exact b_and (by omega) (by omega) | exact b_or (by omega) (by omega) | exact b_shr (by omega) | exact b_shl (by omega) (by omega) | exact b_lss | exact b_leq | exact b_gtr | exact b_geq | exact b_eql | exact b_neq) ?_
          | refine ep_not rfl ?_)
        | (refine g_ops ?_; first | refine eo_none ?_ | refine eo_nil ?_)
        | (refine g_code ?_; first | refine ec_seq ?_ | refine ec_region ?_ | refine ec_block ?_ | refine ec_skip ?_ | refine ec_ret ?_ | refine ec_condT rfl ?_ | refine ec_condF rfl ?_ | refine ec_condTH rfl (by assumption) ?_ | refine ec_condFH rfl (by assumption) ?_)
        | refine ek_seqN ?_ | refine ek_seqX ?_ | refine ek_seqR ?_ | refine ek_blkN ?_ | refine ek_blkR ?_ | refine ek_blkX ?_ | refine ek_blkY rfl ?_)
      refine sfin (.inr rfl) (by rfl) (by rfl) (by exact ⟨rfl, rfl, rfl⟩) (by rfl) (by rfl) (by rfl) (by first | rfl | (simp; done) | (simp [ints, prs]; done))
  · have hC : gcode fs z = lcode fs := by rw [gcode, if_neg h0]
    have hq2 : (lcode fs != 0) = true := by simpa using h0
    rw [hC]
    refine has81.eev rfl rfl ?_
    unfold m81
    repeat' (first
      | (refine g_op ?_; first
        | refine ep_mov rfl ?_
        | refine ep_call0 rfl (by first | exact e1 | exact e2) rfl rfl ?_
        | refine sp_call rfl rfl rfl rfl (by first | exact e1 | exact e2) ⟨rfl, rfl, rfl, rfl⟩ rfl rfl rfl ?_
        | refine ep_bin rfl rfl (by first | exact b_add (by omega) (by omega) | exact b_sub (by omega) (by omega) | exact b_and (by omega) (by omega) | exact b_or (by omega) (by omega) | exact b_shr (by omega) | exact b_shl (by omega) (by omega) | exact b_lss | exact b_leq | exact b_gtr | exact b_geq | exact b_eql | exact b_neq) ?_
        | refine ep_not rfl ?_)
      | (refine g_ops ?_; first | refine eo_none ?_ | refine eo_nil ?_)
      | (refine g_code ?_; first | refine ec_seq ?_ | refine ec_region ?_ | refine ec_block ?_ | refine ec_skip ?_ | refine ec_ret ?_ | refine ec_condT rfl ?_ | refine ec_condF rfl ?_ | refine ec_condTH rfl (by assumption) ?_ | refine ec_condFH rfl (by assumption) ?_)
      | refine ek_seqN ?_ | refine ek_seqX ?_ | refine ek_seqR ?_ | refine ek_blkN ?_ | refine ek_blkR ?_ | refine ek_blkX ?_ | refine ek_blkY rfl ?_)
    refine sfin (.inr rfl) (by rfl) (by rfl) (by exact ⟨rfl, rfl, rfl⟩) (by rfl) (by rfl) (by rfl) (by first | rfl | (simp; done) | (simp [ints, prs]; done))
-- impl.generationCode$1
def m125 : MC := (.seq (.region [⟨(.mov (.k (.bool false))), (some 2), none⟩] false) (.seq (.region [⟨(.mov (.t 0)), (some 3), none⟩, ⟨(.call 73 [(.t 3)]), (some 4), none⟩, ⟨(.un .not (.t 4)), (some 5), none⟩, ⟨(.mov (.t 5)), (some 2), none⟩] false) .ret))
theorem has125 : Has cx 125 6 m125 [(.tmp 2)] :=
  ⟨⟨Try.f125, Try.f125.body.getD .skip, by kernel_rfl, by kernel_rfl, by kernel_rfl, by kernel_rfl, by kernel_rfl, by kernel_rfl⟩⟩
theorem evgc1 (fs : List (Int × Int)) (hln : fs.length ≤ 1048576) : Ev cx 125 [.sl 0 0 fs.length] [⟨fns fs, 2, 0, some 0, false⟩] (.bool (!allFunc fs)) [⟨fns fs, 2, 0, some 0, false⟩] := by
  refine has125.eev rfl rfl ?_
  unfold m125
  repeat' (first
    | (refine g_op ?_; first
      | refine ep_mov rfl ?_
      | refine ep_call0 rfl (by first | exact ev73 fs hln) rfl rfl ?_
      | refine sp_call rfl rfl rfl rfl (by first | exact ev73 fs hln) ⟨rfl, rfl, rfl, rfl⟩ rfl rfl rfl ?_
      | refine ep_not rfl ?_)
    | (refine g_ops ?_; first | refine eo_none ?_ | refine eo_nil ?_)
    | (refine g_code ?_; first | refine ec_seq ?_ | refine ec_region ?_ | refine ec_ret ?_)
    | refine ek_seqN ?_ | refine ek_seqR ?_)
  refine sfin (.inr rfl) (by rfl) (by rfl) (by exact ⟨rfl, rfl, rfl⟩) (by rfl) (by rfl) (by rfl) (by first | rfl | (simp; done) | (simp [ints, prs]; done))
-- impl.generationCode$2
def m126 : MC := (.seq (.region [⟨(.box (.t 0)), (some 1), none⟩, ⟨(.mov (.k (.bool false))), (some 2), none⟩] false) (.seq (.region [⟨(.fieldAddr 0 (.t 1)), (some 3), none⟩, ⟨(.load none (.t 3)), (some 4), none⟩, ⟨(.bin .gtr (.t 4) (.k (.int .i64 2))), (some 5), none⟩, ⟨(.mov (.t 5)), (some 2), none⟩] false) .ret))
theorem has126 : Has cx 126 6 m126 [(.tmp 2)] :=
  ⟨⟨Try.f126, Try.f126.body.getD .skip, by kernel_rfl, by kernel_rfl, by kernel_rfl, by kernel_rfl, by kernel_rfl, by kernel_rfl⟩⟩
theorem evgc2 (a b : Int) : Ev cx 126 [.agg [.int .i64 a, .int .i64 b]] [] (.bool (decide (a > 2))) [] := by
  refine has126.eev rfl rfl ?_
  unfold m126
  repeat' (first
    | (refine g_op ?_; first
      | refine ep_mov rfl ?_ | refine ep_load1 rfl rfl rfl rfl ?_ | refine ep_fieldAddr rfl ?_
      | refine ep_bin rfl rfl (by first | exact b_add (by omega) (by omega) | exact b_sub (by omega) (by omega) | exact b_and (by omega) (by omega) | exact b_or (by omega) (by omega) | exact b_shr (by omega) | exact b_shl (by omega) (by omega) | exact b_lss | exact b_leq | exact b_gtr | exact b_geq | exact b_eql | exact b_neq) ?_
      | refine sp_box rfl rfl rfl rfl rfl ?_)
    | (refine g_ops ?_; first | refine eo_none ?_ | refine eo_nil ?_)
    | (refine g_code ?_; first | refine ec_seq ?_ | refine ec_region ?_ | refine ec_ret ?_)
    | refine ek_seqN ?_ | refine ek_seqR ?_)
  refine sfin (.inr rfl) (by rfl) (by rfl) (by exact ⟨rfl, rfl, rfl⟩) (by rfl) (by rfl) (by rfl) (by first | rfl | (simp; done) | (simp [ints, prs]; done))
-- slices.IndexFunc[[][]impl.Func,[]impl.Func]
def m144_0 : MC := (.seq (.region [⟨(.bin .lss (.t 8) (.t 7)), (some 9), none⟩] false) (.seq (.cond (.t 9) .skip (.exit 0)) (.seq (.block 1 (.seq (.region [⟨(.mov (.t 8)), (some 10), none⟩, ⟨(.mov (.t 10)), (some 5), none⟩] false) (.seq (.region [⟨(.mov (.t 1)), (some 11), none⟩, ⟨(.mov (.t 0)), (some 12), none⟩, ⟨(.mov (.t 5)), (some 13), none⟩, ⟨(.indexAddr 1 (.t 12) (.t 13)), (some 14), none⟩, ⟨(.load none (.t 14)), (some 15), none⟩, ⟨(.callv (.t 11) [(.t 15)]), (some 16), none⟩] false) (.cond (.t 16) (.seq (.region [⟨(.mov (.t 5)), (some 17), none⟩, ⟨(.mov (.t 17)), (some 4), none⟩] false) .ret) .skip)))) (.region [⟨(.bin .add (.t 8) (.k (.int .i64 1))), (some 18), none⟩, ⟨(.mov (.t 18)), (some 8), none⟩] false))))
def m144 : MC := (.seq (.region [⟨(.mov (.k (.int .i64 0))), (some 4), none⟩] false) (.seq (.seq (.region [⟨(.mov (.t 0)), (some 6), none⟩, ⟨(.len (.t 6)), (some 7), none⟩, ⟨(.mov (.k (.int .i64 0))), (some 8), none⟩] false) (.block 0 (.loop m144_0))) (.seq (.region [⟨(.mov (.k (.int .i64 (-1)))), (some 4), none⟩] false) .ret)))
theorem has144 : Has cx 144 19 m144 [(.tmp 4)] :=
  ⟨⟨Try.f144, Try.f144.body.getD .skip, by kernel_rfl, by kernel_rfl, by kernel_rfl, by kernel_rfl, by kernel_rfl, by kernel_rfl⟩⟩

-- slices.ContainsFunc[[][]impl.Func,[]impl.Func]
def m124 : MC := (.seq (.region [⟨(.mov (.k (.bool false))), (some 4), none⟩] false) (.seq (.region [⟨(.mov (.t 0)), (some 5), none⟩, ⟨(.mov (.t 1)), (some 6), none⟩, ⟨(.call 144 [(.t 5), (.t 6)]), (some 7), none⟩, ⟨(.bin .geq (.t 7) (.k (.int .i64 0))), (some 8), none⟩, ⟨(.mov (.t 8)), (some 4), none⟩] false) .ret))
theorem has124 : Has cx 124 9 m124 [(.tmp 4)] :=
  ⟨⟨Try.f124, Try.f124.body.getD .skip, by kernel_rfl, by kernel_rfl, by kernel_rfl, by kernel_rfl, by kernel_rfl, by kernel_rfl⟩⟩

theorem lpix_gc2 (fs : List (Int × Int)) (hln : fs.length ≤ 1048576) (o : Out) (ho : (match firstF (fun i => !(fun j => decide ((fs.getD j (0, 0)).1 > 2)) i) 0 (fs.length) with | none => (⟨.exit 0, [], [⟨fns fs, 2, 0, some 0, false⟩]⟩ : Out) | some x => ⟨.ret, [(4, .int .i64 (x : Nat))], [⟨fns fs, 2, 0, some 0, false⟩]⟩) = o) :
    LpS cx 19 1 m140_0 [(0, .sl 0 0 fs.length), (1, .fn 126 []), (7, .int .i64 (fs.length : Nat)), (8, .int .i64 (0 : Nat))] [⟨fns fs, 2, 0, some 0, false⟩] o.x o.e o.h := by
  refine lp_brk (fs.length) (fun i => !(fun j => decide ((fs.getD j (0, 0)).1 > 2)) i) (fun _ => ()) (fun i _ => [(0, .sl 0 0 fs.length), (1, .fn 126 []), (7, .int .i64 (fs.length : Nat)), (8, .int .i64 (i : Nat))]) (fun i _ => [⟨fns fs, 2, 0, some 0, false⟩]) (fun _ => ⟨.exit 0, [], [⟨fns fs, 2, 0, some 0, false⟩]⟩) (fun i _ => ⟨.ret, [(4, .int .i64 (i : Nat))], [⟨fns fs, 2, 0, some 0, false⟩]⟩) ?_ ?_ ?_ (fs.length) 0 o (by omega) (fun h => by rw [← ho, firstF_none fun x h1 h2 => h x h1 (by omega)]) (fun x h1 h2 h3 h4 => by rw [← ho, firstF_some h1 (by omega) h3 h4])
  · intro i s hi hs hp
    have hlt : decide ((i : Int) < (fs.length : Nat)) = true := decide_eq_true (by omega)
    have hp' : (!(fun j => decide ((fs.getD j (0, 0)).1 > 2)) i) = true := hp
    refine ⟨(), rfl, ?_⟩
    have hg := fns_get (l := fs) (j := i) hi
    have e0 := evgc2 (fs.getD i (0, 0)).1 (fs.getD i (0, 0)).2
    have hq : (decide ((fs.getD i (0, 0)).1 > 2)) = !((!(fun j => decide ((fs.getD j (0, 0)).1 > 2)) i)) := by simp
    rw [hp'] at hq
    rw [hq] at e0
    unfold m140_0
    repeat' (first
      | refine ep_loadSN rfl rfl rfl hg ?_
      | (refine g_op ?_; first
        | refine ep_mov rfl ?_ | refine sp_loadN rfl rfl rfl rfl rfl ?_
        | refine sp_callv rfl rfl rfl rfl rfl rfl (by first | exact e0) ⟨rfl, rfl, rfl, rfl⟩ rfl rfl rfl ?_
        | refine sp_callb rfl rfl rfl rfl rfl rfl (by first | exact e0) ⟨rfl, rfl, rfl, rfl⟩ rfl rfl rfl ?_
        | refine ep_bin rfl rfl (by first | exact b_add (by omega) (by omega) | exact b_sub (by omega) (by omega) | exact b_and (by omega) (by omega) | exact b_or (by omega) (by omega) | exact b_shr (by omega) | exact b_shl (by omega) (by omega) | exact b_lss | exact b_leq | exact b_gtr | exact b_geq | exact b_eql | exact b_neq) ?_
        | refine sp_idx rfl rfl rfl (by omega) rfl ?_ | refine ep_loadSN rfl rfl rfl (by first | exact prs_get (by omega) | exact fns_get (by omega)) ?_)
      | (refine g_ops ?_; first | refine eo_none ?_ | refine eo_nil ?_)
      | (refine g_code ?_; first | refine ec_seq ?_ | refine ec_region ?_ | refine ec_block ?_ | refine ec_skip ?_ | refine ec_exit ?_ | refine ec_ret ?_ | refine ec_condT rfl ?_ | refine ec_condF rfl ?_ | refine ec_condTH rfl (by assumption) ?_ | refine ec_condFH rfl (by assumption) ?_)
      | refine ek_seqN ?_ | refine ek_seqX ?_ | refine ek_seqR ?_ | refine ek_blkN ?_ | refine ek_blkR ?_ | refine ek_blkX ?_ | refine ek_blkY rfl ?_)
    exact rnd_on (by rfl) (scmp2 (by rfl) (by rfl) (by exact ⟨rfl, rfl, rfl⟩) (by rfl) (by first | rfl | (simp; done) | (simp [ints, prs]; done)) (by rfl) (by first | rfl | (simp; done) | (simp [ints, prs]; done)))
  · intro i s hi hs hp
    have hlt : decide ((i : Int) < (fs.length : Nat)) = true := decide_eq_true (by omega)
    have hp' : (!(fun j => decide ((fs.getD j (0, 0)).1 > 2)) i) = false := hp
    have hg := fns_get (l := fs) (j := i) hi
    have e0 := evgc2 (fs.getD i (0, 0)).1 (fs.getD i (0, 0)).2
    have hq : (decide ((fs.getD i (0, 0)).1 > 2)) = !((!(fun j => decide ((fs.getD j (0, 0)).1 > 2)) i)) := by simp
    rw [hp'] at hq
    rw [hq] at e0
    unfold m140_0
    repeat' (first
      | refine ep_loadSN rfl rfl rfl hg ?_
      | (refine g_op ?_; first
        | refine ep_mov rfl ?_ | refine sp_loadN rfl rfl rfl rfl rfl ?_
        | refine sp_callv rfl rfl rfl rfl rfl rfl (by first | exact e0) ⟨rfl, rfl, rfl, rfl⟩ rfl rfl rfl ?_
        | refine sp_callb rfl rfl rfl rfl rfl rfl (by first | exact e0) ⟨rfl, rfl, rfl, rfl⟩ rfl rfl rfl ?_
        | refine ep_bin rfl rfl (by first | exact b_add (by omega) (by omega) | exact b_sub (by omega) (by omega) | exact b_and (by omega) (by omega) | exact b_or (by omega) (by omega) | exact b_shr (by omega) | exact b_shl (by omega) (by omega) | exact b_lss | exact b_leq | exact b_gtr | exact b_geq | exact b_eql | exact b_neq) ?_
        | refine sp_idx rfl rfl rfl (by omega) rfl ?_ | refine ep_loadSN rfl rfl rfl (by first | exact prs_get (by omega) | exact fns_get (by omega)) ?_)
      | (refine g_ops ?_; first | refine eo_none ?_ | refine eo_nil ?_)
      | (refine g_code ?_; first | refine ec_seq ?_ | refine ec_region ?_ | refine ec_block ?_ | refine ec_skip ?_ | refine ec_exit ?_ | refine ec_ret ?_ | refine ec_condT rfl ?_ | refine ec_condF rfl ?_ | refine ec_condTH rfl (by assumption) ?_ | refine ec_condFH rfl (by assumption) ?_)
      | refine ek_seqN ?_ | refine ek_seqX ?_ | refine ek_seqR ?_ | refine ek_blkN ?_ | refine ek_blkR ?_ | refine ek_blkX ?_ | refine ek_blkY rfl ?_)
    exact rnd_out (by rfl) (by simp) (scmp2 (by rfl) (by rfl) (by exact ⟨rfl, rfl, rfl⟩) (by rfl) (by first | rfl | (simp; done) | (simp [ints, prs]; done)) (by rfl) (by first | rfl | (simp; done) | (simp [ints, prs]; done)))
  · intro s hs
    have hlt : decide (((fs.length : Nat) : Int) < (fs.length : Nat)) = false := decide_eq_false (by omega)
    unfold m140_0
    repeat' (first
      | refine ep_loadSN rfl rfl rfl hg ?_
      | (refine g_op ?_; first
        | refine ep_mov rfl ?_ | refine sp_loadN rfl rfl rfl rfl rfl ?_
        | refine sp_callv rfl rfl rfl rfl rfl rfl (by first | exact e0) ⟨rfl, rfl, rfl, rfl⟩ rfl rfl rfl ?_
        | refine sp_callb rfl rfl rfl rfl rfl rfl (by first | exact e0) ⟨rfl, rfl, rfl, rfl⟩ rfl rfl rfl ?_
        | refine ep_bin rfl rfl (by first | exact b_add (by omega) (by omega) | exact b_sub (by omega) (by omega) | exact b_and (by omega) (by omega) | exact b_or (by omega) (by omega) | exact b_shr (by omega) | exact b_shl (by omega) (by omega) | exact b_lss | exact b_leq | exact b_gtr | exact b_geq | exact b_eql | exact b_neq) ?_
        | refine sp_idx rfl rfl rfl (by omega) rfl ?_ | refine ep_loadSN rfl rfl rfl (by first | exact prs_get (by omega) | exact fns_get (by omega)) ?_)
      | (refine g_ops ?_; first | refine eo_none ?_ | refine eo_nil ?_)
      | (refine g_code ?_; first | refine ec_seq ?_ | refine ec_region ?_ | refine ec_block ?_ | refine ec_skip ?_ | refine ec_exit ?_ | refine ec_ret ?_ | refine ec_condT rfl ?_ | refine ec_condF rfl ?_ | refine ec_condTH rfl (by assumption) ?_ | refine ec_condFH rfl (by assumption) ?_)
      | refine ek_seqN ?_ | refine ek_seqX ?_ | refine ek_seqR ?_ | refine ek_blkN ?_ | refine ek_blkR ?_ | refine ek_blkX ?_ | refine ek_blkY rfl ?_)
    exact rnd_out (by rfl) (by simp) (scmp2 (by rfl) (by rfl) (by exact ⟨rfl, rfl, rfl⟩) (by rfl) (by first | rfl | (simp; done) | (simp [ints, prs]; done)) (by rfl) (by first | rfl | (simp; done) | (simp [ints, prs]; done)))
theorem evix_gc2 (fs : List (Int × Int)) (hln : fs.length ≤ 1048576) : Ev cx 140 [.sl 0 0 fs.length, .fn 126 []] [⟨fns fs, 2, 0, some 0, false⟩] (.int .i64 (match firstF (fun i => !(fun j => decide ((fs.getD j (0, 0)).1 > 2)) i) 0 (fs.length) with | none => -1 | some x => ((x : Nat) : Int))) [⟨fns fs, 2, 0, some 0, false⟩] := by
  cases hs : firstF (fun i => !(fun j => decide ((fs.getD j (0, 0)).1 > 2)) i) 0 (fs.length) with
  | none =>
    have lp := lpix_gc2 fs hln _ (by rw [hs])
    refine has140.eev rfl rfl ?_
    unfold m140
    repeat' (first
      | refine sc_loop lp rfl rfl ⟨rfl, rfl, rfl⟩ rfl rfl rfl ?_
      | (refine g_op ?_; first
        | refine ep_mov rfl ?_
        | refine ep_lenS rfl ?_ | refine ep_lenN rfl ?_ | refine ep_lenE rfl ?_)
      | (refine g_ops ?_; first | refine eo_none ?_ | refine eo_nil ?_)
      | (refine g_code ?_; first | refine ec_seq ?_ | refine ec_region ?_ | refine ec_block ?_ | refine ec_ret ?_)
      | refine ek_seqN ?_ | refine ek_seqX ?_ | refine ek_seqR ?_ | refine ek_blkN ?_ | refine ek_blkR ?_ | refine ek_blkX ?_ | refine ek_blkY rfl ?_)
    refine sfin (.inr rfl) (by rfl) (by rfl) (by exact ⟨rfl, rfl, rfl⟩) (by rfl) (by rfl) (by rfl) (by first | rfl | (simp; done) | (simp [ints, prs]; done))
  | some x =>
    have lp := lpix_gc2 fs hln _ (by rw [hs])
    refine has140.eev rfl rfl ?_
    unfold m140
    repeat' (first
      | refine sc_loop lp rfl rfl ⟨rfl, rfl, rfl⟩ rfl rfl rfl ?_
      | (refine g_op ?_; first
        | refine ep_mov rfl ?_
        | refine ep_lenS rfl ?_ | refine ep_lenN rfl ?_ | refine ep_lenE rfl ?_)
      | (refine g_ops ?_; first | refine eo_none ?_ | refine eo_nil ?_)
      | (refine g_code ?_; first | refine ec_seq ?_ | refine ec_region ?_ | refine ec_block ?_ | refine ec_ret ?_)
      | refine ek_seqN ?_ | refine ek_seqX ?_ | refine ek_seqR ?_ | refine ek_blkN ?_ | refine ek_blkR ?_ | refine ek_blkX ?_ | refine ek_blkY rfl ?_)
    refine sfin (.inr rfl) (by rfl) (by rfl) (by exact ⟨rfl, rfl, rfl⟩) (by rfl) (by rfl) (by rfl) (by first | rfl | (simp; done) | (simp [ints, prs]; done))
theorem evcf_gc2 (fs : List (Int × Int)) (hln : fs.length ≤ 1048576) : Ev cx 115 [.sl 0 0 fs.length, .fn 126 []] [⟨fns fs, 2, 0, some 0, false⟩] (.bool (!allF (fun i => !(fun j => decide ((fs.getD j (0, 0)).1 > 2)) i) 0 (fs.length))) [⟨fns fs, 2, 0, some 0, false⟩] := by
  have e1 := evix_gc2 fs hln
  cases hs : firstF (fun i => !(fun j => decide ((fs.getD j (0, 0)).1 > 2)) i) 0 (fs.length) with
  | none =>
    rw [hs] at e1
    refine has115.eev rfl rfl ?_
    unfold m115
    repeat' (first
      | (refine g_op ?_; first
        | refine ep_mov rfl ?_
        | refine ep_call0 rfl (by first | exact e1) rfl rfl ?_
        | refine sp_call rfl rfl rfl rfl (by first | exact e1) ⟨rfl, rfl, rfl, rfl⟩ rfl rfl rfl ?_
        | refine ep_bin rfl rfl (by first | exact b_add (by omega) (by omega) | exact b_sub (by omega) (by omega) | exact b_and (by omega) (by omega) | exact b_or (by omega) (by omega) | exact b_shr (by omega) | exact b_shl (by omega) (by omega) | exact b_lss | exact b_leq | exact b_gtr | exact b_geq | exact b_eql | exact b_neq) ?_)
      | (refine g_ops ?_; first | refine eo_none ?_ | refine eo_nil ?_)
      | (refine g_code ?_; first | refine ec_seq ?_ | refine ec_region ?_ | refine ec_ret ?_)
      | refine ek_seqN ?_ | refine ek_seqR ?_)
    refine sfin (.inr rfl) (by rfl) (by rfl) (by exact ⟨rfl, rfl, rfl⟩) (by rfl) (by rfl) (by rw [firstF_allT hs]; rfl) (by first | rfl | (simp; done) | (simp [ints, prs]; done))
  | some x =>
    rw [hs] at e1
    have hge : decide (((x : Nat) : Int) ≥ 0) = true := decide_eq_true (by omega)
    refine has115.eev rfl rfl ?_
    unfold m115
    repeat' (first
      | (refine g_op ?_; first
        | refine ep_mov rfl ?_
        | refine ep_call0 rfl (by first | exact e1) rfl rfl ?_
        | refine sp_call rfl rfl rfl rfl (by first | exact e1) ⟨rfl, rfl, rfl, rfl⟩ rfl rfl rfl ?_
        | refine ep_bin rfl rfl (by first | exact b_add (by omega) (by omega) | exact b_sub (by omega) (by omega) | exact b_and (by omega) (by omega) | exact b_or (by omega) (by omega) | exact b_shr (by omega) | exact b_shl (by omega) (by omega) | exact b_lss | exact b_leq | exact b_gtr | exact b_geq | exact b_eql | exact b_neq) ?_)
      | (refine g_ops ?_; first | refine eo_none ?_ | refine eo_nil ?_)
      | (refine g_code ?_; first | refine ec_seq ?_ | refine ec_region ?_ | refine ec_ret ?_)
      | refine ek_seqN ?_ | refine ek_seqR ?_)
    refine sfin (.inr rfl) (by rfl) (by rfl) (by exact ⟨rfl, rfl, rfl⟩) (by rfl) (by rfl) (by rw [firstF_allF hs]; first | rfl | exact congrArg V.bool hge) (by first | rfl | (simp; done) | (simp [ints, prs]; done))

theorem lpix_ll1 (fs : List (Int × Int)) (hln : fs.length ≤ 1048576) (o : Out) (ho : (match firstF (fun i => !(fun _ => !allFunc fs) i) 0 (1) with | none => (⟨.exit 0, [], [⟨[.sl 1 0 fs.length], 1, 0, some 0, true⟩, ⟨fns fs, 2, 1, some 0, false⟩]⟩ : Out) | some x => ⟨.ret, [(4, .int .i64 (x : Nat))], [⟨[.sl 1 0 fs.length], 1, 0, some 0, true⟩, ⟨fns fs, 2, 1, some 0, false⟩]⟩) = o) :
    LpS cx 19 2 m144_0 [(0, .sl 0 0 1), (1, .fn 125 []), (7, .int .i64 (1 : Nat)), (8, .int .i64 (0 : Nat))] [⟨[.sl 1 0 fs.length], 1, 0, some 0, true⟩, ⟨fns fs, 2, 1, some 0, false⟩] o.x o.e o.h := by
  refine lp_brk (1) (fun i => !(fun _ => !allFunc fs) i) (fun _ => ()) (fun i _ => [(0, .sl 0 0 1), (1, .fn 125 []), (7, .int .i64 (1 : Nat)), (8, .int .i64 (i : Nat))]) (fun i _ => [⟨[.sl 1 0 fs.length], 1, 0, some 0, true⟩, ⟨fns fs, 2, 1, some 0, false⟩]) (fun _ => ⟨.exit 0, [], [⟨[.sl 1 0 fs.length], 1, 0, some 0, true⟩, ⟨fns fs, 2, 1, some 0, false⟩]⟩) (fun i _ => ⟨.ret, [(4, .int .i64 (i : Nat))], [⟨[.sl 1 0 fs.length], 1, 0, some 0, true⟩, ⟨fns fs, 2, 1, some 0, false⟩]⟩) ?_ ?_ ?_ (1) 0 o (by omega) (fun h => by rw [← ho, firstF_none fun x h1 h2 => h x h1 (by omega)]) (fun x h1 h2 h3 h4 => by rw [← ho, firstF_some h1 (by omega) h3 h4])
  · intro i s hi hs hp
    have hlt : decide ((i : Int) < (1 : Nat)) = true := decide_eq_true (by omega)
    have hp' : (!(fun _ => !allFunc fs) i) = true := hp
    refine ⟨(), rfl, ?_⟩
    have e0 := evgc1 fs hln
    have hq : (!allFunc fs) = !((!(fun _ => !allFunc fs) i)) := by simp
    rw [hp'] at hq
    rw [hq] at e0
    obtain rfl : i = 0 := by omega
    unfold m144_0
    repeat' (first
      | (refine g_op ?_; first
        | refine ep_mov rfl ?_ | refine ep_load1 rfl rfl rfl rfl ?_
        | refine sp_callv rfl rfl rfl rfl rfl rfl (by first | exact e0) ⟨rfl, rfl, rfl, rfl⟩ rfl rfl rfl ?_
        | refine sp_callb rfl rfl rfl rfl rfl rfl (by first | exact e0) ⟨rfl, rfl, rfl, rfl⟩ rfl rfl rfl ?_
        | refine ep_bin rfl rfl (by first | exact b_add (by omega) (by omega) | exact b_sub (by omega) (by omega) | exact b_and (by omega) (by omega) | exact b_or (by omega) (by omega) | exact b_shr (by omega) | exact b_shl (by omega) (by omega) | exact b_lss | exact b_leq | exact b_gtr | exact b_geq | exact b_eql | exact b_neq) ?_
        | refine sp_idx rfl rfl rfl (by omega) rfl ?_ | refine ep_loadS rfl rfl rfl (by first | exact ints_get (by omega) | exact zints_get (by omega) | exact fget (by omega) | assumption) ?_)
      | (refine g_ops ?_; first | refine eo_none ?_ | refine eo_nil ?_)
      | (refine g_code ?_; first | refine ec_seq ?_ | refine ec_region ?_ | refine ec_block ?_ | refine ec_skip ?_ | refine ec_exit ?_ | refine ec_ret ?_ | refine ec_condT rfl ?_ | refine ec_condF rfl ?_ | refine ec_condTH rfl (by assumption) ?_ | refine ec_condFH rfl (by assumption) ?_)
      | refine ek_seqN ?_ | refine ek_seqX ?_ | refine ek_seqR ?_ | refine ek_blkN ?_ | refine ek_blkR ?_ | refine ek_blkX ?_ | refine ek_blkY rfl ?_)
    exact rnd_on (by rfl) (scmp2 (by rfl) (by rfl) (by exact ⟨rfl, rfl, rfl⟩) (by rfl) (by first | rfl | (simp; done) | (simp [ints, prs]; done)) (by rfl) (by first | rfl | (simp; done) | (simp [ints, prs]; done)))
  · intro i s hi hs hp
    have hlt : decide ((i : Int) < (1 : Nat)) = true := decide_eq_true (by omega)
    have hp' : (!(fun _ => !allFunc fs) i) = false := hp
    have e0 := evgc1 fs hln
    have hq : (!allFunc fs) = !((!(fun _ => !allFunc fs) i)) := by simp
    rw [hp'] at hq
    rw [hq] at e0
    obtain rfl : i = 0 := by omega
    unfold m144_0
    repeat' (first
      | (refine g_op ?_; first
        | refine ep_mov rfl ?_ | refine ep_load1 rfl rfl rfl rfl ?_
        | refine sp_callv rfl rfl rfl rfl rfl rfl (by first | exact e0) ⟨rfl, rfl, rfl, rfl⟩ rfl rfl rfl ?_
        | refine sp_callb rfl rfl rfl rfl rfl rfl (by first | exact e0) ⟨rfl, rfl, rfl, rfl⟩ rfl rfl rfl ?_
        | refine ep_bin rfl rfl (by first | exact b_add (by omega) (by omega) | exact b_sub (by omega) (by omega) | exact b_and (by omega) (by omega) | exact b_or (by omega) (by omega) | exact b_shr (by omega) | exact b_shl (by omega) (by omega) | exact b_lss | exact b_leq | exact b_gtr | exact b_geq | exact b_eql | exact b_neq) ?_
        | refine sp_idx rfl rfl rfl (by omega) rfl ?_ | refine ep_loadS rfl rfl rfl (by first | exact ints_get (by omega) | exact zints_get (by omega) | exact fget (by omega) | assumption) ?_)
      | (refine g_ops ?_; first | refine eo_none ?_ | refine eo_nil ?_)
      | (refine g_code ?_; first | refine ec_seq ?_ | refine ec_region ?_ | refine ec_block ?_ | refine ec_skip ?_ | refine ec_exit ?_ | refine ec_ret ?_ | refine ec_condT rfl ?_ | refine ec_condF rfl ?_ | refine ec_condTH rfl (by assumption) ?_ | refine ec_condFH rfl (by assumption) ?_)
      | refine ek_seqN ?_ | refine ek_seqX ?_ | refine ek_seqR ?_ | refine ek_blkN ?_ | refine ek_blkR ?_ | refine ek_blkX ?_ | refine ek_blkY rfl ?_)
    exact rnd_out (by rfl) (by simp) (scmp2 (by rfl) (by rfl) (by exact ⟨rfl, rfl, rfl⟩) (by rfl) (by first | rfl | (simp; done) | (simp [ints, prs]; done)) (by rfl) (by first | rfl | (simp; done) | (simp [ints, prs]; done)))
  · intro s hs
    have hlt : decide (((1 : Nat) : Int) < (1 : Nat)) = false := decide_eq_false (by omega)
    unfold m144_0
    repeat' (first
      | (refine g_op ?_; first
        | refine ep_mov rfl ?_ | refine ep_load1 rfl rfl rfl rfl ?_
        | refine sp_callv rfl rfl rfl rfl rfl rfl (by first | exact e0) ⟨rfl, rfl, rfl, rfl⟩ rfl rfl rfl ?_
        | refine sp_callb rfl rfl rfl rfl rfl rfl (by first | exact e0) ⟨rfl, rfl, rfl, rfl⟩ rfl rfl rfl ?_
        | refine ep_bin rfl rfl (by first | exact b_add (by omega) (by omega) | exact b_sub (by omega) (by omega) | exact b_and (by omega) (by omega) | exact b_or (by omega) (by omega) | exact b_shr (by omega) | exact b_shl (by omega) (by omega) | exact b_lss | exact b_leq | exact b_gtr | exact b_geq | exact b_eql | exact b_neq) ?_
        | refine sp_idx rfl rfl rfl (by omega) rfl ?_ | refine ep_loadS rfl rfl rfl (by first | exact ints_get (by omega) | exact zints_get (by omega) | exact fget (by omega) | assumption) ?_)
      | (refine g_ops ?_; first | refine eo_none ?_ | refine eo_nil ?_)
      | (refine g_code ?_; first | refine ec_seq ?_ | refine ec_region ?_ | refine ec_block ?_ | refine ec_skip ?_ | refine ec_exit ?_ | refine ec_ret ?_ | refine ec_condT rfl ?_ | refine ec_condF rfl ?_ | refine ec_condTH rfl (by assumption) ?_ | refine ec_condFH rfl (by assumption) ?_)
      | refine ek_seqN ?_ | refine ek_seqX ?_ | refine ek_seqR ?_ | refine ek_blkN ?_ | refine ek_blkR ?_ | refine ek_blkX ?_ | refine ek_blkY rfl ?_)
    exact rnd_out (by rfl) (by simp) (scmp2 (by rfl) (by rfl) (by exact ⟨rfl, rfl, rfl⟩) (by rfl) (by first | rfl | (simp; done) | (simp [ints, prs]; done)) (by rfl) (by first | rfl | (simp; done) | (simp [ints, prs]; done)))
theorem evix_ll1 (fs : List (Int × Int)) (hln : fs.length ≤ 1048576) : Ev cx 144 [.sl 0 0 1, .fn 125 []] [⟨[.sl 1 0 fs.length], 1, 0, some 0, true⟩, ⟨fns fs, 2, 1, some 0, false⟩] (.int .i64 (match firstF (fun i => !(fun _ => !allFunc fs) i) 0 (1) with | none => -1 | some x => ((x : Nat) : Int))) [⟨[.sl 1 0 fs.length], 1, 0, some 0, true⟩, ⟨fns fs, 2, 1, some 0, false⟩] := by
  cases hs : firstF (fun i => !(fun _ => !allFunc fs) i) 0 (1) with
  | none =>
    have lp := lpix_ll1 fs hln _ (by rw [hs])
    refine has144.eev rfl rfl ?_
    unfold m144
    repeat' (first
      | refine sc_loop lp rfl rfl ⟨rfl, rfl, rfl⟩ rfl rfl rfl ?_
      | (refine g_op ?_; first
        | refine ep_mov rfl ?_
        | refine ep_lenS rfl ?_ | refine ep_lenN rfl ?_ | refine ep_lenE rfl ?_)
      | (refine g_ops ?_; first | refine eo_none ?_ | refine eo_nil ?_)
      | (refine g_code ?_; first | refine ec_seq ?_ | refine ec_region ?_ | refine ec_block ?_ | refine ec_ret ?_)
      | refine ek_seqN ?_ | refine ek_seqX ?_ | refine ek_seqR ?_ | refine ek_blkN ?_ | refine ek_blkR ?_ | refine ek_blkX ?_ | refine ek_blkY rfl ?_)
    refine sfin (.inr rfl) (by rfl) (by rfl) (by exact ⟨rfl, rfl, rfl⟩) (by rfl) (by rfl) (by rfl) (by first | rfl | (simp; done) | (simp [ints, prs]; done))
  | some x =>
    have lp := lpix_ll1 fs hln _ (by rw [hs])
    refine has144.eev rfl rfl ?_
    unfold m144
    repeat' (first
      | refine sc_loop lp rfl rfl ⟨rfl, rfl, rfl⟩ rfl rfl rfl ?_
      | (refine g_op ?_; first
        | refine ep_mov rfl ?_
        | refine ep_lenS rfl ?_ | refine ep_lenN rfl ?_ | refine ep_lenE rfl ?_)
      | (refine g_ops ?_; first | refine eo_none ?_ | refine eo_nil ?_)
      | (refine g_code ?_; first | refine ec_seq ?_ | refine ec_region ?_ | refine ec_block ?_ | refine ec_ret ?_)
      | refine ek_seqN ?_ | refine ek_seqX ?_ | refine ek_seqR ?_ | refine ek_blkN ?_ | refine ek_blkR ?_ | refine ek_blkX ?_ | refine ek_blkY rfl ?_)
    refine sfin (.inr rfl) (by rfl) (by rfl) (by exact ⟨rfl, rfl, rfl⟩) (by rfl) (by rfl) (by rfl) (by first | rfl | (simp; done) | (simp [ints, prs]; done))
theorem evcf_ll1 (fs : List (Int × Int)) (hln : fs.length ≤ 1048576) : Ev cx 124 [.sl 0 0 1, .fn 125 []] [⟨[.sl 1 0 fs.length], 1, 0, some 0, true⟩, ⟨fns fs, 2, 1, some 0, false⟩] (.bool (!allF (fun i => !(fun _ => !allFunc fs) i) 0 (1))) [⟨[.sl 1 0 fs.length], 1, 0, some 0, true⟩, ⟨fns fs, 2, 1, some 0, false⟩] := by
  have e1 := evix_ll1 fs hln
  cases hs : firstF (fun i => !(fun _ => !allFunc fs) i) 0 (1) with
  | none =>
    rw [hs] at e1
    refine has124.eev rfl rfl ?_
    unfold m124
    repeat' (first
      | (refine g_op ?_; first
        | refine ep_mov rfl ?_
        | refine ep_call0 rfl (by first | exact e1) rfl rfl ?_
        | refine sp_call rfl rfl rfl rfl (by first | exact e1) ⟨rfl, rfl, rfl, rfl⟩ rfl rfl rfl ?_
        | refine ep_bin rfl rfl (by first | exact b_add (by omega) (by omega) | exact b_sub (by omega) (by omega) | exact b_and (by omega) (by omega) | exact b_or (by omega) (by omega) | exact b_shr (by omega) | exact b_shl (by omega) (by omega) | exact b_lss | exact b_leq | exact b_gtr | exact b_geq | exact b_eql | exact b_neq) ?_)
      | (refine g_ops ?_; first | refine eo_none ?_ | refine eo_nil ?_)
      | (refine g_code ?_; first | refine ec_seq ?_ | refine ec_region ?_ | refine ec_ret ?_)
      | refine ek_seqN ?_ | refine ek_seqR ?_)
    refine sfin (.inr rfl) (by rfl) (by rfl) (by exact ⟨rfl, rfl, rfl⟩) (by rfl) (by rfl) (by rw [firstF_allT hs]; rfl) (by first | rfl | (simp; done) | (simp [ints, prs]; done))
  | some x =>
    rw [hs] at e1
    have hge : decide (((x : Nat) : Int) ≥ 0) = true := decide_eq_true (by omega)
    refine has124.eev rfl rfl ?_
    unfold m124
    repeat' (first
      | (refine g_op ?_; first
        | refine ep_mov rfl ?_
        | refine ep_call0 rfl (by first | exact e1) rfl rfl ?_
        | refine sp_call rfl rfl rfl rfl (by first | exact e1) ⟨rfl, rfl, rfl, rfl⟩ rfl rfl rfl ?_
        | refine ep_bin rfl rfl (by first | exact b_add (by omega) (by omega) | exact b_sub (by omega) (by omega) | exact b_and (by omega) (by omega) | exact b_or (by omega) (by omega) | exact b_shr (by omega) | exact b_shl (by omega) (by omega) | exact b_lss | exact b_leq | exact b_gtr | exact b_geq | exact b_eql | exact b_neq) ?_)
      | (refine g_ops ?_; first | refine eo_none ?_ | refine eo_nil ?_)
      | (refine g_code ?_; first | refine ec_seq ?_ | refine ec_region ?_ | refine ec_ret ?_)
      | refine ek_seqN ?_ | refine ek_seqR ?_)
    refine sfin (.inr rfl) (by rfl) (by rfl) (by exact ⟨rfl, rfl, rfl⟩) (by rfl) (by rfl) (by rw [firstF_allF hs]; first | rfl | exact congrArg V.bool hge) (by first | rfl | (simp; done) | (simp [ints, prs]; done))

-- impl.generationCode
def m86_0 : MC := (.seq (.region [⟨(.bin .lss (.t 14) (.t 13)), (some 15), none⟩] false) (.seq (.cond (.t 15) .skip (.exit 0)) (.seq (.block 1 (.seq (.region [⟨(.indexAddr 1 (.t 12) (.t 14)), (some 16), none⟩, ⟨(.load none (.t 16)), (some 17), none⟩, ⟨(.mov (.t 17)), (some 6), none⟩] false) (.seq (.region [⟨(.mov (.t 6)), (some 18), none⟩, ⟨(.len (.t 18)), (some 19), none⟩, ⟨(.bin .gtr (.t 19) (.k (.int .i64 8))), (some 20), none⟩, ⟨(.mov (.t 20)), (some 21), none⟩, ⟨(.mov (.t 0)), (some 22), (some (21, false))⟩, ⟨(.bin .eql (.t 22) (.k (.int .i64 3))), (some 23), (some (21, false))⟩, ⟨(.mov (.t 23)), (some 24), (some (21, false))⟩, ⟨(.mov (.t 6)), (some 25), (some (24, true))⟩, ⟨(.call 115 [(.t 25), (.k (.fn 126 []))]), (some 26), (some (24, true))⟩, ⟨(.pick (.t 24) (.t 26) (.k (.bool false))), (some 27), (some (21, false))⟩, ⟨(.pick (.t 21) (.k (.bool true)) (.t 27)), (some 28), none⟩] false) (.cond (.t 28) (.seq (.region [⟨(.mov (.k (.int .i64 2))), (some 4), none⟩] false) .ret) .skip)))) (.region [⟨(.bin .add (.t 14) (.k (.int .i64 1))), (some 29), none⟩, ⟨(.mov (.t 29)), (some 14), none⟩] false))))
def m86 : MC := (.seq (.region [⟨(.mov (.k (.int .i64 0))), (some 4), none⟩] false) (.seq (.seq (.region [⟨(.mov (.t 1)), (some 7), none⟩, ⟨(.call 124 [(.t 7), (.k (.fn 125 []))]), (some 8), none⟩] false) (.cond (.t 8) (.seq (.region [⟨(.mov (.k (.int .i64 1))), (some 4), none⟩] false) .ret) .skip)) (.seq (.seq (.region [⟨(.mov (.t 0)), (some 9), none⟩, ⟨(.call 101 [(.t 9), (.k (.int .i64 2)), (.k (.int .i64 3))]), (some 10), none⟩, ⟨(.un .not (.t 10)), (some 11), none⟩] false) (.cond (.t 11) (.seq (.region [⟨(.mov (.k (.int .i64 2))), (some 4), none⟩] false) .ret) .skip)) (.seq (.seq (.region [⟨(.mov (.t 1)), (some 12), none⟩, ⟨(.len (.t 12)), (some 13), none⟩, ⟨(.mov (.k (.int .i64 0))), (some 14), none⟩] false) (.block 0 (.loop m86_0))) (.seq (.region [⟨(.mov (.k (.int .i64 0))), (some 4), none⟩] false) .ret)))))
theorem has86 : Has cx 86 30 m86 [(.tmp 4)] :=
  ⟨⟨Try.f86, Try.f86.body.getD .skip, by kernel_rfl, by kernel_rfl, by kernel_rfl, by kernel_rfl, by kernel_rfl, by kernel_rfl⟩⟩
theorem lpgc_A (fs : List (Int × Int)) (z : Int) (hln : fs.length ≤ 1048576) (h8 : fs.length > 8) : LpS cx 30 2 m86_0 [(0, .int .i64 (z)), (12, .sl 0 0 1), (13, .int .i64 (1 : Nat)), (14, .int .i64 (0 : Nat))] [⟨[.sl 1 0 fs.length], 1, 0, some 0, true⟩, ⟨fns fs, 2, 1, some 0, false⟩] (⟨.ret, [(4, .int .i64 2)], [⟨[.sl 1 0 fs.length], 1, 0, some 0, true⟩, ⟨fns fs, 2, 1, some 0, false⟩]⟩ : Out).x (⟨.ret, [(4, .int .i64 2)], [⟨[.sl 1 0 fs.length], 1, 0, some 0, true⟩, ⟨fns fs, 2, 1, some 0, false⟩]⟩ : Out).e (⟨.ret, [(4, .int .i64 2)], [⟨[.sl 1 0 fs.length], 1, 0, some 0, true⟩, ⟨fns fs, 2, 1, some 0, false⟩]⟩ : Out).h := by
  have hg8 : decide (((fs.length : Nat) : Int) > 8) = true := decide_eq_true (by omega)
  have hlt0 : decide (((0 : Nat) : Int) < (1 : Nat)) = true := by decide
  have hlt1 : decide (((0 + 1 : Nat) : Int) < (1 : Nat)) = false := by decide
  refine round_out ?_
  unfold m86_0
  repeat' (first
    | (refine g_op ?_; first
      | refine ep_mov rfl ?_ | refine ep_load1 rfl rfl rfl rfl ?_
      | refine ep_bin rfl rfl (by first | exact b_add (by omega) (by omega) | exact b_sub (by omega) (by omega) | exact b_and (by omega) (by omega) | exact b_or (by omega) (by omega) | exact b_shr (by omega) | exact b_shl (by omega) (by omega) | exact b_lss | exact b_leq | exact b_gtr | exact b_geq | exact b_eql | exact b_neq) ?_
      | refine ep_pickT rfl rfl ?_ | refine ep_pickF rfl rfl ?_ | refine ep_pickTH rfl (by assumption) rfl ?_ | refine ep_pickFH rfl (by assumption) rfl ?_ | refine ep_lenS rfl ?_ | refine ep_lenN rfl ?_
      | refine ep_lenE rfl ?_ | refine sp_idx rfl rfl rfl (by omega) rfl ?_ | refine ep_loadS rfl rfl rfl (by first | exact ints_get (by omega) | exact zints_get (by omega) | exact fget (by omega) | assumption) ?_)
    | (refine g_ops ?_; first | refine eo_none ?_ | refine eo_nil ?_ | refine eo_yes rfl ?_ | refine eo_no rfl ?_ | refine eo_und rfl ?_ | refine eo_yesH rfl (by assumption) ?_ | refine eo_noH rfl (by assumption) ?_)
    | (refine g_code ?_; first | refine ec_seq ?_ | refine ec_region ?_ | refine ec_block ?_ | refine ec_skip ?_ | refine ec_exit ?_ | refine ec_ret ?_ | refine ec_condT rfl ?_ | refine ec_condF rfl ?_ | refine ec_condTH rfl (by assumption) ?_ | refine ec_condFH rfl (by assumption) ?_)
    | refine ek_seqN ?_ | refine ek_seqX ?_ | refine ek_seqR ?_ | refine ek_blkN ?_ | refine ek_blkR ?_ | refine ek_blkX ?_ | refine ek_blkY rfl ?_)
  exact rnd_out (by rfl) (by simp) (scmp2 (by rfl) (by rfl) (by exact ⟨rfl, rfl, rfl⟩) (by rfl) (by first | rfl | (simp; done) | (simp [ints, prs]; done)) (by rfl) (by first | rfl | (simp; done) | (simp [ints, prs]; done)))
theorem lpgc_B (fs : List (Int × Int)) (z : Int) (hln : fs.length ≤ 1048576) (h8 : fs.length ≤ 8) (hz : (z == 3) = false) : LpS cx 30 2 m86_0 [(0, .int .i64 (z)), (12, .sl 0 0 1), (13, .int .i64 (1 : Nat)), (14, .int .i64 (0 : Nat))] [⟨[.sl 1 0 fs.length], 1, 0, some 0, true⟩, ⟨fns fs, 2, 1, some 0, false⟩] (⟨.exit 0, [], [⟨[.sl 1 0 fs.length], 1, 0, some 0, true⟩, ⟨fns fs, 2, 1, some 0, false⟩]⟩ : Out).x (⟨.exit 0, [], [⟨[.sl 1 0 fs.length], 1, 0, some 0, true⟩, ⟨fns fs, 2, 1, some 0, false⟩]⟩ : Out).e (⟨.exit 0, [], [⟨[.sl 1 0 fs.length], 1, 0, some 0, true⟩, ⟨fns fs, 2, 1, some 0, false⟩]⟩ : Out).h := by
  have hg8 : decide (((fs.length : Nat) : Int) > 8) = false := decide_eq_false (by omega)
  have hlt0 : decide (((0 : Nat) : Int) < (1 : Nat)) = true := by decide
  have hlt1 : decide (((0 + 1 : Nat) : Int) < (1 : Nat)) = false := by decide
  refine round_on (e2 := [(0, .int .i64 (z)), (12, .sl 0 0 1), (13, .int .i64 (1 : Nat)), (14, .int .i64 (0 + 1 : Nat))]) (h2 := [⟨[.sl 1 0 fs.length], 1, 0, some 0, true⟩, ⟨fns fs, 2, 1, some 0, false⟩]) ?_ (round_out ?_)
  · unfold m86_0
    repeat' (first
      | (refine g_op ?_; first
        | refine ep_mov rfl ?_ | refine ep_load1 rfl rfl rfl rfl ?_
        | refine ep_bin rfl rfl (by first | exact b_add (by omega) (by omega) | exact b_sub (by omega) (by omega) | exact b_and (by omega) (by omega) | exact b_or (by omega) (by omega) | exact b_shr (by omega) | exact b_shl (by omega) (by omega) | exact b_lss | exact b_leq | exact b_gtr | exact b_geq | exact b_eql | exact b_neq) ?_
        | refine ep_pickT rfl rfl ?_ | refine ep_pickF rfl rfl ?_ | refine ep_pickTH rfl (by assumption) rfl ?_ | refine ep_pickFH rfl (by assumption) rfl ?_ | refine ep_lenS rfl ?_ | refine ep_lenN rfl ?_
        | refine ep_lenE rfl ?_ | refine sp_idx rfl rfl rfl (by omega) rfl ?_ | refine ep_loadS rfl rfl rfl (by first | exact ints_get (by omega) | exact zints_get (by omega) | exact fget (by omega) | assumption) ?_)
      | (refine g_ops ?_; first | refine eo_none ?_ | refine eo_nil ?_ | refine eo_yes rfl ?_ | refine eo_no rfl ?_ | refine eo_und rfl ?_ | refine eo_yesH rfl (by assumption) ?_ | refine eo_noH rfl (by assumption) ?_)
      | (refine g_code ?_; first | refine ec_seq ?_ | refine ec_region ?_ | refine ec_block ?_ | refine ec_skip ?_ | refine ec_exit ?_ | refine ec_ret ?_ | refine ec_condT rfl ?_ | refine ec_condF rfl ?_ | refine ec_condTH rfl (by assumption) ?_ | refine ec_condFH rfl (by assumption) ?_)
      | refine ek_seqN ?_ | refine ek_seqX ?_ | refine ek_seqR ?_ | refine ek_blkN ?_ | refine ek_blkR ?_ | refine ek_blkX ?_ | refine ek_blkY rfl ?_)
    exact rnd_on (by rfl) (scmp2 (by rfl) (by rfl) (by exact ⟨rfl, rfl, rfl⟩) (by rfl) (by first | rfl | (simp; done) | (simp [ints, prs]; done)) (by rfl) (by first | rfl | (simp; done) | (simp [ints, prs]; done)))
  · unfold m86_0
    repeat' (first
      | (refine g_op ?_; first
        | refine ep_mov rfl ?_ | refine ep_load1 rfl rfl rfl rfl ?_
        | refine ep_bin rfl rfl (by first | exact b_add (by omega) (by omega) | exact b_sub (by omega) (by omega) | exact b_and (by omega) (by omega) | exact b_or (by omega) (by omega) | exact b_shr (by omega) | exact b_shl (by omega) (by omega) | exact b_lss | exact b_leq | exact b_gtr | exact b_geq | exact b_eql | exact b_neq) ?_
        | refine ep_pickT rfl rfl ?_ | refine ep_pickF rfl rfl ?_ | refine ep_pickTH rfl (by assumption) rfl ?_ | refine ep_pickFH rfl (by assumption) rfl ?_ | refine ep_lenS rfl ?_ | refine ep_lenN rfl ?_
        | refine ep_lenE rfl ?_ | refine sp_idx rfl rfl rfl (by omega) rfl ?_ | refine ep_loadS rfl rfl rfl (by first | exact ints_get (by omega) | exact zints_get (by omega) | exact fget (by omega) | assumption) ?_)
      | (refine g_ops ?_; first | refine eo_none ?_ | refine eo_nil ?_ | refine eo_yes rfl ?_ | refine eo_no rfl ?_ | refine eo_und rfl ?_ | refine eo_yesH rfl (by assumption) ?_ | refine eo_noH rfl (by assumption) ?_)
      | (refine g_code ?_; first | refine ec_seq ?_ | refine ec_region ?_ | refine ec_block ?_ | refine ec_skip ?_ | refine ec_exit ?_ | refine ec_ret ?_ | refine ec_condT rfl ?_ | refine ec_condF rfl ?_ | refine ec_condTH rfl (by assumption) ?_ | refine ec_condFH rfl (by assumption) ?_)
      | refine ek_seqN ?_ | refine ek_seqX ?_ | refine ek_seqR ?_ | refine ek_blkN ?_ | refine ek_blkR ?_ | refine ek_blkX ?_ | refine ek_blkY rfl ?_)
    exact rnd_out (by rfl) (by simp) (scmp2 (by rfl) (by rfl) (by exact ⟨rfl, rfl, rfl⟩) (by rfl) (by first | rfl | (simp; done) | (simp [ints, prs]; done)) (by rfl) (by first | rfl | (simp; done) | (simp [ints, prs]; done)))
theorem lpgc_C (fs : List (Int × Int)) (z : Int) (hln : fs.length ≤ 1048576) (h8 : fs.length ≤ 8) (hz : (z == 3) = true) (h3 : a3 fs = true) : LpS cx 30 2 m86_0 [(0, .int .i64 (z)), (12, .sl 0 0 1), (13, .int .i64 (1 : Nat)), (14, .int .i64 (0 : Nat))] [⟨[.sl 1 0 fs.length], 1, 0, some 0, true⟩, ⟨fns fs, 2, 1, some 0, false⟩] (⟨.exit 0, [], [⟨[.sl 1 0 fs.length], 1, 0, some 0, true⟩, ⟨fns fs, 2, 1, some 0, false⟩]⟩ : Out).x (⟨.exit 0, [], [⟨[.sl 1 0 fs.length], 1, 0, some 0, true⟩, ⟨fns fs, 2, 1, some 0, false⟩]⟩ : Out).e (⟨.exit 0, [], [⟨[.sl 1 0 fs.length], 1, 0, some 0, true⟩, ⟨fns fs, 2, 1, some 0, false⟩]⟩ : Out).h := by
  have hg8 : decide (((fs.length : Nat) : Int) > 8) = false := decide_eq_false (by omega)
  have e3 := evcf_gc2 fs hln
  rw [show (!allF (fun i => !(fun j => decide ((fs.getD j (0, 0)).1 > 2)) i) 0 fs.length) = !a3 fs from rfl, h3] at e3
  have hlt0 : decide (((0 : Nat) : Int) < (1 : Nat)) = true := by decide
  have hlt1 : decide (((0 + 1 : Nat) : Int) < (1 : Nat)) = false := by decide
  refine round_on (e2 := [(0, .int .i64 (z)), (12, .sl 0 0 1), (13, .int .i64 (1 : Nat)), (14, .int .i64 (0 + 1 : Nat))]) (h2 := [⟨[.sl 1 0 fs.length], 1, 0, some 0, true⟩, ⟨fns fs, 2, 1, some 0, false⟩]) ?_ (round_out ?_)
  · unfold m86_0
    repeat' (first
      | (refine g_op ?_; first
        | refine ep_mov rfl ?_ | refine ep_load1 rfl rfl rfl rfl ?_
        | refine ep_call0 rfl (by first | exact e3) rfl rfl ?_
        | refine sp_call rfl rfl rfl rfl (by first | exact e3) ⟨rfl, rfl, rfl, rfl⟩ rfl rfl rfl ?_
        | refine ep_bin rfl rfl (by first | exact b_add (by omega) (by omega) | exact b_sub (by omega) (by omega) | exact b_and (by omega) (by omega) | exact b_or (by omega) (by omega) | exact b_shr (by omega) | exact b_shl (by omega) (by omega) | exact b_lss | exact b_leq | exact b_gtr | exact b_geq | exact b_eql | exact b_neq) ?_
        | refine ep_pickT rfl rfl ?_ | refine ep_pickF rfl rfl ?_ | refine ep_pickTH rfl (by assumption) rfl ?_ | refine ep_pickFH rfl (by assumption) rfl ?_ | refine ep_lenS rfl ?_ | refine ep_lenN rfl ?_
        | refine ep_lenE rfl ?_ | refine sp_idx rfl rfl rfl (by omega) rfl ?_ | refine ep_loadS rfl rfl rfl (by first | exact ints_get (by omega) | exact zints_get (by omega) | exact fget (by omega) | assumption) ?_)
      | (refine g_ops ?_; first | refine eo_none ?_ | refine eo_nil ?_ | refine eo_yes rfl ?_ | refine eo_no rfl ?_ | refine eo_und rfl ?_ | refine eo_yesH rfl (by assumption) ?_ | refine eo_noH rfl (by assumption) ?_)
      | (refine g_code ?_; first | refine ec_seq ?_ | refine ec_region ?_ | refine ec_block ?_ | refine ec_skip ?_ | refine ec_exit ?_ | refine ec_ret ?_ | refine ec_condT rfl ?_ | refine ec_condF rfl ?_ | refine ec_condTH rfl (by assumption) ?_ | refine ec_condFH rfl (by assumption) ?_)
      | refine ek_seqN ?_ | refine ek_seqX ?_ | refine ek_seqR ?_ | refine ek_blkN ?_ | refine ek_blkR ?_ | refine ek_blkX ?_ | refine ek_blkY rfl ?_)
    exact rnd_on (by rfl) (scmp2 (by rfl) (by rfl) (by exact ⟨rfl, rfl, rfl⟩) (by rfl) (by first | rfl | (simp; done) | (simp [ints, prs]; done)) (by rfl) (by first | rfl | (simp; done) | (simp [ints, prs]; done)))
  · unfold m86_0
    repeat' (first
      | (refine g_op ?_; first
        | refine ep_mov rfl ?_ | refine ep_load1 rfl rfl rfl rfl ?_
        | refine ep_bin rfl rfl (by first | exact b_add (by omega) (by omega) | exact b_sub (by omega) (by omega) | exact b_and (by omega) (by omega) | exact b_or (by omega) (by omega) | exact b_shr (by omega) | exact b_shl (by omega) (by omega) | exact b_lss | exact b_leq | exact b_gtr | exact b_geq | exact b_eql | exact b_neq) ?_
        | refine ep_pickT rfl rfl ?_ | refine ep_pickF rfl rfl ?_ | refine ep_pickTH rfl (by assumption) rfl ?_ | refine ep_pickFH rfl (by assumption) rfl ?_ | refine ep_lenS rfl ?_ | refine ep_lenN rfl ?_
        | refine ep_lenE rfl ?_ | refine sp_idx rfl rfl rfl (by omega) rfl ?_ | refine ep_loadS rfl rfl rfl (by first | exact ints_get (by omega) | exact zints_get (by omega) | exact fget (by omega) | assumption) ?_)
      | (refine g_ops ?_; first | refine eo_none ?_ | refine eo_nil ?_ | refine eo_yes rfl ?_ | refine eo_no rfl ?_ | refine eo_und rfl ?_ | refine eo_yesH rfl (by assumption) ?_ | refine eo_noH rfl (by assumption) ?_)
      | (refine g_code ?_; first | refine ec_seq ?_ | refine ec_region ?_ | refine ec_block ?_ | refine ec_skip ?_ | refine ec_exit ?_ | refine ec_ret ?_ | refine ec_condT rfl ?_ | refine ec_condF rfl ?_ | refine ec_condTH rfl (by assumption) ?_ | refine ec_condFH rfl (by assumption) ?_)
      | refine ek_seqN ?_ | refine ek_seqX ?_ | refine ek_seqR ?_ | refine ek_blkN ?_ | refine ek_blkR ?_ | refine ek_blkX ?_ | refine ek_blkY rfl ?_)
    exact rnd_out (by rfl) (by simp) (scmp2 (by rfl) (by rfl) (by exact ⟨rfl, rfl, rfl⟩) (by rfl) (by first | rfl | (simp; done) | (simp [ints, prs]; done)) (by rfl) (by first | rfl | (simp; done) | (simp [ints, prs]; done)))
theorem lpgc_D (fs : List (Int × Int)) (z : Int) (hln : fs.length ≤ 1048576) (h8 : fs.length ≤ 8) (hz : (z == 3) = true) (h3 : a3 fs = false) : LpS cx 30 2 m86_0 [(0, .int .i64 (z)), (12, .sl 0 0 1), (13, .int .i64 (1 : Nat)), (14, .int .i64 (0 : Nat))] [⟨[.sl 1 0 fs.length], 1, 0, some 0, true⟩, ⟨fns fs, 2, 1, some 0, false⟩] (⟨.ret, [(4, .int .i64 2)], [⟨[.sl 1 0 fs.length], 1, 0, some 0, true⟩, ⟨fns fs, 2, 1, some 0, false⟩]⟩ : Out).x (⟨.ret, [(4, .int .i64 2)], [⟨[.sl 1 0 fs.length], 1, 0, some 0, true⟩, ⟨fns fs, 2, 1, some 0, false⟩]⟩ : Out).e (⟨.ret, [(4, .int .i64 2)], [⟨[.sl 1 0 fs.length], 1, 0, some 0, true⟩, ⟨fns fs, 2, 1, some 0, false⟩]⟩ : Out).h := by
  have hg8 : decide (((fs.length : Nat) : Int) > 8) = false := decide_eq_false (by omega)
  have e3 := evcf_gc2 fs hln
  rw [show (!allF (fun i => !(fun j => decide ((fs.getD j (0, 0)).1 > 2)) i) 0 fs.length) = !a3 fs from rfl, h3] at e3
  have hlt0 : decide (((0 : Nat) : Int) < (1 : Nat)) = true := by decide
  have hlt1 : decide (((0 + 1 : Nat) : Int) < (1 : Nat)) = false := by decide
  refine round_out ?_
  unfold m86_0
  repeat' (first
    | (refine g_op ?_; first
      | refine ep_mov rfl ?_ | refine ep_load1 rfl rfl rfl rfl ?_
      | refine ep_call0 rfl (by first | exact e3) rfl rfl ?_
      | refine sp_call rfl rfl rfl rfl (by first | exact e3) ⟨rfl, rfl, rfl, rfl⟩ rfl rfl rfl ?_
      | refine ep_bin rfl rfl (by first | exact b_add (by omega) (by omega) | exact b_sub (by omega) (by omega) | exact b_and (by omega) (by omega) | exact b_or (by omega) (by omega) | exact b_shr (by omega) | exact b_shl (by omega) (by omega) | exact b_lss | exact b_leq | exact b_gtr | exact b_geq | exact b_eql | exact b_neq) ?_
      | refine ep_pickT rfl rfl ?_ | refine ep_pickF rfl rfl ?_ | refine ep_pickTH rfl (by assumption) rfl ?_ | refine ep_pickFH rfl (by assumption) rfl ?_ | refine ep_lenS rfl ?_ | refine ep_lenN rfl ?_
      | refine ep_lenE rfl ?_ | refine sp_idx rfl rfl rfl (by omega) rfl ?_ | refine ep_loadS rfl rfl rfl (by first | exact ints_get (by omega) | exact zints_get (by omega) | exact fget (by omega) | assumption) ?_)
    | (refine g_ops ?_; first | refine eo_none ?_ | refine eo_nil ?_ | refine eo_yes rfl ?_ | refine eo_no rfl ?_ | refine eo_und rfl ?_ | refine eo_yesH rfl (by assumption) ?_ | refine eo_noH rfl (by assumption) ?_)
    | (refine g_code ?_; first | refine ec_seq ?_ | refine ec_region ?_ | refine ec_block ?_ | refine ec_skip ?_ | refine ec_exit ?_ | refine ec_ret ?_ | refine ec_condT rfl ?_ | refine ec_condF rfl ?_ | refine ec_condTH rfl (by assumption) ?_ | refine ec_condFH rfl (by assumption) ?_)
    | refine ek_seqN ?_ | refine ek_seqX ?_ | refine ek_seqR ?_ | refine ek_blkN ?_ | refine ek_blkR ?_ | refine ek_blkX ?_ | refine ek_blkY rfl ?_)
  exact rnd_out (by rfl) (by simp) (scmp2 (by rfl) (by rfl) (by exact ⟨rfl, rfl, rfl⟩) (by rfl) (by first | rfl | (simp; done) | (simp [ints, prs]; done)) (by rfl) (by first | rfl | (simp; done) | (simp [ints, prs]; done)))
theorem ev86_1 (fs : List (Int × Int)) (z : Int) (hln : fs.length ≤ 1048576) : Ev cx 86 [.int .i64 z, .sl 0 0 1] [⟨[.sl 1 0 fs.length], 1, 0, some 0, true⟩, ⟨fns fs, 2, 1, some 0, false⟩] (.int .i64 (gcode fs z)) [⟨[.sl 1 0 fs.length], 1, 0, some 0, true⟩, ⟨fns fs, 2, 1, some 0, false⟩] := by
  have e1 := evcf_ll1 fs hln
  have e2 := ev101 z 2 3
  cases ha : allFunc fs
  · rw [show (!allF (fun i => !(fun _ => !allFunc fs) i) 0 1) = true by simp [allF, ha]] at e1
    have hl1 : lcode fs = 1 := by rw [lcode, if_neg (by rw [ha]; simp)]
    have hC : gcode fs z = 1 := by rw [gcode, hl1, if_neg (by omega)]
    rw [hC]
    refine has86.eev rfl rfl ?_
    unfold m86
    repeat' (first
      | (refine g_op ?_; first
        | refine ep_mov rfl ?_
        | refine ep_call0 rfl (by first | exact e1 | exact e2) rfl rfl ?_
        | refine sp_call rfl rfl rfl rfl (by first | exact e1 | exact e2) ⟨rfl, rfl, rfl, rfl⟩ rfl rfl rfl ?_
        | refine ep_not rfl ?_ | refine ep_lenS rfl ?_ | refine ep_lenN rfl ?_ | refine ep_lenE rfl ?_)
      | (refine g_ops ?_; first | refine eo_none ?_ | refine eo_nil ?_)
      | (refine g_code ?_; first | refine ec_seq ?_ | refine ec_region ?_ | refine ec_block ?_ | refine ec_skip ?_ | refine ec_ret ?_ | refine ec_condT rfl ?_ | refine ec_condF rfl ?_ | refine ec_condTH rfl (by assumption) ?_ | refine ec_condFH rfl (by assumption) ?_)
      | refine ek_seqN ?_ | refine ek_seqX ?_ | refine ek_seqR ?_ | refine ek_blkN ?_ | refine ek_blkR ?_ | refine ek_blkX ?_ | refine ek_blkY rfl ?_)
    refine sfin (.inr rfl) (by rfl) (by rfl) (by exact ⟨rfl, rfl, rfl⟩) (by rfl) (by rfl) (by rfl) (by first | rfl | (simp; done) | (simp [ints, prs]; done))
  · rw [show (!allF (fun i => !(fun _ => !allFunc fs) i) 0 1) = false by simp [allF, ha]] at e1
    have hl : lcode fs = if fs.length > 8 then 2 else 0 := by rw [lcode, if_pos ha]
    by_cases h1 : 2 ≤ z ∧ z ≤ 3
    · rw [decide_eq_true h1] at e2
      by_cases h8 : fs.length > 8
      · rw [if_pos h8] at hl
        have hC : gcode fs z = 2 := by rw [gcode, hl, if_neg (by omega)]
        have lp := lpgc_A fs z hln h8
        rw [hC]
        refine has86.eev rfl rfl ?_
        unfold m86
        repeat' (first
          | refine sc_loop lp rfl rfl ⟨rfl, rfl, rfl⟩ rfl rfl rfl ?_
          | (refine g_op ?_; first
            | refine ep_mov rfl ?_
            | refine ep_call0 rfl (by first | exact e1 | exact e2) rfl rfl ?_
            | refine sp_call rfl rfl rfl rfl (by first | exact e1 | exact e2) ⟨rfl, rfl, rfl, rfl⟩ rfl rfl rfl ?_
            | refine ep_not rfl ?_ | refine ep_lenS rfl ?_ | refine ep_lenN rfl ?_ | refine ep_lenE rfl ?_)
          | (refine g_ops ?_; first | refine eo_none ?_ | refine eo_nil ?_)
          | (refine g_code ?_; first | refine ec_seq ?_ | refine ec_region ?_ | refine ec_block ?_ | refine ec_skip ?_ | refine ec_ret ?_ | refine ec_condT rfl ?_ | refine ec_condF rfl ?_ | refine ec_condTH rfl (by assumption) ?_ | refine ec_condFH rfl (by assumption) ?_)
          | refine ek_seqN ?_ | refine ek_seqX ?_ | refine ek_seqR ?_ | refine ek_blkN ?_ | refine ek_blkR ?_ | refine ek_blkX ?_ | refine ek_blkY rfl ?_)
        refine sfin (.inr rfl) (by rfl) (by rfl) (by exact ⟨rfl, rfl, rfl⟩) (by rfl) (by rfl) (by rfl) (by first | rfl | (simp; done) | (simp [ints, prs]; done))
      · rw [if_neg h8] at hl
        cases hz : (z == 3)
        · have hC : gcode fs z = 0 := by rw [gcode, if_pos hl, if_pos h1, if_neg (fun h => by rw [h.1] at hz; simp at hz)]
          have lp := lpgc_B fs z hln (by omega) hz
          rw [hC]
          refine has86.eev rfl rfl ?_
          unfold m86
          repeat' (first
            | refine sc_loop lp rfl rfl ⟨rfl, rfl, rfl⟩ rfl rfl rfl ?_
            | (refine g_op ?_; first
              | refine ep_mov rfl ?_
              | refine ep_call0 rfl (by first | exact e1 | exact e2) rfl rfl ?_
              | refine sp_call rfl rfl rfl rfl (by first | exact e1 | exact e2) ⟨rfl, rfl, rfl, rfl⟩ rfl rfl rfl ?_
              | refine ep_not rfl ?_ | refine ep_lenS rfl ?_ | refine ep_lenN rfl ?_ | refine ep_lenE rfl ?_)
            | (refine g_ops ?_; first | refine eo_none ?_ | refine eo_nil ?_)
            | (refine g_code ?_; first | refine ec_seq ?_ | refine ec_region ?_ | refine ec_block ?_ | refine ec_skip ?_ | refine ec_ret ?_ | refine ec_condT rfl ?_ | refine ec_condF rfl ?_ | refine ec_condTH rfl (by assumption) ?_ | refine ec_condFH rfl (by assumption) ?_)
            | refine ek_seqN ?_ | refine ek_seqX ?_ | refine ek_seqR ?_ | refine ek_blkN ?_ | refine ek_blkR ?_ | refine ek_blkX ?_ | refine ek_blkY rfl ?_)
          refine sfin (.inr rfl) (by rfl) (by rfl) (by exact ⟨rfl, rfl, rfl⟩) (by rfl) (by rfl) (by rfl) (by first | rfl | (simp; done) | (simp [ints, prs]; done))
        · have hz3 : z = 3 := by simpa using hz
          cases h3 : a3 fs
          · have hC : gcode fs z = 2 := by rw [gcode, if_pos hl, if_pos h1, if_pos ⟨hz3, h3⟩]
            have lp := lpgc_D fs z hln (by omega) hz h3
            rw [hC]
            refine has86.eev rfl rfl ?_
            unfold m86
            repeat' (first
              | refine sc_loop lp rfl rfl ⟨rfl, rfl, rfl⟩ rfl rfl rfl ?_
              | (refine g_op ?_; first
                | refine ep_mov rfl ?_
                | refine ep_call0 rfl (by first | exact e1 | exact e2) rfl rfl ?_
                | refine sp_call rfl rfl rfl rfl (by first | exact e1 | exact e2) ⟨rfl, rfl, rfl, rfl⟩ rfl rfl rfl ?_
                | refine ep_not rfl ?_ | refine ep_lenS rfl ?_ | refine ep_lenN rfl ?_ | refine ep_lenE rfl ?_)
              | (refine g_ops ?_; first | refine eo_none ?_ | refine eo_nil ?_)
              | (refine g_code ?_; first | refine ec_seq ?_ | refine ec_region ?_ | refine ec_block ?_ | refine ec_skip ?_ | refine ec_ret ?_ | refine ec_condT rfl ?_ | refine ec_condF rfl ?_ | refine ec_condTH rfl (by assumption) ?_ | refine ec_condFH rfl (by assumption) ?_)
              | refine ek_seqN ?_ | refine ek_seqX ?_ | refine ek_seqR ?_ | refine ek_blkN ?_ | refine ek_blkR ?_ | refine ek_blkX ?_ | refine ek_blkY rfl ?_)
            refine sfin (.inr rfl) (by rfl) (by rfl) (by exact ⟨rfl, rfl, rfl⟩) (by rfl) (by rfl) (by rfl) (by first | rfl | (simp; done) | (simp [ints, prs]; done))
          · have hC : gcode fs z = 0 := by rw [gcode, if_pos hl, if_pos h1, if_neg (fun h => by rw [h3] at h; simp at h)]
            have lp := lpgc_C fs z hln (by omega) hz h3
            rw [hC]
            refine has86.eev rfl rfl ?_
            unfold m86
            repeat' (first
              | refine sc_loop lp rfl rfl ⟨rfl, rfl, rfl⟩ rfl rfl rfl ?_
              | (refine g_op ?_; first
                | refine ep_mov rfl ?_
                | refine ep_call0 rfl (by first | exact e1 | exact e2) rfl rfl ?_
                | refine sp_call rfl rfl rfl rfl (by first | exact e1 | exact e2) ⟨rfl, rfl, rfl, rfl⟩ rfl rfl rfl ?_
                | refine ep_not rfl ?_ | refine ep_lenS rfl ?_ | refine ep_lenN rfl ?_ | refine ep_lenE rfl ?_)
              | (refine g_ops ?_; first | refine eo_none ?_ | refine eo_nil ?_)
              | (refine g_code ?_; first | refine ec_seq ?_ | refine ec_region ?_ | refine ec_block ?_ | refine ec_skip ?_ | refine ec_ret ?_ | refine ec_condT rfl ?_ | refine ec_condF rfl ?_ | refine ec_condTH rfl (by assumption) ?_ | refine ec_condFH rfl (by assumption) ?_)
              | refine ek_seqN ?_ | refine ek_seqX ?_ | refine ek_seqR ?_ | refine ek_blkN ?_ | refine ek_blkR ?_ | refine ek_blkX ?_ | refine ek_blkY rfl ?_)
            refine sfin (.inr rfl) (by rfl) (by rfl) (by exact ⟨rfl, rfl, rfl⟩) (by rfl) (by rfl) (by rfl) (by first | rfl | (simp; done) | (simp [ints, prs]; done))
    · rw [decide_eq_false h1] at e2
      have hC : gcode fs z = 2 := by
        by_cases h0 : lcode fs = 0
        · rw [gcode, if_pos h0, if_neg h1]
        · rw [gcode, if_neg h0]
          by_cases h8 : fs.length > 8
          · rw [hl, if_pos h8]
          · rw [if_neg h8] at hl; exact absurd hl h0
      rw [hC]
      refine has86.eev rfl rfl ?_
      unfold m86
      repeat' (first
        | (refine g_op ?_; first
          | refine ep_mov rfl ?_
          | refine ep_call0 rfl (by first | exact e1 | exact e2) rfl rfl ?_
          | refine sp_call rfl rfl rfl rfl (by first | exact e1 | exact e2) ⟨rfl, rfl, rfl, rfl⟩ rfl rfl rfl ?_
          | refine ep_not rfl ?_ | refine ep_lenS rfl ?_ | refine ep_lenN rfl ?_ | refine ep_lenE rfl ?_)
        | (refine g_ops ?_; first | refine eo_none ?_ | refine eo_nil ?_)
        | (refine g_code ?_; first | refine ec_seq ?_ | refine ec_region ?_ | refine ec_block ?_ | refine ec_skip ?_ | refine ec_ret ?_ | refine ec_condT rfl ?_ | refine ec_condF rfl ?_ | refine ec_condTH rfl (by assumption) ?_ | refine ec_condFH rfl (by assumption) ?_)
        | refine ek_seqN ?_ | refine ek_seqX ?_ | refine ek_seqR ?_ | refine ek_blkN ?_ | refine ek_blkR ?_ | refine ek_blkX ?_ | refine ek_blkY rfl ?_)
      refine sfin (.inr rfl) (by rfl) (by rfl) (by exact ⟨rfl, rfl, rfl⟩) (by rfl) (by rfl) (by rfl) (by first | rfl | (simp; done) | (simp [ints, prs]; done))
-- spec.l04Count
def m82_0 : MC := (.seq (.seq (.region [⟨(.mov (.t 4)), (some 5), none⟩, ⟨(.mov (.t 0)), (some 6), none⟩, ⟨(.len (.t 6)), (some 7), none⟩, ⟨(.bin .lss (.t 5) (.t 7)), (some 8), none⟩] false) (.cond (.t 8) .skip (.exit 0))) (.seq (.block 1 (.seq (.region [⟨(.mov (.t 0)), (some 11), none⟩, ⟨(.mov (.t 4)), (some 12), none⟩, ⟨(.indexAddr 1 (.t 11) (.t 12)), (some 13), none⟩, ⟨(.load none (.t 13)), (some 14), none⟩, ⟨(.bin .geq (.t 14) (.k (.int .i64 0))), (some 15), none⟩] false) (.cond (.t 15) (.region [⟨(.mov (.t 3)), (some 16), none⟩, ⟨(.bin .add (.t 16) (.k (.int .i64 1))), (some 17), none⟩, ⟨(.mov (.t 17)), (some 3), none⟩] false) .skip))) (.region [⟨(.mov (.t 4)), (some 9), none⟩, ⟨(.bin .add (.t 9) (.k (.int .i64 1))), (some 10), none⟩, ⟨(.mov (.t 10)), (some 4), none⟩] false)))
def m82 : MC := (.seq (.region [⟨(.mov (.k (.int .i64 0))), (some 2), none⟩] false) (.seq (.region [⟨(.mov (.k (.int .i64 0))), (some 3), none⟩] false) (.seq (.seq (.region [⟨(.mov (.k (.int .i64 0))), (some 4), none⟩] false) (.block 0 (.loop m82_0))) (.seq (.region [⟨(.mov (.t 3)), (some 18), none⟩, ⟨(.mov (.t 18)), (some 2), none⟩] false) .ret))))
theorem has82 : Has cx 82 19 m82 [(.tmp 2)] :=
  ⟨⟨Try.f82, Try.f82.body.getD .skip, by kernel_rfl, by kernel_rfl, by kernel_rfl, by kernel_rfl, by kernel_rfl, by kernel_rfl⟩⟩
theorem lpcn (N : Nat) (D : List Int) (hN : D.length = N) (hN6 : N ≤ 65536) :
    LpS cx 19 1 m82_0 [(0, .sl 0 0 N), (3, .int .i64 ((selm (fun b => decide (D.getD b 0 ≥ 0)) idn (0)).length : Nat)), (4, .int .i64 (0 : Nat))] [⟨zints D, 1, 0, some 0, false⟩] (⟨.exit 0, [(3, .int .i64 ((selm (fun b => decide (D.getD b 0 ≥ 0)) idn (N)).length : Nat))], [⟨zints D, 1, 0, some 0, false⟩]⟩ : Out).x (⟨.exit 0, [(3, .int .i64 ((selm (fun b => decide (D.getD b 0 ≥ 0)) idn (N)).length : Nat))], [⟨zints D, 1, 0, some 0, false⟩]⟩ : Out).e (⟨.exit 0, [(3, .int .i64 ((selm (fun b => decide (D.getD b 0 ≥ 0)) idn (N)).length : Nat))], [⟨zints D, 1, 0, some 0, false⟩]⟩ : Out).h := by
  refine lp_st (N) (fun _ => ()) (fun i _ => [(0, .sl 0 0 N), (3, .int .i64 ((selm (fun b => decide (D.getD b 0 ≥ 0)) idn (i)).length : Nat)), (4, .int .i64 (i : Nat))]) (fun i _ => [⟨zints D, 1, 0, some 0, false⟩]) (fun _ => (⟨.exit 0, [(3, .int .i64 ((selm (fun b => decide (D.getD b 0 ≥ 0)) idn (N)).length : Nat))], [⟨zints D, 1, 0, some 0, false⟩]⟩ : Out)) ?_ ?_ (N) 0 (by omega)
  · intro i u_ hi hu_
    refine ⟨(), rfl, ?_⟩
    have hlt : decide ((i : Int) < (N : Nat)) = true := decide_eq_true (by omega)
    have hget := zints_get (l := D) (j := i) (by omega)
    have hsl := selm_len (fun b => decide (D.getD b 0 ≥ 0)) idn i
    have hadd := b_addN (a := (selm (fun b => decide (D.getD b 0 ≥ 0)) idn i).length) (b := 1) (by omega)
    cases hp : decide (D.getD i 0 ≥ 0)
    · rw [selm_f (p := fun b => decide (D.getD b 0 ≥ 0)) hp]
      unfold m82_0
      repeat' (first
        | refine ep_loadS rfl rfl rfl hget ?_
        | (refine g_op ?_; first
          | refine ep_mov rfl ?_ | refine ep_load1 rfl rfl rfl rfl ?_
          | refine ep_bin rfl rfl (by first | exact hadd | exact b_add (by omega) (by omega) | exact b_sub (by omega) (by omega) | exact b_and (by omega) (by omega) | exact b_or (by omega) (by omega) | exact b_shr (by omega) | exact b_shl (by omega) (by omega) | exact b_lss | exact b_leq | exact b_gtr | exact b_geq | exact b_eql | exact b_neq) ?_
          | refine ep_lenS rfl ?_ | refine ep_lenN rfl ?_ | refine ep_lenE rfl ?_ | refine sp_idx rfl rfl rfl (by omega) rfl ?_ | refine ep_loadS rfl rfl rfl (by first | exact ints_get (by omega) | exact zints_get (by omega) | exact fget (by omega) | assumption) ?_)
        | (refine g_ops ?_; first | refine eo_none ?_ | refine eo_nil ?_)
        | (refine g_code ?_; first | refine ec_seq ?_ | refine ec_region ?_ | refine ec_block ?_ | refine ec_skip ?_ | refine ec_exit ?_ | refine ec_condT rfl ?_ | refine ec_condF rfl ?_ | refine ec_condTH rfl (by assumption) ?_ | refine ec_condFH rfl (by assumption) ?_)
        | refine ek_seqN ?_ | refine ek_seqX ?_ | refine ek_blkN ?_ | refine ek_blkR ?_ | refine ek_blkX ?_ | refine ek_blkY rfl ?_)
      exact rnd_on (by rfl) (scmp2 (by rfl) (by rfl) (by exact ⟨rfl, rfl, rfl⟩) (by rfl) (by first | rfl | (simp; done) | (simp [ints, prs]; done)) (by rfl) (by first | rfl | (simp; done) | (simp [ints, prs]; done)))
    · rw [selm_t (p := fun b => decide (D.getD b 0 ≥ 0)) hp, List.length_append, List.length_singleton]
      unfold m82_0
      repeat' (first
        | refine ep_loadS rfl rfl rfl hget ?_
        | (refine g_op ?_; first
          | refine ep_mov rfl ?_ | refine ep_load1 rfl rfl rfl rfl ?_
          | refine ep_bin rfl rfl (by first | exact hadd | exact b_add (by omega) (by omega) | exact b_sub (by omega) (by omega) | exact b_and (by omega) (by omega) | exact b_or (by omega) (by omega) | exact b_shr (by omega) | exact b_shl (by omega) (by omega) | exact b_lss | exact b_leq | exact b_gtr | exact b_geq | exact b_eql | exact b_neq) ?_
          | refine ep_lenS rfl ?_ | refine ep_lenN rfl ?_ | refine ep_lenE rfl ?_ | refine sp_idx rfl rfl rfl (by omega) rfl ?_ | refine ep_loadS rfl rfl rfl (by first | exact ints_get (by omega) | exact zints_get (by omega) | exact fget (by omega) | assumption) ?_)
        | (refine g_ops ?_; first | refine eo_none ?_ | refine eo_nil ?_)
        | (refine g_code ?_; first | refine ec_seq ?_ | refine ec_region ?_ | refine ec_block ?_ | refine ec_skip ?_ | refine ec_exit ?_ | refine ec_condT rfl ?_ | refine ec_condF rfl ?_ | refine ec_condTH rfl (by assumption) ?_ | refine ec_condFH rfl (by assumption) ?_)
        | refine ek_seqN ?_ | refine ek_seqX ?_ | refine ek_blkN ?_ | refine ek_blkR ?_ | refine ek_blkX ?_ | refine ek_blkY rfl ?_)
      exact rnd_on (by rfl) (scmp2 (by rfl) (by rfl) (by exact ⟨rfl, rfl, rfl⟩) (by rfl) (by first | rfl | (simp; done) | (simp [ints, prs]; done)) (by rfl) (by first | rfl | (simp; done) | (simp [ints, prs]; done)))
  · intro u_ hu_
    have hlt : decide (((N : Nat) : Int) < (N : Nat)) = false := decide_eq_false (by omega)
    unfold m82_0
    repeat' (first
      | (refine g_op ?_; first
        | refine ep_mov rfl ?_ | refine ep_load1 rfl rfl rfl rfl ?_
        | refine ep_bin rfl rfl (by first | exact b_add (by omega) (by omega) | exact b_sub (by omega) (by omega) | exact b_and (by omega) (by omega) | exact b_or (by omega) (by omega) | exact b_shr (by omega) | exact b_shl (by omega) (by omega) | exact b_lss | exact b_leq | exact b_gtr | exact b_geq | exact b_eql | exact b_neq) ?_
        | refine ep_lenS rfl ?_ | refine ep_lenN rfl ?_ | refine ep_lenE rfl ?_ | refine sp_idx rfl rfl rfl (by omega) rfl ?_ | refine ep_loadS rfl rfl rfl (by first | exact ints_get (by omega) | exact zints_get (by omega) | exact fget (by omega) | assumption) ?_)
      | (refine g_ops ?_; first | refine eo_none ?_ | refine eo_nil ?_)
      | (refine g_code ?_; first | refine ec_seq ?_ | refine ec_region ?_ | refine ec_block ?_ | refine ec_skip ?_ | refine ec_exit ?_ | refine ec_condT rfl ?_ | refine ec_condF rfl ?_ | refine ec_condTH rfl (by assumption) ?_ | refine ec_condFH rfl (by assumption) ?_)
      | refine ek_seqN ?_ | refine ek_seqX ?_ | refine ek_blkN ?_ | refine ek_blkR ?_ | refine ek_blkX ?_ | refine ek_blkY rfl ?_)
    exact rnd_out (by rfl) (by simp) (scmp2 (by rfl) (by rfl) (by exact ⟨rfl, rfl, rfl⟩) (by rfl) (by first | rfl | (simp; done) | (simp [ints, prs]; done)) (by rfl) (by first | rfl | (simp; done) | (simp [ints, prs]; done)))

theorem evcnS (N : Nat) (D : List Int) (hN : D.length = N) (hN6 : N ≤ 65536) : Ev cx 82 [.sl 0 0 N] [⟨zints D, 1, 0, some 0, false⟩] (.int .i64 ((kwS N D).length : Nat)) [⟨zints D, 1, 0, some 0, false⟩] := by
  have lp := lpcn N D hN hN6
  rw [show (selm (fun b => decide (D.getD b 0 ≥ 0)) idn N).length = (kwS N D).length from rfl, show (selm (fun b => decide (D.getD b 0 ≥ 0)) idn 0).length = 0 from rfl] at lp
  refine has82.eev rfl rfl ?_
  unfold m82
  repeat' (first
    | refine sc_loop lp rfl rfl ⟨rfl, rfl, rfl⟩ rfl rfl rfl ?_
    | (refine g_op ?_; first
      | refine ep_mov rfl ?_)
    | (refine g_ops ?_; first | refine eo_none ?_ | refine eo_nil ?_)
    | (refine g_code ?_; first | refine ec_seq ?_ | refine ec_region ?_ | refine ec_block ?_ | refine ec_ret ?_)
    | refine ek_seqN ?_ | refine ek_seqX ?_ | refine ek_seqR ?_ | refine ek_blkN ?_ | refine ek_blkR ?_ | refine ek_blkX ?_ | refine ek_blkY rfl ?_)
  refine sfin (.inr rfl) (by rfl) (by rfl) (by exact ⟨rfl, rfl, rfl⟩) (by rfl) (by rfl) (by rfl) (by first | rfl | (simp; done) | (simp [ints, prs]; done))
section
variable {C : Cx} {e : Env} {h : Heap} {P : V → Heap → List Ans → Prop} {x y : X} {b : V}
theorem ep_capN (hx : x.ev e = some .nils) (k : ∃ A, P (.int .i64 0) h A) : ∃ A, opK (Ev C) (.cap x) e h A P := by
  obtain ⟨A, k⟩ := k
  refine ⟨A, ?_⟩
  simp only [opK, hx]; exact k
theorem sp_appG {es by_ n m i p cl j : Nat} {c l1 l2 l : List V} {h1 h' : Heap} (hx : x.ev e = some (.sl i 0 n)) (hy : y.ev e = some b) (hi : h[i]? = some ⟨c, es, cl, some p, false⟩) (h1' : c.take (n * es) = l1) (hb : rowOf h es b = some (l2, m))
    (hl : l1 ++ l2 = l) (hl1 : l1.length = n * es) (hl2 : l2.length = m * es) (hb2 : (n + m) * by_ ≤ 140737488355328) (hf : flatL l2 = true ∨ ∃ i o bk, y.ev e = some (.sl i o m) ∧ h[i]? = some bk ∧ bk.lit = false)
    (hp : p ≤ n * es) (hes : Nat.ble 1 es = true) (hh1 : updO ⟨l1, es, cl, some p, false⟩ i (n * es) 0 h = some h1) (hj : litO h.length = some j) (hh : snocO h1 ⟨l, es, cl, some p, false⟩ = some h') (k : ∃ A, P (.sl j 0 (n + m)) h' A) :
    ∃ A, opK (Ev C) (.append es by_ x y) e h A P := by
  have := litO_ok hj; subst this
  exact ep_app hx hy hi (by rw [List.drop_zero]; exact h1') hb rfl ⟨hl.symm, hl1, hl2, hb2⟩ hf ⟨hp, rfl, rfl⟩ hes (by rw [updO_ok hh1]; exact snocO_ok hh) k
theorem rowOf_at {i o n : Nat} {c l : List V} {cl : Nat} {pr : Option Nat} (hb : h[i]? = some ⟨c, 2, cl, pr, false⟩) (hl : (c.drop o).take (n * 2) = l) : rowOf h 2 (.sl i o n) = some (l, n) := by
  simp only [rowOf, hb, hl]
end
def gz (m : Nat) : List V := (List.replicate m [V.int .i64 0, V.int .i64 0]).flatten
def wo (fs : List (Int × Int)) (k : Nat) : List (Int × Int) := fs.take k ++ fs.drop (k + 1)
theorem fns_app (l l' : List (Int × Int)) : fns l ++ fns l' = fns (l ++ l') := by simp [fns]
theorem fns_take : ∀ (l : List (Int × Int)) (k : Nat), (fns l).take (k * 2) = fns (l.take k)
  | [], k => by simp [fns]
  | x :: l, 0 => by simp [fns]
  | x :: l, k + 1 => by
    have := fns_take l k
    rw [show (k + 1) * 2 = k * 2 + 1 + 1 by omega, show fns (x :: l) = .int .i64 x.1 :: .int .i64 x.2 :: fns l from rfl, List.take_succ_cons, List.take_succ_cons, this]; rfl
theorem fns_drop : ∀ (l : List (Int × Int)) (k : Nat), (fns l).drop (k * 2) = fns (l.drop k)
  | [], k => by simp [fns]
  | x :: l, 0 => by simp
  | x :: l, k + 1 => by
    have := fns_drop l k
    rw [show (k + 1) * 2 = k * 2 + 1 + 1 by omega, show fns (x :: l) = .int .i64 x.1 :: .int .i64 x.2 :: fns l from rfl, List.drop_succ_cons, List.drop_succ_cons, this]; rfl
theorem wo_len {fs : List (Int × Int)} {k : Nat} (hk : k < fs.length) : (wo fs k).length = k + (fs.length - k - 1) := by simp [wo]; omega
theorem wo_get {fs : List (Int × Int)} {k j : Nat} (hk : k < fs.length) : (wo fs k).getD j (0, 0) = if j < k then fs.getD j (0, 0) else fs.getD (j + 1) (0, 0) := by
  rw [wo, List.getD_eq_getElem?_getD, List.getElem?_append]
  simp only [List.length_take, Nat.min_eq_left (Nat.le_of_lt hk)]
  split
  · rename_i h; rw [List.getElem?_take, if_pos h, List.getD_eq_getElem?_getD]
  · rename_i h; rw [List.getElem?_drop, show k + 1 + (j - k) = j + 1 by omega, List.getD_eq_getElem?_getD]
-- slices.Grow[[]impl.Func,impl.Func]
def m147 : MC := (.seq (.region [⟨(.mov (.k .nils)), (some 4), none⟩] false) (.seq (.seq (.region [⟨(.mov (.t 1)), (some 5), none⟩, ⟨(.bin .lss (.t 5) (.k (.int .i64 0))), (some 6), none⟩] false) (.cond (.t 6) (.region [⟨.bad, (some 7), none⟩, ⟨.bad, none, none⟩] false) .skip)) (.seq (.seq (.region [⟨(.mov (.t 1)), (some 8), none⟩, ⟨(.mov (.t 0)), (some 9), none⟩, ⟨(.cap (.t 9)), (some 10), none⟩, ⟨(.mov (.t 0)), (some 11), none⟩, ⟨(.len (.t 11)), (some 12), none⟩, ⟨(.bin .sub (.t 10) (.t 12)), (some 13), none⟩, ⟨(.bin .sub (.t 8) (.t 13)), (some 14), none⟩, ⟨(.mov (.t 14)), (some 1), none⟩] false) (.seq (.region [⟨(.mov (.t 1)), (some 15), none⟩, ⟨(.bin .gtr (.t 15) (.k (.int .i64 0))), (some 16), none⟩] false) (.cond (.t 16) (.region [⟨(.mov (.t 0)), (some 17), none⟩, ⟨(.mov (.t 0)), (some 18), none⟩, ⟨(.cap (.t 18)), (some 19), none⟩, ⟨(.slice 2 (.t 17) none (some (.t 19))), (some 20), none⟩, ⟨(.mov (.t 1)), (some 21), none⟩, ⟨(.appmk 2 16 [(.int .i64 0), (.int .i64 0)] (.t 20) (.t 21)), (some 22), none⟩, ⟨(.mov (.t 0)), (some 23), none⟩, ⟨(.len (.t 23)), (some 24), none⟩, ⟨(.slice 2 (.t 22) none (some (.t 24))), (some 25), none⟩, ⟨(.mov (.t 25)), (some 0), none⟩] false) .skip))) (.seq (.region [⟨(.mov (.t 0)), (some 26), none⟩, ⟨(.mov (.t 26)), (some 4), none⟩] false) .ret))))
theorem has147 : Has cx 147 27 m147 [(.tmp 4)] :=
  ⟨⟨Try.f147, Try.f147.body.getD .skip, by kernel_rfl, by kernel_rfl, by kernel_rfl, by kernel_rfl, by kernel_rfl, by kernel_rfl⟩⟩
theorem evgrow0 : Ev cx 147 [.nils, .int .i64 (0 : Nat)] [] .nils [] := by
  have s1 : binV .sub (.int .i64 0) (.int .i64 0) = some (.int .i64 0) := b_sub (by omega) (by omega)
  have s2 : binV .sub (.int .i64 ((0 : Nat) : Int)) (.int .i64 0) = some (.int .i64 0) := b_sub (by omega) (by omega)
  have q1 : decide (((0 : Nat) : Int) < 0) = false := by decide
  have q2 : decide ((0 : Int) > 0) = false := by decide
  refine has147.eev rfl rfl ?_
  unfold m147
  repeat' (first
    | refine ep_capN rfl ?_
    | (refine g_op ?_; first
      | refine ep_mov rfl ?_
      | refine ep_bin rfl rfl (by first | exact s1 | exact s2 | exact b_add (by omega) (by omega) | exact b_sub (by omega) (by omega) | exact b_and (by omega) (by omega) | exact b_or (by omega) (by omega) | exact b_shr (by omega) | exact b_shl (by omega) (by omega) | exact b_lss | exact b_leq | exact b_gtr | exact b_geq | exact b_eql | exact b_neq) ?_
      | refine ep_lenS rfl ?_ | refine ep_lenN rfl ?_ | refine ep_lenE rfl ?_)
    | (refine g_ops ?_; first | refine eo_none ?_ | refine eo_nil ?_)
    | (refine g_code ?_; first | refine ec_seq ?_ | refine ec_region ?_ | refine ec_skip ?_ | refine ec_ret ?_ | refine ec_condT rfl ?_ | refine ec_condF rfl ?_ | refine ec_condTH rfl (by assumption) ?_ | refine ec_condFH rfl (by assumption) ?_)
    | refine ek_seqN ?_ | refine ek_seqR ?_)
  refine sfin (.inr rfl) (by rfl) (by rfl) (by exact ⟨rfl, rfl, rfl⟩) (by rfl) (by rfl) (by rfl) (by first | rfl | (simp; done) | (simp [ints, prs]; done))
theorem evgrow (m : Nat) (h1 : 1 ≤ m) (h2 : m ≤ 1048576) : Ev cx 147 [.nils, .int .i64 (m : Nat)] [] (.sl 0 0 0) [⟨gz m, 2, 0, some 0, false⟩] := by
  have s1 : binV .sub (.int .i64 0) (.int .i64 0) = some (.int .i64 0) := b_sub (by omega) (by omega)
  have s2 : binV .sub (.int .i64 ((m : Nat) : Int)) (.int .i64 0) = some (.int .i64 (m : Nat)) := by rw [b_sub (by omega) (by omega), Int.sub_zero]
  have q1 : decide (((m : Nat) : Int) < 0) = false := decide_eq_false (by omega)
  have q2 : decide (((m : Nat) : Int) > 0) = true := decide_eq_true (by omega)
  refine has147.eev rfl rfl ?_
  unfold m147
  repeat' (first
    | refine ep_capN rfl ?_
    | refine ep_sliceN rfl rfl rfl (.inl rfl) (.inr ⟨_, rfl⟩) ?_
    | refine sp_appmk (mm := m) (l := gz m) rfl rfl rfl (by omega) (by omega) rfl rfl rfl ?_
    | refine ep_slice (p := 0) (q := 0) (o' := 0) (n' := 0) rfl rfl rfl (.inl ⟨rfl, rfl⟩) (.inr ⟨_, rfl⟩) ⟨by omega, by omega, by omega, rfl, by omega⟩ rfl rfl ?_
    | (refine g_op ?_; first
      | refine ep_mov rfl ?_
      | refine ep_bin rfl rfl (by first | exact s1 | exact s2 | exact b_add (by omega) (by omega) | exact b_sub (by omega) (by omega) | exact b_and (by omega) (by omega) | exact b_or (by omega) (by omega) | exact b_shr (by omega) | exact b_shl (by omega) (by omega) | exact b_lss | exact b_leq | exact b_gtr | exact b_geq | exact b_eql | exact b_neq) ?_
      | refine ep_lenS rfl ?_ | refine ep_lenN rfl ?_ | refine ep_lenE rfl ?_)
    | (refine g_ops ?_; first | refine eo_none ?_ | refine eo_nil ?_)
    | (refine g_code ?_; first | refine ec_seq ?_ | refine ec_region ?_ | refine ec_skip ?_ | refine ec_ret ?_ | refine ec_condT rfl ?_ | refine ec_condF rfl ?_ | refine ec_condTH rfl (by assumption) ?_ | refine ec_condFH rfl (by assumption) ?_)
    | refine ek_seqN ?_ | refine ek_seqR ?_)
  refine sfin (.inr rfl) (by rfl) (by rfl) (by exact ⟨rfl, rfl, rfl⟩) (by rfl) (by rfl) (by rfl) (by first | rfl | (simp; done) | (simp [ints, prs]; done))
-- slices.Concat[[]impl.Func,impl.Func]
def m131_0 : MC := (.seq (.region [⟨(.bin .lss (.t 11) (.t 10)), (some 12), none⟩] false) (.seq (.cond (.t 12) .skip (.exit 0)) (.seq (.block 1 (.seq (.region [⟨(.indexAddr 1 (.t 9) (.t 11)), (some 13), none⟩, ⟨(.load none (.t 13)), (some 14), none⟩, ⟨(.mov (.t 14)), (some 5), none⟩] false) (.seq (.region [⟨(.mov (.t 3)), (some 15), none⟩, ⟨(.mov (.t 5)), (some 16), none⟩, ⟨(.len (.t 16)), (some 17), none⟩, ⟨(.bin .add (.t 15) (.t 17)), (some 18), none⟩, ⟨(.mov (.t 18)), (some 3), none⟩] false) (.seq (.region [⟨(.mov (.t 3)), (some 19), none⟩, ⟨(.bin .lss (.t 19) (.k (.int .i64 0))), (some 20), none⟩] false) (.cond (.t 20) (.region [⟨.bad, (some 21), none⟩, ⟨.bad, none, none⟩] false) .skip))))) (.region [⟨(.bin .add (.t 11) (.k (.int .i64 1))), (some 22), none⟩, ⟨(.mov (.t 22)), (some 11), none⟩] false))))
def m131_1 : MC := (.seq (.region [⟨(.bin .lss (.t 27) (.t 26)), (some 28), none⟩] false) (.seq (.cond (.t 28) .skip (.exit 2)) (.seq (.block 3 (.seq (.region [⟨(.indexAddr 1 (.t 25) (.t 27)), (some 29), none⟩, ⟨(.load none (.t 29)), (some 30), none⟩, ⟨(.mov (.t 30)), (some 8), none⟩] false) (.region [⟨(.mov (.t 6)), (some 31), none⟩, ⟨(.mov (.t 8)), (some 32), none⟩, ⟨(.append 2 16 (.t 31) (.t 32)), (some 33), none⟩, ⟨(.mov (.t 33)), (some 6), none⟩] false))) (.region [⟨(.bin .add (.t 27) (.k (.int .i64 1))), (some 34), none⟩, ⟨(.mov (.t 34)), (some 27), none⟩] false))))
def m131 : MC := (.seq (.region [⟨(.mov (.k .nils)), (some 2), none⟩] false) (.seq (.region [⟨(.mov (.k (.int .i64 0))), (some 3), none⟩] false) (.seq (.seq (.region [⟨(.mov (.t 0)), (some 9), none⟩, ⟨(.len (.t 9)), (some 10), none⟩, ⟨(.mov (.k (.int .i64 0))), (some 11), none⟩] false) (.block 0 (.loop m131_0))) (.seq (.region [⟨(.mov (.t 3)), (some 23), none⟩, ⟨(.call 147 [(.k .nils), (.t 23)]), (some 24), none⟩, ⟨(.mov (.t 24)), (some 6), none⟩] false) (.seq (.seq (.region [⟨(.mov (.t 0)), (some 25), none⟩, ⟨(.len (.t 25)), (some 26), none⟩, ⟨(.mov (.k (.int .i64 0))), (some 27), none⟩] false) (.block 2 (.loop m131_1))) (.seq (.region [⟨(.mov (.t 6)), (some 35), none⟩, ⟨(.mov (.t 35)), (some 2), none⟩] false) .ret))))))
theorem has131 : Has cx 131 36 m131 [(.tmp 2)] :=
  ⟨⟨Try.f131, Try.f131.body.getD .skip, by kernel_rfl, by kernel_rfl, by kernel_rfl, by kernel_rfl, by kernel_rfl, by kernel_rfl⟩⟩
theorem lpcc0_1 (fs : List (Int × Int)) : LpS cx 36 2 m131_0 [(0, .sl 0 0 2), (3, .int .i64 (0 : Nat)), (9, .sl 0 0 2), (10, .int .i64 (2 : Nat)), (11, .int .i64 (0 : Nat))] [⟨[.sl 1 0 0, .sl 1 2 0], 1, 0, some 0, true⟩, ⟨fns fs, 2, 1, some 0, false⟩] (⟨.exit 0, [(0, .sl 0 0 2), (3, .int .i64 (0 : Nat))], [⟨[.sl 1 0 0, .sl 1 2 0], 1, 0, some 0, true⟩, ⟨fns fs, 2, 1, some 0, false⟩]⟩ : Out).x (⟨.exit 0, [(0, .sl 0 0 2), (3, .int .i64 (0 : Nat))], [⟨[.sl 1 0 0, .sl 1 2 0], 1, 0, some 0, true⟩, ⟨fns fs, 2, 1, some 0, false⟩]⟩ : Out).e (⟨.exit 0, [(0, .sl 0 0 2), (3, .int .i64 (0 : Nat))], [⟨[.sl 1 0 0, .sl 1 2 0], 1, 0, some 0, true⟩, ⟨fns fs, 2, 1, some 0, false⟩]⟩ : Out).h := by
  have l0 : decide (((0 : Nat) : Int) < (2 : Nat)) = true := by decide
  have l1 : decide (((0 + 1 : Nat) : Int) < (2 : Nat)) = true := by decide
  have l2 : decide (((0 + 1 + 1 : Nat) : Int) < (2 : Nat)) = false := by decide
  have a1 : binV .add (.int .i64 ((0 : Nat) : Int)) (.int .i64 ((0 : Nat) : Int)) = some (.int .i64 ((0 : Nat) : Int)) := b_addN (a := 0) (b := 0) (by omega)
  have g1 : decide (((0 : Nat) : Int) < 0) = false := by decide
  refine round_on (e2 := [(0, .sl 0 0 2), (3, .int .i64 (0 : Nat)), (9, .sl 0 0 2), (10, .int .i64 (2 : Nat)), (11, .int .i64 (0 + 1 : Nat))]) (h2 := [⟨[.sl 1 0 0, .sl 1 2 0], 1, 0, some 0, true⟩, ⟨fns fs, 2, 1, some 0, false⟩]) ?_ (round_on (e2 := [(0, .sl 0 0 2), (3, .int .i64 (0 : Nat)), (9, .sl 0 0 2), (10, .int .i64 (2 : Nat)), (11, .int .i64 (0 + 1 + 1 : Nat))]) (h2 := [⟨[.sl 1 0 0, .sl 1 2 0], 1, 0, some 0, true⟩, ⟨fns fs, 2, 1, some 0, false⟩]) ?_ (round_out ?_))
  · unfold m131_0
    repeat' (first
      | (refine g_op ?_; first
        | refine ep_mov rfl ?_ | refine ep_load1 rfl rfl rfl rfl ?_
        | refine ep_bin rfl rfl (by first | exact a1 | exact b_add (by omega) (by omega) | exact b_sub (by omega) (by omega) | exact b_and (by omega) (by omega) | exact b_or (by omega) (by omega) | exact b_shr (by omega) | exact b_shl (by omega) (by omega) | exact b_lss | exact b_leq | exact b_gtr | exact b_geq | exact b_eql | exact b_neq) ?_
        | refine ep_lenS rfl ?_ | refine ep_lenN rfl ?_ | refine ep_lenE rfl ?_ | refine sp_idx rfl rfl rfl (by omega) rfl ?_ | refine ep_loadS rfl rfl rfl (by first | exact ints_get (by omega) | exact zints_get (by omega) | exact fget (by omega) | assumption) ?_)
      | (refine g_ops ?_; first | refine eo_none ?_ | refine eo_nil ?_)
      | (refine g_code ?_; first | refine ec_seq ?_ | refine ec_region ?_ | refine ec_block ?_ | refine ec_skip ?_ | refine ec_exit ?_ | refine ec_condT rfl ?_ | refine ec_condF rfl ?_ | refine ec_condTH rfl (by assumption) ?_ | refine ec_condFH rfl (by assumption) ?_)
      | refine ek_seqN ?_ | refine ek_seqX ?_ | refine ek_blkN ?_ | refine ek_blkR ?_ | refine ek_blkX ?_ | refine ek_blkY rfl ?_)
    exact rnd_on (by rfl) (scmp2 (by rfl) (by rfl) (by exact ⟨rfl, rfl, rfl⟩) (by rfl) (by first | rfl | (simp; done) | (simp [ints, prs]; done)) (by rfl) (by first | rfl | (simp; done) | (simp [ints, prs]; done)))
  · unfold m131_0
    repeat' (first
      | (refine g_op ?_; first
        | refine ep_mov rfl ?_ | refine ep_load1 rfl rfl rfl rfl ?_
        | refine ep_bin rfl rfl (by first | exact a1 | exact b_add (by omega) (by omega) | exact b_sub (by omega) (by omega) | exact b_and (by omega) (by omega) | exact b_or (by omega) (by omega) | exact b_shr (by omega) | exact b_shl (by omega) (by omega) | exact b_lss | exact b_leq | exact b_gtr | exact b_geq | exact b_eql | exact b_neq) ?_
        | refine ep_lenS rfl ?_ | refine ep_lenN rfl ?_ | refine ep_lenE rfl ?_ | refine sp_idx rfl rfl rfl (by omega) rfl ?_ | refine ep_loadS rfl rfl rfl (by first | exact ints_get (by omega) | exact zints_get (by omega) | exact fget (by omega) | assumption) ?_)
      | (refine g_ops ?_; first | refine eo_none ?_ | refine eo_nil ?_)
      | (refine g_code ?_; first | refine ec_seq ?_ | refine ec_region ?_ | refine ec_block ?_ | refine ec_skip ?_ | refine ec_exit ?_ | refine ec_condT rfl ?_ | refine ec_condF rfl ?_ | refine ec_condTH rfl (by assumption) ?_ | refine ec_condFH rfl (by assumption) ?_)
      | refine ek_seqN ?_ | refine ek_seqX ?_ | refine ek_blkN ?_ | refine ek_blkR ?_ | refine ek_blkX ?_ | refine ek_blkY rfl ?_)
    exact rnd_on (by rfl) (scmp2 (by rfl) (by rfl) (by exact ⟨rfl, rfl, rfl⟩) (by rfl) (by first | rfl | (simp; done) | (simp [ints, prs]; done)) (by rfl) (by first | rfl | (simp; done) | (simp [ints, prs]; done)))
  · unfold m131_0
    repeat' (first
      | (refine g_op ?_; first
        | refine ep_mov rfl ?_ | refine ep_load1 rfl rfl rfl rfl ?_
        | refine ep_bin rfl rfl (by first | exact b_add (by omega) (by omega) | exact b_sub (by omega) (by omega) | exact b_and (by omega) (by omega) | exact b_or (by omega) (by omega) | exact b_shr (by omega) | exact b_shl (by omega) (by omega) | exact b_lss | exact b_leq | exact b_gtr | exact b_geq | exact b_eql | exact b_neq) ?_
        | refine ep_lenS rfl ?_ | refine ep_lenN rfl ?_ | refine ep_lenE rfl ?_ | refine sp_idx rfl rfl rfl (by omega) rfl ?_ | refine ep_loadS rfl rfl rfl (by first | exact ints_get (by omega) | exact zints_get (by omega) | exact fget (by omega) | assumption) ?_)
      | (refine g_ops ?_; first | refine eo_none ?_ | refine eo_nil ?_)
      | (refine g_code ?_; first | refine ec_seq ?_ | refine ec_region ?_ | refine ec_block ?_ | refine ec_skip ?_ | refine ec_exit ?_ | refine ec_condT rfl ?_ | refine ec_condF rfl ?_ | refine ec_condTH rfl (by assumption) ?_ | refine ec_condFH rfl (by assumption) ?_)
      | refine ek_seqN ?_ | refine ek_seqX ?_ | refine ek_blkN ?_ | refine ek_blkR ?_ | refine ek_blkX ?_ | refine ek_blkY rfl ?_)
    exact rnd_out (by rfl) (by simp) (scmp2 (by rfl) (by rfl) (by exact ⟨rfl, rfl, rfl⟩) (by rfl) (by first | rfl | (simp; done) | (simp [ints, prs]; done)) (by rfl) (by first | rfl | (simp; done) | (simp [ints, prs]; done)))
theorem lpcc1_1 (fs : List (Int × Int)) : LpS cx 36 2 m131_1 [(6, .nils), (25, .sl 0 0 2), (26, .int .i64 (2 : Nat)), (27, .int .i64 (0 : Nat))] [⟨[.sl 1 0 0, .sl 1 2 0], 1, 0, some 0, true⟩, ⟨fns fs, 2, 1, some 0, false⟩] (⟨.exit 2, [(6, .nils)], [⟨[.sl 1 0 0, .sl 1 2 0], 1, 0, some 0, true⟩, ⟨fns fs, 2, 1, some 0, false⟩]⟩ : Out).x (⟨.exit 2, [(6, .nils)], [⟨[.sl 1 0 0, .sl 1 2 0], 1, 0, some 0, true⟩, ⟨fns fs, 2, 1, some 0, false⟩]⟩ : Out).e (⟨.exit 2, [(6, .nils)], [⟨[.sl 1 0 0, .sl 1 2 0], 1, 0, some 0, true⟩, ⟨fns fs, 2, 1, some 0, false⟩]⟩ : Out).h := by
  have l0 : decide (((0 : Nat) : Int) < (2 : Nat)) = true := by decide
  have l1 : decide (((0 + 1 : Nat) : Int) < (2 : Nat)) = true := by decide
  have l2 : decide (((0 + 1 + 1 : Nat) : Int) < (2 : Nat)) = false := by decide

  refine round_on (e2 := [(6, .nils), (25, .sl 0 0 2), (26, .int .i64 (2 : Nat)), (27, .int .i64 (0 + 1 : Nat))]) (h2 := [⟨[.sl 1 0 0, .sl 1 2 0], 1, 0, some 0, true⟩, ⟨fns fs, 2, 1, some 0, false⟩]) ?_ (round_on (e2 := [(6, .nils), (25, .sl 0 0 2), (26, .int .i64 (2 : Nat)), (27, .int .i64 (0 + 1 + 1 : Nat))]) (h2 := [⟨[.sl 1 0 0, .sl 1 2 0], 1, 0, some 0, true⟩, ⟨fns fs, 2, 1, some 0, false⟩]) ?_ (round_out ?_))
  · unfold m131_1
    repeat' (first
      | refine ep_appE rfl (.inl rfl) rfl (rowOf_at (l := []) rfl (by simp)) ?_
      | (refine g_op ?_; first
        | refine ep_mov rfl ?_ | refine ep_load1 rfl rfl rfl rfl ?_
        | refine ep_bin rfl rfl (by first | exact b_add (by omega) (by omega) | exact b_sub (by omega) (by omega) | exact b_and (by omega) (by omega) | exact b_or (by omega) (by omega) | exact b_shr (by omega) | exact b_shl (by omega) (by omega) | exact b_lss | exact b_leq | exact b_gtr | exact b_geq | exact b_eql | exact b_neq) ?_
        | refine sp_push0 rfl (by first | exact .inl rfl | exact .inr rfl) rfl rfl rfl rfl rfl (by decide) rfl rfl rfl ?_ | refine sp_push rfl rfl rfl rfl rfl rfl rfl (by first | exact ints_len _ | exact prs_len _ _ | exact zints_len _) (by omega) (Nat.zero_le _) rfl rfl rfl rfl rfl ?_
        | refine sp_idx rfl rfl rfl (by omega) rfl ?_ | refine ep_loadS rfl rfl rfl (by first | exact ints_get (by omega) | exact zints_get (by omega) | exact fget (by omega) | assumption) ?_)
      | (refine g_ops ?_; first | refine eo_none ?_ | refine eo_nil ?_)
      | (refine g_code ?_; first | refine ec_seq ?_ | refine ec_region ?_ | refine ec_block ?_ | refine ec_skip ?_ | refine ec_exit ?_ | refine ec_condT rfl ?_ | refine ec_condF rfl ?_ | refine ec_condTH rfl (by assumption) ?_ | refine ec_condFH rfl (by assumption) ?_)
      | refine ek_seqN ?_ | refine ek_seqX ?_ | refine ek_blkN ?_ | refine ek_blkR ?_ | refine ek_blkX ?_ | refine ek_blkY rfl ?_)
    exact rnd_on (by rfl) (scmp2 (by rfl) (by rfl) (by exact ⟨rfl, rfl, rfl⟩) (by rfl) (by first | rfl | (simp; done) | (simp [ints, prs]; done)) (by rfl) (by first | rfl | (simp; done) | (simp [ints, prs]; done)))
  · unfold m131_1
    repeat' (first
      | refine ep_appE rfl (.inl rfl) rfl (rowOf_at (l := []) rfl (by simp)) ?_
      | (refine g_op ?_; first
        | refine ep_mov rfl ?_ | refine ep_load1 rfl rfl rfl rfl ?_
        | refine ep_bin rfl rfl (by first | exact b_add (by omega) (by omega) | exact b_sub (by omega) (by omega) | exact b_and (by omega) (by omega) | exact b_or (by omega) (by omega) | exact b_shr (by omega) | exact b_shl (by omega) (by omega) | exact b_lss | exact b_leq | exact b_gtr | exact b_geq | exact b_eql | exact b_neq) ?_
        | refine sp_push0 rfl (by first | exact .inl rfl | exact .inr rfl) rfl rfl rfl rfl rfl (by decide) rfl rfl rfl ?_ | refine sp_push rfl rfl rfl rfl rfl rfl rfl (by first | exact ints_len _ | exact prs_len _ _ | exact zints_len _) (by omega) (Nat.zero_le _) rfl rfl rfl rfl rfl ?_
        | refine sp_idx rfl rfl rfl (by omega) rfl ?_ | refine ep_loadS rfl rfl rfl (by first | exact ints_get (by omega) | exact zints_get (by omega) | exact fget (by omega) | assumption) ?_)
      | (refine g_ops ?_; first | refine eo_none ?_ | refine eo_nil ?_)
      | (refine g_code ?_; first | refine ec_seq ?_ | refine ec_region ?_ | refine ec_block ?_ | refine ec_skip ?_ | refine ec_exit ?_ | refine ec_condT rfl ?_ | refine ec_condF rfl ?_ | refine ec_condTH rfl (by assumption) ?_ | refine ec_condFH rfl (by assumption) ?_)
      | refine ek_seqN ?_ | refine ek_seqX ?_ | refine ek_blkN ?_ | refine ek_blkR ?_ | refine ek_blkX ?_ | refine ek_blkY rfl ?_)
    exact rnd_on (by rfl) (scmp2 (by rfl) (by rfl) (by exact ⟨rfl, rfl, rfl⟩) (by rfl) (by first | rfl | (simp; done) | (simp [ints, prs]; done)) (by rfl) (by first | rfl | (simp; done) | (simp [ints, prs]; done)))
  · unfold m131_1
    repeat' (first
      | (refine g_op ?_; first
        | refine ep_mov rfl ?_ | refine ep_load1 rfl rfl rfl rfl ?_
        | refine ep_bin rfl rfl (by first | exact b_add (by omega) (by omega) | exact b_sub (by omega) (by omega) | exact b_and (by omega) (by omega) | exact b_or (by omega) (by omega) | exact b_shr (by omega) | exact b_shl (by omega) (by omega) | exact b_lss | exact b_leq | exact b_gtr | exact b_geq | exact b_eql | exact b_neq) ?_
        | refine sp_push0 rfl (by first | exact .inl rfl | exact .inr rfl) rfl rfl rfl rfl rfl (by decide) rfl rfl rfl ?_ | refine sp_push rfl rfl rfl rfl rfl rfl rfl (by first | exact ints_len _ | exact prs_len _ _ | exact zints_len _) (by omega) (Nat.zero_le _) rfl rfl rfl rfl rfl ?_
        | refine sp_idx rfl rfl rfl (by omega) rfl ?_ | refine ep_loadS rfl rfl rfl (by first | exact ints_get (by omega) | exact zints_get (by omega) | exact fget (by omega) | assumption) ?_)
      | (refine g_ops ?_; first | refine eo_none ?_ | refine eo_nil ?_)
      | (refine g_code ?_; first | refine ec_seq ?_ | refine ec_region ?_ | refine ec_block ?_ | refine ec_skip ?_ | refine ec_exit ?_ | refine ec_condT rfl ?_ | refine ec_condF rfl ?_ | refine ec_condTH rfl (by assumption) ?_ | refine ec_condFH rfl (by assumption) ?_)
      | refine ek_seqN ?_ | refine ek_seqX ?_ | refine ek_blkN ?_ | refine ek_blkR ?_ | refine ek_blkX ?_ | refine ek_blkY rfl ?_)
    exact rnd_out (by rfl) (by simp) (scmp2 (by rfl) (by rfl) (by exact ⟨rfl, rfl, rfl⟩) (by rfl) (by first | rfl | (simp; done) | (simp [ints, prs]; done)) (by rfl) (by first | rfl | (simp; done) | (simp [ints, prs]; done)))
theorem evcc_1 (fs : List (Int × Int)) : Ev cx 131 [.sl 0 0 2] [⟨[.sl 1 0 0, .sl 1 2 0], 1, 0, some 0, true⟩, ⟨fns fs, 2, 1, some 0, false⟩] (.nils) [⟨[.sl 1 0 0, .sl 1 2 0], 1, 0, some 0, true⟩, ⟨fns fs, 2, 1, some 0, false⟩] := by
  have lp0 := lpcc0_1 fs
  have lp1 := lpcc1_1 fs
  have e1 := evgrow0
  refine has131.eev rfl rfl ?_
  unfold m131
  repeat' (first
    | refine sc_loop lp0 rfl rfl ⟨rfl, rfl, rfl⟩ rfl rfl rfl ?_
    | refine sc_loop lp1 rfl rfl ⟨rfl, rfl, rfl⟩ rfl rfl rfl ?_
    | (refine g_op ?_; first
      | refine ep_mov rfl ?_
      | refine ep_call0 rfl (by first | exact e1) rfl rfl ?_
      | refine sp_call rfl rfl rfl rfl (by first | exact e1) ⟨rfl, rfl, rfl, rfl⟩ rfl rfl rfl ?_
      | refine ep_lenS rfl ?_ | refine ep_lenN rfl ?_ | refine ep_lenE rfl ?_)
    | (refine g_ops ?_; first | refine eo_none ?_ | refine eo_nil ?_)
    | (refine g_code ?_; first | refine ec_seq ?_ | refine ec_region ?_ | refine ec_block ?_ | refine ec_ret ?_)
    | refine ek_seqN ?_ | refine ek_seqX ?_ | refine ek_seqR ?_ | refine ek_blkN ?_ | refine ek_blkR ?_ | refine ek_blkX ?_ | refine ek_blkY rfl ?_)
  refine sfin (.inr rfl) (by rfl) (by rfl) (by exact ⟨rfl, rfl, rfl⟩) (by rfl) (by rfl) (by rfl) (by first | rfl | (simp; done) | (simp [ints, prs]; done))
theorem lpcc0_n (fs : List (Int × Int)) (k : Nat) (hk : k < fs.length) (h2 : 2 ≤ fs.length) (hln : fs.length ≤ 1048576) : LpS cx 36 2 m131_0 [(0, .sl 0 0 2), (3, .int .i64 (0 : Nat)), (9, .sl 0 0 2), (10, .int .i64 (2 : Nat)), (11, .int .i64 (0 : Nat))] [⟨[.sl 1 0 k, .sl 1 ((k + 1) * 2) (fs.length - k - 1)], 1, 0, some 0, true⟩, ⟨fns fs, 2, 1, some 0, false⟩] (⟨.exit 0, [(0, .sl 0 0 2), (3, .int .i64 (k + (fs.length - k - 1) : Nat))], [⟨[.sl 1 0 k, .sl 1 ((k + 1) * 2) (fs.length - k - 1)], 1, 0, some 0, true⟩, ⟨fns fs, 2, 1, some 0, false⟩]⟩ : Out).x (⟨.exit 0, [(0, .sl 0 0 2), (3, .int .i64 (k + (fs.length - k - 1) : Nat))], [⟨[.sl 1 0 k, .sl 1 ((k + 1) * 2) (fs.length - k - 1)], 1, 0, some 0, true⟩, ⟨fns fs, 2, 1, some 0, false⟩]⟩ : Out).e (⟨.exit 0, [(0, .sl 0 0 2), (3, .int .i64 (k + (fs.length - k - 1) : Nat))], [⟨[.sl 1 0 k, .sl 1 ((k + 1) * 2) (fs.length - k - 1)], 1, 0, some 0, true⟩, ⟨fns fs, 2, 1, some 0, false⟩]⟩ : Out).h := by
  have l0 : decide (((0 : Nat) : Int) < (2 : Nat)) = true := by decide
  have l1 : decide (((0 + 1 : Nat) : Int) < (2 : Nat)) = true := by decide
  have l2 : decide (((0 + 1 + 1 : Nat) : Int) < (2 : Nat)) = false := by decide
  have a1 : binV .add (.int .i64 ((0 : Nat) : Int)) (.int .i64 (k : Nat)) = some (.int .i64 (k : Nat)) := by
    have := b_addN (a := 0) (b := k) (by omega)
    rwa [Nat.zero_add] at this
  have a2 := b_addN (a := k) (b := fs.length - k - 1) (by omega)
  have g1 : decide (((k : Nat) : Int) < 0) = false := decide_eq_false (by omega)
  have g2 : decide (((k + (fs.length - k - 1) : Nat) : Int) < 0) = false := decide_eq_false (by omega)
  refine round_on (e2 := [(0, .sl 0 0 2), (3, .int .i64 (k : Nat)), (9, .sl 0 0 2), (10, .int .i64 (2 : Nat)), (11, .int .i64 (0 + 1 : Nat))]) (h2 := [⟨[.sl 1 0 k, .sl 1 ((k + 1) * 2) (fs.length - k - 1)], 1, 0, some 0, true⟩, ⟨fns fs, 2, 1, some 0, false⟩]) ?_ (round_on (e2 := [(0, .sl 0 0 2), (3, .int .i64 (k + (fs.length - k - 1) : Nat)), (9, .sl 0 0 2), (10, .int .i64 (2 : Nat)), (11, .int .i64 (0 + 1 + 1 : Nat))]) (h2 := [⟨[.sl 1 0 k, .sl 1 ((k + 1) * 2) (fs.length - k - 1)], 1, 0, some 0, true⟩, ⟨fns fs, 2, 1, some 0, false⟩]) ?_ (round_out ?_))
  · unfold m131_0
    repeat' (first
      | (refine g_op ?_; first
        | refine ep_mov rfl ?_ | refine ep_load1 rfl rfl rfl rfl ?_
        | refine ep_bin rfl rfl (by first | exact a1 | exact a2 | exact b_add (by omega) (by omega) | exact b_sub (by omega) (by omega) | exact b_and (by omega) (by omega) | exact b_or (by omega) (by omega) | exact b_shr (by omega) | exact b_shl (by omega) (by omega) | exact b_lss | exact b_leq | exact b_gtr | exact b_geq | exact b_eql | exact b_neq) ?_
        | refine ep_lenS rfl ?_ | refine ep_lenN rfl ?_ | refine ep_lenE rfl ?_ | refine sp_idx rfl rfl rfl (by omega) rfl ?_ | refine ep_loadS rfl rfl rfl (by first | exact ints_get (by omega) | exact zints_get (by omega) | exact fget (by omega) | assumption) ?_)
      | (refine g_ops ?_; first | refine eo_none ?_ | refine eo_nil ?_)
      | (refine g_code ?_; first | refine ec_seq ?_ | refine ec_region ?_ | refine ec_block ?_ | refine ec_skip ?_ | refine ec_exit ?_ | refine ec_condT rfl ?_ | refine ec_condF rfl ?_ | refine ec_condTH rfl (by assumption) ?_ | refine ec_condFH rfl (by assumption) ?_)
      | refine ek_seqN ?_ | refine ek_seqX ?_ | refine ek_blkN ?_ | refine ek_blkR ?_ | refine ek_blkX ?_ | refine ek_blkY rfl ?_)
    exact rnd_on (by rfl) (scmp2 (by rfl) (by rfl) (by exact ⟨rfl, rfl, rfl⟩) (by rfl) (by first | rfl | (simp; done) | (simp [ints, prs]; done)) (by rfl) (by first | rfl | (simp; done) | (simp [ints, prs]; done)))
  · unfold m131_0
    repeat' (first
      | (refine g_op ?_; first
        | refine ep_mov rfl ?_ | refine ep_load1 rfl rfl rfl rfl ?_
        | refine ep_bin rfl rfl (by first | exact a1 | exact a2 | exact b_add (by omega) (by omega) | exact b_sub (by omega) (by omega) | exact b_and (by omega) (by omega) | exact b_or (by omega) (by omega) | exact b_shr (by omega) | exact b_shl (by omega) (by omega) | exact b_lss | exact b_leq | exact b_gtr | exact b_geq | exact b_eql | exact b_neq) ?_
        | refine ep_lenS rfl ?_ | refine ep_lenN rfl ?_ | refine ep_lenE rfl ?_ | refine sp_idx rfl rfl rfl (by omega) rfl ?_ | refine ep_loadS rfl rfl rfl (by first | exact ints_get (by omega) | exact zints_get (by omega) | exact fget (by omega) | assumption) ?_)
      | (refine g_ops ?_; first | refine eo_none ?_ | refine eo_nil ?_)
      | (refine g_code ?_; first | refine ec_seq ?_ | refine ec_region ?_ | refine ec_block ?_ | refine ec_skip ?_ | refine ec_exit ?_ | refine ec_condT rfl ?_ | refine ec_condF rfl ?_ | refine ec_condTH rfl (by assumption) ?_ | refine ec_condFH rfl (by assumption) ?_)
      | refine ek_seqN ?_ | refine ek_seqX ?_ | refine ek_blkN ?_ | refine ek_blkR ?_ | refine ek_blkX ?_ | refine ek_blkY rfl ?_)
    exact rnd_on (by rfl) (scmp2 (by rfl) (by rfl) (by exact ⟨rfl, rfl, rfl⟩) (by rfl) (by first | rfl | (simp; done) | (simp [ints, prs]; done)) (by rfl) (by first | rfl | (simp; done) | (simp [ints, prs]; done)))
  · unfold m131_0
    repeat' (first
      | (refine g_op ?_; first
        | refine ep_mov rfl ?_ | refine ep_load1 rfl rfl rfl rfl ?_
        | refine ep_bin rfl rfl (by first | exact b_add (by omega) (by omega) | exact b_sub (by omega) (by omega) | exact b_and (by omega) (by omega) | exact b_or (by omega) (by omega) | exact b_shr (by omega) | exact b_shl (by omega) (by omega) | exact b_lss | exact b_leq | exact b_gtr | exact b_geq | exact b_eql | exact b_neq) ?_
        | refine ep_lenS rfl ?_ | refine ep_lenN rfl ?_ | refine ep_lenE rfl ?_ | refine sp_idx rfl rfl rfl (by omega) rfl ?_ | refine ep_loadS rfl rfl rfl (by first | exact ints_get (by omega) | exact zints_get (by omega) | exact fget (by omega) | assumption) ?_)
      | (refine g_ops ?_; first | refine eo_none ?_ | refine eo_nil ?_)
      | (refine g_code ?_; first | refine ec_seq ?_ | refine ec_region ?_ | refine ec_block ?_ | refine ec_skip ?_ | refine ec_exit ?_ | refine ec_condT rfl ?_ | refine ec_condF rfl ?_ | refine ec_condTH rfl (by assumption) ?_ | refine ec_condFH rfl (by assumption) ?_)
      | refine ek_seqN ?_ | refine ek_seqX ?_ | refine ek_blkN ?_ | refine ek_blkR ?_ | refine ek_blkX ?_ | refine ek_blkY rfl ?_)
    exact rnd_out (by rfl) (by simp) (scmp2 (by rfl) (by rfl) (by exact ⟨rfl, rfl, rfl⟩) (by rfl) (by first | rfl | (simp; done) | (simp [ints, prs]; done)) (by rfl) (by first | rfl | (simp; done) | (simp [ints, prs]; done)))
theorem lpcc1_n (fs : List (Int × Int)) (k : Nat) (hk : k < fs.length) (h2 : 2 ≤ fs.length) (hln : fs.length ≤ 1048576) : LpS cx 36 2 m131_1 [(6, .sl 2 0 0), (25, .sl 0 0 2), (26, .int .i64 (2 : Nat)), (27, .int .i64 (0 : Nat))] [⟨[.sl 1 0 k, .sl 1 ((k + 1) * 2) (fs.length - k - 1)], 1, 0, some 0, true⟩, ⟨fns fs, 2, 1, some 0, false⟩, ⟨gz (k + (fs.length - k - 1)), 2, 2, some 0, false⟩] (⟨.exit 2, [(6, .sl 2 0 (k + (fs.length - k - 1)))], [⟨[.sl 1 0 k, .sl 1 ((k + 1) * 2) (fs.length - k - 1)], 1, 0, some 0, true⟩, ⟨fns fs, 2, 1, some 0, false⟩, ⟨fns (wo fs k), 2, 2, some 0, false⟩]⟩ : Out).x (⟨.exit 2, [(6, .sl 2 0 (k + (fs.length - k - 1)))], [⟨[.sl 1 0 k, .sl 1 ((k + 1) * 2) (fs.length - k - 1)], 1, 0, some 0, true⟩, ⟨fns fs, 2, 1, some 0, false⟩, ⟨fns (wo fs k), 2, 2, some 0, false⟩]⟩ : Out).e (⟨.exit 2, [(6, .sl 2 0 (k + (fs.length - k - 1)))], [⟨[.sl 1 0 k, .sl 1 ((k + 1) * 2) (fs.length - k - 1)], 1, 0, some 0, true⟩, ⟨fns fs, 2, 1, some 0, false⟩, ⟨fns (wo fs k), 2, 2, some 0, false⟩]⟩ : Out).h := by
  have l0 : decide (((0 : Nat) : Int) < (2 : Nat)) = true := by decide
  have l1 : decide (((0 + 1 : Nat) : Int) < (2 : Nat)) = true := by decide
  have l2 : decide (((0 + 1 + 1 : Nat) : Int) < (2 : Nat)) = false := by decide
  have hf0 : [] ++ ((fns fs).drop 0).take (k * 2) = fns (fs.take k) := by rw [List.nil_append, List.drop_zero, fns_take]
  have hf1 : (((fns fs).drop 0).take (k * 2)).length = k * 2 := by rw [List.drop_zero, fns_take, fns_len, List.length_take, Nat.min_eq_left (by omega)]
  have hr : ((fns fs).drop ((k + 1) * 2)).take ((fs.length - k - 1) * 2) = fns (fs.drop (k + 1)) := by
    rw [fns_drop, fns_take, List.take_of_length_le (by simp; omega)]
  have hf2 : fns (fs.take k) ++ ((fns fs).drop ((k + 1) * 2)).take ((fs.length - k - 1) * 2) = fns (wo fs k) := by rw [hr, fns_app]; rfl
  have hf3 : (((fns fs).drop ((k + 1) * 2)).take ((fs.length - k - 1) * 2)).length = (fs.length - k - 1) * 2 := by rw [hr, fns_len, List.length_drop]; omega
  have hf5 : (fns (fs.take k)).length = k * 2 := by rw [fns_len, List.length_take, Nat.min_eq_left (by omega)]
  have hf4 : (fns (fs.take k)).take (k * 2) = fns (fs.take k) := List.take_of_length_le (by omega)
  refine round_on (e2 := [(6, .sl 2 0 k), (25, .sl 0 0 2), (26, .int .i64 (2 : Nat)), (27, .int .i64 (0 + 1 : Nat))]) (h2 := [⟨[.sl 1 0 k, .sl 1 ((k + 1) * 2) (fs.length - k - 1)], 1, 0, some 0, true⟩, ⟨fns fs, 2, 1, some 0, false⟩, ⟨fns (fs.take k), 2, 2, some 0, false⟩]) ?_ (round_on (e2 := [(6, .sl 2 0 (k + (fs.length - k - 1))), (25, .sl 0 0 2), (26, .int .i64 (2 : Nat)), (27, .int .i64 (0 + 1 + 1 : Nat))]) (h2 := [⟨[.sl 1 0 k, .sl 1 ((k + 1) * 2) (fs.length - k - 1)], 1, 0, some 0, true⟩, ⟨fns fs, 2, 1, some 0, false⟩, ⟨fns (wo fs k), 2, 2, some 0, false⟩]) ?_ (round_out ?_))
  · unfold m131_1
    repeat' (first
      | refine sp_appG (l1 := []) rfl rfl rfl (by simp) (rowOf_at rfl rfl) hf0 rfl hf1 (by omega) (.inr ⟨_, _, _, rfl, rfl, rfl⟩) (Nat.zero_le _) rfl rfl rfl rfl ?_
      | (refine g_op ?_; first
        | refine ep_mov rfl ?_ | refine ep_load1 rfl rfl rfl rfl ?_
        | refine ep_bin rfl rfl (by first | exact b_add (by omega) (by omega) | exact b_sub (by omega) (by omega) | exact b_and (by omega) (by omega) | exact b_or (by omega) (by omega) | exact b_shr (by omega) | exact b_shl (by omega) (by omega) | exact b_lss | exact b_leq | exact b_gtr | exact b_geq | exact b_eql | exact b_neq) ?_
        | refine sp_push0 rfl (by first | exact .inl rfl | exact .inr rfl) rfl rfl rfl rfl rfl (by decide) rfl rfl rfl ?_ | refine sp_push rfl rfl rfl rfl rfl rfl rfl (by first | exact ints_len _ | exact prs_len _ _ | exact zints_len _) (by omega) (Nat.zero_le _) rfl rfl rfl rfl rfl ?_
        | refine sp_idx rfl rfl rfl (by omega) rfl ?_ | refine ep_loadS rfl rfl rfl (by first | exact ints_get (by omega) | exact zints_get (by omega) | exact fget (by omega) | assumption) ?_)
      | (refine g_ops ?_; first | refine eo_none ?_ | refine eo_nil ?_)
      | (refine g_code ?_; first | refine ec_seq ?_ | refine ec_region ?_ | refine ec_block ?_ | refine ec_skip ?_ | refine ec_exit ?_ | refine ec_condT rfl ?_ | refine ec_condF rfl ?_ | refine ec_condTH rfl (by assumption) ?_ | refine ec_condFH rfl (by assumption) ?_)
      | refine ek_seqN ?_ | refine ek_seqX ?_ | refine ek_blkN ?_ | refine ek_blkR ?_ | refine ek_blkX ?_ | refine ek_blkY rfl ?_)
    exact rnd_on (by rfl) (scmp2 (by rfl) (by rfl) (by exact ⟨rfl, rfl, rfl⟩) (by rfl) (by first | rfl | (rw [Nat.zero_add]; rfl) | simp) (by rfl) (by first | rfl | (rw [Nat.zero_add]; rfl) | simp))
  · unfold m131_1
    repeat' (first
      | refine sp_appG rfl rfl rfl hf4 (rowOf_at rfl rfl) hf2 hf5 hf3 (by omega) (.inr ⟨_, _, _, rfl, rfl, rfl⟩) (Nat.zero_le _) rfl rfl rfl rfl ?_
      | (refine g_op ?_; first
        | refine ep_mov rfl ?_ | refine ep_load1 rfl rfl rfl rfl ?_
        | refine ep_bin rfl rfl (by first | exact b_add (by omega) (by omega) | exact b_sub (by omega) (by omega) | exact b_and (by omega) (by omega) | exact b_or (by omega) (by omega) | exact b_shr (by omega) | exact b_shl (by omega) (by omega) | exact b_lss | exact b_leq | exact b_gtr | exact b_geq | exact b_eql | exact b_neq) ?_
        | refine sp_push0 rfl (by first | exact .inl rfl | exact .inr rfl) rfl rfl rfl rfl rfl (by decide) rfl rfl rfl ?_ | refine sp_push rfl rfl rfl rfl rfl rfl rfl (by first | exact ints_len _ | exact prs_len _ _ | exact zints_len _) (by omega) (Nat.zero_le _) rfl rfl rfl rfl rfl ?_
        | refine sp_idx rfl rfl rfl (by omega) rfl ?_ | refine ep_loadS rfl rfl rfl (by first | exact ints_get (by omega) | exact zints_get (by omega) | exact fget (by omega) | assumption) ?_)
      | (refine g_ops ?_; first | refine eo_none ?_ | refine eo_nil ?_)
      | (refine g_code ?_; first | refine ec_seq ?_ | refine ec_region ?_ | refine ec_block ?_ | refine ec_skip ?_ | refine ec_exit ?_ | refine ec_condT rfl ?_ | refine ec_condF rfl ?_ | refine ec_condTH rfl (by assumption) ?_ | refine ec_condFH rfl (by assumption) ?_)
      | refine ek_seqN ?_ | refine ek_seqX ?_ | refine ek_blkN ?_ | refine ek_blkR ?_ | refine ek_blkX ?_ | refine ek_blkY rfl ?_)
    exact rnd_on (by rfl) (scmp2 (by rfl) (by rfl) (by exact ⟨rfl, rfl, rfl⟩) (by rfl) (by first | rfl | (simp; done) | (simp [ints, prs]; done)) (by rfl) (by first | rfl | (simp; done) | (simp [ints, prs]; done)))
  · unfold m131_1
    repeat' (first
      | (refine g_op ?_; first
        | refine ep_mov rfl ?_ | refine ep_load1 rfl rfl rfl rfl ?_
        | refine ep_bin rfl rfl (by first | exact b_add (by omega) (by omega) | exact b_sub (by omega) (by omega) | exact b_and (by omega) (by omega) | exact b_or (by omega) (by omega) | exact b_shr (by omega) | exact b_shl (by omega) (by omega) | exact b_lss | exact b_leq | exact b_gtr | exact b_geq | exact b_eql | exact b_neq) ?_
        | refine sp_push0 rfl (by first | exact .inl rfl | exact .inr rfl) rfl rfl rfl rfl rfl (by decide) rfl rfl rfl ?_ | refine sp_push rfl rfl rfl rfl rfl rfl rfl (by first | exact ints_len _ | exact prs_len _ _ | exact zints_len _) (by omega) (Nat.zero_le _) rfl rfl rfl rfl rfl ?_
        | refine sp_idx rfl rfl rfl (by omega) rfl ?_ | refine ep_loadS rfl rfl rfl (by first | exact ints_get (by omega) | exact zints_get (by omega) | exact fget (by omega) | assumption) ?_)
      | (refine g_ops ?_; first | refine eo_none ?_ | refine eo_nil ?_)
      | (refine g_code ?_; first | refine ec_seq ?_ | refine ec_region ?_ | refine ec_block ?_ | refine ec_skip ?_ | refine ec_exit ?_ | refine ec_condT rfl ?_ | refine ec_condF rfl ?_ | refine ec_condTH rfl (by assumption) ?_ | refine ec_condFH rfl (by assumption) ?_)
      | refine ek_seqN ?_ | refine ek_seqX ?_ | refine ek_blkN ?_ | refine ek_blkR ?_ | refine ek_blkX ?_ | refine ek_blkY rfl ?_)
    exact rnd_out (by rfl) (by simp) (scmp2 (by rfl) (by rfl) (by exact ⟨rfl, rfl, rfl⟩) (by rfl) (by first | rfl | (simp; done) | (simp [ints, prs]; done)) (by rfl) (by first | rfl | (simp; done) | (simp [ints, prs]; done)))
theorem evcc_n (fs : List (Int × Int)) (k : Nat) (hk : k < fs.length) (h2 : 2 ≤ fs.length) (hln : fs.length ≤ 1048576) : Ev cx 131 [.sl 0 0 2] [⟨[.sl 1 0 k, .sl 1 ((k + 1) * 2) (fs.length - k - 1)], 1, 0, some 0, true⟩, ⟨fns fs, 2, 1, some 0, false⟩] (.sl 2 0 (k + (fs.length - k - 1))) [⟨[.sl 1 0 k, .sl 1 ((k + 1) * 2) (fs.length - k - 1)], 1, 0, some 0, true⟩, ⟨fns fs, 2, 1, some 0, false⟩, ⟨fns (wo fs k), 2, 2, some 0, false⟩] := by
  have lp0 := lpcc0_n fs k hk h2 hln
  have lp1 := lpcc1_n fs k hk h2 hln
  have e1 := evgrow (k + (fs.length - k - 1)) (by omega) (by omega)
  refine has131.eev rfl rfl ?_
  unfold m131
  repeat' (first
    | refine sc_loop lp0 rfl rfl ⟨rfl, rfl, rfl⟩ rfl rfl rfl ?_
    | refine sc_loop lp1 rfl rfl ⟨rfl, rfl, rfl⟩ rfl rfl rfl ?_
    | (refine g_op ?_; first
      | refine ep_mov rfl ?_
      | refine ep_call0 rfl (by first | exact e1) rfl rfl ?_
      | refine sp_call rfl rfl rfl rfl (by first | exact e1) ⟨rfl, rfl, rfl, rfl⟩ rfl rfl rfl ?_
      | refine ep_lenS rfl ?_ | refine ep_lenN rfl ?_ | refine ep_lenE rfl ?_)
    | (refine g_ops ?_; first | refine eo_none ?_ | refine eo_nil ?_)
    | (refine g_code ?_; first | refine ec_seq ?_ | refine ec_region ?_ | refine ec_block ?_ | refine ec_ret ?_)
    | refine ek_seqN ?_ | refine ek_seqX ?_ | refine ek_seqR ?_ | refine ek_blkN ?_ | refine ek_blkR ?_ | refine ek_blkX ?_ | refine ek_blkY rfl ?_)
  refine sfin (.inr rfl) (by rfl) (by rfl) (by exact ⟨rfl, rfl, rfl⟩) (by rfl) (by rfl) (by rfl) (by first | rfl | (simp; done) | (simp [ints, prs]; done))
-- impl.without
def m91 : MC := (.seq (.region [⟨(.mov (.k .nils)), (some 4), none⟩] false) (.seq (.region [⟨(.mov (.t 0)), (some 5), none⟩, ⟨(.mov (.t 1)), (some 6), none⟩, ⟨(.slice 2 (.t 5) none (some (.t 6))), (some 7), none⟩, ⟨(.mov (.t 0)), (some 8), none⟩, ⟨(.mov (.t 1)), (some 9), none⟩, ⟨(.bin .add (.t 9) (.k (.int .i64 1))), (some 10), none⟩, ⟨(.slice 2 (.t 8) (some (.t 10)) none), (some 11), none⟩, ⟨(.bslice 1 [.nils, .nils] 2 [(0, (1, (.t 7))), (1, (1, (.t 11)))]), (some 12), none⟩, ⟨(.callw 131 [(.t 12)]), (some 13), none⟩, ⟨(.mov (.t 13)), (some 4), none⟩] true) .ret))
theorem has91 : Has cx 91 14 m91 [(.tmp 4)] :=
  ⟨⟨Try.f91, Try.f91.body.getD .skip, by kernel_rfl, by kernel_rfl, by kernel_rfl, by kernel_rfl, by kernel_rfl, by kernel_rfl⟩⟩
theorem evwo (fs : List (Int × Int)) (k : Nat) (hk : k < fs.length) (h2 : 2 ≤ fs.length) (hln : fs.length ≤ 1048576) : Ev cx 91 [.sl 0 0 fs.length, .int .i64 (k : Nat)] [⟨fns fs, 2, 0, some 0, false⟩] (.sl 1 0 (wo fs k).length) [⟨fns fs, 2, 0, some 0, false⟩, ⟨fns (wo fs k), 2, 1, some 0, false⟩] := by
  have e1 := evcc_n fs k hk h2 hln
  rw [← wo_len hk] at e1
  have hadd := b_addN (a := k) (b := 1) (by omega)
  refine has91.eev rfl rfl ?_
  unfold m91
  repeat' (first
    | refine ep_slice (p := 0) (q := (k : Nat)) (o' := 0) (n' := k) rfl rfl rfl (.inl ⟨rfl, rfl⟩) (.inr ⟨_, rfl⟩) ⟨by omega, by omega, by omega, rfl, by omega⟩ rfl rfl ?_
    | refine ep_slice (p := (k + 1 : Nat)) (q := (fs.length : Nat)) (o' := (k + 1) * 2) (n' := fs.length - k - 1) rfl rfl rfl (.inr ⟨_, rfl⟩) (.inl ⟨rfl, rfl⟩) ⟨by omega, by omega, by omega, by simp, by omega⟩ rfl rfl ?_
    | (refine g_op ?_; first
      | refine ep_mov rfl ?_
      | refine ep_callw0 rfl (by first | exact e1) rfl rfl ?_
      | refine sp_callw rfl rfl rfl rfl (by first | exact e1) ⟨rfl, rfl, rfl, rfl⟩ rfl rfl rfl (by first | exact WrP_refl _ _ | (repeat' (first | exact rfl | exact True.intro | refine And.intro ?_ ?_))) ?_
      | refine ep_bin rfl rfl (by first | exact hadd | exact b_add (by omega) (by omega) | exact b_sub (by omega) (by omega) | exact b_and (by omega) (by omega) | exact b_or (by omega) (by omega) | exact b_shr (by omega) | exact b_shl (by omega) (by omega) | exact b_lss | exact b_leq | exact b_gtr | exact b_geq | exact b_eql | exact b_neq) ?_
      | refine sp_bslice rfl rfl rfl rfl rfl ?_)
    | (refine g_ops ?_; first | refine eo_none ?_ | refine eo_nil ?_)
    | (refine g_dops ?_; first | refine ed_none ?_ | refine ed_nil ?_)
    | refine ed_same rfl ?_ | refine ed_one rfl rfl rfl rfl ?_ | refine ed_two rfl rfl rfl rfl rfl rfl rfl ?_ | refine ed_write rfl rfl ?_
    | (refine g_code ?_; first | refine ec_seq ?_ | refine ec_region ?_ | refine ec_draw ?_ | refine ec_ret ?_)
    | refine ek_seqN ?_ | refine ek_seqR ?_)
  refine sfin (.inr rfl) (by rfl) (by rfl) (by exact ⟨rfl, rfl, rfl⟩) (by rfl) (by rfl) (by rfl) (by first | rfl | (simp; done) | (simp [ints, prs]; done))
theorem evwo1 (fs : List (Int × Int)) (h1 : fs.length = 1) : Ev cx 91 [.sl 0 0 fs.length, .int .i64 (0 : Nat)] [⟨fns fs, 2, 0, some 0, false⟩] .nils [⟨fns fs, 2, 0, some 0, false⟩] := by
  have e1 := evcc_1 fs
  have hadd := b_addN (a := 0) (b := 1) (by omega)
  refine has91.eev rfl rfl ?_
  unfold m91
  repeat' (first
    | refine ep_slice (p := 0) (q := ((0 : Nat) : Int)) (o' := 0) (n' := 0) rfl rfl rfl (.inl ⟨rfl, rfl⟩) (.inr ⟨_, rfl⟩) ⟨by omega, by omega, by omega, rfl, by omega⟩ rfl rfl ?_
    | refine ep_slice (p := (0 + 1 : Nat)) (q := (fs.length : Nat)) (o' := 2) (n' := 0) rfl rfl rfl (.inr ⟨_, rfl⟩) (.inl ⟨rfl, rfl⟩) ⟨by omega, by omega, by omega, by simp, by omega⟩ rfl rfl ?_
    | (refine g_op ?_; first
      | refine ep_mov rfl ?_
      | refine ep_callw0 rfl (by first | exact e1) rfl rfl ?_
      | refine sp_callw rfl rfl rfl rfl (by first | exact e1) ⟨rfl, rfl, rfl, rfl⟩ rfl rfl rfl (by first | exact WrP_refl _ _ | (repeat' (first | exact rfl | exact True.intro | refine And.intro ?_ ?_))) ?_
      | refine ep_bin rfl rfl (by first | exact hadd | exact b_add (by omega) (by omega) | exact b_sub (by omega) (by omega) | exact b_and (by omega) (by omega) | exact b_or (by omega) (by omega) | exact b_shr (by omega) | exact b_shl (by omega) (by omega) | exact b_lss | exact b_leq | exact b_gtr | exact b_geq | exact b_eql | exact b_neq) ?_
      | refine sp_bslice rfl rfl rfl rfl rfl ?_)
    | (refine g_ops ?_; first | refine eo_none ?_ | refine eo_nil ?_)
    | (refine g_dops ?_; first | refine ed_none ?_ | refine ed_nil ?_)
    | refine ed_same rfl ?_ | refine ed_one rfl rfl rfl rfl ?_ | refine ed_two rfl rfl rfl rfl rfl rfl rfl ?_ | refine ed_write rfl rfl ?_
    | (refine g_code ?_; first | refine ec_seq ?_ | refine ec_region ?_ | refine ec_draw ?_ | refine ec_ret ?_)
    | refine ek_seqN ?_ | refine ek_seqR ?_)
  refine sfin (.inr rfl) (by rfl) (by rfl) (by exact ⟨rfl, rfl, rfl⟩) (by rfl) (by rfl) (by rfl) (by first | rfl | (simp; done) | (simp [ints, prs]; done))

theorem ev1knz (n N d b : Nat) (D : List Int) (hb : b < N) (hN : D.length = N) (hd : d < 65536) : Ev cx 133 [.agg [.int .i64 (n : Nat), .int .i64 (b : Nat)], .ptr 0 0, .ptr 3 0] [⟨[.ptr 1 0], 1, 0, some 0, true⟩, ⟨[.nils, .int .i64 (n : Nat), .sl 2 0 N], 1, 1, some 0, true⟩, ⟨zints D, 1, 2, some 0, false⟩, ⟨[.int .i64 (d : Nat)], 1, 3, some 0, true⟩] (.bool ((fun b => decide (0 ≤ D.getD b 0 ∧ D.getD b 0 ≤ (d : Int) - 1)) b)) [⟨[.ptr 1 0], 1, 0, some 0, true⟩, ⟨[.nils, .int .i64 (n : Nat), .sl 2 0 N], 1, 1, some 0, true⟩, ⟨zints D, 1, 2, some 0, false⟩, ⟨[.int .i64 (d : Nat)], 1, 3, some 0, true⟩] := by
  have hget := zints_get (l := D) (j := b) (by omega)
  refine has133.eev rfl rfl ?_
  unfold m133
  repeat' (first
    | refine ep_loadS rfl rfl rfl hget ?_
    | (refine g_op ?_; first
      | refine ep_mov rfl ?_ | refine ep_load1 rfl rfl rfl rfl ?_ | refine ep_fieldAddr rfl ?_
      | refine ep_callw0 rfl (by first | exact ev101 (D.getD b 0) 0 ((d : Nat) - 1)) rfl rfl ?_
      | refine sp_callw rfl rfl rfl rfl (by first | exact ev101 (D.getD b 0) 0 ((d : Nat) - 1)) ⟨rfl, rfl, rfl, rfl⟩ rfl rfl rfl (by first | exact WrP_refl _ _ | (repeat' (first | exact rfl | exact True.intro | refine And.intro ?_ ?_))) ?_
      | refine ep_bin rfl rfl (by first | exact b_add (by omega) (by omega) | exact b_sub (by omega) (by omega) | exact b_and (by omega) (by omega) | exact b_or (by omega) (by omega) | exact b_shr (by omega) | exact b_shl (by omega) (by omega) | exact b_lss | exact b_leq | exact b_gtr | exact b_geq | exact b_eql | exact b_neq) ?_
      | refine sp_box rfl rfl rfl rfl rfl ?_ | refine sp_idx rfl rfl rfl (by omega) rfl ?_ | refine ep_loadS rfl rfl rfl (by first | exact ints_get (by omega) | exact zints_get (by omega) | exact fget (by omega) | assumption) ?_
      | refine ep_nilckP rfl ?_ | refine ep_nilckF rfl ?_)
    | (refine g_ops ?_; first | refine eo_none ?_ | refine eo_nil ?_)
    | (refine g_dops ?_; first | refine ed_none ?_ | refine ed_nil ?_)
    | refine ed_same rfl ?_ | refine ed_one rfl rfl rfl rfl ?_ | refine ed_two rfl rfl rfl rfl rfl rfl rfl ?_ | refine ed_write rfl rfl ?_
    | (refine g_code ?_; first | refine ec_seq ?_ | refine ec_region ?_ | refine ec_draw ?_ | refine ec_ret ?_)
    | refine ek_seqN ?_ | refine ek_seqR ?_)
  refine sfin (.inr rfl) (by rfl) (by rfl) (by exact ⟨rfl, rfl, rfl⟩) (by rfl) (by rfl) (by rfl) (by first | rfl | (simp; done) | (simp [ints, prs]; done))
theorem lpft_knz (n N d : Nat) (D : List Int) (hN : D.length = N) (hNn : N = R2 (R2 n)) (hn3 : n ≤ 3) (hd : d < 65536) (o : Out) (ho : (match selm (fun b => decide (0 ≤ D.getD b 0 ∧ D.getD b 0 ≤ (d : Int) - 1)) (idn) (R2 (R2 n)) with | [] => (⟨.exit 0, [(5, .nils)], [⟨[.ptr 1 0], 1, 0, some 0, true⟩, ⟨[.nils, .int .i64 (n : Nat), .sl 2 0 N], 1, 1, some 0, true⟩, ⟨zints D, 1, 2, some 0, false⟩, ⟨[.int .i64 (d : Nat)], 1, 3, some 0, true⟩]⟩ : Out) | x :: xs => ⟨.exit 0, [(5, .sl 4 0 (x :: xs).length)], [⟨[.ptr 1 0], 1, 0, some 0, true⟩, ⟨[.nils, .int .i64 (n : Nat), .sl 2 0 N], 1, 1, some 0, true⟩, ⟨zints D, 1, 2, some 0, false⟩, ⟨[.int .i64 (d : Nat)], 1, 3, some 0, true⟩, ⟨prs n (x :: xs), 2, 4, some 0, false⟩]⟩) = o) :
    LpS cx 25 4 m129_0 [(0, .int .i64 (n : Nat)), (1, .fn 133 [.ptr 0 0, .ptr 3 0]), (5, .nils), (9, .int .i64 (R2 (R2 n) : Nat)), (10, .int .i64 (0 : Nat))] [⟨[.ptr 1 0], 1, 0, some 0, true⟩, ⟨[.nils, .int .i64 (n : Nat), .sl 2 0 N], 1, 1, some 0, true⟩, ⟨zints D, 1, 2, some 0, false⟩, ⟨[.int .i64 (d : Nat)], 1, 3, some 0, true⟩] o.x o.e o.h := by
  have hn : n ≤ 4 := by omega
  obtain ⟨h1, h2, h3, h4⟩ := shN hn
  subst ho
  refine lp_st (R2 (R2 n)) (selm (fun b => decide (0 ≤ D.getD b 0 ∧ D.getD b 0 ≤ (d : Int) - 1)) (idn)) (fun i s => match s with | [] => [(0, .int .i64 (n : Nat)), (1, .fn 133 [.ptr 0 0, .ptr 3 0]), (5, .nils), (9, .int .i64 (R2 (R2 n) : Nat)), (10, .int .i64 (i : Nat))] | x :: xs => [(0, .int .i64 (n : Nat)), (1, .fn 133 [.ptr 0 0, .ptr 3 0]), (5, .sl 4 0 (x :: xs).length), (9, .int .i64 (R2 (R2 n) : Nat)), (10, .int .i64 (i : Nat))]) (fun i s => match s with | [] => [⟨[.ptr 1 0], 1, 0, some 0, true⟩, ⟨[.nils, .int .i64 (n : Nat), .sl 2 0 N], 1, 1, some 0, true⟩, ⟨zints D, 1, 2, some 0, false⟩, ⟨[.int .i64 (d : Nat)], 1, 3, some 0, true⟩] | x :: xs => [⟨[.ptr 1 0], 1, 0, some 0, true⟩, ⟨[.nils, .int .i64 (n : Nat), .sl 2 0 N], 1, 1, some 0, true⟩, ⟨zints D, 1, 2, some 0, false⟩, ⟨[.int .i64 (d : Nat)], 1, 3, some 0, true⟩, ⟨prs n (x :: xs), 2, 4, some 0, false⟩]) (fun s => match s with | [] => ⟨.exit 0, [(5, .nils)], [⟨[.ptr 1 0], 1, 0, some 0, true⟩, ⟨[.nils, .int .i64 (n : Nat), .sl 2 0 N], 1, 1, some 0, true⟩, ⟨zints D, 1, 2, some 0, false⟩, ⟨[.int .i64 (d : Nat)], 1, 3, some 0, true⟩]⟩ | x :: xs => ⟨.exit 0, [(5, .sl 4 0 (x :: xs).length)], [⟨[.ptr 1 0], 1, 0, some 0, true⟩, ⟨[.nils, .int .i64 (n : Nat), .sl 2 0 N], 1, 1, some 0, true⟩, ⟨zints D, 1, 2, some 0, false⟩, ⟨[.int .i64 (d : Nat)], 1, 3, some 0, true⟩, ⟨prs n (x :: xs), 2, 4, some 0, false⟩]⟩) ?_ ?_ (R2 (R2 n)) 0 (by omega)
  · intro i s hi hs
    have hlt : decide ((i : Int) < (R2 (R2 n) : Nat)) = true := decide_eq_true (by omega)
    have hle : decide ((i : Int) ≤ (R2 (R2 n) : Nat) - 1) = true := decide_eq_true (by omega)
    have hlen : s.length ≤ 65536 := by have := selm_len (fun b => decide (0 ≤ D.getD b 0 ∧ D.getD b 0 ≤ (d : Int) - 1)) (idn) i; rw [hs] at this; omega
    cases hp : (fun b => decide (0 ≤ D.getD b 0 ∧ D.getD b 0 ≤ (d : Int) - 1)) i with
    | true =>
      have hp' : (decide (0 ≤ D.getD i 0 ∧ D.getD i 0 ≤ (d : Int) - 1)) = true := hp
      have e1 := ev1knz n N d i D (by omega) hN hd
      rw [show (fun b => decide (0 ≤ D.getD b 0 ∧ D.getD b 0 ≤ (d : Int) - 1)) i = _ from hp'] at e1
      cases s with
      | nil =>
        refine ⟨[(idn) i], by rw [selm_t (p := fun b => decide (0 ≤ D.getD b 0 ∧ D.getD b 0 ≤ (d : Int) - 1)) hp, hs]; try rfl, ?_⟩
        unfold m129_0
        repeat' (first
          | (refine g_op ?_; first
            | refine ep_mov rfl ?_ | refine sp_loadN rfl rfl rfl rfl rfl ?_
            | refine sp_callv rfl rfl rfl rfl rfl rfl (by first | exact e1) ⟨rfl, rfl, rfl, rfl⟩ rfl rfl rfl ?_
            | refine sp_callb rfl rfl rfl rfl rfl rfl (by first | exact e1) ⟨rfl, rfl, rfl, rfl⟩ rfl rfl rfl ?_
            | refine ep_bin rfl rfl (by first | exact b_add (by omega) (by omega) | exact b_sub (by omega) (by omega) | exact b_and (by omega) (by omega) | exact b_or (by omega) (by omega) | exact b_shr (by omega) | exact b_shl (by omega) (by omega) | exact b_lss | exact b_leq | exact b_gtr | exact b_geq | exact b_eql | exact b_neq) ?_
            | refine sp_store rfl rfl rfl rfl rfl rfl rfl rfl rfl rfl ?_ | refine sp_alloc rfl rfl ?_ | refine sp_build rfl rfl ?_ | refine sp_bslice rfl rfl rfl rfl rfl ?_ | refine sp_push0 rfl (by first | exact .inl rfl | exact .inr rfl) rfl rfl rfl rfl rfl (by decide) rfl rfl rfl ?_
            | refine sp_push rfl rfl rfl rfl rfl rfl rfl (by first | exact ints_len _ | exact prs_len _ _ | exact zints_len _) (by omega) (Nat.zero_le _) rfl rfl rfl rfl rfl ?_)
          | (refine g_ops ?_; first | refine eo_none ?_ | refine eo_nil ?_)
          | (refine g_code ?_; first | refine ec_seq ?_ | refine ec_region ?_ | refine ec_block ?_ | refine ec_skip ?_ | refine ec_exit ?_ | refine ec_condT rfl ?_ | refine ec_condF rfl ?_ | refine ec_condTH rfl (by assumption) ?_ | refine ec_condFH rfl (by assumption) ?_)
          | refine ek_seqN ?_ | refine ek_seqX ?_ | refine ek_blkN ?_ | refine ek_blkR ?_ | refine ek_blkX ?_ | refine ek_blkY rfl ?_)
        exact rnd_on (by rfl) (scmp2 (by rfl) (by rfl) (by exact ⟨rfl, rfl, rfl⟩) (by rfl) (by first | rfl | (simp; done) | (simp [ints, prs]; done)) (by rfl) (by first | rfl | (simp; done) | (simp [ints, prs]; done)))
      | cons x xs =>
        refine ⟨(x :: xs) ++ [(idn) i], by rw [selm_t (p := fun b => decide (0 ≤ D.getD b 0 ∧ D.getD b 0 ≤ (d : Int) - 1)) hp, hs]; try rfl, ?_⟩
        unfold m129_0
        repeat' (first
          | (refine g_op ?_; first
            | refine ep_mov rfl ?_ | refine sp_loadN rfl rfl rfl rfl rfl ?_
            | refine sp_callv rfl rfl rfl rfl rfl rfl (by first | exact e1) ⟨rfl, rfl, rfl, rfl⟩ rfl rfl rfl ?_
            | refine sp_callb rfl rfl rfl rfl rfl rfl (by first | exact e1) ⟨rfl, rfl, rfl, rfl⟩ rfl rfl rfl ?_
            | refine ep_bin rfl rfl (by first | exact b_add (by omega) (by omega) | exact b_sub (by omega) (by omega) | exact b_and (by omega) (by omega) | exact b_or (by omega) (by omega) | exact b_shr (by omega) | exact b_shl (by omega) (by omega) | exact b_lss | exact b_leq | exact b_gtr | exact b_geq | exact b_eql | exact b_neq) ?_
            | refine sp_store rfl rfl rfl rfl rfl rfl rfl rfl rfl rfl ?_ | refine sp_alloc rfl rfl ?_ | refine sp_build rfl rfl ?_ | refine sp_bslice rfl rfl rfl rfl rfl ?_ | refine sp_push0 rfl (by first | exact .inl rfl | exact .inr rfl) rfl rfl rfl rfl rfl (by decide) rfl rfl rfl ?_
            | refine sp_push rfl rfl rfl rfl rfl rfl rfl (by first | exact ints_len _ | exact prs_len _ _ | exact zints_len _) (by omega) (Nat.zero_le _) rfl rfl rfl rfl rfl ?_)
          | (refine g_ops ?_; first | refine eo_none ?_ | refine eo_nil ?_)
          | (refine g_code ?_; first | refine ec_seq ?_ | refine ec_region ?_ | refine ec_block ?_ | refine ec_skip ?_ | refine ec_exit ?_ | refine ec_condT rfl ?_ | refine ec_condF rfl ?_ | refine ec_condTH rfl (by assumption) ?_ | refine ec_condFH rfl (by assumption) ?_)
          | refine ek_seqN ?_ | refine ek_seqX ?_ | refine ek_blkN ?_ | refine ek_blkR ?_ | refine ek_blkX ?_ | refine ek_blkY rfl ?_)
        exact rnd_on (by rfl) (scmp2 (by rfl) (by rfl) (by exact ⟨rfl, rfl, rfl⟩) (by rfl) (by first | rfl | (simp; done) | (simp [ints, prs]; done)) (by rfl) (by first | rfl | (simp; done) | (simp [ints, prs]; done)))
    | false =>
      have hp' : (decide (0 ≤ D.getD i 0 ∧ D.getD i 0 ≤ (d : Int) - 1)) = false := hp
      have e1 := ev1knz n N d i D (by omega) hN hd
      rw [show (fun b => decide (0 ≤ D.getD b 0 ∧ D.getD b 0 ≤ (d : Int) - 1)) i = _ from hp'] at e1
      cases s with
      | nil =>
        refine ⟨[], by rw [selm_f (p := fun b => decide (0 ≤ D.getD b 0 ∧ D.getD b 0 ≤ (d : Int) - 1)) hp, hs]; try rfl, ?_⟩
        unfold m129_0
        repeat' (first
          | (refine g_op ?_; first
            | refine ep_mov rfl ?_ | refine sp_loadN rfl rfl rfl rfl rfl ?_
            | refine sp_callv rfl rfl rfl rfl rfl rfl (by first | exact e1) ⟨rfl, rfl, rfl, rfl⟩ rfl rfl rfl ?_
            | refine sp_callb rfl rfl rfl rfl rfl rfl (by first | exact e1) ⟨rfl, rfl, rfl, rfl⟩ rfl rfl rfl ?_
            | refine ep_bin rfl rfl (by first | exact b_add (by omega) (by omega) | exact b_sub (by omega) (by omega) | exact b_and (by omega) (by omega) | exact b_or (by omega) (by omega) | exact b_shr (by omega) | exact b_shl (by omega) (by omega) | exact b_lss | exact b_leq | exact b_gtr | exact b_geq | exact b_eql | exact b_neq) ?_
            | refine sp_store rfl rfl rfl rfl rfl rfl rfl rfl rfl rfl ?_ | refine sp_alloc rfl rfl ?_ | refine sp_build rfl rfl ?_ | refine sp_bslice rfl rfl rfl rfl rfl ?_ | refine sp_push0 rfl (by first | exact .inl rfl | exact .inr rfl) rfl rfl rfl rfl rfl (by decide) rfl rfl rfl ?_
            | refine sp_push rfl rfl rfl rfl rfl rfl rfl (by first | exact ints_len _ | exact prs_len _ _ | exact zints_len _) (by omega) (Nat.zero_le _) rfl rfl rfl rfl rfl ?_)
          | (refine g_ops ?_; first | refine eo_none ?_ | refine eo_nil ?_)
          | (refine g_code ?_; first | refine ec_seq ?_ | refine ec_region ?_ | refine ec_block ?_ | refine ec_skip ?_ | refine ec_exit ?_ | refine ec_condT rfl ?_ | refine ec_condF rfl ?_ | refine ec_condTH rfl (by assumption) ?_ | refine ec_condFH rfl (by assumption) ?_)
          | refine ek_seqN ?_ | refine ek_seqX ?_ | refine ek_blkN ?_ | refine ek_blkR ?_ | refine ek_blkX ?_ | refine ek_blkY rfl ?_)
        exact rnd_on (by rfl) (scmp2 (by rfl) (by rfl) (by exact ⟨rfl, rfl, rfl⟩) (by rfl) (by first | rfl | (simp; done) | (simp [ints, prs]; done)) (by rfl) (by first | rfl | (simp; done) | (simp [ints, prs]; done)))
      | cons x xs =>
        refine ⟨x :: xs, by rw [selm_f (p := fun b => decide (0 ≤ D.getD b 0 ∧ D.getD b 0 ≤ (d : Int) - 1)) hp, hs]; try rfl, ?_⟩
        unfold m129_0
        repeat' (first
          | (refine g_op ?_; first
            | refine ep_mov rfl ?_ | refine sp_loadN rfl rfl rfl rfl rfl ?_
            | refine sp_callv rfl rfl rfl rfl rfl rfl (by first | exact e1) ⟨rfl, rfl, rfl, rfl⟩ rfl rfl rfl ?_
            | refine sp_callb rfl rfl rfl rfl rfl rfl (by first | exact e1) ⟨rfl, rfl, rfl, rfl⟩ rfl rfl rfl ?_
            | refine ep_bin rfl rfl (by first | exact b_add (by omega) (by omega) | exact b_sub (by omega) (by omega) | exact b_and (by omega) (by omega) | exact b_or (by omega) (by omega) | exact b_shr (by omega) | exact b_shl (by omega) (by omega) | exact b_lss | exact b_leq | exact b_gtr | exact b_geq | exact b_eql | exact b_neq) ?_
            | refine sp_store rfl rfl rfl rfl rfl rfl rfl rfl rfl rfl ?_ | refine sp_alloc rfl rfl ?_ | refine sp_build rfl rfl ?_ | refine sp_bslice rfl rfl rfl rfl rfl ?_ | refine sp_push0 rfl (by first | exact .inl rfl | exact .inr rfl) rfl rfl rfl rfl rfl (by decide) rfl rfl rfl ?_
            | refine sp_push rfl rfl rfl rfl rfl rfl rfl (by first | exact ints_len _ | exact prs_len _ _ | exact zints_len _) (by omega) (Nat.zero_le _) rfl rfl rfl rfl rfl ?_)
          | (refine g_ops ?_; first | refine eo_none ?_ | refine eo_nil ?_)
          | (refine g_code ?_; first | refine ec_seq ?_ | refine ec_region ?_ | refine ec_block ?_ | refine ec_skip ?_ | refine ec_exit ?_ | refine ec_condT rfl ?_ | refine ec_condF rfl ?_ | refine ec_condTH rfl (by assumption) ?_ | refine ec_condFH rfl (by assumption) ?_)
          | refine ek_seqN ?_ | refine ek_seqX ?_ | refine ek_blkN ?_ | refine ek_blkR ?_ | refine ek_blkX ?_ | refine ek_blkY rfl ?_)
        exact rnd_on (by rfl) (scmp2 (by rfl) (by rfl) (by exact ⟨rfl, rfl, rfl⟩) (by rfl) (by first | rfl | (simp; done) | (simp [ints, prs]; done)) (by rfl) (by first | rfl | (simp; done) | (simp [ints, prs]; done)))
  · intro s hs
    have hlt : decide (((R2 (R2 n) : Nat) : Int) < (R2 (R2 n) : Nat)) = false := decide_eq_false (by omega)
    have hle : decide (((R2 (R2 n) : Nat) : Int) ≤ (R2 (R2 n) : Nat) - 1) = false := decide_eq_false (by omega)
    cases s with
    | nil =>
      unfold m129_0
      repeat' (first
        | (refine g_op ?_; first
          | refine ep_mov rfl ?_ | refine sp_loadN rfl rfl rfl rfl rfl ?_
          | refine sp_callv rfl rfl rfl rfl rfl rfl (by first | exact e1) ⟨rfl, rfl, rfl, rfl⟩ rfl rfl rfl ?_
          | refine sp_callb rfl rfl rfl rfl rfl rfl (by first | exact e1) ⟨rfl, rfl, rfl, rfl⟩ rfl rfl rfl ?_
          | refine ep_bin rfl rfl (by first | exact b_add (by omega) (by omega) | exact b_sub (by omega) (by omega) | exact b_and (by omega) (by omega) | exact b_or (by omega) (by omega) | exact b_shr (by omega) | exact b_shl (by omega) (by omega) | exact b_lss | exact b_leq | exact b_gtr | exact b_geq | exact b_eql | exact b_neq) ?_
          | refine sp_store rfl rfl rfl rfl rfl rfl rfl rfl rfl rfl ?_ | refine sp_alloc rfl rfl ?_ | refine sp_build rfl rfl ?_ | refine sp_bslice rfl rfl rfl rfl rfl ?_ | refine sp_push0 rfl (by first | exact .inl rfl | exact .inr rfl) rfl rfl rfl rfl rfl (by decide) rfl rfl rfl ?_
          | refine sp_push rfl rfl rfl rfl rfl rfl rfl (by first | exact ints_len _ | exact prs_len _ _ | exact zints_len _) (by omega) (Nat.zero_le _) rfl rfl rfl rfl rfl ?_)
        | (refine g_ops ?_; first | refine eo_none ?_ | refine eo_nil ?_)
        | (refine g_code ?_; first | refine ec_seq ?_ | refine ec_region ?_ | refine ec_block ?_ | refine ec_skip ?_ | refine ec_exit ?_ | refine ec_condT rfl ?_ | refine ec_condF rfl ?_ | refine ec_condTH rfl (by assumption) ?_ | refine ec_condFH rfl (by assumption) ?_)
        | refine ek_seqN ?_ | refine ek_seqX ?_ | refine ek_blkN ?_ | refine ek_blkR ?_ | refine ek_blkX ?_ | refine ek_blkY rfl ?_)
      exact rnd_out (by rfl) (by simp) (scmp2 (by rfl) (by rfl) (by exact ⟨rfl, rfl, rfl⟩) (by rfl) (by first | rfl | (simp; done) | (simp [ints, prs]; done)) (by rfl) (by first | rfl | (simp; done) | (simp [ints, prs]; done)))
    | cons x xs =>
      unfold m129_0
      repeat' (first
        | (refine g_op ?_; first
          | refine ep_mov rfl ?_ | refine sp_loadN rfl rfl rfl rfl rfl ?_
          | refine sp_callv rfl rfl rfl rfl rfl rfl (by first | exact e1) ⟨rfl, rfl, rfl, rfl⟩ rfl rfl rfl ?_
          | refine sp_callb rfl rfl rfl rfl rfl rfl (by first | exact e1) ⟨rfl, rfl, rfl, rfl⟩ rfl rfl rfl ?_
          | refine ep_bin rfl rfl (by first | exact b_add (by omega) (by omega) | exact b_sub (by omega) (by omega) | exact b_and (by omega) (by omega) | exact b_or (by omega) (by omega) | exact b_shr (by omega) | exact b_shl (by omega) (by omega) | exact b_lss | exact b_leq | exact b_gtr | exact b_geq | exact b_eql | exact b_neq) ?_
          | refine sp_store rfl rfl rfl rfl rfl rfl rfl rfl rfl rfl ?_ | refine sp_alloc rfl rfl ?_ | refine sp_build rfl rfl ?_ | refine sp_bslice rfl rfl rfl rfl rfl ?_ | refine sp_push0 rfl (by first | exact .inl rfl | exact .inr rfl) rfl rfl rfl rfl rfl (by decide) rfl rfl rfl ?_
          | refine sp_push rfl rfl rfl rfl rfl rfl rfl (by first | exact ints_len _ | exact prs_len _ _ | exact zints_len _) (by omega) (Nat.zero_le _) rfl rfl rfl rfl rfl ?_)
        | (refine g_ops ?_; first | refine eo_none ?_ | refine eo_nil ?_)
        | (refine g_code ?_; first | refine ec_seq ?_ | refine ec_region ?_ | refine ec_block ?_ | refine ec_skip ?_ | refine ec_exit ?_ | refine ec_condT rfl ?_ | refine ec_condF rfl ?_ | refine ec_condTH rfl (by assumption) ?_ | refine ec_condFH rfl (by assumption) ?_)
        | refine ek_seqN ?_ | refine ek_seqX ?_ | refine ek_blkN ?_ | refine ek_blkR ?_ | refine ek_blkX ?_ | refine ek_blkY rfl ?_)
      exact rnd_out (by rfl) (by simp) (scmp2 (by rfl) (by rfl) (by exact ⟨rfl, rfl, rfl⟩) (by rfl) (by first | rfl | (simp; done) | (simp [ints, prs]; done)) (by rfl) (by first | rfl | (simp; done) | (simp [ints, prs]; done)))

theorem evft_knz (n N d : Nat) (D : List Int) (hN : D.length = N) (hNn : N = R2 (R2 n)) (hn3 : n ≤ 3) (hd : d < 65536) : Ev cx 129 [.int .i64 n, .fn 133 [.ptr 0 0, .ptr 3 0]] [⟨[.ptr 1 0], 1, 0, some 0, true⟩, ⟨[.nils, .int .i64 (n : Nat), .sl 2 0 N], 1, 1, some 0, true⟩, ⟨zints D, 1, 2, some 0, false⟩, ⟨[.int .i64 (d : Nat)], 1, 3, some 0, true⟩] (slV .nils 4 (selm (fun b => decide (0 ≤ D.getD b 0 ∧ D.getD b 0 ≤ (d : Int) - 1)) idn (R2 (R2 n)))) ([⟨[.ptr 1 0], 1, 0, some 0, true⟩, ⟨[.nils, .int .i64 (n : Nat), .sl 2 0 N], 1, 1, some 0, true⟩, ⟨zints D, 1, 2, some 0, false⟩, ⟨[.int .i64 (d : Nat)], 1, 3, some 0, true⟩] ++ slH 4 2 (prs n) (selm (fun b => decide (0 ≤ D.getD b 0 ∧ D.getD b 0 ≤ (d : Int) - 1)) idn (R2 (R2 n)))) := by
  have hn : n ≤ 4 := by omega
  cases hs : selm (fun b => decide (0 ≤ D.getD b 0 ∧ D.getD b 0 ≤ (d : Int) - 1)) idn (R2 (R2 n)) with
  | nil =>
    have lp := lpft_knz n N d D hN hNn hn3 hd _ (by rw [hs])
    refine has129.eev rfl rfl ?_
    unfold m129
    repeat' (first
      | refine sc_loop lp rfl rfl ⟨rfl, rfl, rfl⟩ rfl rfl rfl ?_
      | (refine g_op ?_; first
        | refine ep_mov rfl ?_
        | refine ep_call0 rfl (by first | exact ev102 _ hn) rfl rfl ?_
        | refine sp_call rfl rfl rfl rfl (by first | exact ev102 _ hn) ⟨rfl, rfl, rfl, rfl⟩ rfl rfl rfl ?_)
      | (refine g_ops ?_; first | refine eo_none ?_ | refine eo_nil ?_)
      | (refine g_code ?_; first | refine ec_seq ?_ | refine ec_region ?_ | refine ec_block ?_ | refine ec_ret ?_)
      | refine ek_seqN ?_ | refine ek_seqX ?_ | refine ek_seqR ?_ | refine ek_blkN ?_ | refine ek_blkR ?_ | refine ek_blkX ?_ | refine ek_blkY rfl ?_)
    refine sfin (.inr rfl) (by rfl) (by rfl) (by exact ⟨rfl, rfl, rfl⟩) (by rfl) (by rfl) (by rfl) (by first | rfl | (simp; done) | (simp [ints, prs]; done))
  | cons x xs =>
    have lp := lpft_knz n N d D hN hNn hn3 hd _ (by rw [hs])
    refine has129.eev rfl rfl ?_
    unfold m129
    repeat' (first
      | refine sc_loop lp rfl rfl ⟨rfl, rfl, rfl⟩ rfl rfl rfl ?_
      | (refine g_op ?_; first
        | refine ep_mov rfl ?_
        | refine ep_call0 rfl (by first | exact ev102 _ hn) rfl rfl ?_
        | refine sp_call rfl rfl rfl rfl (by first | exact ev102 _ hn) ⟨rfl, rfl, rfl, rfl⟩ rfl rfl rfl ?_)
      | (refine g_ops ?_; first | refine eo_none ?_ | refine eo_nil ?_)
      | (refine g_code ?_; first | refine ec_seq ?_ | refine ec_region ?_ | refine ec_block ?_ | refine ec_ret ?_)
      | refine ek_seqN ?_ | refine ek_seqX ?_ | refine ek_seqR ?_ | refine ek_blkN ?_ | refine ek_blkR ?_ | refine ek_blkX ?_ | refine ek_blkY rfl ?_)
    refine sfin (.inr rfl) (by rfl) (by rfl) (by exact ⟨rfl, rfl, rfl⟩) (by rfl) (by rfl) (by rfl) (by first | rfl | (simp; done) | (simp [ints, prs]; done))
theorem evknz (n N d : Nat) (D : List Int) (hN : D.length = N) (hNn : N = R2 (R2 n)) (hn3 : n ≤ 3) (hd : d < 65536) (L : List Nat) (hL : selm (fun b => decide (0 ≤ D.getD b 0 ∧ D.getD b 0 ≤ (d : Int) - 1)) idn (R2 (R2 n)) = L) (hne : L ≠ []) : Ev cx 93 [.ptr 0 0, .int .i64 (d : Nat)] [⟨[.nils, .int .i64 (n : Nat), .sl 1 0 N], 1, 0, some 0, true⟩, ⟨zints D, 1, 1, some 0, false⟩] (.sl 2 0 L.length) ([⟨[.nils, .int .i64 (n : Nat), .sl 1 0 N], 1, 0, some 0, true⟩, ⟨zints D, 1, 1, some 0, false⟩] ++ [⟨prs n L, 2, 2, some 0, false⟩]) := by
  have e := evft_knz n N d D hN hNn hn3 hd
  rw [hL] at e
  cases L with
  | nil => exact absurd rfl hne
  | cons x xs =>
    refine has93.eev rfl rfl ?_
    unfold m93
    repeat' (first
      | (refine g_op ?_; first
        | refine ep_mov rfl ?_ | refine ep_load1 rfl rfl rfl rfl ?_ | refine ep_fieldAddr rfl ?_
        | refine ep_call0 rfl (by first | exact e) rfl rfl ?_
        | refine sp_call rfl rfl rfl rfl (by first | exact e) ⟨rfl, rfl, rfl, rfl⟩ rfl rfl rfl ?_
        | refine sp_box rfl rfl rfl rfl rfl ?_ | refine ep_mkfn rfl ?_ | refine ep_nilckP rfl ?_ | refine ep_nilckF rfl ?_)
      | (refine g_ops ?_; first | refine eo_none ?_ | refine eo_nil ?_)
      | (refine g_code ?_; first | refine ec_seq ?_ | refine ec_region ?_ | refine ec_ret ?_)
      | refine ek_seqN ?_ | refine ek_seqR ?_)
    refine sfin (.inr rfl) (by rfl) (by rfl) (by exact ⟨rfl, rfl, rfl⟩) (by rfl) (by rfl) (by rfl) (by first | rfl | (simp; done) | (simp [ints, prs]; done))
theorem ev1alz (n N b : Nat) (D : List Int) (hb : b < N) (hN : D.length = N) : Ev cx 130 [.agg [.int .i64 (n : Nat), .int .i64 (b : Nat)], .ptr 0 0] [⟨[.ptr 1 0], 1, 0, some 0, true⟩, ⟨[.nils, .int .i64 (n : Nat), .sl 2 0 N], 1, 1, some 0, true⟩, ⟨zints D, 1, 2, some 0, false⟩] (.bool ((fun b => decide (D.getD b 0 ≥ 0)) b)) [⟨[.ptr 1 0], 1, 0, some 0, true⟩, ⟨[.nils, .int .i64 (n : Nat), .sl 2 0 N], 1, 1, some 0, true⟩, ⟨zints D, 1, 2, some 0, false⟩] := by
  have hget := zints_get (l := D) (j := b) (by omega)
  refine has130.eev rfl rfl ?_
  unfold m130
  repeat' (first
    | refine ep_loadS rfl rfl rfl hget ?_
    | (refine g_op ?_; first
      | refine ep_mov rfl ?_ | refine ep_load1 rfl rfl rfl rfl ?_ | refine ep_fieldAddr rfl ?_
      | refine ep_bin rfl rfl (by first | exact b_add (by omega) (by omega) | exact b_sub (by omega) (by omega) | exact b_and (by omega) (by omega) | exact b_or (by omega) (by omega) | exact b_shr (by omega) | exact b_shl (by omega) (by omega) | exact b_lss | exact b_leq | exact b_gtr | exact b_geq | exact b_eql | exact b_neq) ?_
      | refine sp_box rfl rfl rfl rfl rfl ?_ | refine sp_idx rfl rfl rfl (by omega) rfl ?_ | refine ep_loadS rfl rfl rfl (by first | exact ints_get (by omega) | exact zints_get (by omega) | exact fget (by omega) | assumption) ?_
      | refine ep_nilckP rfl ?_ | refine ep_nilckF rfl ?_)
    | (refine g_ops ?_; first | refine eo_none ?_ | refine eo_nil ?_)
    | (refine g_dops ?_; first | refine ed_none ?_ | refine ed_nil ?_)
    | refine ed_same rfl ?_ | refine ed_one rfl rfl rfl rfl ?_ | refine ed_two rfl rfl rfl rfl rfl rfl rfl ?_ | refine ed_write rfl rfl ?_
    | (refine g_code ?_; first | refine ec_seq ?_ | refine ec_region ?_ | refine ec_draw ?_ | refine ec_ret ?_)
    | refine ek_seqN ?_ | refine ek_seqR ?_)
  refine sfin (.inr rfl) (by rfl) (by rfl) (by exact ⟨rfl, rfl, rfl⟩) (by rfl) (by rfl) (by rfl) (by first | rfl | (simp; done) | (simp [ints, prs]; done))
theorem lpft_alz (n N : Nat) (D : List Int) (hN : D.length = N) (hNn : N = R2 (R2 n)) (hn3 : n ≤ 3) (o : Out) (ho : (match selm (fun b => decide (D.getD b 0 ≥ 0)) (idn) (R2 (R2 n)) with | [] => (⟨.exit 0, [(5, .nils)], [⟨[.ptr 1 0], 1, 0, some 0, true⟩, ⟨[.nils, .int .i64 (n : Nat), .sl 2 0 N], 1, 1, some 0, true⟩, ⟨zints D, 1, 2, some 0, false⟩]⟩ : Out) | x :: xs => ⟨.exit 0, [(5, .sl 3 0 (x :: xs).length)], [⟨[.ptr 1 0], 1, 0, some 0, true⟩, ⟨[.nils, .int .i64 (n : Nat), .sl 2 0 N], 1, 1, some 0, true⟩, ⟨zints D, 1, 2, some 0, false⟩, ⟨prs n (x :: xs), 2, 3, some 0, false⟩]⟩) = o) :
    LpS cx 25 3 m129_0 [(0, .int .i64 (n : Nat)), (1, .fn 130 [.ptr 0 0]), (5, .nils), (9, .int .i64 (R2 (R2 n) : Nat)), (10, .int .i64 (0 : Nat))] [⟨[.ptr 1 0], 1, 0, some 0, true⟩, ⟨[.nils, .int .i64 (n : Nat), .sl 2 0 N], 1, 1, some 0, true⟩, ⟨zints D, 1, 2, some 0, false⟩] o.x o.e o.h := by
  have hn : n ≤ 4 := by omega
  obtain ⟨h1, h2, h3, h4⟩ := shN hn
  subst ho
  refine lp_st (R2 (R2 n)) (selm (fun b => decide (D.getD b 0 ≥ 0)) (idn)) (fun i s => match s with | [] => [(0, .int .i64 (n : Nat)), (1, .fn 130 [.ptr 0 0]), (5, .nils), (9, .int .i64 (R2 (R2 n) : Nat)), (10, .int .i64 (i : Nat))] | x :: xs => [(0, .int .i64 (n : Nat)), (1, .fn 130 [.ptr 0 0]), (5, .sl 3 0 (x :: xs).length), (9, .int .i64 (R2 (R2 n) : Nat)), (10, .int .i64 (i : Nat))]) (fun i s => match s with | [] => [⟨[.ptr 1 0], 1, 0, some 0, true⟩, ⟨[.nils, .int .i64 (n : Nat), .sl 2 0 N], 1, 1, some 0, true⟩, ⟨zints D, 1, 2, some 0, false⟩] | x :: xs => [⟨[.ptr 1 0], 1, 0, some 0, true⟩, ⟨[.nils, .int .i64 (n : Nat), .sl 2 0 N], 1, 1, some 0, true⟩, ⟨zints D, 1, 2, some 0, false⟩, ⟨prs n (x :: xs), 2, 3, some 0, false⟩]) (fun s => match s with | [] => ⟨.exit 0, [(5, .nils)], [⟨[.ptr 1 0], 1, 0, some 0, true⟩, ⟨[.nils, .int .i64 (n : Nat), .sl 2 0 N], 1, 1, some 0, true⟩, ⟨zints D, 1, 2, some 0, false⟩]⟩ | x :: xs => ⟨.exit 0, [(5, .sl 3 0 (x :: xs).length)], [⟨[.ptr 1 0], 1, 0, some 0, true⟩, ⟨[.nils, .int .i64 (n : Nat), .sl 2 0 N], 1, 1, some 0, true⟩, ⟨zints D, 1, 2, some 0, false⟩, ⟨prs n (x :: xs), 2, 3, some 0, false⟩]⟩) ?_ ?_ (R2 (R2 n)) 0 (by omega)
  · intro i s hi hs
    have hlt : decide ((i : Int) < (R2 (R2 n) : Nat)) = true := decide_eq_true (by omega)
    have hle : decide ((i : Int) ≤ (R2 (R2 n) : Nat) - 1) = true := decide_eq_true (by omega)
    have hlen : s.length ≤ 65536 := by have := selm_len (fun b => decide (D.getD b 0 ≥ 0)) (idn) i; rw [hs] at this; omega
    cases hp : (fun b => decide (D.getD b 0 ≥ 0)) i with
    | true =>
      have hp' : (decide (D.getD i 0 ≥ 0)) = true := hp
      have e1 := ev1alz n N i D (by omega) hN
      rw [show (fun b => decide (D.getD b 0 ≥ 0)) i = _ from hp'] at e1
      cases s with
      | nil =>
        refine ⟨[(idn) i], by rw [selm_t (p := fun b => decide (D.getD b 0 ≥ 0)) hp, hs]; try rfl, ?_⟩
        unfold m129_0
        repeat' (first
          | (refine g_op ?_; first
            | refine ep_mov rfl ?_ | refine sp_loadN rfl rfl rfl rfl rfl ?_
            | refine sp_callv rfl rfl rfl rfl rfl rfl (by first | exact e1) ⟨rfl, rfl, rfl, rfl⟩ rfl rfl rfl ?_
            | refine sp_callb rfl rfl rfl rfl rfl rfl (by first | exact e1) ⟨rfl, rfl, rfl, rfl⟩ rfl rfl rfl ?_
            | refine ep_bin rfl rfl (by first | exact b_add (by omega) (by omega) | exact b_sub (by omega) (by omega) | exact b_and (by omega) (by omega) | exact b_or (by omega) (by omega) | exact b_shr (by omega) | exact b_shl (by omega) (by omega) | exact b_lss | exact b_leq | exact b_gtr | exact b_geq | exact b_eql | exact b_neq) ?_
            | refine sp_store rfl rfl rfl rfl rfl rfl rfl rfl rfl rfl ?_ | refine sp_alloc rfl rfl ?_ | refine sp_build rfl rfl ?_ | refine sp_bslice rfl rfl rfl rfl rfl ?_ | refine sp_push0 rfl (by first | exact .inl rfl | exact .inr rfl) rfl rfl rfl rfl rfl (by decide) rfl rfl rfl ?_
            | refine sp_push rfl rfl rfl rfl rfl rfl rfl (by first | exact ints_len _ | exact prs_len _ _ | exact zints_len _) (by omega) (Nat.zero_le _) rfl rfl rfl rfl rfl ?_)
          | (refine g_ops ?_; first | refine eo_none ?_ | refine eo_nil ?_)
          | (refine g_code ?_; first | refine ec_seq ?_ | refine ec_region ?_ | refine ec_block ?_ | refine ec_skip ?_ | refine ec_exit ?_ | refine ec_condT rfl ?_ | refine ec_condF rfl ?_ | refine ec_condTH rfl (by assumption) ?_ | refine ec_condFH rfl (by assumption) ?_)
          | refine ek_seqN ?_ | refine ek_seqX ?_ | refine ek_blkN ?_ | refine ek_blkR ?_ | refine ek_blkX ?_ | refine ek_blkY rfl ?_)
        exact rnd_on (by rfl) (scmp2 (by rfl) (by rfl) (by exact ⟨rfl, rfl, rfl⟩) (by rfl) (by first | rfl | (simp; done) | (simp [ints, prs]; done)) (by rfl) (by first | rfl | (simp; done) | (simp [ints, prs]; done)))
      | cons x xs =>
        refine ⟨(x :: xs) ++ [(idn) i], by rw [selm_t (p := fun b => decide (D.getD b 0 ≥ 0)) hp, hs]; try rfl, ?_⟩
        unfold m129_0
        repeat' (first
          | (refine g_op ?_; first
            | refine ep_mov rfl ?_ | refine sp_loadN rfl rfl rfl rfl rfl ?_
            | refine sp_callv rfl rfl rfl rfl rfl rfl (by first | exact e1) ⟨rfl, rfl, rfl, rfl⟩ rfl rfl rfl ?_
            | refine sp_callb rfl rfl rfl rfl rfl rfl (by first | exact e1) ⟨rfl, rfl, rfl, rfl⟩ rfl rfl rfl ?_
            | refine ep_bin rfl rfl (by first | exact b_add (by omega) (by omega) | exact b_sub (by omega) (by omega) | exact b_and (by omega) (by omega) | exact b_or (by omega) (by omega) | exact b_shr (by omega) | exact b_shl (by omega) (by omega) | exact b_lss | exact b_leq | exact b_gtr | exact b_geq | exact b_eql | exact b_neq) ?_
            | refine sp_store rfl rfl rfl rfl rfl rfl rfl rfl rfl rfl ?_ | refine sp_alloc rfl rfl ?_ | refine sp_build rfl rfl ?_ | refine sp_bslice rfl rfl rfl rfl rfl ?_ | refine sp_push0 rfl (by first | exact .inl rfl | exact .inr rfl) rfl rfl rfl rfl rfl (by decide) rfl rfl rfl ?_
            | refine sp_push rfl rfl rfl rfl rfl rfl rfl (by first | exact ints_len _ | exact prs_len _ _ | exact zints_len _) (by omega) (Nat.zero_le _) rfl rfl rfl rfl rfl ?_)
          | (refine g_ops ?_; first | refine eo_none ?_ | refine eo_nil ?_)
          | (refine g_code ?_; first | refine ec_seq ?_ | refine ec_region ?_ | refine ec_block ?_ | refine ec_skip ?_ | refine ec_exit ?_ | refine ec_condT rfl ?_ | refine ec_condF rfl ?_ | refine ec_condTH rfl (by assumption) ?_ | refine ec_condFH rfl (by assumption) ?_)
          | refine ek_seqN ?_ | refine ek_seqX ?_ | refine ek_blkN ?_ | refine ek_blkR ?_ | refine ek_blkX ?_ | refine ek_blkY rfl ?_)
        exact rnd_on (by rfl) (scmp2 (by rfl) (by rfl) (by exact ⟨rfl, rfl, rfl⟩) (by rfl) (by first | rfl | (simp; done) | (simp [ints, prs]; done)) (by rfl) (by first | rfl | (simp; done) | (simp [ints, prs]; done)))
    | false =>
      have hp' : (decide (D.getD i 0 ≥ 0)) = false := hp
      have e1 := ev1alz n N i D (by omega) hN
      rw [show (fun b => decide (D.getD b 0 ≥ 0)) i = _ from hp'] at e1
      cases s with
      | nil =>
        refine ⟨[], by rw [selm_f (p := fun b => decide (D.getD b 0 ≥ 0)) hp, hs]; try rfl, ?_⟩
        unfold m129_0
        repeat' (first
          | (refine g_op ?_; first
            | refine ep_mov rfl ?_ | refine sp_loadN rfl rfl rfl rfl rfl ?_
            | refine sp_callv rfl rfl rfl rfl rfl rfl (by first | exact e1) ⟨rfl, rfl, rfl, rfl⟩ rfl rfl rfl ?_
            | refine sp_callb rfl rfl rfl rfl rfl rfl (by first | exact e1) ⟨rfl, rfl, rfl, rfl⟩ rfl rfl rfl ?_
            | refine ep_bin rfl rfl (by first | exact b_add (by omega) (by omega) | exact b_sub (by omega) (by omega) | exact b_and (by omega) (by omega) | exact b_or (by omega) (by omega) | exact b_shr (by omega) | exact b_shl (by omega) (by omega) | exact b_lss | exact b_leq | exact b_gtr | exact b_geq | exact b_eql | exact b_neq) ?_
            | refine sp_store rfl rfl rfl rfl rfl rfl rfl rfl rfl rfl ?_ | refine sp_alloc rfl rfl ?_ | refine sp_build rfl rfl ?_ | refine sp_bslice rfl rfl rfl rfl rfl ?_ | refine sp_push0 rfl (by first | exact .inl rfl | exact .inr rfl) rfl rfl rfl rfl rfl (by decide) rfl rfl rfl ?_
            | refine sp_push rfl rfl rfl rfl rfl rfl rfl (by first | exact ints_len _ | exact prs_len _ _ | exact zints_len _) (by omega) (Nat.zero_le _) rfl rfl rfl rfl rfl ?_)
          | (refine g_ops ?_; first | refine eo_none ?_ | refine eo_nil ?_)
          | (refine g_code ?_; first | refine ec_seq ?_ | refine ec_region ?_ | refine ec_block ?_ | refine ec_skip ?_ | refine ec_exit ?_ | refine ec_condT rfl ?_ | refine ec_condF rfl ?_ | refine ec_condTH rfl (by assumption) ?_ | refine ec_condFH rfl (by assumption) ?_)
          | refine ek_seqN ?_ | refine ek_seqX ?_ | refine ek_blkN ?_ | refine ek_blkR ?_ | refine ek_blkX ?_ | refine ek_blkY rfl ?_)
        exact rnd_on (by rfl) (scmp2 (by rfl) (by rfl) (by exact ⟨rfl, rfl, rfl⟩) (by rfl) (by first | rfl | (simp; done) | (simp [ints, prs]; done)) (by rfl) (by first | rfl | (simp; done) | (simp [ints, prs]; done)))
      | cons x xs =>
        refine ⟨x :: xs, by rw [selm_f (p := fun b => decide (D.getD b 0 ≥ 0)) hp, hs]; try rfl, ?_⟩
        unfold m129_0
        repeat' (first
          | (refine g_op ?_; first
            | refine ep_mov rfl ?_ | refine sp_loadN rfl rfl rfl rfl rfl ?_
            | refine sp_callv rfl rfl rfl rfl rfl rfl (by first | exact e1) ⟨rfl, rfl, rfl, rfl⟩ rfl rfl rfl ?_
            | refine sp_callb rfl rfl rfl rfl rfl rfl (by first | exact e1) ⟨rfl, rfl, rfl, rfl⟩ rfl rfl rfl ?_
            | refine ep_bin rfl rfl (by first | exact b_add (by omega) (by omega) | exact b_sub (by omega) (by omega) | exact b_and (by omega) (by omega) | exact b_or (by omega) (by omega) | exact b_shr (by omega) | exact b_shl (by omega) (by omega) | exact b_lss | exact b_leq | exact b_gtr | exact b_geq | exact b_eql | exact b_neq) ?_
            | refine sp_store rfl rfl rfl rfl rfl rfl rfl rfl rfl rfl ?_ | refine sp_alloc rfl rfl ?_ | refine sp_build rfl rfl ?_ | refine sp_bslice rfl rfl rfl rfl rfl ?_ | refine sp_push0 rfl (by first | exact .inl rfl | exact .inr rfl) rfl rfl rfl rfl rfl (by decide) rfl rfl rfl ?_
            | refine sp_push rfl rfl rfl rfl rfl rfl rfl (by first | exact ints_len _ | exact prs_len _ _ | exact zints_len _) (by omega) (Nat.zero_le _) rfl rfl rfl rfl rfl ?_)
          | (refine g_ops ?_; first | refine eo_none ?_ | refine eo_nil ?_)
          | (refine g_code ?_; first | refine ec_seq ?_ | refine ec_region ?_ | refine ec_block ?_ | refine ec_skip ?_ | refine ec_exit ?_ | refine ec_condT rfl ?_ | refine ec_condF rfl ?_ | refine ec_condTH rfl (by assumption) ?_ | refine ec_condFH rfl (by assumption) ?_)
          | refine ek_seqN ?_ | refine ek_seqX ?_ | refine ek_blkN ?_ | refine ek_blkR ?_ | refine ek_blkX ?_ | refine ek_blkY rfl ?_)
        exact rnd_on (by rfl) (scmp2 (by rfl) (by rfl) (by exact ⟨rfl, rfl, rfl⟩) (by rfl) (by first | rfl | (simp; done) | (simp [ints, prs]; done)) (by rfl) (by first | rfl | (simp; done) | (simp [ints, prs]; done)))
  · intro s hs
    have hlt : decide (((R2 (R2 n) : Nat) : Int) < (R2 (R2 n) : Nat)) = false := decide_eq_false (by omega)
    have hle : decide (((R2 (R2 n) : Nat) : Int) ≤ (R2 (R2 n) : Nat) - 1) = false := decide_eq_false (by omega)
    cases s with
    | nil =>
      unfold m129_0
      repeat' (first
        | (refine g_op ?_; first
          | refine ep_mov rfl ?_ | refine sp_loadN rfl rfl rfl rfl rfl ?_
          | refine sp_callv rfl rfl rfl rfl rfl rfl (by first | exact e1) ⟨rfl, rfl, rfl, rfl⟩ rfl rfl rfl ?_
          | refine sp_callb rfl rfl rfl rfl rfl rfl (by first | exact e1) ⟨rfl, rfl, rfl, rfl⟩ rfl rfl rfl ?_
          | refine ep_bin rfl rfl (by first | exact b_add (by omega) (by omega) | exact b_sub (by omega) (by omega) | exact b_and (by omega) (by omega) | exact b_or (by omega) (by omega) | exact b_shr (by omega) | exact b_shl (by omega) (by omega) | exact b_lss | exact b_leq | exact b_gtr | exact b_geq | exact b_eql | exact b_neq) ?_
          | refine sp_store rfl rfl rfl rfl rfl rfl rfl rfl rfl rfl ?_ | refine sp_alloc rfl rfl ?_ | refine sp_build rfl rfl ?_ | refine sp_bslice rfl rfl rfl rfl rfl ?_ | refine sp_push0 rfl (by first | exact .inl rfl | exact .inr rfl) rfl rfl rfl rfl rfl (by decide) rfl rfl rfl ?_
          | refine sp_push rfl rfl rfl rfl rfl rfl rfl (by first | exact ints_len _ | exact prs_len _ _ | exact zints_len _) (by omega) (Nat.zero_le _) rfl rfl rfl rfl rfl ?_)
        | (refine g_ops ?_; first | refine eo_none ?_ | refine eo_nil ?_)
        | (refine g_code ?_; first | refine ec_seq ?_ | refine ec_region ?_ | refine ec_block ?_ | refine ec_skip ?_ | refine ec_exit ?_ | refine ec_condT rfl ?_ | refine ec_condF rfl ?_ | refine ec_condTH rfl (by assumption) ?_ | refine ec_condFH rfl (by assumption) ?_)
        | refine ek_seqN ?_ | refine ek_seqX ?_ | refine ek_blkN ?_ | refine ek_blkR ?_ | refine ek_blkX ?_ | refine ek_blkY rfl ?_)
      exact rnd_out (by rfl) (by simp) (scmp2 (by rfl) (by rfl) (by exact ⟨rfl, rfl, rfl⟩) (by rfl) (by first | rfl | (simp; done) | (simp [ints, prs]; done)) (by rfl) (by first | rfl | (simp; done) | (simp [ints, prs]; done)))
    | cons x xs =>
      unfold m129_0
      repeat' (first
        | (refine g_op ?_; first
          | refine ep_mov rfl ?_ | refine sp_loadN rfl rfl rfl rfl rfl ?_
          | refine sp_callv rfl rfl rfl rfl rfl rfl (by first | exact e1) ⟨rfl, rfl, rfl, rfl⟩ rfl rfl rfl ?_
          | refine sp_callb rfl rfl rfl rfl rfl rfl (by first | exact e1) ⟨rfl, rfl, rfl, rfl⟩ rfl rfl rfl ?_
          | refine ep_bin rfl rfl (by first | exact b_add (by omega) (by omega) | exact b_sub (by omega) (by omega) | exact b_and (by omega) (by omega) | exact b_or (by omega) (by omega) | exact b_shr (by omega) | exact b_shl (by omega) (by omega) | exact b_lss | exact b_leq | exact b_gtr | exact b_geq | exact b_eql | exact b_neq) ?_
          | refine sp_store rfl rfl rfl rfl rfl rfl rfl rfl rfl rfl ?_ | refine sp_alloc rfl rfl ?_ | refine sp_build rfl rfl ?_ | refine sp_bslice rfl rfl rfl rfl rfl ?_ | refine sp_push0 rfl (by first | exact .inl rfl | exact .inr rfl) rfl rfl rfl rfl rfl (by decide) rfl rfl rfl ?_
          | refine sp_push rfl rfl rfl rfl rfl rfl rfl (by first | exact ints_len _ | exact prs_len _ _ | exact zints_len _) (by omega) (Nat.zero_le _) rfl rfl rfl rfl rfl ?_)
        | (refine g_ops ?_; first | refine eo_none ?_ | refine eo_nil ?_)
        | (refine g_code ?_; first | refine ec_seq ?_ | refine ec_region ?_ | refine ec_block ?_ | refine ec_skip ?_ | refine ec_exit ?_ | refine ec_condT rfl ?_ | refine ec_condF rfl ?_ | refine ec_condTH rfl (by assumption) ?_ | refine ec_condFH rfl (by assumption) ?_)
        | refine ek_seqN ?_ | refine ek_seqX ?_ | refine ek_blkN ?_ | refine ek_blkR ?_ | refine ek_blkX ?_ | refine ek_blkY rfl ?_)
      exact rnd_out (by rfl) (by simp) (scmp2 (by rfl) (by rfl) (by exact ⟨rfl, rfl, rfl⟩) (by rfl) (by first | rfl | (simp; done) | (simp [ints, prs]; done)) (by rfl) (by first | rfl | (simp; done) | (simp [ints, prs]; done)))

theorem evft_alz (n N : Nat) (D : List Int) (hN : D.length = N) (hNn : N = R2 (R2 n)) (hn3 : n ≤ 3) : Ev cx 129 [.int .i64 n, .fn 130 [.ptr 0 0]] [⟨[.ptr 1 0], 1, 0, some 0, true⟩, ⟨[.nils, .int .i64 (n : Nat), .sl 2 0 N], 1, 1, some 0, true⟩, ⟨zints D, 1, 2, some 0, false⟩] (slV .nils 3 (selm (fun b => decide (D.getD b 0 ≥ 0)) idn (R2 (R2 n)))) ([⟨[.ptr 1 0], 1, 0, some 0, true⟩, ⟨[.nils, .int .i64 (n : Nat), .sl 2 0 N], 1, 1, some 0, true⟩, ⟨zints D, 1, 2, some 0, false⟩] ++ slH 3 2 (prs n) (selm (fun b => decide (D.getD b 0 ≥ 0)) idn (R2 (R2 n)))) := by
  have hn : n ≤ 4 := by omega
  cases hs : selm (fun b => decide (D.getD b 0 ≥ 0)) idn (R2 (R2 n)) with
  | nil =>
    have lp := lpft_alz n N D hN hNn hn3 _ (by rw [hs])
    refine has129.eev rfl rfl ?_
    unfold m129
    repeat' (first
      | refine sc_loop lp rfl rfl ⟨rfl, rfl, rfl⟩ rfl rfl rfl ?_
      | (refine g_op ?_; first
        | refine ep_mov rfl ?_
        | refine ep_call0 rfl (by first | exact ev102 _ hn) rfl rfl ?_
        | refine sp_call rfl rfl rfl rfl (by first | exact ev102 _ hn) ⟨rfl, rfl, rfl, rfl⟩ rfl rfl rfl ?_)
      | (refine g_ops ?_; first | refine eo_none ?_ | refine eo_nil ?_)
      | (refine g_code ?_; first | refine ec_seq ?_ | refine ec_region ?_ | refine ec_block ?_ | refine ec_ret ?_)
      | refine ek_seqN ?_ | refine ek_seqX ?_ | refine ek_seqR ?_ | refine ek_blkN ?_ | refine ek_blkR ?_ | refine ek_blkX ?_ | refine ek_blkY rfl ?_)
    refine sfin (.inr rfl) (by rfl) (by rfl) (by exact ⟨rfl, rfl, rfl⟩) (by rfl) (by rfl) (by rfl) (by first | rfl | (simp; done) | (simp [ints, prs]; done))
  | cons x xs =>
    have lp := lpft_alz n N D hN hNn hn3 _ (by rw [hs])
    refine has129.eev rfl rfl ?_
    unfold m129
    repeat' (first
      | refine sc_loop lp rfl rfl ⟨rfl, rfl, rfl⟩ rfl rfl rfl ?_
      | (refine g_op ?_; first
        | refine ep_mov rfl ?_
        | refine ep_call0 rfl (by first | exact ev102 _ hn) rfl rfl ?_
        | refine sp_call rfl rfl rfl rfl (by first | exact ev102 _ hn) ⟨rfl, rfl, rfl, rfl⟩ rfl rfl rfl ?_)
      | (refine g_ops ?_; first | refine eo_none ?_ | refine eo_nil ?_)
      | (refine g_code ?_; first | refine ec_seq ?_ | refine ec_region ?_ | refine ec_block ?_ | refine ec_ret ?_)
      | refine ek_seqN ?_ | refine ek_seqX ?_ | refine ek_seqR ?_ | refine ek_blkN ?_ | refine ek_blkR ?_ | refine ek_blkX ?_ | refine ek_blkY rfl ?_)
    refine sfin (.inr rfl) (by rfl) (by rfl) (by exact ⟨rfl, rfl, rfl⟩) (by rfl) (by rfl) (by rfl) (by first | rfl | (simp; done) | (simp [ints, prs]; done))
theorem evalz (n N : Nat) (D : List Int) (hN : D.length = N) (hNn : N = R2 (R2 n)) (hn3 : n ≤ 3) (L : List Nat) (hL : selm (fun b => decide (D.getD b 0 ≥ 0)) idn (R2 (R2 n)) = L) (hne : L ≠ []) : Ev cx 89 [.ptr 0 0] [⟨[.nils, .int .i64 (n : Nat), .sl 1 0 N], 1, 0, some 0, true⟩, ⟨zints D, 1, 1, some 0, false⟩] (.sl 2 0 L.length) ([⟨[.nils, .int .i64 (n : Nat), .sl 1 0 N], 1, 0, some 0, true⟩, ⟨zints D, 1, 1, some 0, false⟩] ++ [⟨prs n L, 2, 2, some 0, false⟩]) := by
  have e := evft_alz n N D hN hNn hn3
  rw [hL] at e
  cases L with
  | nil => exact absurd rfl hne
  | cons x xs =>
    refine has89.eev rfl rfl ?_
    unfold m89
    repeat' (first
      | (refine g_op ?_; first
        | refine ep_mov rfl ?_ | refine ep_load1 rfl rfl rfl rfl ?_ | refine ep_fieldAddr rfl ?_
        | refine ep_call0 rfl (by first | exact e) rfl rfl ?_
        | refine sp_call rfl rfl rfl rfl (by first | exact e) ⟨rfl, rfl, rfl, rfl⟩ rfl rfl rfl ?_
        | refine sp_box rfl rfl rfl rfl rfl ?_ | refine ep_mkfn rfl ?_ | refine ep_nilckP rfl ?_ | refine ep_nilckF rfl ?_)
      | (refine g_ops ?_; first | refine eo_none ?_ | refine eo_nil ?_)
      | (refine g_code ?_; first | refine ec_seq ?_ | refine ec_region ?_ | refine ec_ret ?_)
      | refine ek_seqN ?_ | refine ek_seqR ?_)
    refine sfin (.inr rfl) (by rfl) (by rfl) (by exact ⟨rfl, rfl, rfl⟩) (by rfl) (by rfl) (by rfl) (by first | rfl | (simp; done) | (simp [ints, prs]; done))
theorem lpgz0 (n N : Nat) (hNn : N = R2 (R2 n)) (hn : n ≤ 3) :
    LpS cx 56 0 m88_0 [(0, .nils), (1, .int .i64 (n : Nat)), (5, .ptr 0 0), (20, .int .i64 (n : Nat)), (21, .int .i64 (0 : Nat))] [⟨[.ptr 1 0], 1, 0, some 0, true⟩, ⟨[.nils, .int .i64 (n : Nat), .sl 2 0 N], 1, 1, some 0, true⟩, ⟨zints (D0 n (0)), 1, 2, some 0, false⟩] (⟨.exit 0, [(0, .nils), (5, .ptr 0 0)], [⟨[.ptr 1 0], 1, 0, some 0, true⟩, ⟨[.nils, .int .i64 (n : Nat), .sl 2 0 N], 1, 1, some 0, true⟩, ⟨zints (D0 n (n)), 1, 2, some 0, false⟩]⟩ : Out).x (⟨.exit 0, [(0, .nils), (5, .ptr 0 0)], [⟨[.ptr 1 0], 1, 0, some 0, true⟩, ⟨[.nils, .int .i64 (n : Nat), .sl 2 0 N], 1, 1, some 0, true⟩, ⟨zints (D0 n (n)), 1, 2, some 0, false⟩]⟩ : Out).e (⟨.exit 0, [(0, .nils), (5, .ptr 0 0)], [⟨[.ptr 1 0], 1, 0, some 0, true⟩, ⟨[.nils, .int .i64 (n : Nat), .sl 2 0 N], 1, 1, some 0, true⟩, ⟨zints (D0 n (n)), 1, 2, some 0, false⟩]⟩ : Out).h := by
  refine lp_st (n) (fun _ => ()) (fun i _ => [(0, .nils), (1, .int .i64 (n : Nat)), (5, .ptr 0 0), (20, .int .i64 (n : Nat)), (21, .int .i64 (i : Nat))]) (fun i _ => [⟨[.ptr 1 0], 1, 0, some 0, true⟩, ⟨[.nils, .int .i64 (n : Nat), .sl 2 0 N], 1, 1, some 0, true⟩, ⟨zints (D0 n (i)), 1, 2, some 0, false⟩]) (fun _ => (⟨.exit 0, [(0, .nils), (5, .ptr 0 0)], [⟨[.ptr 1 0], 1, 0, some 0, true⟩, ⟨[.nils, .int .i64 (n : Nat), .sl 2 0 N], 1, 1, some 0, true⟩, ⟨zints (D0 n (n)), 1, 2, some 0, false⟩]⟩ : Out)) ?_ ?_ (n) 0 (by omega)
  · intro i u_ hi hu_
    refine ⟨(), rfl, ?_⟩
    have hlt : decide ((i : Int) < (n : Nat)) = true := decide_eq_true (by omega)
    have hp := projB_lt n i
    have hl := D0_len n i
    have hset := zints_set (D := D0 n i) (b := projB n i) (d := 0) (by omega)
    rw [← D0_s] at hset
    have hzl := zints_len (D0 n i)
    unfold m88_0
    repeat' (first
      | refine sp_storeS rfl rfl rfl rfl rfl rfl rfl (Nat.zero_le _) (by omega) hset rfl ?_
      | (refine g_op ?_; first
        | refine ep_mov rfl ?_ | refine ep_load1 rfl rfl rfl rfl ?_ | refine ep_fieldAddr rfl ?_
        | refine ep_call0 rfl (by first | exact ev127 n i (by omega) (by omega)) rfl rfl ?_
        | refine sp_call rfl rfl rfl rfl (by first | exact ev127 n i (by omega) (by omega)) ⟨rfl, rfl, rfl, rfl⟩ rfl rfl rfl ?_
        | refine ep_bin rfl rfl (by first | exact b_add (by omega) (by omega) | exact b_sub (by omega) (by omega) | exact b_and (by omega) (by omega) | exact b_or (by omega) (by omega) | exact b_shr (by omega) | exact b_shl (by omega) (by omega) | exact b_lss | exact b_leq | exact b_gtr | exact b_geq | exact b_eql | exact b_neq) ?_
        | refine sp_store rfl rfl rfl rfl rfl rfl rfl rfl rfl rfl ?_ | refine ep_field1 rfl rfl ?_ | refine sp_idx rfl rfl rfl (by omega) rfl ?_ | refine ep_loadS rfl rfl rfl (by first | exact ints_get (by omega) | exact zints_get (by omega) | exact fget (by omega) | assumption) ?_
        | refine ep_nilckP rfl ?_ | refine ep_nilckF rfl ?_)
      | (refine g_ops ?_; first | refine eo_none ?_ | refine eo_nil ?_)
      | (refine g_dops ?_; first | refine ed_none ?_ | refine ed_nil ?_)
      | refine ed_same rfl ?_ | refine ed_one rfl rfl rfl rfl ?_ | refine ed_two rfl rfl rfl rfl rfl rfl rfl ?_ | refine ed_write rfl rfl ?_
      | (refine g_code ?_; first | refine ec_seq ?_ | refine ec_region ?_ | refine ec_draw ?_ | refine ec_block ?_ | refine ec_skip ?_ | refine ec_exit ?_ | refine ec_condT rfl ?_ | refine ec_condF rfl ?_ | refine ec_condTH rfl (by assumption) ?_ | refine ec_condFH rfl (by assumption) ?_)
      | refine ek_seqN ?_ | refine ek_seqX ?_ | refine ek_blkN ?_ | refine ek_blkR ?_ | refine ek_blkX ?_ | refine ek_blkY rfl ?_)
    exact rnd_on (by rfl) (scmp2 (by rfl) (by rfl) (by exact ⟨rfl, rfl, rfl⟩) (by rfl) (by first | rfl | (simp; done) | (simp [ints, prs]; done)) (by rfl) (by first | rfl | (simp; done) | (simp [ints, prs]; done)))
  · intro u_ hu_
    have hlt : decide (((n : Nat) : Int) < (n : Nat)) = false := decide_eq_false (by omega)
    unfold m88_0
    repeat' (first
      | (refine g_op ?_; first
        | refine ep_mov rfl ?_ | refine ep_load1 rfl rfl rfl rfl ?_ | refine ep_fieldAddr rfl ?_
        | refine ep_bin rfl rfl (by first | exact b_add (by omega) (by omega) | exact b_sub (by omega) (by omega) | exact b_and (by omega) (by omega) | exact b_or (by omega) (by omega) | exact b_shr (by omega) | exact b_shl (by omega) (by omega) | exact b_lss | exact b_leq | exact b_gtr | exact b_geq | exact b_eql | exact b_neq) ?_
        | refine sp_store rfl rfl rfl rfl rfl rfl rfl rfl rfl rfl ?_ | refine ep_field1 rfl rfl ?_ | refine sp_idx rfl rfl rfl (by omega) rfl ?_ | refine ep_loadS rfl rfl rfl (by first | exact ints_get (by omega) | exact zints_get (by omega) | exact fget (by omega) | assumption) ?_
        | refine ep_nilckP rfl ?_ | refine ep_nilckF rfl ?_)
      | (refine g_ops ?_; first | refine eo_none ?_ | refine eo_nil ?_)
      | (refine g_dops ?_; first | refine ed_none ?_ | refine ed_nil ?_)
      | refine ed_same rfl ?_ | refine ed_one rfl rfl rfl rfl ?_ | refine ed_two rfl rfl rfl rfl rfl rfl rfl ?_ | refine ed_write rfl rfl ?_
      | (refine g_code ?_; first | refine ec_seq ?_ | refine ec_region ?_ | refine ec_draw ?_ | refine ec_block ?_ | refine ec_skip ?_ | refine ec_exit ?_ | refine ec_condT rfl ?_ | refine ec_condF rfl ?_ | refine ec_condTH rfl (by assumption) ?_ | refine ec_condFH rfl (by assumption) ?_)
      | refine ek_seqN ?_ | refine ek_seqX ?_ | refine ek_blkN ?_ | refine ek_blkR ?_ | refine ek_blkX ?_ | refine ek_blkY rfl ?_)
    exact rnd_out (by rfl) (by simp) (scmp2 (by rfl) (by rfl) (by exact ⟨rfl, rfl, rfl⟩) (by rfl) (by first | rfl | (simp; done) | (simp [ints, prs]; done)) (by rfl) (by first | rfl | (simp; done) | (simp [ints, prs]; done)))

theorem lpgz2 (n N d : Nat) (D : List Int) (L : List Nat) :
    LpS cx 56 0 m88_2 [(0, .nils), (5, .ptr 0 0), (7, .ptr 3 0), (8, .sl 4 0 L.length), (9, .ptr 5 0), (39, .nils), (40, .int .i64 0), (41, .int .i64 (0 : Nat))] [⟨[.ptr 1 0], 1, 0, some 0, true⟩, ⟨[.nils, .int .i64 (n : Nat), .sl 2 0 N], 1, 1, some 0, true⟩, ⟨zints D, 1, 2, some 0, false⟩, ⟨[.int .i64 (d : Nat)], 1, 3, some 0, true⟩, ⟨prs n L, 2, 4, some 0, false⟩, ⟨[.bool false], 1, 5, some 0, true⟩] (⟨.exit 4, [(0, .nils), (5, .ptr 0 0), (7, .ptr 3 0), (9, .ptr 4 0)], [⟨[.ptr 1 0], 1, 0, some 0, true⟩, ⟨[.nils, .int .i64 (n : Nat), .sl 2 0 N], 1, 1, some 0, true⟩, ⟨zints D, 1, 2, some 0, false⟩, ⟨[.int .i64 (d : Nat)], 1, 3, some 0, true⟩, ⟨[.bool false], 1, 4, some 0, true⟩]⟩ : Out).x (⟨.exit 4, [(0, .nils), (5, .ptr 0 0), (7, .ptr 3 0), (9, .ptr 4 0)], [⟨[.ptr 1 0], 1, 0, some 0, true⟩, ⟨[.nils, .int .i64 (n : Nat), .sl 2 0 N], 1, 1, some 0, true⟩, ⟨zints D, 1, 2, some 0, false⟩, ⟨[.int .i64 (d : Nat)], 1, 3, some 0, true⟩, ⟨[.bool false], 1, 4, some 0, true⟩]⟩ : Out).e (⟨.exit 4, [(0, .nils), (5, .ptr 0 0), (7, .ptr 3 0), (9, .ptr 4 0)], [⟨[.ptr 1 0], 1, 0, some 0, true⟩, ⟨[.nils, .int .i64 (n : Nat), .sl 2 0 N], 1, 1, some 0, true⟩, ⟨zints D, 1, 2, some 0, false⟩, ⟨[.int .i64 (d : Nat)], 1, 3, some 0, true⟩, ⟨[.bool false], 1, 4, some 0, true⟩]⟩ : Out).h := by
  refine lp_st (0) (fun _ => ()) (fun i _ => [(0, .nils), (5, .ptr 0 0), (7, .ptr 3 0), (8, .sl 4 0 L.length), (9, .ptr 5 0), (39, .nils), (40, .int .i64 0), (41, .int .i64 (i : Nat))]) (fun i _ => [⟨[.ptr 1 0], 1, 0, some 0, true⟩, ⟨[.nils, .int .i64 (n : Nat), .sl 2 0 N], 1, 1, some 0, true⟩, ⟨zints D, 1, 2, some 0, false⟩, ⟨[.int .i64 (d : Nat)], 1, 3, some 0, true⟩, ⟨prs n L, 2, 4, some 0, false⟩, ⟨[.bool false], 1, 5, some 0, true⟩]) (fun _ => (⟨.exit 4, [(0, .nils), (5, .ptr 0 0), (7, .ptr 3 0), (9, .ptr 4 0)], [⟨[.ptr 1 0], 1, 0, some 0, true⟩, ⟨[.nils, .int .i64 (n : Nat), .sl 2 0 N], 1, 1, some 0, true⟩, ⟨zints D, 1, 2, some 0, false⟩, ⟨[.int .i64 (d : Nat)], 1, 3, some 0, true⟩, ⟨[.bool false], 1, 4, some 0, true⟩]⟩ : Out)) ?_ ?_ (0) 0 (by omega)
  · intro i u_ hi hu_
    refine ⟨(), rfl, ?_⟩
    exact absurd hi (by simp)
  · intro u_ hu_
    have hlt : decide (((0 : Nat) : Int) < (0 : Nat)) = false := decide_eq_false (by omega)
    unfold m88_2
    repeat' (first
      | (refine g_op ?_; first
        | refine ep_mov rfl ?_ | refine ep_load1 rfl rfl rfl rfl ?_ | refine sp_loadN rfl rfl rfl rfl rfl ?_
        | refine ep_bin rfl rfl (by first | exact b_add (by omega) (by omega) | exact b_sub (by omega) (by omega) | exact b_and (by omega) (by omega) | exact b_or (by omega) (by omega) | exact b_shr (by omega) | exact b_shl (by omega) (by omega) | exact b_lss | exact b_leq | exact b_gtr | exact b_geq | exact b_eql | exact b_neq) ?_
        | refine sp_store rfl rfl rfl rfl rfl rfl rfl rfl rfl rfl ?_ | refine sp_alloc rfl rfl ?_ | refine sp_idx rfl rfl rfl (by omega) rfl ?_ | refine ep_loadS rfl rfl rfl (by first | exact ints_get (by omega) | exact zints_get (by omega) | exact fget (by omega) | assumption) ?_
        | refine ep_loadSN rfl rfl rfl (by first | exact prs_get (by omega) | exact fns_get (by omega)) ?_ | refine ep_mkfn rfl ?_)
      | (refine g_ops ?_; first | refine eo_none ?_ | refine eo_nil ?_)
      | (refine g_code ?_; first | refine ec_seq ?_ | refine ec_region ?_ | refine ec_block ?_ | refine ec_skip ?_ | refine ec_exit ?_ | refine ec_condT rfl ?_ | refine ec_condF rfl ?_ | refine ec_condTH rfl (by assumption) ?_ | refine ec_condFH rfl (by assumption) ?_)
      | refine ek_seqN ?_ | refine ek_seqX ?_ | refine ek_blkN ?_ | refine ek_blkR ?_ | refine ek_blkX ?_ | refine ek_blkY rfl ?_)
    exact rnd_out (by rfl) (by simp) (scmp2 (by rfl) (by rfl) (by exact ⟨rfl, rfl, rfl⟩) (by rfl) (by first | rfl | (simp; done) | (simp [ints, prs]; done)) (by rfl) (by first | rfl | (simp; done) | (simp [ints, prs]; done)))

theorem depL_nil (n : Nat) : depL [] n = D0 n n := rfl
theorem lpgz1 (n N d : Nat) (D : List Int) (hNn : N = R2 (R2 n)) (hn : n ≤ 3) (hN : D.length = N) (hz : ∃ c, c < N ∧ D.getD c 0 = 0) (hd : 1 ≤ d) (hd6 : d < 65536) : LpS cx 56 0 m88_1 [(0, .nils), (5, .ptr 0 0), (7, .ptr 3 0)] [⟨[.ptr 1 0], 1, 0, some 0, true⟩, ⟨[.nils, .int .i64 (n : Nat), .sl 2 0 N], 1, 1, some 0, true⟩, ⟨zints D, 1, 2, some 0, false⟩, ⟨[.int .i64 (d : Nat)], 1, 3, some 0, true⟩] (⟨.ret, [(4, .ptr 0 0)], [⟨[.nils, .int .i64 (n : Nat), .sl 1 0 N], 1, 0, some 0, true⟩, ⟨zints D, 1, 1, some 0, false⟩]⟩ : Out).x (⟨.ret, [(4, .ptr 0 0)], [⟨[.nils, .int .i64 (n : Nat), .sl 1 0 N], 1, 0, some 0, true⟩, ⟨zints D, 1, 1, some 0, false⟩]⟩ : Out).e (⟨.ret, [(4, .ptr 0 0)], [⟨[.nils, .int .i64 (n : Nat), .sl 1 0 N], 1, 0, some 0, true⟩, ⟨zints D, 1, 1, some 0, false⟩]⟩ : Out).h := by
  have e1 := evknz n N d D hN hNn hn hd6 (kwI (R2 (R2 n)) d D) rfl (kw_ne hNn hz hd)
  have lp := lpgz2 n N d D (kwI (R2 (R2 n)) d D)
  refine round_out ?_
  generalize kwI (R2 (R2 n)) d D = L at *
  unfold m88_1
  repeat' (first
    | refine sc_loop lp rfl rfl ⟨rfl, rfl, rfl⟩ rfl rfl rfl ?_
    | (refine g_op ?_; first
      | refine ep_mov rfl ?_ | refine ep_load1 rfl rfl rfl rfl ?_
      | refine ep_call0 rfl (by first | exact e1) rfl rfl ?_
      | refine sp_call rfl rfl rfl rfl (by first | exact e1) ⟨rfl, rfl, rfl, rfl⟩ rfl rfl rfl ?_
      | refine ep_bin rfl rfl (by first | exact b_add (by omega) (by omega) | exact b_sub (by omega) (by omega) | exact b_and (by omega) (by omega) | exact b_or (by omega) (by omega) | exact b_shr (by omega) | exact b_shl (by omega) (by omega) | exact b_lss | exact b_leq | exact b_gtr | exact b_geq | exact b_eql | exact b_neq) ?_
      | refine sp_store rfl rfl rfl rfl rfl rfl rfl rfl rfl rfl ?_ | refine ep_not rfl ?_ | refine ep_lenS rfl ?_ | refine ep_lenN rfl ?_ | refine ep_lenE rfl ?_ | refine sp_alloc rfl rfl ?_)
    | (refine g_ops ?_; first | refine eo_none ?_ | refine eo_nil ?_)
    | (refine g_code ?_; first | refine ec_seq ?_ | refine ec_region ?_ | refine ec_block ?_ | refine ec_skip ?_ | refine ec_ret ?_ | refine ec_condT rfl ?_ | refine ec_condF rfl ?_ | refine ec_condTH rfl (by assumption) ?_ | refine ec_condFH rfl (by assumption) ?_)
    | refine ek_seqN ?_ | refine ek_seqX ?_ | refine ek_seqR ?_ | refine ek_blkN ?_ | refine ek_blkR ?_ | refine ek_blkX ?_ | refine ek_blkY rfl ?_)
  exact rnd_out (by rfl) (by simp) (scmp2 (by rfl) (by rfl) (by exact ⟨rfl, rfl, rfl⟩) (by rfl) (by first | rfl | (simp; done) | (simp [ints, prs]; done)) (by rfl) (by first | rfl | (simp; done) | (simp [ints, prs]; done)))
theorem evgenz (n : Nat) (hn1 : 1 ≤ n) (hn : n ≤ 3) : Ev cx 88 [.nils, .int .i64 (n : Nat)] [] (.ptr 0 0) [⟨[.nils, .int .i64 (n : Nat), .sl 1 0 (R2 (R2 n))], 1, 0, some 0, true⟩, ⟨zints (depL [] n), 1, 1, some 0, false⟩] := by
  obtain ⟨h1, h2, h3, h4⟩ := shN (n := n) (by omega)
  have lp0 := lpgz0 n (R2 (R2 n)) rfl hn
  rw [show D0 n 0 = List.replicate (R2 (R2 n)) (-1) from rfl] at lp0
  have hl := D0_len n n
  rw [depL_nil]
  have lp1 := lpgz1 n (R2 (R2 n)) 1 (D0 n n) rfl hn hl ⟨projB n (n - 1), projB_lt n _, by
    obtain ⟨m, rfl⟩ : ∃ m, n = m + 1 := ⟨n - 1, by omega⟩
    rw [D0_s, getD_set, show m + 1 - 1 = m from rfl, if_pos ⟨rfl, by rw [D0_len]; exact projB_lt _ _⟩]⟩ (by omega) (by omega)
  have e1 := ev105 (R2 n) (-1) h1
  refine has88.eev rfl rfl ?_
  unfold m88
  repeat' (first
    | refine sc_loop lp0 rfl rfl ⟨rfl, rfl, rfl⟩ rfl rfl rfl ?_
    | refine sc_loop lp1 rfl rfl ⟨rfl, rfl, rfl⟩ rfl rfl rfl ?_
    | (refine g_op ?_; first
      | refine ep_mov rfl ?_
      | refine ep_call0 rfl (by first | exact e1 | exact ev102 _ (show n ≤ 4 by omega)) rfl rfl ?_
      | refine sp_call rfl rfl rfl rfl (by first | exact e1 | exact ev102 _ (show n ≤ 4 by omega)) ⟨rfl, rfl, rfl, rfl⟩ rfl rfl rfl ?_
      | refine sp_store rfl rfl rfl rfl rfl rfl rfl rfl rfl rfl ?_ | refine sp_box rfl rfl rfl rfl rfl ?_ | refine sp_alloc rfl rfl ?_ | refine sp_build rfl rfl ?_ | refine sp_bslice rfl rfl rfl rfl rfl ?_)
    | (refine g_ops ?_; first | refine eo_none ?_ | refine eo_nil ?_)
    | (refine g_code ?_; first | refine ec_seq ?_ | refine ec_region ?_ | refine ec_block ?_)
    | refine ek_seqN ?_ | refine ek_seqX ?_ | refine ek_seqR ?_ | refine ek_blkN ?_ | refine ek_blkR ?_ | refine ek_blkX ?_ | refine ek_blkY rfl ?_)
  refine sfin (.inr rfl) (by rfl) (by rfl) (by exact ⟨rfl, rfl, rfl⟩) (by rfl) (by rfl) (by rfl) (by first | rfl | (simp; done) | (simp [ints, prs]; done))

end Go.Proofs.Ytdmpajkcpdjfbaa
