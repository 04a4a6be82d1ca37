/- What each function that the statement reaches returns. -/
import Derived.Test.YtdmpajkcpdjfbaaFnExactNeededOfTC
set_option linter.unusedVariables false
set_option linter.unusedSimpArgs false
set_option maxRecDepth 100000
set_option maxHeartbeats 4000000
namespace Go.Proofs.Ytdmpajkcpdjfbaa
open Go Go.Proofs.Ytdmpajkcpdjfbaa.Mi
attribute [local irreducible] code opsK opsDK gopK opK seqK blockK callK binV
attribute [local irreducible] R2 bt
theorem lpez0 (n : Nat) (hn : n ≤ 3) (o : Out) (ho : (match selm (fun _ => true) (idn) (R2 (R2 n)) with | [] => (⟨.exit 0, [(0, .emp), (1, .int .i64 (n : Nat)), (5, .emp)], []⟩ : Out) | x :: xs => ⟨.exit 0, [(0, .emp), (1, .int .i64 (n : Nat)), (5, .sl 0 0 (x :: xs).length)], [⟨zints <| mneg (x :: xs), 1, 0, some 0, false⟩]⟩) = o) :
    LpS cx 70 0 m83_0 [(0, .emp), (1, .int .i64 (n : Nat)), (5, .emp), (6, .int .i64 (0 : Nat))] [] o.x o.e o.h := by
  obtain ⟨h1, h2, h3, h4⟩ := shN (n := n) (by omega)
  subst ho
  refine lp_st (R2 (R2 n)) (selm (fun _ => true) (idn)) (fun i s => match s with | [] => [(0, .emp), (1, .int .i64 (n : Nat)), (5, .emp), (6, .int .i64 (i : Nat))] | x :: xs => [(0, .emp), (1, .int .i64 (n : Nat)), (5, .sl 0 0 (x :: xs).length), (6, .int .i64 (i : Nat))]) (fun i s => match s with | [] => [] | x :: xs => [⟨zints <| mneg (x :: xs), 1, 0, some 0, false⟩]) (fun s => match s with | [] => ⟨.exit 0, [(0, .emp), (1, .int .i64 (n : Nat)), (5, .emp)], []⟩ | x :: xs => ⟨.exit 0, [(0, .emp), (1, .int .i64 (n : Nat)), (5, .sl 0 0 (x :: xs).length)], [⟨zints <| mneg (x :: xs), 1, 0, some 0, false⟩]⟩) ?_ ?_ (R2 (R2 n)) 0 (by omega)
  · intro i s hi hs
    have hlt : decide ((i : Int) < (R2 (R2 n) : Nat)) = true := decide_eq_true (by omega)
    have hle : decide ((i : Int) ≤ (R2 (R2 n) : Nat) - 1) = true := decide_eq_true (by omega)
    have hlen : s.length ≤ 65536 := by have := selm_len (fun _ => true) (idn) i; rw [hs] at this; omega
    have hp : (fun _ => true) i = true := rfl
    cases s with
    | nil =>
      refine ⟨[(idn) i], by rw [selm_t (p := fun _ => true) hp, hs]; try rfl, ?_⟩
      unfold m83_0
      repeat' (first
        | refine sp_push rfl rfl rfl rfl rfl rfl rfl (mneg_len _) (by omega) (Nat.zero_le _) rfl rfl rfl rfl rfl ?_
        | (refine g_op ?_; first
          | refine ep_mov rfl ?_
          | refine ep_call0 rfl (by first | exact ev98 n (by omega)) rfl rfl ?_
          | refine sp_call rfl rfl rfl rfl (by first | exact ev98 n (by omega)) ⟨rfl, rfl, rfl, rfl⟩ rfl rfl rfl ?_
          | refine ep_bin rfl rfl (by first | exact b_add (by omega) (by omega) | exact b_sub (by omega) (by omega) | exact b_and (by omega) (by omega) | exact b_or (by omega) (by omega) | exact b_shr (by omega) | exact b_shl (by omega) (by omega) | exact b_lss | exact b_leq | exact b_gtr | exact b_geq | exact b_eql | exact b_neq) ?_
          | refine sp_bslice rfl rfl rfl rfl rfl ?_ | refine sp_push0 rfl (by first | exact .inl rfl | exact .inr rfl) rfl rfl rfl rfl rfl (by decide) rfl rfl rfl ?_ | refine sp_push rfl rfl rfl rfl rfl rfl rfl (by first | exact ints_len _ | exact prs_len _ _ | exact zints_len _) (by omega) (Nat.zero_le _) rfl rfl rfl rfl rfl ?_)
        | (refine g_ops ?_; first | refine eo_none ?_ | refine eo_nil ?_)
        | (refine g_code ?_; first | refine ec_seq ?_ | refine ec_region ?_ | refine ec_block ?_ | refine ec_skip ?_ | refine ec_exit ?_ | refine ec_condT rfl ?_ | refine ec_condF rfl ?_ | refine ec_condTH rfl (by assumption) ?_ | refine ec_condFH rfl (by assumption) ?_)
        | refine ek_seqN ?_ | refine ek_seqX ?_ | refine ek_blkN ?_ | refine ek_blkR ?_ | refine ek_blkX ?_ | refine ek_blkY rfl ?_)
      exact rnd_on (by rfl) (scmp2 (by rfl) (by rfl) (by exact ⟨rfl, rfl, rfl⟩) (by rfl) (by first | rfl | (simp; done) | (simp [ints, prs, zints, mneg]; done)) (by rfl) (by first | rfl | (simp; done) | (simp [ints, prs, zints, mneg]; done)))
    | cons x xs =>
      refine ⟨(x :: xs) ++ [(idn) i], by rw [selm_t (p := fun _ => true) hp, hs]; try rfl, ?_⟩
      unfold m83_0
      repeat' (first
        | refine sp_push rfl rfl rfl rfl rfl rfl rfl (mneg_len _) (by omega) (Nat.zero_le _) rfl rfl rfl rfl rfl ?_
        | (refine g_op ?_; first
          | refine ep_mov rfl ?_
          | refine ep_call0 rfl (by first | exact ev98 n (by omega)) rfl rfl ?_
          | refine sp_call rfl rfl rfl rfl (by first | exact ev98 n (by omega)) ⟨rfl, rfl, rfl, rfl⟩ rfl rfl rfl ?_
          | refine ep_bin rfl rfl (by first | exact b_add (by omega) (by omega) | exact b_sub (by omega) (by omega) | exact b_and (by omega) (by omega) | exact b_or (by omega) (by omega) | exact b_shr (by omega) | exact b_shl (by omega) (by omega) | exact b_lss | exact b_leq | exact b_gtr | exact b_geq | exact b_eql | exact b_neq) ?_
          | refine sp_bslice rfl rfl rfl rfl rfl ?_ | refine sp_push0 rfl (by first | exact .inl rfl | exact .inr rfl) rfl rfl rfl rfl rfl (by decide) rfl rfl rfl ?_ | refine sp_push rfl rfl rfl rfl rfl rfl rfl (by first | exact ints_len _ | exact prs_len _ _ | exact zints_len _) (by omega) (Nat.zero_le _) rfl rfl rfl rfl rfl ?_)
        | (refine g_ops ?_; first | refine eo_none ?_ | refine eo_nil ?_)
        | (refine g_code ?_; first | refine ec_seq ?_ | refine ec_region ?_ | refine ec_block ?_ | refine ec_skip ?_ | refine ec_exit ?_ | refine ec_condT rfl ?_ | refine ec_condF rfl ?_ | refine ec_condTH rfl (by assumption) ?_ | refine ec_condFH rfl (by assumption) ?_)
        | refine ek_seqN ?_ | refine ek_seqX ?_ | refine ek_blkN ?_ | refine ek_blkR ?_ | refine ek_blkX ?_ | refine ek_blkY rfl ?_)
      exact rnd_on (by rfl) (scmp2 (by rfl) (by rfl) (by exact ⟨rfl, rfl, rfl⟩) (by rfl) (by first | rfl | (simp; done) | (simp [ints, prs, zints, mneg]; done)) (by rfl) (by first | rfl | (simp; done) | (simp [ints, prs, zints, mneg]; done)))
  · intro s hs
    have hlt : decide (((R2 (R2 n) : Nat) : Int) < (R2 (R2 n) : Nat)) = false := decide_eq_false (by omega)
    have hle : decide (((R2 (R2 n) : Nat) : Int) ≤ (R2 (R2 n) : Nat) - 1) = false := decide_eq_false (by omega)
    cases s with
    | nil =>
      unfold m83_0
      repeat' (first
        | (refine g_op ?_; first
          | refine ep_mov rfl ?_
          | refine ep_call0 rfl (by first | exact ev98 n (by omega)) rfl rfl ?_
          | refine sp_call rfl rfl rfl rfl (by first | exact ev98 n (by omega)) ⟨rfl, rfl, rfl, rfl⟩ rfl rfl rfl ?_
          | refine ep_bin rfl rfl (by first | exact b_add (by omega) (by omega) | exact b_sub (by omega) (by omega) | exact b_and (by omega) (by omega) | exact b_or (by omega) (by omega) | exact b_shr (by omega) | exact b_shl (by omega) (by omega) | exact b_lss | exact b_leq | exact b_gtr | exact b_geq | exact b_eql | exact b_neq) ?_
          | refine sp_bslice rfl rfl rfl rfl rfl ?_ | refine sp_push0 rfl (by first | exact .inl rfl | exact .inr rfl) rfl rfl rfl rfl rfl (by decide) rfl rfl rfl ?_ | refine sp_push rfl rfl rfl rfl rfl rfl rfl (by first | exact ints_len _ | exact prs_len _ _ | exact zints_len _) (by omega) (Nat.zero_le _) rfl rfl rfl rfl rfl ?_)
        | (refine g_ops ?_; first | refine eo_none ?_ | refine eo_nil ?_)
        | (refine g_code ?_; first | refine ec_seq ?_ | refine ec_region ?_ | refine ec_block ?_ | refine ec_skip ?_ | refine ec_exit ?_ | refine ec_condT rfl ?_ | refine ec_condF rfl ?_ | refine ec_condTH rfl (by assumption) ?_ | refine ec_condFH rfl (by assumption) ?_)
        | refine ek_seqN ?_ | refine ek_seqX ?_ | refine ek_blkN ?_ | refine ek_blkR ?_ | refine ek_blkX ?_ | refine ek_blkY rfl ?_)
      exact rnd_out (by rfl) (by simp) (scmp2 (by rfl) (by rfl) (by exact ⟨rfl, rfl, rfl⟩) (by rfl) (by first | rfl | (simp; done) | (simp [ints, prs]; done)) (by rfl) (by first | rfl | (simp; done) | (simp [ints, prs]; done)))
    | cons x xs =>
      unfold m83_0
      repeat' (first
        | (refine g_op ?_; first
          | refine ep_mov rfl ?_
          | refine ep_call0 rfl (by first | exact ev98 n (by omega)) rfl rfl ?_
          | refine sp_call rfl rfl rfl rfl (by first | exact ev98 n (by omega)) ⟨rfl, rfl, rfl, rfl⟩ rfl rfl rfl ?_
          | refine ep_bin rfl rfl (by first | exact b_add (by omega) (by omega) | exact b_sub (by omega) (by omega) | exact b_and (by omega) (by omega) | exact b_or (by omega) (by omega) | exact b_shr (by omega) | exact b_shl (by omega) (by omega) | exact b_lss | exact b_leq | exact b_gtr | exact b_geq | exact b_eql | exact b_neq) ?_
          | refine sp_bslice rfl rfl rfl rfl rfl ?_ | refine sp_push0 rfl (by first | exact .inl rfl | exact .inr rfl) rfl rfl rfl rfl rfl (by decide) rfl rfl rfl ?_ | refine sp_push rfl rfl rfl rfl rfl rfl rfl (by first | exact ints_len _ | exact prs_len _ _ | exact zints_len _) (by omega) (Nat.zero_le _) rfl rfl rfl rfl rfl ?_)
        | (refine g_ops ?_; first | refine eo_none ?_ | refine eo_nil ?_)
        | (refine g_code ?_; first | refine ec_seq ?_ | refine ec_region ?_ | refine ec_block ?_ | refine ec_skip ?_ | refine ec_exit ?_ | refine ec_condT rfl ?_ | refine ec_condF rfl ?_ | refine ec_condTH rfl (by assumption) ?_ | refine ec_condFH rfl (by assumption) ?_)
        | refine ek_seqN ?_ | refine ek_seqX ?_ | refine ek_blkN ?_ | refine ek_blkR ?_ | refine ek_blkX ?_ | refine ek_blkY rfl ?_)
      exact rnd_out (by rfl) (by simp) (scmp2 (by rfl) (by rfl) (by exact ⟨rfl, rfl, rfl⟩) (by rfl) (by first | rfl | (simp; done) | (simp [ints, prs]; done)) (by rfl) (by first | rfl | (simp; done) | (simp [ints, prs]; done)))

theorem lpez1 (n N : Nat) (hNn : N = R2 (R2 n)) (hn : n ≤ 3) :
    LpS cx 70 0 m83_1 [(0, .emp), (1, .int .i64 (n : Nat)), (5, .sl 0 0 N), (7, .int .i64 (0 : Nat))] [⟨zints (D0 n (0)), 1, 0, some 0, false⟩] (⟨.exit 2, [(0, .emp), (1, .int .i64 (n : Nat)), (5, .sl 0 0 N)], [⟨zints (D0 n (n)), 1, 0, some 0, false⟩]⟩ : Out).x (⟨.exit 2, [(0, .emp), (1, .int .i64 (n : Nat)), (5, .sl 0 0 N)], [⟨zints (D0 n (n)), 1, 0, some 0, false⟩]⟩ : Out).e (⟨.exit 2, [(0, .emp), (1, .int .i64 (n : Nat)), (5, .sl 0 0 N)], [⟨zints (D0 n (n)), 1, 0, some 0, false⟩]⟩ : Out).h := by
  refine lp_st (n) (fun _ => ()) (fun i _ => [(0, .emp), (1, .int .i64 (n : Nat)), (5, .sl 0 0 N), (7, .int .i64 (i : Nat))]) (fun i _ => [⟨zints (D0 n (i)), 1, 0, some 0, false⟩]) (fun _ => (⟨.exit 2, [(0, .emp), (1, .int .i64 (n : Nat)), (5, .sl 0 0 N)], [⟨zints (D0 n (n)), 1, 0, some 0, false⟩]⟩ : Out)) ?_ ?_ (n) 0 (by omega)
  · intro i u_ hi hu_
    refine ⟨(), rfl, ?_⟩
    have hlt : decide ((i : Int) < (n : Nat)) = true := decide_eq_true (by omega)
    have hp := projB_lt n i
    have hl := D0_len n i
    have hset := zints_set (D := D0 n i) (b := projB n i) (d := 0) (by omega)
    rw [← D0_s] at hset
    have hzl := zints_len (D0 n i)
    unfold m83_1
    repeat' (first
      | refine sp_storeS rfl rfl rfl rfl rfl rfl rfl (Nat.zero_le _) (by omega) hset rfl ?_
      | (refine g_op ?_; first
        | refine ep_mov rfl ?_
        | refine ep_call0 rfl (by first | exact evpjS n i (by omega) (by omega)) rfl rfl ?_
        | refine sp_call rfl rfl rfl rfl (by first | exact evpjS n i (by omega) (by omega)) ⟨rfl, rfl, rfl, rfl⟩ rfl rfl rfl ?_
        | refine ep_bin rfl rfl (by first | exact b_add (by omega) (by omega) | exact b_sub (by omega) (by omega) | exact b_and (by omega) (by omega) | exact b_or (by omega) (by omega) | exact b_shr (by omega) | exact b_shl (by omega) (by omega) | exact b_lss | exact b_leq | exact b_gtr | exact b_geq | exact b_eql | exact b_neq) ?_
        | refine sp_store rfl rfl rfl rfl rfl rfl rfl rfl rfl rfl ?_ | refine ep_field1 rfl rfl ?_ | refine sp_idx rfl rfl rfl (by omega) rfl ?_)
      | (refine g_ops ?_; first | refine eo_none ?_ | refine eo_nil ?_)
      | (refine g_code ?_; first | refine ec_seq ?_ | refine ec_region ?_ | refine ec_block ?_ | refine ec_skip ?_ | refine ec_exit ?_ | refine ec_condT rfl ?_ | refine ec_condF rfl ?_ | refine ec_condTH rfl (by assumption) ?_ | refine ec_condFH rfl (by assumption) ?_)
      | refine ek_seqN ?_ | refine ek_seqX ?_ | refine ek_blkN ?_ | refine ek_blkR ?_ | refine ek_blkX ?_ | refine ek_blkY rfl ?_)
    exact rnd_on (by rfl) (scmp2 (by rfl) (by rfl) (by exact ⟨rfl, rfl, rfl⟩) (by rfl) (by first | rfl | (simp; done) | (simp [ints, prs]; done)) (by rfl) (by first | rfl | (simp; done) | (simp [ints, prs]; done)))
  · intro u_ hu_
    have hlt : decide (((n : Nat) : Int) < (n : Nat)) = false := decide_eq_false (by omega)
    unfold m83_1
    repeat' (first
      | (refine g_op ?_; first
        | refine ep_mov rfl ?_
        | refine ep_bin rfl rfl (by first | exact b_add (by omega) (by omega) | exact b_sub (by omega) (by omega) | exact b_and (by omega) (by omega) | exact b_or (by omega) (by omega) | exact b_shr (by omega) | exact b_shl (by omega) (by omega) | exact b_lss | exact b_leq | exact b_gtr | exact b_geq | exact b_eql | exact b_neq) ?_
        | refine sp_store rfl rfl rfl rfl rfl rfl rfl rfl rfl rfl ?_ | refine ep_field1 rfl rfl ?_ | refine sp_idx rfl rfl rfl (by omega) rfl ?_)
      | (refine g_ops ?_; first | refine eo_none ?_ | refine eo_nil ?_)
      | (refine g_code ?_; first | refine ec_seq ?_ | refine ec_region ?_ | refine ec_block ?_ | refine ec_skip ?_ | refine ec_exit ?_ | refine ec_condT rfl ?_ | refine ec_condF rfl ?_ | refine ec_condTH rfl (by assumption) ?_ | refine ec_condFH rfl (by assumption) ?_)
      | refine ek_seqN ?_ | refine ek_seqX ?_ | refine ek_blkN ?_ | refine ek_blkR ?_ | refine ek_blkX ?_ | refine ek_blkY rfl ?_)
    exact rnd_out (by rfl) (by simp) (scmp2 (by rfl) (by rfl) (by exact ⟨rfl, rfl, rfl⟩) (by rfl) (by first | rfl | (simp; done) | (simp [ints, prs]; done)) (by rfl) (by first | rfl | (simp; done) | (simp [ints, prs]; done)))

theorem lpez3 (n N d : Nat) (D : List Int) (hNn : N = R2 (R2 n)) (hn : n ≤ 3) (hN : D.length = N) (o : Out) (ho : (match selm (fun b => decide (D.getD b 0 ≥ 0)) (idn) (R2 (R2 n)) with | [] => (⟨.exit 6, [(0, .emp), (1, .int .i64 (n : Nat)), (5, .sl 0 0 N), (8, .bool false), (9, .int .i64 (d : Nat)), (10, .emp)], [⟨zints D, 1, 0, some 0, false⟩]⟩ : Out) | x :: xs => ⟨.exit 6, [(0, .emp), (1, .int .i64 (n : Nat)), (5, .sl 0 0 N), (8, .bool false), (9, .int .i64 (d : Nat)), (10, .sl 1 0 (x :: xs).length)], [⟨zints D, 1, 0, some 0, false⟩, ⟨ints (x :: xs), 1, 1, some 0, false⟩]⟩) = o) :
    LpS cx 70 0 m83_3 [(0, .emp), (1, .int .i64 (n : Nat)), (5, .sl 0 0 N), (8, .bool false), (9, .int .i64 (d : Nat)), (10, .emp), (11, .int .i64 (0 : Nat))] [⟨zints D, 1, 0, some 0, false⟩] o.x o.e o.h := by
  obtain ⟨h1, h2, h3, h4⟩ := shN (n := n) (by omega)
  subst ho
  refine lp_st (R2 (R2 n)) (selm (fun b => decide (D.getD b 0 ≥ 0)) (idn)) (fun i s => match s with | [] => [(0, .emp), (1, .int .i64 (n : Nat)), (5, .sl 0 0 N), (8, .bool false), (9, .int .i64 (d : Nat)), (10, .emp), (11, .int .i64 (i : Nat))] | x :: xs => [(0, .emp), (1, .int .i64 (n : Nat)), (5, .sl 0 0 N), (8, .bool false), (9, .int .i64 (d : Nat)), (10, .sl 1 0 (x :: xs).length), (11, .int .i64 (i : Nat))]) (fun i s => match s with | [] => [⟨zints D, 1, 0, some 0, false⟩] | x :: xs => [⟨zints D, 1, 0, some 0, false⟩, ⟨ints (x :: xs), 1, 1, some 0, false⟩]) (fun s => match s with | [] => ⟨.exit 6, [(0, .emp), (1, .int .i64 (n : Nat)), (5, .sl 0 0 N), (8, .bool false), (9, .int .i64 (d : Nat)), (10, .emp)], [⟨zints D, 1, 0, some 0, false⟩]⟩ | x :: xs => ⟨.exit 6, [(0, .emp), (1, .int .i64 (n : Nat)), (5, .sl 0 0 N), (8, .bool false), (9, .int .i64 (d : Nat)), (10, .sl 1 0 (x :: xs).length)], [⟨zints D, 1, 0, some 0, false⟩, ⟨ints (x :: xs), 1, 1, some 0, false⟩]⟩) ?_ ?_ (R2 (R2 n)) 0 (by omega)
  · intro i s hi hs
    have hlt : decide ((i : Int) < (R2 (R2 n) : Nat)) = true := decide_eq_true (by omega)
    have hle : decide ((i : Int) ≤ (R2 (R2 n) : Nat) - 1) = true := decide_eq_true (by omega)
    have hlen : s.length ≤ 65536 := by have := selm_len (fun b => decide (D.getD b 0 ≥ 0)) (idn) i; rw [hs] at this; omega
    have hget := zints_get (l := D) (j := i) (by omega)
    cases hp : (fun b => decide (D.getD b 0 ≥ 0)) i with
    | true =>
      have hp' : (decide (D.getD i 0 ≥ 0)) = true := hp
      cases s with
      | nil =>
        refine ⟨[(idn) i], by rw [selm_t (p := fun b => decide (D.getD b 0 ≥ 0)) hp, hs]; try rfl, ?_⟩
        unfold m83_3
        repeat' (first
          | refine ep_loadS rfl rfl rfl hget ?_
          | (refine g_op ?_; first
            | refine ep_mov rfl ?_ | refine ep_load1 rfl rfl rfl rfl ?_
            | refine ep_call0 rfl (by first | exact ev98 n (by omega)) rfl rfl ?_
            | refine sp_call rfl rfl rfl rfl (by first | exact ev98 n (by omega)) ⟨rfl, rfl, rfl, rfl⟩ rfl rfl rfl ?_
            | refine ep_bin rfl rfl (by first | exact b_add (by omega) (by omega) | exact b_sub (by omega) (by omega) | exact b_and (by omega) (by omega) | exact b_or (by omega) (by omega) | exact b_shr (by omega) | exact b_shl (by omega) (by omega) | exact b_lss | exact b_leq | exact b_gtr | exact b_geq | exact b_eql | exact b_neq) ?_
            | refine sp_bslice rfl rfl rfl rfl rfl ?_ | refine sp_push0 rfl (by first | exact .inl rfl | exact .inr rfl) rfl rfl rfl rfl rfl (by decide) rfl rfl rfl ?_ | refine sp_push rfl rfl rfl rfl rfl rfl rfl (by first | exact ints_len _ | exact prs_len _ _ | exact zints_len _) (by omega) (Nat.zero_le _) rfl rfl rfl rfl rfl ?_
            | refine sp_idx rfl rfl rfl (by omega) rfl ?_ | refine ep_loadS rfl rfl rfl (by first | exact ints_get (by omega) | exact zints_get (by omega) | exact fget (by omega) | assumption) ?_)
          | (refine g_ops ?_; first | refine eo_none ?_ | refine eo_nil ?_)
          | (refine g_code ?_; first | refine ec_seq ?_ | refine ec_region ?_ | refine ec_block ?_ | refine ec_skip ?_ | refine ec_exit ?_ | refine ec_condT rfl ?_ | refine ec_condF rfl ?_ | refine ec_condTH rfl (by assumption) ?_ | refine ec_condFH rfl (by assumption) ?_)
          | refine ek_seqN ?_ | refine ek_seqX ?_ | refine ek_blkN ?_ | refine ek_blkR ?_ | refine ek_blkX ?_ | refine ek_blkY rfl ?_)
        exact rnd_on (by rfl) (scmp2 (by rfl) (by rfl) (by exact ⟨rfl, rfl, rfl⟩) (by rfl) (by first | rfl | (simp; done) | (simp [ints, prs]; done)) (by rfl) (by first | rfl | (simp; done) | (simp [ints, prs]; done)))
      | cons x xs =>
        refine ⟨(x :: xs) ++ [(idn) i], by rw [selm_t (p := fun b => decide (D.getD b 0 ≥ 0)) hp, hs]; try rfl, ?_⟩
        unfold m83_3
        repeat' (first
          | refine ep_loadS rfl rfl rfl hget ?_
          | (refine g_op ?_; first
            | refine ep_mov rfl ?_ | refine ep_load1 rfl rfl rfl rfl ?_
            | refine ep_call0 rfl (by first | exact ev98 n (by omega)) rfl rfl ?_
            | refine sp_call rfl rfl rfl rfl (by first | exact ev98 n (by omega)) ⟨rfl, rfl, rfl, rfl⟩ rfl rfl rfl ?_
            | refine ep_bin rfl rfl (by first | exact b_add (by omega) (by omega) | exact b_sub (by omega) (by omega) | exact b_and (by omega) (by omega) | exact b_or (by omega) (by omega) | exact b_shr (by omega) | exact b_shl (by omega) (by omega) | exact b_lss | exact b_leq | exact b_gtr | exact b_geq | exact b_eql | exact b_neq) ?_
            | refine sp_bslice rfl rfl rfl rfl rfl ?_ | refine sp_push0 rfl (by first | exact .inl rfl | exact .inr rfl) rfl rfl rfl rfl rfl (by decide) rfl rfl rfl ?_ | refine sp_push rfl rfl rfl rfl rfl rfl rfl (by first | exact ints_len _ | exact prs_len _ _ | exact zints_len _) (by omega) (Nat.zero_le _) rfl rfl rfl rfl rfl ?_
            | refine sp_idx rfl rfl rfl (by omega) rfl ?_ | refine ep_loadS rfl rfl rfl (by first | exact ints_get (by omega) | exact zints_get (by omega) | exact fget (by omega) | assumption) ?_)
          | (refine g_ops ?_; first | refine eo_none ?_ | refine eo_nil ?_)
          | (refine g_code ?_; first | refine ec_seq ?_ | refine ec_region ?_ | refine ec_block ?_ | refine ec_skip ?_ | refine ec_exit ?_ | refine ec_condT rfl ?_ | refine ec_condF rfl ?_ | refine ec_condTH rfl (by assumption) ?_ | refine ec_condFH rfl (by assumption) ?_)
          | refine ek_seqN ?_ | refine ek_seqX ?_ | refine ek_blkN ?_ | refine ek_blkR ?_ | refine ek_blkX ?_ | refine ek_blkY rfl ?_)
        exact rnd_on (by rfl) (scmp2 (by rfl) (by rfl) (by exact ⟨rfl, rfl, rfl⟩) (by rfl) (by first | rfl | (simp; done) | (simp [ints, prs]; done)) (by rfl) (by first | rfl | (simp; done) | (simp [ints, prs]; done)))
    | false =>
      have hp' : (decide (D.getD i 0 ≥ 0)) = false := hp
      cases s with
      | nil =>
        refine ⟨[], by rw [selm_f (p := fun b => decide (D.getD b 0 ≥ 0)) hp, hs]; try rfl, ?_⟩
        unfold m83_3
        repeat' (first
          | refine ep_loadS rfl rfl rfl hget ?_
          | (refine g_op ?_; first
            | refine ep_mov rfl ?_ | refine ep_load1 rfl rfl rfl rfl ?_
            | refine ep_call0 rfl (by first | exact ev98 n (by omega)) rfl rfl ?_
            | refine sp_call rfl rfl rfl rfl (by first | exact ev98 n (by omega)) ⟨rfl, rfl, rfl, rfl⟩ rfl rfl rfl ?_
            | refine ep_bin rfl rfl (by first | exact b_add (by omega) (by omega) | exact b_sub (by omega) (by omega) | exact b_and (by omega) (by omega) | exact b_or (by omega) (by omega) | exact b_shr (by omega) | exact b_shl (by omega) (by omega) | exact b_lss | exact b_leq | exact b_gtr | exact b_geq | exact b_eql | exact b_neq) ?_
            | refine sp_bslice rfl rfl rfl rfl rfl ?_ | refine sp_push0 rfl (by first | exact .inl rfl | exact .inr rfl) rfl rfl rfl rfl rfl (by decide) rfl rfl rfl ?_ | refine sp_push rfl rfl rfl rfl rfl rfl rfl (by first | exact ints_len _ | exact prs_len _ _ | exact zints_len _) (by omega) (Nat.zero_le _) rfl rfl rfl rfl rfl ?_
            | refine sp_idx rfl rfl rfl (by omega) rfl ?_ | refine ep_loadS rfl rfl rfl (by first | exact ints_get (by omega) | exact zints_get (by omega) | exact fget (by omega) | assumption) ?_)
          | (refine g_ops ?_; first | refine eo_none ?_ | refine eo_nil ?_)
          | (refine g_code ?_; first | refine ec_seq ?_ | refine ec_region ?_ | refine ec_block ?_ | refine ec_skip ?_ | refine ec_exit ?_ | refine ec_condT rfl ?_ | refine ec_condF rfl ?_ | refine ec_condTH rfl (by assumption) ?_ | refine ec_condFH rfl (by assumption) ?_)
          | refine ek_seqN ?_ | refine ek_seqX ?_ | refine ek_blkN ?_ | refine ek_blkR ?_ | refine ek_blkX ?_ | refine ek_blkY rfl ?_)
        exact rnd_on (by rfl) (scmp2 (by rfl) (by rfl) (by exact ⟨rfl, rfl, rfl⟩) (by rfl) (by first | rfl | (simp; done) | (simp [ints, prs]; done)) (by rfl) (by first | rfl | (simp; done) | (simp [ints, prs]; done)))
      | cons x xs =>
        refine ⟨x :: xs, by rw [selm_f (p := fun b => decide (D.getD b 0 ≥ 0)) hp, hs]; try rfl, ?_⟩
        unfold m83_3
        repeat' (first
          | refine ep_loadS rfl rfl rfl hget ?_
          | (refine g_op ?_; first
            | refine ep_mov rfl ?_ | refine ep_load1 rfl rfl rfl rfl ?_
            | refine ep_call0 rfl (by first | exact ev98 n (by omega)) rfl rfl ?_
            | refine sp_call rfl rfl rfl rfl (by first | exact ev98 n (by omega)) ⟨rfl, rfl, rfl, rfl⟩ rfl rfl rfl ?_
            | refine ep_bin rfl rfl (by first | exact b_add (by omega) (by omega) | exact b_sub (by omega) (by omega) | exact b_and (by omega) (by omega) | exact b_or (by omega) (by omega) | exact b_shr (by omega) | exact b_shl (by omega) (by omega) | exact b_lss | exact b_leq | exact b_gtr | exact b_geq | exact b_eql | exact b_neq) ?_
            | refine sp_bslice rfl rfl rfl rfl rfl ?_ | refine sp_push0 rfl (by first | exact .inl rfl | exact .inr rfl) rfl rfl rfl rfl rfl (by decide) rfl rfl rfl ?_ | refine sp_push rfl rfl rfl rfl rfl rfl rfl (by first | exact ints_len _ | exact prs_len _ _ | exact zints_len _) (by omega) (Nat.zero_le _) rfl rfl rfl rfl rfl ?_
            | refine sp_idx rfl rfl rfl (by omega) rfl ?_ | refine ep_loadS rfl rfl rfl (by first | exact ints_get (by omega) | exact zints_get (by omega) | exact fget (by omega) | assumption) ?_)
          | (refine g_ops ?_; first | refine eo_none ?_ | refine eo_nil ?_)
          | (refine g_code ?_; first | refine ec_seq ?_ | refine ec_region ?_ | refine ec_block ?_ | refine ec_skip ?_ | refine ec_exit ?_ | refine ec_condT rfl ?_ | refine ec_condF rfl ?_ | refine ec_condTH rfl (by assumption) ?_ | refine ec_condFH rfl (by assumption) ?_)
          | refine ek_seqN ?_ | refine ek_seqX ?_ | refine ek_blkN ?_ | refine ek_blkR ?_ | refine ek_blkX ?_ | refine ek_blkY rfl ?_)
        exact rnd_on (by rfl) (scmp2 (by rfl) (by rfl) (by exact ⟨rfl, rfl, rfl⟩) (by rfl) (by first | rfl | (simp; done) | (simp [ints, prs]; done)) (by rfl) (by first | rfl | (simp; done) | (simp [ints, prs]; done)))
  · intro s hs
    have hlt : decide (((R2 (R2 n) : Nat) : Int) < (R2 (R2 n) : Nat)) = false := decide_eq_false (by omega)
    have hle : decide (((R2 (R2 n) : Nat) : Int) ≤ (R2 (R2 n) : Nat) - 1) = false := decide_eq_false (by omega)
    cases s with
    | nil =>
      unfold m83_3
      repeat' (first
        | (refine g_op ?_; first
          | refine ep_mov rfl ?_ | refine ep_load1 rfl rfl rfl rfl ?_
          | refine ep_call0 rfl (by first | exact ev98 n (by omega)) rfl rfl ?_
          | refine sp_call rfl rfl rfl rfl (by first | exact ev98 n (by omega)) ⟨rfl, rfl, rfl, rfl⟩ rfl rfl rfl ?_
          | refine ep_bin rfl rfl (by first | exact b_add (by omega) (by omega) | exact b_sub (by omega) (by omega) | exact b_and (by omega) (by omega) | exact b_or (by omega) (by omega) | exact b_shr (by omega) | exact b_shl (by omega) (by omega) | exact b_lss | exact b_leq | exact b_gtr | exact b_geq | exact b_eql | exact b_neq) ?_
          | refine sp_bslice rfl rfl rfl rfl rfl ?_ | refine sp_push0 rfl (by first | exact .inl rfl | exact .inr rfl) rfl rfl rfl rfl rfl (by decide) rfl rfl rfl ?_ | refine sp_push rfl rfl rfl rfl rfl rfl rfl (by first | exact ints_len _ | exact prs_len _ _ | exact zints_len _) (by omega) (Nat.zero_le _) rfl rfl rfl rfl rfl ?_
          | refine sp_idx rfl rfl rfl (by omega) rfl ?_ | refine ep_loadS rfl rfl rfl (by first | exact ints_get (by omega) | exact zints_get (by omega) | exact fget (by omega) | assumption) ?_)
        | (refine g_ops ?_; first | refine eo_none ?_ | refine eo_nil ?_)
        | (refine g_code ?_; first | refine ec_seq ?_ | refine ec_region ?_ | refine ec_block ?_ | refine ec_skip ?_ | refine ec_exit ?_ | refine ec_condT rfl ?_ | refine ec_condF rfl ?_ | refine ec_condTH rfl (by assumption) ?_ | refine ec_condFH rfl (by assumption) ?_)
        | refine ek_seqN ?_ | refine ek_seqX ?_ | refine ek_blkN ?_ | refine ek_blkR ?_ | refine ek_blkX ?_ | refine ek_blkY rfl ?_)
      exact rnd_out (by rfl) (by simp) (scmp2 (by rfl) (by rfl) (by exact ⟨rfl, rfl, rfl⟩) (by rfl) (by first | rfl | (simp; done) | (simp [ints, prs]; done)) (by rfl) (by first | rfl | (simp; done) | (simp [ints, prs]; done)))
    | cons x xs =>
      unfold m83_3
      repeat' (first
        | (refine g_op ?_; first
          | refine ep_mov rfl ?_ | refine ep_load1 rfl rfl rfl rfl ?_
          | refine ep_call0 rfl (by first | exact ev98 n (by omega)) rfl rfl ?_
          | refine sp_call rfl rfl rfl rfl (by first | exact ev98 n (by omega)) ⟨rfl, rfl, rfl, rfl⟩ rfl rfl rfl ?_
          | refine ep_bin rfl rfl (by first | exact b_add (by omega) (by omega) | exact b_sub (by omega) (by omega) | exact b_and (by omega) (by omega) | exact b_or (by omega) (by omega) | exact b_shr (by omega) | exact b_shl (by omega) (by omega) | exact b_lss | exact b_leq | exact b_gtr | exact b_geq | exact b_eql | exact b_neq) ?_
          | refine sp_bslice rfl rfl rfl rfl rfl ?_ | refine sp_push0 rfl (by first | exact .inl rfl | exact .inr rfl) rfl rfl rfl rfl rfl (by decide) rfl rfl rfl ?_ | refine sp_push rfl rfl rfl rfl rfl rfl rfl (by first | exact ints_len _ | exact prs_len _ _ | exact zints_len _) (by omega) (Nat.zero_le _) rfl rfl rfl rfl rfl ?_
          | refine sp_idx rfl rfl rfl (by omega) rfl ?_ | refine ep_loadS rfl rfl rfl (by first | exact ints_get (by omega) | exact zints_get (by omega) | exact fget (by omega) | assumption) ?_)
        | (refine g_ops ?_; first | refine eo_none ?_ | refine eo_nil ?_)
        | (refine g_code ?_; first | refine ec_seq ?_ | refine ec_region ?_ | refine ec_block ?_ | refine ec_skip ?_ | refine ec_exit ?_ | refine ec_condT rfl ?_ | refine ec_condF rfl ?_ | refine ec_condTH rfl (by assumption) ?_ | refine ec_condFH rfl (by assumption) ?_)
        | refine ek_seqN ?_ | refine ek_seqX ?_ | refine ek_blkN ?_ | refine ek_blkR ?_ | refine ek_blkX ?_ | refine ek_blkY rfl ?_)
      exact rnd_out (by rfl) (by simp) (scmp2 (by rfl) (by rfl) (by exact ⟨rfl, rfl, rfl⟩) (by rfl) (by first | rfl | (simp; done) | (simp [ints, prs]; done)) (by rfl) (by first | rfl | (simp; done) | (simp [ints, prs]; done)))

theorem lpez4 (n N d : Nat) (D : List Int) (L : List Nat) :
    LpS cx 70 0 m83_4 [(0, .emp), (1, .int .i64 (n : Nat)), (5, .sl 0 0 N), (8, .bool false), (9, .int .i64 (d : Nat)), (10, .sl 1 0 L.length), (12, .int .i64 (0 : Nat))] [⟨zints D, 1, 0, some 0, false⟩, ⟨ints L, 1, 1, some 0, false⟩] (⟨.exit 8, [(0, .emp), (1, .int .i64 (n : Nat)), (5, .sl 0 0 N), (8, .bool false), (9, .int .i64 (d : Nat))], [⟨zints D, 1, 0, some 0, false⟩]⟩ : Out).x (⟨.exit 8, [(0, .emp), (1, .int .i64 (n : Nat)), (5, .sl 0 0 N), (8, .bool false), (9, .int .i64 (d : Nat))], [⟨zints D, 1, 0, some 0, false⟩]⟩ : Out).e (⟨.exit 8, [(0, .emp), (1, .int .i64 (n : Nat)), (5, .sl 0 0 N), (8, .bool false), (9, .int .i64 (d : Nat))], [⟨zints D, 1, 0, some 0, false⟩]⟩ : Out).h := by
  refine lp_st (0) (fun _ => ()) (fun i _ => [(0, .emp), (1, .int .i64 (n : Nat)), (5, .sl 0 0 N), (8, .bool false), (9, .int .i64 (d : Nat)), (10, .sl 1 0 L.length), (12, .int .i64 (i : Nat))]) (fun i _ => [⟨zints D, 1, 0, some 0, false⟩, ⟨ints L, 1, 1, some 0, false⟩]) (fun _ => (⟨.exit 8, [(0, .emp), (1, .int .i64 (n : Nat)), (5, .sl 0 0 N), (8, .bool false), (9, .int .i64 (d : Nat))], [⟨zints D, 1, 0, some 0, false⟩]⟩ : Out)) ?_ ?_ (0) 0 (by omega)
  · intro i u_ hi hu_
    refine ⟨(), rfl, ?_⟩
    exact absurd hi (by simp)
  · intro u_ hu_
    have hlt : decide (((0 : Nat) : Int) < (0 : Nat)) = false := decide_eq_false (by omega)
    unfold m83_4
    repeat' (first
      | (refine g_op ?_; first
        | refine ep_mov rfl ?_ | refine sp_loadN rfl rfl rfl rfl rfl ?_
        | refine ep_bin rfl rfl (by first | exact b_add (by omega) (by omega) | exact b_sub (by omega) (by omega) | exact b_and (by omega) (by omega) | exact b_or (by omega) (by omega) | exact b_shr (by omega) | exact b_shl (by omega) (by omega) | exact b_lss | exact b_leq | exact b_gtr | exact b_geq | exact b_eql | exact b_neq) ?_
        | refine ep_lenS rfl ?_ | refine ep_lenN rfl ?_ | refine ep_lenE rfl ?_ | refine ep_empt ?_ | refine sp_idx rfl rfl rfl (by omega) rfl ?_ | refine ep_loadSN rfl rfl rfl (by first | exact prs_get (by omega) | exact fns_get (by omega)) ?_)
      | (refine g_ops ?_; first | refine eo_none ?_ | refine eo_nil ?_)
      | (refine g_code ?_; first | refine ec_seq ?_ | refine ec_region ?_ | refine ec_block ?_ | refine ec_skip ?_ | refine ec_exit ?_ | refine ec_condT rfl ?_ | refine ec_condF rfl ?_ | refine ec_condTH rfl (by assumption) ?_ | refine ec_condFH rfl (by assumption) ?_)
      | refine ek_seqN ?_ | refine ek_seqX ?_ | refine ek_blkN ?_ | refine ek_blkR ?_ | refine ek_blkX ?_ | refine ek_blkY rfl ?_)
    exact rnd_out (by rfl) (by simp) (scmp2 (by rfl) (by rfl) (by exact ⟨rfl, rfl, rfl⟩) (by rfl) (by first | rfl | (simp; done) | (simp [ints, prs]; done)) (by rfl) (by first | rfl | (simp; done) | (simp [ints, prs]; done)))

theorem lpez2f (n N d : Nat) (D : List Int) : LpS cx 70 0 m83_2 [(0, .emp), (1, .int .i64 (n : Nat)), (5, .sl 0 0 N), (8, .bool false), (9, .int .i64 (d : Nat))] [⟨zints D, 1, 0, some 0, false⟩] (⟨.exit 4, [(5, .sl 0 0 N)], [⟨zints D, 1, 0, some 0, false⟩]⟩ : Out).x (⟨.exit 4, [(5, .sl 0 0 N)], [⟨zints D, 1, 0, some 0, false⟩]⟩ : Out).e (⟨.exit 4, [(5, .sl 0 0 N)], [⟨zints D, 1, 0, some 0, false⟩]⟩ : Out).h := by
  refine round_out ?_
  unfold m83_2
  repeat' (first
    | (refine g_op ?_; first
      | refine ep_mov rfl ?_
      | refine ep_bin rfl rfl (by first | exact b_add (by omega) (by omega) | exact b_sub (by omega) (by omega) | exact b_and (by omega) (by omega) | exact b_or (by omega) (by omega) | exact b_shr (by omega) | exact b_shl (by omega) (by omega) | exact b_lss | exact b_leq | exact b_gtr | exact b_geq | exact b_eql | exact b_neq) ?_
      | refine ep_empt ?_)
    | (refine g_ops ?_; first | refine eo_none ?_ | refine eo_nil ?_)
    | (refine g_code ?_; first | refine ec_seq ?_ | refine ec_region ?_ | refine ec_block ?_ | refine ec_skip ?_ | refine ec_exit ?_ | refine ec_condT rfl ?_ | refine ec_condF rfl ?_ | refine ec_condTH rfl (by assumption) ?_ | refine ec_condFH rfl (by assumption) ?_)
    | refine ek_seqN ?_ | refine ek_seqX ?_ | refine ek_seqR ?_ | refine ek_blkN ?_ | refine ek_blkR ?_ | refine ek_blkX ?_ | refine ek_blkY rfl ?_)
  exact rnd_out (by rfl) (by simp) (scmp2 (by rfl) (by rfl) (by exact ⟨rfl, rfl, rfl⟩) (by rfl) (by first | rfl | (simp; done) | (simp [ints, prs]; done)) (by rfl) (by first | rfl | (simp; done) | (simp [ints, prs]; done)))
theorem lpez2 (n N d : Nat) (D : List Int) (hNn : N = R2 (R2 n)) (hn : n ≤ 3) (hN : D.length = N) (hz : ∃ c, c < N ∧ D.getD c 0 = 0) (hd : d < 65536) : LpS cx 70 0 m83_2 [(0, .emp), (1, .int .i64 (n : Nat)), (5, .sl 0 0 N), (8, .bool true), (9, .int .i64 (d : Nat))] [⟨zints D, 1, 0, some 0, false⟩] (⟨.exit 4, [(5, .sl 0 0 N)], [⟨zints D, 1, 0, some 0, false⟩]⟩ : Out).x (⟨.exit 4, [(5, .sl 0 0 N)], [⟨zints D, 1, 0, some 0, false⟩]⟩ : Out).e (⟨.exit 4, [(5, .sl 0 0 N)], [⟨zints D, 1, 0, some 0, false⟩]⟩ : Out).h := by
  obtain ⟨c, hc, h0⟩ := hz
  obtain ⟨q, hq, _⟩ := selm_mem (p := fun b => decide (D.getD b 0 ≥ 0)) (n := R2 (R2 n)) (x := c) (by omega) (by simp only [decide_eq_true_eq]; rw [h0]; omega)
  have lp3 := lpez3 n N d D hNn hn hN
  have hadd := b_addN (a := d) (b := 1) (by omega)
  cases hL : selm (fun b => decide (D.getD b 0 ≥ 0)) idn (R2 (R2 n)) with
  | nil => rw [hL] at hq; simp at hq
  | cons y ys =>
    have lp3 := lp3 _ (by rw [hL])
    have lp4 := lpez4 n N d D (y :: ys)
    refine round_on ?_ (lpez2f n N (d + 1) D)
    unfold m83_2
    repeat' (first
      | refine sc_loop lp3 rfl rfl ⟨rfl, rfl, rfl⟩ rfl rfl rfl ?_
      | refine sc_loop lp4 rfl rfl ⟨rfl, rfl, rfl⟩ rfl rfl rfl ?_
      | (refine g_op ?_; first
        | refine ep_mov rfl ?_
        | refine ep_bin rfl rfl (by first | exact hadd | exact b_add (by omega) (by omega) | exact b_sub (by omega) (by omega) | exact b_and (by omega) (by omega) | exact b_or (by omega) (by omega) | exact b_shr (by omega) | exact b_shl (by omega) (by omega) | exact b_lss | exact b_leq | exact b_gtr | exact b_geq | exact b_eql | exact b_neq) ?_
        | refine ep_empt ?_)
      | (refine g_ops ?_; first | refine eo_none ?_ | refine eo_nil ?_)
      | (refine g_code ?_; first | refine ec_seq ?_ | refine ec_region ?_ | refine ec_block ?_ | refine ec_skip ?_ | refine ec_exit ?_ | refine ec_condT rfl ?_ | refine ec_condF rfl ?_ | refine ec_condTH rfl (by assumption) ?_ | refine ec_condFH rfl (by assumption) ?_)
      | refine ek_seqN ?_ | refine ek_seqX ?_ | refine ek_seqR ?_ | refine ek_blkN ?_ | refine ek_blkR ?_ | refine ek_blkX ?_ | refine ek_blkY rfl ?_)
    exact rnd_on (by rfl) (scmp2 (by rfl) (by rfl) (by exact ⟨rfl, rfl, rfl⟩) (by rfl) (by first | rfl | (simp; done) | (simp [ints, prs]; done)) (by rfl) (by first | rfl | (simp; done) | (simp [ints, prs]; done)))
theorem evdpz (n : Nat) (hn1 : 1 ≤ n) (hn : n ≤ 3) : Ev cx 83 [.emp, .int .i64 (n : Nat)] [] (.sl 0 0 (R2 (R2 n))) [⟨zints (depL [] n), 1, 0, some 0, false⟩] := by
  obtain ⟨h1, h2, h3, h4⟩ := shN (n := n) (by omega)
  have sa := (selm_all (g := idn) (R2 (R2 n))).1
  have lp1 := lpez1 n (R2 (R2 n)) rfl hn
  rw [show D0 n 0 = List.replicate (R2 (R2 n)) (-1) from rfl] at lp1
  have hl := D0_len n n
  rw [depL_nil]
  have lp2 := lpez2 n (R2 (R2 n)) 1 (D0 n n) rfl hn hl ⟨projB n (n - 1), projB_lt n _, by
    obtain ⟨m, rfl⟩ : ∃ m, n = m + 1 := ⟨n - 1, by omega⟩
    rw [D0_s, getD_set, show m + 1 - 1 = m from rfl, if_pos ⟨rfl, by rw [D0_len]; exact projB_lt _ _⟩]⟩ (by omega)
  cases hs : selm (fun _ => true) idn (R2 (R2 n)) with
  | nil => rw [hs] at sa; simp at sa; omega
  | cons x xs =>
    rw [hs] at sa
    have lp0 := lpez0 n hn _ (by rw [hs])
    dsimp only at lp0
    rw [mneg_rep, sa] at lp0
    refine has83.eev rfl rfl ?_
    unfold m83
    repeat' (first
      | refine sc_loop lp0 rfl rfl ⟨rfl, rfl, rfl⟩ rfl rfl rfl ?_
      | refine sc_loop lp1 rfl rfl ⟨rfl, rfl, rfl⟩ rfl rfl rfl ?_
      | refine sc_loop lp2 rfl rfl ⟨rfl, rfl, rfl⟩ rfl rfl rfl ?_
      | (refine g_op ?_; first
        | refine ep_mov rfl ?_
        | refine ep_empt ?_)
      | (refine g_ops ?_; first | refine eo_none ?_ | refine eo_nil ?_)
      | (refine g_code ?_; first | refine ec_seq ?_ | refine ec_region ?_ | refine ec_block ?_ | refine ec_ret ?_)
      | refine ek_seqN ?_ | refine ek_seqX ?_ | refine ek_seqR ?_ | refine ek_blkN ?_ | refine ek_blkR ?_ | refine ek_blkX ?_ | refine ek_blkY rfl ?_)
    refine sfin (.inr rfl) (by rfl) (by rfl) (by exact ⟨rfl, rfl, rfl⟩) (by rfl) (by rfl) (by rfl) (by first | rfl | (simp; done) | (simp [ints, prs]; done))

def ndP (fs : List (Int × Int)) (n k : Nat) : Bool := decide (((kwS (R2 (R2 n)) (depL (wo fs k) n)).length : Int) < ((kwS (R2 (R2 n)) (depL fs n)).length : Nat))
def ndL (fs : List (Int × Int)) (z : Int) : List Nat := if gcode fs z = 0 then selm (ndP fs z.toNat) idn fs.length else []
abbrev ndC (fs : List (Int × Int)) (z : Int) : Int := gcode fs z
theorem ndL_len (fs : List (Int × Int)) (z : Int) : (ndL fs z).length ≤ 65536 := by
  unfold ndL
  split
  · rename_i h
    have hz := gcode_0 h
    have := selm_len (ndP fs z.toNat) idn fs.length
    omega
  · simp
theorem wo_nil {fs : List (Int × Int)} {k : Nat} (h1 : fs.length = 1) (hk : k = 0) : wo fs k = [] := by
  subst hk
  apply List.eq_nil_of_length_eq_zero; rw [wo_len (by omega)]; omega
theorem wo_allF {fs : List (Int × Int)} {k : Nat} (hk : k < fs.length) (hall : allFunc fs = true) : allFunc (wo fs k) = true := by
  unfold allFunc at hall ⊢
  rw [allF_iff] at hall ⊢
  intro j _ hj
  rw [wo_get hk]
  rw [wo_len hk] at hj
  split
  · exact hall j (Nat.zero_le _) (by omega)
  · exact hall (j + 1) (Nat.zero_le _) (by omega)
-- impl.NeededOf
def m50_0 : MC := (.seq (.region [⟨(.bin .lss (.t 24) (.t 23)), (some 25), none⟩] false) (.seq (.cond (.t 25) .skip (.exit 0)) (.seq (.block 1 (.seq (.region [⟨(.mov (.t 24)), (some 26), none⟩, ⟨(.mov (.t 26)), (some 9), none⟩] false) (.seq (.region [⟨(.mov (.t 0)), (some 27), none⟩, ⟨(.mov (.t 9)), (some 28), none⟩, ⟨(.call 91 [(.t 27), (.t 28)]), (some 29), none⟩, ⟨(.mov (.t 1)), (some 30), none⟩, ⟨(.call 88 [(.t 29), (.t 30)]), (some 31), none⟩, ⟨(.call 89 [(.t 31)]), (some 32), none⟩, ⟨(.len (.t 32)), (some 33), none⟩, ⟨(.mov (.t 7)), (some 34), none⟩, ⟨(.bin .lss (.t 33) (.t 34)), (some 35), none⟩] false) (.cond (.t 35) (.region [⟨(.mov (.t 8)), (some 36), none⟩, ⟨(.mov (.t 9)), (some 37), none⟩, ⟨(.bslice 1 [(.int .i64 0)] 1 [(0, (1, (.t 37)))]), (some 38), none⟩, ⟨(.append 1 8 (.t 36) (.t 38)), (some 39), none⟩, ⟨(.mov (.t 39)), (some 8), none⟩] false) .skip)))) (.region [⟨(.bin .add (.t 24) (.k (.int .i64 1))), (some 40), none⟩, ⟨(.mov (.t 40)), (some 24), none⟩] false))))
def m50 : MC := (.seq (.region [⟨(.mov (.k .nils)), (some 4), none⟩, ⟨(.mov (.k (.int .i64 0))), (some 5), none⟩] false) (.seq (.seq (.region [⟨(.mov (.t 1)), (some 10), none⟩, ⟨(.mov (.t 0)), (some 11), none⟩, ⟨(.bslice 1 [.nils] 1 [(0, (1, (.t 11)))]), (some 12), none⟩, ⟨(.call 86 [(.t 10), (.t 12)]), (some 13), none⟩, ⟨(.mov (.t 13)), (some 6), none⟩] false) (.seq (.region [⟨(.mov (.t 6)), (some 14), none⟩, ⟨(.bin .neq (.t 14) (.k (.int .i64 0))), (some 15), none⟩] false) (.cond (.t 15) (.seq (.region [⟨(.mov (.t 6)), (some 16), none⟩, ⟨(.mov (.k .nils)), (some 4), none⟩, ⟨(.mov (.t 16)), (some 5), none⟩] false) .ret) .skip))) (.seq (.region [⟨(.mov (.t 0)), (some 17), none⟩, ⟨(.mov (.t 1)), (some 18), none⟩, ⟨(.call 88 [(.t 17), (.t 18)]), (some 19), none⟩, ⟨(.call 89 [(.t 19)]), (some 20), none⟩, ⟨(.len (.t 20)), (some 21), none⟩, ⟨(.mov (.t 21)), (some 7), none⟩] false) (.seq (.region [⟨(.mov (.k .nils)), (some 8), none⟩] false) (.seq (.seq (.region [⟨(.mov (.t 0)), (some 22), none⟩, ⟨(.len (.t 22)), (some 23), none⟩, ⟨(.mov (.k (.int .i64 0))), (some 24), none⟩] false) (.block 0 (.loop m50_0))) (.seq (.region [⟨(.mov (.t 8)), (some 41), none⟩, ⟨(.mov (.t 41)), (some 4), none⟩, ⟨(.mov (.k (.int .i64 0))), (some 5), none⟩] false) .ret))))))
theorem has50 : Has cx 50 42 m50 [(.tmp 4), (.tmp 5)] :=
  ⟨⟨Try.f50, Try.f50.body.getD .skip, by kernel_rfl, by kernel_rfl, by kernel_rfl, by kernel_rfl, by kernel_rfl, by kernel_rfl⟩⟩
theorem lpni_n (n : Nat) (fs : List (Int × Int)) (hn1 : 1 ≤ n) (hn : n ≤ 3) (hall : allFunc fs = true) (hln : fs.length ≤ 1048576) (h8 : fs.length ≤ 8) (h2 : 2 ≤ fs.length) (o : Out) (ho : (match selm (ndP fs n) (idn) (fs.length) with | [] => (⟨.exit 0, [(8, .nils)], [⟨fns fs, 2, 0, some 0, false⟩]⟩ : Out) | x :: xs => ⟨.exit 0, [(8, .sl 1 0 (x :: xs).length)], [⟨fns fs, 2, 0, some 0, false⟩, ⟨ints (x :: xs), 1, 1, some 0, false⟩]⟩) = o) :
    LpS cx 42 1 m50_0 [(0, .sl 0 0 fs.length), (1, .int .i64 (n : Nat)), (7, .int .i64 ((kwS (R2 (R2 n)) (depL fs n)).length : Nat)), (8, .nils), (23, .int .i64 (fs.length : Nat)), (24, .int .i64 (0 : Nat))] [⟨fns fs, 2, 0, some 0, false⟩] o.x o.e o.h := by
  subst ho
  refine lp_st (fs.length) (selm (ndP fs n) (idn)) (fun i s => match s with | [] => [(0, .sl 0 0 fs.length), (1, .int .i64 (n : Nat)), (7, .int .i64 ((kwS (R2 (R2 n)) (depL fs n)).length : Nat)), (8, .nils), (23, .int .i64 (fs.length : Nat)), (24, .int .i64 (i : Nat))] | x :: xs => [(0, .sl 0 0 fs.length), (1, .int .i64 (n : Nat)), (7, .int .i64 ((kwS (R2 (R2 n)) (depL fs n)).length : Nat)), (8, .sl 1 0 (x :: xs).length), (23, .int .i64 (fs.length : Nat)), (24, .int .i64 (i : Nat))]) (fun i s => match s with | [] => [⟨fns fs, 2, 0, some 0, false⟩] | x :: xs => [⟨fns fs, 2, 0, some 0, false⟩, ⟨ints (x :: xs), 1, 1, some 0, false⟩]) (fun s => match s with | [] => ⟨.exit 0, [(8, .nils)], [⟨fns fs, 2, 0, some 0, false⟩]⟩ | x :: xs => ⟨.exit 0, [(8, .sl 1 0 (x :: xs).length)], [⟨fns fs, 2, 0, some 0, false⟩, ⟨ints (x :: xs), 1, 1, some 0, false⟩]⟩) ?_ ?_ (fs.length) 0 (by omega)
  · intro i s hi hs
    have hlt : decide ((i : Int) < (fs.length : Nat)) = true := decide_eq_true (by omega)
    have hle : decide ((i : Int) ≤ (fs.length : Nat) - 1) = true := decide_eq_true (by omega)
    have hlen : s.length ≤ 65536 := by have := selm_len (ndP fs n) (idn) i; rw [hs] at this; omega
    cases hp : (ndP fs n) i with
    | true =>
      have hp' : ((ndP fs n) i) = true := hp
      have hne := kw_dep (fs := wo fs i) (n := n) hn1
      have hdl := depL_len (wo fs i) n
      have hq' : (ndP fs n i) = decide (((kwS (R2 (R2 n)) (depL (wo fs i) n)).length : Int) < ((kwS (R2 (R2 n)) (depL fs n)).length : Nat)) := rfl
      have e0 := evwo fs i hi h2 hln
      have e1 := ev88 n (wo fs i) hn1 hn (wo_allF hi hall) (by rw [wo_len hi]; omega)
      have e2 := eval n (R2 (R2 n)) (wo fs i) (depL (wo fs i) n) hdl rfl hn _ rfl hne
      rw [show selm (fun b => decide ((depL (wo fs i) n).getD b 0 ≥ 0)) idn (R2 (R2 n)) = kwS (R2 (R2 n)) (depL (wo fs i) n) from rfl] at e2
      generalize kwS (R2 (R2 n)) (depL (wo fs i) n) = L at *
      generalize kwS (R2 (R2 n)) (depL fs n) = M at *
      rw [hp] at hq'
      have hq := hq'.symm
      cases s with
      | nil =>
        refine ⟨[(idn) i], by rw [selm_t (p := ndP fs n) hp, hs]; try rfl, ?_⟩
        unfold m50_0
        repeat' (first
          | (refine g_op ?_; first
            | refine ep_mov rfl ?_
            | refine ep_call0 rfl (by first | exact e0 | exact e1 | exact e2) rfl rfl ?_
            | refine sp_call rfl rfl rfl rfl (by first | exact e0 | exact e1 | exact e2) ⟨rfl, rfl, rfl, rfl⟩ rfl rfl rfl ?_
            | refine ep_bin rfl rfl (by first | exact b_add (by omega) (by omega) | exact b_sub (by omega) (by omega) | exact b_and (by omega) (by omega) | exact b_or (by omega) (by omega) | exact b_shr (by omega) | exact b_shl (by omega) (by omega) | exact b_lss | exact b_leq | exact b_gtr | exact b_geq | exact b_eql | exact b_neq) ?_
            | refine ep_lenS rfl ?_ | refine ep_lenN rfl ?_ | refine ep_lenE rfl ?_ | refine sp_bslice rfl rfl rfl rfl rfl ?_ | refine sp_push0 rfl (by first | exact .inl rfl | exact .inr rfl) rfl rfl rfl rfl rfl (by decide) rfl rfl rfl ?_
            | refine sp_push rfl rfl rfl rfl rfl rfl rfl (by first | exact ints_len _ | exact prs_len _ _ | exact zints_len _) (by omega) (Nat.zero_le _) rfl rfl rfl rfl rfl ?_)
          | (refine g_ops ?_; first | refine eo_none ?_ | refine eo_nil ?_)
          | (refine g_code ?_; first | refine ec_seq ?_ | refine ec_region ?_ | refine ec_block ?_ | refine ec_skip ?_ | refine ec_exit ?_ | refine ec_condT rfl ?_ | refine ec_condF rfl ?_ | refine ec_condTH rfl (by assumption) ?_ | refine ec_condFH rfl (by assumption) ?_)
          | refine ek_seqN ?_ | refine ek_seqX ?_ | refine ek_blkN ?_ | refine ek_blkR ?_ | refine ek_blkX ?_ | refine ek_blkY rfl ?_)
        exact rnd_on (by rfl) (scmp2 (by rfl) (by rfl) (by exact ⟨rfl, rfl, rfl⟩) (by rfl) (by first | rfl | (simp; done) | (simp [ints, prs]; done)) (by rfl) (by first | rfl | (simp; done) | (simp [ints, prs]; done)))
      | cons x xs =>
        refine ⟨(x :: xs) ++ [(idn) i], by rw [selm_t (p := ndP fs n) hp, hs]; try rfl, ?_⟩
        unfold m50_0
        repeat' (first
          | (refine g_op ?_; first
            | refine ep_mov rfl ?_
            | refine ep_call0 rfl (by first | exact e0 | exact e1 | exact e2) rfl rfl ?_
            | refine sp_call rfl rfl rfl rfl (by first | exact e0 | exact e1 | exact e2) ⟨rfl, rfl, rfl, rfl⟩ rfl rfl rfl ?_
            | refine ep_bin rfl rfl (by first | exact b_add (by omega) (by omega) | exact b_sub (by omega) (by omega) | exact b_and (by omega) (by omega) | exact b_or (by omega) (by omega) | exact b_shr (by omega) | exact b_shl (by omega) (by omega) | exact b_lss | exact b_leq | exact b_gtr | exact b_geq | exact b_eql | exact b_neq) ?_
            | refine ep_lenS rfl ?_ | refine ep_lenN rfl ?_ | refine ep_lenE rfl ?_ | refine sp_bslice rfl rfl rfl rfl rfl ?_ | refine sp_push0 rfl (by first | exact .inl rfl | exact .inr rfl) rfl rfl rfl rfl rfl (by decide) rfl rfl rfl ?_
            | refine sp_push rfl rfl rfl rfl rfl rfl rfl (by first | exact ints_len _ | exact prs_len _ _ | exact zints_len _) (by omega) (Nat.zero_le _) rfl rfl rfl rfl rfl ?_)
          | (refine g_ops ?_; first | refine eo_none ?_ | refine eo_nil ?_)
          | (refine g_code ?_; first | refine ec_seq ?_ | refine ec_region ?_ | refine ec_block ?_ | refine ec_skip ?_ | refine ec_exit ?_ | refine ec_condT rfl ?_ | refine ec_condF rfl ?_ | refine ec_condTH rfl (by assumption) ?_ | refine ec_condFH rfl (by assumption) ?_)
          | refine ek_seqN ?_ | refine ek_seqX ?_ | refine ek_blkN ?_ | refine ek_blkR ?_ | refine ek_blkX ?_ | refine ek_blkY rfl ?_)
        exact rnd_on (by rfl) (scmp2 (by rfl) (by rfl) (by exact ⟨rfl, rfl, rfl⟩) (by rfl) (by first | rfl | (simp; done) | (simp [ints, prs]; done)) (by rfl) (by first | rfl | (simp; done) | (simp [ints, prs]; done)))
    | false =>
      have hp' : ((ndP fs n) i) = false := hp
      have hne := kw_dep (fs := wo fs i) (n := n) hn1
      have hdl := depL_len (wo fs i) n
      have hq' : (ndP fs n i) = decide (((kwS (R2 (R2 n)) (depL (wo fs i) n)).length : Int) < ((kwS (R2 (R2 n)) (depL fs n)).length : Nat)) := rfl
      have e0 := evwo fs i hi h2 hln
      have e1 := ev88 n (wo fs i) hn1 hn (wo_allF hi hall) (by rw [wo_len hi]; omega)
      have e2 := eval n (R2 (R2 n)) (wo fs i) (depL (wo fs i) n) hdl rfl hn _ rfl hne
      rw [show selm (fun b => decide ((depL (wo fs i) n).getD b 0 ≥ 0)) idn (R2 (R2 n)) = kwS (R2 (R2 n)) (depL (wo fs i) n) from rfl] at e2
      generalize kwS (R2 (R2 n)) (depL (wo fs i) n) = L at *
      generalize kwS (R2 (R2 n)) (depL fs n) = M at *
      rw [hp] at hq'
      have hq := hq'.symm
      cases s with
      | nil =>
        refine ⟨[], by rw [selm_f (p := ndP fs n) hp, hs]; try rfl, ?_⟩
        unfold m50_0
        repeat' (first
          | (refine g_op ?_; first
            | refine ep_mov rfl ?_
            | refine ep_call0 rfl (by first | exact e0 | exact e1 | exact e2) rfl rfl ?_
            | refine sp_call rfl rfl rfl rfl (by first | exact e0 | exact e1 | exact e2) ⟨rfl, rfl, rfl, rfl⟩ rfl rfl rfl ?_
            | refine ep_bin rfl rfl (by first | exact b_add (by omega) (by omega) | exact b_sub (by omega) (by omega) | exact b_and (by omega) (by omega) | exact b_or (by omega) (by omega) | exact b_shr (by omega) | exact b_shl (by omega) (by omega) | exact b_lss | exact b_leq | exact b_gtr | exact b_geq | exact b_eql | exact b_neq) ?_
            | refine ep_lenS rfl ?_ | refine ep_lenN rfl ?_ | refine ep_lenE rfl ?_ | refine sp_bslice rfl rfl rfl rfl rfl ?_ | refine sp_push0 rfl (by first | exact .inl rfl | exact .inr rfl) rfl rfl rfl rfl rfl (by decide) rfl rfl rfl ?_
            | refine sp_push rfl rfl rfl rfl rfl rfl rfl (by first | exact ints_len _ | exact prs_len _ _ | exact zints_len _) (by omega) (Nat.zero_le _) rfl rfl rfl rfl rfl ?_)
          | (refine g_ops ?_; first | refine eo_none ?_ | refine eo_nil ?_)
          | (refine g_code ?_; first | refine ec_seq ?_ | refine ec_region ?_ | refine ec_block ?_ | refine ec_skip ?_ | refine ec_exit ?_ | refine ec_condT rfl ?_ | refine ec_condF rfl ?_ | refine ec_condTH rfl (by assumption) ?_ | refine ec_condFH rfl (by assumption) ?_)
          | refine ek_seqN ?_ | refine ek_seqX ?_ | refine ek_blkN ?_ | refine ek_blkR ?_ | refine ek_blkX ?_ | refine ek_blkY rfl ?_)
        exact rnd_on (by rfl) (scmp2 (by rfl) (by rfl) (by exact ⟨rfl, rfl, rfl⟩) (by rfl) (by first | rfl | (simp; done) | (simp [ints, prs]; done)) (by rfl) (by first | rfl | (simp; done) | (simp [ints, prs]; done)))
      | cons x xs =>
        refine ⟨x :: xs, by rw [selm_f (p := ndP fs n) hp, hs]; try rfl, ?_⟩
        unfold m50_0
        repeat' (first
          | (refine g_op ?_; first
            | refine ep_mov rfl ?_
            | refine ep_call0 rfl (by first | exact e0 | exact e1 | exact e2) rfl rfl ?_
            | refine sp_call rfl rfl rfl rfl (by first | exact e0 | exact e1 | exact e2) ⟨rfl, rfl, rfl, rfl⟩ rfl rfl rfl ?_
            | refine ep_bin rfl rfl (by first | exact b_add (by omega) (by omega) | exact b_sub (by omega) (by omega) | exact b_and (by omega) (by omega) | exact b_or (by omega) (by omega) | exact b_shr (by omega) | exact b_shl (by omega) (by omega) | exact b_lss | exact b_leq | exact b_gtr | exact b_geq | exact b_eql | exact b_neq) ?_
            | refine ep_lenS rfl ?_ | refine ep_lenN rfl ?_ | refine ep_lenE rfl ?_ | refine sp_bslice rfl rfl rfl rfl rfl ?_ | refine sp_push0 rfl (by first | exact .inl rfl | exact .inr rfl) rfl rfl rfl rfl rfl (by decide) rfl rfl rfl ?_
            | refine sp_push rfl rfl rfl rfl rfl rfl rfl (by first | exact ints_len _ | exact prs_len _ _ | exact zints_len _) (by omega) (Nat.zero_le _) rfl rfl rfl rfl rfl ?_)
          | (refine g_ops ?_; first | refine eo_none ?_ | refine eo_nil ?_)
          | (refine g_code ?_; first | refine ec_seq ?_ | refine ec_region ?_ | refine ec_block ?_ | refine ec_skip ?_ | refine ec_exit ?_ | refine ec_condT rfl ?_ | refine ec_condF rfl ?_ | refine ec_condTH rfl (by assumption) ?_ | refine ec_condFH rfl (by assumption) ?_)
          | refine ek_seqN ?_ | refine ek_seqX ?_ | refine ek_blkN ?_ | refine ek_blkR ?_ | refine ek_blkX ?_ | refine ek_blkY rfl ?_)
        exact rnd_on (by rfl) (scmp2 (by rfl) (by rfl) (by exact ⟨rfl, rfl, rfl⟩) (by rfl) (by first | rfl | (simp; done) | (simp [ints, prs]; done)) (by rfl) (by first | rfl | (simp; done) | (simp [ints, prs]; done)))
  · intro s hs
    have hlt : decide (((fs.length : Nat) : Int) < (fs.length : Nat)) = false := decide_eq_false (by omega)
    have hle : decide (((fs.length : Nat) : Int) ≤ (fs.length : Nat) - 1) = false := decide_eq_false (by omega)
    cases s with
    | nil =>
      unfold m50_0
      repeat' (first
        | (refine g_op ?_; first
          | refine ep_mov rfl ?_
          | refine ep_bin rfl rfl (by first | exact b_add (by omega) (by omega) | exact b_sub (by omega) (by omega) | exact b_and (by omega) (by omega) | exact b_or (by omega) (by omega) | exact b_shr (by omega) | exact b_shl (by omega) (by omega) | exact b_lss | exact b_leq | exact b_gtr | exact b_geq | exact b_eql | exact b_neq) ?_
          | refine ep_lenS rfl ?_ | refine ep_lenN rfl ?_ | refine ep_lenE rfl ?_ | refine sp_bslice rfl rfl rfl rfl rfl ?_ | refine sp_push0 rfl (by first | exact .inl rfl | exact .inr rfl) rfl rfl rfl rfl rfl (by decide) rfl rfl rfl ?_
          | refine sp_push rfl rfl rfl rfl rfl rfl rfl (by first | exact ints_len _ | exact prs_len _ _ | exact zints_len _) (by omega) (Nat.zero_le _) rfl rfl rfl rfl rfl ?_)
        | (refine g_ops ?_; first | refine eo_none ?_ | refine eo_nil ?_)
        | (refine g_code ?_; first | refine ec_seq ?_ | refine ec_region ?_ | refine ec_block ?_ | refine ec_skip ?_ | refine ec_exit ?_ | refine ec_condT rfl ?_ | refine ec_condF rfl ?_ | refine ec_condTH rfl (by assumption) ?_ | refine ec_condFH rfl (by assumption) ?_)
        | refine ek_seqN ?_ | refine ek_seqX ?_ | refine ek_blkN ?_ | refine ek_blkR ?_ | refine ek_blkX ?_ | refine ek_blkY rfl ?_)
      exact rnd_out (by rfl) (by simp) (scmp2 (by rfl) (by rfl) (by exact ⟨rfl, rfl, rfl⟩) (by rfl) (by first | rfl | (simp; done) | (simp [ints, prs]; done)) (by rfl) (by first | rfl | (simp; done) | (simp [ints, prs]; done)))
    | cons x xs =>
      unfold m50_0
      repeat' (first
        | (refine g_op ?_; first
          | refine ep_mov rfl ?_
          | refine ep_bin rfl rfl (by first | exact b_add (by omega) (by omega) | exact b_sub (by omega) (by omega) | exact b_and (by omega) (by omega) | exact b_or (by omega) (by omega) | exact b_shr (by omega) | exact b_shl (by omega) (by omega) | exact b_lss | exact b_leq | exact b_gtr | exact b_geq | exact b_eql | exact b_neq) ?_
          | refine ep_lenS rfl ?_ | refine ep_lenN rfl ?_ | refine ep_lenE rfl ?_ | refine sp_bslice rfl rfl rfl rfl rfl ?_ | refine sp_push0 rfl (by first | exact .inl rfl | exact .inr rfl) rfl rfl rfl rfl rfl (by decide) rfl rfl rfl ?_
          | refine sp_push rfl rfl rfl rfl rfl rfl rfl (by first | exact ints_len _ | exact prs_len _ _ | exact zints_len _) (by omega) (Nat.zero_le _) rfl rfl rfl rfl rfl ?_)
        | (refine g_ops ?_; first | refine eo_none ?_ | refine eo_nil ?_)
        | (refine g_code ?_; first | refine ec_seq ?_ | refine ec_region ?_ | refine ec_block ?_ | refine ec_skip ?_ | refine ec_exit ?_ | refine ec_condT rfl ?_ | refine ec_condF rfl ?_ | refine ec_condTH rfl (by assumption) ?_ | refine ec_condFH rfl (by assumption) ?_)
        | refine ek_seqN ?_ | refine ek_seqX ?_ | refine ek_blkN ?_ | refine ek_blkR ?_ | refine ek_blkX ?_ | refine ek_blkY rfl ?_)
      exact rnd_out (by rfl) (by simp) (scmp2 (by rfl) (by rfl) (by exact ⟨rfl, rfl, rfl⟩) (by rfl) (by first | rfl | (simp; done) | (simp [ints, prs]; done)) (by rfl) (by first | rfl | (simp; done) | (simp [ints, prs]; done)))

theorem lpni_1 (n : Nat) (fs : List (Int × Int)) (hn1 : 1 ≤ n) (hn : n ≤ 3) (hall : allFunc fs = true) (hln : fs.length ≤ 1048576) (h8 : fs.length ≤ 8) (h2 : fs.length ≤ 1) (o : Out) (ho : (match selm (ndP fs n) (idn) (fs.length) with | [] => (⟨.exit 0, [(8, .nils)], [⟨fns fs, 2, 0, some 0, false⟩]⟩ : Out) | x :: xs => ⟨.exit 0, [(8, .sl 1 0 (x :: xs).length)], [⟨fns fs, 2, 0, some 0, false⟩, ⟨ints (x :: xs), 1, 1, some 0, false⟩]⟩) = o) :
    LpS cx 42 1 m50_0 [(0, .sl 0 0 fs.length), (1, .int .i64 (n : Nat)), (7, .int .i64 ((kwS (R2 (R2 n)) (depL fs n)).length : Nat)), (8, .nils), (23, .int .i64 (fs.length : Nat)), (24, .int .i64 (0 : Nat))] [⟨fns fs, 2, 0, some 0, false⟩] o.x o.e o.h := by
  subst ho
  refine lp_st (fs.length) (selm (ndP fs n) (idn)) (fun i s => match s with | [] => [(0, .sl 0 0 fs.length), (1, .int .i64 (n : Nat)), (7, .int .i64 ((kwS (R2 (R2 n)) (depL fs n)).length : Nat)), (8, .nils), (23, .int .i64 (fs.length : Nat)), (24, .int .i64 (i : Nat))] | x :: xs => [(0, .sl 0 0 fs.length), (1, .int .i64 (n : Nat)), (7, .int .i64 ((kwS (R2 (R2 n)) (depL fs n)).length : Nat)), (8, .sl 1 0 (x :: xs).length), (23, .int .i64 (fs.length : Nat)), (24, .int .i64 (i : Nat))]) (fun i s => match s with | [] => [⟨fns fs, 2, 0, some 0, false⟩] | x :: xs => [⟨fns fs, 2, 0, some 0, false⟩, ⟨ints (x :: xs), 1, 1, some 0, false⟩]) (fun s => match s with | [] => ⟨.exit 0, [(8, .nils)], [⟨fns fs, 2, 0, some 0, false⟩]⟩ | x :: xs => ⟨.exit 0, [(8, .sl 1 0 (x :: xs).length)], [⟨fns fs, 2, 0, some 0, false⟩, ⟨ints (x :: xs), 1, 1, some 0, false⟩]⟩) ?_ ?_ (fs.length) 0 (by omega)
  · intro i s hi hs
    have hlt : decide ((i : Int) < (fs.length : Nat)) = true := decide_eq_true (by omega)
    have hle : decide ((i : Int) ≤ (fs.length : Nat) - 1) = true := decide_eq_true (by omega)
    have hlen : s.length ≤ 65536 := by have := selm_len (ndP fs n) (idn) i; rw [hs] at this; omega
    cases hp : (ndP fs n) i with
    | true =>
      have hp' : ((ndP fs n) i) = true := hp
      have hne := kw_dep (fs := wo fs i) (n := n) hn1
      have hdl := depL_len (wo fs i) n
      have hq' : (ndP fs n i) = decide (((kwS (R2 (R2 n)) (depL (wo fs i) n)).length : Int) < ((kwS (R2 (R2 n)) (depL fs n)).length : Nat)) := rfl
      have h1 : fs.length = 1 := by omega
      have hi0 : i = 0 := by omega
      have e0 : Ev cx 91 [.sl 0 0 fs.length, .int .i64 (i : Nat)] [⟨fns fs, 2, 0, some 0, false⟩] .nils [⟨fns fs, 2, 0, some 0, false⟩] := by rw [hi0]; exact evwo1 fs h1
      rw [wo_nil h1 hi0] at hne hdl hq'
      have e1 := evgenz n hn1 hn
      have e2 := evalz n (R2 (R2 n)) (depL [] n) hdl rfl hn _ rfl hne
      rw [show selm (fun b => decide ((depL [] n).getD b 0 ≥ 0)) idn (R2 (R2 n)) = kwS (R2 (R2 n)) (depL [] n) from rfl] at e2
      generalize kwS (R2 (R2 n)) (depL [] n) = L at *
      generalize kwS (R2 (R2 n)) (depL fs n) = M at *
      rw [hp] at hq'
      have hq := hq'.symm
      cases s with
      | nil =>
        refine ⟨[(idn) i], by rw [selm_t (p := ndP fs n) hp, hs]; try rfl, ?_⟩
        unfold m50_0
        repeat' (first
          | (refine g_op ?_; first
            | refine ep_mov rfl ?_
            | refine ep_call0 rfl (by first | exact e0 | exact e1 | exact e2) rfl rfl ?_
            | refine sp_call rfl rfl rfl rfl (by first | exact e0 | exact e1 | exact e2) ⟨rfl, rfl, rfl, rfl⟩ rfl rfl rfl ?_
            | refine ep_bin rfl rfl (by first | exact b_add (by omega) (by omega) | exact b_sub (by omega) (by omega) | exact b_and (by omega) (by omega) | exact b_or (by omega) (by omega) | exact b_shr (by omega) | exact b_shl (by omega) (by omega) | exact b_lss | exact b_leq | exact b_gtr | exact b_geq | exact b_eql | exact b_neq) ?_
            | refine ep_lenS rfl ?_ | refine ep_lenN rfl ?_ | refine ep_lenE rfl ?_ | refine sp_bslice rfl rfl rfl rfl rfl ?_ | refine sp_push0 rfl (by first | exact .inl rfl | exact .inr rfl) rfl rfl rfl rfl rfl (by decide) rfl rfl rfl ?_
            | refine sp_push rfl rfl rfl rfl rfl rfl rfl (by first | exact ints_len _ | exact prs_len _ _ | exact zints_len _) (by omega) (Nat.zero_le _) rfl rfl rfl rfl rfl ?_)
          | (refine g_ops ?_; first | refine eo_none ?_ | refine eo_nil ?_)
          | (refine g_code ?_; first | refine ec_seq ?_ | refine ec_region ?_ | refine ec_block ?_ | refine ec_skip ?_ | refine ec_exit ?_ | refine ec_condT rfl ?_ | refine ec_condF rfl ?_ | refine ec_condTH rfl (by assumption) ?_ | refine ec_condFH rfl (by assumption) ?_)
          | refine ek_seqN ?_ | refine ek_seqX ?_ | refine ek_blkN ?_ | refine ek_blkR ?_ | refine ek_blkX ?_ | refine ek_blkY rfl ?_)
        exact rnd_on (by rfl) (scmp2 (by rfl) (by rfl) (by exact ⟨rfl, rfl, rfl⟩) (by rfl) (by first | rfl | (simp; done) | (simp [ints, prs]; done)) (by rfl) (by first | rfl | (simp; done) | (simp [ints, prs]; done)))
      | cons x xs =>
        refine ⟨(x :: xs) ++ [(idn) i], by rw [selm_t (p := ndP fs n) hp, hs]; try rfl, ?_⟩
        unfold m50_0
        repeat' (first
          | (refine g_op ?_; first
            | refine ep_mov rfl ?_
            | refine ep_call0 rfl (by first | exact e0 | exact e1 | exact e2) rfl rfl ?_
            | refine sp_call rfl rfl rfl rfl (by first | exact e0 | exact e1 | exact e2) ⟨rfl, rfl, rfl, rfl⟩ rfl rfl rfl ?_
            | refine ep_bin rfl rfl (by first | exact b_add (by omega) (by omega) | exact b_sub (by omega) (by omega) | exact b_and (by omega) (by omega) | exact b_or (by omega) (by omega) | exact b_shr (by omega) | exact b_shl (by omega) (by omega) | exact b_lss | exact b_leq | exact b_gtr | exact b_geq | exact b_eql | exact b_neq) ?_
            | refine ep_lenS rfl ?_ | refine ep_lenN rfl ?_ | refine ep_lenE rfl ?_ | refine sp_bslice rfl rfl rfl rfl rfl ?_ | refine sp_push0 rfl (by first | exact .inl rfl | exact .inr rfl) rfl rfl rfl rfl rfl (by decide) rfl rfl rfl ?_
            | refine sp_push rfl rfl rfl rfl rfl rfl rfl (by first | exact ints_len _ | exact prs_len _ _ | exact zints_len _) (by omega) (Nat.zero_le _) rfl rfl rfl rfl rfl ?_)
          | (refine g_ops ?_; first | refine eo_none ?_ | refine eo_nil ?_)
          | (refine g_code ?_; first | refine ec_seq ?_ | refine ec_region ?_ | refine ec_block ?_ | refine ec_skip ?_ | refine ec_exit ?_ | refine ec_condT rfl ?_ | refine ec_condF rfl ?_ | refine ec_condTH rfl (by assumption) ?_ | refine ec_condFH rfl (by assumption) ?_)
          | refine ek_seqN ?_ | refine ek_seqX ?_ | refine ek_blkN ?_ | refine ek_blkR ?_ | refine ek_blkX ?_ | refine ek_blkY rfl ?_)
        exact rnd_on (by rfl) (scmp2 (by rfl) (by rfl) (by exact ⟨rfl, rfl, rfl⟩) (by rfl) (by first | rfl | (simp; done) | (simp [ints, prs]; done)) (by rfl) (by first | rfl | (simp; done) | (simp [ints, prs]; done)))
    | false =>
      have hp' : ((ndP fs n) i) = false := hp
      have hne := kw_dep (fs := wo fs i) (n := n) hn1
      have hdl := depL_len (wo fs i) n
      have hq' : (ndP fs n i) = decide (((kwS (R2 (R2 n)) (depL (wo fs i) n)).length : Int) < ((kwS (R2 (R2 n)) (depL fs n)).length : Nat)) := rfl
      have h1 : fs.length = 1 := by omega
      have hi0 : i = 0 := by omega
      have e0 : Ev cx 91 [.sl 0 0 fs.length, .int .i64 (i : Nat)] [⟨fns fs, 2, 0, some 0, false⟩] .nils [⟨fns fs, 2, 0, some 0, false⟩] := by rw [hi0]; exact evwo1 fs h1
      rw [wo_nil h1 hi0] at hne hdl hq'
      have e1 := evgenz n hn1 hn
      have e2 := evalz n (R2 (R2 n)) (depL [] n) hdl rfl hn _ rfl hne
      rw [show selm (fun b => decide ((depL [] n).getD b 0 ≥ 0)) idn (R2 (R2 n)) = kwS (R2 (R2 n)) (depL [] n) from rfl] at e2
      generalize kwS (R2 (R2 n)) (depL [] n) = L at *
      generalize kwS (R2 (R2 n)) (depL fs n) = M at *
      rw [hp] at hq'
      have hq := hq'.symm
      cases s with
      | nil =>
        refine ⟨[], by rw [selm_f (p := ndP fs n) hp, hs]; try rfl, ?_⟩
        unfold m50_0
        repeat' (first
          | (refine g_op ?_; first
            | refine ep_mov rfl ?_
            | refine ep_call0 rfl (by first | exact e0 | exact e1 | exact e2) rfl rfl ?_
            | refine sp_call rfl rfl rfl rfl (by first | exact e0 | exact e1 | exact e2) ⟨rfl, rfl, rfl, rfl⟩ rfl rfl rfl ?_
            | refine ep_bin rfl rfl (by first | exact b_add (by omega) (by omega) | exact b_sub (by omega) (by omega) | exact b_and (by omega) (by omega) | exact b_or (by omega) (by omega) | exact b_shr (by omega) | exact b_shl (by omega) (by omega) | exact b_lss | exact b_leq | exact b_gtr | exact b_geq | exact b_eql | exact b_neq) ?_
            | refine ep_lenS rfl ?_ | refine ep_lenN rfl ?_ | refine ep_lenE rfl ?_ | refine sp_bslice rfl rfl rfl rfl rfl ?_ | refine sp_push0 rfl (by first | exact .inl rfl | exact .inr rfl) rfl rfl rfl rfl rfl (by decide) rfl rfl rfl ?_
            | refine sp_push rfl rfl rfl rfl rfl rfl rfl (by first | exact ints_len _ | exact prs_len _ _ | exact zints_len _) (by omega) (Nat.zero_le _) rfl rfl rfl rfl rfl ?_)
          | (refine g_ops ?_; first | refine eo_none ?_ | refine eo_nil ?_)
          | (refine g_code ?_; first | refine ec_seq ?_ | refine ec_region ?_ | refine ec_block ?_ | refine ec_skip ?_ | refine ec_exit ?_ | refine ec_condT rfl ?_ | refine ec_condF rfl ?_ | refine ec_condTH rfl (by assumption) ?_ | refine ec_condFH rfl (by assumption) ?_)
          | refine ek_seqN ?_ | refine ek_seqX ?_ | refine ek_blkN ?_ | refine ek_blkR ?_ | refine ek_blkX ?_ | refine ek_blkY rfl ?_)
        exact rnd_on (by rfl) (scmp2 (by rfl) (by rfl) (by exact ⟨rfl, rfl, rfl⟩) (by rfl) (by first | rfl | (simp; done) | (simp [ints, prs]; done)) (by rfl) (by first | rfl | (simp; done) | (simp [ints, prs]; done)))
      | cons x xs =>
        refine ⟨x :: xs, by rw [selm_f (p := ndP fs n) hp, hs]; try rfl, ?_⟩
        unfold m50_0
        repeat' (first
          | (refine g_op ?_; first
            | refine ep_mov rfl ?_
            | refine ep_call0 rfl (by first | exact e0 | exact e1 | exact e2) rfl rfl ?_
            | refine sp_call rfl rfl rfl rfl (by first | exact e0 | exact e1 | exact e2) ⟨rfl, rfl, rfl, rfl⟩ rfl rfl rfl ?_
            | refine ep_bin rfl rfl (by first | exact b_add (by omega) (by omega) | exact b_sub (by omega) (by omega) | exact b_and (by omega) (by omega) | exact b_or (by omega) (by omega) | exact b_shr (by omega) | exact b_shl (by omega) (by omega) | exact b_lss | exact b_leq | exact b_gtr | exact b_geq | exact b_eql | exact b_neq) ?_
            | refine ep_lenS rfl ?_ | refine ep_lenN rfl ?_ | refine ep_lenE rfl ?_ | refine sp_bslice rfl rfl rfl rfl rfl ?_ | refine sp_push0 rfl (by first | exact .inl rfl | exact .inr rfl) rfl rfl rfl rfl rfl (by decide) rfl rfl rfl ?_
            | refine sp_push rfl rfl rfl rfl rfl rfl rfl (by first | exact ints_len _ | exact prs_len _ _ | exact zints_len _) (by omega) (Nat.zero_le _) rfl rfl rfl rfl rfl ?_)
          | (refine g_ops ?_; first | refine eo_none ?_ | refine eo_nil ?_)
          | (refine g_code ?_; first | refine ec_seq ?_ | refine ec_region ?_ | refine ec_block ?_ | refine ec_skip ?_ | refine ec_exit ?_ | refine ec_condT rfl ?_ | refine ec_condF rfl ?_ | refine ec_condTH rfl (by assumption) ?_ | refine ec_condFH rfl (by assumption) ?_)
          | refine ek_seqN ?_ | refine ek_seqX ?_ | refine ek_blkN ?_ | refine ek_blkR ?_ | refine ek_blkX ?_ | refine ek_blkY rfl ?_)
        exact rnd_on (by rfl) (scmp2 (by rfl) (by rfl) (by exact ⟨rfl, rfl, rfl⟩) (by rfl) (by first | rfl | (simp; done) | (simp [ints, prs]; done)) (by rfl) (by first | rfl | (simp; done) | (simp [ints, prs]; done)))
  · intro s hs
    have hlt : decide (((fs.length : Nat) : Int) < (fs.length : Nat)) = false := decide_eq_false (by omega)
    have hle : decide (((fs.length : Nat) : Int) ≤ (fs.length : Nat) - 1) = false := decide_eq_false (by omega)
    cases s with
    | nil =>
      unfold m50_0
      repeat' (first
        | (refine g_op ?_; first
          | refine ep_mov rfl ?_
          | refine ep_bin rfl rfl (by first | exact b_add (by omega) (by omega) | exact b_sub (by omega) (by omega) | exact b_and (by omega) (by omega) | exact b_or (by omega) (by omega) | exact b_shr (by omega) | exact b_shl (by omega) (by omega) | exact b_lss | exact b_leq | exact b_gtr | exact b_geq | exact b_eql | exact b_neq) ?_
          | refine ep_lenS rfl ?_ | refine ep_lenN rfl ?_ | refine ep_lenE rfl ?_ | refine sp_bslice rfl rfl rfl rfl rfl ?_ | refine sp_push0 rfl (by first | exact .inl rfl | exact .inr rfl) rfl rfl rfl rfl rfl (by decide) rfl rfl rfl ?_
          | refine sp_push rfl rfl rfl rfl rfl rfl rfl (by first | exact ints_len _ | exact prs_len _ _ | exact zints_len _) (by omega) (Nat.zero_le _) rfl rfl rfl rfl rfl ?_)
        | (refine g_ops ?_; first | refine eo_none ?_ | refine eo_nil ?_)
        | (refine g_code ?_; first | refine ec_seq ?_ | refine ec_region ?_ | refine ec_block ?_ | refine ec_skip ?_ | refine ec_exit ?_ | refine ec_condT rfl ?_ | refine ec_condF rfl ?_ | refine ec_condTH rfl (by assumption) ?_ | refine ec_condFH rfl (by assumption) ?_)
        | refine ek_seqN ?_ | refine ek_seqX ?_ | refine ek_blkN ?_ | refine ek_blkR ?_ | refine ek_blkX ?_ | refine ek_blkY rfl ?_)
      exact rnd_out (by rfl) (by simp) (scmp2 (by rfl) (by rfl) (by exact ⟨rfl, rfl, rfl⟩) (by rfl) (by first | rfl | (simp; done) | (simp [ints, prs]; done)) (by rfl) (by first | rfl | (simp; done) | (simp [ints, prs]; done)))
    | cons x xs =>
      unfold m50_0
      repeat' (first
        | (refine g_op ?_; first
          | refine ep_mov rfl ?_
          | refine ep_bin rfl rfl (by first | exact b_add (by omega) (by omega) | exact b_sub (by omega) (by omega) | exact b_and (by omega) (by omega) | exact b_or (by omega) (by omega) | exact b_shr (by omega) | exact b_shl (by omega) (by omega) | exact b_lss | exact b_leq | exact b_gtr | exact b_geq | exact b_eql | exact b_neq) ?_
          | refine ep_lenS rfl ?_ | refine ep_lenN rfl ?_ | refine ep_lenE rfl ?_ | refine sp_bslice rfl rfl rfl rfl rfl ?_ | refine sp_push0 rfl (by first | exact .inl rfl | exact .inr rfl) rfl rfl rfl rfl rfl (by decide) rfl rfl rfl ?_
          | refine sp_push rfl rfl rfl rfl rfl rfl rfl (by first | exact ints_len _ | exact prs_len _ _ | exact zints_len _) (by omega) (Nat.zero_le _) rfl rfl rfl rfl rfl ?_)
        | (refine g_ops ?_; first | refine eo_none ?_ | refine eo_nil ?_)
        | (refine g_code ?_; first | refine ec_seq ?_ | refine ec_region ?_ | refine ec_block ?_ | refine ec_skip ?_ | refine ec_exit ?_ | refine ec_condT rfl ?_ | refine ec_condF rfl ?_ | refine ec_condTH rfl (by assumption) ?_ | refine ec_condFH rfl (by assumption) ?_)
        | refine ek_seqN ?_ | refine ek_seqX ?_ | refine ek_blkN ?_ | refine ek_blkR ?_ | refine ek_blkX ?_ | refine ek_blkY rfl ?_)
      exact rnd_out (by rfl) (by simp) (scmp2 (by rfl) (by rfl) (by exact ⟨rfl, rfl, rfl⟩) (by rfl) (by first | rfl | (simp; done) | (simp [ints, prs]; done)) (by rfl) (by first | rfl | (simp; done) | (simp [ints, prs]; done)))

theorem ev50 (fs : List (Int × Int)) (z : Int) (hln : fs.length ≤ 1048576) : Ev cx 50 [.sl 0 0 fs.length, .int .i64 z] [⟨fns fs, 2, 0, some 0, false⟩] (.tup [slV .nils 1 (ndL fs z), .int .i64 (ndC fs z)]) (⟨fns fs, 2, 0, some 0, false⟩ :: slH 1 1 ints (ndL fs z)) := by
  have e1 := ev86_1 fs z hln
  by_cases h0 : gcode fs z = 0
  · obtain ⟨ha, hl, hz1, hz2⟩ := gcode_0 h0
    obtain ⟨n, rfl⟩ := Int.eq_ofNat_of_zero_le (show (0 : Int) ≤ z by omega)
    have hL : ndL fs (n : Nat) = selm (ndP fs n) idn fs.length := if_pos h0
    have e2 := ev88 n fs (by omega) (by omega) ha hln
    have hne := kw_dep (fs := fs) (n := n) (by omega)
    have e3 := eval n (R2 (R2 n)) fs (depL fs n) (depL_len fs n) rfl (by omega) _ rfl hne
    rw [show selm (fun b => decide ((depL fs n).getD b 0 ≥ 0)) idn (R2 (R2 n)) = kwS (R2 (R2 n)) (depL fs n) from rfl] at e3
    rw [show ndC fs (n : Nat) = 0 from h0]
    rw [h0] at e1
    rw [hL]
    cases hs : selm (ndP fs n) idn fs.length with
    | nil =>
      by_cases h2 : 2 ≤ fs.length
      · have lp := lpni_n n fs (by omega) (by omega) ha hln hl h2 _ (by rw [hs])
        refine has50.eev rfl rfl ?_
        unfold m50
        repeat' (first
          | refine sc_loop lp rfl rfl ⟨rfl, rfl, rfl⟩ rfl rfl rfl ?_
          | (refine g_op ?_; first
            | refine ep_mov rfl ?_
            | refine ep_call0 rfl (by first | exact e1 | exact e2 | exact e3) rfl rfl ?_
            | refine sp_call rfl rfl rfl rfl (by first | exact e1 | exact e2 | exact e3) ⟨rfl, rfl, rfl, rfl⟩ rfl rfl rfl ?_
            | refine ep_bin rfl rfl (by first | exact b_add (by omega) (by omega) | exact b_sub (by omega) (by omega) | exact b_and (by omega) (by omega) | exact b_or (by omega) (by omega) | exact b_shr (by omega) | exact b_shl (by omega) (by omega) | exact b_lss | exact b_leq | exact b_gtr | exact b_geq | exact b_eql | exact b_neq) ?_
            | refine ep_lenS rfl ?_ | refine ep_lenN rfl ?_ | refine ep_lenE rfl ?_ | refine sp_bslice rfl rfl rfl rfl rfl ?_)
          | (refine g_ops ?_; first | refine eo_none ?_ | refine eo_nil ?_)
          | (refine g_code ?_; first | refine ec_seq ?_ | refine ec_region ?_ | refine ec_block ?_ | refine ec_skip ?_ | refine ec_ret ?_ | refine ec_condT rfl ?_ | refine ec_condF rfl ?_ | refine ec_condTH rfl (by assumption) ?_ | refine ec_condFH rfl (by assumption) ?_)
          | refine ek_seqN ?_ | refine ek_seqX ?_ | refine ek_seqR ?_ | refine ek_blkN ?_ | refine ek_blkR ?_ | refine ek_blkX ?_ | refine ek_blkY rfl ?_)
        refine sfin (.inr rfl) (by rfl) (by rfl) (by exact ⟨rfl, rfl, rfl⟩) (by rfl) (by rfl) (by rfl) (by first | rfl | (simp; done) | (simp [ints, prs]; done))
      · have lp := lpni_1 n fs (by omega) (by omega) ha hln hl (by omega) _ (by rw [hs])
        refine has50.eev rfl rfl ?_
        unfold m50
        repeat' (first
          | refine sc_loop lp rfl rfl ⟨rfl, rfl, rfl⟩ rfl rfl rfl ?_
          | (refine g_op ?_; first
            | refine ep_mov rfl ?_
            | refine ep_call0 rfl (by first | exact e1 | exact e2 | exact e3) rfl rfl ?_
            | refine sp_call rfl rfl rfl rfl (by first | exact e1 | exact e2 | exact e3) ⟨rfl, rfl, rfl, rfl⟩ rfl rfl rfl ?_
            | refine ep_bin rfl rfl (by first | exact b_add (by omega) (by omega) | exact b_sub (by omega) (by omega) | exact b_and (by omega) (by omega) | exact b_or (by omega) (by omega) | exact b_shr (by omega) | exact b_shl (by omega) (by omega) | exact b_lss | exact b_leq | exact b_gtr | exact b_geq | exact b_eql | exact b_neq) ?_
            | refine ep_lenS rfl ?_ | refine ep_lenN rfl ?_ | refine ep_lenE rfl ?_ | refine sp_bslice rfl rfl rfl rfl rfl ?_)
          | (refine g_ops ?_; first | refine eo_none ?_ | refine eo_nil ?_)
          | (refine g_code ?_; first | refine ec_seq ?_ | refine ec_region ?_ | refine ec_block ?_ | refine ec_skip ?_ | refine ec_ret ?_ | refine ec_condT rfl ?_ | refine ec_condF rfl ?_ | refine ec_condTH rfl (by assumption) ?_ | refine ec_condFH rfl (by assumption) ?_)
          | refine ek_seqN ?_ | refine ek_seqX ?_ | refine ek_seqR ?_ | refine ek_blkN ?_ | refine ek_blkR ?_ | refine ek_blkX ?_ | refine ek_blkY rfl ?_)
        refine sfin (.inr rfl) (by rfl) (by rfl) (by exact ⟨rfl, rfl, rfl⟩) (by rfl) (by rfl) (by rfl) (by first | rfl | (simp; done) | (simp [ints, prs]; done))
    | cons x xs =>
      by_cases h2 : 2 ≤ fs.length
      · have lp := lpni_n n fs (by omega) (by omega) ha hln hl h2 _ (by rw [hs])
        refine has50.eev rfl rfl ?_
        unfold m50
        repeat' (first
          | refine sc_loop lp rfl rfl ⟨rfl, rfl, rfl⟩ rfl rfl rfl ?_
          | (refine g_op ?_; first
            | refine ep_mov rfl ?_
            | refine ep_call0 rfl (by first | exact e1 | exact e2 | exact e3) rfl rfl ?_
            | refine sp_call rfl rfl rfl rfl (by first | exact e1 | exact e2 | exact e3) ⟨rfl, rfl, rfl, rfl⟩ rfl rfl rfl ?_
            | refine ep_bin rfl rfl (by first | exact b_add (by omega) (by omega) | exact b_sub (by omega) (by omega) | exact b_and (by omega) (by omega) | exact b_or (by omega) (by omega) | exact b_shr (by omega) | exact b_shl (by omega) (by omega) | exact b_lss | exact b_leq | exact b_gtr | exact b_geq | exact b_eql | exact b_neq) ?_
            | refine ep_lenS rfl ?_ | refine ep_lenN rfl ?_ | refine ep_lenE rfl ?_ | refine sp_bslice rfl rfl rfl rfl rfl ?_)
          | (refine g_ops ?_; first | refine eo_none ?_ | refine eo_nil ?_)
          | (refine g_code ?_; first | refine ec_seq ?_ | refine ec_region ?_ | refine ec_block ?_ | refine ec_skip ?_ | refine ec_ret ?_ | refine ec_condT rfl ?_ | refine ec_condF rfl ?_ | refine ec_condTH rfl (by assumption) ?_ | refine ec_condFH rfl (by assumption) ?_)
          | refine ek_seqN ?_ | refine ek_seqX ?_ | refine ek_seqR ?_ | refine ek_blkN ?_ | refine ek_blkR ?_ | refine ek_blkX ?_ | refine ek_blkY rfl ?_)
        refine sfin (.inr rfl) (by rfl) (by rfl) (by exact ⟨rfl, rfl, rfl⟩) (by rfl) (by rfl) (by rfl) (by first | rfl | (simp; done) | (simp [ints, prs]; done))
      · have lp := lpni_1 n fs (by omega) (by omega) ha hln hl (by omega) _ (by rw [hs])
        refine has50.eev rfl rfl ?_
        unfold m50
        repeat' (first
          | refine sc_loop lp rfl rfl ⟨rfl, rfl, rfl⟩ rfl rfl rfl ?_
          | (refine g_op ?_; first
            | refine ep_mov rfl ?_
            | refine ep_call0 rfl (by first | exact e1 | exact e2 | exact e3) rfl rfl ?_
            | refine sp_call rfl rfl rfl rfl (by first | exact e1 | exact e2 | exact e3) ⟨rfl, rfl, rfl, rfl⟩ rfl rfl rfl ?_
            | refine ep_bin rfl rfl (by first | exact b_add (by omega) (by omega) | exact b_sub (by omega) (by omega) | exact b_and (by omega) (by omega) | exact b_or (by omega) (by omega) | exact b_shr (by omega) | exact b_shl (by omega) (by omega) | exact b_lss | exact b_leq | exact b_gtr | exact b_geq | exact b_eql | exact b_neq) ?_
            | refine ep_lenS rfl ?_ | refine ep_lenN rfl ?_ | refine ep_lenE rfl ?_ | refine sp_bslice rfl rfl rfl rfl rfl ?_)
          | (refine g_ops ?_; first | refine eo_none ?_ | refine eo_nil ?_)
          | (refine g_code ?_; first | refine ec_seq ?_ | refine ec_region ?_ | refine ec_block ?_ | refine ec_skip ?_ | refine ec_ret ?_ | refine ec_condT rfl ?_ | refine ec_condF rfl ?_ | refine ec_condTH rfl (by assumption) ?_ | refine ec_condFH rfl (by assumption) ?_)
          | refine ek_seqN ?_ | refine ek_seqX ?_ | refine ek_seqR ?_ | refine ek_blkN ?_ | refine ek_blkR ?_ | refine ek_blkX ?_ | refine ek_blkY rfl ?_)
        refine sfin (.inr rfl) (by rfl) (by rfl) (by exact ⟨rfl, rfl, rfl⟩) (by rfl) (by rfl) (by rfl) (by first | rfl | (simp; done) | (simp [ints, prs]; done))
  · have hL : ndL fs z = [] := if_neg h0
    have hq2 : (gcode fs z != 0) = true := by simpa using h0
    rw [hL]
    refine has50.eev rfl rfl ?_
    unfold m50
    repeat' (first
      | (refine g_op ?_; first
        | refine ep_mov rfl ?_
        | refine ep_call0 rfl (by first | exact e1) rfl rfl ?_
        | refine sp_call rfl rfl rfl rfl (by first | exact e1) ⟨rfl, rfl, rfl, rfl⟩ rfl rfl rfl ?_
        | refine ep_bin rfl rfl (by first | exact b_add (by omega) (by omega) | exact b_sub (by omega) (by omega) | exact b_and (by omega) (by omega) | exact b_or (by omega) (by omega) | exact b_shr (by omega) | exact b_shl (by omega) (by omega) | exact b_lss | exact b_leq | exact b_gtr | exact b_geq | exact b_eql | exact b_neq) ?_
        | refine ep_lenS rfl ?_ | refine ep_lenN rfl ?_ | refine ep_lenE rfl ?_ | refine sp_bslice rfl rfl rfl rfl rfl ?_)
      | (refine g_ops ?_; first | refine eo_none ?_ | refine eo_nil ?_)
      | (refine g_code ?_; first | refine ec_seq ?_ | refine ec_region ?_ | refine ec_block ?_ | refine ec_skip ?_ | refine ec_ret ?_ | refine ec_condT rfl ?_ | refine ec_condF rfl ?_ | refine ec_condTH rfl (by assumption) ?_ | refine ec_condFH rfl (by assumption) ?_)
      | refine ek_seqN ?_ | refine ek_seqX ?_ | refine ek_seqR ?_ | refine ek_blkN ?_ | refine ek_blkR ?_ | refine ek_blkX ?_ | refine ek_blkY rfl ?_)
    refine sfin (.inr rfl) (by rfl) (by rfl) (by exact ⟨rfl, rfl, rfl⟩) (by rfl) (by rfl) (by rfl) (by first | rfl | (simp; done) | (simp [ints, prs]; done))
-- spec.NeededOf
def m49_0 : MC := (.seq (.seq (.region [⟨(.mov (.t 9)), (some 22), none⟩, ⟨(.mov (.t 0)), (some 23), none⟩, ⟨(.len (.t 23)), (some 24), none⟩, ⟨(.bin .lss (.t 22) (.t 24)), (some 25), none⟩] false) (.cond (.t 25) .skip (.exit 0))) (.seq (.block 1 (.seq (.regionL [⟨.empt, (some 28), none⟩, ⟨(.mov (.t 0)), (some 29), none⟩, ⟨(.mov (.t 9)), (some 30), none⟩, ⟨(.slice 2 (.t 29) none (some (.t 30))), (some 31), none⟩, ⟨(.append 2 16 (.t 28) (.t 31)), (some 32), none⟩, ⟨(.mov (.t 0)), (some 33), none⟩, ⟨(.mov (.t 9)), (some 34), none⟩, ⟨(.bin .add (.t 34) (.k (.int .i64 1))), (some 35), none⟩, ⟨(.slice 2 (.t 33) (some (.t 35)) none), (some 36), none⟩, ⟨(.append 2 16 (.t 32) (.t 36)), (some 37), none⟩, ⟨(.mov (.t 37)), (some 10), none⟩] [8]) (.seq (.region [⟨(.mov (.t 10)), (some 38), none⟩, ⟨(.mov (.t 1)), (some 39), none⟩, ⟨(.call 83 [(.t 38), (.t 39)]), (some 40), none⟩, ⟨(.call 82 [(.t 40)]), (some 41), none⟩, ⟨(.mov (.t 7)), (some 42), none⟩, ⟨(.bin .lss (.t 41) (.t 42)), (some 43), none⟩] false) (.cond (.t 43) (.region [⟨(.mov (.t 8)), (some 44), none⟩, ⟨(.mov (.t 9)), (some 45), none⟩, ⟨(.bslice 1 [(.int .i64 0)] 1 [(0, (1, (.t 45)))]), (some 46), none⟩, ⟨(.append 1 8 (.t 44) (.t 46)), (some 47), none⟩, ⟨(.mov (.t 47)), (some 8), none⟩] false) .skip)))) (.region [⟨(.mov (.t 9)), (some 26), none⟩, ⟨(.bin .add (.t 26) (.k (.int .i64 1))), (some 27), none⟩, ⟨(.mov (.t 27)), (some 9), none⟩] false)))
def m49 : MC := (.seq (.region [⟨(.mov (.k .nils)), (some 4), none⟩, ⟨(.mov (.k (.int .i64 0))), (some 5), none⟩] false) (.seq (.seq (.region [⟨(.mov (.t 0)), (some 11), none⟩, ⟨(.mov (.t 1)), (some 12), none⟩, ⟨(.call 81 [(.t 11), (.t 12)]), (some 13), none⟩, ⟨(.mov (.t 13)), (some 6), none⟩] false) (.seq (.region [⟨(.mov (.t 6)), (some 14), none⟩, ⟨(.bin .neq (.t 14) (.k (.int .i64 0))), (some 15), none⟩] false) (.cond (.t 15) (.seq (.region [⟨(.mov (.t 6)), (some 16), none⟩, ⟨(.mov (.k .nils)), (some 4), none⟩, ⟨(.mov (.t 16)), (some 5), none⟩] false) .ret) .skip))) (.seq (.region [⟨(.mov (.t 0)), (some 17), none⟩, ⟨(.mov (.t 1)), (some 18), none⟩, ⟨(.call 83 [(.t 17), (.t 18)]), (some 19), none⟩, ⟨(.call 82 [(.t 19)]), (some 20), none⟩, ⟨.empt, (some 21), none⟩, ⟨(.mov (.t 20)), (some 7), none⟩, ⟨(.mov (.t 21)), (some 8), none⟩] false) (.seq (.seq (.region [⟨(.mov (.k (.int .i64 0))), (some 9), none⟩] false) (.block 0 (.loop m49_0))) (.seq (.region [⟨(.mov (.t 8)), (some 48), none⟩, ⟨(.mov (.t 48)), (some 4), none⟩, ⟨(.mov (.k (.int .i64 0))), (some 5), none⟩] false) .ret)))))
theorem has49 : Has cx 49 49 m49 [(.tmp 4), (.tmp 5)] :=
  ⟨⟨Try.f49, Try.f49.body.getD .skip, by kernel_rfl, by kernel_rfl, by kernel_rfl, by kernel_rfl, by kernel_rfl, by kernel_rfl⟩⟩
theorem rowOf_at0 {h : Heap} {i o n : Nat} {c : List V} {cl : Nat} {pr : Option Nat} (hb : h[i]? = some ⟨c, 2, cl, pr, false⟩) (hn : n = 0) : rowOf h 2 (.sl i o n) = some ([], 0) := by
  subst hn; simp only [rowOf, hb]; simp
theorem lpns_1 (n : Nat) (fs : List (Int × Int)) (hn1 : 1 ≤ n) (hn : n ≤ 3) (hall : allFunc fs = true) (hln : fs.length ≤ 1048576) (h8 : fs.length ≤ 8) (h2 : fs.length ≤ 1) (o : Out) (ho : (match selm (ndP fs n) (idn) (fs.length) with | [] => (⟨.exit 0, [(8, .emp)], [⟨fns fs, 2, 0, some 0, false⟩]⟩ : Out) | x :: xs => ⟨.exit 0, [(8, .sl 1 0 (x :: xs).length)], [⟨fns fs, 2, 0, some 0, false⟩, ⟨ints (x :: xs), 1, 1, some 0, false⟩]⟩) = o) :
    LpS cx 49 1 m49_0 [(0, .sl 0 0 fs.length), (1, .int .i64 (n : Nat)), (7, .int .i64 ((kwS (R2 (R2 n)) (depL fs n)).length : Nat)), (8, .emp), (9, .int .i64 (0 : Nat))] [⟨fns fs, 2, 0, some 0, false⟩] o.x o.e o.h := by
  subst ho
  refine lp_st (fs.length) (selm (ndP fs n) (idn)) (fun i s => match s with | [] => [(0, .sl 0 0 fs.length), (1, .int .i64 (n : Nat)), (7, .int .i64 ((kwS (R2 (R2 n)) (depL fs n)).length : Nat)), (8, .emp), (9, .int .i64 (i : Nat))] | x :: xs => [(0, .sl 0 0 fs.length), (1, .int .i64 (n : Nat)), (7, .int .i64 ((kwS (R2 (R2 n)) (depL fs n)).length : Nat)), (8, .sl 1 0 (x :: xs).length), (9, .int .i64 (i : Nat))]) (fun i s => match s with | [] => [⟨fns fs, 2, 0, some 0, false⟩] | x :: xs => [⟨fns fs, 2, 0, some 0, false⟩, ⟨ints (x :: xs), 1, 1, some 0, false⟩]) (fun s => match s with | [] => ⟨.exit 0, [(8, .emp)], [⟨fns fs, 2, 0, some 0, false⟩]⟩ | x :: xs => ⟨.exit 0, [(8, .sl 1 0 (x :: xs).length)], [⟨fns fs, 2, 0, some 0, false⟩, ⟨ints (x :: xs), 1, 1, some 0, false⟩]⟩) ?_ ?_ (fs.length) 0 (by omega)
  · intro i s hi hs
    have hlt : decide ((i : Int) < (fs.length : Nat)) = true := decide_eq_true (by omega)
    have hle : decide ((i : Int) ≤ (fs.length : Nat) - 1) = true := decide_eq_true (by omega)
    have hlen : s.length ≤ 65536 := by have := selm_len (ndP fs n) (idn) i; rw [hs] at this; omega
    cases hp : (ndP fs n) i with
    | true =>
      have hp' : ((ndP fs n) i) = true := hp
      rcases (show fs.length = 1 by omega) with h1
      · have hz1 : i = 0 := by omega
        have hz2 : fs.length - i - 1 = 0 := by omega
        have hdl := depL_len (wo fs i) n
        have hn6 := (shN (n := n) (by omega)).2.1
        have hq' : (ndP fs n i) = decide (((kwS (R2 (R2 n)) (depL (wo fs i) n)).length : Int) < ((kwS (R2 (R2 n)) (depL fs n)).length : Nat)) := rfl
        have hadd := b_addN (a := i) (b := 1) (by omega)
        have hwl := wo_len hi
        have hi0 : i = 0 := by omega
        rw [wo_nil h1 hi0] at hdl hq'
        have e1 := evdpz n hn1 hn
        have e2 := evcnS (R2 (R2 n)) (depL [] n) hdl hn6
        generalize kwS (R2 (R2 n)) (depL [] n) = L at *
        rw [hp] at hq'
        have hq := hq'.symm
        cases s with
        | nil =>
          refine ⟨[(idn) i], by rw [selm_t (p := ndP fs n) hp, hs]; try rfl, ?_⟩
          unfold m49_0
          repeat' (first
            | refine ep_slice (p := 0) (q := (i : Nat)) (o' := 0) (n' := i) rfl rfl rfl (.inl ⟨rfl, rfl⟩) (.inr ⟨_, rfl⟩) ⟨by omega, by omega, by omega, rfl, by omega⟩ rfl rfl ?_
            | refine ep_slice (p := (i + 1 : Nat)) (q := (fs.length : Nat)) (o' := (i + 1) * 2) (n' := fs.length - i - 1) rfl rfl rfl (.inr ⟨_, rfl⟩) (.inl ⟨rfl, rfl⟩) ⟨by omega, by omega, by omega, by simp, by omega⟩ rfl rfl ?_
            | refine ep_appE rfl (.inr rfl) rfl (rowOf_at0 rfl hz1) ?_
            | refine ep_appE rfl (.inr rfl) rfl (rowOf_at0 rfl hz2) ?_
            | (refine g_op ?_; first
              | refine ep_mov rfl ?_
              | refine ep_call0 rfl (by first | exact e1 | exact e2) rfl rfl ?_
              | refine sp_call rfl rfl rfl rfl (by first | exact e1 | exact e2) ⟨rfl, rfl, rfl, rfl⟩ rfl rfl rfl ?_
              | refine ep_bin rfl rfl (by first | exact hadd | exact b_add (by omega) (by omega) | exact b_sub (by omega) (by omega) | exact b_and (by omega) (by omega) | exact b_or (by omega) (by omega) | exact b_shr (by omega) | exact b_shl (by omega) (by omega) | exact b_lss | exact b_leq | exact b_gtr | exact b_geq | exact b_eql | exact b_neq) ?_
              | refine ep_lenS rfl ?_ | refine ep_lenN rfl ?_ | refine ep_lenE rfl ?_ | refine sp_bslice rfl rfl rfl rfl rfl ?_ | refine sp_push0 rfl (by first | exact .inl rfl | exact .inr rfl) rfl rfl rfl rfl rfl (by decide) rfl rfl rfl ?_
              | refine sp_push rfl rfl rfl rfl rfl rfl rfl (by first | exact ints_len _ | exact prs_len _ _ | exact zints_len _) (by omega) (Nat.zero_le _) rfl rfl rfl rfl rfl ?_ | refine ep_empt ?_)
            | (refine g_ops ?_; first | refine eo_none ?_ | refine eo_nil ?_)
            | (refine g_lops ?_; first | refine el_none rfl ?_ | refine el_nil ?_)
            | refine el_same rfl ?_ | refine el_one rfl rfl rfl rfl rfl ?_ | refine el_write rfl rfl rfl ?_
            | (refine g_code ?_; first | refine ec_seq ?_ | refine ec_region ?_ | refine ec_drawL (X := [0]) rfl ?_ | refine ec_block ?_ | refine ec_skip ?_ | refine ec_exit ?_ | refine ec_condT rfl ?_ | refine ec_condF rfl ?_ | refine ec_condTH rfl (by assumption) ?_ | refine ec_condFH rfl (by assumption) ?_)
            | refine ek_seqN ?_ | refine ek_seqX ?_ | refine ek_blkN ?_ | refine ek_blkR ?_ | refine ek_blkX ?_ | refine ek_blkY rfl ?_)
          exact rnd_on (by rfl) (scmp2 (by rfl) (by rfl) (by exact ⟨rfl, rfl, rfl⟩) (by rfl) (by first | rfl | (simp; done) | (simp [ints, prs]; done)) (by rfl) (by first | rfl | (simp; done) | (simp [ints, prs]; done)))
        | cons x xs =>
          refine ⟨(x :: xs) ++ [(idn) i], by rw [selm_t (p := ndP fs n) hp, hs]; try rfl, ?_⟩
          unfold m49_0
          repeat' (first
            | refine ep_slice (p := 0) (q := (i : Nat)) (o' := 0) (n' := i) rfl rfl rfl (.inl ⟨rfl, rfl⟩) (.inr ⟨_, rfl⟩) ⟨by omega, by omega, by omega, rfl, by omega⟩ rfl rfl ?_
            | refine ep_slice (p := (i + 1 : Nat)) (q := (fs.length : Nat)) (o' := (i + 1) * 2) (n' := fs.length - i - 1) rfl rfl rfl (.inr ⟨_, rfl⟩) (.inl ⟨rfl, rfl⟩) ⟨by omega, by omega, by omega, by simp, by omega⟩ rfl rfl ?_
            | refine ep_appE rfl (.inr rfl) rfl (rowOf_at0 rfl hz1) ?_
            | refine ep_appE rfl (.inr rfl) rfl (rowOf_at0 rfl hz2) ?_
            | (refine g_op ?_; first
              | refine ep_mov rfl ?_
              | refine ep_call0 rfl (by first | exact e1 | exact e2) rfl rfl ?_
              | refine sp_call rfl rfl rfl rfl (by first | exact e1 | exact e2) ⟨rfl, rfl, rfl, rfl⟩ rfl rfl rfl ?_
              | refine ep_bin rfl rfl (by first | exact hadd | exact b_add (by omega) (by omega) | exact b_sub (by omega) (by omega) | exact b_and (by omega) (by omega) | exact b_or (by omega) (by omega) | exact b_shr (by omega) | exact b_shl (by omega) (by omega) | exact b_lss | exact b_leq | exact b_gtr | exact b_geq | exact b_eql | exact b_neq) ?_
              | refine ep_lenS rfl ?_ | refine ep_lenN rfl ?_ | refine ep_lenE rfl ?_ | refine sp_bslice rfl rfl rfl rfl rfl ?_ | refine sp_push0 rfl (by first | exact .inl rfl | exact .inr rfl) rfl rfl rfl rfl rfl (by decide) rfl rfl rfl ?_
              | refine sp_push rfl rfl rfl rfl rfl rfl rfl (by first | exact ints_len _ | exact prs_len _ _ | exact zints_len _) (by omega) (Nat.zero_le _) rfl rfl rfl rfl rfl ?_ | refine ep_empt ?_)
            | (refine g_ops ?_; first | refine eo_none ?_ | refine eo_nil ?_)
            | (refine g_lops ?_; first | refine el_none rfl ?_ | refine el_nil ?_)
            | refine el_same rfl ?_ | refine el_one rfl rfl rfl rfl rfl ?_ | refine el_write rfl rfl rfl ?_
            | (refine g_code ?_; first | refine ec_seq ?_ | refine ec_region ?_ | refine ec_drawL (X := [0]) rfl ?_ | refine ec_block ?_ | refine ec_skip ?_ | refine ec_exit ?_ | refine ec_condT rfl ?_ | refine ec_condF rfl ?_ | refine ec_condTH rfl (by assumption) ?_ | refine ec_condFH rfl (by assumption) ?_)
            | refine ek_seqN ?_ | refine ek_seqX ?_ | refine ek_blkN ?_ | refine ek_blkR ?_ | refine ek_blkX ?_ | refine ek_blkY rfl ?_)
          exact rnd_on (by rfl) (scmp2 (by rfl) (by rfl) (by exact ⟨rfl, rfl, rfl⟩) (by rfl) (by first | rfl | (simp; done) | (simp [ints, prs]; done)) (by rfl) (by first | rfl | (simp; done) | (simp [ints, prs]; done)))
    | false =>
      have hp' : ((ndP fs n) i) = false := hp
      rcases (show fs.length = 1 by omega) with h1
      · have hz1 : i = 0 := by omega
        have hz2 : fs.length - i - 1 = 0 := by omega
        have hdl := depL_len (wo fs i) n
        have hn6 := (shN (n := n) (by omega)).2.1
        have hq' : (ndP fs n i) = decide (((kwS (R2 (R2 n)) (depL (wo fs i) n)).length : Int) < ((kwS (R2 (R2 n)) (depL fs n)).length : Nat)) := rfl
        have hadd := b_addN (a := i) (b := 1) (by omega)
        have hwl := wo_len hi
        have hi0 : i = 0 := by omega
        rw [wo_nil h1 hi0] at hdl hq'
        have e1 := evdpz n hn1 hn
        have e2 := evcnS (R2 (R2 n)) (depL [] n) hdl hn6
        generalize kwS (R2 (R2 n)) (depL [] n) = L at *
        rw [hp] at hq'
        have hq := hq'.symm
        cases s with
        | nil =>
          refine ⟨[], by rw [selm_f (p := ndP fs n) hp, hs]; try rfl, ?_⟩
          unfold m49_0
          repeat' (first
            | refine ep_slice (p := 0) (q := (i : Nat)) (o' := 0) (n' := i) rfl rfl rfl (.inl ⟨rfl, rfl⟩) (.inr ⟨_, rfl⟩) ⟨by omega, by omega, by omega, rfl, by omega⟩ rfl rfl ?_
            | refine ep_slice (p := (i + 1 : Nat)) (q := (fs.length : Nat)) (o' := (i + 1) * 2) (n' := fs.length - i - 1) rfl rfl rfl (.inr ⟨_, rfl⟩) (.inl ⟨rfl, rfl⟩) ⟨by omega, by omega, by omega, by simp, by omega⟩ rfl rfl ?_
            | refine ep_appE rfl (.inr rfl) rfl (rowOf_at0 rfl hz1) ?_
            | refine ep_appE rfl (.inr rfl) rfl (rowOf_at0 rfl hz2) ?_
            | (refine g_op ?_; first
              | refine ep_mov rfl ?_
              | refine ep_call0 rfl (by first | exact e1 | exact e2) rfl rfl ?_
              | refine sp_call rfl rfl rfl rfl (by first | exact e1 | exact e2) ⟨rfl, rfl, rfl, rfl⟩ rfl rfl rfl ?_
              | refine ep_bin rfl rfl (by first | exact hadd | exact b_add (by omega) (by omega) | exact b_sub (by omega) (by omega) | exact b_and (by omega) (by omega) | exact b_or (by omega) (by omega) | exact b_shr (by omega) | exact b_shl (by omega) (by omega) | exact b_lss | exact b_leq | exact b_gtr | exact b_geq | exact b_eql | exact b_neq) ?_
              | refine ep_lenS rfl ?_ | refine ep_lenN rfl ?_ | refine ep_lenE rfl ?_ | refine sp_bslice rfl rfl rfl rfl rfl ?_ | refine sp_push0 rfl (by first | exact .inl rfl | exact .inr rfl) rfl rfl rfl rfl rfl (by decide) rfl rfl rfl ?_
              | refine sp_push rfl rfl rfl rfl rfl rfl rfl (by first | exact ints_len _ | exact prs_len _ _ | exact zints_len _) (by omega) (Nat.zero_le _) rfl rfl rfl rfl rfl ?_ | refine ep_empt ?_)
            | (refine g_ops ?_; first | refine eo_none ?_ | refine eo_nil ?_)
            | (refine g_lops ?_; first | refine el_none rfl ?_ | refine el_nil ?_)
            | refine el_same rfl ?_ | refine el_one rfl rfl rfl rfl rfl ?_ | refine el_write rfl rfl rfl ?_
            | (refine g_code ?_; first | refine ec_seq ?_ | refine ec_region ?_ | refine ec_drawL (X := [0]) rfl ?_ | refine ec_block ?_ | refine ec_skip ?_ | refine ec_exit ?_ | refine ec_condT rfl ?_ | refine ec_condF rfl ?_ | refine ec_condTH rfl (by assumption) ?_ | refine ec_condFH rfl (by assumption) ?_)
            | refine ek_seqN ?_ | refine ek_seqX ?_ | refine ek_blkN ?_ | refine ek_blkR ?_ | refine ek_blkX ?_ | refine ek_blkY rfl ?_)
          exact rnd_on (by rfl) (scmp2 (by rfl) (by rfl) (by exact ⟨rfl, rfl, rfl⟩) (by rfl) (by first | rfl | (simp; done) | (simp [ints, prs]; done)) (by rfl) (by first | rfl | (simp; done) | (simp [ints, prs]; done)))
        | cons x xs =>
          refine ⟨x :: xs, by rw [selm_f (p := ndP fs n) hp, hs]; try rfl, ?_⟩
          unfold m49_0
          repeat' (first
            | refine ep_slice (p := 0) (q := (i : Nat)) (o' := 0) (n' := i) rfl rfl rfl (.inl ⟨rfl, rfl⟩) (.inr ⟨_, rfl⟩) ⟨by omega, by omega, by omega, rfl, by omega⟩ rfl rfl ?_
            | refine ep_slice (p := (i + 1 : Nat)) (q := (fs.length : Nat)) (o' := (i + 1) * 2) (n' := fs.length - i - 1) rfl rfl rfl (.inr ⟨_, rfl⟩) (.inl ⟨rfl, rfl⟩) ⟨by omega, by omega, by omega, by simp, by omega⟩ rfl rfl ?_
            | refine ep_appE rfl (.inr rfl) rfl (rowOf_at0 rfl hz1) ?_
            | refine ep_appE rfl (.inr rfl) rfl (rowOf_at0 rfl hz2) ?_
            | (refine g_op ?_; first
              | refine ep_mov rfl ?_
              | refine ep_call0 rfl (by first | exact e1 | exact e2) rfl rfl ?_
              | refine sp_call rfl rfl rfl rfl (by first | exact e1 | exact e2) ⟨rfl, rfl, rfl, rfl⟩ rfl rfl rfl ?_
              | refine ep_bin rfl rfl (by first | exact hadd | exact b_add (by omega) (by omega) | exact b_sub (by omega) (by omega) | exact b_and (by omega) (by omega) | exact b_or (by omega) (by omega) | exact b_shr (by omega) | exact b_shl (by omega) (by omega) | exact b_lss | exact b_leq | exact b_gtr | exact b_geq | exact b_eql | exact b_neq) ?_
              | refine ep_lenS rfl ?_ | refine ep_lenN rfl ?_ | refine ep_lenE rfl ?_ | refine sp_bslice rfl rfl rfl rfl rfl ?_ | refine sp_push0 rfl (by first | exact .inl rfl | exact .inr rfl) rfl rfl rfl rfl rfl (by decide) rfl rfl rfl ?_
              | refine sp_push rfl rfl rfl rfl rfl rfl rfl (by first | exact ints_len _ | exact prs_len _ _ | exact zints_len _) (by omega) (Nat.zero_le _) rfl rfl rfl rfl rfl ?_ | refine ep_empt ?_)
            | (refine g_ops ?_; first | refine eo_none ?_ | refine eo_nil ?_)
            | (refine g_lops ?_; first | refine el_none rfl ?_ | refine el_nil ?_)
            | refine el_same rfl ?_ | refine el_one rfl rfl rfl rfl rfl ?_ | refine el_write rfl rfl rfl ?_
            | (refine g_code ?_; first | refine ec_seq ?_ | refine ec_region ?_ | refine ec_drawL (X := [0]) rfl ?_ | refine ec_block ?_ | refine ec_skip ?_ | refine ec_exit ?_ | refine ec_condT rfl ?_ | refine ec_condF rfl ?_ | refine ec_condTH rfl (by assumption) ?_ | refine ec_condFH rfl (by assumption) ?_)
            | refine ek_seqN ?_ | refine ek_seqX ?_ | refine ek_blkN ?_ | refine ek_blkR ?_ | refine ek_blkX ?_ | refine ek_blkY rfl ?_)
          exact rnd_on (by rfl) (scmp2 (by rfl) (by rfl) (by exact ⟨rfl, rfl, rfl⟩) (by rfl) (by first | rfl | (simp; done) | (simp [ints, prs]; done)) (by rfl) (by first | rfl | (simp; done) | (simp [ints, prs]; done)))
  · intro s hs
    have hlt : decide (((fs.length : Nat) : Int) < (fs.length : Nat)) = false := decide_eq_false (by omega)
    have hle : decide (((fs.length : Nat) : Int) ≤ (fs.length : Nat) - 1) = false := decide_eq_false (by omega)
    cases s with
    | nil =>
      unfold m49_0
      repeat' (first
        | (refine g_op ?_; first
          | refine ep_mov rfl ?_
          | refine ep_bin rfl rfl (by first | exact b_add (by omega) (by omega) | exact b_sub (by omega) (by omega) | exact b_and (by omega) (by omega) | exact b_or (by omega) (by omega) | exact b_shr (by omega) | exact b_shl (by omega) (by omega) | exact b_lss | exact b_leq | exact b_gtr | exact b_geq | exact b_eql | exact b_neq) ?_
          | refine ep_lenS rfl ?_ | refine ep_lenN rfl ?_ | refine ep_lenE rfl ?_ | refine sp_bslice rfl rfl rfl rfl rfl ?_ | refine sp_push0 rfl (by first | exact .inl rfl | exact .inr rfl) rfl rfl rfl rfl rfl (by decide) rfl rfl rfl ?_
          | refine sp_push rfl rfl rfl rfl rfl rfl rfl (by first | exact ints_len _ | exact prs_len _ _ | exact zints_len _) (by omega) (Nat.zero_le _) rfl rfl rfl rfl rfl ?_ | refine ep_empt ?_)
        | (refine g_ops ?_; first | refine eo_none ?_ | refine eo_nil ?_)
        | (refine g_lops ?_; first | refine el_none rfl ?_ | refine el_nil ?_)
        | refine el_same rfl ?_ | refine el_one rfl rfl rfl rfl rfl ?_ | refine el_write rfl rfl rfl ?_
        | (refine g_code ?_; first | refine ec_seq ?_ | refine ec_region ?_ | refine ec_drawL (X := []) rfl ?_ | refine ec_block ?_ | refine ec_skip ?_ | refine ec_exit ?_ | refine ec_condT rfl ?_ | refine ec_condF rfl ?_ | refine ec_condTH rfl (by assumption) ?_ | refine ec_condFH rfl (by assumption) ?_)
        | refine ek_seqN ?_ | refine ek_seqX ?_ | refine ek_blkN ?_ | refine ek_blkR ?_ | refine ek_blkX ?_ | refine ek_blkY rfl ?_)
      exact rnd_out (by rfl) (by simp) (scmp2 (by rfl) (by rfl) (by exact ⟨rfl, rfl, rfl⟩) (by rfl) (by first | rfl | (simp; done) | (simp [ints, prs]; done)) (by rfl) (by first | rfl | (simp; done) | (simp [ints, prs]; done)))
    | cons x xs =>
      unfold m49_0
      repeat' (first
        | (refine g_op ?_; first
          | refine ep_mov rfl ?_
          | refine ep_bin rfl rfl (by first | exact b_add (by omega) (by omega) | exact b_sub (by omega) (by omega) | exact b_and (by omega) (by omega) | exact b_or (by omega) (by omega) | exact b_shr (by omega) | exact b_shl (by omega) (by omega) | exact b_lss | exact b_leq | exact b_gtr | exact b_geq | exact b_eql | exact b_neq) ?_
          | refine ep_lenS rfl ?_ | refine ep_lenN rfl ?_ | refine ep_lenE rfl ?_ | refine sp_bslice rfl rfl rfl rfl rfl ?_ | refine sp_push0 rfl (by first | exact .inl rfl | exact .inr rfl) rfl rfl rfl rfl rfl (by decide) rfl rfl rfl ?_
          | refine sp_push rfl rfl rfl rfl rfl rfl rfl (by first | exact ints_len _ | exact prs_len _ _ | exact zints_len _) (by omega) (Nat.zero_le _) rfl rfl rfl rfl rfl ?_ | refine ep_empt ?_)
        | (refine g_ops ?_; first | refine eo_none ?_ | refine eo_nil ?_)
        | (refine g_lops ?_; first | refine el_none rfl ?_ | refine el_nil ?_)
        | refine el_same rfl ?_ | refine el_one rfl rfl rfl rfl rfl ?_ | refine el_write rfl rfl rfl ?_
        | (refine g_code ?_; first | refine ec_seq ?_ | refine ec_region ?_ | refine ec_drawL (X := []) rfl ?_ | refine ec_block ?_ | refine ec_skip ?_ | refine ec_exit ?_ | refine ec_condT rfl ?_ | refine ec_condF rfl ?_ | refine ec_condTH rfl (by assumption) ?_ | refine ec_condFH rfl (by assumption) ?_)
        | refine ek_seqN ?_ | refine ek_seqX ?_ | refine ek_blkN ?_ | refine ek_blkR ?_ | refine ek_blkX ?_ | refine ek_blkY rfl ?_)
      exact rnd_out (by rfl) (by simp) (scmp2 (by rfl) (by rfl) (by exact ⟨rfl, rfl, rfl⟩) (by rfl) (by first | rfl | (simp; done) | (simp [ints, prs]; done)) (by rfl) (by first | rfl | (simp; done) | (simp [ints, prs]; done)))
theorem lpns_n (n : Nat) (fs : List (Int × Int)) (hn1 : 1 ≤ n) (hn : n ≤ 3) (hall : allFunc fs = true) (hln : fs.length ≤ 1048576) (h8 : fs.length ≤ 8) (h2 : 2 ≤ fs.length) (o : Out) (ho : (match selm (ndP fs n) (idn) (fs.length) with | [] => (⟨.exit 0, [(8, .emp)], [⟨fns fs, 2, 0, some 0, false⟩]⟩ : Out) | x :: xs => ⟨.exit 0, [(8, .sl 1 0 (x :: xs).length)], [⟨fns fs, 2, 0, some 0, false⟩, ⟨ints (x :: xs), 1, 1, some 0, false⟩]⟩) = o) :
    LpS cx 49 1 m49_0 [(0, .sl 0 0 fs.length), (1, .int .i64 (n : Nat)), (7, .int .i64 ((kwS (R2 (R2 n)) (depL fs n)).length : Nat)), (8, .emp), (9, .int .i64 (0 : Nat))] [⟨fns fs, 2, 0, some 0, false⟩] o.x o.e o.h := by
  subst ho
  refine lp_st (fs.length) (selm (ndP fs n) (idn)) (fun i s => match s with | [] => [(0, .sl 0 0 fs.length), (1, .int .i64 (n : Nat)), (7, .int .i64 ((kwS (R2 (R2 n)) (depL fs n)).length : Nat)), (8, .emp), (9, .int .i64 (i : Nat))] | x :: xs => [(0, .sl 0 0 fs.length), (1, .int .i64 (n : Nat)), (7, .int .i64 ((kwS (R2 (R2 n)) (depL fs n)).length : Nat)), (8, .sl 1 0 (x :: xs).length), (9, .int .i64 (i : Nat))]) (fun i s => match s with | [] => [⟨fns fs, 2, 0, some 0, false⟩] | x :: xs => [⟨fns fs, 2, 0, some 0, false⟩, ⟨ints (x :: xs), 1, 1, some 0, false⟩]) (fun s => match s with | [] => ⟨.exit 0, [(8, .emp)], [⟨fns fs, 2, 0, some 0, false⟩]⟩ | x :: xs => ⟨.exit 0, [(8, .sl 1 0 (x :: xs).length)], [⟨fns fs, 2, 0, some 0, false⟩, ⟨ints (x :: xs), 1, 1, some 0, false⟩]⟩) ?_ ?_ (fs.length) 0 (by omega)
  · intro i s hi hs
    have hlt : decide ((i : Int) < (fs.length : Nat)) = true := decide_eq_true (by omega)
    have hle : decide ((i : Int) ≤ (fs.length : Nat) - 1) = true := decide_eq_true (by omega)
    have hlen : s.length ≤ 65536 := by have := selm_len (ndP fs n) (idn) i; rw [hs] at this; omega
    cases hp : (ndP fs n) i with
    | true =>
      have hp' : ((ndP fs n) i) = true := hp
      rcases Nat.eq_zero_or_pos i with hi0 | hip
      · have hdl := depL_len (wo fs i) n
        have hn6 := (shN (n := n) (by omega)).2.1
        have hq' : (ndP fs n i) = decide (((kwS (R2 (R2 n)) (depL (wo fs i) n)).length : Int) < ((kwS (R2 (R2 n)) (depL fs n)).length : Nat)) := rfl
        have hadd := b_addN (a := i) (b := 1) (by omega)
        have hwl := wo_len hi
        have e1 := ev83 n (wo fs i) hn1 hn (wo_allF hi hall) (by omega)
        have e2 := evcnS (R2 (R2 n)) (depL (wo fs i) n) hdl hn6
        have hr : ((fns fs).drop ((i + 1) * 2)).take ((fs.length - i - 1) * 2) = fns (fs.drop (i + 1)) := by
          rw [fns_drop, fns_take, List.take_of_length_le (by simp; omega)]
        have hf3 : (((fns fs).drop ((i + 1) * 2)).take ((fs.length - i - 1) * 2)).length = (fs.length - i - 1) * 2 := by rw [hr, fns_len, List.length_drop]; omega
        have hw0 : wo fs i = fs.drop (i + 1) := by rw [wo, hi0]; simp
        rw [← hw0] at hr
        have hl2 : (wo fs i).length = fs.length - i - 1 := by omega
        rw [hl2] at e1
        generalize kwS (R2 (R2 n)) (depL (wo fs i) n) = L at *
        rw [hp] at hq'
        have hq := hq'.symm
        cases s with
        | nil =>
          refine ⟨[(idn) i], by rw [selm_t (p := ndP fs n) hp, hs]; try rfl, ?_⟩
          unfold m49_0
          repeat' (first
            | refine ep_slice (p := 0) (q := (i : Nat)) (o' := 0) (n' := i) rfl rfl rfl (.inl ⟨rfl, rfl⟩) (.inr ⟨_, rfl⟩) ⟨by omega, by omega, by omega, rfl, by omega⟩ rfl rfl ?_
            | refine ep_slice (p := (i + 1 : Nat)) (q := (fs.length : Nat)) (o' := (i + 1) * 2) (n' := fs.length - i - 1) rfl rfl rfl (.inr ⟨_, rfl⟩) (.inl ⟨rfl, rfl⟩) ⟨by omega, by omega, by omega, by simp, by omega⟩ rfl rfl ?_
            | refine ep_appE rfl (.inr rfl) rfl (rowOf_at0 rfl hi0) ?_
            | refine sp_app0 (l := fns (wo fs i)) rfl (.inr rfl) rfl (rowOf_at rfl hr) ⟨by rw [fns_len]; omega, by omega, by omega⟩ (.inr ⟨_, _, _, rfl, rfl, rfl⟩) rfl rfl ?_
            | (refine g_op ?_; first
              | refine ep_mov rfl ?_
              | refine ep_call0 rfl (by first | exact e1 | exact e2) rfl rfl ?_
              | refine sp_call rfl rfl rfl rfl (by first | exact e1 | exact e2) ⟨rfl, rfl, rfl, rfl⟩ rfl rfl rfl ?_
              | refine ep_bin rfl rfl (by first | exact hadd | exact b_add (by omega) (by omega) | exact b_sub (by omega) (by omega) | exact b_and (by omega) (by omega) | exact b_or (by omega) (by omega) | exact b_shr (by omega) | exact b_shl (by omega) (by omega) | exact b_lss | exact b_leq | exact b_gtr | exact b_geq | exact b_eql | exact b_neq) ?_
              | refine ep_lenS rfl ?_ | refine ep_lenN rfl ?_ | refine ep_lenE rfl ?_ | refine sp_bslice rfl rfl rfl rfl rfl ?_ | refine sp_push0 rfl (by first | exact .inl rfl | exact .inr rfl) rfl rfl rfl rfl rfl (by decide) rfl rfl rfl ?_
              | refine sp_push rfl rfl rfl rfl rfl rfl rfl (by first | exact ints_len _ | exact prs_len _ _ | exact zints_len _) (by omega) (Nat.zero_le _) rfl rfl rfl rfl rfl ?_ | refine ep_empt ?_)
            | (refine g_ops ?_; first | refine eo_none ?_ | refine eo_nil ?_)
            | (refine g_lops ?_; first | refine el_none rfl ?_ | refine el_nil ?_)
            | refine el_same rfl ?_ | refine el_one rfl rfl rfl rfl rfl ?_ | refine el_write rfl rfl rfl ?_
            | (refine g_code ?_; first | refine ec_seq ?_ | refine ec_region ?_ | refine ec_drawL (X := [0]) rfl ?_ | refine ec_block ?_ | refine ec_skip ?_ | refine ec_exit ?_ | refine ec_condT rfl ?_ | refine ec_condF rfl ?_ | refine ec_condTH rfl (by assumption) ?_ | refine ec_condFH rfl (by assumption) ?_)
            | refine ek_seqN ?_ | refine ek_seqX ?_ | refine ek_blkN ?_ | refine ek_blkR ?_ | refine ek_blkX ?_ | refine ek_blkY rfl ?_)
          exact rnd_on (by rfl) (scmp2 (by rfl) (by rfl) (by exact ⟨rfl, rfl, rfl⟩) (by rfl) (by first | rfl | (simp; done) | (simp [ints, prs]; done)) (by rfl) (by first | rfl | (simp; done) | (simp [ints, prs]; done)))
        | cons x xs =>
          refine ⟨(x :: xs) ++ [(idn) i], by rw [selm_t (p := ndP fs n) hp, hs]; try rfl, ?_⟩
          unfold m49_0
          repeat' (first
            | refine ep_slice (p := 0) (q := (i : Nat)) (o' := 0) (n' := i) rfl rfl rfl (.inl ⟨rfl, rfl⟩) (.inr ⟨_, rfl⟩) ⟨by omega, by omega, by omega, rfl, by omega⟩ rfl rfl ?_
            | refine ep_slice (p := (i + 1 : Nat)) (q := (fs.length : Nat)) (o' := (i + 1) * 2) (n' := fs.length - i - 1) rfl rfl rfl (.inr ⟨_, rfl⟩) (.inl ⟨rfl, rfl⟩) ⟨by omega, by omega, by omega, by simp, by omega⟩ rfl rfl ?_
            | refine ep_appE rfl (.inr rfl) rfl (rowOf_at0 rfl hi0) ?_
            | refine sp_app0 (l := fns (wo fs i)) rfl (.inr rfl) rfl (rowOf_at rfl hr) ⟨by rw [fns_len]; omega, by omega, by omega⟩ (.inr ⟨_, _, _, rfl, rfl, rfl⟩) rfl rfl ?_
            | (refine g_op ?_; first
              | refine ep_mov rfl ?_
              | refine ep_call0 rfl (by first | exact e1 | exact e2) rfl rfl ?_
              | refine sp_call rfl rfl rfl rfl (by first | exact e1 | exact e2) ⟨rfl, rfl, rfl, rfl⟩ rfl rfl rfl ?_
              | refine ep_bin rfl rfl (by first | exact hadd | exact b_add (by omega) (by omega) | exact b_sub (by omega) (by omega) | exact b_and (by omega) (by omega) | exact b_or (by omega) (by omega) | exact b_shr (by omega) | exact b_shl (by omega) (by omega) | exact b_lss | exact b_leq | exact b_gtr | exact b_geq | exact b_eql | exact b_neq) ?_
              | refine ep_lenS rfl ?_ | refine ep_lenN rfl ?_ | refine ep_lenE rfl ?_ | refine sp_bslice rfl rfl rfl rfl rfl ?_ | refine sp_push0 rfl (by first | exact .inl rfl | exact .inr rfl) rfl rfl rfl rfl rfl (by decide) rfl rfl rfl ?_
              | refine sp_push rfl rfl rfl rfl rfl rfl rfl (by first | exact ints_len _ | exact prs_len _ _ | exact zints_len _) (by omega) (Nat.zero_le _) rfl rfl rfl rfl rfl ?_ | refine ep_empt ?_)
            | (refine g_ops ?_; first | refine eo_none ?_ | refine eo_nil ?_)
            | (refine g_lops ?_; first | refine el_none rfl ?_ | refine el_nil ?_)
            | refine el_same rfl ?_ | refine el_one rfl rfl rfl rfl rfl ?_ | refine el_write rfl rfl rfl ?_
            | (refine g_code ?_; first | refine ec_seq ?_ | refine ec_region ?_ | refine ec_drawL (X := [0]) rfl ?_ | refine ec_block ?_ | refine ec_skip ?_ | refine ec_exit ?_ | refine ec_condT rfl ?_ | refine ec_condF rfl ?_ | refine ec_condTH rfl (by assumption) ?_ | refine ec_condFH rfl (by assumption) ?_)
            | refine ek_seqN ?_ | refine ek_seqX ?_ | refine ek_blkN ?_ | refine ek_blkR ?_ | refine ek_blkX ?_ | refine ek_blkY rfl ?_)
          exact rnd_on (by rfl) (scmp2 (by rfl) (by rfl) (by exact ⟨rfl, rfl, rfl⟩) (by rfl) (by first | rfl | (simp; done) | (simp [ints, prs]; done)) (by rfl) (by first | rfl | (simp; done) | (simp [ints, prs]; done)))
      · have hdl := depL_len (wo fs i) n
        have hn6 := (shN (n := n) (by omega)).2.1
        have hq' : (ndP fs n i) = decide (((kwS (R2 (R2 n)) (depL (wo fs i) n)).length : Int) < ((kwS (R2 (R2 n)) (depL fs n)).length : Nat)) := rfl
        have hadd := b_addN (a := i) (b := 1) (by omega)
        have hwl := wo_len hi
        have e1 := fun q => evdpq q n (wo fs i) hn1 hn (wo_allF hi hall) (by omega)
        have e2 := evcnS (R2 (R2 n)) (depL (wo fs i) n) hdl hn6
        have hr : ((fns fs).drop ((i + 1) * 2)).take ((fs.length - i - 1) * 2) = fns (fs.drop (i + 1)) := by
          rw [fns_drop, fns_take, List.take_of_length_le (by simp; omega)]
        have hf3 : (((fns fs).drop ((i + 1) * 2)).take ((fs.length - i - 1) * 2)).length = (fs.length - i - 1) * 2 := by rw [hr, fns_len, List.length_drop]; omega
        have e1 := fun q => by have h9 := e1 q; rw [hwl] at h9; exact h9
        have hf0 : ((fns fs).drop 0).take (i * 2) = fns (fs.take i) := by rw [List.drop_zero, fns_take]
        have hf1 : (fns (fs.take i)).length = i * 2 := by rw [fns_len, List.length_take, Nat.min_eq_left (by omega)]
        have hf2 : fns (fs.take i) ++ ((fns fs).drop ((i + 1) * 2)).take ((fs.length - i - 1) * 2) = fns (wo fs i) := by rw [hr, fns_app]; rfl
        have hf4 : (fns (fs.take i)).take (i * 2) = fns (fs.take i) := List.take_of_length_le (by omega)
        generalize kwS (R2 (R2 n)) (depL (wo fs i) n) = L at *
        rw [hp] at hq'
        have hq := hq'.symm
        cases s with
        | nil =>
          refine ⟨[(idn) i], by rw [selm_t (p := ndP fs n) hp, hs]; try rfl, ?_⟩
          unfold m49_0
          repeat' (first
            | refine ep_slice (p := 0) (q := (i : Nat)) (o' := 0) (n' := i) rfl rfl rfl (.inl ⟨rfl, rfl⟩) (.inr ⟨_, rfl⟩) ⟨by omega, by omega, by omega, rfl, by omega⟩ rfl rfl ?_
            | refine ep_slice (p := (i + 1 : Nat)) (q := (fs.length : Nat)) (o' := (i + 1) * 2) (n' := fs.length - i - 1) rfl rfl rfl (.inr ⟨_, rfl⟩) (.inl ⟨rfl, rfl⟩) ⟨by omega, by omega, by omega, by simp, by omega⟩ rfl rfl ?_
            | refine sp_app0 (l := fns (fs.take i)) rfl (.inr rfl) rfl (rowOf_at rfl hf0) ⟨hf1, by omega, by omega⟩ (.inr ⟨_, _, _, rfl, rfl, rfl⟩) rfl rfl ?_
            | refine sp_appG rfl rfl rfl hf4 (rowOf_at rfl rfl) hf2 hf1 hf3 (by omega) (.inr ⟨_, _, _, rfl, rfl, rfl⟩) (Nat.zero_le _) rfl rfl rfl rfl ?_
            | (refine g_op ?_; first
              | refine ep_mov rfl ?_
              | refine ep_call0 rfl (by first | exact e1 _ | exact e2) rfl rfl ?_
              | refine sp_call rfl rfl rfl rfl (by first | exact e1 _ | exact e2) ⟨rfl, rfl, rfl, rfl⟩ rfl rfl rfl ?_
              | refine ep_bin rfl rfl (by first | exact hadd | exact b_add (by omega) (by omega) | exact b_sub (by omega) (by omega) | exact b_and (by omega) (by omega) | exact b_or (by omega) (by omega) | exact b_shr (by omega) | exact b_shl (by omega) (by omega) | exact b_lss | exact b_leq | exact b_gtr | exact b_geq | exact b_eql | exact b_neq) ?_
              | refine ep_lenS rfl ?_ | refine ep_lenN rfl ?_ | refine ep_lenE rfl ?_ | refine sp_bslice rfl rfl rfl rfl rfl ?_ | refine sp_push0 rfl (by first | exact .inl rfl | exact .inr rfl) rfl rfl rfl rfl rfl (by decide) rfl rfl rfl ?_
              | refine sp_push rfl rfl rfl rfl rfl rfl rfl (by first | exact ints_len _ | exact prs_len _ _ | exact zints_len _) (by omega) (Nat.zero_le _) rfl rfl rfl rfl rfl ?_ | refine ep_empt ?_)
            | (refine g_ops ?_; first | refine eo_none ?_ | refine eo_nil ?_)
            | (refine g_lops ?_; first | refine el_none rfl ?_ | refine el_nil ?_)
            | refine el_same rfl ?_ | refine el_one rfl rfl rfl rfl rfl ?_ | refine el_write rfl rfl rfl ?_
            | (refine g_code ?_; first | refine ec_seq ?_ | refine ec_region ?_ | refine ec_drawL (X := [0]) rfl ?_ | refine ec_block ?_ | refine ec_skip ?_ | refine ec_exit ?_ | refine ec_condT rfl ?_ | refine ec_condF rfl ?_ | refine ec_condTH rfl (by assumption) ?_ | refine ec_condFH rfl (by assumption) ?_)
            | refine ek_seqN ?_ | refine ek_seqX ?_ | refine ek_blkN ?_ | refine ek_blkR ?_ | refine ek_blkX ?_ | refine ek_blkY rfl ?_)
          exact rnd_on (by rfl) (scmp2 (by rfl) (by rfl) (by exact ⟨rfl, rfl, rfl⟩) (by rfl) (by first | rfl | (simp; done) | (simp [ints, prs]; done)) (by rfl) (by first | rfl | (simp; done) | (simp [ints, prs]; done)))
        | cons x xs =>
          refine ⟨(x :: xs) ++ [(idn) i], by rw [selm_t (p := ndP fs n) hp, hs]; try rfl, ?_⟩
          unfold m49_0
          repeat' (first
            | refine ep_slice (p := 0) (q := (i : Nat)) (o' := 0) (n' := i) rfl rfl rfl (.inl ⟨rfl, rfl⟩) (.inr ⟨_, rfl⟩) ⟨by omega, by omega, by omega, rfl, by omega⟩ rfl rfl ?_
            | refine ep_slice (p := (i + 1 : Nat)) (q := (fs.length : Nat)) (o' := (i + 1) * 2) (n' := fs.length - i - 1) rfl rfl rfl (.inr ⟨_, rfl⟩) (.inl ⟨rfl, rfl⟩) ⟨by omega, by omega, by omega, by simp, by omega⟩ rfl rfl ?_
            | refine sp_app0 (l := fns (fs.take i)) rfl (.inr rfl) rfl (rowOf_at rfl hf0) ⟨hf1, by omega, by omega⟩ (.inr ⟨_, _, _, rfl, rfl, rfl⟩) rfl rfl ?_
            | refine sp_appG rfl rfl rfl hf4 (rowOf_at rfl rfl) hf2 hf1 hf3 (by omega) (.inr ⟨_, _, _, rfl, rfl, rfl⟩) (Nat.zero_le _) rfl rfl rfl rfl ?_
            | (refine g_op ?_; first
              | refine ep_mov rfl ?_
              | refine ep_call0 rfl (by first | exact e1 _ | exact e2) rfl rfl ?_
              | refine sp_call rfl rfl rfl rfl (by first | exact e1 _ | exact e2) ⟨rfl, rfl, rfl, rfl⟩ rfl rfl rfl ?_
              | refine ep_bin rfl rfl (by first | exact hadd | exact b_add (by omega) (by omega) | exact b_sub (by omega) (by omega) | exact b_and (by omega) (by omega) | exact b_or (by omega) (by omega) | exact b_shr (by omega) | exact b_shl (by omega) (by omega) | exact b_lss | exact b_leq | exact b_gtr | exact b_geq | exact b_eql | exact b_neq) ?_
              | refine ep_lenS rfl ?_ | refine ep_lenN rfl ?_ | refine ep_lenE rfl ?_ | refine sp_bslice rfl rfl rfl rfl rfl ?_ | refine sp_push0 rfl (by first | exact .inl rfl | exact .inr rfl) rfl rfl rfl rfl rfl (by decide) rfl rfl rfl ?_
              | refine sp_push rfl rfl rfl rfl rfl rfl rfl (by first | exact ints_len _ | exact prs_len _ _ | exact zints_len _) (by omega) (Nat.zero_le _) rfl rfl rfl rfl rfl ?_ | refine ep_empt ?_)
            | (refine g_ops ?_; first | refine eo_none ?_ | refine eo_nil ?_)
            | (refine g_lops ?_; first | refine el_none rfl ?_ | refine el_nil ?_)
            | refine el_same rfl ?_ | refine el_one rfl rfl rfl rfl rfl ?_ | refine el_write rfl rfl rfl ?_
            | (refine g_code ?_; first | refine ec_seq ?_ | refine ec_region ?_ | refine ec_drawL (X := [0]) rfl ?_ | refine ec_block ?_ | refine ec_skip ?_ | refine ec_exit ?_ | refine ec_condT rfl ?_ | refine ec_condF rfl ?_ | refine ec_condTH rfl (by assumption) ?_ | refine ec_condFH rfl (by assumption) ?_)
            | refine ek_seqN ?_ | refine ek_seqX ?_ | refine ek_blkN ?_ | refine ek_blkR ?_ | refine ek_blkX ?_ | refine ek_blkY rfl ?_)
          exact rnd_on (by rfl) (scmp2 (by rfl) (by rfl) (by exact ⟨rfl, rfl, rfl⟩) (by rfl) (by first | rfl | (simp; done) | (simp [ints, prs]; done)) (by rfl) (by first | rfl | (simp; done) | (simp [ints, prs]; done)))
    | false =>
      have hp' : ((ndP fs n) i) = false := hp
      rcases Nat.eq_zero_or_pos i with hi0 | hip
      · have hdl := depL_len (wo fs i) n
        have hn6 := (shN (n := n) (by omega)).2.1
        have hq' : (ndP fs n i) = decide (((kwS (R2 (R2 n)) (depL (wo fs i) n)).length : Int) < ((kwS (R2 (R2 n)) (depL fs n)).length : Nat)) := rfl
        have hadd := b_addN (a := i) (b := 1) (by omega)
        have hwl := wo_len hi
        have e1 := ev83 n (wo fs i) hn1 hn (wo_allF hi hall) (by omega)
        have e2 := evcnS (R2 (R2 n)) (depL (wo fs i) n) hdl hn6
        have hr : ((fns fs).drop ((i + 1) * 2)).take ((fs.length - i - 1) * 2) = fns (fs.drop (i + 1)) := by
          rw [fns_drop, fns_take, List.take_of_length_le (by simp; omega)]
        have hf3 : (((fns fs).drop ((i + 1) * 2)).take ((fs.length - i - 1) * 2)).length = (fs.length - i - 1) * 2 := by rw [hr, fns_len, List.length_drop]; omega
        have hw0 : wo fs i = fs.drop (i + 1) := by rw [wo, hi0]; simp
        rw [← hw0] at hr
        have hl2 : (wo fs i).length = fs.length - i - 1 := by omega
        rw [hl2] at e1
        generalize kwS (R2 (R2 n)) (depL (wo fs i) n) = L at *
        rw [hp] at hq'
        have hq := hq'.symm
        cases s with
        | nil =>
          refine ⟨[], by rw [selm_f (p := ndP fs n) hp, hs]; try rfl, ?_⟩
          unfold m49_0
          repeat' (first
            | refine ep_slice (p := 0) (q := (i : Nat)) (o' := 0) (n' := i) rfl rfl rfl (.inl ⟨rfl, rfl⟩) (.inr ⟨_, rfl⟩) ⟨by omega, by omega, by omega, rfl, by omega⟩ rfl rfl ?_
            | refine ep_slice (p := (i + 1 : Nat)) (q := (fs.length : Nat)) (o' := (i + 1) * 2) (n' := fs.length - i - 1) rfl rfl rfl (.inr ⟨_, rfl⟩) (.inl ⟨rfl, rfl⟩) ⟨by omega, by omega, by omega, by simp, by omega⟩ rfl rfl ?_
            | refine ep_appE rfl (.inr rfl) rfl (rowOf_at0 rfl hi0) ?_
            | refine sp_app0 (l := fns (wo fs i)) rfl (.inr rfl) rfl (rowOf_at rfl hr) ⟨by rw [fns_len]; omega, by omega, by omega⟩ (.inr ⟨_, _, _, rfl, rfl, rfl⟩) rfl rfl ?_
            | (refine g_op ?_; first
              | refine ep_mov rfl ?_
              | refine ep_call0 rfl (by first | exact e1 | exact e2) rfl rfl ?_
              | refine sp_call rfl rfl rfl rfl (by first | exact e1 | exact e2) ⟨rfl, rfl, rfl, rfl⟩ rfl rfl rfl ?_
              | refine ep_bin rfl rfl (by first | exact hadd | exact b_add (by omega) (by omega) | exact b_sub (by omega) (by omega) | exact b_and (by omega) (by omega) | exact b_or (by omega) (by omega) | exact b_shr (by omega) | exact b_shl (by omega) (by omega) | exact b_lss | exact b_leq | exact b_gtr | exact b_geq | exact b_eql | exact b_neq) ?_
              | refine ep_lenS rfl ?_ | refine ep_lenN rfl ?_ | refine ep_lenE rfl ?_ | refine sp_bslice rfl rfl rfl rfl rfl ?_ | refine sp_push0 rfl (by first | exact .inl rfl | exact .inr rfl) rfl rfl rfl rfl rfl (by decide) rfl rfl rfl ?_
              | refine sp_push rfl rfl rfl rfl rfl rfl rfl (by first | exact ints_len _ | exact prs_len _ _ | exact zints_len _) (by omega) (Nat.zero_le _) rfl rfl rfl rfl rfl ?_ | refine ep_empt ?_)
            | (refine g_ops ?_; first | refine eo_none ?_ | refine eo_nil ?_)
            | (refine g_lops ?_; first | refine el_none rfl ?_ | refine el_nil ?_)
            | refine el_same rfl ?_ | refine el_one rfl rfl rfl rfl rfl ?_ | refine el_write rfl rfl rfl ?_
            | (refine g_code ?_; first | refine ec_seq ?_ | refine ec_region ?_ | refine ec_drawL (X := [0]) rfl ?_ | refine ec_block ?_ | refine ec_skip ?_ | refine ec_exit ?_ | refine ec_condT rfl ?_ | refine ec_condF rfl ?_ | refine ec_condTH rfl (by assumption) ?_ | refine ec_condFH rfl (by assumption) ?_)
            | refine ek_seqN ?_ | refine ek_seqX ?_ | refine ek_blkN ?_ | refine ek_blkR ?_ | refine ek_blkX ?_ | refine ek_blkY rfl ?_)
          exact rnd_on (by rfl) (scmp2 (by rfl) (by rfl) (by exact ⟨rfl, rfl, rfl⟩) (by rfl) (by first | rfl | (simp; done) | (simp [ints, prs]; done)) (by rfl) (by first | rfl | (simp; done) | (simp [ints, prs]; done)))
        | cons x xs =>
          refine ⟨x :: xs, by rw [selm_f (p := ndP fs n) hp, hs]; try rfl, ?_⟩
          unfold m49_0
          repeat' (first
            | refine ep_slice (p := 0) (q := (i : Nat)) (o' := 0) (n' := i) rfl rfl rfl (.inl ⟨rfl, rfl⟩) (.inr ⟨_, rfl⟩) ⟨by omega, by omega, by omega, rfl, by omega⟩ rfl rfl ?_
            | refine ep_slice (p := (i + 1 : Nat)) (q := (fs.length : Nat)) (o' := (i + 1) * 2) (n' := fs.length - i - 1) rfl rfl rfl (.inr ⟨_, rfl⟩) (.inl ⟨rfl, rfl⟩) ⟨by omega, by omega, by omega, by simp, by omega⟩ rfl rfl ?_
            | refine ep_appE rfl (.inr rfl) rfl (rowOf_at0 rfl hi0) ?_
            | refine sp_app0 (l := fns (wo fs i)) rfl (.inr rfl) rfl (rowOf_at rfl hr) ⟨by rw [fns_len]; omega, by omega, by omega⟩ (.inr ⟨_, _, _, rfl, rfl, rfl⟩) rfl rfl ?_
            | (refine g_op ?_; first
              | refine ep_mov rfl ?_
              | refine ep_call0 rfl (by first | exact e1 | exact e2) rfl rfl ?_
              | refine sp_call rfl rfl rfl rfl (by first | exact e1 | exact e2) ⟨rfl, rfl, rfl, rfl⟩ rfl rfl rfl ?_
              | refine ep_bin rfl rfl (by first | exact hadd | exact b_add (by omega) (by omega) | exact b_sub (by omega) (by omega) | exact b_and (by omega) (by omega) | exact b_or (by omega) (by omega) | exact b_shr (by omega) | exact b_shl (by omega) (by omega) | exact b_lss | exact b_leq | exact b_gtr | exact b_geq | exact b_eql | exact b_neq) ?_
              | refine ep_lenS rfl ?_ | refine ep_lenN rfl ?_ | refine ep_lenE rfl ?_ | refine sp_bslice rfl rfl rfl rfl rfl ?_ | refine sp_push0 rfl (by first | exact .inl rfl | exact .inr rfl) rfl rfl rfl rfl rfl (by decide) rfl rfl rfl ?_
              | refine sp_push rfl rfl rfl rfl rfl rfl rfl (by first | exact ints_len _ | exact prs_len _ _ | exact zints_len _) (by omega) (Nat.zero_le _) rfl rfl rfl rfl rfl ?_ | refine ep_empt ?_)
            | (refine g_ops ?_; first | refine eo_none ?_ | refine eo_nil ?_)
            | (refine g_lops ?_; first | refine el_none rfl ?_ | refine el_nil ?_)
            | refine el_same rfl ?_ | refine el_one rfl rfl rfl rfl rfl ?_ | refine el_write rfl rfl rfl ?_
            | (refine g_code ?_; first | refine ec_seq ?_ | refine ec_region ?_ | refine ec_drawL (X := [0]) rfl ?_ | refine ec_block ?_ | refine ec_skip ?_ | refine ec_exit ?_ | refine ec_condT rfl ?_ | refine ec_condF rfl ?_ | refine ec_condTH rfl (by assumption) ?_ | refine ec_condFH rfl (by assumption) ?_)
            | refine ek_seqN ?_ | refine ek_seqX ?_ | refine ek_blkN ?_ | refine ek_blkR ?_ | refine ek_blkX ?_ | refine ek_blkY rfl ?_)
          exact rnd_on (by rfl) (scmp2 (by rfl) (by rfl) (by exact ⟨rfl, rfl, rfl⟩) (by rfl) (by first | rfl | (simp; done) | (simp [ints, prs]; done)) (by rfl) (by first | rfl | (simp; done) | (simp [ints, prs]; done)))
      · have hdl := depL_len (wo fs i) n
        have hn6 := (shN (n := n) (by omega)).2.1
        have hq' : (ndP fs n i) = decide (((kwS (R2 (R2 n)) (depL (wo fs i) n)).length : Int) < ((kwS (R2 (R2 n)) (depL fs n)).length : Nat)) := rfl
        have hadd := b_addN (a := i) (b := 1) (by omega)
        have hwl := wo_len hi
        have e1 := fun q => evdpq q n (wo fs i) hn1 hn (wo_allF hi hall) (by omega)
        have e2 := evcnS (R2 (R2 n)) (depL (wo fs i) n) hdl hn6
        have hr : ((fns fs).drop ((i + 1) * 2)).take ((fs.length - i - 1) * 2) = fns (fs.drop (i + 1)) := by
          rw [fns_drop, fns_take, List.take_of_length_le (by simp; omega)]
        have hf3 : (((fns fs).drop ((i + 1) * 2)).take ((fs.length - i - 1) * 2)).length = (fs.length - i - 1) * 2 := by rw [hr, fns_len, List.length_drop]; omega
        have e1 := fun q => by have h9 := e1 q; rw [hwl] at h9; exact h9
        have hf0 : ((fns fs).drop 0).take (i * 2) = fns (fs.take i) := by rw [List.drop_zero, fns_take]
        have hf1 : (fns (fs.take i)).length = i * 2 := by rw [fns_len, List.length_take, Nat.min_eq_left (by omega)]
        have hf2 : fns (fs.take i) ++ ((fns fs).drop ((i + 1) * 2)).take ((fs.length - i - 1) * 2) = fns (wo fs i) := by rw [hr, fns_app]; rfl
        have hf4 : (fns (fs.take i)).take (i * 2) = fns (fs.take i) := List.take_of_length_le (by omega)
        generalize kwS (R2 (R2 n)) (depL (wo fs i) n) = L at *
        rw [hp] at hq'
        have hq := hq'.symm
        cases s with
        | nil =>
          refine ⟨[], by rw [selm_f (p := ndP fs n) hp, hs]; try rfl, ?_⟩
          unfold m49_0
          repeat' (first
            | refine ep_slice (p := 0) (q := (i : Nat)) (o' := 0) (n' := i) rfl rfl rfl (.inl ⟨rfl, rfl⟩) (.inr ⟨_, rfl⟩) ⟨by omega, by omega, by omega, rfl, by omega⟩ rfl rfl ?_
            | refine ep_slice (p := (i + 1 : Nat)) (q := (fs.length : Nat)) (o' := (i + 1) * 2) (n' := fs.length - i - 1) rfl rfl rfl (.inr ⟨_, rfl⟩) (.inl ⟨rfl, rfl⟩) ⟨by omega, by omega, by omega, by simp, by omega⟩ rfl rfl ?_
            | refine sp_app0 (l := fns (fs.take i)) rfl (.inr rfl) rfl (rowOf_at rfl hf0) ⟨hf1, by omega, by omega⟩ (.inr ⟨_, _, _, rfl, rfl, rfl⟩) rfl rfl ?_
            | refine sp_appG rfl rfl rfl hf4 (rowOf_at rfl rfl) hf2 hf1 hf3 (by omega) (.inr ⟨_, _, _, rfl, rfl, rfl⟩) (Nat.zero_le _) rfl rfl rfl rfl ?_
            | (refine g_op ?_; first
              | refine ep_mov rfl ?_
              | refine ep_call0 rfl (by first | exact e1 _ | exact e2) rfl rfl ?_
              | refine sp_call rfl rfl rfl rfl (by first | exact e1 _ | exact e2) ⟨rfl, rfl, rfl, rfl⟩ rfl rfl rfl ?_
              | refine ep_bin rfl rfl (by first | exact hadd | exact b_add (by omega) (by omega) | exact b_sub (by omega) (by omega) | exact b_and (by omega) (by omega) | exact b_or (by omega) (by omega) | exact b_shr (by omega) | exact b_shl (by omega) (by omega) | exact b_lss | exact b_leq | exact b_gtr | exact b_geq | exact b_eql | exact b_neq) ?_
              | refine ep_lenS rfl ?_ | refine ep_lenN rfl ?_ | refine ep_lenE rfl ?_ | refine sp_bslice rfl rfl rfl rfl rfl ?_ | refine sp_push0 rfl (by first | exact .inl rfl | exact .inr rfl) rfl rfl rfl rfl rfl (by decide) rfl rfl rfl ?_
              | refine sp_push rfl rfl rfl rfl rfl rfl rfl (by first | exact ints_len _ | exact prs_len _ _ | exact zints_len _) (by omega) (Nat.zero_le _) rfl rfl rfl rfl rfl ?_ | refine ep_empt ?_)
            | (refine g_ops ?_; first | refine eo_none ?_ | refine eo_nil ?_)
            | (refine g_lops ?_; first | refine el_none rfl ?_ | refine el_nil ?_)
            | refine el_same rfl ?_ | refine el_one rfl rfl rfl rfl rfl ?_ | refine el_write rfl rfl rfl ?_
            | (refine g_code ?_; first | refine ec_seq ?_ | refine ec_region ?_ | refine ec_drawL (X := [0]) rfl ?_ | refine ec_block ?_ | refine ec_skip ?_ | refine ec_exit ?_ | refine ec_condT rfl ?_ | refine ec_condF rfl ?_ | refine ec_condTH rfl (by assumption) ?_ | refine ec_condFH rfl (by assumption) ?_)
            | refine ek_seqN ?_ | refine ek_seqX ?_ | refine ek_blkN ?_ | refine ek_blkR ?_ | refine ek_blkX ?_ | refine ek_blkY rfl ?_)
          exact rnd_on (by rfl) (scmp2 (by rfl) (by rfl) (by exact ⟨rfl, rfl, rfl⟩) (by rfl) (by first | rfl | (simp; done) | (simp [ints, prs]; done)) (by rfl) (by first | rfl | (simp; done) | (simp [ints, prs]; done)))
        | cons x xs =>
          refine ⟨x :: xs, by rw [selm_f (p := ndP fs n) hp, hs]; try rfl, ?_⟩
          unfold m49_0
          repeat' (first
            | refine ep_slice (p := 0) (q := (i : Nat)) (o' := 0) (n' := i) rfl rfl rfl (.inl ⟨rfl, rfl⟩) (.inr ⟨_, rfl⟩) ⟨by omega, by omega, by omega, rfl, by omega⟩ rfl rfl ?_
            | refine ep_slice (p := (i + 1 : Nat)) (q := (fs.length : Nat)) (o' := (i + 1) * 2) (n' := fs.length - i - 1) rfl rfl rfl (.inr ⟨_, rfl⟩) (.inl ⟨rfl, rfl⟩) ⟨by omega, by omega, by omega, by simp, by omega⟩ rfl rfl ?_
            | refine sp_app0 (l := fns (fs.take i)) rfl (.inr rfl) rfl (rowOf_at rfl hf0) ⟨hf1, by omega, by omega⟩ (.inr ⟨_, _, _, rfl, rfl, rfl⟩) rfl rfl ?_
            | refine sp_appG rfl rfl rfl hf4 (rowOf_at rfl rfl) hf2 hf1 hf3 (by omega) (.inr ⟨_, _, _, rfl, rfl, rfl⟩) (Nat.zero_le _) rfl rfl rfl rfl ?_
            | (refine g_op ?_; first
              | refine ep_mov rfl ?_
              | refine ep_call0 rfl (by first | exact e1 _ | exact e2) rfl rfl ?_
              | refine sp_call rfl rfl rfl rfl (by first | exact e1 _ | exact e2) ⟨rfl, rfl, rfl, rfl⟩ rfl rfl rfl ?_
              | refine ep_bin rfl rfl (by first | exact hadd | exact b_add (by omega) (by omega) | exact b_sub (by omega) (by omega) | exact b_and (by omega) (by omega) | exact b_or (by omega) (by omega) | exact b_shr (by omega) | exact b_shl (by omega) (by omega) | exact b_lss | exact b_leq | exact b_gtr | exact b_geq | exact b_eql | exact b_neq) ?_
              | refine ep_lenS rfl ?_ | refine ep_lenN rfl ?_ | refine ep_lenE rfl ?_ | refine sp_bslice rfl rfl rfl rfl rfl ?_ | refine sp_push0 rfl (by first | exact .inl rfl | exact .inr rfl) rfl rfl rfl rfl rfl (by decide) rfl rfl rfl ?_
              | refine sp_push rfl rfl rfl rfl rfl rfl rfl (by first | exact ints_len _ | exact prs_len _ _ | exact zints_len _) (by omega) (Nat.zero_le _) rfl rfl rfl rfl rfl ?_ | refine ep_empt ?_)
            | (refine g_ops ?_; first | refine eo_none ?_ | refine eo_nil ?_)
            | (refine g_lops ?_; first | refine el_none rfl ?_ | refine el_nil ?_)
            | refine el_same rfl ?_ | refine el_one rfl rfl rfl rfl rfl ?_ | refine el_write rfl rfl rfl ?_
            | (refine g_code ?_; first | refine ec_seq ?_ | refine ec_region ?_ | refine ec_drawL (X := [0]) rfl ?_ | refine ec_block ?_ | refine ec_skip ?_ | refine ec_exit ?_ | refine ec_condT rfl ?_ | refine ec_condF rfl ?_ | refine ec_condTH rfl (by assumption) ?_ | refine ec_condFH rfl (by assumption) ?_)
            | refine ek_seqN ?_ | refine ek_seqX ?_ | refine ek_blkN ?_ | refine ek_blkR ?_ | refine ek_blkX ?_ | refine ek_blkY rfl ?_)
          exact rnd_on (by rfl) (scmp2 (by rfl) (by rfl) (by exact ⟨rfl, rfl, rfl⟩) (by rfl) (by first | rfl | (simp; done) | (simp [ints, prs]; done)) (by rfl) (by first | rfl | (simp; done) | (simp [ints, prs]; done)))
  · intro s hs
    have hlt : decide (((fs.length : Nat) : Int) < (fs.length : Nat)) = false := decide_eq_false (by omega)
    have hle : decide (((fs.length : Nat) : Int) ≤ (fs.length : Nat) - 1) = false := decide_eq_false (by omega)
    cases s with
    | nil =>
      unfold m49_0
      repeat' (first
        | (refine g_op ?_; first
          | refine ep_mov rfl ?_
          | refine ep_bin rfl rfl (by first | exact b_add (by omega) (by omega) | exact b_sub (by omega) (by omega) | exact b_and (by omega) (by omega) | exact b_or (by omega) (by omega) | exact b_shr (by omega) | exact b_shl (by omega) (by omega) | exact b_lss | exact b_leq | exact b_gtr | exact b_geq | exact b_eql | exact b_neq) ?_
          | refine ep_lenS rfl ?_ | refine ep_lenN rfl ?_ | refine ep_lenE rfl ?_ | refine sp_bslice rfl rfl rfl rfl rfl ?_ | refine sp_push0 rfl (by first | exact .inl rfl | exact .inr rfl) rfl rfl rfl rfl rfl (by decide) rfl rfl rfl ?_
          | refine sp_push rfl rfl rfl rfl rfl rfl rfl (by first | exact ints_len _ | exact prs_len _ _ | exact zints_len _) (by omega) (Nat.zero_le _) rfl rfl rfl rfl rfl ?_ | refine ep_empt ?_)
        | (refine g_ops ?_; first | refine eo_none ?_ | refine eo_nil ?_)
        | (refine g_lops ?_; first | refine el_none rfl ?_ | refine el_nil ?_)
        | refine el_same rfl ?_ | refine el_one rfl rfl rfl rfl rfl ?_ | refine el_write rfl rfl rfl ?_
        | (refine g_code ?_; first | refine ec_seq ?_ | refine ec_region ?_ | refine ec_drawL (X := []) rfl ?_ | refine ec_block ?_ | refine ec_skip ?_ | refine ec_exit ?_ | refine ec_condT rfl ?_ | refine ec_condF rfl ?_ | refine ec_condTH rfl (by assumption) ?_ | refine ec_condFH rfl (by assumption) ?_)
        | refine ek_seqN ?_ | refine ek_seqX ?_ | refine ek_blkN ?_ | refine ek_blkR ?_ | refine ek_blkX ?_ | refine ek_blkY rfl ?_)
      exact rnd_out (by rfl) (by simp) (scmp2 (by rfl) (by rfl) (by exact ⟨rfl, rfl, rfl⟩) (by rfl) (by first | rfl | (simp; done) | (simp [ints, prs]; done)) (by rfl) (by first | rfl | (simp; done) | (simp [ints, prs]; done)))
    | cons x xs =>
      unfold m49_0
      repeat' (first
        | (refine g_op ?_; first
          | refine ep_mov rfl ?_
          | refine ep_bin rfl rfl (by first | exact b_add (by omega) (by omega) | exact b_sub (by omega) (by omega) | exact b_and (by omega) (by omega) | exact b_or (by omega) (by omega) | exact b_shr (by omega) | exact b_shl (by omega) (by omega) | exact b_lss | exact b_leq | exact b_gtr | exact b_geq | exact b_eql | exact b_neq) ?_
          | refine ep_lenS rfl ?_ | refine ep_lenN rfl ?_ | refine ep_lenE rfl ?_ | refine sp_bslice rfl rfl rfl rfl rfl ?_ | refine sp_push0 rfl (by first | exact .inl rfl | exact .inr rfl) rfl rfl rfl rfl rfl (by decide) rfl rfl rfl ?_
          | refine sp_push rfl rfl rfl rfl rfl rfl rfl (by first | exact ints_len _ | exact prs_len _ _ | exact zints_len _) (by omega) (Nat.zero_le _) rfl rfl rfl rfl rfl ?_ | refine ep_empt ?_)
        | (refine g_ops ?_; first | refine eo_none ?_ | refine eo_nil ?_)
        | (refine g_lops ?_; first | refine el_none rfl ?_ | refine el_nil ?_)
        | refine el_same rfl ?_ | refine el_one rfl rfl rfl rfl rfl ?_ | refine el_write rfl rfl rfl ?_
        | (refine g_code ?_; first | refine ec_seq ?_ | refine ec_region ?_ | refine ec_drawL (X := []) rfl ?_ | refine ec_block ?_ | refine ec_skip ?_ | refine ec_exit ?_ | refine ec_condT rfl ?_ | refine ec_condF rfl ?_ | refine ec_condTH rfl (by assumption) ?_ | refine ec_condFH rfl (by assumption) ?_)
        | refine ek_seqN ?_ | refine ek_seqX ?_ | refine ek_blkN ?_ | refine ek_blkR ?_ | refine ek_blkX ?_ | refine ek_blkY rfl ?_)
      exact rnd_out (by rfl) (by simp) (scmp2 (by rfl) (by rfl) (by exact ⟨rfl, rfl, rfl⟩) (by rfl) (by first | rfl | (simp; done) | (simp [ints, prs]; done)) (by rfl) (by first | rfl | (simp; done) | (simp [ints, prs]; done)))
theorem ev49 (fs : List (Int × Int)) (z : Int) (hln : fs.length ≤ 1048576) : Ev cx 49 [.sl 0 0 fs.length, .int .i64 z] [⟨fns fs, 2, 0, some 0, false⟩] (.tup [slV (if ndC fs z = 0 then .emp else .nils) 1 (ndL fs z), .int .i64 (ndC fs z)]) (⟨fns fs, 2, 0, some 0, false⟩ :: slH 1 1 ints (ndL fs z)) := by
  have e1 := ev81 fs z hln
  by_cases h0 : gcode fs z = 0
  · obtain ⟨ha, hl, hz1, hz2⟩ := gcode_0 h0
    obtain ⟨n, rfl⟩ := Int.eq_ofNat_of_zero_le (show (0 : Int) ≤ z by omega)
    have hL : ndL fs (n : Nat) = selm (ndP fs n) idn fs.length := if_pos h0
    have e2 := ev83 n fs (by omega) (by omega) ha hln
    have e3 := evcnS (R2 (R2 n)) (depL fs n) (depL_len fs n) (shN (by omega)).2.1
    rw [show ndC fs (n : Nat) = 0 from h0, if_pos rfl]
    rw [h0] at e1
    rw [hL]
    cases hs : selm (ndP fs n) idn fs.length with
    | nil =>
      by_cases h2 : 2 ≤ fs.length
      · have lp := lpns_n n fs (by omega) (by omega) ha hln hl h2 _ (by rw [hs])
        refine has49.eev rfl rfl ?_
        unfold m49
        repeat' (first
          | refine sc_loop lp rfl rfl ⟨rfl, rfl, rfl⟩ rfl rfl rfl ?_
          | (refine g_op ?_; first
            | refine ep_mov rfl ?_
            | refine ep_call0 rfl (by first | exact e1 | exact e2 | exact e3) rfl rfl ?_
            | refine sp_call rfl rfl rfl rfl (by first | exact e1 | exact e2 | exact e3) ⟨rfl, rfl, rfl, rfl⟩ rfl rfl rfl ?_
            | refine ep_bin rfl rfl (by first | exact b_add (by omega) (by omega) | exact b_sub (by omega) (by omega) | exact b_and (by omega) (by omega) | exact b_or (by omega) (by omega) | exact b_shr (by omega) | exact b_shl (by omega) (by omega) | exact b_lss | exact b_leq | exact b_gtr | exact b_geq | exact b_eql | exact b_neq) ?_
            | refine ep_empt ?_)
          | (refine g_ops ?_; first | refine eo_none ?_ | refine eo_nil ?_)
          | (refine g_code ?_; first | refine ec_seq ?_ | refine ec_region ?_ | refine ec_block ?_ | refine ec_skip ?_ | refine ec_ret ?_ | refine ec_condT rfl ?_ | refine ec_condF rfl ?_ | refine ec_condTH rfl (by assumption) ?_ | refine ec_condFH rfl (by assumption) ?_)
          | refine ek_seqN ?_ | refine ek_seqX ?_ | refine ek_seqR ?_ | refine ek_blkN ?_ | refine ek_blkR ?_ | refine ek_blkX ?_ | refine ek_blkY rfl ?_)
        refine sfin (.inr rfl) (by rfl) (by rfl) (by exact ⟨rfl, rfl, rfl⟩) (by rfl) (by rfl) (by rfl) (by first | rfl | (simp; done) | (simp [ints, prs]; done))
      · have lp := lpns_1 n fs (by omega) (by omega) ha hln hl (by omega) _ (by rw [hs])
        refine has49.eev rfl rfl ?_
        unfold m49
        repeat' (first
          | refine sc_loop lp rfl rfl ⟨rfl, rfl, rfl⟩ rfl rfl rfl ?_
          | (refine g_op ?_; first
            | refine ep_mov rfl ?_
            | refine ep_call0 rfl (by first | exact e1 | exact e2 | exact e3) rfl rfl ?_
            | refine sp_call rfl rfl rfl rfl (by first | exact e1 | exact e2 | exact e3) ⟨rfl, rfl, rfl, rfl⟩ rfl rfl rfl ?_
            | refine ep_bin rfl rfl (by first | exact b_add (by omega) (by omega) | exact b_sub (by omega) (by omega) | exact b_and (by omega) (by omega) | exact b_or (by omega) (by omega) | exact b_shr (by omega) | exact b_shl (by omega) (by omega) | exact b_lss | exact b_leq | exact b_gtr | exact b_geq | exact b_eql | exact b_neq) ?_
            | refine ep_empt ?_)
          | (refine g_ops ?_; first | refine eo_none ?_ | refine eo_nil ?_)
          | (refine g_code ?_; first | refine ec_seq ?_ | refine ec_region ?_ | refine ec_block ?_ | refine ec_skip ?_ | refine ec_ret ?_ | refine ec_condT rfl ?_ | refine ec_condF rfl ?_ | refine ec_condTH rfl (by assumption) ?_ | refine ec_condFH rfl (by assumption) ?_)
          | refine ek_seqN ?_ | refine ek_seqX ?_ | refine ek_seqR ?_ | refine ek_blkN ?_ | refine ek_blkR ?_ | refine ek_blkX ?_ | refine ek_blkY rfl ?_)
        refine sfin (.inr rfl) (by rfl) (by rfl) (by exact ⟨rfl, rfl, rfl⟩) (by rfl) (by rfl) (by rfl) (by first | rfl | (simp; done) | (simp [ints, prs]; done))
    | cons x xs =>
      by_cases h2 : 2 ≤ fs.length
      · have lp := lpns_n n fs (by omega) (by omega) ha hln hl h2 _ (by rw [hs])
        refine has49.eev rfl rfl ?_
        unfold m49
        repeat' (first
          | refine sc_loop lp rfl rfl ⟨rfl, rfl, rfl⟩ rfl rfl rfl ?_
          | (refine g_op ?_; first
            | refine ep_mov rfl ?_
            | refine ep_call0 rfl (by first | exact e1 | exact e2 | exact e3) rfl rfl ?_
            | refine sp_call rfl rfl rfl rfl (by first | exact e1 | exact e2 | exact e3) ⟨rfl, rfl, rfl, rfl⟩ rfl rfl rfl ?_
            | refine ep_bin rfl rfl (by first | exact b_add (by omega) (by omega) | exact b_sub (by omega) (by omega) | exact b_and (by omega) (by omega) | exact b_or (by omega) (by omega) | exact b_shr (by omega) | exact b_shl (by omega) (by omega) | exact b_lss | exact b_leq | exact b_gtr | exact b_geq | exact b_eql | exact b_neq) ?_
            | refine ep_empt ?_)
          | (refine g_ops ?_; first | refine eo_none ?_ | refine eo_nil ?_)
          | (refine g_code ?_; first | refine ec_seq ?_ | refine ec_region ?_ | refine ec_block ?_ | refine ec_skip ?_ | refine ec_ret ?_ | refine ec_condT rfl ?_ | refine ec_condF rfl ?_ | refine ec_condTH rfl (by assumption) ?_ | refine ec_condFH rfl (by assumption) ?_)
          | refine ek_seqN ?_ | refine ek_seqX ?_ | refine ek_seqR ?_ | refine ek_blkN ?_ | refine ek_blkR ?_ | refine ek_blkX ?_ | refine ek_blkY rfl ?_)
        refine sfin (.inr rfl) (by rfl) (by rfl) (by exact ⟨rfl, rfl, rfl⟩) (by rfl) (by rfl) (by rfl) (by first | rfl | (simp; done) | (simp [ints, prs]; done))
      · have lp := lpns_1 n fs (by omega) (by omega) ha hln hl (by omega) _ (by rw [hs])
        refine has49.eev rfl rfl ?_
        unfold m49
        repeat' (first
          | refine sc_loop lp rfl rfl ⟨rfl, rfl, rfl⟩ rfl rfl rfl ?_
          | (refine g_op ?_; first
            | refine ep_mov rfl ?_
            | refine ep_call0 rfl (by first | exact e1 | exact e2 | exact e3) rfl rfl ?_
            | refine sp_call rfl rfl rfl rfl (by first | exact e1 | exact e2 | exact e3) ⟨rfl, rfl, rfl, rfl⟩ rfl rfl rfl ?_
            | refine ep_bin rfl rfl (by first | exact b_add (by omega) (by omega) | exact b_sub (by omega) (by omega) | exact b_and (by omega) (by omega) | exact b_or (by omega) (by omega) | exact b_shr (by omega) | exact b_shl (by omega) (by omega) | exact b_lss | exact b_leq | exact b_gtr | exact b_geq | exact b_eql | exact b_neq) ?_
            | refine ep_empt ?_)
          | (refine g_ops ?_; first | refine eo_none ?_ | refine eo_nil ?_)
          | (refine g_code ?_; first | refine ec_seq ?_ | refine ec_region ?_ | refine ec_block ?_ | refine ec_skip ?_ | refine ec_ret ?_ | refine ec_condT rfl ?_ | refine ec_condF rfl ?_ | refine ec_condTH rfl (by assumption) ?_ | refine ec_condFH rfl (by assumption) ?_)
          | refine ek_seqN ?_ | refine ek_seqX ?_ | refine ek_seqR ?_ | refine ek_blkN ?_ | refine ek_blkR ?_ | refine ek_blkX ?_ | refine ek_blkY rfl ?_)
        refine sfin (.inr rfl) (by rfl) (by rfl) (by exact ⟨rfl, rfl, rfl⟩) (by rfl) (by rfl) (by rfl) (by first | rfl | (simp; done) | (simp [ints, prs]; done))
  · have hL : ndL fs z = [] := if_neg h0
    have hq2 : (gcode fs z != 0) = true := by simpa using h0
    rw [hL]
    refine has49.eev rfl rfl ?_
    unfold m49
    repeat' (first
      | (refine g_op ?_; first
        | refine ep_mov rfl ?_
        | refine ep_call0 rfl (by first | exact e1) rfl rfl ?_
        | refine sp_call rfl rfl rfl rfl (by first | exact e1) ⟨rfl, rfl, rfl, rfl⟩ rfl rfl rfl ?_
        | refine ep_bin rfl rfl (by first | exact b_add (by omega) (by omega) | exact b_sub (by omega) (by omega) | exact b_and (by omega) (by omega) | exact b_or (by omega) (by omega) | exact b_shr (by omega) | exact b_shl (by omega) (by omega) | exact b_lss | exact b_leq | exact b_gtr | exact b_geq | exact b_eql | exact b_neq) ?_
        | refine ep_empt ?_)
      | (refine g_ops ?_; first | refine eo_none ?_ | refine eo_nil ?_)
      | (refine g_code ?_; first | refine ec_seq ?_ | refine ec_region ?_ | refine ec_block ?_ | refine ec_skip ?_ | refine ec_ret ?_ | refine ec_condT rfl ?_ | refine ec_condF rfl ?_ | refine ec_condTH rfl (by assumption) ?_ | refine ec_condFH rfl (by assumption) ?_)
      | refine ek_seqN ?_ | refine ek_seqX ?_ | refine ek_seqR ?_ | refine ek_blkN ?_ | refine ek_blkR ?_ | refine ek_blkX ?_ | refine ek_blkY rfl ?_)
    refine sfin (.inr rfl) (by rfl) (by rfl) (by exact ⟨rfl, rfl, rfl⟩) (by rfl) (by rfl) (by rw [if_neg h0]; rfl) (by first | rfl | (simp; done) | (simp [ints, prs]; done))

-- laws.FnExactNeededOf
def m14 : MC := (.seq (.region [⟨(.mov (.k (.bool false))), (some 4), none⟩] false) (.seq (.region [⟨(.mov (.k (.int .i64 1048576))), (some 5), none⟩] false) (.seq (.region [⟨(.mov (.t 0)), (some 16), none⟩, ⟨(.mov (.t 5)), (some 17), none⟩, ⟨(.call 26 [(.t 16), (.t 17)]), (some 18), none⟩, ⟨(.mov (.t 18)), (some 5), none⟩] false) (.seq (.seq (.region [⟨(.mov (.t 5)), (some 19), none⟩, ⟨(.bin .lss (.t 19) (.k (.int .i64 0))), (some 20), none⟩] false) (.cond (.t 20) (.seq (.region [⟨(.mov (.k (.bool true))), (some 4), none⟩] false) .ret) .skip)) (.seq (.region [⟨(.mov (.t 0)), (some 22), none⟩, ⟨(.call 28 [(.t 22)]), (some 23), none⟩, ⟨(.mov (.t 1)), (some 24), none⟩, ⟨(.call 49 [(.t 23), (.t 24)]), (some 25), none⟩, ⟨(.mov (.t 25)), (some 21), none⟩, ⟨(.extract (.t 21) 0), (some 26), none⟩, ⟨(.extract (.t 21) 1), (some 27), none⟩, ⟨(.mov (.t 26)), (some 6), none⟩, ⟨(.mov (.t 27)), (some 7), none⟩] false) (.seq (.region [⟨(.mov (.t 0)), (some 28), none⟩, ⟨(.call 28 [(.t 28)]), (some 29), none⟩, ⟨(.mov (.t 29)), (some 8), none⟩] false) (.seq (.region [⟨(.mov (.t 8)), (some 31), none⟩, ⟨(.mov (.t 1)), (some 32), none⟩, ⟨(.call 50 [(.t 31), (.t 32)]), (some 33), none⟩, ⟨(.mov (.t 33)), (some 30), none⟩, ⟨(.extract (.t 30) 0), (some 34), none⟩, ⟨(.extract (.t 30) 1), (some 35), none⟩, ⟨(.mov (.t 34)), (some 9), none⟩, ⟨(.mov (.t 35)), (some 10), none⟩] false) (.seq (.seq (.region [⟨(.mov (.t 9)), (some 36), none⟩, ⟨(.mov (.t 6)), (some 37), none⟩, ⟨(.call 19 [(.t 36), (.t 37)]), (some 38), none⟩, ⟨(.un .not (.t 38)), (some 39), none⟩, ⟨(.mov (.t 39)), (some 40), none⟩, ⟨(.mov (.t 10)), (some 41), (some (40, false))⟩, ⟨(.mov (.t 7)), (some 42), (some (40, false))⟩, ⟨(.bin .neq (.t 41) (.t 42)), (some 43), (some (40, false))⟩, ⟨(.pick (.t 40) (.k (.bool true)) (.t 43)), (some 44), none⟩] false) (.cond (.t 44) (.seq (.region [⟨(.mov (.k (.bool false))), (some 4), none⟩] false) .ret) .skip)) (.seq (.seq (.region [⟨(.mov (.t 8)), (some 45), none⟩, ⟨(.mov (.t 0)), (some 46), none⟩, ⟨(.call 28 [(.t 46)]), (some 47), none⟩, ⟨(.call 32 [(.t 45), (.t 47)]), (some 48), none⟩, ⟨(.un .not (.t 48)), (some 49), none⟩] false) (.cond (.t 49) (.seq (.region [⟨(.mov (.k (.bool false))), (some 4), none⟩] false) .ret) .skip)) (.seq (.region [⟨(.mov (.k (.int .i64 1))), (some 11), none⟩] false) (.seq (.region [⟨(.mov (.t 8)), (some 50), none⟩, ⟨(.mov (.t 11)), (some 51), none⟩, ⟨(.call 45 [(.t 50), (.t 51)]), (some 52), none⟩, ⟨(.mov (.t 52)), (some 11), none⟩] false) (.seq (.seq (.region [⟨(.mov (.t 11)), (some 53), none⟩, ⟨(.bin .lss (.t 53) (.k (.int .i64 0))), (some 54), none⟩, ⟨(.mov (.t 54)), (some 55), none⟩, ⟨(.mov (.t 9)), (some 56), (some (55, false))⟩, ⟨(.mov (.t 6)), (some 57), (some (55, false))⟩, ⟨(.call 19 [(.t 56), (.t 57)]), (some 58), (some (55, false))⟩, ⟨(.un .not (.t 58)), (some 59), (some (55, false))⟩, ⟨(.pick (.t 55) (.k (.bool true)) (.t 59)), (some 60), none⟩, ⟨(.mov (.t 60)), (some 61), none⟩, ⟨(.mov (.t 10)), (some 62), (some (61, false))⟩, ⟨(.mov (.t 7)), (some 63), (some (61, false))⟩, ⟨(.bin .neq (.t 62) (.t 63)), (some 64), (some (61, false))⟩, ⟨(.pick (.t 61) (.k (.bool true)) (.t 64)), (some 65), none⟩] false) (.cond (.t 65) (.seq (.region [⟨(.mov (.k (.bool false))), (some 4), none⟩] false) .ret) .skip)) (.seq (.region [⟨(.mov (.k (.int .i64 1))), (some 12), none⟩] false) (.seq (.region [⟨(.mov (.t 9)), (some 66), none⟩, ⟨(.mov (.t 12)), (some 67), none⟩, ⟨(.call 20 [(.t 66), (.t 67)]), (some 68), none⟩, ⟨(.mov (.t 68)), (some 12), none⟩] false) (.seq (.region [⟨(.mov (.k (.int .i64 1))), (some 13), none⟩] false) (.seq (.region [⟨(.mov (.t 9)), (some 69), none⟩, ⟨(.mov (.t 13)), (some 70), none⟩, ⟨(.call 21 [(.t 69), (.t 70)]), (some 71), none⟩, ⟨(.mov (.t 71)), (some 13), none⟩] false) (.seq (.seq (.region [⟨(.mov (.t 13)), (some 72), none⟩, ⟨(.bin .lss (.t 72) (.k (.int .i64 0))), (some 73), none⟩] false) (.cond (.t 73) (.seq (.region [⟨(.mov (.k (.bool false))), (some 4), none⟩] false) .ret) .skip)) (.seq (.seq (.region [⟨(.mov (.t 13)), (some 74), none⟩, ⟨(.mov (.t 12)), (some 75), none⟩, ⟨(.bin .neq (.t 74) (.t 75)), (some 76), none⟩] false) (.cond (.t 76) (.seq (.region [⟨(.mov (.k (.bool false))), (some 4), none⟩] false) .ret) .skip)) (.seq (.region [⟨(.mov (.t 0)), (some 78), none⟩, ⟨(.call 28 [(.t 78)]), (some 79), none⟩, ⟨(.mov (.t 1)), (some 80), none⟩, ⟨(.call 50 [(.t 79), (.t 80)]), (some 81), none⟩, ⟨(.mov (.t 81)), (some 77), none⟩, ⟨(.extract (.t 77) 0), (some 82), none⟩, ⟨(.extract (.t 77) 1), (some 83), none⟩, ⟨(.mov (.t 82)), (some 14), none⟩, ⟨(.mov (.t 83)), (some 15), none⟩] false) (.seq (.seq (.region [⟨(.mov (.t 14)), (some 84), none⟩, ⟨(.mov (.t 6)), (some 85), none⟩, ⟨(.call 19 [(.t 84), (.t 85)]), (some 86), none⟩, ⟨(.un .not (.t 86)), (some 87), none⟩, ⟨(.mov (.t 87)), (some 88), none⟩, ⟨(.mov (.t 15)), (some 89), (some (88, false))⟩, ⟨(.mov (.t 7)), (some 90), (some (88, false))⟩, ⟨(.bin .neq (.t 89) (.t 90)), (some 91), (some (88, false))⟩, ⟨(.pick (.t 88) (.k (.bool true)) (.t 91)), (some 92), none⟩] false) (.cond (.t 92) (.seq (.region [⟨(.mov (.k (.bool false))), (some 4), none⟩] false) .ret) .skip)) (.seq (.region [⟨(.mov (.k (.int .i64 1))), (some 13), none⟩] false) (.seq (.region [⟨(.mov (.t 9)), (some 93), none⟩, ⟨(.mov (.t 13)), (some 94), none⟩, ⟨(.call 21 [(.t 93), (.t 94)]), (some 95), none⟩, ⟨(.mov (.t 95)), (some 13), none⟩] false) (.seq (.seq (.region [⟨(.mov (.t 13)), (some 96), none⟩, ⟨(.bin .lss (.t 96) (.k (.int .i64 0))), (some 97), none⟩] false) (.cond (.t 97) (.seq (.region [⟨(.mov (.k (.bool false))), (some 4), none⟩] false) .ret) .skip)) (.seq (.seq (.region [⟨(.mov (.t 13)), (some 98), none⟩, ⟨(.mov (.t 12)), (some 99), none⟩, ⟨(.bin .neq (.t 98) (.t 99)), (some 100), none⟩] false) (.cond (.t 100) (.seq (.region [⟨(.mov (.k (.bool false))), (some 4), none⟩] false) .ret) .skip)) (.seq (.region [⟨(.mov (.k (.bool true))), (some 4), none⟩] false) .ret)))))))))))))))))))))))))
theorem has14 : Has cx 14 101 m14 [(.tmp 4)] :=
  ⟨⟨Try.f14, Try.f14.body.getD .skip, by kernel_rfl, by kernel_rfl, by kernel_rfl, by kernel_rfl, by kernel_rfl, by kernel_rfl⟩⟩
-- ROW ev14: bd0
theorem ev14 (a : V) (z : Int) (h : Heap) (c : List Int) (fa : FA .i64 2 a h c) (hb : c.length ≤ 2 * Go.maxLen) : Ev cx 14 [a, .int .i64 z] h (.bool true) h := by
  have hml : Go.maxLen = 9223372036854775807 := by decide
  cases fa with
  | nil =>
    have s0 := ev26_nils
    have e0 := ev28_nils
    rw [show zints [] = fns [] from rfl] at e0
    have e1 := ev49 [] z (by simp)
    have e2 := ev50 [] z (by simp)
    have h2 : (ndC [] z != ndC [] z) = false := by simp
    have m1 := ev45 0 (fns []) (by omega) rfl
    have q5 : decide (((2 * 0 + 1 : Nat) : Int) < 0) = false := decide_eq_false (by omega)
    have q3 := ev32 0 (fns []) (fns []) (fun j => ([] : List (Int × Int)).getD j (0, 0)) (some 0) (some 0) (by omega) (fun j hj => fns_pair (by simp at hj)) (fun j hj => fns_pair (by simp at hj))
    cases hs : ndL [] z with
    | nil =>
      rw [hs] at e1 e2
      by_cases hc0 : ndC [] z = 0
      · rw [if_pos hc0] at e1
        refine has14.eev rfl rfl ?_
        unfold m14
        repeat' (first
          | (refine g_op ?_; first
            | refine ep_mov rfl ?_
            | refine ep_call0 rfl (by first | exact e0 | exact s0 | exact e1 | exact e2 | exact q3 | exact m1 | exact ev19_nils_emp | exact ev20_nils | exact ev21_nils) rfl rfl ?_
            | refine sp_call rfl rfl rfl rfl (by first | exact e0 | exact s0 | exact e1 | exact e2 | exact q3 | exact m1 | exact ev19_nils_emp | exact ev20_nils | exact ev21_nils) ⟨rfl, rfl, rfl, rfl⟩ rfl rfl rfl ?_
            | refine ep_bin rfl rfl (by first | exact b_add (by omega) (by omega) | exact b_sub (by omega) (by omega) | exact b_and (by omega) (by omega) | exact b_or (by omega) (by omega) | exact b_shr (by omega) | exact b_shl (by omega) (by omega) | exact b_lss | exact b_leq | exact b_gtr | exact b_geq | exact b_eql | exact b_neq) ?_
            | refine ep_pickT rfl rfl ?_ | refine ep_pickF rfl rfl ?_ | refine ep_pickTH rfl (by assumption) rfl ?_ | refine ep_pickFH rfl (by assumption) rfl ?_ | refine ep_extract rfl rfl ?_ | refine ep_not rfl ?_)
          | (refine g_ops ?_; first | refine eo_none ?_ | refine eo_nil ?_ | refine eo_yes rfl ?_ | refine eo_no rfl ?_ | refine eo_und rfl ?_ | refine eo_yesH rfl (by assumption) ?_ | refine eo_noH rfl (by assumption) ?_)
          | (refine g_code ?_; first | refine ec_seq ?_ | refine ec_region ?_ | refine ec_skip ?_ | refine ec_ret ?_ | refine ec_condT rfl ?_ | refine ec_condF rfl ?_ | refine ec_condTH rfl (by assumption) ?_ | refine ec_condFH rfl (by assumption) ?_)
          | refine ek_seqN ?_ | refine ek_seqR ?_)
        refine sfin (.inr rfl) (by rfl) (by rfl) (by exact ⟨rfl, rfl, rfl⟩) (by rfl) (by rfl) (by rfl) (by first | rfl | (simp; done) | (simp [ints, prs]; done))
      · rw [if_neg hc0] at e1
        refine has14.eev rfl rfl ?_
        unfold m14
        repeat' (first
          | (refine g_op ?_; first
            | refine ep_mov rfl ?_
            | refine ep_call0 rfl (by first | exact e0 | exact s0 | exact e1 | exact e2 | exact q3 | exact m1 | exact ev19_nils_nils | exact ev20_nils | exact ev21_nils) rfl rfl ?_
            | refine sp_call rfl rfl rfl rfl (by first | exact e0 | exact s0 | exact e1 | exact e2 | exact q3 | exact m1 | exact ev19_nils_nils | exact ev20_nils | exact ev21_nils) ⟨rfl, rfl, rfl, rfl⟩ rfl rfl rfl ?_
            | refine ep_bin rfl rfl (by first | exact b_add (by omega) (by omega) | exact b_sub (by omega) (by omega) | exact b_and (by omega) (by omega) | exact b_or (by omega) (by omega) | exact b_shr (by omega) | exact b_shl (by omega) (by omega) | exact b_lss | exact b_leq | exact b_gtr | exact b_geq | exact b_eql | exact b_neq) ?_
            | refine ep_pickT rfl rfl ?_ | refine ep_pickF rfl rfl ?_ | refine ep_pickTH rfl (by assumption) rfl ?_ | refine ep_pickFH rfl (by assumption) rfl ?_ | refine ep_extract rfl rfl ?_ | refine ep_not rfl ?_)
          | (refine g_ops ?_; first | refine eo_none ?_ | refine eo_nil ?_ | refine eo_yes rfl ?_ | refine eo_no rfl ?_ | refine eo_und rfl ?_ | refine eo_yesH rfl (by assumption) ?_ | refine eo_noH rfl (by assumption) ?_)
          | (refine g_code ?_; first | refine ec_seq ?_ | refine ec_region ?_ | refine ec_skip ?_ | refine ec_ret ?_ | refine ec_condT rfl ?_ | refine ec_condF rfl ?_ | refine ec_condTH rfl (by assumption) ?_ | refine ec_condFH rfl (by assumption) ?_)
          | refine ek_seqN ?_ | refine ek_seqR ?_)
        refine sfin (.inr rfl) (by rfl) (by rfl) (by exact ⟨rfl, rfl, rfl⟩) (by rfl) (by rfl) (by rfl) (by first | rfl | (simp; done) | (simp [ints, prs]; done))
    | cons x xs =>
      have hlen := ndL_len [] z
      rw [hs] at e1 e2 hlen
      have e3 := ev19 (x :: xs).length (ints (x :: xs)) (ints (x :: xs)) (fun j => (((x :: xs).getD j 0 : Nat) : Int)) (some 0) (some 0) (by omega) (fun j hj => ints_get hj) (fun j hj => ints_get hj)
      have e4 := ev20 (x :: xs).length (ints (x :: xs)) (by omega) (ints_len _)
      have e5 := ev21 (x :: xs).length (ints (x :: xs)) (by omega)
      have q1 : decide ((((x :: xs).length + 1 : Nat) : Int) < 0) = false := decide_eq_false (by omega)
      have q2 : ((((x :: xs).length + 1 : Nat) : Int) != ((x :: xs).length + 1 : Nat)) = false := by simp
      refine has14.eev rfl rfl ?_
      unfold m14
      repeat' (first
        | (refine g_op ?_; first
          | refine ep_mov rfl ?_
          | refine ep_call0 rfl (by first | exact e0 | exact s0 | exact e1 | exact e2 | exact q3 | exact m1 | exact e3 | exact e4 | exact e5) rfl rfl ?_
          | refine sp_call rfl rfl rfl rfl (by first | exact e0 | exact s0 | exact e1 | exact e2 | exact q3 | exact m1 | exact e3 | exact e4 | exact e5) ⟨rfl, rfl, rfl, rfl⟩ rfl rfl rfl ?_
          | refine ep_bin rfl rfl (by first | exact b_add (by omega) (by omega) | exact b_sub (by omega) (by omega) | exact b_and (by omega) (by omega) | exact b_or (by omega) (by omega) | exact b_shr (by omega) | exact b_shl (by omega) (by omega) | exact b_lss | exact b_leq | exact b_gtr | exact b_geq | exact b_eql | exact b_neq) ?_
          | refine ep_pickT rfl rfl ?_ | refine ep_pickF rfl rfl ?_ | refine ep_pickTH rfl (by assumption) rfl ?_ | refine ep_pickFH rfl (by assumption) rfl ?_ | refine ep_extract rfl rfl ?_ | refine ep_not rfl ?_)
        | (refine g_ops ?_; first | refine eo_none ?_ | refine eo_nil ?_ | refine eo_yes rfl ?_ | refine eo_no rfl ?_ | refine eo_und rfl ?_ | refine eo_yesH rfl (by assumption) ?_ | refine eo_noH rfl (by assumption) ?_)
        | (refine g_code ?_; first | refine ec_seq ?_ | refine ec_region ?_ | refine ec_skip ?_ | refine ec_ret ?_ | refine ec_condT rfl ?_ | refine ec_condF rfl ?_ | refine ec_condTH rfl (by assumption) ?_ | refine ec_condFH rfl (by assumption) ?_)
        | refine ek_seqN ?_ | refine ek_seqR ?_)
      refine sfin (.inr rfl) (by rfl) (by rfl) (by exact ⟨rfl, rfl, rfl⟩) (by rfl) (by rfl) (by rfl) (by first | rfl | (simp; done) | (simp [ints, prs]; done))
  | emp =>
    have s0 := ev26_emp
    have e0 := ev28_emp
    rw [show zints [] = fns [] from rfl] at e0
    have e1 := ev49 [] z (by simp)
    have e2 := ev50 [] z (by simp)
    have h2 : (ndC [] z != ndC [] z) = false := by simp
    have m1 := ev45 0 (fns []) (by omega) rfl
    have q5 : decide (((2 * 0 + 1 : Nat) : Int) < 0) = false := decide_eq_false (by omega)
    have q3 := ev32 0 (fns []) (fns []) (fun j => ([] : List (Int × Int)).getD j (0, 0)) (some 0) (some 0) (by omega) (fun j hj => fns_pair (by simp at hj)) (fun j hj => fns_pair (by simp at hj))
    cases hs : ndL [] z with
    | nil =>
      rw [hs] at e1 e2
      by_cases hc0 : ndC [] z = 0
      · rw [if_pos hc0] at e1
        refine has14.eev rfl rfl ?_
        unfold m14
        repeat' (first
          | (refine g_op ?_; first
            | refine ep_mov rfl ?_
            | refine ep_call0 rfl (by first | exact e0 | exact s0 | exact e1 | exact e2 | exact q3 | exact m1 | exact ev19_nils_emp | exact ev20_nils | exact ev21_nils) rfl rfl ?_
            | refine sp_call rfl rfl rfl rfl (by first | exact e0 | exact s0 | exact e1 | exact e2 | exact q3 | exact m1 | exact ev19_nils_emp | exact ev20_nils | exact ev21_nils) ⟨rfl, rfl, rfl, rfl⟩ rfl rfl rfl ?_
            | refine ep_bin rfl rfl (by first | exact b_add (by omega) (by omega) | exact b_sub (by omega) (by omega) | exact b_and (by omega) (by omega) | exact b_or (by omega) (by omega) | exact b_shr (by omega) | exact b_shl (by omega) (by omega) | exact b_lss | exact b_leq | exact b_gtr | exact b_geq | exact b_eql | exact b_neq) ?_
            | refine ep_pickT rfl rfl ?_ | refine ep_pickF rfl rfl ?_ | refine ep_pickTH rfl (by assumption) rfl ?_ | refine ep_pickFH rfl (by assumption) rfl ?_ | refine ep_extract rfl rfl ?_ | refine ep_not rfl ?_)
          | (refine g_ops ?_; first | refine eo_none ?_ | refine eo_nil ?_ | refine eo_yes rfl ?_ | refine eo_no rfl ?_ | refine eo_und rfl ?_ | refine eo_yesH rfl (by assumption) ?_ | refine eo_noH rfl (by assumption) ?_)
          | (refine g_code ?_; first | refine ec_seq ?_ | refine ec_region ?_ | refine ec_skip ?_ | refine ec_ret ?_ | refine ec_condT rfl ?_ | refine ec_condF rfl ?_ | refine ec_condTH rfl (by assumption) ?_ | refine ec_condFH rfl (by assumption) ?_)
          | refine ek_seqN ?_ | refine ek_seqR ?_)
        refine sfin (.inr rfl) (by rfl) (by rfl) (by exact ⟨rfl, rfl, rfl⟩) (by rfl) (by rfl) (by rfl) (by first | rfl | (simp; done) | (simp [ints, prs]; done))
      · rw [if_neg hc0] at e1
        refine has14.eev rfl rfl ?_
        unfold m14
        repeat' (first
          | (refine g_op ?_; first
            | refine ep_mov rfl ?_
            | refine ep_call0 rfl (by first | exact e0 | exact s0 | exact e1 | exact e2 | exact q3 | exact m1 | exact ev19_nils_nils | exact ev20_nils | exact ev21_nils) rfl rfl ?_
            | refine sp_call rfl rfl rfl rfl (by first | exact e0 | exact s0 | exact e1 | exact e2 | exact q3 | exact m1 | exact ev19_nils_nils | exact ev20_nils | exact ev21_nils) ⟨rfl, rfl, rfl, rfl⟩ rfl rfl rfl ?_
            | refine ep_bin rfl rfl (by first | exact b_add (by omega) (by omega) | exact b_sub (by omega) (by omega) | exact b_and (by omega) (by omega) | exact b_or (by omega) (by omega) | exact b_shr (by omega) | exact b_shl (by omega) (by omega) | exact b_lss | exact b_leq | exact b_gtr | exact b_geq | exact b_eql | exact b_neq) ?_
            | refine ep_pickT rfl rfl ?_ | refine ep_pickF rfl rfl ?_ | refine ep_pickTH rfl (by assumption) rfl ?_ | refine ep_pickFH rfl (by assumption) rfl ?_ | refine ep_extract rfl rfl ?_ | refine ep_not rfl ?_)
          | (refine g_ops ?_; first | refine eo_none ?_ | refine eo_nil ?_ | refine eo_yes rfl ?_ | refine eo_no rfl ?_ | refine eo_und rfl ?_ | refine eo_yesH rfl (by assumption) ?_ | refine eo_noH rfl (by assumption) ?_)
          | (refine g_code ?_; first | refine ec_seq ?_ | refine ec_region ?_ | refine ec_skip ?_ | refine ec_ret ?_ | refine ec_condT rfl ?_ | refine ec_condF rfl ?_ | refine ec_condTH rfl (by assumption) ?_ | refine ec_condFH rfl (by assumption) ?_)
          | refine ek_seqN ?_ | refine ek_seqR ?_)
        refine sfin (.inr rfl) (by rfl) (by rfl) (by exact ⟨rfl, rfl, rfl⟩) (by rfl) (by rfl) (by rfl) (by first | rfl | (simp; done) | (simp [ints, prs]; done))
    | cons x xs =>
      have hlen := ndL_len [] z
      rw [hs] at e1 e2 hlen
      have e3 := ev19 (x :: xs).length (ints (x :: xs)) (ints (x :: xs)) (fun j => (((x :: xs).getD j 0 : Nat) : Int)) (some 0) (some 0) (by omega) (fun j hj => ints_get hj) (fun j hj => ints_get hj)
      have e4 := ev20 (x :: xs).length (ints (x :: xs)) (by omega) (ints_len _)
      have e5 := ev21 (x :: xs).length (ints (x :: xs)) (by omega)
      have q1 : decide ((((x :: xs).length + 1 : Nat) : Int) < 0) = false := decide_eq_false (by omega)
      have q2 : ((((x :: xs).length + 1 : Nat) : Int) != ((x :: xs).length + 1 : Nat)) = false := by simp
      refine has14.eev rfl rfl ?_
      unfold m14
      repeat' (first
        | (refine g_op ?_; first
          | refine ep_mov rfl ?_
          | refine ep_call0 rfl (by first | exact e0 | exact s0 | exact e1 | exact e2 | exact q3 | exact m1 | exact e3 | exact e4 | exact e5) rfl rfl ?_
          | refine sp_call rfl rfl rfl rfl (by first | exact e0 | exact s0 | exact e1 | exact e2 | exact q3 | exact m1 | exact e3 | exact e4 | exact e5) ⟨rfl, rfl, rfl, rfl⟩ rfl rfl rfl ?_
          | refine ep_bin rfl rfl (by first | exact b_add (by omega) (by omega) | exact b_sub (by omega) (by omega) | exact b_and (by omega) (by omega) | exact b_or (by omega) (by omega) | exact b_shr (by omega) | exact b_shl (by omega) (by omega) | exact b_lss | exact b_leq | exact b_gtr | exact b_geq | exact b_eql | exact b_neq) ?_
          | refine ep_pickT rfl rfl ?_ | refine ep_pickF rfl rfl ?_ | refine ep_pickTH rfl (by assumption) rfl ?_ | refine ep_pickFH rfl (by assumption) rfl ?_ | refine ep_extract rfl rfl ?_ | refine ep_not rfl ?_)
        | (refine g_ops ?_; first | refine eo_none ?_ | refine eo_nil ?_ | refine eo_yes rfl ?_ | refine eo_no rfl ?_ | refine eo_und rfl ?_ | refine eo_yesH rfl (by assumption) ?_ | refine eo_noH rfl (by assumption) ?_)
        | (refine g_code ?_; first | refine ec_seq ?_ | refine ec_region ?_ | refine ec_skip ?_ | refine ec_ret ?_ | refine ec_condT rfl ?_ | refine ec_condF rfl ?_ | refine ec_condTH rfl (by assumption) ?_ | refine ec_condFH rfl (by assumption) ?_)
        | refine ek_seqN ?_ | refine ek_seqR ?_)
      refine sfin (.inr rfl) (by rfl) (by rfl) (by exact ⟨rfl, rfl, rfl⟩) (by rfl) (by rfl) (by rfl) (by first | rfl | (simp; done) | (simp [ints, prs]; done))
  | sl o n c hc =>
    have s0 := ev26 o n c (by omega)
    by_cases hn : n ≤ 1048576
    · rw [if_pos hn] at s0
      have g1 : decide ((1048576 - (n : Nat) : Int) < 0) = false := decide_eq_false (by omega)
      have e0 := ev28 o n c hc hn
      rw [prOf_fns n c hc] at e0
      have e1 := ev49 (prOf c n) z (by rw [prOf_len]; exact hn)
      have e2 := ev50 (prOf c n) z (by rw [prOf_len]; exact hn)
      rw [prOf_len] at e1 e2
      have h2 : (ndC (prOf c n) z != ndC (prOf c n) z) = false := by simp
      have m1 := ev45 n (fns (prOf c n)) (by omega) (by rw [fns_len, prOf_len])
      have q5 : decide (((2 * n + 1 : Nat) : Int) < 0) = false := decide_eq_false (by omega)
      have q3 := ev32 n (fns (prOf c n)) (fns (prOf c n)) (fun j => ((prOf c n) : List (Int × Int)).getD j (0, 0)) (some 0) (some 0) (by omega) (fun j hj => fns_pair (by rwa [prOf_len])) (fun j hj => fns_pair (by rwa [prOf_len]))
      cases hs : ndL (prOf c n) z with
      | nil =>
        rw [hs] at e1 e2
        by_cases hc0 : ndC (prOf c n) z = 0
        · rw [if_pos hc0] at e1
          refine has14.eev rfl rfl ?_
          unfold m14
          repeat' (first
            | (refine g_op ?_; first
              | refine ep_mov rfl ?_
              | refine ep_call0 rfl (by first | exact e0 | exact s0 | exact e1 | exact e2 | exact q3 | exact m1 | exact ev19_nils_emp | exact ev20_nils | exact ev21_nils) rfl rfl ?_
              | refine sp_call rfl rfl rfl rfl (by first | exact e0 | exact s0 | exact e1 | exact e2 | exact q3 | exact m1 | exact ev19_nils_emp | exact ev20_nils | exact ev21_nils) ⟨rfl, rfl, rfl, rfl⟩ rfl rfl rfl ?_
              | refine ep_bin rfl rfl (by first | exact b_add (by omega) (by omega) | exact b_sub (by omega) (by omega) | exact b_and (by omega) (by omega) | exact b_or (by omega) (by omega) | exact b_shr (by omega) | exact b_shl (by omega) (by omega) | exact b_lss | exact b_leq | exact b_gtr | exact b_geq | exact b_eql | exact b_neq) ?_
              | refine ep_pickT rfl rfl ?_ | refine ep_pickF rfl rfl ?_ | refine ep_pickTH rfl (by assumption) rfl ?_ | refine ep_pickFH rfl (by assumption) rfl ?_ | refine ep_extract rfl rfl ?_ | refine ep_not rfl ?_)
            | (refine g_ops ?_; first | refine eo_none ?_ | refine eo_nil ?_ | refine eo_yes rfl ?_ | refine eo_no rfl ?_ | refine eo_und rfl ?_ | refine eo_yesH rfl (by assumption) ?_ | refine eo_noH rfl (by assumption) ?_)
            | (refine g_code ?_; first | refine ec_seq ?_ | refine ec_region ?_ | refine ec_skip ?_ | refine ec_ret ?_ | refine ec_condT rfl ?_ | refine ec_condF rfl ?_ | refine ec_condTH rfl (by assumption) ?_ | refine ec_condFH rfl (by assumption) ?_)
            | refine ek_seqN ?_ | refine ek_seqR ?_)
          refine sfin (.inr rfl) (by rfl) (by rfl) (by exact ⟨rfl, rfl, rfl⟩) (by rfl) (by rfl) (by rfl) (by first | rfl | (simp; done) | (simp [ints, prs]; done))
        · rw [if_neg hc0] at e1
          refine has14.eev rfl rfl ?_
          unfold m14
          repeat' (first
            | (refine g_op ?_; first
              | refine ep_mov rfl ?_
              | refine ep_call0 rfl (by first | exact e0 | exact s0 | exact e1 | exact e2 | exact q3 | exact m1 | exact ev19_nils_nils | exact ev20_nils | exact ev21_nils) rfl rfl ?_
              | refine sp_call rfl rfl rfl rfl (by first | exact e0 | exact s0 | exact e1 | exact e2 | exact q3 | exact m1 | exact ev19_nils_nils | exact ev20_nils | exact ev21_nils) ⟨rfl, rfl, rfl, rfl⟩ rfl rfl rfl ?_
              | refine ep_bin rfl rfl (by first | exact b_add (by omega) (by omega) | exact b_sub (by omega) (by omega) | exact b_and (by omega) (by omega) | exact b_or (by omega) (by omega) | exact b_shr (by omega) | exact b_shl (by omega) (by omega) | exact b_lss | exact b_leq | exact b_gtr | exact b_geq | exact b_eql | exact b_neq) ?_
              | refine ep_pickT rfl rfl ?_ | refine ep_pickF rfl rfl ?_ | refine ep_pickTH rfl (by assumption) rfl ?_ | refine ep_pickFH rfl (by assumption) rfl ?_ | refine ep_extract rfl rfl ?_ | refine ep_not rfl ?_)
            | (refine g_ops ?_; first | refine eo_none ?_ | refine eo_nil ?_ | refine eo_yes rfl ?_ | refine eo_no rfl ?_ | refine eo_und rfl ?_ | refine eo_yesH rfl (by assumption) ?_ | refine eo_noH rfl (by assumption) ?_)
            | (refine g_code ?_; first | refine ec_seq ?_ | refine ec_region ?_ | refine ec_skip ?_ | refine ec_ret ?_ | refine ec_condT rfl ?_ | refine ec_condF rfl ?_ | refine ec_condTH rfl (by assumption) ?_ | refine ec_condFH rfl (by assumption) ?_)
            | refine ek_seqN ?_ | refine ek_seqR ?_)
          refine sfin (.inr rfl) (by rfl) (by rfl) (by exact ⟨rfl, rfl, rfl⟩) (by rfl) (by rfl) (by rfl) (by first | rfl | (simp; done) | (simp [ints, prs]; done))
      | cons x xs =>
        have hlen := ndL_len (prOf c n) z
        rw [hs] at e1 e2 hlen
        have e3 := ev19 (x :: xs).length (ints (x :: xs)) (ints (x :: xs)) (fun j => (((x :: xs).getD j 0 : Nat) : Int)) (some 0) (some 0) (by omega) (fun j hj => ints_get hj) (fun j hj => ints_get hj)
        have e4 := ev20 (x :: xs).length (ints (x :: xs)) (by omega) (ints_len _)
        have e5 := ev21 (x :: xs).length (ints (x :: xs)) (by omega)
        have q1 : decide ((((x :: xs).length + 1 : Nat) : Int) < 0) = false := decide_eq_false (by omega)
        have q2 : ((((x :: xs).length + 1 : Nat) : Int) != ((x :: xs).length + 1 : Nat)) = false := by simp
        refine has14.eev rfl rfl ?_
        unfold m14
        repeat' (first
          | (refine g_op ?_; first
            | refine ep_mov rfl ?_
            | refine ep_call0 rfl (by first | exact e0 | exact s0 | exact e1 | exact e2 | exact q3 | exact m1 | exact e3 | exact e4 | exact e5) rfl rfl ?_
            | refine sp_call rfl rfl rfl rfl (by first | exact e0 | exact s0 | exact e1 | exact e2 | exact q3 | exact m1 | exact e3 | exact e4 | exact e5) ⟨rfl, rfl, rfl, rfl⟩ rfl rfl rfl ?_
            | refine ep_bin rfl rfl (by first | exact b_add (by omega) (by omega) | exact b_sub (by omega) (by omega) | exact b_and (by omega) (by omega) | exact b_or (by omega) (by omega) | exact b_shr (by omega) | exact b_shl (by omega) (by omega) | exact b_lss | exact b_leq | exact b_gtr | exact b_geq | exact b_eql | exact b_neq) ?_
            | refine ep_pickT rfl rfl ?_ | refine ep_pickF rfl rfl ?_ | refine ep_pickTH rfl (by assumption) rfl ?_ | refine ep_pickFH rfl (by assumption) rfl ?_ | refine ep_extract rfl rfl ?_ | refine ep_not rfl ?_)
          | (refine g_ops ?_; first | refine eo_none ?_ | refine eo_nil ?_ | refine eo_yes rfl ?_ | refine eo_no rfl ?_ | refine eo_und rfl ?_ | refine eo_yesH rfl (by assumption) ?_ | refine eo_noH rfl (by assumption) ?_)
          | (refine g_code ?_; first | refine ec_seq ?_ | refine ec_region ?_ | refine ec_skip ?_ | refine ec_ret ?_ | refine ec_condT rfl ?_ | refine ec_condF rfl ?_ | refine ec_condTH rfl (by assumption) ?_ | refine ec_condFH rfl (by assumption) ?_)
          | refine ek_seqN ?_ | refine ek_seqR ?_)
        refine sfin (.inr rfl) (by rfl) (by rfl) (by exact ⟨rfl, rfl, rfl⟩) (by rfl) (by rfl) (by rfl) (by first | rfl | (simp; done) | (simp [ints, prs]; done))
    · rw [if_neg hn] at s0
      refine has14.eev rfl rfl ?_
      unfold m14
      repeat' (first
        | (refine g_op ?_; first
          | refine ep_mov rfl ?_
          | refine ep_call0 rfl (by first | exact s0) rfl rfl ?_
          | refine sp_call rfl rfl rfl rfl (by first | exact s0) ⟨rfl, rfl, rfl, rfl⟩ rfl rfl rfl ?_
          | refine ep_bin rfl rfl (by first | exact b_add (by omega) (by omega) | exact b_sub (by omega) (by omega) | exact b_and (by omega) (by omega) | exact b_or (by omega) (by omega) | exact b_shr (by omega) | exact b_shl (by omega) (by omega) | exact b_lss | exact b_leq | exact b_gtr | exact b_geq | exact b_eql | exact b_neq) ?_
          | refine ep_pickT rfl rfl ?_ | refine ep_pickF rfl rfl ?_ | refine ep_pickTH rfl (by assumption) rfl ?_ | refine ep_pickFH rfl (by assumption) rfl ?_ | refine ep_extract rfl rfl ?_ | refine ep_not rfl ?_)
        | (refine g_ops ?_; first | refine eo_none ?_ | refine eo_nil ?_ | refine eo_yes rfl ?_ | refine eo_no rfl ?_ | refine eo_und rfl ?_ | refine eo_yesH rfl (by assumption) ?_ | refine eo_noH rfl (by assumption) ?_)
        | (refine g_code ?_; first | refine ec_seq ?_ | refine ec_region ?_ | refine ec_skip ?_ | refine ec_ret ?_ | refine ec_condT rfl ?_ | refine ec_condF rfl ?_ | refine ec_condTH rfl (by assumption) ?_ | refine ec_condFH rfl (by assumption) ?_)
        | refine ek_seqN ?_ | refine ek_seqR ?_)
      refine sfin (.inr rfl) (by rfl) (by rfl) (by exact ⟨rfl, rfl, rfl⟩) (by rfl) (by rfl) (by rfl) (by first | rfl | (simp; done) | (simp [ints, prs]; done))



end Go.Proofs.Ytdmpajkcpdjfbaa
