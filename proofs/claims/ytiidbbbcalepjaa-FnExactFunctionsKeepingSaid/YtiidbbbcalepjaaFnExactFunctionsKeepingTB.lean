/- What each function that the statement reaches returns. -/
import Derived.Test.YtiidbbbcalepjaaFnExactFunctionsKeepingTA
set_option linter.unusedVariables false
set_option linter.unusedSimpArgs false
set_option maxRecDepth 100000
set_option maxHeartbeats 4000000
namespace Go.Proofs.Ytiidbbbcalepjaa
open Go Go.Proofs.Ytiidbbbcalepjaa.Mi
attribute [local irreducible] code opsK opsDK gopK opK seqK blockK callK binV
attribute [local irreducible] R2 bt
-- spec.l06Made
def m84_0 : MC := (.seq (.seq (.region [⟨(.mov (.t 10)), (some 23), none⟩, ⟨(.mov (.t 2)), (some 24), none⟩, ⟨(.len (.t 24)), (some 25), none⟩, ⟨(.bin .lss (.t 23) (.t 25)), (some 26), none⟩] false) (.cond (.t 26) .skip (.exit 0))) (.seq (.block 1 (.regionL [⟨(.mov (.t 9)), (some 29), none⟩, ⟨(.load (some 2) (.t 4)), (some 30), none⟩, ⟨(.load (some 2) (.t 5)), (some 31), none⟩, ⟨(.mov (.t 2)), (some 32), none⟩, ⟨(.mov (.t 3)), (some 33), none⟩, ⟨(.call 127 [(.t 33)]), (some 34), none⟩, ⟨(.mov (.t 2)), (some 35), none⟩, ⟨(.mov (.t 10)), (some 36), none⟩, ⟨(.indexAddr 1 (.t 35) (.t 36)), (some 37), none⟩, ⟨(.load none (.t 37)), (some 38), none⟩, ⟨(.bslice 1 [(.int .i64 0)] 1 [(0, (1, (.t 38)))]), (some 39), none⟩, ⟨(.append 1 8 (.t 34) (.t 39)), (some 40), none⟩, ⟨(.call 84 [(.t 30), (.t 31), (.t 32), (.t 40)]), (some 41), none⟩, ⟨(.bin .or (.t 29) (.t 41)), (some 42), none⟩, ⟨(.mov (.t 42)), (some 9), none⟩] [1, 2])) (.region [⟨(.mov (.t 10)), (some 27), none⟩, ⟨(.bin .add (.t 27) (.k (.int .i64 1))), (some 28), none⟩, ⟨(.mov (.t 28)), (some 10), none⟩] false)))
def m84 : MC := (.seq (.region [⟨(.box (.t 0)), (some 4), none⟩, ⟨(.box (.t 1)), (some 5), none⟩, ⟨(.mov (.k (.int .i64 0))), (some 8), none⟩] false) (.seq (.seq (.region [⟨(.mov (.t 3)), (some 11), none⟩, ⟨(.len (.t 11)), (some 12), none⟩, ⟨(.fieldAddr 0 (.t 4)), (some 13), none⟩, ⟨(.load none (.t 13)), (some 14), none⟩, ⟨(.bin .eql (.t 12) (.t 14)), (some 15), none⟩] false) (.cond (.t 15) (.seq (.region [⟨(.load (some 2) (.t 4)), (some 16), none⟩, ⟨(.mov (.t 3)), (some 17), none⟩, ⟨(.fieldAddr 0 (.t 5)), (some 18), none⟩, ⟨(.load none (.t 18)), (some 19), none⟩, ⟨(.call 126 [(.t 16), (.t 17), (.t 19)]), (some 20), none⟩, ⟨(.conv .u64 (.t 20)), (some 21), none⟩, ⟨(.bin .shl (.k (.int .i64 1)) (.t 21)), (some 22), none⟩, ⟨(.mov (.t 22)), (some 8), none⟩] false) .ret) .skip)) (.seq (.region [⟨(.mov (.k (.int .i64 0))), (some 9), none⟩] false) (.seq (.seq (.region [⟨(.mov (.k (.int .i64 0))), (some 10), none⟩] false) (.block 0 (.loop m84_0))) (.seq (.region [⟨(.mov (.t 9)), (some 43), none⟩, ⟨(.mov (.t 43)), (some 8), none⟩] false) .ret)))))
theorem has84 : Has cx 84 44 m84 [(.tmp 8)] :=
  ⟨⟨Try.f84, Try.f84.body.getD .skip, by kernel_rfl, by kernel_rfl, by kernel_rfl, by kernel_rfl, by kernel_rfl, by kernel_rfl⟩⟩
theorem lpmd0_e (n b p t m y : Nat) (ys : List Nat) (hn : n ≤ 4) (hp : p ≤ 4) (hll : (y :: ys).length ≤ 65536) (hl : ∀ j, j < (y :: ys).length → (y :: ys).getD j 0 < 65536) (ih : ∀ (q1 z : Nat), z < 65536 → Ev cx 84 [.agg [.int .i64 n, .int .i64 b], .agg [.int .i64 p, .int .i64 t], .sl 0 0 (y :: ys).length, .sl 1 0 (([] : List Nat).length + 1)] [⟨ints (y :: ys), 1, 0, some 0, false⟩, ⟨ints (([] : List Nat) ++ [z]), 1, 1, some q1, false⟩] (.int .i64 (mbA (y :: ys) b p m (([] : List Nat) ++ [z]) : Nat)) [⟨ints (y :: ys), 1, 0, some 0, false⟩, ⟨ints (([] : List Nat) ++ [z]), 1, 1, some q1, false⟩]) :
    LpS cx 44 1 m84_0 [(2, .sl 0 0 (y :: ys).length), (3, .emp), (4, .ptr 1 0), (5, .ptr 2 0), (9, .int .i64 (orN (fun j => mbA (y :: ys) b p m (([] : List Nat) ++ [(y :: ys).getD j 0])) (0) : Nat)), (10, .int .i64 (0 : Nat))] [⟨ints (y :: ys), 1, 0, some 0, false⟩, ⟨[.int .i64 n, .int .i64 b], 1, 1, some 0, true⟩, ⟨[.int .i64 p, .int .i64 t], 1, 2, some 0, true⟩] (⟨.exit 0, [(9, .int .i64 (orN (fun j => mbA (y :: ys) b p m (([] : List Nat) ++ [(y :: ys).getD j 0])) ((y :: ys).length) : Nat))], [⟨ints (y :: ys), 1, 0, some 0, false⟩]⟩ : Out).x (⟨.exit 0, [(9, .int .i64 (orN (fun j => mbA (y :: ys) b p m (([] : List Nat) ++ [(y :: ys).getD j 0])) ((y :: ys).length) : Nat))], [⟨ints (y :: ys), 1, 0, some 0, false⟩]⟩ : Out).e (⟨.exit 0, [(9, .int .i64 (orN (fun j => mbA (y :: ys) b p m (([] : List Nat) ++ [(y :: ys).getD j 0])) ((y :: ys).length) : Nat))], [⟨ints (y :: ys), 1, 0, some 0, false⟩]⟩ : Out).h := by
  refine lp_st ((y :: ys).length) (fun _ => ()) (fun i _ => [(2, .sl 0 0 (y :: ys).length), (3, .emp), (4, .ptr 1 0), (5, .ptr 2 0), (9, .int .i64 (orN (fun j => mbA (y :: ys) b p m (([] : List Nat) ++ [(y :: ys).getD j 0])) (i) : Nat)), (10, .int .i64 (i : Nat))]) (fun i _ => [⟨ints (y :: ys), 1, 0, some 0, false⟩, ⟨[.int .i64 n, .int .i64 b], 1, 1, some 0, true⟩, ⟨[.int .i64 p, .int .i64 t], 1, 2, some 0, true⟩]) (fun _ => (⟨.exit 0, [(9, .int .i64 (orN (fun j => mbA (y :: ys) b p m (([] : List Nat) ++ [(y :: ys).getD j 0])) ((y :: ys).length) : Nat))], [⟨ints (y :: ys), 1, 0, some 0, false⟩]⟩ : Out)) ?_ ?_ ((y :: ys).length) 0 (by omega)
  · intro i u_ hi hu_
    refine ⟨(), rfl, ?_⟩
    have hlt : decide ((i : Int) < ((y :: ys).length : Nat)) = true := decide_eq_true (by omega)
    have hx := hl i hi
    obtain ⟨g1, g2, g3, g4⟩ := shN hp
    have hm := mbA_lt (y :: ys) b p m (([] : List Nat) ++ [(y :: ys).getD i 0])
    have ho := orN_lt (h := fun j => mbA (y :: ys) b p m (([] : List Nat) ++ [(y :: ys).getD j 0])) (N := R2 p) i (fun j _ => mbA_lt _ _ _ _ _)
    have hor : binV .or (.int .i64 (orN (fun j => mbA (y :: ys) b p m (([] : List Nat) ++ [(y :: ys).getD j 0])) i : Nat)) (.int .i64 (mbA (y :: ys) b p m (([] : List Nat) ++ [(y :: ys).getD i 0]) : Nat)) = some (.int .i64 (orN (fun j => mbA (y :: ys) b p m (([] : List Nat) ++ [(y :: ys).getD j 0])) (i + 1) : Nat)) := b_or (by omega) (by omega)
    have ihx := fun q1 => ih q1 ((y :: ys).getD i 0) hx
    have e2 := evow_e
    have ihx : ∀ q1, Ev cx 84 [.agg [.int .i64 n, .int .i64 b], .agg [.int .i64 p, .int .i64 t], .sl 0 0 (y :: ys).length, .sl 1 0 1] [⟨ints (y :: ys), 1, 0, some 0, false⟩, ⟨[V.int .i64 ((y :: ys).getD i 0 : Nat)], 1, 1, some q1, false⟩] (.int .i64 (mbA (y :: ys) b p m ([] ++ [(y :: ys).getD i 0]) : Nat)) [⟨ints (y :: ys), 1, 0, some 0, false⟩, ⟨[V.int .i64 ((y :: ys).getD i 0 : Nat)], 1, 1, some q1, false⟩] := ihx
    unfold m84_0
    repeat' (first
      | (refine g_op ?_; first
        | refine ep_mov rfl ?_ | refine ep_load1 rfl rfl rfl rfl ?_ | refine sp_loadN rfl rfl rfl rfl rfl ?_
        | refine ep_call0 rfl (by first | exact e2 | exact ihx _) rfl rfl ?_
        | refine sp_call rfl rfl rfl rfl (by first | exact e2 | exact ihx _) ⟨rfl, rfl, rfl, rfl⟩ rfl rfl rfl ?_
        | refine ep_bin rfl rfl (by first | exact hor | exact b_add (by omega) (by omega) | exact b_sub (by omega) (by omega) | exact b_and (by omega) (by omega) | exact b_or (by omega) (by omega) | exact b_shr (by omega) | exact b_shl (by omega) (by omega) | exact b_lss | exact b_leq | exact b_gtr | exact b_geq | exact b_eql | exact b_neq) ?_
        | refine ep_lenS rfl ?_ | refine ep_lenN rfl ?_ | refine ep_lenE rfl ?_ | refine sp_bslice rfl rfl rfl rfl rfl ?_ | refine sp_push0 rfl (by first | exact .inl rfl | exact .inr rfl) rfl rfl rfl rfl rfl (by decide) rfl rfl rfl ?_
        | refine sp_push rfl rfl rfl rfl rfl rfl rfl (by first | exact ints_len _ | exact prs_len _ _ | exact zints_len _) (by omega) (Nat.zero_le _) rfl rfl rfl rfl rfl ?_ | refine sp_idx rfl rfl rfl (by omega) rfl ?_
        | refine ep_loadS rfl rfl rfl (by first | exact ints_get (by omega) | exact zints_get (by omega) | exact fget (by omega) | assumption) ?_ | refine ep_loadSN rfl rfl rfl (by first | exact prs_get (by omega) | exact fns_get (by omega)) ?_)
      | (refine g_ops ?_; first | refine eo_none ?_ | refine eo_nil ?_)
      | (refine g_lops ?_; first | refine el_none rfl ?_ | refine el_nil ?_)
      | refine el_same rfl ?_ | refine el_one rfl rfl rfl rfl rfl ?_ | refine el_write rfl rfl rfl ?_
      | (refine g_code ?_; first | refine ec_seq ?_ | refine ec_region ?_ | refine ec_drawL (X := [1, 2]) rfl ?_ | refine ec_block ?_ | refine ec_skip ?_ | refine ec_exit ?_ | refine ec_condT rfl ?_ | refine ec_condF rfl ?_ | refine ec_condTH rfl (by assumption) ?_ | refine ec_condFH rfl (by assumption) ?_)
      | refine ek_seqN ?_ | refine ek_seqX ?_ | refine ek_blkN ?_ | refine ek_blkR ?_ | refine ek_blkX ?_ | refine ek_blkY rfl ?_)
    exact rnd_on (by rfl) (scmp2 (by rfl) (by rfl) (by exact ⟨rfl, rfl, rfl⟩) (by rfl) (by first | rfl | (simp; done) | (simp [ints, prs]; done)) (by rfl) (by first | rfl | (simp; done) | (simp [ints, prs]; done)))
  · intro u_ hu_
    have hlt : decide ((((y :: ys).length : Nat) : Int) < ((y :: ys).length : Nat)) = false := decide_eq_false (by omega)
    unfold m84_0
    repeat' (first
      | (refine g_op ?_; first
        | refine ep_mov rfl ?_ | refine ep_load1 rfl rfl rfl rfl ?_ | refine sp_loadN rfl rfl rfl rfl rfl ?_
        | refine ep_bin rfl rfl (by first | exact b_add (by omega) (by omega) | exact b_sub (by omega) (by omega) | exact b_and (by omega) (by omega) | exact b_or (by omega) (by omega) | exact b_shr (by omega) | exact b_shl (by omega) (by omega) | exact b_lss | exact b_leq | exact b_gtr | exact b_geq | exact b_eql | exact b_neq) ?_
        | refine ep_lenS rfl ?_ | refine ep_lenN rfl ?_ | refine ep_lenE rfl ?_ | refine sp_bslice rfl rfl rfl rfl rfl ?_ | refine sp_push0 rfl (by first | exact .inl rfl | exact .inr rfl) rfl rfl rfl rfl rfl (by decide) rfl rfl rfl ?_
        | refine sp_push rfl rfl rfl rfl rfl rfl rfl (by first | exact ints_len _ | exact prs_len _ _ | exact zints_len _) (by omega) (Nat.zero_le _) rfl rfl rfl rfl rfl ?_ | refine sp_idx rfl rfl rfl (by omega) rfl ?_
        | refine ep_loadS rfl rfl rfl (by first | exact ints_get (by omega) | exact zints_get (by omega) | exact fget (by omega) | assumption) ?_ | refine ep_loadSN rfl rfl rfl (by first | exact prs_get (by omega) | exact fns_get (by omega)) ?_)
      | (refine g_ops ?_; first | refine eo_none ?_ | refine eo_nil ?_)
      | (refine g_lops ?_; first | refine el_none rfl ?_ | refine el_nil ?_)
      | refine el_same rfl ?_ | refine el_one rfl rfl rfl rfl rfl ?_ | refine el_write rfl rfl rfl ?_
      | (refine g_code ?_; first | refine ec_seq ?_ | refine ec_region ?_ | refine ec_drawL (X := []) rfl ?_ | refine ec_block ?_ | refine ec_skip ?_ | refine ec_exit ?_ | refine ec_condT rfl ?_ | refine ec_condF rfl ?_ | refine ec_condTH rfl (by assumption) ?_ | refine ec_condFH rfl (by assumption) ?_)
      | refine ek_seqN ?_ | refine ek_seqX ?_ | refine ek_blkN ?_ | refine ek_blkR ?_ | refine ek_blkX ?_ | refine ek_blkY rfl ?_)
    exact rnd_out (by rfl) (by simp) (scmp2 (by rfl) (by rfl) (by exact ⟨rfl, rfl, rfl⟩) (by rfl) (by first | rfl | (simp; done) | (simp [ints, prs]; done)) (by rfl) (by first | rfl | (simp; done) | (simp [ints, prs]; done)))

theorem lpmd0_c (n b p t m y : Nat) (ys : List Nat) (q0 x : Nat) (xs : List Nat) (hn : n ≤ 4) (hp : p ≤ 4) (hll : (y :: ys).length ≤ 65536) (hl : ∀ j, j < (y :: ys).length → (y :: ys).getD j 0 < 65536) (hs0 : (x :: xs).length ≤ 4) (ih : ∀ (q1 z : Nat), z < 65536 → Ev cx 84 [.agg [.int .i64 n, .int .i64 b], .agg [.int .i64 p, .int .i64 t], .sl 0 0 (y :: ys).length, .sl 1 0 ((x :: xs).length + 1)] [⟨ints (y :: ys), 1, 0, some 0, false⟩, ⟨ints ((x :: xs) ++ [z]), 1, 1, some q1, false⟩] (.int .i64 (mbA (y :: ys) b p m ((x :: xs) ++ [z]) : Nat)) [⟨ints (y :: ys), 1, 0, some 0, false⟩, ⟨ints ((x :: xs) ++ [z]), 1, 1, some q1, false⟩]) :
    LpS cx 44 2 m84_0 [(2, .sl 0 0 (y :: ys).length), (3, .sl 1 0 (x :: xs).length), (4, .ptr 2 0), (5, .ptr 3 0), (9, .int .i64 (orN (fun j => mbA (y :: ys) b p m ((x :: xs) ++ [(y :: ys).getD j 0])) (0) : Nat)), (10, .int .i64 (0 : Nat))] [⟨ints (y :: ys), 1, 0, some 0, false⟩, ⟨ints (x :: xs), 1, 1, some q0, false⟩, ⟨[.int .i64 n, .int .i64 b], 1, 2, some 0, true⟩, ⟨[.int .i64 p, .int .i64 t], 1, 3, some 0, true⟩] (⟨.exit 0, [(9, .int .i64 (orN (fun j => mbA (y :: ys) b p m ((x :: xs) ++ [(y :: ys).getD j 0])) ((y :: ys).length) : Nat))], [⟨ints (y :: ys), 1, 0, some 0, false⟩, ⟨ints (x :: xs), 1, 1, some q0, false⟩]⟩ : Out).x (⟨.exit 0, [(9, .int .i64 (orN (fun j => mbA (y :: ys) b p m ((x :: xs) ++ [(y :: ys).getD j 0])) ((y :: ys).length) : Nat))], [⟨ints (y :: ys), 1, 0, some 0, false⟩, ⟨ints (x :: xs), 1, 1, some q0, false⟩]⟩ : Out).e (⟨.exit 0, [(9, .int .i64 (orN (fun j => mbA (y :: ys) b p m ((x :: xs) ++ [(y :: ys).getD j 0])) ((y :: ys).length) : Nat))], [⟨ints (y :: ys), 1, 0, some 0, false⟩, ⟨ints (x :: xs), 1, 1, some q0, false⟩]⟩ : Out).h := by
  refine lp_st ((y :: ys).length) (fun _ => ()) (fun i _ => [(2, .sl 0 0 (y :: ys).length), (3, .sl 1 0 (x :: xs).length), (4, .ptr 2 0), (5, .ptr 3 0), (9, .int .i64 (orN (fun j => mbA (y :: ys) b p m ((x :: xs) ++ [(y :: ys).getD j 0])) (i) : Nat)), (10, .int .i64 (i : Nat))]) (fun i _ => [⟨ints (y :: ys), 1, 0, some 0, false⟩, ⟨ints (x :: xs), 1, 1, some q0, false⟩, ⟨[.int .i64 n, .int .i64 b], 1, 2, some 0, true⟩, ⟨[.int .i64 p, .int .i64 t], 1, 3, some 0, true⟩]) (fun _ => (⟨.exit 0, [(9, .int .i64 (orN (fun j => mbA (y :: ys) b p m ((x :: xs) ++ [(y :: ys).getD j 0])) ((y :: ys).length) : Nat))], [⟨ints (y :: ys), 1, 0, some 0, false⟩, ⟨ints (x :: xs), 1, 1, some q0, false⟩]⟩ : Out)) ?_ ?_ ((y :: ys).length) 0 (by omega)
  · intro i u_ hi hu_
    refine ⟨(), rfl, ?_⟩
    have hlt : decide ((i : Int) < ((y :: ys).length : Nat)) = true := decide_eq_true (by omega)
    have hx := hl i hi
    obtain ⟨g1, g2, g3, g4⟩ := shN hp
    have hm := mbA_lt (y :: ys) b p m ((x :: xs) ++ [(y :: ys).getD i 0])
    have ho := orN_lt (h := fun j => mbA (y :: ys) b p m ((x :: xs) ++ [(y :: ys).getD j 0])) (N := R2 p) i (fun j _ => mbA_lt _ _ _ _ _)
    have hor : binV .or (.int .i64 (orN (fun j => mbA (y :: ys) b p m ((x :: xs) ++ [(y :: ys).getD j 0])) i : Nat)) (.int .i64 (mbA (y :: ys) b p m ((x :: xs) ++ [(y :: ys).getD i 0]) : Nat)) = some (.int .i64 (orN (fun j => mbA (y :: ys) b p m ((x :: xs) ++ [(y :: ys).getD j 0])) (i + 1) : Nat)) := b_or (by omega) (by omega)
    have ihx := fun q1 => ih q1 ((y :: ys).getD i 0) hx
    have e2 := evow_c q0 (x :: xs) (x :: xs).length rfl (by simp) (by omega)
    have hap : ints (x :: xs) ++ [V.int .i64 ((y :: ys).getD i 0 : Nat)] = ints ((x :: xs) ++ [(y :: ys).getD i 0]) := by simp [ints]
    rw [← hap] at ihx
    unfold m84_0
    repeat' (first
      | (refine g_op ?_; first
        | refine ep_mov rfl ?_ | refine ep_load1 rfl rfl rfl rfl ?_ | refine sp_loadN rfl rfl rfl rfl rfl ?_
        | refine ep_call0 rfl (by first | exact e2 | exact ihx _) rfl rfl ?_
        | refine sp_call rfl rfl rfl rfl (by first | exact e2 | exact ihx _) ⟨rfl, rfl, rfl, rfl⟩ rfl rfl rfl ?_
        | refine ep_bin rfl rfl (by first | exact hor | exact b_add (by omega) (by omega) | exact b_sub (by omega) (by omega) | exact b_and (by omega) (by omega) | exact b_or (by omega) (by omega) | exact b_shr (by omega) | exact b_shl (by omega) (by omega) | exact b_lss | exact b_leq | exact b_gtr | exact b_geq | exact b_eql | exact b_neq) ?_
        | refine ep_lenS rfl ?_ | refine ep_lenN rfl ?_ | refine ep_lenE rfl ?_ | refine sp_bslice rfl rfl rfl rfl rfl ?_ | refine sp_push0 rfl (by first | exact .inl rfl | exact .inr rfl) rfl rfl rfl rfl rfl (by decide) rfl rfl rfl ?_
        | refine sp_push rfl rfl rfl rfl rfl rfl rfl (by first | exact ints_len _ | exact prs_len _ _ | exact zints_len _) (by omega) (Nat.zero_le _) rfl rfl rfl rfl rfl ?_ | refine sp_idx rfl rfl rfl (by omega) rfl ?_
        | refine ep_loadS rfl rfl rfl (by first | exact ints_get (by omega) | exact zints_get (by omega) | exact fget (by omega) | assumption) ?_ | refine ep_loadSN rfl rfl rfl (by first | exact prs_get (by omega) | exact fns_get (by omega)) ?_)
      | (refine g_ops ?_; first | refine eo_none ?_ | refine eo_nil ?_)
      | (refine g_lops ?_; first | refine el_none rfl ?_ | refine el_nil ?_)
      | refine el_same rfl ?_ | refine el_one rfl rfl rfl rfl rfl ?_ | refine el_write rfl rfl rfl ?_
      | (refine g_code ?_; first | refine ec_seq ?_ | refine ec_region ?_ | refine ec_drawL (X := [2, 3]) rfl ?_ | refine ec_block ?_ | refine ec_skip ?_ | refine ec_exit ?_ | refine ec_condT rfl ?_ | refine ec_condF rfl ?_ | refine ec_condTH rfl (by assumption) ?_ | refine ec_condFH rfl (by assumption) ?_)
      | refine ek_seqN ?_ | refine ek_seqX ?_ | refine ek_blkN ?_ | refine ek_blkR ?_ | refine ek_blkX ?_ | refine ek_blkY rfl ?_)
    exact rnd_on (by rfl) (scmp2 (by rfl) (by rfl) (by exact ⟨rfl, rfl, rfl⟩) (by rfl) (by first | rfl | (simp; done) | (simp [ints, prs]; done)) (by rfl) (by first | rfl | (simp; done) | (simp [ints, prs]; done)))
  · intro u_ hu_
    have hlt : decide ((((y :: ys).length : Nat) : Int) < ((y :: ys).length : Nat)) = false := decide_eq_false (by omega)
    unfold m84_0
    repeat' (first
      | (refine g_op ?_; first
        | refine ep_mov rfl ?_ | refine ep_load1 rfl rfl rfl rfl ?_ | refine sp_loadN rfl rfl rfl rfl rfl ?_
        | refine ep_bin rfl rfl (by first | exact b_add (by omega) (by omega) | exact b_sub (by omega) (by omega) | exact b_and (by omega) (by omega) | exact b_or (by omega) (by omega) | exact b_shr (by omega) | exact b_shl (by omega) (by omega) | exact b_lss | exact b_leq | exact b_gtr | exact b_geq | exact b_eql | exact b_neq) ?_
        | refine ep_lenS rfl ?_ | refine ep_lenN rfl ?_ | refine ep_lenE rfl ?_ | refine sp_bslice rfl rfl rfl rfl rfl ?_ | refine sp_push0 rfl (by first | exact .inl rfl | exact .inr rfl) rfl rfl rfl rfl rfl (by decide) rfl rfl rfl ?_
        | refine sp_push rfl rfl rfl rfl rfl rfl rfl (by first | exact ints_len _ | exact prs_len _ _ | exact zints_len _) (by omega) (Nat.zero_le _) rfl rfl rfl rfl rfl ?_ | refine sp_idx rfl rfl rfl (by omega) rfl ?_
        | refine ep_loadS rfl rfl rfl (by first | exact ints_get (by omega) | exact zints_get (by omega) | exact fget (by omega) | assumption) ?_ | refine ep_loadSN rfl rfl rfl (by first | exact prs_get (by omega) | exact fns_get (by omega)) ?_)
      | (refine g_ops ?_; first | refine eo_none ?_ | refine eo_nil ?_)
      | (refine g_lops ?_; first | refine el_none rfl ?_ | refine el_nil ?_)
      | refine el_same rfl ?_ | refine el_one rfl rfl rfl rfl rfl ?_ | refine el_write rfl rfl rfl ?_
      | (refine g_code ?_; first | refine ec_seq ?_ | refine ec_region ?_ | refine ec_drawL (X := []) rfl ?_ | refine ec_block ?_ | refine ec_skip ?_ | refine ec_exit ?_ | refine ec_condT rfl ?_ | refine ec_condF rfl ?_ | refine ec_condTH rfl (by assumption) ?_ | refine ec_condFH rfl (by assumption) ?_)
      | refine ek_seqN ?_ | refine ek_seqX ?_ | refine ek_blkN ?_ | refine ek_blkR ?_ | refine ek_blkX ?_ | refine ek_blkY rfl ?_)
    exact rnd_out (by rfl) (by simp) (scmp2 (by rfl) (by rfl) (by exact ⟨rfl, rfl, rfl⟩) (by rfl) (by first | rfl | (simp; done) | (simp [ints, prs]; done)) (by rfl) (by first | rfl | (simp; done) | (simp [ints, prs]; done)))

theorem evmd_c (n b p t y : Nat) (ys : List Nat) (hn : n ≤ 4) (hb : b < 65536) (hp : p ≤ 4) (hll : (y :: ys).length ≤ 65536) (hl : ∀ j, j < (y :: ys).length → (y :: ys).getD j 0 < 65536) : ∀ (m q0 x : Nat) (xs : List Nat), (x :: xs).length + m = n → (∀ j, j < (x :: xs).length → (x :: xs).getD j 0 < 65536) →
    Ev cx 84 [.agg [.int .i64 n, .int .i64 b], .agg [.int .i64 p, .int .i64 t], .sl 0 0 (y :: ys).length, .sl 1 0 (x :: xs).length] [⟨ints (y :: ys), 1, 0, some 0, false⟩, ⟨ints (x :: xs), 1, 1, some q0, false⟩] (.int .i64 (mbA (y :: ys) b p m (x :: xs) : Nat)) [⟨ints (y :: ys), 1, 0, some 0, false⟩, ⟨ints (x :: xs), 1, 1, some q0, false⟩]
  | 0, q0, x, xs, hm, hs => by
    obtain ⟨g1, g2, g3, g4⟩ := shN hp
    have hv := valS_lt b p (x :: xs)
    have e1 := evva_c n b p q0 x xs hs hn hb hp (by omega)
    have hq : ((((x :: xs).length : Nat) : Int) == (n : Nat)) = true := by rw [ieq]; simp at hm ⊢; omega
    have hm2 := R2_mono (i := valS b p (x :: xs)) (n := 16) (by omega)
    have h16 : R2 16 = 65536 := by unfold R2; rfl
    refine has84.eev rfl rfl ?_
    unfold m84
    repeat' (first
      | (refine g_op ?_; first
        | refine ep_mov rfl ?_ | refine ep_load1 rfl rfl rfl rfl ?_ | refine ep_fieldAddr rfl ?_ | refine sp_loadN rfl rfl rfl rfl rfl ?_
        | refine ep_call0 rfl (by first | exact e1) rfl rfl ?_
        | refine sp_call rfl rfl rfl rfl (by first | exact e1) ⟨rfl, rfl, rfl, rfl⟩ rfl rfl rfl ?_
        | refine ep_bin rfl rfl (by first | exact b_shl1 (y := valS b p (x :: xs)) (by omega) (by omega) | exact b_add (by omega) (by omega) | exact b_sub (by omega) (by omega) | exact b_and (by omega) (by omega) | exact b_or (by omega) (by omega) | exact b_shr (by omega) | exact b_shl (by omega) (by omega) | exact b_lss | exact b_leq | exact b_gtr | exact b_geq | exact b_eql | exact b_neq) ?_
        | refine ep_conv rfl (by first | exact w_u64 (by omega) (by omega) | exact wrap_id (by omega) (by omega) | rfl) ?_ | refine ep_lenS rfl ?_ | refine ep_lenN rfl ?_ | refine ep_lenE rfl ?_ | refine sp_box rfl rfl rfl rfl rfl ?_)
      | (refine g_ops ?_; first | refine eo_none ?_ | refine eo_nil ?_)
      | (refine g_code ?_; first | refine ec_seq ?_ | refine ec_region ?_ | refine ec_block ?_ | refine ec_skip ?_ | refine ec_ret ?_ | refine ec_condT rfl ?_ | refine ec_condF rfl ?_ | refine ec_condTH rfl (by assumption) ?_ | refine ec_condFH rfl (by assumption) ?_)
      | refine ek_seqN ?_ | refine ek_seqX ?_ | refine ek_seqR ?_ | refine ek_blkN ?_ | refine ek_blkR ?_ | refine ek_blkX ?_ | refine ek_blkY rfl ?_)
    refine sfin (.inr rfl) (by rfl) (by rfl) (by exact ⟨rfl, rfl, rfl⟩) (by rfl) (by rfl) (by rfl) (by first | rfl | (simp; done) | (simp [ints, prs]; done))
  | m + 1, q0, x, xs, hm, hs => by
    have hq : ((((x :: xs).length : Nat) : Int) == (n : Nat)) = false := by rw [ieq]; simp at hm ⊢; omega
    have lp := lpmd0_c n b p t m y ys q0 x xs hn hp hll hl (by omega) (fun q1 z hz => by
      have := evmd_c n b p t y ys hn hb hp hll hl m q1 x (xs ++ [z]) (by simp at hm ⊢; omega) (fun j hj => by
        rw [← List.cons_append] at hj ⊢
        by_cases hlt : j < (x :: xs).length
        · rw [List.getD_eq_getElem?_getD, List.getElem?_append_left hlt, ← List.getD_eq_getElem?_getD]; exact hs j hlt
        · rw [List.getD_eq_getElem?_getD, List.getElem?_append_right (by omega)]
          rw [List.length_append, List.length_singleton] at hj
          rw [show j - (x :: xs).length = 0 by omega]; exact hz)
      rw [← List.cons_append, List.length_append, List.length_singleton] at this
      exact this)
    rw [show orN (fun j => mbA (y :: ys) b p m ((x :: xs) ++ [(y :: ys).getD j 0])) 0 = 0 from rfl] at lp
    refine has84.eev rfl rfl ?_
    unfold m84
    repeat' (first
      | refine sc_loop lp rfl rfl ⟨rfl, rfl, rfl⟩ rfl rfl rfl ?_
      | (refine g_op ?_; first
        | refine ep_mov rfl ?_ | refine ep_load1 rfl rfl rfl rfl ?_ | refine ep_fieldAddr rfl ?_ | refine sp_loadN rfl rfl rfl rfl rfl ?_
        | refine ep_bin rfl rfl (by first | exact b_add (by omega) (by omega) | exact b_sub (by omega) (by omega) | exact b_and (by omega) (by omega) | exact b_or (by omega) (by omega) | exact b_shr (by omega) | exact b_shl (by omega) (by omega) | exact b_lss | exact b_leq | exact b_gtr | exact b_geq | exact b_eql | exact b_neq) ?_
        | refine ep_conv rfl (by first | exact w_u64 (by omega) (by omega) | exact wrap_id (by omega) (by omega) | rfl) ?_ | refine ep_lenS rfl ?_ | refine ep_lenN rfl ?_ | refine ep_lenE rfl ?_ | refine sp_box rfl rfl rfl rfl rfl ?_)
      | (refine g_ops ?_; first | refine eo_none ?_ | refine eo_nil ?_)
      | (refine g_code ?_; first | refine ec_seq ?_ | refine ec_region ?_ | refine ec_block ?_ | refine ec_skip ?_ | refine ec_ret ?_ | refine ec_condT rfl ?_ | refine ec_condF rfl ?_ | refine ec_condTH rfl (by assumption) ?_ | refine ec_condFH rfl (by assumption) ?_)
      | refine ek_seqN ?_ | refine ek_seqX ?_ | refine ek_seqR ?_ | refine ek_blkN ?_ | refine ek_blkR ?_ | refine ek_blkX ?_ | refine ek_blkY rfl ?_)
    refine sfin (.inr rfl) (by rfl) (by rfl) (by exact ⟨rfl, rfl, rfl⟩) (by rfl) (by rfl) (by rfl) (by first | rfl | (simp; done) | (simp [ints, prs]; done))
theorem evmd_e (n b p t y : Nat) (ys : List Nat) (hn : n ≤ 4) (hb : b < 65536) (hp : p ≤ 4) (hll : (y :: ys).length ≤ 65536) (hl : ∀ j, j < (y :: ys).length → (y :: ys).getD j 0 < 65536) :
    Ev cx 84 [.agg [.int .i64 n, .int .i64 b], .agg [.int .i64 p, .int .i64 t], .sl 0 0 (y :: ys).length, .emp] [⟨ints (y :: ys), 1, 0, some 0, false⟩] (.int .i64 (mbA (y :: ys) b p n [] : Nat)) [⟨ints (y :: ys), 1, 0, some 0, false⟩] := by
  cases n with
  | zero =>
    obtain ⟨g1, g2, g3, g4⟩ := shN hp
    have hv := valS_lt b p []
    have e1 := evva_e 0 b p hn hb hp rfl
    have hq : (((0 : Nat) : Int) == (0 : Nat)) = true := by simp
    have hm2 := R2_mono (i := valS b p []) (n := 16) (by omega)
    have h16 : R2 16 = 65536 := by unfold R2; rfl
    refine has84.eev rfl rfl ?_
    unfold m84
    repeat' (first
      | (refine g_op ?_; first
        | refine ep_mov rfl ?_ | refine ep_load1 rfl rfl rfl rfl ?_ | refine ep_fieldAddr rfl ?_ | refine sp_loadN rfl rfl rfl rfl rfl ?_
        | refine ep_call0 rfl (by first | exact e1) rfl rfl ?_
        | refine sp_call rfl rfl rfl rfl (by first | exact e1) ⟨rfl, rfl, rfl, rfl⟩ rfl rfl rfl ?_
        | refine ep_bin rfl rfl (by first | exact b_shl1 (y := valS b p []) (by omega) (by omega) | exact b_add (by omega) (by omega) | exact b_sub (by omega) (by omega) | exact b_and (by omega) (by omega) | exact b_or (by omega) (by omega) | exact b_shr (by omega) | exact b_shl (by omega) (by omega) | exact b_lss | exact b_leq | exact b_gtr | exact b_geq | exact b_eql | exact b_neq) ?_
        | refine ep_conv rfl (by first | exact w_u64 (by omega) (by omega) | exact wrap_id (by omega) (by omega) | rfl) ?_ | refine ep_lenS rfl ?_ | refine ep_lenN rfl ?_ | refine ep_lenE rfl ?_ | refine sp_box rfl rfl rfl rfl rfl ?_)
      | (refine g_ops ?_; first | refine eo_none ?_ | refine eo_nil ?_)
      | (refine g_code ?_; first | refine ec_seq ?_ | refine ec_region ?_ | refine ec_block ?_ | refine ec_skip ?_ | refine ec_ret ?_ | refine ec_condT rfl ?_ | refine ec_condF rfl ?_ | refine ec_condTH rfl (by assumption) ?_ | refine ec_condFH rfl (by assumption) ?_)
      | refine ek_seqN ?_ | refine ek_seqX ?_ | refine ek_seqR ?_ | refine ek_blkN ?_ | refine ek_blkR ?_ | refine ek_blkX ?_ | refine ek_blkY rfl ?_)
    refine sfin (.inr rfl) (by rfl) (by rfl) (by exact ⟨rfl, rfl, rfl⟩) (by rfl) (by rfl) (by rfl) (by first | rfl | (simp; done) | (simp [ints, prs]; done))
  | succ m =>
    have hq : ((0 : Int) == ((m + 1 : Nat) : Int)) = false := by simp; omega
    have lp := lpmd0_e (m + 1) b p t m y ys hn hp hll hl (fun q1 z hz => evmd_c (m + 1) b p t y ys hn hb hp hll hl m q1 z [] (by simp; omega) (fun j hj => by
      have : j = 0 := by simpa using hj
      subst this; exact hz))
    rw [show orN (fun j => mbA (y :: ys) b p m ([] ++ [(y :: ys).getD j 0])) 0 = 0 from rfl] at lp
    refine has84.eev rfl rfl ?_
    unfold m84
    repeat' (first
      | refine sc_loop lp rfl rfl ⟨rfl, rfl, rfl⟩ rfl rfl rfl ?_
      | (refine g_op ?_; first
        | refine ep_mov rfl ?_ | refine ep_load1 rfl rfl rfl rfl ?_ | refine ep_fieldAddr rfl ?_ | refine sp_loadN rfl rfl rfl rfl rfl ?_
        | refine ep_bin rfl rfl (by first | exact b_add (by omega) (by omega) | exact b_sub (by omega) (by omega) | exact b_and (by omega) (by omega) | exact b_or (by omega) (by omega) | exact b_shr (by omega) | exact b_shl (by omega) (by omega) | exact b_lss | exact b_leq | exact b_gtr | exact b_geq | exact b_eql | exact b_neq) ?_
        | refine ep_conv rfl (by first | exact w_u64 (by omega) (by omega) | exact wrap_id (by omega) (by omega) | rfl) ?_ | refine ep_lenS rfl ?_ | refine ep_lenN rfl ?_ | refine ep_lenE rfl ?_ | refine sp_box rfl rfl rfl rfl rfl ?_)
      | (refine g_ops ?_; first | refine eo_none ?_ | refine eo_nil ?_)
      | (refine g_code ?_; first | refine ec_seq ?_ | refine ec_region ?_ | refine ec_block ?_ | refine ec_skip ?_ | refine ec_ret ?_ | refine ec_condT rfl ?_ | refine ec_condF rfl ?_ | refine ec_condTH rfl (by assumption) ?_ | refine ec_condFH rfl (by assumption) ?_)
      | refine ek_seqN ?_ | refine ek_seqX ?_ | refine ek_seqR ?_ | refine ek_blkN ?_ | refine ek_blkR ?_ | refine ek_blkX ?_ | refine ek_blkY rfl ?_)
    refine sfin (.inr rfl) (by rfl) (by rfl) (by exact ⟨rfl, rfl, rfl⟩) (by rfl) (by rfl) (by rfl) (by first | rfl | (simp; done) | (simp [ints, prs]; done))
theorem lpmd0_z (n b p t : Nat) :
    LpS cx 44 0 m84_0 [(2, .emp), (3, .emp), (4, .ptr 0 0), (5, .ptr 1 0), (9, .int .i64 0), (10, .int .i64 (0 : Nat))] [⟨[.int .i64 n, .int .i64 b], 1, 0, some 0, true⟩, ⟨[.int .i64 p, .int .i64 t], 1, 1, some 0, true⟩] (⟨.exit 0, [(9, .int .i64 0)], []⟩ : Out).x (⟨.exit 0, [(9, .int .i64 0)], []⟩ : Out).e (⟨.exit 0, [(9, .int .i64 0)], []⟩ : Out).h := by
  refine lp_st (0) (fun _ => ()) (fun i _ => [(2, .emp), (3, .emp), (4, .ptr 0 0), (5, .ptr 1 0), (9, .int .i64 0), (10, .int .i64 (i : Nat))]) (fun i _ => [⟨[.int .i64 n, .int .i64 b], 1, 0, some 0, true⟩, ⟨[.int .i64 p, .int .i64 t], 1, 1, some 0, true⟩]) (fun _ => (⟨.exit 0, [(9, .int .i64 0)], []⟩ : Out)) ?_ ?_ (0) 0 (by omega)
  · intro i u_ hi hu_
    refine ⟨(), rfl, ?_⟩
    exact absurd hi (by simp)
  · intro u_ hu_
    have hlt : decide (((0 : Nat) : Int) < (0 : Nat)) = false := decide_eq_false (by omega)
    unfold m84_0
    repeat' (first
      | (refine g_op ?_; first
        | refine ep_mov rfl ?_ | refine ep_load1 rfl rfl rfl rfl ?_ | refine sp_loadN rfl rfl rfl rfl rfl ?_
        | refine ep_bin rfl rfl (by first | exact b_add (by omega) (by omega) | exact b_sub (by omega) (by omega) | exact b_and (by omega) (by omega) | exact b_or (by omega) (by omega) | exact b_shr (by omega) | exact b_shl (by omega) (by omega) | exact b_lss | exact b_leq | exact b_gtr | exact b_geq | exact b_eql | exact b_neq) ?_
        | refine ep_lenS rfl ?_ | refine ep_lenN rfl ?_ | refine ep_lenE rfl ?_ | refine sp_bslice rfl rfl rfl rfl rfl ?_ | refine sp_push0 rfl (by first | exact .inl rfl | exact .inr rfl) rfl rfl rfl rfl rfl (by decide) rfl rfl rfl ?_
        | refine sp_push rfl rfl rfl rfl rfl rfl rfl (by first | exact ints_len _ | exact prs_len _ _ | exact zints_len _) (by omega) (Nat.zero_le _) rfl rfl rfl rfl rfl ?_ | refine sp_idx rfl rfl rfl (by omega) rfl ?_
        | refine ep_loadS rfl rfl rfl (by first | exact ints_get (by omega) | exact zints_get (by omega) | exact fget (by omega) | assumption) ?_ | refine ep_loadSN rfl rfl rfl (by first | exact prs_get (by omega) | exact fns_get (by omega)) ?_)
      | (refine g_ops ?_; first | refine eo_none ?_ | refine eo_nil ?_)
      | (refine g_lops ?_; first | refine el_none rfl ?_ | refine el_nil ?_)
      | refine el_same rfl ?_ | refine el_one rfl rfl rfl rfl rfl ?_ | refine el_write rfl rfl rfl ?_
      | (refine g_code ?_; first | refine ec_seq ?_ | refine ec_region ?_ | refine ec_drawL (X := []) rfl ?_ | refine ec_block ?_ | refine ec_skip ?_ | refine ec_exit ?_ | refine ec_condT rfl ?_ | refine ec_condF rfl ?_ | refine ec_condTH rfl (by assumption) ?_ | refine ec_condFH rfl (by assumption) ?_)
      | refine ek_seqN ?_ | refine ek_seqX ?_ | refine ek_blkN ?_ | refine ek_blkR ?_ | refine ek_blkX ?_ | refine ek_blkY rfl ?_)
    exact rnd_out (by rfl) (by simp) (scmp2 (by rfl) (by rfl) (by exact ⟨rfl, rfl, rfl⟩) (by rfl) (by first | rfl | (simp; done) | (simp [ints, prs]; done)) (by rfl) (by first | rfl | (simp; done) | (simp [ints, prs]; done)))

theorem evmd_z (n b p t : Nat) (hn : n ≤ 4) (hb : b < 65536) (hp : p ≤ 4) : Ev cx 84 [.agg [.int .i64 n, .int .i64 b], .agg [.int .i64 p, .int .i64 t], .emp, .emp] [] (.int .i64 (mbA [] b p n [] : Nat)) [] := by
  cases n with
  | zero =>
    obtain ⟨g1, g2, g3, g4⟩ := shN hp
    have hv := valS_lt b p []
    have e1 := evva_e 0 b p hn hb hp rfl
    have hq : (((0 : Nat) : Int) == (0 : Nat)) = true := by simp
    have hm2 := R2_mono (i := valS b p []) (n := 16) (by omega)
    have h16 : R2 16 = 65536 := by unfold R2; rfl
    refine has84.eev rfl rfl ?_
    unfold m84
    repeat' (first
      | (refine g_op ?_; first
        | refine ep_mov rfl ?_ | refine ep_load1 rfl rfl rfl rfl ?_ | refine ep_fieldAddr rfl ?_ | refine sp_loadN rfl rfl rfl rfl rfl ?_
        | refine ep_call0 rfl (by first | exact e1) rfl rfl ?_
        | refine sp_call rfl rfl rfl rfl (by first | exact e1) ⟨rfl, rfl, rfl, rfl⟩ rfl rfl rfl ?_
        | refine ep_bin rfl rfl (by first | exact b_shl1 (y := valS b p []) (by omega) (by omega) | exact b_add (by omega) (by omega) | exact b_sub (by omega) (by omega) | exact b_and (by omega) (by omega) | exact b_or (by omega) (by omega) | exact b_shr (by omega) | exact b_shl (by omega) (by omega) | exact b_lss | exact b_leq | exact b_gtr | exact b_geq | exact b_eql | exact b_neq) ?_
        | refine ep_conv rfl (by first | exact w_u64 (by omega) (by omega) | exact wrap_id (by omega) (by omega) | rfl) ?_ | refine ep_lenS rfl ?_ | refine ep_lenN rfl ?_ | refine ep_lenE rfl ?_ | refine sp_box rfl rfl rfl rfl rfl ?_)
      | (refine g_ops ?_; first | refine eo_none ?_ | refine eo_nil ?_)
      | (refine g_code ?_; first | refine ec_seq ?_ | refine ec_region ?_ | refine ec_block ?_ | refine ec_skip ?_ | refine ec_ret ?_ | refine ec_condT rfl ?_ | refine ec_condF rfl ?_ | refine ec_condTH rfl (by assumption) ?_ | refine ec_condFH rfl (by assumption) ?_)
      | refine ek_seqN ?_ | refine ek_seqX ?_ | refine ek_seqR ?_ | refine ek_blkN ?_ | refine ek_blkR ?_ | refine ek_blkX ?_ | refine ek_blkY rfl ?_)
    refine sfin (.inr rfl) (by rfl) (by rfl) (by exact ⟨rfl, rfl, rfl⟩) (by rfl) (by rfl) (by rfl) (by first | rfl | (simp; done) | (simp [ints, prs]; done))
  | succ m =>
    have hq : ((0 : Int) == ((m + 1 : Nat) : Int)) = false := by simp; omega
    have lp := lpmd0_z (m + 1) b p t
    refine has84.eev rfl rfl ?_
    unfold m84
    repeat' (first
      | refine sc_loop lp rfl rfl ⟨rfl, rfl, rfl⟩ rfl rfl rfl ?_
      | (refine g_op ?_; first
        | refine ep_mov rfl ?_ | refine ep_load1 rfl rfl rfl rfl ?_ | refine ep_fieldAddr rfl ?_ | refine sp_loadN rfl rfl rfl rfl rfl ?_
        | refine ep_bin rfl rfl (by first | exact b_add (by omega) (by omega) | exact b_sub (by omega) (by omega) | exact b_and (by omega) (by omega) | exact b_or (by omega) (by omega) | exact b_shr (by omega) | exact b_shl (by omega) (by omega) | exact b_lss | exact b_leq | exact b_gtr | exact b_geq | exact b_eql | exact b_neq) ?_
        | refine ep_conv rfl (by first | exact w_u64 (by omega) (by omega) | exact wrap_id (by omega) (by omega) | rfl) ?_ | refine ep_lenS rfl ?_ | refine ep_lenN rfl ?_ | refine ep_lenE rfl ?_ | refine sp_box rfl rfl rfl rfl rfl ?_)
      | (refine g_ops ?_; first | refine eo_none ?_ | refine eo_nil ?_)
      | (refine g_code ?_; first | refine ec_seq ?_ | refine ec_region ?_ | refine ec_block ?_ | refine ec_skip ?_ | refine ec_ret ?_ | refine ec_condT rfl ?_ | refine ec_condF rfl ?_ | refine ec_condTH rfl (by assumption) ?_ | refine ec_condFH rfl (by assumption) ?_)
      | refine ek_seqN ?_ | refine ek_seqX ?_ | refine ek_seqR ?_ | refine ek_blkN ?_ | refine ek_blkR ?_ | refine ek_blkX ?_ | refine ek_blkY rfl ?_)
    refine sfin (.inr rfl) (by rfl) (by rfl) (by exact ⟨rfl, rfl, rfl⟩) (by rfl) (by rfl) (by rfl) (by first | rfl | (simp; done) | (simp [ints, prs]; done))
-- spec.l06Keeps
def m92 : MC := (.seq (.region [⟨(.box (.t 0)), (some 2), none⟩, ⟨(.box (.t 1)), (some 3), none⟩, ⟨(.mov (.k (.bool false))), (some 4), none⟩] false) (.seq (.region [⟨(.load (some 2) (.t 2)), (some 5), none⟩, ⟨(.load (some 2) (.t 3)), (some 6), none⟩, ⟨(.load (some 2) (.t 3)), (some 7), none⟩, ⟨(.call 58 [(.t 7)]), (some 8), none⟩, ⟨.empt, (some 9), none⟩, ⟨(.call 84 [(.t 5), (.t 6), (.t 8), (.t 9)]), (some 10), none⟩, ⟨(.fieldAddr 1 (.t 3)), (some 11), none⟩, ⟨(.load none (.t 11)), (some 12), none⟩, ⟨(.bin .andNot (.t 10) (.t 12)), (some 13), none⟩, ⟨(.bin .eql (.t 13) (.k (.int .i64 0))), (some 14), none⟩, ⟨(.mov (.t 14)), (some 4), none⟩] true) .ret))
theorem has92 : Has cx 92 15 m92 [(.tmp 4)] :=
  ⟨⟨Try.f92, Try.f92.body.getD .skip, by kernel_rfl, by kernel_rfl, by kernel_rfl, by kernel_rfl, by kernel_rfl, by kernel_rfl⟩⟩
theorem ev92 (n b p t : Nat) (hn : n ≤ 4) (hb : b < 65536) (hp : p ≤ 4) (ht : t < 65536) : Ev cx 92 [.agg [.int .i64 n, .int .i64 b], .agg [.int .i64 p, .int .i64 t]] [] (.bool (keepB n b p t)) [] := by
  have e1 := ev58 p t hp ht
  have tl := tup_le (n := p) (b := t)
  have tg := tup_lt (n := p) (b := t)
  obtain ⟨g1, g2, g3, g4⟩ := shN hp
  have hk := keep_eq (tupL p t) b p t n []
  have hm := mbA_lt (tupL p t) b p n []
  have hle := and_le_l (mbA (tupL p t) b p n []) t
  have hq : (((mbA (tupL p t) b p n [] - (mbA (tupL p t) b p n [] &&& t) : Nat) : Int) == 0) = keepB n b p t := by
    rw [Bool.eq_iff_iff, show keepB n b p t = true ↔ _ from hk.symm, beq_iff_eq]; omega
  have han := b_andNot (x := mbA (tupL p t) b p n []) (y := t) (by omega) (by omega)
  generalize hM : mbA (tupL p t) b p n [] - (mbA (tupL p t) b p n [] &&& t) = M at *
  clear hk hle
  cases hs : tupL p t with
  | nil =>
    rw [hs] at e1 han
    have e2 := evmd_z n b p t hn hb hp
    refine has92.eev rfl rfl ?_
    unfold m92
    repeat' (first
      | (refine g_op ?_; first
        | refine ep_mov rfl ?_ | refine ep_load1 rfl rfl rfl rfl ?_ | refine ep_fieldAddr rfl ?_ | refine sp_loadN rfl rfl rfl rfl rfl ?_
        | refine ep_call0 rfl (by first | exact e1 | exact e2) rfl rfl ?_
        | refine sp_call rfl rfl rfl rfl (by first | exact e1 | exact e2) ⟨rfl, rfl, rfl, rfl⟩ rfl rfl rfl ?_
        | refine ep_bin rfl rfl (by first | exact han | exact b_add (by omega) (by omega) | exact b_sub (by omega) (by omega) | exact b_and (by omega) (by omega) | exact b_or (by omega) (by omega) | exact b_shr (by omega) | exact b_shl (by omega) (by omega) | exact b_lss | exact b_leq | exact b_gtr | exact b_geq | exact b_eql | exact b_neq) ?_
        | refine sp_box rfl rfl rfl rfl rfl ?_ | refine ep_empt ?_)
      | (refine g_ops ?_; first | refine eo_none ?_ | refine eo_nil ?_)
      | (refine g_dops ?_; first | refine ed_none ?_ | refine ed_nil ?_)
      | refine ed_same rfl ?_ | refine ed_one rfl rfl rfl rfl ?_ | refine ed_two rfl rfl rfl rfl rfl rfl rfl ?_ | refine ed_write rfl rfl ?_
      | (refine g_code ?_; first | refine ec_seq ?_ | refine ec_region ?_ | refine ec_draw ?_ | refine ec_ret ?_)
      | refine ek_seqN ?_ | refine ek_seqR ?_)
    refine sfin (.inr rfl) (by rfl) (by rfl) (by exact ⟨rfl, rfl, rfl⟩) (by rfl) (by rfl) (by exact congrArg V.bool hq) (by first | rfl | (simp; done) | (simp [ints, prs]; done))
  | cons y ys =>
    rw [hs] at e1 tl tg han
    have e2 := evmd_e n b p t y ys hn hb hp (by omega) (fun j hj => by have := tg j hj; omega)
    refine has92.eev rfl rfl ?_
    unfold m92
    repeat' (first
      | (refine g_op ?_; first
        | refine ep_mov rfl ?_ | refine ep_load1 rfl rfl rfl rfl ?_ | refine ep_fieldAddr rfl ?_ | refine sp_loadN rfl rfl rfl rfl rfl ?_
        | refine ep_call0 rfl (by first | exact e1 | exact e2) rfl rfl ?_
        | refine sp_call rfl rfl rfl rfl (by first | exact e1 | exact e2) ⟨rfl, rfl, rfl, rfl⟩ rfl rfl rfl ?_
        | refine ep_bin rfl rfl (by first | exact han | exact b_add (by omega) (by omega) | exact b_sub (by omega) (by omega) | exact b_and (by omega) (by omega) | exact b_or (by omega) (by omega) | exact b_shr (by omega) | exact b_shl (by omega) (by omega) | exact b_lss | exact b_leq | exact b_gtr | exact b_geq | exact b_eql | exact b_neq) ?_
        | refine sp_box rfl rfl rfl rfl rfl ?_ | refine ep_empt ?_)
      | (refine g_ops ?_; first | refine eo_none ?_ | refine eo_nil ?_)
      | (refine g_dops ?_; first | refine ed_none ?_ | refine ed_nil ?_)
      | refine ed_same rfl ?_ | refine ed_one rfl rfl rfl rfl ?_ | refine ed_two rfl rfl rfl rfl rfl rfl rfl ?_ | refine ed_write rfl rfl ?_
      | (refine g_code ?_; first | refine ec_seq ?_ | refine ec_region ?_ | refine ec_draw ?_ | refine ec_ret ?_)
      | refine ek_seqN ?_ | refine ek_seqR ?_)
    refine sfin (.inr rfl) (by rfl) (by rfl) (by exact ⟨rfl, rfl, rfl⟩) (by rfl) (by rfl) (by exact congrArg V.bool hq) (by first | rfl | (simp; done) | (simp [ints, prs]; done))
def prOf (c : List Int) (n : Nat) : List (Int × Int) := (List.range n).map fun i => (c.getD (2 * i) 0, c.getD (2 * i + 1) 0)
theorem prOf_len (c : List Int) (n : Nat) : (prOf c n).length = n := by simp [prOf]
theorem prOf_fns : ∀ (n : Nat) (c : List Int), c.length = n * 2 → zints c = fns (prOf c n)
  | 0, c, h => by
    have : c = [] := List.length_eq_zero_iff.mp (by omega)
    subst this; rfl
  | n + 1, c, h => by
    match c, h with
    | [], h => simp at h
    | [_], h => simp at h; omega
    | x :: y :: c, h =>
      have ih := prOf_fns n c (by simp at h; omega)
      have e : prOf (x :: y :: c) (n + 1) = (x, y) :: prOf c n := by
        simp only [prOf, List.range_succ_eq_map, List.map_cons, List.map_map, List.getD_eq_getElem?_getD]
        refine List.cons_eq_cons.mpr ⟨rfl, List.map_congr_left fun i _ => ?_⟩
        simp only [Function.comp, show 2 * (i + 1) = 2 * i + 1 + 1 by omega, show 2 * (i + 1) + 1 = 2 * i + 1 + 1 + 1 by omega, List.getElem?_cons_succ]
      rw [e]
      simp only [zints, fns, List.map_cons, List.flatMap_cons, List.cons_append, List.nil_append] at ih ⊢
      rw [ih]
theorem fget2 {o j n : Nat} {l : List Int} (hl : l.length = n * 2) (h : j < n) : [V.int .i64 (l.getD (2 * j) 0), V.int .i64 (l.getD (2 * j + 1) 0)].length = 2 ∧ (o + j * 2) + 2 ≤ (List.replicate o V.any ++ nums .i64 l).length ∧ ((List.replicate o V.any ++ nums .i64 l).drop (o + j * 2)).take 2 = [V.int .i64 (l.getD (2 * j) 0), V.int .i64 (l.getD (2 * j + 1) 0)] := by
  refine ⟨rfl, by simp [nums]; omega, ?_⟩
  rw [List.drop_append, List.drop_eq_nil_of_le (by simp), List.nil_append, List.length_replicate, show o + j * 2 - o = 2 * j by omega]
  have h1 : 2 * j < (nums .i64 l).length := by simp [nums]; omega
  have h2 : 2 * j + 1 < (nums .i64 l).length := by simp [nums]; omega
  rw [List.drop_eq_getElem_cons h1, List.drop_eq_getElem_cons h2]
  simp only [List.take_succ_cons, List.take_zero, nums, List.getElem_map, List.getD_eq_getElem?_getD, List.getElem?_eq_getElem (show 2 * j < l.length by omega), List.getElem?_eq_getElem (show 2 * j + 1 < l.length by omega), Option.getD_some]
theorem zcp_mk2 {c : List Int} {n : Nat} (h : c.length = n * 2) : zints (zcp c (2 * 0)) = (List.replicate n [V.int .i64 0, V.int .i64 0]).flatten := by
  simp only [zcp, Nat.mul_zero, List.take_zero, List.nil_append, Nat.sub_zero, h]
  clear h
  induction n with
  | zero => rfl
  | succ n ih =>
    rw [show (n + 1) * 2 = n * 2 + 1 + 1 by omega]
    simp only [List.replicate_succ, zints, List.map_cons, List.flatten_cons, List.cons_append, List.nil_append] at ih ⊢; rw [ih]
theorem zcp_set2 {c : List Int} {i n : Nat} (hl : c.length = n * 2) (h : i < n) : (zints (zcp c (2 * i))).take (0 + i * 2) ++ [V.int .i64 (c.getD (2 * i) 0), V.int .i64 (c.getD (2 * i + 1) 0)] ++ (zints (zcp c (2 * i))).drop (0 + i * 2 + 2) = zints (zcp c (2 * (i + 1))) := by
  have e1 : List.replicate (c.length - 2 * i) (0 : Int) = 0 :: 0 :: List.replicate (c.length - 2 * (i + 1)) 0 := by
    rw [show c.length - 2 * i = (c.length - 2 * (i + 1)) + 1 + 1 by omega, List.replicate_succ, List.replicate_succ]
  have e2 : c.take (2 * (i + 1)) = c.take (2 * i) ++ [c.getD (2 * i) 0, c.getD (2 * i + 1) 0] := by
    rw [show 2 * (i + 1) = 2 * i + 1 + 1 by omega, List.take_add_one, List.take_add_one, List.getElem?_eq_getElem (show 2 * i < c.length by omega), List.getElem?_eq_getElem (show 2 * i + 1 < c.length by omega), List.getD_eq_getElem?_getD, List.getD_eq_getElem?_getD, List.getElem?_eq_getElem (show 2 * i < c.length by omega), List.getElem?_eq_getElem (show 2 * i + 1 < c.length by omega), List.append_assoc]; rfl
  have e3 : ((c.take (2 * i)).map fun x => V.int .i64 x).length = 2 * i := by simp; omega
  simp only [zcp, zints, List.map_append, e1, e2, show 0 + i * 2 = 2 * i by omega, List.map_cons]
  rw [List.take_append_of_le_length (by omega), List.take_of_length_le (by omega)]
  rw [List.drop_append, e3, List.drop_eq_nil_of_le (by omega), show 2 * i + 2 - 2 * i = 2 by omega]
  simp
-- laws.szRelationS
def m39 : MC := (.seq (.region [⟨(.mov (.k (.int .i64 0))), (some 4), none⟩] false) (.seq (.region [⟨(.mov (.t 1)), (some 5), none⟩, ⟨(.mov (.t 0)), (some 6), none⟩, ⟨(.len (.t 6)), (some 7), none⟩, ⟨(.bin .sub (.t 5) (.t 7)), (some 8), none⟩, ⟨(.mov (.t 8)), (some 1), none⟩] false) (.seq (.seq (.region [⟨(.mov (.t 1)), (some 9), none⟩, ⟨(.bin .lss (.t 9) (.k (.int .i64 0))), (some 10), none⟩] false) (.cond (.t 10) (.seq (.region [⟨(.mov (.k (.int .i64 (-1)))), (some 4), none⟩] false) .ret) .skip)) (.seq (.region [⟨(.mov (.t 1)), (some 11), none⟩, ⟨(.mov (.t 11)), (some 4), none⟩] false) .ret))))
theorem has39 : Has cx 39 12 m39 [(.tmp 4)] :=
  ⟨⟨Try.f39, Try.f39.body.getD .skip, by kernel_rfl, by kernel_rfl, by kernel_rfl, by kernel_rfl, by kernel_rfl, by kernel_rfl⟩⟩
theorem ev39 (o n : Nat) (c : List Int) (hn : n ≤ 9223372036854775807) : Ev cx 39 [.sl 0 o n, .int .i64 1048576] [fblk o (nums .i64 c)] (.int .i64 (if n ≤ 1048576 then 1048576 - (n : Nat) else -1)) [fblk o (nums .i64 c)] := by
  have hs : binV .sub (.int .i64 1048576) (.int .i64 (n : Nat)) = some (.int .i64 (1048576 - (n : Nat) : Int)) := b_sub (by omega) (by omega)
  by_cases h : n ≤ 1048576
  · have h1 : decide ((1048576 - (n : Nat) : Int) < 0) = false := decide_eq_false (by omega)
    rw [if_pos h]
    refine has39.eev rfl rfl ?_
    unfold m39
    repeat' (first
      | (refine g_op ?_; first
        | refine ep_mov rfl ?_
        | refine ep_bin rfl rfl (by first | exact hs | exact b_add (by omega) (by omega) | exact b_sub (by omega) (by omega) | exact b_and (by omega) (by omega) | exact b_or (by omega) (by omega) | exact b_shr (by omega) | exact b_shl (by omega) (by omega) | exact b_lss | exact b_leq | exact b_gtr | exact b_geq | exact b_eql | exact b_neq) ?_
        | refine ep_lenS rfl ?_ | refine ep_lenN rfl ?_ | refine ep_lenE rfl ?_)
      | (refine g_ops ?_; first | refine eo_none ?_ | refine eo_nil ?_)
      | (refine g_code ?_; first | refine ec_seq ?_ | refine ec_region ?_ | refine ec_skip ?_ | refine ec_ret ?_ | refine ec_condT rfl ?_ | refine ec_condF rfl ?_ | refine ec_condTH rfl (by assumption) ?_ | refine ec_condFH rfl (by assumption) ?_)
      | refine ek_seqN ?_ | refine ek_seqR ?_)
    refine sfin (.inr rfl) (by rfl) (by rfl) (by exact ⟨rfl, rfl, rfl⟩) (by rfl) (by rfl) (by rfl) (by first | rfl | (simp; done) | (simp [ints, prs]; done))
  · have h1 : decide ((1048576 - (n : Nat) : Int) < 0) = true := decide_eq_true (by omega)
    rw [if_neg h]
    refine has39.eev rfl rfl ?_
    unfold m39
    repeat' (first
      | (refine g_op ?_; first
        | refine ep_mov rfl ?_
        | refine ep_bin rfl rfl (by first | exact hs | exact b_add (by omega) (by omega) | exact b_sub (by omega) (by omega) | exact b_and (by omega) (by omega) | exact b_or (by omega) (by omega) | exact b_shr (by omega) | exact b_shl (by omega) (by omega) | exact b_lss | exact b_leq | exact b_gtr | exact b_geq | exact b_eql | exact b_neq) ?_
        | refine ep_lenS rfl ?_ | refine ep_lenN rfl ?_ | refine ep_lenE rfl ?_)
      | (refine g_ops ?_; first | refine eo_none ?_ | refine eo_nil ?_)
      | (refine g_code ?_; first | refine ec_seq ?_ | refine ec_region ?_ | refine ec_skip ?_ | refine ec_ret ?_ | refine ec_condT rfl ?_ | refine ec_condF rfl ?_ | refine ec_condTH rfl (by assumption) ?_ | refine ec_condFH rfl (by assumption) ?_)
      | refine ek_seqN ?_ | refine ek_seqR ?_)
    refine sfin (.inr rfl) (by rfl) (by rfl) (by exact ⟨rfl, rfl, rfl⟩) (by rfl) (by rfl) (by rfl) (by first | rfl | (simp; done) | (simp [ints, prs]; done))
theorem ev39_nils : Ev cx 39 [.nils, .int .i64 1048576] [] (.int .i64 1048576) [] := by
  refine has39.eev rfl rfl ?_
  unfold m39
  repeat' (first
    | (refine g_op ?_; first
      | refine ep_mov rfl ?_
      | refine ep_bin rfl rfl (by first | exact b_add (by omega) (by omega) | exact b_sub (by omega) (by omega) | exact b_and (by omega) (by omega) | exact b_or (by omega) (by omega) | exact b_shr (by omega) | exact b_shl (by omega) (by omega) | exact b_lss | exact b_leq | exact b_gtr | exact b_geq | exact b_eql | exact b_neq) ?_
      | refine ep_lenS rfl ?_ | refine ep_lenN rfl ?_ | refine ep_lenE rfl ?_)
    | (refine g_ops ?_; first | refine eo_none ?_ | refine eo_nil ?_)
    | (refine g_code ?_; first | refine ec_seq ?_ | refine ec_region ?_ | refine ec_skip ?_ | refine ec_ret ?_ | refine ec_condT rfl ?_ | refine ec_condF rfl ?_ | refine ec_condTH rfl (by assumption) ?_ | refine ec_condFH rfl (by assumption) ?_)
    | refine ek_seqN ?_ | refine ek_seqR ?_)
  refine sfin (.inr rfl) (by rfl) (by rfl) (by exact ⟨rfl, rfl, rfl⟩) (by rfl) (by rfl) (by rfl) (by first | rfl | (simp; done) | (simp [ints, prs]; done))
theorem ev39_emp : Ev cx 39 [.emp, .int .i64 1048576] [] (.int .i64 1048576) [] := by
  refine has39.eev rfl rfl ?_
  unfold m39
  repeat' (first
    | (refine g_op ?_; first
      | refine ep_mov rfl ?_
      | refine ep_bin rfl rfl (by first | exact b_add (by omega) (by omega) | exact b_sub (by omega) (by omega) | exact b_and (by omega) (by omega) | exact b_or (by omega) (by omega) | exact b_shr (by omega) | exact b_shl (by omega) (by omega) | exact b_lss | exact b_leq | exact b_gtr | exact b_geq | exact b_eql | exact b_neq) ?_
      | refine ep_lenS rfl ?_ | refine ep_lenN rfl ?_ | refine ep_lenE rfl ?_)
    | (refine g_ops ?_; first | refine eo_none ?_ | refine eo_nil ?_)
    | (refine g_code ?_; first | refine ec_seq ?_ | refine ec_region ?_ | refine ec_skip ?_ | refine ec_ret ?_ | refine ec_condT rfl ?_ | refine ec_condF rfl ?_ | refine ec_condTH rfl (by assumption) ?_ | refine ec_condFH rfl (by assumption) ?_)
    | refine ek_seqN ?_ | refine ek_seqR ?_)
  refine sfin (.inr rfl) (by rfl) (by rfl) (by exact ⟨rfl, rfl, rfl⟩) (by rfl) (by rfl) (by rfl) (by first | rfl | (simp; done) | (simp [ints, prs]; done))
-- laws.toRelationS
def m41_0 : MC := (.seq (.seq (.region [⟨(.mov (.t 4)), (some 8), none⟩, ⟨(.mov (.t 0)), (some 9), none⟩, ⟨(.len (.t 9)), (some 10), none⟩, ⟨(.bin .lss (.t 8) (.t 10)), (some 11), none⟩] false) (.cond (.t 11) .skip (.exit 0))) (.seq (.block 1 (.region [⟨(.mov (.t 3)), (some 14), none⟩, ⟨(.mov (.t 4)), (some 15), none⟩, ⟨(.mov (.t 0)), (some 16), none⟩, ⟨(.mov (.t 4)), (some 17), none⟩, ⟨(.indexAddr 2 (.t 16) (.t 17)), (some 18), none⟩, ⟨(.load (some 2) (.t 18)), (some 19), none⟩, ⟨(.call 16 [(.t 19)]), (some 20), none⟩, ⟨(.indexAddr 2 (.t 14) (.t 15)), (some 21), none⟩, ⟨(.store 2 (.t 21) (.t 20)), none, none⟩] false)) (.region [⟨(.mov (.t 4)), (some 12), none⟩, ⟨(.bin .add (.t 12) (.k (.int .i64 1))), (some 13), none⟩, ⟨(.mov (.t 13)), (some 4), none⟩] false)))
def m41 : MC := (.seq (.region [⟨(.mov (.k .nils)), (some 2), none⟩] false) (.seq (.region [⟨(.mov (.t 0)), (some 5), none⟩, ⟨(.len (.t 5)), (some 6), none⟩, ⟨(.make 2 16 [(.int .i64 0), (.int .i64 0)] (.t 6)), (some 7), none⟩, ⟨(.mov (.t 7)), (some 3), none⟩] false) (.seq (.seq (.region [⟨(.mov (.k (.int .i64 0))), (some 4), none⟩] false) (.block 0 (.loop m41_0))) (.seq (.region [⟨(.mov (.t 3)), (some 22), none⟩, ⟨(.mov (.t 22)), (some 2), none⟩] false) .ret))))
theorem has41 : Has cx 41 23 m41 [(.tmp 2)] :=
  ⟨⟨Try.f41, Try.f41.body.getD .skip, by kernel_rfl, by kernel_rfl, by kernel_rfl, by kernel_rfl, by kernel_rfl, by kernel_rfl⟩⟩
theorem lp41_0 (o n : Nat) (c : List Int) (hl : c.length = n * 2) (hn : n ≤ 1048576) :
    LpS cx 23 1 m41_0 [(0, .sl 0 o n), (3, .sl 1 0 n), (4, .int .i64 (0 : Nat))] [⟨List.replicate o .any ++ nums .i64 c, 0, 0, none, false⟩, ⟨zints (zcp c (2 * (0))), 2, 1, some 0, false⟩] (⟨.exit 0, [(3, .sl 1 0 n)], [⟨List.replicate o .any ++ nums .i64 c, 0, 0, none, false⟩, ⟨zints (zcp c (2 * (n))), 2, 1, some 0, false⟩]⟩ : Out).x (⟨.exit 0, [(3, .sl 1 0 n)], [⟨List.replicate o .any ++ nums .i64 c, 0, 0, none, false⟩, ⟨zints (zcp c (2 * (n))), 2, 1, some 0, false⟩]⟩ : Out).e (⟨.exit 0, [(3, .sl 1 0 n)], [⟨List.replicate o .any ++ nums .i64 c, 0, 0, none, false⟩, ⟨zints (zcp c (2 * (n))), 2, 1, some 0, false⟩]⟩ : Out).h := by
  refine lp_st (n) (fun _ => ()) (fun i _ => [(0, .sl 0 o n), (3, .sl 1 0 n), (4, .int .i64 (i : Nat))]) (fun i _ => [⟨List.replicate o .any ++ nums .i64 c, 0, 0, none, false⟩, ⟨zints (zcp c (2 * (i))), 2, 1, some 0, false⟩]) (fun _ => (⟨.exit 0, [(3, .sl 1 0 n)], [⟨List.replicate o .any ++ nums .i64 c, 0, 0, none, false⟩, ⟨zints (zcp c (2 * (n))), 2, 1, some 0, false⟩]⟩ : Out)) ?_ ?_ (n) 0 (by omega)
  · intro i u_ hi hu_
    refine ⟨(), rfl, ?_⟩
    have hlt : decide ((i : Int) < (n : Nat)) = true := decide_eq_true (by omega)
    have hg := fget2 (o := o) hl hi
    have hzl := zcp_len (c := c) (i := 2 * i) (by omega)
    unfold m41_0
    repeat' (first
      | refine ep_loadSN rfl rfl rfl hg ?_
      | refine sp_storeS rfl rfl rfl rfl rfl rfl rfl (Nat.zero_le _) (by rw [zints_len, hzl]; omega) (zcp_set2 hl hi) rfl ?_
      | (refine g_op ?_; first
        | refine ep_mov rfl ?_ | refine sp_loadN rfl rfl rfl rfl rfl ?_
        | refine ep_call0 rfl (by first | exact ev16 _ _) rfl rfl ?_
        | refine sp_call rfl rfl rfl rfl (by first | exact ev16 _ _) ⟨rfl, rfl, rfl, rfl⟩ rfl rfl rfl ?_
        | refine ep_bin rfl rfl (by first | exact b_add (by omega) (by omega) | exact b_sub (by omega) (by omega) | exact b_and (by omega) (by omega) | exact b_or (by omega) (by omega) | exact b_shr (by omega) | exact b_shl (by omega) (by omega) | exact b_lss | exact b_leq | exact b_gtr | exact b_geq | exact b_eql | exact b_neq) ?_
        | refine sp_store rfl rfl rfl rfl rfl rfl rfl rfl rfl rfl ?_ | refine ep_lenS rfl ?_ | refine ep_lenN rfl ?_ | refine ep_lenE rfl ?_ | refine sp_idx rfl rfl rfl (by omega) rfl ?_ | refine ep_loadSN rfl rfl rfl (by first | exact prs_get (by omega) | exact fns_get (by omega)) ?_)
      | (refine g_ops ?_; first | refine eo_none ?_ | refine eo_nil ?_)
      | (refine g_code ?_; first | refine ec_seq ?_ | refine ec_region ?_ | refine ec_block ?_ | refine ec_skip ?_ | refine ec_exit ?_ | refine ec_condT rfl ?_ | refine ec_condF rfl ?_ | refine ec_condTH rfl (by assumption) ?_ | refine ec_condFH rfl (by assumption) ?_)
      | refine ek_seqN ?_ | refine ek_seqX ?_ | refine ek_blkN ?_ | refine ek_blkR ?_ | refine ek_blkX ?_ | refine ek_blkY rfl ?_)
    exact rnd_on (by rfl) (scmp2 (by rfl) (by rfl) (by exact ⟨rfl, rfl, rfl⟩) (by rfl) (by first | rfl | (simp; done) | (simp [ints, prs]; done)) (by rfl) (by first | rfl | (simp; done) | (simp [ints, prs]; done)))
  · intro u_ hu_
    have hlt : decide (((n : Nat) : Int) < (n : Nat)) = false := decide_eq_false (by omega)
    unfold m41_0
    repeat' (first
      | (refine g_op ?_; first
        | refine ep_mov rfl ?_ | refine sp_loadN rfl rfl rfl rfl rfl ?_
        | refine ep_bin rfl rfl (by first | exact b_add (by omega) (by omega) | exact b_sub (by omega) (by omega) | exact b_and (by omega) (by omega) | exact b_or (by omega) (by omega) | exact b_shr (by omega) | exact b_shl (by omega) (by omega) | exact b_lss | exact b_leq | exact b_gtr | exact b_geq | exact b_eql | exact b_neq) ?_
        | refine sp_store rfl rfl rfl rfl rfl rfl rfl rfl rfl rfl ?_ | refine ep_lenS rfl ?_ | refine ep_lenN rfl ?_ | refine ep_lenE rfl ?_ | refine sp_idx rfl rfl rfl (by omega) rfl ?_ | refine ep_loadSN rfl rfl rfl (by first | exact prs_get (by omega) | exact fns_get (by omega)) ?_)
      | (refine g_ops ?_; first | refine eo_none ?_ | refine eo_nil ?_)
      | (refine g_code ?_; first | refine ec_seq ?_ | refine ec_region ?_ | refine ec_block ?_ | refine ec_skip ?_ | refine ec_exit ?_ | refine ec_condT rfl ?_ | refine ec_condF rfl ?_ | refine ec_condTH rfl (by assumption) ?_ | refine ec_condFH rfl (by assumption) ?_)
      | refine ek_seqN ?_ | refine ek_seqX ?_ | refine ek_blkN ?_ | refine ek_blkR ?_ | refine ek_blkX ?_ | refine ek_blkY rfl ?_)
    exact rnd_out (by rfl) (by simp) (scmp2 (by rfl) (by rfl) (by exact ⟨rfl, rfl, rfl⟩) (by rfl) (by first | rfl | (simp; done) | (simp [ints, prs]; done)) (by rfl) (by first | rfl | (simp; done) | (simp [ints, prs]; done)))

theorem lp41_0_nils  :
    LpS cx 23 0 m41_0 [(0, .nils), (3, .sl 0 0 0), (4, .int .i64 (0 : Nat))] [⟨zints [], 2, 0, some 0, false⟩] (⟨.exit 0, [(3, .sl 0 0 0)], [⟨zints [], 2, 0, some 0, false⟩]⟩ : Out).x (⟨.exit 0, [(3, .sl 0 0 0)], [⟨zints [], 2, 0, some 0, false⟩]⟩ : Out).e (⟨.exit 0, [(3, .sl 0 0 0)], [⟨zints [], 2, 0, some 0, false⟩]⟩ : Out).h := by
  refine lp_st (0) (fun _ => ()) (fun i _ => [(0, .nils), (3, .sl 0 0 0), (4, .int .i64 (i : Nat))]) (fun i _ => [⟨zints [], 2, 0, some 0, false⟩]) (fun _ => (⟨.exit 0, [(3, .sl 0 0 0)], [⟨zints [], 2, 0, some 0, false⟩]⟩ : Out)) ?_ ?_ (0) 0 (by omega)
  · intro i u_ hi hu_
    refine ⟨(), rfl, ?_⟩
    exact absurd hi (by simp)
  · intro u_ hu_
    have hlt : decide (((0 : Nat) : Int) < (0 : Nat)) = false := decide_eq_false (by omega)
    unfold m41_0
    repeat' (first
      | (refine g_op ?_; first
        | refine ep_mov rfl ?_ | refine sp_loadN rfl rfl rfl rfl rfl ?_
        | refine ep_bin rfl rfl (by first | exact b_add (by omega) (by omega) | exact b_sub (by omega) (by omega) | exact b_and (by omega) (by omega) | exact b_or (by omega) (by omega) | exact b_shr (by omega) | exact b_shl (by omega) (by omega) | exact b_lss | exact b_leq | exact b_gtr | exact b_geq | exact b_eql | exact b_neq) ?_
        | refine sp_store rfl rfl rfl rfl rfl rfl rfl rfl rfl rfl ?_ | refine ep_lenS rfl ?_ | refine ep_lenN rfl ?_ | refine ep_lenE rfl ?_ | refine sp_idx rfl rfl rfl (by omega) rfl ?_ | refine ep_loadSN rfl rfl rfl (by first | exact prs_get (by omega) | exact fns_get (by omega)) ?_)
      | (refine g_ops ?_; first | refine eo_none ?_ | refine eo_nil ?_)
      | (refine g_code ?_; first | refine ec_seq ?_ | refine ec_region ?_ | refine ec_block ?_ | refine ec_skip ?_ | refine ec_exit ?_ | refine ec_condT rfl ?_ | refine ec_condF rfl ?_ | refine ec_condTH rfl (by assumption) ?_ | refine ec_condFH rfl (by assumption) ?_)
      | refine ek_seqN ?_ | refine ek_seqX ?_ | refine ek_blkN ?_ | refine ek_blkR ?_ | refine ek_blkX ?_ | refine ek_blkY rfl ?_)
    exact rnd_out (by rfl) (by simp) (scmp2 (by rfl) (by rfl) (by exact ⟨rfl, rfl, rfl⟩) (by rfl) (by first | rfl | (simp; done) | (simp [ints, prs]; done)) (by rfl) (by first | rfl | (simp; done) | (simp [ints, prs]; done)))

theorem lp41_0_emp  :
    LpS cx 23 0 m41_0 [(0, .emp), (3, .sl 0 0 0), (4, .int .i64 (0 : Nat))] [⟨zints [], 2, 0, some 0, false⟩] (⟨.exit 0, [(3, .sl 0 0 0)], [⟨zints [], 2, 0, some 0, false⟩]⟩ : Out).x (⟨.exit 0, [(3, .sl 0 0 0)], [⟨zints [], 2, 0, some 0, false⟩]⟩ : Out).e (⟨.exit 0, [(3, .sl 0 0 0)], [⟨zints [], 2, 0, some 0, false⟩]⟩ : Out).h := by
  refine lp_st (0) (fun _ => ()) (fun i _ => [(0, .emp), (3, .sl 0 0 0), (4, .int .i64 (i : Nat))]) (fun i _ => [⟨zints [], 2, 0, some 0, false⟩]) (fun _ => (⟨.exit 0, [(3, .sl 0 0 0)], [⟨zints [], 2, 0, some 0, false⟩]⟩ : Out)) ?_ ?_ (0) 0 (by omega)
  · intro i u_ hi hu_
    refine ⟨(), rfl, ?_⟩
    exact absurd hi (by simp)
  · intro u_ hu_
    have hlt : decide (((0 : Nat) : Int) < (0 : Nat)) = false := decide_eq_false (by omega)
    unfold m41_0
    repeat' (first
      | (refine g_op ?_; first
        | refine ep_mov rfl ?_ | refine sp_loadN rfl rfl rfl rfl rfl ?_
        | refine ep_bin rfl rfl (by first | exact b_add (by omega) (by omega) | exact b_sub (by omega) (by omega) | exact b_and (by omega) (by omega) | exact b_or (by omega) (by omega) | exact b_shr (by omega) | exact b_shl (by omega) (by omega) | exact b_lss | exact b_leq | exact b_gtr | exact b_geq | exact b_eql | exact b_neq) ?_
        | refine sp_store rfl rfl rfl rfl rfl rfl rfl rfl rfl rfl ?_ | refine ep_lenS rfl ?_ | refine ep_lenN rfl ?_ | refine ep_lenE rfl ?_ | refine sp_idx rfl rfl rfl (by omega) rfl ?_ | refine ep_loadSN rfl rfl rfl (by first | exact prs_get (by omega) | exact fns_get (by omega)) ?_)
      | (refine g_ops ?_; first | refine eo_none ?_ | refine eo_nil ?_)
      | (refine g_code ?_; first | refine ec_seq ?_ | refine ec_region ?_ | refine ec_block ?_ | refine ec_skip ?_ | refine ec_exit ?_ | refine ec_condT rfl ?_ | refine ec_condF rfl ?_ | refine ec_condTH rfl (by assumption) ?_ | refine ec_condFH rfl (by assumption) ?_)
      | refine ek_seqN ?_ | refine ek_seqX ?_ | refine ek_blkN ?_ | refine ek_blkR ?_ | refine ek_blkX ?_ | refine ek_blkY rfl ?_)
    exact rnd_out (by rfl) (by simp) (scmp2 (by rfl) (by rfl) (by exact ⟨rfl, rfl, rfl⟩) (by rfl) (by first | rfl | (simp; done) | (simp [ints, prs]; done)) (by rfl) (by first | rfl | (simp; done) | (simp [ints, prs]; done)))

theorem ev41 (o n : Nat) (c : List Int) (hl : c.length = n * 2) (hn : n ≤ 1048576) : Ev cx 41 [.sl 0 o n] [fblk o (nums .i64 c)] (.sl 1 0 n) [fblk o (nums .i64 c), ⟨zints c, 2, 1, some 0, false⟩] := by
  have lp := lp41_0 o n c hl hn
  rw [show 2 * n = c.length by omega, zcp_end] at lp
  refine has41.eev rfl rfl ?_
  unfold m41
  repeat' (first
    | refine sp_make (l := zints (zcp c (2 * 0))) rfl rfl (by omega) (zcp_mk2 hl) rfl rfl ?_
    | refine sc_loop lp rfl rfl ⟨rfl, rfl, rfl⟩ rfl rfl rfl ?_
    | (refine g_op ?_; first
      | refine ep_mov rfl ?_
      | refine ep_lenS rfl ?_ | refine ep_lenN rfl ?_ | refine ep_lenE rfl ?_)
    | (refine g_ops ?_; first | refine eo_none ?_ | refine eo_nil ?_)
    | (refine g_code ?_; first | refine ec_seq ?_ | refine ec_region ?_ | refine ec_block ?_ | refine ec_ret ?_)
    | refine ek_seqN ?_ | refine ek_seqX ?_ | refine ek_seqR ?_ | refine ek_blkN ?_ | refine ek_blkR ?_ | refine ek_blkX ?_ | refine ek_blkY rfl ?_)
  refine sfin (.inr rfl) (by rfl) (by rfl) (by exact ⟨rfl, rfl, rfl⟩) (by rfl) (by rfl) (by rfl) (by first | rfl | (simp; done) | (simp [ints, prs]; done))
theorem ev41_nils : Ev cx 41 [.nils] [] (.sl 0 0 0) [⟨zints [], 2, 0, some 0, false⟩] := by
  have lp := lp41_0_nils
  refine has41.eev rfl rfl ?_
  unfold m41
  repeat' (first
    | refine sp_make (mm := 0) (l := zints []) rfl rfl (by omega) rfl rfl rfl ?_
    | refine sc_loop lp rfl rfl ⟨rfl, rfl, rfl⟩ rfl rfl rfl ?_
    | (refine g_op ?_; first
      | refine ep_mov rfl ?_
      | refine ep_lenS rfl ?_ | refine ep_lenN rfl ?_ | refine ep_lenE rfl ?_)
    | (refine g_ops ?_; first | refine eo_none ?_ | refine eo_nil ?_)
    | (refine g_code ?_; first | refine ec_seq ?_ | refine ec_region ?_ | refine ec_block ?_ | refine ec_ret ?_)
    | refine ek_seqN ?_ | refine ek_seqX ?_ | refine ek_seqR ?_ | refine ek_blkN ?_ | refine ek_blkR ?_ | refine ek_blkX ?_ | refine ek_blkY rfl ?_)
  refine sfin (.inr rfl) (by rfl) (by rfl) (by exact ⟨rfl, rfl, rfl⟩) (by rfl) (by rfl) (by rfl) (by first | rfl | (simp; done) | (simp [ints, prs]; done))
theorem ev41_emp : Ev cx 41 [.emp] [] (.sl 0 0 0) [⟨zints [], 2, 0, some 0, false⟩] := by
  have lp := lp41_0_emp
  refine has41.eev rfl rfl ?_
  unfold m41
  repeat' (first
    | refine sp_make (mm := 0) (l := zints []) rfl rfl (by omega) rfl rfl rfl ?_
    | refine sc_loop lp rfl rfl ⟨rfl, rfl, rfl⟩ rfl rfl rfl ?_
    | (refine g_op ?_; first
      | refine ep_mov rfl ?_
      | refine ep_lenS rfl ?_ | refine ep_lenN rfl ?_ | refine ep_lenE rfl ?_)
    | (refine g_ops ?_; first | refine eo_none ?_ | refine eo_nil ?_)
    | (refine g_code ?_; first | refine ec_seq ?_ | refine ec_region ?_ | refine ec_block ?_ | refine ec_ret ?_)
    | refine ek_seqN ?_ | refine ek_seqX ?_ | refine ek_seqR ?_ | refine ek_blkN ?_ | refine ek_blkR ?_ | refine ek_blkX ?_ | refine ek_blkY rfl ?_)
  refine sfin (.inr rfl) (by rfl) (by rfl) (by exact ⟨rfl, rfl, rfl⟩) (by rfl) (by rfl) (by rfl) (by first | rfl | (simp; done) | (simp [ints, prs]; done))
-- laws.eqRelationS
def m43_0 : MC := (.seq (.seq (.region [⟨(.mov (.t 5)), (some 11), none⟩, ⟨(.mov (.t 0)), (some 12), none⟩, ⟨(.len (.t 12)), (some 13), none⟩, ⟨(.bin .lss (.t 11) (.t 13)), (some 14), none⟩] false) (.cond (.t 14) .skip (.exit 0))) (.seq (.block 1 (.seq (.region [⟨(.mov (.t 0)), (some 17), none⟩, ⟨(.mov (.t 5)), (some 18), none⟩, ⟨(.indexAddr 2 (.t 17) (.t 18)), (some 19), none⟩, ⟨(.load (some 2) (.t 19)), (some 20), none⟩, ⟨(.mov (.t 1)), (some 21), none⟩, ⟨(.mov (.t 5)), (some 22), none⟩, ⟨(.indexAddr 2 (.t 21) (.t 22)), (some 23), none⟩, ⟨(.load (some 2) (.t 23)), (some 24), none⟩, ⟨(.call 19 [(.t 20), (.t 24)]), (some 25), none⟩, ⟨(.un .not (.t 25)), (some 26), none⟩] true) (.cond (.t 26) (.seq (.region [⟨(.mov (.k (.bool false))), (some 4), none⟩] false) .ret) .skip))) (.region [⟨(.mov (.t 5)), (some 15), none⟩, ⟨(.bin .add (.t 15) (.k (.int .i64 1))), (some 16), none⟩, ⟨(.mov (.t 16)), (some 5), none⟩] false)))
def m43 : MC := (.seq (.region [⟨(.mov (.k (.bool false))), (some 4), none⟩] false) (.seq (.seq (.region [⟨(.mov (.t 0)), (some 6), none⟩, ⟨(.len (.t 6)), (some 7), none⟩, ⟨(.mov (.t 1)), (some 8), none⟩, ⟨(.len (.t 8)), (some 9), none⟩, ⟨(.bin .neq (.t 7) (.t 9)), (some 10), none⟩] false) (.cond (.t 10) (.seq (.region [⟨(.mov (.k (.bool false))), (some 4), none⟩] false) .ret) .skip)) (.seq (.seq (.region [⟨(.mov (.k (.int .i64 0))), (some 5), none⟩] false) (.block 0 (.loop m43_0))) (.seq (.region [⟨(.mov (.k (.bool true))), (some 4), none⟩] false) .ret))))
theorem has43 : Has cx 43 27 m43 [(.tmp 4)] :=
  ⟨⟨Try.f43, Try.f43.body.getD .skip, by kernel_rfl, by kernel_rfl, by kernel_rfl, by kernel_rfl, by kernel_rfl, by kernel_rfl⟩⟩
theorem lp43_0 (n : Nat) (c d : List V) (f : Nat → Int × Int) (p q : Option Nat) (hn : n ≤ 1048576) (hc : ∀ j, j < n → pairAt c j (f j)) (hd : ∀ j, j < n → pairAt d j (f j)) :
    LpS cx 27 2 m43_0 [(0, .sl 0 0 n), (1, .sl 1 0 n), (5, .int .i64 (0 : Nat))] [⟨c, 2, 0, p, false⟩, ⟨d, 2, 1, q, false⟩] (⟨.exit 0, [], [⟨c, 2, 0, p, false⟩, ⟨d, 2, 1, q, false⟩]⟩ : Out).x (⟨.exit 0, [], [⟨c, 2, 0, p, false⟩, ⟨d, 2, 1, q, false⟩]⟩ : Out).e (⟨.exit 0, [], [⟨c, 2, 0, p, false⟩, ⟨d, 2, 1, q, false⟩]⟩ : Out).h := by
  refine lp_st (n) (fun _ => ()) (fun i _ => [(0, .sl 0 0 n), (1, .sl 1 0 n), (5, .int .i64 (i : Nat))]) (fun i _ => [⟨c, 2, 0, p, false⟩, ⟨d, 2, 1, q, false⟩]) (fun _ => (⟨.exit 0, [], [⟨c, 2, 0, p, false⟩, ⟨d, 2, 1, q, false⟩]⟩ : Out)) ?_ ?_ (n) 0 (by omega)
  · intro i u_ hi hu_
    refine ⟨(), rfl, ?_⟩
    have hlt : decide ((i : Int) < (n : Nat)) = true := decide_eq_true (by omega)
    have hc1 := hc i hi
    have hd1 := hd i hi
    unfold pairAt at hc1 hd1
    unfold m43_0
    repeat' (first
      | refine ep_loadSN rfl rfl rfl hc1 ?_
      | refine ep_loadSN rfl rfl rfl hd1 ?_
      | (refine g_op ?_; first
        | refine ep_mov rfl ?_ | refine sp_loadN rfl rfl rfl rfl rfl ?_
        | refine ep_call0 rfl (by first | exact ev19 (f i).1 (f i).2) rfl rfl ?_
        | refine sp_call rfl rfl rfl rfl (by first | exact ev19 (f i).1 (f i).2) ⟨rfl, rfl, rfl, rfl⟩ rfl rfl rfl ?_
        | refine ep_bin rfl rfl (by first | exact b_add (by omega) (by omega) | exact b_sub (by omega) (by omega) | exact b_and (by omega) (by omega) | exact b_or (by omega) (by omega) | exact b_shr (by omega) | exact b_shl (by omega) (by omega) | exact b_lss | exact b_leq | exact b_gtr | exact b_geq | exact b_eql | exact b_neq) ?_
        | refine ep_not rfl ?_ | refine ep_lenS rfl ?_ | refine ep_lenN rfl ?_ | refine ep_lenE rfl ?_ | refine sp_idx rfl rfl rfl (by omega) rfl ?_ | refine ep_loadSN rfl rfl rfl (by first | exact prs_get (by omega) | exact fns_get (by omega)) ?_)
      | (refine g_ops ?_; first | refine eo_none ?_ | refine eo_nil ?_)
      | (refine g_dops ?_; first | refine ed_none ?_ | refine ed_nil ?_)
      | refine ed_same rfl ?_ | refine ed_one rfl rfl rfl rfl ?_ | refine ed_two rfl rfl rfl rfl rfl rfl rfl ?_ | refine ed_write rfl rfl ?_
      | (refine g_code ?_; first | refine ec_seq ?_ | refine ec_region ?_ | refine ec_draw ?_ | refine ec_block ?_ | refine ec_skip ?_ | refine ec_exit ?_ | refine ec_ret ?_ | refine ec_condT rfl ?_ | refine ec_condF rfl ?_ | refine ec_condTH rfl (by assumption) ?_ | refine ec_condFH rfl (by assumption) ?_)
      | refine ek_seqN ?_ | refine ek_seqX ?_ | refine ek_seqR ?_ | refine ek_blkN ?_ | refine ek_blkR ?_ | refine ek_blkX ?_ | refine ek_blkY rfl ?_)
    exact rnd_on (by rfl) (scmp2 (by rfl) (by rfl) (by exact ⟨rfl, rfl, rfl⟩) (by rfl) (by first | rfl | (simp; done) | (simp [ints, prs]; done)) (by rfl) (by first | rfl | (simp; done) | (simp [ints, prs]; done)))
  · intro u_ hu_
    have hlt : decide (((n : Nat) : Int) < (n : Nat)) = false := decide_eq_false (by omega)
    unfold m43_0
    repeat' (first
      | (refine g_op ?_; first
        | refine ep_mov rfl ?_ | refine sp_loadN rfl rfl rfl rfl rfl ?_
        | refine ep_bin rfl rfl (by first | exact b_add (by omega) (by omega) | exact b_sub (by omega) (by omega) | exact b_and (by omega) (by omega) | exact b_or (by omega) (by omega) | exact b_shr (by omega) | exact b_shl (by omega) (by omega) | exact b_lss | exact b_leq | exact b_gtr | exact b_geq | exact b_eql | exact b_neq) ?_
        | refine ep_not rfl ?_ | refine ep_lenS rfl ?_ | refine ep_lenN rfl ?_ | refine ep_lenE rfl ?_ | refine sp_idx rfl rfl rfl (by omega) rfl ?_ | refine ep_loadSN rfl rfl rfl (by first | exact prs_get (by omega) | exact fns_get (by omega)) ?_)
      | (refine g_ops ?_; first | refine eo_none ?_ | refine eo_nil ?_)
      | (refine g_dops ?_; first | refine ed_none ?_ | refine ed_nil ?_)
      | refine ed_same rfl ?_ | refine ed_one rfl rfl rfl rfl ?_ | refine ed_two rfl rfl rfl rfl rfl rfl rfl ?_ | refine ed_write rfl rfl ?_
      | (refine g_code ?_; first | refine ec_seq ?_ | refine ec_region ?_ | refine ec_draw ?_ | refine ec_block ?_ | refine ec_skip ?_ | refine ec_exit ?_ | refine ec_ret ?_ | refine ec_condT rfl ?_ | refine ec_condF rfl ?_ | refine ec_condTH rfl (by assumption) ?_ | refine ec_condFH rfl (by assumption) ?_)
      | refine ek_seqN ?_ | refine ek_seqX ?_ | refine ek_seqR ?_ | refine ek_blkN ?_ | refine ek_blkR ?_ | refine ek_blkX ?_ | refine ek_blkY rfl ?_)
    exact rnd_out (by rfl) (by simp) (scmp2 (by rfl) (by rfl) (by exact ⟨rfl, rfl, rfl⟩) (by rfl) (by first | rfl | (simp; done) | (simp [ints, prs]; done)) (by rfl) (by first | rfl | (simp; done) | (simp [ints, prs]; done)))

theorem ev43 (n : Nat) (c d : List V) (f : Nat → Int × Int) (p q : Option Nat) (hn : n ≤ 1048576) (hc : ∀ j, j < n → pairAt c j (f j)) (hd : ∀ j, j < n → pairAt d j (f j)) :
    Ev cx 43 [.sl 0 0 n, .sl 1 0 n] [⟨c, 2, 0, p, false⟩, ⟨d, 2, 1, q, false⟩] (.bool true) [⟨c, 2, 0, p, false⟩, ⟨d, 2, 1, q, false⟩] := by
  have lp := lp43_0 n c d f p q hn hc hd
  have hq : (((n : Nat) : Int) != (n : Nat)) = false := by simp
  refine has43.eev rfl rfl ?_
  unfold m43
  repeat' (first
    | refine sc_loop lp rfl rfl ⟨rfl, rfl, rfl⟩ rfl rfl rfl ?_
    | (refine g_op ?_; first
      | refine ep_mov rfl ?_
      | refine ep_bin rfl rfl (by first | exact b_add (by omega) (by omega) | exact b_sub (by omega) (by omega) | exact b_and (by omega) (by omega) | exact b_or (by omega) (by omega) | exact b_shr (by omega) | exact b_shl (by omega) (by omega) | exact b_lss | exact b_leq | exact b_gtr | exact b_geq | exact b_eql | exact b_neq) ?_
      | refine ep_lenS rfl ?_ | refine ep_lenN rfl ?_ | refine ep_lenE rfl ?_)
    | (refine g_ops ?_; first | refine eo_none ?_ | refine eo_nil ?_)
    | (refine g_code ?_; first | refine ec_seq ?_ | refine ec_region ?_ | refine ec_block ?_ | refine ec_skip ?_ | refine ec_ret ?_ | refine ec_condT rfl ?_ | refine ec_condF rfl ?_ | refine ec_condTH rfl (by assumption) ?_ | refine ec_condFH rfl (by assumption) ?_)
    | refine ek_seqN ?_ | refine ek_seqX ?_ | refine ek_seqR ?_ | refine ek_blkN ?_ | refine ek_blkR ?_ | refine ek_blkX ?_ | refine ek_blkY rfl ?_)
  refine sfin (.inr rfl) (by rfl) (by rfl) (by exact ⟨rfl, rfl, rfl⟩) (by rfl) (by rfl) (by rfl) (by first | rfl | (simp; done) | (simp [ints, prs]; done))
theorem lp43_0_nils_nils  :
    LpS cx 27 0 m43_0 [(0, .nils), (1, .nils), (5, .int .i64 (0 : Nat))] [] (⟨.exit 0, [], []⟩ : Out).x (⟨.exit 0, [], []⟩ : Out).e (⟨.exit 0, [], []⟩ : Out).h := by
  refine lp_st (0) (fun _ => ()) (fun i _ => [(0, .nils), (1, .nils), (5, .int .i64 (i : Nat))]) (fun i _ => []) (fun _ => (⟨.exit 0, [], []⟩ : Out)) ?_ ?_ (0) 0 (by omega)
  · intro i u_ hi hu_
    refine ⟨(), rfl, ?_⟩
    exact absurd hi (by simp)
  · intro u_ hu_
    have hlt : decide (((0 : Nat) : Int) < (0 : Nat)) = false := decide_eq_false (by omega)
    unfold m43_0
    repeat' (first
      | (refine g_op ?_; first
        | refine ep_mov rfl ?_ | refine sp_loadN rfl rfl rfl rfl rfl ?_
        | refine ep_bin rfl rfl (by first | exact b_add (by omega) (by omega) | exact b_sub (by omega) (by omega) | exact b_and (by omega) (by omega) | exact b_or (by omega) (by omega) | exact b_shr (by omega) | exact b_shl (by omega) (by omega) | exact b_lss | exact b_leq | exact b_gtr | exact b_geq | exact b_eql | exact b_neq) ?_
        | refine ep_not rfl ?_ | refine ep_lenS rfl ?_ | refine ep_lenN rfl ?_ | refine ep_lenE rfl ?_ | refine sp_idx rfl rfl rfl (by omega) rfl ?_ | refine ep_loadSN rfl rfl rfl (by first | exact prs_get (by omega) | exact fns_get (by omega)) ?_)
      | (refine g_ops ?_; first | refine eo_none ?_ | refine eo_nil ?_)
      | (refine g_dops ?_; first | refine ed_none ?_ | refine ed_nil ?_)
      | refine ed_same rfl ?_ | refine ed_one rfl rfl rfl rfl ?_ | refine ed_two rfl rfl rfl rfl rfl rfl rfl ?_ | refine ed_write rfl rfl ?_
      | (refine g_code ?_; first | refine ec_seq ?_ | refine ec_region ?_ | refine ec_draw ?_ | refine ec_block ?_ | refine ec_skip ?_ | refine ec_exit ?_ | refine ec_ret ?_ | refine ec_condT rfl ?_ | refine ec_condF rfl ?_ | refine ec_condTH rfl (by assumption) ?_ | refine ec_condFH rfl (by assumption) ?_)
      | refine ek_seqN ?_ | refine ek_seqX ?_ | refine ek_seqR ?_ | refine ek_blkN ?_ | refine ek_blkR ?_ | refine ek_blkX ?_ | refine ek_blkY rfl ?_)
    exact rnd_out (by rfl) (by simp) (scmp2 (by rfl) (by rfl) (by exact ⟨rfl, rfl, rfl⟩) (by rfl) (by first | rfl | (simp; done) | (simp [ints, prs]; done)) (by rfl) (by first | rfl | (simp; done) | (simp [ints, prs]; done)))

theorem ev43_nils_nils : Ev cx 43 [.nils, .nils] [] (.bool true) [] := by
  have lp := lp43_0_nils_nils
  refine has43.eev rfl rfl ?_
  unfold m43
  repeat' (first
    | refine sc_loop lp rfl rfl ⟨rfl, rfl, rfl⟩ rfl rfl rfl ?_
    | (refine g_op ?_; first
      | refine ep_mov rfl ?_
      | refine ep_bin rfl rfl (by first | exact b_add (by omega) (by omega) | exact b_sub (by omega) (by omega) | exact b_and (by omega) (by omega) | exact b_or (by omega) (by omega) | exact b_shr (by omega) | exact b_shl (by omega) (by omega) | exact b_lss | exact b_leq | exact b_gtr | exact b_geq | exact b_eql | exact b_neq) ?_
      | refine ep_lenS rfl ?_ | refine ep_lenN rfl ?_ | refine ep_lenE rfl ?_)
    | (refine g_ops ?_; first | refine eo_none ?_ | refine eo_nil ?_)
    | (refine g_code ?_; first | refine ec_seq ?_ | refine ec_region ?_ | refine ec_block ?_ | refine ec_skip ?_ | refine ec_ret ?_ | refine ec_condT rfl ?_ | refine ec_condF rfl ?_ | refine ec_condTH rfl (by assumption) ?_ | refine ec_condFH rfl (by assumption) ?_)
    | refine ek_seqN ?_ | refine ek_seqX ?_ | refine ek_seqR ?_ | refine ek_blkN ?_ | refine ek_blkR ?_ | refine ek_blkX ?_ | refine ek_blkY rfl ?_)
  refine sfin (.inr rfl) (by rfl) (by rfl) (by exact ⟨rfl, rfl, rfl⟩) (by rfl) (by rfl) (by rfl) (by first | rfl | (simp; done) | (simp [ints, prs]; done))
theorem lp43_0_nils_emp  :
    LpS cx 27 0 m43_0 [(0, .nils), (1, .emp), (5, .int .i64 (0 : Nat))] [] (⟨.exit 0, [], []⟩ : Out).x (⟨.exit 0, [], []⟩ : Out).e (⟨.exit 0, [], []⟩ : Out).h := by
  refine lp_st (0) (fun _ => ()) (fun i _ => [(0, .nils), (1, .emp), (5, .int .i64 (i : Nat))]) (fun i _ => []) (fun _ => (⟨.exit 0, [], []⟩ : Out)) ?_ ?_ (0) 0 (by omega)
  · intro i u_ hi hu_
    refine ⟨(), rfl, ?_⟩
    exact absurd hi (by simp)
  · intro u_ hu_
    have hlt : decide (((0 : Nat) : Int) < (0 : Nat)) = false := decide_eq_false (by omega)
    unfold m43_0
    repeat' (first
      | (refine g_op ?_; first
        | refine ep_mov rfl ?_ | refine sp_loadN rfl rfl rfl rfl rfl ?_
        | refine ep_bin rfl rfl (by first | exact b_add (by omega) (by omega) | exact b_sub (by omega) (by omega) | exact b_and (by omega) (by omega) | exact b_or (by omega) (by omega) | exact b_shr (by omega) | exact b_shl (by omega) (by omega) | exact b_lss | exact b_leq | exact b_gtr | exact b_geq | exact b_eql | exact b_neq) ?_
        | refine ep_not rfl ?_ | refine ep_lenS rfl ?_ | refine ep_lenN rfl ?_ | refine ep_lenE rfl ?_ | refine sp_idx rfl rfl rfl (by omega) rfl ?_ | refine ep_loadSN rfl rfl rfl (by first | exact prs_get (by omega) | exact fns_get (by omega)) ?_)
      | (refine g_ops ?_; first | refine eo_none ?_ | refine eo_nil ?_)
      | (refine g_dops ?_; first | refine ed_none ?_ | refine ed_nil ?_)
      | refine ed_same rfl ?_ | refine ed_one rfl rfl rfl rfl ?_ | refine ed_two rfl rfl rfl rfl rfl rfl rfl ?_ | refine ed_write rfl rfl ?_
      | (refine g_code ?_; first | refine ec_seq ?_ | refine ec_region ?_ | refine ec_draw ?_ | refine ec_block ?_ | refine ec_skip ?_ | refine ec_exit ?_ | refine ec_ret ?_ | refine ec_condT rfl ?_ | refine ec_condF rfl ?_ | refine ec_condTH rfl (by assumption) ?_ | refine ec_condFH rfl (by assumption) ?_)
      | refine ek_seqN ?_ | refine ek_seqX ?_ | refine ek_seqR ?_ | refine ek_blkN ?_ | refine ek_blkR ?_ | refine ek_blkX ?_ | refine ek_blkY rfl ?_)
    exact rnd_out (by rfl) (by simp) (scmp2 (by rfl) (by rfl) (by exact ⟨rfl, rfl, rfl⟩) (by rfl) (by first | rfl | (simp; done) | (simp [ints, prs]; done)) (by rfl) (by first | rfl | (simp; done) | (simp [ints, prs]; done)))

theorem ev43_nils_emp : Ev cx 43 [.nils, .emp] [] (.bool true) [] := by
  have lp := lp43_0_nils_emp
  refine has43.eev rfl rfl ?_
  unfold m43
  repeat' (first
    | refine sc_loop lp rfl rfl ⟨rfl, rfl, rfl⟩ rfl rfl rfl ?_
    | (refine g_op ?_; first
      | refine ep_mov rfl ?_
      | refine ep_bin rfl rfl (by first | exact b_add (by omega) (by omega) | exact b_sub (by omega) (by omega) | exact b_and (by omega) (by omega) | exact b_or (by omega) (by omega) | exact b_shr (by omega) | exact b_shl (by omega) (by omega) | exact b_lss | exact b_leq | exact b_gtr | exact b_geq | exact b_eql | exact b_neq) ?_
      | refine ep_lenS rfl ?_ | refine ep_lenN rfl ?_ | refine ep_lenE rfl ?_)
    | (refine g_ops ?_; first | refine eo_none ?_ | refine eo_nil ?_)
    | (refine g_code ?_; first | refine ec_seq ?_ | refine ec_region ?_ | refine ec_block ?_ | refine ec_skip ?_ | refine ec_ret ?_ | refine ec_condT rfl ?_ | refine ec_condF rfl ?_ | refine ec_condTH rfl (by assumption) ?_ | refine ec_condFH rfl (by assumption) ?_)
    | refine ek_seqN ?_ | refine ek_seqX ?_ | refine ek_seqR ?_ | refine ek_blkN ?_ | refine ek_blkR ?_ | refine ek_blkX ?_ | refine ek_blkY rfl ?_)
  refine sfin (.inr rfl) (by rfl) (by rfl) (by exact ⟨rfl, rfl, rfl⟩) (by rfl) (by rfl) (by rfl) (by first | rfl | (simp; done) | (simp [ints, prs]; done))
theorem lp43_0_emp_nils  :
    LpS cx 27 0 m43_0 [(0, .emp), (1, .nils), (5, .int .i64 (0 : Nat))] [] (⟨.exit 0, [], []⟩ : Out).x (⟨.exit 0, [], []⟩ : Out).e (⟨.exit 0, [], []⟩ : Out).h := by
  refine lp_st (0) (fun _ => ()) (fun i _ => [(0, .emp), (1, .nils), (5, .int .i64 (i : Nat))]) (fun i _ => []) (fun _ => (⟨.exit 0, [], []⟩ : Out)) ?_ ?_ (0) 0 (by omega)
  · intro i u_ hi hu_
    refine ⟨(), rfl, ?_⟩
    exact absurd hi (by simp)
  · intro u_ hu_
    have hlt : decide (((0 : Nat) : Int) < (0 : Nat)) = false := decide_eq_false (by omega)
    unfold m43_0
    repeat' (first
      | (refine g_op ?_; first
        | refine ep_mov rfl ?_ | refine sp_loadN rfl rfl rfl rfl rfl ?_
        | refine ep_bin rfl rfl (by first | exact b_add (by omega) (by omega) | exact b_sub (by omega) (by omega) | exact b_and (by omega) (by omega) | exact b_or (by omega) (by omega) | exact b_shr (by omega) | exact b_shl (by omega) (by omega) | exact b_lss | exact b_leq | exact b_gtr | exact b_geq | exact b_eql | exact b_neq) ?_
        | refine ep_not rfl ?_ | refine ep_lenS rfl ?_ | refine ep_lenN rfl ?_ | refine ep_lenE rfl ?_ | refine sp_idx rfl rfl rfl (by omega) rfl ?_ | refine ep_loadSN rfl rfl rfl (by first | exact prs_get (by omega) | exact fns_get (by omega)) ?_)
      | (refine g_ops ?_; first | refine eo_none ?_ | refine eo_nil ?_)
      | (refine g_dops ?_; first | refine ed_none ?_ | refine ed_nil ?_)
      | refine ed_same rfl ?_ | refine ed_one rfl rfl rfl rfl ?_ | refine ed_two rfl rfl rfl rfl rfl rfl rfl ?_ | refine ed_write rfl rfl ?_
      | (refine g_code ?_; first | refine ec_seq ?_ | refine ec_region ?_ | refine ec_draw ?_ | refine ec_block ?_ | refine ec_skip ?_ | refine ec_exit ?_ | refine ec_ret ?_ | refine ec_condT rfl ?_ | refine ec_condF rfl ?_ | refine ec_condTH rfl (by assumption) ?_ | refine ec_condFH rfl (by assumption) ?_)
      | refine ek_seqN ?_ | refine ek_seqX ?_ | refine ek_seqR ?_ | refine ek_blkN ?_ | refine ek_blkR ?_ | refine ek_blkX ?_ | refine ek_blkY rfl ?_)
    exact rnd_out (by rfl) (by simp) (scmp2 (by rfl) (by rfl) (by exact ⟨rfl, rfl, rfl⟩) (by rfl) (by first | rfl | (simp; done) | (simp [ints, prs]; done)) (by rfl) (by first | rfl | (simp; done) | (simp [ints, prs]; done)))

theorem ev43_emp_nils : Ev cx 43 [.emp, .nils] [] (.bool true) [] := by
  have lp := lp43_0_emp_nils
  refine has43.eev rfl rfl ?_
  unfold m43
  repeat' (first
    | refine sc_loop lp rfl rfl ⟨rfl, rfl, rfl⟩ rfl rfl rfl ?_
    | (refine g_op ?_; first
      | refine ep_mov rfl ?_
      | refine ep_bin rfl rfl (by first | exact b_add (by omega) (by omega) | exact b_sub (by omega) (by omega) | exact b_and (by omega) (by omega) | exact b_or (by omega) (by omega) | exact b_shr (by omega) | exact b_shl (by omega) (by omega) | exact b_lss | exact b_leq | exact b_gtr | exact b_geq | exact b_eql | exact b_neq) ?_
      | refine ep_lenS rfl ?_ | refine ep_lenN rfl ?_ | refine ep_lenE rfl ?_)
    | (refine g_ops ?_; first | refine eo_none ?_ | refine eo_nil ?_)
    | (refine g_code ?_; first | refine ec_seq ?_ | refine ec_region ?_ | refine ec_block ?_ | refine ec_skip ?_ | refine ec_ret ?_ | refine ec_condT rfl ?_ | refine ec_condF rfl ?_ | refine ec_condTH rfl (by assumption) ?_ | refine ec_condFH rfl (by assumption) ?_)
    | refine ek_seqN ?_ | refine ek_seqX ?_ | refine ek_seqR ?_ | refine ek_blkN ?_ | refine ek_blkR ?_ | refine ek_blkX ?_ | refine ek_blkY rfl ?_)
  refine sfin (.inr rfl) (by rfl) (by rfl) (by exact ⟨rfl, rfl, rfl⟩) (by rfl) (by rfl) (by rfl) (by first | rfl | (simp; done) | (simp [ints, prs]; done))
theorem lp43_0_emp_emp  :
    LpS cx 27 0 m43_0 [(0, .emp), (1, .emp), (5, .int .i64 (0 : Nat))] [] (⟨.exit 0, [], []⟩ : Out).x (⟨.exit 0, [], []⟩ : Out).e (⟨.exit 0, [], []⟩ : Out).h := by
  refine lp_st (0) (fun _ => ()) (fun i _ => [(0, .emp), (1, .emp), (5, .int .i64 (i : Nat))]) (fun i _ => []) (fun _ => (⟨.exit 0, [], []⟩ : Out)) ?_ ?_ (0) 0 (by omega)
  · intro i u_ hi hu_
    refine ⟨(), rfl, ?_⟩
    exact absurd hi (by simp)
  · intro u_ hu_
    have hlt : decide (((0 : Nat) : Int) < (0 : Nat)) = false := decide_eq_false (by omega)
    unfold m43_0
    repeat' (first
      | (refine g_op ?_; first
        | refine ep_mov rfl ?_ | refine sp_loadN rfl rfl rfl rfl rfl ?_
        | refine ep_bin rfl rfl (by first | exact b_add (by omega) (by omega) | exact b_sub (by omega) (by omega) | exact b_and (by omega) (by omega) | exact b_or (by omega) (by omega) | exact b_shr (by omega) | exact b_shl (by omega) (by omega) | exact b_lss | exact b_leq | exact b_gtr | exact b_geq | exact b_eql | exact b_neq) ?_
        | refine ep_not rfl ?_ | refine ep_lenS rfl ?_ | refine ep_lenN rfl ?_ | refine ep_lenE rfl ?_ | refine sp_idx rfl rfl rfl (by omega) rfl ?_ | refine ep_loadSN rfl rfl rfl (by first | exact prs_get (by omega) | exact fns_get (by omega)) ?_)
      | (refine g_ops ?_; first | refine eo_none ?_ | refine eo_nil ?_)
      | (refine g_dops ?_; first | refine ed_none ?_ | refine ed_nil ?_)
      | refine ed_same rfl ?_ | refine ed_one rfl rfl rfl rfl ?_ | refine ed_two rfl rfl rfl rfl rfl rfl rfl ?_ | refine ed_write rfl rfl ?_
      | (refine g_code ?_; first | refine ec_seq ?_ | refine ec_region ?_ | refine ec_draw ?_ | refine ec_block ?_ | refine ec_skip ?_ | refine ec_exit ?_ | refine ec_ret ?_ | refine ec_condT rfl ?_ | refine ec_condF rfl ?_ | refine ec_condTH rfl (by assumption) ?_ | refine ec_condFH rfl (by assumption) ?_)
      | refine ek_seqN ?_ | refine ek_seqX ?_ | refine ek_seqR ?_ | refine ek_blkN ?_ | refine ek_blkR ?_ | refine ek_blkX ?_ | refine ek_blkY rfl ?_)
    exact rnd_out (by rfl) (by simp) (scmp2 (by rfl) (by rfl) (by exact ⟨rfl, rfl, rfl⟩) (by rfl) (by first | rfl | (simp; done) | (simp [ints, prs]; done)) (by rfl) (by first | rfl | (simp; done) | (simp [ints, prs]; done)))

theorem ev43_emp_emp : Ev cx 43 [.emp, .emp] [] (.bool true) [] := by
  have lp := lp43_0_emp_emp
  refine has43.eev rfl rfl ?_
  unfold m43
  repeat' (first
    | refine sc_loop lp rfl rfl ⟨rfl, rfl, rfl⟩ rfl rfl rfl ?_
    | (refine g_op ?_; first
      | refine ep_mov rfl ?_
      | refine ep_bin rfl rfl (by first | exact b_add (by omega) (by omega) | exact b_sub (by omega) (by omega) | exact b_and (by omega) (by omega) | exact b_or (by omega) (by omega) | exact b_shr (by omega) | exact b_shl (by omega) (by omega) | exact b_lss | exact b_leq | exact b_gtr | exact b_geq | exact b_eql | exact b_neq) ?_
      | refine ep_lenS rfl ?_ | refine ep_lenN rfl ?_ | refine ep_lenE rfl ?_)
    | (refine g_ops ?_; first | refine eo_none ?_ | refine eo_nil ?_)
    | (refine g_code ?_; first | refine ec_seq ?_ | refine ec_region ?_ | refine ec_block ?_ | refine ec_skip ?_ | refine ec_ret ?_ | refine ec_condT rfl ?_ | refine ec_condF rfl ?_ | refine ec_condTH rfl (by assumption) ?_ | refine ec_condFH rfl (by assumption) ?_)
    | refine ek_seqN ?_ | refine ek_seqX ?_ | refine ek_seqR ?_ | refine ek_blkN ?_ | refine ek_blkR ?_ | refine ek_blkX ?_ | refine ek_blkY rfl ?_)
  refine sfin (.inr rfl) (by rfl) (by rfl) (by exact ⟨rfl, rfl, rfl⟩) (by rfl) (by rfl) (by rfl) (by first | rfl | (simp; done) | (simp [ints, prs]; done))
-- laws.markRelationS
def m44_0 : MC := (.seq (.seq (.region [⟨(.mov (.t 5)), (some 6), none⟩, ⟨(.mov (.t 0)), (some 7), none⟩, ⟨(.len (.t 7)), (some 8), none⟩, ⟨(.bin .lss (.t 6) (.t 8)), (some 9), none⟩] false) (.cond (.t 9) .skip (.exit 0))) (.seq (.block 1 (.seq (.region [⟨(.mov (.t 0)), (some 12), none⟩, ⟨(.mov (.t 5)), (some 13), none⟩, ⟨(.mov (.t 1)), (some 14), none⟩, ⟨(.indexAddr 2 (.t 12) (.t 13)), (some 15), none⟩, ⟨(.fieldAddr 0 (.t 15)), (some 16), none⟩, ⟨(.store 1 (.t 16) (.t 14)), none, none⟩] false) (.seq (.region [⟨(.mov (.t 1)), (some 17), none⟩, ⟨(.bin .add (.t 17) (.k (.int .i64 1))), (some 18), none⟩, ⟨(.mov (.t 18)), (some 1), none⟩] false) (.seq (.region [⟨(.mov (.t 0)), (some 19), none⟩, ⟨(.mov (.t 5)), (some 20), none⟩, ⟨(.mov (.t 1)), (some 21), none⟩, ⟨(.indexAddr 2 (.t 19) (.t 20)), (some 22), none⟩, ⟨(.fieldAddr 1 (.t 22)), (some 23), none⟩, ⟨(.store 1 (.t 23) (.t 21)), none, none⟩] false) (.region [⟨(.mov (.t 1)), (some 24), none⟩, ⟨(.bin .add (.t 24) (.k (.int .i64 1))), (some 25), none⟩, ⟨(.mov (.t 25)), (some 1), none⟩] false))))) (.region [⟨(.mov (.t 5)), (some 10), none⟩, ⟨(.bin .add (.t 10) (.k (.int .i64 1))), (some 11), none⟩, ⟨(.mov (.t 11)), (some 5), none⟩] false)))
def m44 : MC := (.seq (.region [⟨(.mov (.k (.int .i64 0))), (some 4), none⟩] false) (.seq (.seq (.region [⟨(.mov (.k (.int .i64 0))), (some 5), none⟩] false) (.block 0 (.loop m44_0))) (.seq (.region [⟨(.mov (.t 1)), (some 26), none⟩, ⟨(.mov (.t 26)), (some 4), none⟩] false) .ret)))
theorem has44 : Has cx 44 27 m44 [(.tmp 4)] :=
  ⟨⟨Try.f44, Try.f44.body.getD .skip, by kernel_rfl, by kernel_rfl, by kernel_rfl, by kernel_rfl, by kernel_rfl, by kernel_rfl⟩⟩
theorem lp44_0 (n : Nat) (c : List V) (hn : n ≤ 1048576) (hl : c.length = n * 2) :
    LpS cx 27 1 m44_0 [(0, .sl 0 0 n), (1, .int .i64 (2 * (0) + 1 : Nat)), (5, .int .i64 (0 : Nat))] [⟨mkc c (2 * (0)), 2, 0, some 0, false⟩] (⟨.exit 0, [(1, .int .i64 (2 * (n) + 1 : Nat))], [⟨mkc c (2 * (n)), 2, 0, some 0, false⟩]⟩ : Out).x (⟨.exit 0, [(1, .int .i64 (2 * (n) + 1 : Nat))], [⟨mkc c (2 * (n)), 2, 0, some 0, false⟩]⟩ : Out).e (⟨.exit 0, [(1, .int .i64 (2 * (n) + 1 : Nat))], [⟨mkc c (2 * (n)), 2, 0, some 0, false⟩]⟩ : Out).h := by
  refine lp_st (n) (fun _ => ()) (fun i _ => [(0, .sl 0 0 n), (1, .int .i64 (2 * (i) + 1 : Nat)), (5, .int .i64 (i : Nat))]) (fun i _ => [⟨mkc c (2 * (i)), 2, 0, some 0, false⟩]) (fun _ => (⟨.exit 0, [(1, .int .i64 (2 * (n) + 1 : Nat))], [⟨mkc c (2 * (n)), 2, 0, some 0, false⟩]⟩ : Out)) ?_ ?_ (n) 0 (by omega)
  · intro i u_ hi hu_
    refine ⟨(), rfl, ?_⟩
    have hlt : decide ((i : Int) < (n : Nat)) = true := decide_eq_true (by omega)
    have b1 : binV .add (.int .i64 (2 * i + 1 : Nat)) (.int .i64 1) = some (.int .i64 (2 * i + 1 + 1 : Nat)) := b_addN (b := 1) (by omega)
    have b2 : binV .add (.int .i64 (2 * i + 1 + 1 : Nat)) (.int .i64 1) = some (.int .i64 (2 * (i + 1) + 1 : Nat)) := b_addN (b := 1) (by omega)
    have l1 := mkc_len (c := c) (i := 2 * i) (by omega)
    have l2 := mkc_len (c := c) (i := 2 * i + 1) (by omega)
    unfold m44_0
    repeat' (first
      | refine sp_storeS rfl rfl rfl rfl rfl rfl rfl (Nat.zero_le _) (by omega) (mkc_set20 (by omega)) rfl ?_
      | refine sp_storeS rfl rfl rfl rfl rfl rfl rfl (Nat.zero_le _) (by omega) (mkc_set21 (by omega)) rfl ?_
      | (refine g_op ?_; first
        | refine ep_mov rfl ?_ | refine ep_fieldAddr rfl ?_
        | refine ep_bin rfl rfl (by first | exact b1 | exact b2 | exact b_add (by omega) (by omega) | exact b_sub (by omega) (by omega) | exact b_and (by omega) (by omega) | exact b_or (by omega) (by omega) | exact b_shr (by omega) | exact b_shl (by omega) (by omega) | exact b_lss | exact b_leq | exact b_gtr | exact b_geq | exact b_eql | exact b_neq) ?_
        | refine sp_store rfl rfl rfl rfl rfl rfl rfl rfl rfl rfl ?_ | refine ep_lenS rfl ?_ | refine ep_lenN rfl ?_ | refine ep_lenE rfl ?_ | refine sp_idx rfl rfl rfl (by omega) rfl ?_)
      | (refine g_ops ?_; first | refine eo_none ?_ | refine eo_nil ?_)
      | (refine g_code ?_; first | refine ec_seq ?_ | refine ec_region ?_ | refine ec_block ?_ | refine ec_skip ?_ | refine ec_exit ?_ | refine ec_condT rfl ?_ | refine ec_condF rfl ?_ | refine ec_condTH rfl (by assumption) ?_ | refine ec_condFH rfl (by assumption) ?_)
      | refine ek_seqN ?_ | refine ek_seqX ?_ | refine ek_blkN ?_ | refine ek_blkR ?_ | refine ek_blkX ?_ | refine ek_blkY rfl ?_)
    exact rnd_on (by rfl) (scmp2 (by rfl) (by rfl) (by exact ⟨rfl, rfl, rfl⟩) (by rfl) (by first | rfl | (simp; done) | (simp [ints, prs]; done)) (by rfl) (by first | rfl | (simp; done) | (simp [ints, prs]; done)))
  · intro u_ hu_
    have hlt : decide (((n : Nat) : Int) < (n : Nat)) = false := decide_eq_false (by omega)
    unfold m44_0
    repeat' (first
      | (refine g_op ?_; first
        | refine ep_mov rfl ?_ | refine ep_fieldAddr rfl ?_
        | refine ep_bin rfl rfl (by first | exact b_add (by omega) (by omega) | exact b_sub (by omega) (by omega) | exact b_and (by omega) (by omega) | exact b_or (by omega) (by omega) | exact b_shr (by omega) | exact b_shl (by omega) (by omega) | exact b_lss | exact b_leq | exact b_gtr | exact b_geq | exact b_eql | exact b_neq) ?_
        | refine sp_store rfl rfl rfl rfl rfl rfl rfl rfl rfl rfl ?_ | refine ep_lenS rfl ?_ | refine ep_lenN rfl ?_ | refine ep_lenE rfl ?_ | refine sp_idx rfl rfl rfl (by omega) rfl ?_)
      | (refine g_ops ?_; first | refine eo_none ?_ | refine eo_nil ?_)
      | (refine g_code ?_; first | refine ec_seq ?_ | refine ec_region ?_ | refine ec_block ?_ | refine ec_skip ?_ | refine ec_exit ?_ | refine ec_condT rfl ?_ | refine ec_condF rfl ?_ | refine ec_condTH rfl (by assumption) ?_ | refine ec_condFH rfl (by assumption) ?_)
      | refine ek_seqN ?_ | refine ek_seqX ?_ | refine ek_blkN ?_ | refine ek_blkR ?_ | refine ek_blkX ?_ | refine ek_blkY rfl ?_)
    exact rnd_out (by rfl) (by simp) (scmp2 (by rfl) (by rfl) (by exact ⟨rfl, rfl, rfl⟩) (by rfl) (by first | rfl | (simp; done) | (simp [ints, prs]; done)) (by rfl) (by first | rfl | (simp; done) | (simp [ints, prs]; done)))

theorem ev44 (n : Nat) (c : List V) (hn : n ≤ 1048576) (hl : c.length = n * 2) : Ev cx 44 [.sl 0 0 n, .int .i64 1] [⟨c, 2, 0, some 0, false⟩] (.int .i64 (2 * n + 1 : Nat)) [⟨mkc c (2 * n), 2, 0, some 0, false⟩] := by
  have lp := lp44_0 n c hn hl
  rw [show 2 * 0 = 0 from rfl, mkc_0] at lp
  refine has44.eev rfl rfl ?_
  unfold m44
  repeat' (first
    | refine sc_loop lp rfl rfl ⟨rfl, rfl, rfl⟩ rfl rfl rfl ?_
    | (refine g_op ?_; first
      | refine ep_mov rfl ?_)
    | (refine g_ops ?_; first | refine eo_none ?_ | refine eo_nil ?_)
    | (refine g_code ?_; first | refine ec_seq ?_ | refine ec_region ?_ | refine ec_block ?_ | refine ec_ret ?_)
    | refine ek_seqN ?_ | refine ek_seqX ?_ | refine ek_seqR ?_ | refine ek_blkN ?_ | refine ek_blkR ?_ | refine ek_blkX ?_ | refine ek_blkY rfl ?_)
  refine sfin (.inr rfl) (by rfl) (by rfl) (by exact ⟨rfl, rfl, rfl⟩) (by rfl) (by rfl) (by rfl) (by first | rfl | (simp; done) | (simp [ints, prs]; done))
theorem lp44_0_nils  :
    LpS cx 27 0 m44_0 [(0, .nils), (1, .int .i64 1), (5, .int .i64 (0 : Nat))] [] (⟨.exit 0, [(1, .int .i64 1)], []⟩ : Out).x (⟨.exit 0, [(1, .int .i64 1)], []⟩ : Out).e (⟨.exit 0, [(1, .int .i64 1)], []⟩ : Out).h := by
  refine lp_st (0) (fun _ => ()) (fun i _ => [(0, .nils), (1, .int .i64 1), (5, .int .i64 (i : Nat))]) (fun i _ => []) (fun _ => (⟨.exit 0, [(1, .int .i64 1)], []⟩ : Out)) ?_ ?_ (0) 0 (by omega)
  · intro i u_ hi hu_
    refine ⟨(), rfl, ?_⟩
    exact absurd hi (by simp)
  · intro u_ hu_
    have hlt : decide (((0 : Nat) : Int) < (0 : Nat)) = false := decide_eq_false (by omega)
    unfold m44_0
    repeat' (first
      | (refine g_op ?_; first
        | refine ep_mov rfl ?_ | refine ep_fieldAddr rfl ?_
        | refine ep_bin rfl rfl (by first | exact b_add (by omega) (by omega) | exact b_sub (by omega) (by omega) | exact b_and (by omega) (by omega) | exact b_or (by omega) (by omega) | exact b_shr (by omega) | exact b_shl (by omega) (by omega) | exact b_lss | exact b_leq | exact b_gtr | exact b_geq | exact b_eql | exact b_neq) ?_
        | refine sp_store rfl rfl rfl rfl rfl rfl rfl rfl rfl rfl ?_ | refine ep_lenS rfl ?_ | refine ep_lenN rfl ?_ | refine ep_lenE rfl ?_ | refine sp_idx rfl rfl rfl (by omega) rfl ?_)
      | (refine g_ops ?_; first | refine eo_none ?_ | refine eo_nil ?_)
      | (refine g_code ?_; first | refine ec_seq ?_ | refine ec_region ?_ | refine ec_block ?_ | refine ec_skip ?_ | refine ec_exit ?_ | refine ec_condT rfl ?_ | refine ec_condF rfl ?_ | refine ec_condTH rfl (by assumption) ?_ | refine ec_condFH rfl (by assumption) ?_)
      | refine ek_seqN ?_ | refine ek_seqX ?_ | refine ek_blkN ?_ | refine ek_blkR ?_ | refine ek_blkX ?_ | refine ek_blkY rfl ?_)
    exact rnd_out (by rfl) (by simp) (scmp2 (by rfl) (by rfl) (by exact ⟨rfl, rfl, rfl⟩) (by rfl) (by first | rfl | (simp; done) | (simp [ints, prs]; done)) (by rfl) (by first | rfl | (simp; done) | (simp [ints, prs]; done)))

theorem ev44_nils : Ev cx 44 [.nils, .int .i64 1] [] (.int .i64 1) [] := by
  have lp := lp44_0_nils
  refine has44.eev rfl rfl ?_
  unfold m44
  repeat' (first
    | refine sc_loop lp rfl rfl ⟨rfl, rfl, rfl⟩ rfl rfl rfl ?_
    | (refine g_op ?_; first
      | refine ep_mov rfl ?_)
    | (refine g_ops ?_; first | refine eo_none ?_ | refine eo_nil ?_)
    | (refine g_code ?_; first | refine ec_seq ?_ | refine ec_region ?_ | refine ec_block ?_ | refine ec_ret ?_)
    | refine ek_seqN ?_ | refine ek_seqX ?_ | refine ek_seqR ?_ | refine ek_blkN ?_ | refine ek_blkR ?_ | refine ek_blkX ?_ | refine ek_blkY rfl ?_)
  refine sfin (.inr rfl) (by rfl) (by rfl) (by exact ⟨rfl, rfl, rfl⟩) (by rfl) (by rfl) (by rfl) (by first | rfl | (simp; done) | (simp [ints, prs]; done))
theorem lp44_0_emp  :
    LpS cx 27 0 m44_0 [(0, .emp), (1, .int .i64 1), (5, .int .i64 (0 : Nat))] [] (⟨.exit 0, [(1, .int .i64 1)], []⟩ : Out).x (⟨.exit 0, [(1, .int .i64 1)], []⟩ : Out).e (⟨.exit 0, [(1, .int .i64 1)], []⟩ : Out).h := by
  refine lp_st (0) (fun _ => ()) (fun i _ => [(0, .emp), (1, .int .i64 1), (5, .int .i64 (i : Nat))]) (fun i _ => []) (fun _ => (⟨.exit 0, [(1, .int .i64 1)], []⟩ : Out)) ?_ ?_ (0) 0 (by omega)
  · intro i u_ hi hu_
    refine ⟨(), rfl, ?_⟩
    exact absurd hi (by simp)
  · intro u_ hu_
    have hlt : decide (((0 : Nat) : Int) < (0 : Nat)) = false := decide_eq_false (by omega)
    unfold m44_0
    repeat' (first
      | (refine g_op ?_; first
        | refine ep_mov rfl ?_ | refine ep_fieldAddr rfl ?_
        | refine ep_bin rfl rfl (by first | exact b_add (by omega) (by omega) | exact b_sub (by omega) (by omega) | exact b_and (by omega) (by omega) | exact b_or (by omega) (by omega) | exact b_shr (by omega) | exact b_shl (by omega) (by omega) | exact b_lss | exact b_leq | exact b_gtr | exact b_geq | exact b_eql | exact b_neq) ?_
        | refine sp_store rfl rfl rfl rfl rfl rfl rfl rfl rfl rfl ?_ | refine ep_lenS rfl ?_ | refine ep_lenN rfl ?_ | refine ep_lenE rfl ?_ | refine sp_idx rfl rfl rfl (by omega) rfl ?_)
      | (refine g_ops ?_; first | refine eo_none ?_ | refine eo_nil ?_)
      | (refine g_code ?_; first | refine ec_seq ?_ | refine ec_region ?_ | refine ec_block ?_ | refine ec_skip ?_ | refine ec_exit ?_ | refine ec_condT rfl ?_ | refine ec_condF rfl ?_ | refine ec_condTH rfl (by assumption) ?_ | refine ec_condFH rfl (by assumption) ?_)
      | refine ek_seqN ?_ | refine ek_seqX ?_ | refine ek_blkN ?_ | refine ek_blkR ?_ | refine ek_blkX ?_ | refine ek_blkY rfl ?_)
    exact rnd_out (by rfl) (by simp) (scmp2 (by rfl) (by rfl) (by exact ⟨rfl, rfl, rfl⟩) (by rfl) (by first | rfl | (simp; done) | (simp [ints, prs]; done)) (by rfl) (by first | rfl | (simp; done) | (simp [ints, prs]; done)))

theorem ev44_emp : Ev cx 44 [.emp, .int .i64 1] [] (.int .i64 1) [] := by
  have lp := lp44_0_emp
  refine has44.eev rfl rfl ?_
  unfold m44
  repeat' (first
    | refine sc_loop lp rfl rfl ⟨rfl, rfl, rfl⟩ rfl rfl rfl ?_
    | (refine g_op ?_; first
      | refine ep_mov rfl ?_)
    | (refine g_ops ?_; first | refine eo_none ?_ | refine eo_nil ?_)
    | (refine g_code ?_; first | refine ec_seq ?_ | refine ec_region ?_ | refine ec_block ?_ | refine ec_ret ?_)
    | refine ek_seqN ?_ | refine ek_seqX ?_ | refine ek_seqR ?_ | refine ek_blkN ?_ | refine ek_blkR ?_ | refine ek_blkX ?_ | refine ek_blkY rfl ?_)
  refine sfin (.inr rfl) (by rfl) (by rfl) (by exact ⟨rfl, rfl, rfl⟩) (by rfl) (by rfl) (by rfl) (by first | rfl | (simp; done) | (simp [ints, prs]; done))
def allFunc (fs : List (Int × Int)) : Bool := allF (fun j => isFn (fs.getD j (0, 0)).1 (fs.getD j (0, 0)).2) 0 fs.length
def allRelation (fs : List (Int × Int)) : Bool := allF (fun j => isRel (fs.getD j (0, 0)).1 (fs.getD j (0, 0)).2) 0 fs.length
-- impl.FunctionsKeeping$1
def m94 : MC := (.seq (.region [⟨(.box (.t 0)), (some 1), none⟩, ⟨(.mov (.k (.bool false))), (some 2), none⟩] false) (.seq (.region [⟨(.load (some 2) (.t 1)), (some 3), none⟩, ⟨(.call 59 [(.t 3)]), (some 4), none⟩, ⟨(.un .not (.t 4)), (some 5), none⟩, ⟨(.mov (.t 5)), (some 2), none⟩] false) .ret))
theorem has94 : Has cx 94 6 m94 [(.tmp 2)] :=
  ⟨⟨Try.f94, Try.f94.body.getD .skip, by kernel_rfl, by kernel_rfl, by kernel_rfl, by kernel_rfl, by kernel_rfl, by kernel_rfl⟩⟩
theorem ev94 (a b : Int) : Ev cx 94 [.agg [.int .i64 a, .int .i64 b]] [] (.bool (!isRel a b)) [] := by
  have e1 := ev59 a b
  refine has94.eev rfl rfl ?_
  unfold m94
  repeat' (first
    | (refine g_op ?_; first
      | refine ep_mov rfl ?_ | refine sp_loadN rfl rfl rfl rfl rfl ?_
      | refine ep_call0 rfl (by first | exact e1) rfl rfl ?_
      | refine sp_call rfl rfl rfl rfl (by first | exact e1) ⟨rfl, rfl, rfl, rfl⟩ rfl rfl rfl ?_
      | refine ep_not rfl ?_ | refine sp_box rfl rfl rfl rfl rfl ?_)
    | (refine g_ops ?_; first | refine eo_none ?_ | refine eo_nil ?_)
    | (refine g_code ?_; first | refine ec_seq ?_ | refine ec_region ?_ | refine ec_ret ?_)
    | refine ek_seqN ?_ | refine ek_seqR ?_)
  refine sfin (.inr rfl) (by rfl) (by rfl) (by exact ⟨rfl, rfl, rfl⟩) (by rfl) (by rfl) (by rfl) (by first | rfl | (simp; done) | (simp [ints, prs]; done))
-- slices.IndexFunc[[]impl.Relation,impl.Relation]
def m134_0 : MC := (.seq (.region [⟨(.bin .lss (.t 8) (.t 7)), (some 9), none⟩] false) (.seq (.cond (.t 9) .skip (.exit 0)) (.seq (.block 1 (.seq (.region [⟨(.mov (.t 8)), (some 10), none⟩, ⟨(.mov (.t 10)), (some 5), none⟩] false) (.seq (.region [⟨(.mov (.t 1)), (some 11), none⟩, ⟨(.mov (.t 0)), (some 12), none⟩, ⟨(.mov (.t 5)), (some 13), none⟩, ⟨(.indexAddr 2 (.t 12) (.t 13)), (some 14), none⟩, ⟨(.load (some 2) (.t 14)), (some 15), none⟩, ⟨(.callv (.t 11) [(.t 15)]), (some 16), none⟩] false) (.cond (.t 16) (.seq (.region [⟨(.mov (.t 5)), (some 17), none⟩, ⟨(.mov (.t 17)), (some 4), none⟩] false) .ret) .skip)))) (.region [⟨(.bin .add (.t 8) (.k (.int .i64 1))), (some 18), none⟩, ⟨(.mov (.t 18)), (some 8), none⟩] false))))
def m134 : MC := (.seq (.region [⟨(.mov (.k (.int .i64 0))), (some 4), none⟩] false) (.seq (.seq (.region [⟨(.mov (.t 0)), (some 6), none⟩, ⟨(.len (.t 6)), (some 7), none⟩, ⟨(.mov (.k (.int .i64 0))), (some 8), none⟩] false) (.block 0 (.loop m134_0))) (.seq (.region [⟨(.mov (.k (.int .i64 (-1)))), (some 4), none⟩] false) .ret)))
theorem has134 : Has cx 134 19 m134 [(.tmp 4)] :=
  ⟨⟨Try.f134, Try.f134.body.getD .skip, by kernel_rfl, by kernel_rfl, by kernel_rfl, by kernel_rfl, by kernel_rfl, by kernel_rfl⟩⟩

-- slices.ContainsFunc[[]impl.Relation,impl.Relation]
def m93 : MC := (.seq (.region [⟨(.mov (.k (.bool false))), (some 4), none⟩] false) (.seq (.region [⟨(.mov (.t 0)), (some 5), none⟩, ⟨(.mov (.t 1)), (some 6), none⟩, ⟨(.call 134 [(.t 5), (.t 6)]), (some 7), none⟩, ⟨(.bin .geq (.t 7) (.k (.int .i64 0))), (some 8), none⟩, ⟨(.mov (.t 8)), (some 4), none⟩] false) .ret))
theorem has93 : Has cx 93 9 m93 [(.tmp 4)] :=
  ⟨⟨Try.f93, Try.f93.body.getD .skip, by kernel_rfl, by kernel_rfl, by kernel_rfl, by kernel_rfl, by kernel_rfl, by kernel_rfl⟩⟩

theorem lpix_isRelation (fs : List (Int × Int)) (hln : fs.length ≤ 1048576) (o : Out) (ho : (match firstF (fun i => !(fun j => !isRel (fs.getD j (0, 0)).1 (fs.getD j (0, 0)).2) i) 0 (fs.length) with | none => (⟨.exit 0, [], [⟨fns fs, 2, 0, some 0, false⟩]⟩ : Out) | some x => ⟨.ret, [(4, .int .i64 (x : Nat))], [⟨fns fs, 2, 0, some 0, false⟩]⟩) = o) :
    LpS cx 19 1 m134_0 [(0, .sl 0 0 fs.length), (1, .fn 94 []), (7, .int .i64 (fs.length : Nat)), (8, .int .i64 (0 : Nat))] [⟨fns fs, 2, 0, some 0, false⟩] o.x o.e o.h := by
  refine lp_brk (fs.length) (fun i => !(fun j => !isRel (fs.getD j (0, 0)).1 (fs.getD j (0, 0)).2) i) (fun _ => ()) (fun i _ => [(0, .sl 0 0 fs.length), (1, .fn 94 []), (7, .int .i64 (fs.length : Nat)), (8, .int .i64 (i : Nat))]) (fun i _ => [⟨fns fs, 2, 0, some 0, false⟩]) (fun _ => ⟨.exit 0, [], [⟨fns fs, 2, 0, some 0, false⟩]⟩) (fun i _ => ⟨.ret, [(4, .int .i64 (i : Nat))], [⟨fns fs, 2, 0, some 0, false⟩]⟩) ?_ ?_ ?_ (fs.length) 0 o (by omega) (fun h => by rw [← ho, firstF_none fun x h1 h2 => h x h1 (by omega)]) (fun x h1 h2 h3 h4 => by rw [← ho, firstF_some h1 (by omega) h3 h4])
  · intro i s hi hs hp
    have hlt : decide ((i : Int) < (fs.length : Nat)) = true := decide_eq_true (by omega)
    have hp' : (!(fun j => !isRel (fs.getD j (0, 0)).1 (fs.getD j (0, 0)).2) i) = true := hp
    refine ⟨(), rfl, ?_⟩
    have hg := fns_get (l := fs) (j := i) hi
    have e0 := ev94 (fs.getD i (0, 0)).1 (fs.getD i (0, 0)).2
    have hq : (!isRel (fs.getD i (0, 0)).1 (fs.getD i (0, 0)).2) = !((!(fun j => !isRel (fs.getD j (0, 0)).1 (fs.getD j (0, 0)).2) i)) := by simp
    rw [hp'] at hq
    rw [hq] at e0
    unfold m134_0
    repeat' (first
      | refine ep_loadSN rfl rfl rfl hg ?_
      | (refine g_op ?_; first
        | refine ep_mov rfl ?_ | refine sp_loadN rfl rfl rfl rfl rfl ?_
        | refine sp_callv rfl rfl rfl rfl rfl rfl (by first | exact e0) ⟨rfl, rfl, rfl, rfl⟩ rfl rfl rfl ?_
        | refine sp_callb rfl rfl rfl rfl rfl rfl (by first | exact e0) ⟨rfl, rfl, rfl, rfl⟩ rfl rfl rfl ?_
        | refine ep_bin rfl rfl (by first | exact b_add (by omega) (by omega) | exact b_sub (by omega) (by omega) | exact b_and (by omega) (by omega) | exact b_or (by omega) (by omega) | exact b_shr (by omega) | exact b_shl (by omega) (by omega) | exact b_lss | exact b_leq | exact b_gtr | exact b_geq | exact b_eql | exact b_neq) ?_
        | refine sp_idx rfl rfl rfl (by omega) rfl ?_ | refine ep_loadSN rfl rfl rfl (by first | exact prs_get (by omega) | exact fns_get (by omega)) ?_)
      | (refine g_ops ?_; first | refine eo_none ?_ | refine eo_nil ?_)
      | (refine g_code ?_; first | refine ec_seq ?_ | refine ec_region ?_ | refine ec_block ?_ | refine ec_skip ?_ | refine ec_exit ?_ | refine ec_ret ?_ | refine ec_condT rfl ?_ | refine ec_condF rfl ?_ | refine ec_condTH rfl (by assumption) ?_ | refine ec_condFH rfl (by assumption) ?_)
      | refine ek_seqN ?_ | refine ek_seqX ?_ | refine ek_seqR ?_ | refine ek_blkN ?_ | refine ek_blkR ?_ | refine ek_blkX ?_ | refine ek_blkY rfl ?_)
    exact rnd_on (by rfl) (scmp2 (by rfl) (by rfl) (by exact ⟨rfl, rfl, rfl⟩) (by rfl) (by first | rfl | (simp; done) | (simp [ints, prs]; done)) (by rfl) (by first | rfl | (simp; done) | (simp [ints, prs]; done)))
  · intro i s hi hs hp
    have hlt : decide ((i : Int) < (fs.length : Nat)) = true := decide_eq_true (by omega)
    have hp' : (!(fun j => !isRel (fs.getD j (0, 0)).1 (fs.getD j (0, 0)).2) i) = false := hp
    have hg := fns_get (l := fs) (j := i) hi
    have e0 := ev94 (fs.getD i (0, 0)).1 (fs.getD i (0, 0)).2
    have hq : (!isRel (fs.getD i (0, 0)).1 (fs.getD i (0, 0)).2) = !((!(fun j => !isRel (fs.getD j (0, 0)).1 (fs.getD j (0, 0)).2) i)) := by simp
    rw [hp'] at hq
    rw [hq] at e0
    unfold m134_0
    repeat' (first
      | refine ep_loadSN rfl rfl rfl hg ?_
      | (refine g_op ?_; first
        | refine ep_mov rfl ?_ | refine sp_loadN rfl rfl rfl rfl rfl ?_
        | refine sp_callv rfl rfl rfl rfl rfl rfl (by first | exact e0) ⟨rfl, rfl, rfl, rfl⟩ rfl rfl rfl ?_
        | refine sp_callb rfl rfl rfl rfl rfl rfl (by first | exact e0) ⟨rfl, rfl, rfl, rfl⟩ rfl rfl rfl ?_
        | refine ep_bin rfl rfl (by first | exact b_add (by omega) (by omega) | exact b_sub (by omega) (by omega) | exact b_and (by omega) (by omega) | exact b_or (by omega) (by omega) | exact b_shr (by omega) | exact b_shl (by omega) (by omega) | exact b_lss | exact b_leq | exact b_gtr | exact b_geq | exact b_eql | exact b_neq) ?_
        | refine sp_idx rfl rfl rfl (by omega) rfl ?_ | refine ep_loadSN rfl rfl rfl (by first | exact prs_get (by omega) | exact fns_get (by omega)) ?_)
      | (refine g_ops ?_; first | refine eo_none ?_ | refine eo_nil ?_)
      | (refine g_code ?_; first | refine ec_seq ?_ | refine ec_region ?_ | refine ec_block ?_ | refine ec_skip ?_ | refine ec_exit ?_ | refine ec_ret ?_ | refine ec_condT rfl ?_ | refine ec_condF rfl ?_ | refine ec_condTH rfl (by assumption) ?_ | refine ec_condFH rfl (by assumption) ?_)
      | refine ek_seqN ?_ | refine ek_seqX ?_ | refine ek_seqR ?_ | refine ek_blkN ?_ | refine ek_blkR ?_ | refine ek_blkX ?_ | refine ek_blkY rfl ?_)
    exact rnd_out (by rfl) (by simp) (scmp2 (by rfl) (by rfl) (by exact ⟨rfl, rfl, rfl⟩) (by rfl) (by first | rfl | (simp; done) | (simp [ints, prs]; done)) (by rfl) (by first | rfl | (simp; done) | (simp [ints, prs]; done)))
  · intro s hs
    have hlt : decide (((fs.length : Nat) : Int) < (fs.length : Nat)) = false := decide_eq_false (by omega)
    unfold m134_0
    repeat' (first
      | refine ep_loadSN rfl rfl rfl hg ?_
      | (refine g_op ?_; first
        | refine ep_mov rfl ?_ | refine sp_loadN rfl rfl rfl rfl rfl ?_
        | refine sp_callv rfl rfl rfl rfl rfl rfl (by first | exact e0) ⟨rfl, rfl, rfl, rfl⟩ rfl rfl rfl ?_
        | refine sp_callb rfl rfl rfl rfl rfl rfl (by first | exact e0) ⟨rfl, rfl, rfl, rfl⟩ rfl rfl rfl ?_
        | refine ep_bin rfl rfl (by first | exact b_add (by omega) (by omega) | exact b_sub (by omega) (by omega) | exact b_and (by omega) (by omega) | exact b_or (by omega) (by omega) | exact b_shr (by omega) | exact b_shl (by omega) (by omega) | exact b_lss | exact b_leq | exact b_gtr | exact b_geq | exact b_eql | exact b_neq) ?_
        | refine sp_idx rfl rfl rfl (by omega) rfl ?_ | refine ep_loadSN rfl rfl rfl (by first | exact prs_get (by omega) | exact fns_get (by omega)) ?_)
      | (refine g_ops ?_; first | refine eo_none ?_ | refine eo_nil ?_)
      | (refine g_code ?_; first | refine ec_seq ?_ | refine ec_region ?_ | refine ec_block ?_ | refine ec_skip ?_ | refine ec_exit ?_ | refine ec_ret ?_ | refine ec_condT rfl ?_ | refine ec_condF rfl ?_ | refine ec_condTH rfl (by assumption) ?_ | refine ec_condFH rfl (by assumption) ?_)
      | refine ek_seqN ?_ | refine ek_seqX ?_ | refine ek_seqR ?_ | refine ek_blkN ?_ | refine ek_blkR ?_ | refine ek_blkX ?_ | refine ek_blkY rfl ?_)
    exact rnd_out (by rfl) (by simp) (scmp2 (by rfl) (by rfl) (by exact ⟨rfl, rfl, rfl⟩) (by rfl) (by first | rfl | (simp; done) | (simp [ints, prs]; done)) (by rfl) (by first | rfl | (simp; done) | (simp [ints, prs]; done)))
theorem evix_isRelation (fs : List (Int × Int)) (hln : fs.length ≤ 1048576) : Ev cx 134 [.sl 0 0 fs.length, .fn 94 []] [⟨fns fs, 2, 0, some 0, false⟩] (.int .i64 (match firstF (fun i => !(fun j => !isRel (fs.getD j (0, 0)).1 (fs.getD j (0, 0)).2) i) 0 (fs.length) with | none => -1 | some x => ((x : Nat) : Int))) [⟨fns fs, 2, 0, some 0, false⟩] := by
  cases hs : firstF (fun i => !(fun j => !isRel (fs.getD j (0, 0)).1 (fs.getD j (0, 0)).2) i) 0 (fs.length) with
  | none =>
    have lp := lpix_isRelation fs hln _ (by rw [hs])
    refine has134.eev rfl rfl ?_
    unfold m134
    repeat' (first
      | refine sc_loop lp rfl rfl ⟨rfl, rfl, rfl⟩ rfl rfl rfl ?_
      | (refine g_op ?_; first
        | refine ep_mov rfl ?_
        | refine ep_lenS rfl ?_ | refine ep_lenN rfl ?_ | refine ep_lenE rfl ?_)
      | (refine g_ops ?_; first | refine eo_none ?_ | refine eo_nil ?_)
      | (refine g_code ?_; first | refine ec_seq ?_ | refine ec_region ?_ | refine ec_block ?_ | refine ec_ret ?_)
      | refine ek_seqN ?_ | refine ek_seqX ?_ | refine ek_seqR ?_ | refine ek_blkN ?_ | refine ek_blkR ?_ | refine ek_blkX ?_ | refine ek_blkY rfl ?_)
    refine sfin (.inr rfl) (by rfl) (by rfl) (by exact ⟨rfl, rfl, rfl⟩) (by rfl) (by rfl) (by rfl) (by first | rfl | (simp; done) | (simp [ints, prs]; done))
  | some x =>
    have lp := lpix_isRelation fs hln _ (by rw [hs])
    refine has134.eev rfl rfl ?_
    unfold m134
    repeat' (first
      | refine sc_loop lp rfl rfl ⟨rfl, rfl, rfl⟩ rfl rfl rfl ?_
      | (refine g_op ?_; first
        | refine ep_mov rfl ?_
        | refine ep_lenS rfl ?_ | refine ep_lenN rfl ?_ | refine ep_lenE rfl ?_)
      | (refine g_ops ?_; first | refine eo_none ?_ | refine eo_nil ?_)
      | (refine g_code ?_; first | refine ec_seq ?_ | refine ec_region ?_ | refine ec_block ?_ | refine ec_ret ?_)
      | refine ek_seqN ?_ | refine ek_seqX ?_ | refine ek_seqR ?_ | refine ek_blkN ?_ | refine ek_blkR ?_ | refine ek_blkX ?_ | refine ek_blkY rfl ?_)
    refine sfin (.inr rfl) (by rfl) (by rfl) (by exact ⟨rfl, rfl, rfl⟩) (by rfl) (by rfl) (by rfl) (by first | rfl | (simp; done) | (simp [ints, prs]; done))
theorem evcf_isRelation (fs : List (Int × Int)) (hln : fs.length ≤ 1048576) : Ev cx 93 [.sl 0 0 fs.length, .fn 94 []] [⟨fns fs, 2, 0, some 0, false⟩] (.bool (!allF (fun i => !(fun j => !isRel (fs.getD j (0, 0)).1 (fs.getD j (0, 0)).2) i) 0 (fs.length))) [⟨fns fs, 2, 0, some 0, false⟩] := by
  have e1 := evix_isRelation fs hln
  cases hs : firstF (fun i => !(fun j => !isRel (fs.getD j (0, 0)).1 (fs.getD j (0, 0)).2) i) 0 (fs.length) with
  | none =>
    rw [hs] at e1
    refine has93.eev rfl rfl ?_
    unfold m93
    repeat' (first
      | (refine g_op ?_; first
        | refine ep_mov rfl ?_
        | refine ep_call0 rfl (by first | exact e1) rfl rfl ?_
        | refine sp_call rfl rfl rfl rfl (by first | exact e1) ⟨rfl, rfl, rfl, rfl⟩ rfl rfl rfl ?_
        | refine ep_bin rfl rfl (by first | exact b_add (by omega) (by omega) | exact b_sub (by omega) (by omega) | exact b_and (by omega) (by omega) | exact b_or (by omega) (by omega) | exact b_shr (by omega) | exact b_shl (by omega) (by omega) | exact b_lss | exact b_leq | exact b_gtr | exact b_geq | exact b_eql | exact b_neq) ?_)
      | (refine g_ops ?_; first | refine eo_none ?_ | refine eo_nil ?_)
      | (refine g_code ?_; first | refine ec_seq ?_ | refine ec_region ?_ | refine ec_ret ?_)
      | refine ek_seqN ?_ | refine ek_seqR ?_)
    refine sfin (.inr rfl) (by rfl) (by rfl) (by exact ⟨rfl, rfl, rfl⟩) (by rfl) (by rfl) (by rw [firstF_allT hs]; rfl) (by first | rfl | (simp; done) | (simp [ints, prs]; done))
  | some x =>
    rw [hs] at e1
    have hge : decide (((x : Nat) : Int) ≥ 0) = true := decide_eq_true (by omega)
    refine has93.eev rfl rfl ?_
    unfold m93
    repeat' (first
      | (refine g_op ?_; first
        | refine ep_mov rfl ?_
        | refine ep_call0 rfl (by first | exact e1) rfl rfl ?_
        | refine sp_call rfl rfl rfl rfl (by first | exact e1) ⟨rfl, rfl, rfl, rfl⟩ rfl rfl rfl ?_
        | refine ep_bin rfl rfl (by first | exact b_add (by omega) (by omega) | exact b_sub (by omega) (by omega) | exact b_and (by omega) (by omega) | exact b_or (by omega) (by omega) | exact b_shr (by omega) | exact b_shl (by omega) (by omega) | exact b_lss | exact b_leq | exact b_gtr | exact b_geq | exact b_eql | exact b_neq) ?_)
      | (refine g_ops ?_; first | refine eo_none ?_ | refine eo_nil ?_)
      | (refine g_code ?_; first | refine ec_seq ?_ | refine ec_region ?_ | refine ec_ret ?_)
      | refine ek_seqN ?_ | refine ek_seqR ?_)
    refine sfin (.inr rfl) (by rfl) (by rfl) (by exact ⟨rfl, rfl, rfl⟩) (by rfl) (by rfl) (by rw [firstF_allF hs]; first | rfl | exact congrArg V.bool hge) (by first | rfl | (simp; done) | (simp [ints, prs]; done))

theorem evall_Relation (fs : List (Int × Int)) (hln : fs.length ≤ 1048576) : Ev cx 93 [.sl 0 0 fs.length, .fn 94 []] [⟨fns fs, 2, 0, some 0, false⟩] (.bool (!allRelation fs)) [⟨fns fs, 2, 0, some 0, false⟩] := by
  have e := evcf_isRelation fs hln
  rwa [show (fun i => !(fun j => !isRel (fs.getD j (0, 0)).1 (fs.getD j (0, 0)).2) i) = fun j => isRel (fs.getD j (0, 0)).1 (fs.getD j (0, 0)).2 by funext j; simp] at e
def lcode (fs : List (Int × Int)) : Int := if allFunc fs = true then (if fs.length > 8 then 2 else 0) else 1
theorem allF_z (p : Nat → Bool) (i : Nat) : allF p i 0 = true := rfl
theorem allF_pre {P : Nat → Bool} {n : Nat} (h : allF (fun j => allF P 0 j) 0 n = false) : allF P 0 n = false := by
  cases hh : allF P 0 n
  · rfl
  · have : allF (fun j => allF P 0 j) 0 n = true := by
      rw [allF_iff]; intro j _ hj
      rw [allF_iff] at hh ⊢
      intro k h1 h2; exact hh k h1 (by omega)
    rw [this] at h; simp at h
theorem ite_pre {P : Nat → Bool} {n : Nat} (A : Bool → Out) : (if allF (fun j => allF P 0 j) 0 n = true then A (allF P 0 n) else A false) = A (allF P 0 n) := by
  cases h : allF (fun j => allF P 0 j) 0 n
  · rw [allF_pre h]; rfl
  · rfl
theorem all_get {P : Nat → Bool} {n i : Nat} (h : allF P 0 n = true) (hi : i < n) : P i = true := by
  rw [allF_iff] at h; exact h i (Nat.zero_le _) (by omega)
-- impl.FunctionsKeeping$2$1
def m97 : MC := (.seq (.region [⟨(.box (.t 0)), (some 2), none⟩, ⟨(.mov (.k (.bool false))), (some 3), none⟩] false) (.seq (.region [⟨(.load (some 2) (.t 1)), (some 4), none⟩, ⟨(.load (some 2) (.t 2)), (some 5), none⟩, ⟨(.call 98 [(.t 4), (.t 5)]), (some 6), none⟩, ⟨(.un .not (.t 6)), (some 7), none⟩, ⟨(.mov (.t 7)), (some 3), none⟩] false) .ret))
theorem has97 : Has cx 97 8 m97 [(.tmp 3)] :=
  ⟨⟨Try.f97, Try.f97.body.getD .skip, by kernel_rfl, by kernel_rfl, by kernel_rfl, by kernel_rfl, by kernel_rfl, by kernel_rfl⟩⟩
theorem ev97 (a b : Int) (n t : Nat) (h : isRel a b = true) (hn : n ≤ 4) (ht : t < 65536) : Ev cx 97 [.agg [.int .i64 a, .int .i64 b], .ptr 0 0] [⟨[.int .i64 n, .int .i64 t], 1, 0, some 0, true⟩] (.bool (!keepB n t a.toNat b.toNat)) [⟨[.int .i64 n, .int .i64 t], 1, 0, some 0, true⟩] := by
  obtain ⟨p, b, rfl, rfl, b1, b2, b3, b4⟩ := isRel_nat h
  have e1 := ev98 n t p b hn ht b2 b4 b1
  refine has97.eev rfl rfl ?_
  unfold m97
  repeat' (first
    | (refine g_op ?_; first
      | refine ep_mov rfl ?_ | refine sp_loadN rfl rfl rfl rfl rfl ?_
      | refine ep_call0 rfl (by first | exact e1) rfl rfl ?_
      | refine sp_call rfl rfl rfl rfl (by first | exact e1) ⟨rfl, rfl, rfl, rfl⟩ rfl rfl rfl ?_
      | refine ep_not rfl ?_ | refine sp_box rfl rfl rfl rfl rfl ?_)
    | (refine g_ops ?_; first | refine eo_none ?_ | refine eo_nil ?_)
    | (refine g_code ?_; first | refine ec_seq ?_ | refine ec_region ?_ | refine ec_ret ?_)
    | refine ek_seqN ?_ | refine ek_seqR ?_)
  refine sfin (.inr rfl) (by rfl) (by rfl) (by exact ⟨rfl, rfl, rfl⟩) (by rfl) (by rfl) (by rfl) (by first | rfl | (simp; done) | (simp [ints, prs]; done))
def kAF (fs : List (Int × Int)) (p t : Nat) : Bool := allF (fun j => keepB (fs.getD j (0, 0)).1.toNat (fs.getD j (0, 0)).2.toNat p t) 0 fs.length
def kAR (fs : List (Int × Int)) (n b : Nat) : Bool := allF (fun j => keepB n b (fs.getD j (0, 0)).1.toNat (fs.getD j (0, 0)).2.toNat) 0 fs.length
def rkL (fs : List (Int × Int)) (z : Int) : List Nat := if lcode fs = 0 ∧ 1 ≤ z ∧ z ≤ 3 then selm (kAF fs z.toNat) idn (R2 (R2 z.toNat)) else []
def rkC (fs : List (Int × Int)) (z : Int) : Int := if lcode fs = 0 then (if 1 ≤ z ∧ z ≤ 3 then 0 else 2) else lcode fs
def fkL (fs : List (Int × Int)) (z : Int) : List Nat := if allRelation fs = true ∧ fs.length ≤ 6 ∧ 0 ≤ z ∧ z ≤ 3 then selm (kAR fs z.toNat) idn (R2 (R2 z.toNat)) else []
def fkC (fs : List (Int × Int)) (z : Int) : Int := if allRelation fs = true then (if fs.length ≤ 6 ∧ 0 ≤ z ∧ z ≤ 3 then 0 else 2) else 1
theorem rkL_len (fs : List (Int × Int)) (z : Int) : (rkL fs z).length ≤ 65536 := by
  unfold rkL
  split
  · rename_i h
    have := selm_len (kAF fs z.toNat) idn (R2 (R2 z.toNat))
    have := (shN (n := z.toNat) (by omega)).2.1
    omega
  · simp
theorem fkL_len (fs : List (Int × Int)) (z : Int) : (fkL fs z).length ≤ 65536 := by
  unfold fkL
  split
  · rename_i h
    have := selm_len (kAR fs z.toNat) idn (R2 (R2 z.toNat))
    have := (shN (n := z.toNat) (by omega)).2.1
    omega
  · simp
-- impl.FunctionsKeeping$2
def m96 : MC := (.seq (.region [⟨(.box (.t 0)), (some 2), none⟩, ⟨(.mov (.k (.bool false))), (some 3), none⟩] false) (.seq (.region [⟨(.load none (.t 1)), (some 4), none⟩, ⟨(.mkfn 97 [(.t 2)]), (some 5), none⟩, ⟨(.call 93 [(.t 4), (.t 5)]), (some 6), none⟩, ⟨(.un .not (.t 6)), (some 7), none⟩, ⟨(.mov (.t 7)), (some 3), none⟩] false) .ret))
theorem has96 : Has cx 96 8 m96 [(.tmp 3)] :=
  ⟨⟨Try.f96, Try.f96.body.getD .skip, by kernel_rfl, by kernel_rfl, by kernel_rfl, by kernel_rfl, by kernel_rfl, by kernel_rfl⟩⟩
theorem lpix_FunctionsKeeping (fs : List (Int × Int)) (n u : Nat) (hln : fs.length ≤ 1048576) (hall : allRelation fs = true) (hn : n ≤ 4) (ht : u < 65536) (o : Out) (ho : (match firstF (fun i => !(fun j => !keepB n u (fs.getD j (0, 0)).1.toNat (fs.getD j (0, 0)).2.toNat) i) 0 (fs.length) with | none => (⟨.exit 0, [], [⟨fns fs, 2, 0, some 0, false⟩, ⟨[.int .i64 n, .int .i64 u], 1, 1, some 0, true⟩]⟩ : Out) | some x => ⟨.ret, [(4, .int .i64 (x : Nat))], [⟨fns fs, 2, 0, some 0, false⟩, ⟨[.int .i64 n, .int .i64 u], 1, 1, some 0, true⟩]⟩) = o) :
    LpS cx 19 2 m134_0 [(0, .sl 0 0 fs.length), (1, .fn 97 [.ptr 1 0]), (7, .int .i64 (fs.length : Nat)), (8, .int .i64 (0 : Nat))] [⟨fns fs, 2, 0, some 0, false⟩, ⟨[.int .i64 n, .int .i64 u], 1, 1, some 0, true⟩] o.x o.e o.h := by
  refine lp_brk (fs.length) (fun i => !(fun j => !keepB n u (fs.getD j (0, 0)).1.toNat (fs.getD j (0, 0)).2.toNat) i) (fun _ => ()) (fun i _ => [(0, .sl 0 0 fs.length), (1, .fn 97 [.ptr 1 0]), (7, .int .i64 (fs.length : Nat)), (8, .int .i64 (i : Nat))]) (fun i _ => [⟨fns fs, 2, 0, some 0, false⟩, ⟨[.int .i64 n, .int .i64 u], 1, 1, some 0, true⟩]) (fun _ => ⟨.exit 0, [], [⟨fns fs, 2, 0, some 0, false⟩, ⟨[.int .i64 n, .int .i64 u], 1, 1, some 0, true⟩]⟩) (fun i _ => ⟨.ret, [(4, .int .i64 (i : Nat))], [⟨fns fs, 2, 0, some 0, false⟩, ⟨[.int .i64 n, .int .i64 u], 1, 1, some 0, true⟩]⟩) ?_ ?_ ?_ (fs.length) 0 o (by omega) (fun h => by rw [← ho, firstF_none fun x h1 h2 => h x h1 (by omega)]) (fun x h1 h2 h3 h4 => by rw [← ho, firstF_some h1 (by omega) h3 h4])
  · intro i s hi hs hp
    have hlt : decide ((i : Int) < (fs.length : Nat)) = true := decide_eq_true (by omega)
    have hp' : (!(fun j => !keepB n u (fs.getD j (0, 0)).1.toNat (fs.getD j (0, 0)).2.toNat) i) = true := hp
    refine ⟨(), rfl, ?_⟩
    have hg := fns_get (l := fs) (j := i) hi
    have hget := all_get (P := fun j => isRel (fs.getD j (0, 0)).1 (fs.getD j (0, 0)).2) hall hi
    have e0 := ev97 (fs.getD i (0, 0)).1 (fs.getD i (0, 0)).2 n u hget hn ht
    have hq : (!keepB n u (fs.getD i (0, 0)).1.toNat (fs.getD i (0, 0)).2.toNat) = !((!(fun j => !keepB n u (fs.getD j (0, 0)).1.toNat (fs.getD j (0, 0)).2.toNat) i)) := by simp
    rw [hp'] at hq
    rw [hq] at e0
    unfold m134_0
    repeat' (first
      | refine ep_loadSN rfl rfl rfl hg ?_
      | (refine g_op ?_; first
        | refine ep_mov rfl ?_ | refine sp_loadN rfl rfl rfl rfl rfl ?_
        | refine sp_callv rfl rfl rfl rfl rfl rfl (by first | exact e0) ⟨rfl, rfl, rfl, rfl⟩ rfl rfl rfl ?_
        | refine sp_callb rfl rfl rfl rfl rfl rfl (by first | exact e0) ⟨rfl, rfl, rfl, rfl⟩ rfl rfl rfl ?_
        | refine ep_bin rfl rfl (by first | exact b_add (by omega) (by omega) | exact b_sub (by omega) (by omega) | exact b_and (by omega) (by omega) | exact b_or (by omega) (by omega) | exact b_shr (by omega) | exact b_shl (by omega) (by omega) | exact b_lss | exact b_leq | exact b_gtr | exact b_geq | exact b_eql | exact b_neq) ?_
        | refine sp_idx rfl rfl rfl (by omega) rfl ?_ | refine ep_loadSN rfl rfl rfl (by first | exact prs_get (by omega) | exact fns_get (by omega)) ?_)
      | (refine g_ops ?_; first | refine eo_none ?_ | refine eo_nil ?_)
      | (refine g_code ?_; first | refine ec_seq ?_ | refine ec_region ?_ | refine ec_block ?_ | refine ec_skip ?_ | refine ec_exit ?_ | refine ec_ret ?_ | refine ec_condT rfl ?_ | refine ec_condF rfl ?_ | refine ec_condTH rfl (by assumption) ?_ | refine ec_condFH rfl (by assumption) ?_)
      | refine ek_seqN ?_ | refine ek_seqX ?_ | refine ek_seqR ?_ | refine ek_blkN ?_ | refine ek_blkR ?_ | refine ek_blkX ?_ | refine ek_blkY rfl ?_)
    exact rnd_on (by rfl) (scmp2 (by rfl) (by rfl) (by exact ⟨rfl, rfl, rfl⟩) (by rfl) (by first | rfl | (simp; done) | (simp [ints, prs]; done)) (by rfl) (by first | rfl | (simp; done) | (simp [ints, prs]; done)))
  · intro i s hi hs hp
    have hlt : decide ((i : Int) < (fs.length : Nat)) = true := decide_eq_true (by omega)
    have hp' : (!(fun j => !keepB n u (fs.getD j (0, 0)).1.toNat (fs.getD j (0, 0)).2.toNat) i) = false := hp
    have hg := fns_get (l := fs) (j := i) hi
    have hget := all_get (P := fun j => isRel (fs.getD j (0, 0)).1 (fs.getD j (0, 0)).2) hall hi
    have e0 := ev97 (fs.getD i (0, 0)).1 (fs.getD i (0, 0)).2 n u hget hn ht
    have hq : (!keepB n u (fs.getD i (0, 0)).1.toNat (fs.getD i (0, 0)).2.toNat) = !((!(fun j => !keepB n u (fs.getD j (0, 0)).1.toNat (fs.getD j (0, 0)).2.toNat) i)) := by simp
    rw [hp'] at hq
    rw [hq] at e0
    unfold m134_0
    repeat' (first
      | refine ep_loadSN rfl rfl rfl hg ?_
      | (refine g_op ?_; first
        | refine ep_mov rfl ?_ | refine sp_loadN rfl rfl rfl rfl rfl ?_
        | refine sp_callv rfl rfl rfl rfl rfl rfl (by first | exact e0) ⟨rfl, rfl, rfl, rfl⟩ rfl rfl rfl ?_
        | refine sp_callb rfl rfl rfl rfl rfl rfl (by first | exact e0) ⟨rfl, rfl, rfl, rfl⟩ rfl rfl rfl ?_
        | refine ep_bin rfl rfl (by first | exact b_add (by omega) (by omega) | exact b_sub (by omega) (by omega) | exact b_and (by omega) (by omega) | exact b_or (by omega) (by omega) | exact b_shr (by omega) | exact b_shl (by omega) (by omega) | exact b_lss | exact b_leq | exact b_gtr | exact b_geq | exact b_eql | exact b_neq) ?_
        | refine sp_idx rfl rfl rfl (by omega) rfl ?_ | refine ep_loadSN rfl rfl rfl (by first | exact prs_get (by omega) | exact fns_get (by omega)) ?_)
      | (refine g_ops ?_; first | refine eo_none ?_ | refine eo_nil ?_)
      | (refine g_code ?_; first | refine ec_seq ?_ | refine ec_region ?_ | refine ec_block ?_ | refine ec_skip ?_ | refine ec_exit ?_ | refine ec_ret ?_ | refine ec_condT rfl ?_ | refine ec_condF rfl ?_ | refine ec_condTH rfl (by assumption) ?_ | refine ec_condFH rfl (by assumption) ?_)
      | refine ek_seqN ?_ | refine ek_seqX ?_ | refine ek_seqR ?_ | refine ek_blkN ?_ | refine ek_blkR ?_ | refine ek_blkX ?_ | refine ek_blkY rfl ?_)
    exact rnd_out (by rfl) (by simp) (scmp2 (by rfl) (by rfl) (by exact ⟨rfl, rfl, rfl⟩) (by rfl) (by first | rfl | (simp; done) | (simp [ints, prs]; done)) (by rfl) (by first | rfl | (simp; done) | (simp [ints, prs]; done)))
  · intro s hs
    have hlt : decide (((fs.length : Nat) : Int) < (fs.length : Nat)) = false := decide_eq_false (by omega)
    unfold m134_0
    repeat' (first
      | refine ep_loadSN rfl rfl rfl hg ?_
      | (refine g_op ?_; first
        | refine ep_mov rfl ?_ | refine sp_loadN rfl rfl rfl rfl rfl ?_
        | refine sp_callv rfl rfl rfl rfl rfl rfl (by first | exact e0) ⟨rfl, rfl, rfl, rfl⟩ rfl rfl rfl ?_
        | refine sp_callb rfl rfl rfl rfl rfl rfl (by first | exact e0) ⟨rfl, rfl, rfl, rfl⟩ rfl rfl rfl ?_
        | refine ep_bin rfl rfl (by first | exact b_add (by omega) (by omega) | exact b_sub (by omega) (by omega) | exact b_and (by omega) (by omega) | exact b_or (by omega) (by omega) | exact b_shr (by omega) | exact b_shl (by omega) (by omega) | exact b_lss | exact b_leq | exact b_gtr | exact b_geq | exact b_eql | exact b_neq) ?_
        | refine sp_idx rfl rfl rfl (by omega) rfl ?_ | refine ep_loadSN rfl rfl rfl (by first | exact prs_get (by omega) | exact fns_get (by omega)) ?_)
      | (refine g_ops ?_; first | refine eo_none ?_ | refine eo_nil ?_)
      | (refine g_code ?_; first | refine ec_seq ?_ | refine ec_region ?_ | refine ec_block ?_ | refine ec_skip ?_ | refine ec_exit ?_ | refine ec_ret ?_ | refine ec_condT rfl ?_ | refine ec_condF rfl ?_ | refine ec_condTH rfl (by assumption) ?_ | refine ec_condFH rfl (by assumption) ?_)
      | refine ek_seqN ?_ | refine ek_seqX ?_ | refine ek_seqR ?_ | refine ek_blkN ?_ | refine ek_blkR ?_ | refine ek_blkX ?_ | refine ek_blkY rfl ?_)
    exact rnd_out (by rfl) (by simp) (scmp2 (by rfl) (by rfl) (by exact ⟨rfl, rfl, rfl⟩) (by rfl) (by first | rfl | (simp; done) | (simp [ints, prs]; done)) (by rfl) (by first | rfl | (simp; done) | (simp [ints, prs]; done)))
theorem evix_FunctionsKeeping (fs : List (Int × Int)) (n u : Nat) (hln : fs.length ≤ 1048576) (hall : allRelation fs = true) (hn : n ≤ 4) (ht : u < 65536) : Ev cx 134 [.sl 0 0 fs.length, .fn 97 [.ptr 1 0]] [⟨fns fs, 2, 0, some 0, false⟩, ⟨[.int .i64 n, .int .i64 u], 1, 1, some 0, true⟩] (.int .i64 (match firstF (fun i => !(fun j => !keepB n u (fs.getD j (0, 0)).1.toNat (fs.getD j (0, 0)).2.toNat) i) 0 (fs.length) with | none => -1 | some x => ((x : Nat) : Int))) [⟨fns fs, 2, 0, some 0, false⟩, ⟨[.int .i64 n, .int .i64 u], 1, 1, some 0, true⟩] := by
  cases hs : firstF (fun i => !(fun j => !keepB n u (fs.getD j (0, 0)).1.toNat (fs.getD j (0, 0)).2.toNat) i) 0 (fs.length) with
  | none =>
    have lp := lpix_FunctionsKeeping fs n u hln hall hn ht _ (by rw [hs])
    refine has134.eev rfl rfl ?_
    unfold m134
    repeat' (first
      | refine sc_loop lp rfl rfl ⟨rfl, rfl, rfl⟩ rfl rfl rfl ?_
      | (refine g_op ?_; first
        | refine ep_mov rfl ?_
        | refine ep_lenS rfl ?_ | refine ep_lenN rfl ?_ | refine ep_lenE rfl ?_)
      | (refine g_ops ?_; first | refine eo_none ?_ | refine eo_nil ?_)
      | (refine g_code ?_; first | refine ec_seq ?_ | refine ec_region ?_ | refine ec_block ?_ | refine ec_ret ?_)
      | refine ek_seqN ?_ | refine ek_seqX ?_ | refine ek_seqR ?_ | refine ek_blkN ?_ | refine ek_blkR ?_ | refine ek_blkX ?_ | refine ek_blkY rfl ?_)
    refine sfin (.inr rfl) (by rfl) (by rfl) (by exact ⟨rfl, rfl, rfl⟩) (by rfl) (by rfl) (by rfl) (by first | rfl | (simp; done) | (simp [ints, prs]; done))
  | some x =>
    have lp := lpix_FunctionsKeeping fs n u hln hall hn ht _ (by rw [hs])
    refine has134.eev rfl rfl ?_
    unfold m134
    repeat' (first
      | refine sc_loop lp rfl rfl ⟨rfl, rfl, rfl⟩ rfl rfl rfl ?_
      | (refine g_op ?_; first
        | refine ep_mov rfl ?_
        | refine ep_lenS rfl ?_ | refine ep_lenN rfl ?_ | refine ep_lenE rfl ?_)
      | (refine g_ops ?_; first | refine eo_none ?_ | refine eo_nil ?_)
      | (refine g_code ?_; first | refine ec_seq ?_ | refine ec_region ?_ | refine ec_block ?_ | refine ec_ret ?_)
      | refine ek_seqN ?_ | refine ek_seqX ?_ | refine ek_seqR ?_ | refine ek_blkN ?_ | refine ek_blkR ?_ | refine ek_blkX ?_ | refine ek_blkY rfl ?_)
    refine sfin (.inr rfl) (by rfl) (by rfl) (by exact ⟨rfl, rfl, rfl⟩) (by rfl) (by rfl) (by rfl) (by first | rfl | (simp; done) | (simp [ints, prs]; done))
theorem evcf_FunctionsKeeping (fs : List (Int × Int)) (n u : Nat) (hln : fs.length ≤ 1048576) (hall : allRelation fs = true) (hn : n ≤ 4) (ht : u < 65536) : Ev cx 93 [.sl 0 0 fs.length, .fn 97 [.ptr 1 0]] [⟨fns fs, 2, 0, some 0, false⟩, ⟨[.int .i64 n, .int .i64 u], 1, 1, some 0, true⟩] (.bool (!allF (fun i => !(fun j => !keepB n u (fs.getD j (0, 0)).1.toNat (fs.getD j (0, 0)).2.toNat) i) 0 (fs.length))) [⟨fns fs, 2, 0, some 0, false⟩, ⟨[.int .i64 n, .int .i64 u], 1, 1, some 0, true⟩] := by
  have e1 := evix_FunctionsKeeping fs n u hln hall hn ht
  cases hs : firstF (fun i => !(fun j => !keepB n u (fs.getD j (0, 0)).1.toNat (fs.getD j (0, 0)).2.toNat) i) 0 (fs.length) with
  | none =>
    rw [hs] at e1
    refine has93.eev rfl rfl ?_
    unfold m93
    repeat' (first
      | (refine g_op ?_; first
        | refine ep_mov rfl ?_
        | refine ep_call0 rfl (by first | exact e1) rfl rfl ?_
        | refine sp_call rfl rfl rfl rfl (by first | exact e1) ⟨rfl, rfl, rfl, rfl⟩ rfl rfl rfl ?_
        | refine ep_bin rfl rfl (by first | exact b_add (by omega) (by omega) | exact b_sub (by omega) (by omega) | exact b_and (by omega) (by omega) | exact b_or (by omega) (by omega) | exact b_shr (by omega) | exact b_shl (by omega) (by omega) | exact b_lss | exact b_leq | exact b_gtr | exact b_geq | exact b_eql | exact b_neq) ?_)
      | (refine g_ops ?_; first | refine eo_none ?_ | refine eo_nil ?_)
      | (refine g_code ?_; first | refine ec_seq ?_ | refine ec_region ?_ | refine ec_ret ?_)
      | refine ek_seqN ?_ | refine ek_seqR ?_)
    refine sfin (.inr rfl) (by rfl) (by rfl) (by exact ⟨rfl, rfl, rfl⟩) (by rfl) (by rfl) (by rw [firstF_allT hs]; rfl) (by first | rfl | (simp; done) | (simp [ints, prs]; done))
  | some x =>
    rw [hs] at e1
    have hge : decide (((x : Nat) : Int) ≥ 0) = true := decide_eq_true (by omega)
    refine has93.eev rfl rfl ?_
    unfold m93
    repeat' (first
      | (refine g_op ?_; first
        | refine ep_mov rfl ?_
        | refine ep_call0 rfl (by first | exact e1) rfl rfl ?_
        | refine sp_call rfl rfl rfl rfl (by first | exact e1) ⟨rfl, rfl, rfl, rfl⟩ rfl rfl rfl ?_
        | refine ep_bin rfl rfl (by first | exact b_add (by omega) (by omega) | exact b_sub (by omega) (by omega) | exact b_and (by omega) (by omega) | exact b_or (by omega) (by omega) | exact b_shr (by omega) | exact b_shl (by omega) (by omega) | exact b_lss | exact b_leq | exact b_gtr | exact b_geq | exact b_eql | exact b_neq) ?_)
      | (refine g_ops ?_; first | refine eo_none ?_ | refine eo_nil ?_)
      | (refine g_code ?_; first | refine ec_seq ?_ | refine ec_region ?_ | refine ec_ret ?_)
      | refine ek_seqN ?_ | refine ek_seqR ?_)
    refine sfin (.inr rfl) (by rfl) (by rfl) (by exact ⟨rfl, rfl, rfl⟩) (by rfl) (by rfl) (by rw [firstF_allF hs]; first | rfl | exact congrArg V.bool hge) (by first | rfl | (simp; done) | (simp [ints, prs]; done))

theorem evkap_FunctionsKeeping (fs : List (Int × Int)) (n u : Nat) (hln : fs.length ≤ 1048576) (hall : allRelation fs = true) (hn : n ≤ 4) (ht : u < 65536) : Ev cx 93 [.sl 0 0 fs.length, .fn 97 [.ptr 1 0]] [⟨fns fs, 2, 0, some 0, false⟩, ⟨[.int .i64 n, .int .i64 u], 1, 1, some 0, true⟩] (.bool (!kAR fs n u)) [⟨fns fs, 2, 0, some 0, false⟩, ⟨[.int .i64 n, .int .i64 u], 1, 1, some 0, true⟩] := by
  have e := evcf_FunctionsKeeping fs n u hln hall hn ht
  rwa [show (fun i => !(fun j => !keepB n u (fs.getD j (0, 0)).1.toNat (fs.getD j (0, 0)).2.toNat) i) = fun j => keepB n u (fs.getD j (0, 0)).1.toNat (fs.getD j (0, 0)).2.toNat by funext j; simp] at e
theorem ev96 (fs : List (Int × Int)) (n u : Nat) (hln : fs.length ≤ 1048576) (hall : allRelation fs = true) (hn : n ≤ 4) (ht : u < 65536) : Ev cx 96 [.agg [.int .i64 n, .int .i64 u], .ptr 0 0] [⟨[.sl 1 0 fs.length], 1, 0, some 0, true⟩, ⟨fns fs, 2, 1, some 0, false⟩] (.bool (kAR fs n u)) [⟨[.sl 1 0 fs.length], 1, 0, some 0, true⟩, ⟨fns fs, 2, 1, some 0, false⟩] := by
  have e1 := evkap_FunctionsKeeping fs n u hln hall hn ht
  refine has96.eev rfl rfl ?_
  unfold m96
  repeat' (first
    | (refine g_op ?_; first
      | refine ep_mov rfl ?_ | refine ep_load1 rfl rfl rfl rfl ?_
      | refine ep_call0 rfl (by first | exact e1) rfl rfl ?_
      | refine sp_call rfl rfl rfl rfl (by first | exact e1) ⟨rfl, rfl, rfl, rfl⟩ rfl rfl rfl ?_
      | refine ep_not rfl ?_ | refine sp_box rfl rfl rfl rfl rfl ?_ | refine ep_mkfn rfl ?_)
    | (refine g_ops ?_; first | refine eo_none ?_ | refine eo_nil ?_)
    | (refine g_code ?_; first | refine ec_seq ?_ | refine ec_region ?_ | refine ec_ret ?_)
    | refine ek_seqN ?_ | refine ek_seqR ?_)
  refine sfin (.inr rfl) (by rfl) (by rfl) (by exact ⟨rfl, rfl, rfl⟩) (by rfl) (by rfl) (by simp) (by first | rfl | (simp; done) | (simp [ints, prs]; done))
-- impl.FunctionsKeeping
def m42 : MC := (.seq (.region [⟨(.box (.t 0)), (some 2), none⟩, ⟨(.mov (.k .nils)), (some 4), none⟩, ⟨(.mov (.k (.int .i64 0))), (some 5), none⟩] false) (.seq (.seq (.region [⟨(.load none (.t 2)), (some 6), none⟩, ⟨(.call 93 [(.t 6), (.k (.fn 94 []))]), (some 7), none⟩] false) (.cond (.t 7) (.seq (.region [⟨(.mov (.k .nils)), (some 4), none⟩, ⟨(.mov (.k (.int .i64 1))), (some 5), none⟩] false) .ret) .skip)) (.seq (.seq (.region [⟨(.load none (.t 2)), (some 8), none⟩, ⟨(.len (.t 8)), (some 9), none⟩, ⟨(.bin .gtr (.t 9) (.k (.int .i64 6))), (some 10), none⟩, ⟨(.mov (.t 10)), (some 11), none⟩, ⟨(.mov (.t 1)), (some 12), (some (11, false))⟩, ⟨(.call 60 [(.t 12), (.k (.int .i64 0)), (.k (.int .i64 3))]), (some 13), (some (11, false))⟩, ⟨(.un .not (.t 13)), (some 14), (some (11, false))⟩, ⟨(.pick (.t 11) (.k (.bool true)) (.t 14)), (some 15), none⟩] false) (.cond (.t 15) (.seq (.region [⟨(.mov (.k .nils)), (some 4), none⟩, ⟨(.mov (.k (.int .i64 2))), (some 5), none⟩] false) .ret) .skip)) (.seq (.region [⟨(.mov (.t 1)), (some 16), none⟩, ⟨(.mkfn 96 [(.t 2)]), (some 17), none⟩, ⟨(.call 95 [(.t 16), (.t 17)]), (some 18), none⟩, ⟨(.mov (.t 18)), (some 4), none⟩, ⟨(.mov (.k (.int .i64 0))), (some 5), none⟩] false) .ret))))
theorem has42 : Has cx 42 19 m42 [(.tmp 4), (.tmp 5)] :=
  ⟨⟨Try.f42, Try.f42.body.getD .skip, by kernel_rfl, by kernel_rfl, by kernel_rfl, by kernel_rfl, by kernel_rfl, by kernel_rfl⟩⟩
theorem lpft_fk (fs : List (Int × Int)) (n : Nat) (hln : fs.length ≤ 1048576) (hall : allRelation fs = true) (hn3 : n ≤ 3) (o : Out) (ho : (match selm (kAR fs n) (idn) (R2 (R2 n)) with | [] => (⟨.exit 0, [(5, .nils)], [⟨[.sl 1 0 fs.length], 1, 0, some 0, true⟩, ⟨fns fs, 2, 1, some 0, false⟩]⟩ : Out) | x :: xs => ⟨.exit 0, [(5, .sl 2 0 (x :: xs).length)], [⟨[.sl 1 0 fs.length], 1, 0, some 0, true⟩, ⟨fns fs, 2, 1, some 0, false⟩, ⟨prs n (x :: xs), 2, 2, some 0, false⟩]⟩) = o) :
    LpS cx 25 2 m95_0 [(0, .int .i64 (n : Nat)), (1, .fn 96 [.ptr 0 0]), (5, .nils), (9, .int .i64 (R2 (R2 n) : Nat)), (10, .int .i64 (0 : Nat))] [⟨[.sl 1 0 fs.length], 1, 0, some 0, true⟩, ⟨fns fs, 2, 1, some 0, false⟩] o.x o.e o.h := by
  have hn : n ≤ 4 := by omega
  obtain ⟨h1, h2, h3, h4⟩ := shN hn
  subst ho
  refine lp_st (R2 (R2 n)) (selm (kAR fs n) (idn)) (fun i s => match s with | [] => [(0, .int .i64 (n : Nat)), (1, .fn 96 [.ptr 0 0]), (5, .nils), (9, .int .i64 (R2 (R2 n) : Nat)), (10, .int .i64 (i : Nat))] | x :: xs => [(0, .int .i64 (n : Nat)), (1, .fn 96 [.ptr 0 0]), (5, .sl 2 0 (x :: xs).length), (9, .int .i64 (R2 (R2 n) : Nat)), (10, .int .i64 (i : Nat))]) (fun i s => match s with | [] => [⟨[.sl 1 0 fs.length], 1, 0, some 0, true⟩, ⟨fns fs, 2, 1, some 0, false⟩] | x :: xs => [⟨[.sl 1 0 fs.length], 1, 0, some 0, true⟩, ⟨fns fs, 2, 1, some 0, false⟩, ⟨prs n (x :: xs), 2, 2, some 0, false⟩]) (fun s => match s with | [] => ⟨.exit 0, [(5, .nils)], [⟨[.sl 1 0 fs.length], 1, 0, some 0, true⟩, ⟨fns fs, 2, 1, some 0, false⟩]⟩ | x :: xs => ⟨.exit 0, [(5, .sl 2 0 (x :: xs).length)], [⟨[.sl 1 0 fs.length], 1, 0, some 0, true⟩, ⟨fns fs, 2, 1, some 0, false⟩, ⟨prs n (x :: xs), 2, 2, some 0, false⟩]⟩) ?_ ?_ (R2 (R2 n)) 0 (by omega)
  · intro i s hi hs
    have hlt : decide ((i : Int) < (R2 (R2 n) : Nat)) = true := decide_eq_true (by omega)
    have hle : decide ((i : Int) ≤ (R2 (R2 n) : Nat) - 1) = true := decide_eq_true (by omega)
    have hlen : s.length ≤ 65536 := by have := selm_len (kAR fs n) (idn) i; rw [hs] at this; omega
    cases hp : (kAR fs n) i with
    | true =>
      have hp' : ((kAR fs n) i) = true := hp
      have e1 := ev96 fs n i hln hall hn (by omega)
      rw [hp'] at e1
      cases s with
      | nil =>
        refine ⟨[(idn) i], by rw [selm_t (p := kAR fs n) hp, hs]; try rfl, ?_⟩
        unfold m95_0
        repeat' (first
          | (refine g_op ?_; first
            | refine ep_mov rfl ?_ | refine sp_loadN rfl rfl rfl rfl rfl ?_
            | refine sp_callv rfl rfl rfl rfl rfl rfl (by first | exact e1) ⟨rfl, rfl, rfl, rfl⟩ rfl rfl rfl ?_
            | refine sp_callb rfl rfl rfl rfl rfl rfl (by first | exact e1) ⟨rfl, rfl, rfl, rfl⟩ rfl rfl rfl ?_
            | refine ep_bin rfl rfl (by first | exact b_add (by omega) (by omega) | exact b_sub (by omega) (by omega) | exact b_and (by omega) (by omega) | exact b_or (by omega) (by omega) | exact b_shr (by omega) | exact b_shl (by omega) (by omega) | exact b_lss | exact b_leq | exact b_gtr | exact b_geq | exact b_eql | exact b_neq) ?_
            | refine sp_store rfl rfl rfl rfl rfl rfl rfl rfl rfl rfl ?_ | refine sp_alloc rfl rfl ?_ | refine sp_build rfl rfl ?_ | refine sp_bslice rfl rfl rfl rfl rfl ?_ | refine sp_push0 rfl (by first | exact .inl rfl | exact .inr rfl) rfl rfl rfl rfl rfl (by decide) rfl rfl rfl ?_
            | refine sp_push rfl rfl rfl rfl rfl rfl rfl (by first | exact ints_len _ | exact prs_len _ _ | exact zints_len _) (by omega) (Nat.zero_le _) rfl rfl rfl rfl rfl ?_)
          | (refine g_ops ?_; first | refine eo_none ?_ | refine eo_nil ?_)
          | (refine g_code ?_; first | refine ec_seq ?_ | refine ec_region ?_ | refine ec_block ?_ | refine ec_skip ?_ | refine ec_exit ?_ | refine ec_condT rfl ?_ | refine ec_condF rfl ?_ | refine ec_condTH rfl (by assumption) ?_ | refine ec_condFH rfl (by assumption) ?_)
          | refine ek_seqN ?_ | refine ek_seqX ?_ | refine ek_blkN ?_ | refine ek_blkR ?_ | refine ek_blkX ?_ | refine ek_blkY rfl ?_)
        exact rnd_on (by rfl) (scmp2 (by rfl) (by rfl) (by exact ⟨rfl, rfl, rfl⟩) (by rfl) (by first | rfl | (simp; done) | (simp [ints, prs]; done)) (by rfl) (by first | rfl | (simp; done) | (simp [ints, prs]; done)))
      | cons x xs =>
        refine ⟨(x :: xs) ++ [(idn) i], by rw [selm_t (p := kAR fs n) hp, hs]; try rfl, ?_⟩
        unfold m95_0
        repeat' (first
          | (refine g_op ?_; first
            | refine ep_mov rfl ?_ | refine sp_loadN rfl rfl rfl rfl rfl ?_
            | refine sp_callv rfl rfl rfl rfl rfl rfl (by first | exact e1) ⟨rfl, rfl, rfl, rfl⟩ rfl rfl rfl ?_
            | refine sp_callb rfl rfl rfl rfl rfl rfl (by first | exact e1) ⟨rfl, rfl, rfl, rfl⟩ rfl rfl rfl ?_
            | refine ep_bin rfl rfl (by first | exact b_add (by omega) (by omega) | exact b_sub (by omega) (by omega) | exact b_and (by omega) (by omega) | exact b_or (by omega) (by omega) | exact b_shr (by omega) | exact b_shl (by omega) (by omega) | exact b_lss | exact b_leq | exact b_gtr | exact b_geq | exact b_eql | exact b_neq) ?_
            | refine sp_store rfl rfl rfl rfl rfl rfl rfl rfl rfl rfl ?_ | refine sp_alloc rfl rfl ?_ | refine sp_build rfl rfl ?_ | refine sp_bslice rfl rfl rfl rfl rfl ?_ | refine sp_push0 rfl (by first | exact .inl rfl | exact .inr rfl) rfl rfl rfl rfl rfl (by decide) rfl rfl rfl ?_
            | refine sp_push rfl rfl rfl rfl rfl rfl rfl (by first | exact ints_len _ | exact prs_len _ _ | exact zints_len _) (by omega) (Nat.zero_le _) rfl rfl rfl rfl rfl ?_)
          | (refine g_ops ?_; first | refine eo_none ?_ | refine eo_nil ?_)
          | (refine g_code ?_; first | refine ec_seq ?_ | refine ec_region ?_ | refine ec_block ?_ | refine ec_skip ?_ | refine ec_exit ?_ | refine ec_condT rfl ?_ | refine ec_condF rfl ?_ | refine ec_condTH rfl (by assumption) ?_ | refine ec_condFH rfl (by assumption) ?_)
          | refine ek_seqN ?_ | refine ek_seqX ?_ | refine ek_blkN ?_ | refine ek_blkR ?_ | refine ek_blkX ?_ | refine ek_blkY rfl ?_)
        exact rnd_on (by rfl) (scmp2 (by rfl) (by rfl) (by exact ⟨rfl, rfl, rfl⟩) (by rfl) (by first | rfl | (simp; done) | (simp [ints, prs]; done)) (by rfl) (by first | rfl | (simp; done) | (simp [ints, prs]; done)))
    | false =>
      have hp' : ((kAR fs n) i) = false := hp
      have e1 := ev96 fs n i hln hall hn (by omega)
      rw [hp'] at e1
      cases s with
      | nil =>
        refine ⟨[], by rw [selm_f (p := kAR fs n) hp, hs]; try rfl, ?_⟩
        unfold m95_0
        repeat' (first
          | (refine g_op ?_; first
            | refine ep_mov rfl ?_ | refine sp_loadN rfl rfl rfl rfl rfl ?_
            | refine sp_callv rfl rfl rfl rfl rfl rfl (by first | exact e1) ⟨rfl, rfl, rfl, rfl⟩ rfl rfl rfl ?_
            | refine sp_callb rfl rfl rfl rfl rfl rfl (by first | exact e1) ⟨rfl, rfl, rfl, rfl⟩ rfl rfl rfl ?_
            | refine ep_bin rfl rfl (by first | exact b_add (by omega) (by omega) | exact b_sub (by omega) (by omega) | exact b_and (by omega) (by omega) | exact b_or (by omega) (by omega) | exact b_shr (by omega) | exact b_shl (by omega) (by omega) | exact b_lss | exact b_leq | exact b_gtr | exact b_geq | exact b_eql | exact b_neq) ?_
            | refine sp_store rfl rfl rfl rfl rfl rfl rfl rfl rfl rfl ?_ | refine sp_alloc rfl rfl ?_ | refine sp_build rfl rfl ?_ | refine sp_bslice rfl rfl rfl rfl rfl ?_ | refine sp_push0 rfl (by first | exact .inl rfl | exact .inr rfl) rfl rfl rfl rfl rfl (by decide) rfl rfl rfl ?_
            | refine sp_push rfl rfl rfl rfl rfl rfl rfl (by first | exact ints_len _ | exact prs_len _ _ | exact zints_len _) (by omega) (Nat.zero_le _) rfl rfl rfl rfl rfl ?_)
          | (refine g_ops ?_; first | refine eo_none ?_ | refine eo_nil ?_)
          | (refine g_code ?_; first | refine ec_seq ?_ | refine ec_region ?_ | refine ec_block ?_ | refine ec_skip ?_ | refine ec_exit ?_ | refine ec_condT rfl ?_ | refine ec_condF rfl ?_ | refine ec_condTH rfl (by assumption) ?_ | refine ec_condFH rfl (by assumption) ?_)
          | refine ek_seqN ?_ | refine ek_seqX ?_ | refine ek_blkN ?_ | refine ek_blkR ?_ | refine ek_blkX ?_ | refine ek_blkY rfl ?_)
        exact rnd_on (by rfl) (scmp2 (by rfl) (by rfl) (by exact ⟨rfl, rfl, rfl⟩) (by rfl) (by first | rfl | (simp; done) | (simp [ints, prs]; done)) (by rfl) (by first | rfl | (simp; done) | (simp [ints, prs]; done)))
      | cons x xs =>
        refine ⟨x :: xs, by rw [selm_f (p := kAR fs n) hp, hs]; try rfl, ?_⟩
        unfold m95_0
        repeat' (first
          | (refine g_op ?_; first
            | refine ep_mov rfl ?_ | refine sp_loadN rfl rfl rfl rfl rfl ?_
            | refine sp_callv rfl rfl rfl rfl rfl rfl (by first | exact e1) ⟨rfl, rfl, rfl, rfl⟩ rfl rfl rfl ?_
            | refine sp_callb rfl rfl rfl rfl rfl rfl (by first | exact e1) ⟨rfl, rfl, rfl, rfl⟩ rfl rfl rfl ?_
            | refine ep_bin rfl rfl (by first | exact b_add (by omega) (by omega) | exact b_sub (by omega) (by omega) | exact b_and (by omega) (by omega) | exact b_or (by omega) (by omega) | exact b_shr (by omega) | exact b_shl (by omega) (by omega) | exact b_lss | exact b_leq | exact b_gtr | exact b_geq | exact b_eql | exact b_neq) ?_
            | refine sp_store rfl rfl rfl rfl rfl rfl rfl rfl rfl rfl ?_ | refine sp_alloc rfl rfl ?_ | refine sp_build rfl rfl ?_ | refine sp_bslice rfl rfl rfl rfl rfl ?_ | refine sp_push0 rfl (by first | exact .inl rfl | exact .inr rfl) rfl rfl rfl rfl rfl (by decide) rfl rfl rfl ?_
            | refine sp_push rfl rfl rfl rfl rfl rfl rfl (by first | exact ints_len _ | exact prs_len _ _ | exact zints_len _) (by omega) (Nat.zero_le _) rfl rfl rfl rfl rfl ?_)
          | (refine g_ops ?_; first | refine eo_none ?_ | refine eo_nil ?_)
          | (refine g_code ?_; first | refine ec_seq ?_ | refine ec_region ?_ | refine ec_block ?_ | refine ec_skip ?_ | refine ec_exit ?_ | refine ec_condT rfl ?_ | refine ec_condF rfl ?_ | refine ec_condTH rfl (by assumption) ?_ | refine ec_condFH rfl (by assumption) ?_)
          | refine ek_seqN ?_ | refine ek_seqX ?_ | refine ek_blkN ?_ | refine ek_blkR ?_ | refine ek_blkX ?_ | refine ek_blkY rfl ?_)
        exact rnd_on (by rfl) (scmp2 (by rfl) (by rfl) (by exact ⟨rfl, rfl, rfl⟩) (by rfl) (by first | rfl | (simp; done) | (simp [ints, prs]; done)) (by rfl) (by first | rfl | (simp; done) | (simp [ints, prs]; done)))
  · intro s hs
    have hlt : decide (((R2 (R2 n) : Nat) : Int) < (R2 (R2 n) : Nat)) = false := decide_eq_false (by omega)
    have hle : decide (((R2 (R2 n) : Nat) : Int) ≤ (R2 (R2 n) : Nat) - 1) = false := decide_eq_false (by omega)
    cases s with
    | nil =>
      unfold m95_0
      repeat' (first
        | (refine g_op ?_; first
          | refine ep_mov rfl ?_ | refine sp_loadN rfl rfl rfl rfl rfl ?_
          | refine sp_callv rfl rfl rfl rfl rfl rfl (by first | exact e1) ⟨rfl, rfl, rfl, rfl⟩ rfl rfl rfl ?_
          | refine sp_callb rfl rfl rfl rfl rfl rfl (by first | exact e1) ⟨rfl, rfl, rfl, rfl⟩ rfl rfl rfl ?_
          | refine ep_bin rfl rfl (by first | exact b_add (by omega) (by omega) | exact b_sub (by omega) (by omega) | exact b_and (by omega) (by omega) | exact b_or (by omega) (by omega) | exact b_shr (by omega) | exact b_shl (by omega) (by omega) | exact b_lss | exact b_leq | exact b_gtr | exact b_geq | exact b_eql | exact b_neq) ?_
          | refine sp_store rfl rfl rfl rfl rfl rfl rfl rfl rfl rfl ?_ | refine sp_alloc rfl rfl ?_ | refine sp_build rfl rfl ?_ | refine sp_bslice rfl rfl rfl rfl rfl ?_ | refine sp_push0 rfl (by first | exact .inl rfl | exact .inr rfl) rfl rfl rfl rfl rfl (by decide) rfl rfl rfl ?_
          | refine sp_push rfl rfl rfl rfl rfl rfl rfl (by first | exact ints_len _ | exact prs_len _ _ | exact zints_len _) (by omega) (Nat.zero_le _) rfl rfl rfl rfl rfl ?_)
        | (refine g_ops ?_; first | refine eo_none ?_ | refine eo_nil ?_)
        | (refine g_code ?_; first | refine ec_seq ?_ | refine ec_region ?_ | refine ec_block ?_ | refine ec_skip ?_ | refine ec_exit ?_ | refine ec_condT rfl ?_ | refine ec_condF rfl ?_ | refine ec_condTH rfl (by assumption) ?_ | refine ec_condFH rfl (by assumption) ?_)
        | refine ek_seqN ?_ | refine ek_seqX ?_ | refine ek_blkN ?_ | refine ek_blkR ?_ | refine ek_blkX ?_ | refine ek_blkY rfl ?_)
      exact rnd_out (by rfl) (by simp) (scmp2 (by rfl) (by rfl) (by exact ⟨rfl, rfl, rfl⟩) (by rfl) (by first | rfl | (simp; done) | (simp [ints, prs]; done)) (by rfl) (by first | rfl | (simp; done) | (simp [ints, prs]; done)))
    | cons x xs =>
      unfold m95_0
      repeat' (first
        | (refine g_op ?_; first
          | refine ep_mov rfl ?_ | refine sp_loadN rfl rfl rfl rfl rfl ?_
          | refine sp_callv rfl rfl rfl rfl rfl rfl (by first | exact e1) ⟨rfl, rfl, rfl, rfl⟩ rfl rfl rfl ?_
          | refine sp_callb rfl rfl rfl rfl rfl rfl (by first | exact e1) ⟨rfl, rfl, rfl, rfl⟩ rfl rfl rfl ?_
          | refine ep_bin rfl rfl (by first | exact b_add (by omega) (by omega) | exact b_sub (by omega) (by omega) | exact b_and (by omega) (by omega) | exact b_or (by omega) (by omega) | exact b_shr (by omega) | exact b_shl (by omega) (by omega) | exact b_lss | exact b_leq | exact b_gtr | exact b_geq | exact b_eql | exact b_neq) ?_
          | refine sp_store rfl rfl rfl rfl rfl rfl rfl rfl rfl rfl ?_ | refine sp_alloc rfl rfl ?_ | refine sp_build rfl rfl ?_ | refine sp_bslice rfl rfl rfl rfl rfl ?_ | refine sp_push0 rfl (by first | exact .inl rfl | exact .inr rfl) rfl rfl rfl rfl rfl (by decide) rfl rfl rfl ?_
          | refine sp_push rfl rfl rfl rfl rfl rfl rfl (by first | exact ints_len _ | exact prs_len _ _ | exact zints_len _) (by omega) (Nat.zero_le _) rfl rfl rfl rfl rfl ?_)
        | (refine g_ops ?_; first | refine eo_none ?_ | refine eo_nil ?_)
        | (refine g_code ?_; first | refine ec_seq ?_ | refine ec_region ?_ | refine ec_block ?_ | refine ec_skip ?_ | refine ec_exit ?_ | refine ec_condT rfl ?_ | refine ec_condF rfl ?_ | refine ec_condTH rfl (by assumption) ?_ | refine ec_condFH rfl (by assumption) ?_)
        | refine ek_seqN ?_ | refine ek_seqX ?_ | refine ek_blkN ?_ | refine ek_blkR ?_ | refine ek_blkX ?_ | refine ek_blkY rfl ?_)
      exact rnd_out (by rfl) (by simp) (scmp2 (by rfl) (by rfl) (by exact ⟨rfl, rfl, rfl⟩) (by rfl) (by first | rfl | (simp; done) | (simp [ints, prs]; done)) (by rfl) (by first | rfl | (simp; done) | (simp [ints, prs]; done)))

theorem evft_fk (fs : List (Int × Int)) (n : Nat) (hln : fs.length ≤ 1048576) (hall : allRelation fs = true) (hn3 : n ≤ 3) : Ev cx 95 [.int .i64 n, .fn 96 [.ptr 0 0]] [⟨[.sl 1 0 fs.length], 1, 0, some 0, true⟩, ⟨fns fs, 2, 1, some 0, false⟩] (slV .nils 2 (selm (kAR fs n) idn (R2 (R2 n)))) (⟨[.sl 1 0 fs.length], 1, 0, some 0, true⟩ :: (⟨fns fs, 2, 1, some 0, false⟩ :: slH 2 2 (prs n) (selm (kAR fs n) idn (R2 (R2 n))))) := by
  have hn : n ≤ 4 := by omega
  cases hs : selm (kAR fs n) idn (R2 (R2 n)) with
  | nil =>
    have lp := lpft_fk fs n hln hall hn3 _ (by rw [hs])
    refine has95.eev rfl rfl ?_
    unfold m95
    repeat' (first
      | refine sc_loop lp rfl rfl ⟨rfl, rfl, rfl⟩ rfl rfl rfl ?_
      | (refine g_op ?_; first
        | refine ep_mov rfl ?_
        | refine ep_call0 rfl (by first | exact ev103 _ hn) rfl rfl ?_
        | refine sp_call rfl rfl rfl rfl (by first | exact ev103 _ hn) ⟨rfl, rfl, rfl, rfl⟩ rfl rfl rfl ?_)
      | (refine g_ops ?_; first | refine eo_none ?_ | refine eo_nil ?_)
      | (refine g_code ?_; first | refine ec_seq ?_ | refine ec_region ?_ | refine ec_block ?_ | refine ec_ret ?_)
      | refine ek_seqN ?_ | refine ek_seqX ?_ | refine ek_seqR ?_ | refine ek_blkN ?_ | refine ek_blkR ?_ | refine ek_blkX ?_ | refine ek_blkY rfl ?_)
    refine sfin (.inr rfl) (by rfl) (by rfl) (by exact ⟨rfl, rfl, rfl⟩) (by rfl) (by rfl) (by rfl) (by first | rfl | (simp; done) | (simp [ints, prs]; done))
  | cons x xs =>
    have lp := lpft_fk fs n hln hall hn3 _ (by rw [hs])
    refine has95.eev rfl rfl ?_
    unfold m95
    repeat' (first
      | refine sc_loop lp rfl rfl ⟨rfl, rfl, rfl⟩ rfl rfl rfl ?_
      | (refine g_op ?_; first
        | refine ep_mov rfl ?_
        | refine ep_call0 rfl (by first | exact ev103 _ hn) rfl rfl ?_
        | refine sp_call rfl rfl rfl rfl (by first | exact ev103 _ hn) ⟨rfl, rfl, rfl, rfl⟩ rfl rfl rfl ?_)
      | (refine g_ops ?_; first | refine eo_none ?_ | refine eo_nil ?_)
      | (refine g_code ?_; first | refine ec_seq ?_ | refine ec_region ?_ | refine ec_block ?_ | refine ec_ret ?_)
      | refine ek_seqN ?_ | refine ek_seqX ?_ | refine ek_seqR ?_ | refine ek_blkN ?_ | refine ek_blkR ?_ | refine ek_blkX ?_ | refine ek_blkY rfl ?_)
    refine sfin (.inr rfl) (by rfl) (by rfl) (by exact ⟨rfl, rfl, rfl⟩) (by rfl) (by rfl) (by rfl) (by first | rfl | (simp; done) | (simp [ints, prs]; done))
theorem ev42 (fs : List (Int × Int)) (z : Int) (hln : fs.length ≤ 1048576) : Ev cx 42 [.sl 0 0 fs.length, .int .i64 z] [⟨fns fs, 2, 0, some 0, false⟩] (.tup [slV .nils 1 (fkL fs z), .int .i64 (fkC fs z)]) (⟨fns fs, 2, 0, some 0, false⟩ :: slH 1 2 (prs z.toNat) (fkL fs z)) := by
  have e1 := evall_Relation fs hln
  have e2 := ev60 z 0 3
  cases h0 : allRelation fs
  · rw [h0] at e1
    have hC : fkC fs z = 1 := by rw [fkC, if_neg (by rw [h0]; simp)]
    have hL : fkL fs z = [] := if_neg fun h => by rw [h0] at h; simp at h
    rw [hL, hC]
    refine has42.eev rfl rfl ?_
    unfold m42
    repeat' (first
      | (refine g_op ?_; first
        | refine ep_mov rfl ?_ | refine ep_load1 rfl rfl rfl rfl ?_
        | refine ep_call0 rfl (by first | exact e1 | exact e2) rfl rfl ?_
        | refine sp_call rfl rfl rfl rfl (by first | exact e1 | exact e2) ⟨rfl, rfl, rfl, rfl⟩ rfl rfl rfl ?_
        | refine ep_bin rfl rfl (by first | exact b_add (by omega) (by omega) | exact b_sub (by omega) (by omega) | exact b_and (by omega) (by omega) | exact b_or (by omega) (by omega) | exact b_shr (by omega) | exact b_shl (by omega) (by omega) | exact b_lss | exact b_leq | exact b_gtr | exact b_geq | exact b_eql | exact b_neq) ?_
        | refine ep_pickT rfl rfl ?_ | refine ep_pickF rfl rfl ?_ | refine ep_pickTH rfl (by assumption) rfl ?_ | refine ep_pickFH rfl (by assumption) rfl ?_ | refine ep_not rfl ?_ | refine ep_lenS rfl ?_
        | refine ep_lenN rfl ?_ | refine ep_lenE rfl ?_ | refine sp_box rfl rfl rfl rfl rfl ?_ | refine ep_mkfn rfl ?_)
      | (refine g_ops ?_; first | refine eo_none ?_ | refine eo_nil ?_ | refine eo_yes rfl ?_ | refine eo_no rfl ?_ | refine eo_und rfl ?_ | refine eo_yesH rfl (by assumption) ?_ | refine eo_noH rfl (by assumption) ?_)
      | (refine g_code ?_; first | refine ec_seq ?_ | refine ec_region ?_ | refine ec_skip ?_ | refine ec_ret ?_ | refine ec_condT rfl ?_ | refine ec_condF rfl ?_ | refine ec_condTH rfl (by assumption) ?_ | refine ec_condFH rfl (by assumption) ?_)
      | refine ek_seqN ?_ | refine ek_seqR ?_)
    refine sfin (.inr rfl) (by rfl) (by rfl) (by exact ⟨rfl, rfl, rfl⟩) (by rfl) (by rfl) (by rfl) (by first | rfl | (simp; done) | (simp [ints, prs]; done))
  · rw [h0] at e1
    by_cases h5 : fs.length ≤ 6
    · have g2 : decide (((fs.length : Nat) : Int) > 6) = false := decide_eq_false (by omega)
      by_cases h1 : 0 ≤ z ∧ z ≤ 3
      · rw [decide_eq_true h1] at e2
        obtain ⟨n, rfl⟩ := Int.eq_ofNat_of_zero_le h1.1
        have hn : n ≤ 4 := by omega
        have hC : fkC fs (n : Nat) = 0 := by rw [fkC, if_pos h0, if_pos ⟨h5, h1⟩]
        have hL : fkL fs (n : Nat) = selm (kAR fs n) idn (R2 (R2 n)) := if_pos ⟨h0, h5, h1⟩
        rw [hL, hC, Int.toNat_natCast]
        have e3 := evft_fk fs n hln h0 (by omega)
        cases hs : selm (kAR fs n) idn (R2 (R2 n)) with
        | nil =>
          rw [hs] at e3
          refine has42.eev rfl rfl ?_
          unfold m42
          repeat' (first
            | (refine g_op ?_; first
              | refine ep_mov rfl ?_ | refine ep_load1 rfl rfl rfl rfl ?_
              | refine ep_call0 rfl (by first | exact e1 | exact e2 | exact e3) rfl rfl ?_
              | refine sp_call rfl rfl rfl rfl (by first | exact e1 | exact e2 | exact e3) ⟨rfl, rfl, rfl, rfl⟩ rfl rfl rfl ?_
              | refine ep_bin rfl rfl (by first | exact b_add (by omega) (by omega) | exact b_sub (by omega) (by omega) | exact b_and (by omega) (by omega) | exact b_or (by omega) (by omega) | exact b_shr (by omega) | exact b_shl (by omega) (by omega) | exact b_lss | exact b_leq | exact b_gtr | exact b_geq | exact b_eql | exact b_neq) ?_
              | refine ep_pickT rfl rfl ?_ | refine ep_pickF rfl rfl ?_ | refine ep_pickTH rfl (by assumption) rfl ?_ | refine ep_pickFH rfl (by assumption) rfl ?_ | refine ep_not rfl ?_ | refine ep_lenS rfl ?_
              | refine ep_lenN rfl ?_ | refine ep_lenE rfl ?_ | refine sp_box rfl rfl rfl rfl rfl ?_ | refine ep_mkfn rfl ?_)
            | (refine g_ops ?_; first | refine eo_none ?_ | refine eo_nil ?_ | refine eo_yes rfl ?_ | refine eo_no rfl ?_ | refine eo_und rfl ?_ | refine eo_yesH rfl (by assumption) ?_ | refine eo_noH rfl (by assumption) ?_)
            | (refine g_code ?_; first | refine ec_seq ?_ | refine ec_region ?_ | refine ec_skip ?_ | refine ec_ret ?_ | refine ec_condT rfl ?_ | refine ec_condF rfl ?_ | refine ec_condTH rfl (by assumption) ?_ | refine ec_condFH rfl (by assumption) ?_)
            | refine ek_seqN ?_ | refine ek_seqR ?_)
          refine sfin (.inr rfl) (by rfl) (by rfl) (by exact ⟨rfl, rfl, rfl⟩) (by rfl) (by rfl) (by rfl) (by first | rfl | (simp; done) | (simp [ints, prs]; done))
        | cons x xs =>
          rw [hs] at e3
          refine has42.eev rfl rfl ?_
          unfold m42
          repeat' (first
            | (refine g_op ?_; first
              | refine ep_mov rfl ?_ | refine ep_load1 rfl rfl rfl rfl ?_
              | refine ep_call0 rfl (by first | exact e1 | exact e2 | exact e3) rfl rfl ?_
              | refine sp_call rfl rfl rfl rfl (by first | exact e1 | exact e2 | exact e3) ⟨rfl, rfl, rfl, rfl⟩ rfl rfl rfl ?_
              | refine ep_bin rfl rfl (by first | exact b_add (by omega) (by omega) | exact b_sub (by omega) (by omega) | exact b_and (by omega) (by omega) | exact b_or (by omega) (by omega) | exact b_shr (by omega) | exact b_shl (by omega) (by omega) | exact b_lss | exact b_leq | exact b_gtr | exact b_geq | exact b_eql | exact b_neq) ?_
              | refine ep_pickT rfl rfl ?_ | refine ep_pickF rfl rfl ?_ | refine ep_pickTH rfl (by assumption) rfl ?_ | refine ep_pickFH rfl (by assumption) rfl ?_ | refine ep_not rfl ?_ | refine ep_lenS rfl ?_
              | refine ep_lenN rfl ?_ | refine ep_lenE rfl ?_ | refine sp_box rfl rfl rfl rfl rfl ?_ | refine ep_mkfn rfl ?_)
            | (refine g_ops ?_; first | refine eo_none ?_ | refine eo_nil ?_ | refine eo_yes rfl ?_ | refine eo_no rfl ?_ | refine eo_und rfl ?_ | refine eo_yesH rfl (by assumption) ?_ | refine eo_noH rfl (by assumption) ?_)
            | (refine g_code ?_; first | refine ec_seq ?_ | refine ec_region ?_ | refine ec_skip ?_ | refine ec_ret ?_ | refine ec_condT rfl ?_ | refine ec_condF rfl ?_ | refine ec_condTH rfl (by assumption) ?_ | refine ec_condFH rfl (by assumption) ?_)
            | refine ek_seqN ?_ | refine ek_seqR ?_)
          refine sfin (.inr rfl) (by rfl) (by rfl) (by exact ⟨rfl, rfl, rfl⟩) (by rfl) (by rfl) (by rfl) (by first | rfl | (simp; done) | (simp [ints, prs]; done))
      · rw [decide_eq_false h1] at e2
        have hC : fkC fs z = 2 := by rw [fkC, if_pos h0, if_neg fun h => h1 h.2]
        have hL : fkL fs z = [] := if_neg fun h => h1 h.2.2
        rw [hL, hC]
        refine has42.eev rfl rfl ?_
        unfold m42
        repeat' (first
          | (refine g_op ?_; first
            | refine ep_mov rfl ?_ | refine ep_load1 rfl rfl rfl rfl ?_
            | refine ep_call0 rfl (by first | exact e1 | exact e2) rfl rfl ?_
            | refine sp_call rfl rfl rfl rfl (by first | exact e1 | exact e2) ⟨rfl, rfl, rfl, rfl⟩ rfl rfl rfl ?_
            | refine ep_bin rfl rfl (by first | exact b_add (by omega) (by omega) | exact b_sub (by omega) (by omega) | exact b_and (by omega) (by omega) | exact b_or (by omega) (by omega) | exact b_shr (by omega) | exact b_shl (by omega) (by omega) | exact b_lss | exact b_leq | exact b_gtr | exact b_geq | exact b_eql | exact b_neq) ?_
            | refine ep_pickT rfl rfl ?_ | refine ep_pickF rfl rfl ?_ | refine ep_pickTH rfl (by assumption) rfl ?_ | refine ep_pickFH rfl (by assumption) rfl ?_ | refine ep_not rfl ?_ | refine ep_lenS rfl ?_
            | refine ep_lenN rfl ?_ | refine ep_lenE rfl ?_ | refine sp_box rfl rfl rfl rfl rfl ?_ | refine ep_mkfn rfl ?_)
          | (refine g_ops ?_; first | refine eo_none ?_ | refine eo_nil ?_ | refine eo_yes rfl ?_ | refine eo_no rfl ?_ | refine eo_und rfl ?_ | refine eo_yesH rfl (by assumption) ?_ | refine eo_noH rfl (by assumption) ?_)
          | (refine g_code ?_; first | refine ec_seq ?_ | refine ec_region ?_ | refine ec_skip ?_ | refine ec_ret ?_ | refine ec_condT rfl ?_ | refine ec_condF rfl ?_ | refine ec_condTH rfl (by assumption) ?_ | refine ec_condFH rfl (by assumption) ?_)
          | refine ek_seqN ?_ | refine ek_seqR ?_)
        refine sfin (.inr rfl) (by rfl) (by rfl) (by exact ⟨rfl, rfl, rfl⟩) (by rfl) (by rfl) (by rfl) (by first | rfl | (simp; done) | (simp [ints, prs]; done))
    · have g2 : decide (((fs.length : Nat) : Int) > 6) = true := decide_eq_true (by omega)
      have hC : fkC fs z = 2 := by rw [fkC, if_pos h0, if_neg fun h => h5 h.1]
      have hL : fkL fs z = [] := if_neg fun h => h5 h.2.1
      rw [hL, hC]
      refine has42.eev rfl rfl ?_
      unfold m42
      repeat' (first
        | (refine g_op ?_; first
          | refine ep_mov rfl ?_ | refine ep_load1 rfl rfl rfl rfl ?_
          | refine ep_call0 rfl (by first | exact e1 | exact e2) rfl rfl ?_
          | refine sp_call rfl rfl rfl rfl (by first | exact e1 | exact e2) ⟨rfl, rfl, rfl, rfl⟩ rfl rfl rfl ?_
          | refine ep_bin rfl rfl (by first | exact b_add (by omega) (by omega) | exact b_sub (by omega) (by omega) | exact b_and (by omega) (by omega) | exact b_or (by omega) (by omega) | exact b_shr (by omega) | exact b_shl (by omega) (by omega) | exact b_lss | exact b_leq | exact b_gtr | exact b_geq | exact b_eql | exact b_neq) ?_
          | refine ep_pickT rfl rfl ?_ | refine ep_pickF rfl rfl ?_ | refine ep_pickTH rfl (by assumption) rfl ?_ | refine ep_pickFH rfl (by assumption) rfl ?_ | refine ep_not rfl ?_ | refine ep_lenS rfl ?_
          | refine ep_lenN rfl ?_ | refine ep_lenE rfl ?_ | refine sp_box rfl rfl rfl rfl rfl ?_ | refine ep_mkfn rfl ?_)
        | (refine g_ops ?_; first | refine eo_none ?_ | refine eo_nil ?_ | refine eo_yes rfl ?_ | refine eo_no rfl ?_ | refine eo_und rfl ?_ | refine eo_yesH rfl (by assumption) ?_ | refine eo_noH rfl (by assumption) ?_)
        | (refine g_code ?_; first | refine ec_seq ?_ | refine ec_region ?_ | refine ec_skip ?_ | refine ec_ret ?_ | refine ec_condT rfl ?_ | refine ec_condF rfl ?_ | refine ec_condTH rfl (by assumption) ?_ | refine ec_condFH rfl (by assumption) ?_)
        | refine ek_seqN ?_ | refine ek_seqR ?_)
      refine sfin (.inr rfl) (by rfl) (by rfl) (by exact ⟨rfl, rfl, rfl⟩) (by rfl) (by rfl) (by rfl) (by first | rfl | (simp; done) | (simp [ints, prs]; done))
-- spec.FunctionsKeeping
def m40_0 : MC := (.seq (.seq (.region [⟨(.mov (.t 6)), (some 12), none⟩, ⟨(.mov (.t 0)), (some 13), none⟩, ⟨(.len (.t 13)), (some 14), none⟩, ⟨(.bin .lss (.t 12) (.t 14)), (some 15), none⟩] false) (.cond (.t 15) .skip (.exit 0))) (.seq (.block 1 (.seq (.region [⟨(.mov (.t 0)), (some 18), none⟩, ⟨(.mov (.t 6)), (some 19), none⟩, ⟨(.indexAddr 2 (.t 18) (.t 19)), (some 20), none⟩, ⟨(.load (some 2) (.t 20)), (some 21), none⟩, ⟨(.call 56 [(.t 21)]), (some 22), none⟩, ⟨(.un .not (.t 22)), (some 23), none⟩] false) (.cond (.t 23) (.seq (.region [⟨(.mov (.k .nils)), (some 4), none⟩, ⟨(.mov (.k (.int .i64 1))), (some 5), none⟩] false) .ret) .skip))) (.region [⟨(.mov (.t 6)), (some 16), none⟩, ⟨(.bin .add (.t 16) (.k (.int .i64 1))), (some 17), none⟩, ⟨(.mov (.t 17)), (some 6), none⟩] false)))
def m40_2 : MC := (.seq (.seq (.region [⟨(.mov (.t 11)), (some 42), none⟩, ⟨(.mov (.t 0)), (some 43), none⟩, ⟨(.len (.t 43)), (some 44), none⟩, ⟨(.bin .lss (.t 42) (.t 44)), (some 45), none⟩, ⟨(.mov (.t 45)), (some 46), none⟩, ⟨(.mov (.t 10)), (some 47), (some (46, true))⟩, ⟨(.pick (.t 46) (.t 47) (.k (.bool false))), (some 48), none⟩] false) (.cond (.t 48) .skip (.exit 4))) (.seq (.block 5 (.region [⟨(.load (some 2) (.t 9)), (some 51), none⟩, ⟨(.mov (.t 0)), (some 52), none⟩, ⟨(.mov (.t 11)), (some 53), none⟩, ⟨(.indexAddr 2 (.t 52) (.t 53)), (some 54), none⟩, ⟨(.load (some 2) (.t 54)), (some 55), none⟩, ⟨(.call 92 [(.t 51), (.t 55)]), (some 56), none⟩, ⟨(.mov (.t 56)), (some 10), none⟩] true)) (.region [⟨(.mov (.t 11)), (some 49), none⟩, ⟨(.bin .add (.t 49) (.k (.int .i64 1))), (some 50), none⟩, ⟨(.mov (.t 50)), (some 11), none⟩] false)))
def m40_1 : MC := (.seq (.seq (.region [⟨(.mov (.t 8)), (some 33), none⟩, ⟨(.mov (.t 1)), (some 34), none⟩, ⟨(.call 91 [(.t 34)]), (some 35), none⟩, ⟨(.bin .leq (.t 33) (.t 35)), (some 36), none⟩] false) (.cond (.t 36) .skip (.exit 2))) (.seq (.block 3 (.seq (.region [⟨(.mov (.t 1)), (some 39), none⟩, ⟨(.mov (.t 8)), (some 40), none⟩, ⟨(.build [(.int .i64 0), (.int .i64 0)] [(0, (1, (.t 39))), (1, (1, (.t 40)))]), (some 41), none⟩, ⟨(.alloc [(.int .i64 0), (.int .i64 0)]), (some 9), none⟩, ⟨(.store 2 (.t 9) (.t 41)), none, none⟩, ⟨(.mov (.k (.bool true))), (some 10), none⟩] false) (.seq (.seq (.region [⟨(.mov (.k (.int .i64 0))), (some 11), none⟩] false) (.block 4 (.loop m40_2))) (.seq (.region [⟨(.mov (.t 10)), (some 57), none⟩] false) (.cond (.t 57) (.region [⟨(.mov (.t 7)), (some 58), none⟩, ⟨(.load (some 2) (.t 9)), (some 59), none⟩, ⟨(.bslice 2 [(.int .i64 0), (.int .i64 0)] 1 [(0, (2, (.t 59)))]), (some 60), none⟩, ⟨(.append 2 16 (.t 58) (.t 60)), (some 61), none⟩, ⟨(.mov (.t 61)), (some 7), none⟩] false) .skip))))) (.region [⟨(.mov (.t 8)), (some 37), none⟩, ⟨(.bin .add (.t 37) (.k (.int .i64 1))), (some 38), none⟩, ⟨(.mov (.t 38)), (some 8), none⟩] false)))
def m40 : MC := (.seq (.region [⟨(.mov (.k .nils)), (some 4), none⟩, ⟨(.mov (.k (.int .i64 0))), (some 5), none⟩] false) (.seq (.seq (.region [⟨(.mov (.k (.int .i64 0))), (some 6), none⟩] false) (.block 0 (.loop m40_0))) (.seq (.seq (.region [⟨(.mov (.t 0)), (some 24), none⟩, ⟨(.len (.t 24)), (some 25), none⟩, ⟨(.bin .gtr (.t 25) (.k (.int .i64 6))), (some 26), none⟩, ⟨(.mov (.t 26)), (some 27), none⟩, ⟨(.mov (.t 1)), (some 28), (some (27, false))⟩, ⟨(.call 57 [(.t 28), (.k (.int .i64 0)), (.k (.int .i64 3))]), (some 29), (some (27, false))⟩, ⟨(.un .not (.t 29)), (some 30), (some (27, false))⟩, ⟨(.pick (.t 27) (.k (.bool true)) (.t 30)), (some 31), none⟩] false) (.cond (.t 31) (.seq (.region [⟨(.mov (.k .nils)), (some 4), none⟩, ⟨(.mov (.k (.int .i64 2))), (some 5), none⟩] false) .ret) .skip)) (.seq (.region [⟨.empt, (some 32), none⟩, ⟨(.mov (.t 32)), (some 7), none⟩] false) (.seq (.seq (.region [⟨(.mov (.k (.int .i64 0))), (some 8), none⟩] false) (.block 2 (.loop m40_1))) (.seq (.region [⟨(.mov (.t 7)), (some 62), none⟩, ⟨(.mov (.t 62)), (some 4), none⟩, ⟨(.mov (.k (.int .i64 0))), (some 5), none⟩] false) .ret))))))
theorem has40 : Has cx 40 63 m40 [(.tmp 4), (.tmp 5)] :=
  ⟨⟨Try.f40, Try.f40.body.getD .skip, by kernel_rfl, by kernel_rfl, by kernel_rfl, by kernel_rfl, by kernel_rfl, by kernel_rfl⟩⟩
theorem evkR (n b : Nat) (a t : Int) (h : isRel a t = true) (hn : n ≤ 4) (hb : b < 65536) : Ev cx 92 [.agg [.int .i64 n, .int .i64 b], .agg [.int .i64 a, .int .i64 t]] [] (.bool (keepB n b a.toNat t.toNat)) [] := by
  obtain ⟨p, t, rfl, rfl, b1, b2, b3, b4⟩ := isRel_nat h
  exact ev92 n b p t hn hb b2 b4
theorem lpin_fk_e (fs : List (Int × Int)) (n u : Nat) (hln : fs.length ≤ 1048576) (hall : allRelation fs = true) (hn : n ≤ 4) (ht : u < 65536) (o : Out) (ho : (if allF (fun j => allF (fun k => keepB n u (fs.getD k (0, 0)).1.toNat (fs.getD k (0, 0)).2.toNat) 0 j) 0 (fs.length) = true then (⟨.exit 4, [(0, .sl 0 0 fs.length), (1, .int .i64 (n : Nat)), (7, .emp), (8, .int .i64 (u : Nat)), (9, .ptr 1 0), (10, .bool (allF (fun j => keepB n u (fs.getD j (0, 0)).1.toNat (fs.getD j (0, 0)).2.toNat) 0 (fs.length)))], [⟨fns fs, 2, 0, some 0, false⟩, ⟨[.int .i64 n, .int .i64 u], 1, 1, some 0, true⟩]⟩ : Out) else ⟨.exit 4, [(0, .sl 0 0 fs.length), (1, .int .i64 (n : Nat)), (7, .emp), (8, .int .i64 (u : Nat)), (9, .ptr 1 0), (10, .bool false)], [⟨fns fs, 2, 0, some 0, false⟩, ⟨[.int .i64 n, .int .i64 u], 1, 1, some 0, true⟩]⟩) = o) :
    LpS cx 63 1 m40_2 [(0, .sl 0 0 fs.length), (1, .int .i64 (n : Nat)), (7, .emp), (8, .int .i64 (u : Nat)), (9, .ptr 1 0), (10, .bool (allF (fun j => keepB n u (fs.getD j (0, 0)).1.toNat (fs.getD j (0, 0)).2.toNat) 0 (0))), (11, .int .i64 (0 : Nat))] [⟨fns fs, 2, 0, some 0, false⟩, ⟨[.int .i64 n, .int .i64 u], 1, 1, some 0, true⟩] o.x o.e o.h := by
  refine lp_all (fs.length) (fun j => allF (fun k => keepB n u (fs.getD k (0, 0)).1.toNat (fs.getD k (0, 0)).2.toNat) 0 j) (fun i => [(0, .sl 0 0 fs.length), (1, .int .i64 (n : Nat)), (7, .emp), (8, .int .i64 (u : Nat)), (9, .ptr 1 0), (10, .bool (allF (fun j => keepB n u (fs.getD j (0, 0)).1.toNat (fs.getD j (0, 0)).2.toNat) 0 (i))), (11, .int .i64 (i : Nat))]) (fun i => [⟨fns fs, 2, 0, some 0, false⟩, ⟨[.int .i64 n, .int .i64 u], 1, 1, some 0, true⟩]) _ _ ?_ ?_ ?_ (fs.length) 0 o (by omega) ho
  · intro i hi hp
    have hlt : decide ((i : Int) < (fs.length : Nat)) = true := decide_eq_true (by omega)
    have hp' : (allF (fun k => keepB n u (fs.getD k (0, 0)).1.toNat (fs.getD k (0, 0)).2.toNat) 0 i) = true := hp
    have hget := all_get (P := fun j => isRel (fs.getD j (0, 0)).1 (fs.getD j (0, 0)).2) hall hi
    have e1 := evkR n u (fs.getD i (0, 0)).1 (fs.getD i (0, 0)).2 hget hn ht
    have hg := fns_get (l := fs) (j := i) hi
    have hz := allF_s (fun j => keepB n u (fs.getD j (0, 0)).1.toNat (fs.getD j (0, 0)).2.toNat) i
    rw [hz, hp', Bool.true_and]
    unfold m40_2
    repeat' (first
      | refine ep_loadSN rfl rfl rfl hg ?_
      | (refine g_op ?_; first
        | refine ep_mov rfl ?_ | refine sp_loadN rfl rfl rfl rfl rfl ?_
        | refine ep_call0 rfl (by first | exact e1) rfl rfl ?_
        | refine sp_call rfl rfl rfl rfl (by first | exact e1) ⟨rfl, rfl, rfl, rfl⟩ rfl rfl rfl ?_
        | refine ep_bin rfl rfl (by first | exact b_add (by omega) (by omega) | exact b_sub (by omega) (by omega) | exact b_and (by omega) (by omega) | exact b_or (by omega) (by omega) | exact b_shr (by omega) | exact b_shl (by omega) (by omega) | exact b_lss | exact b_leq | exact b_gtr | exact b_geq | exact b_eql | exact b_neq) ?_
        | refine ep_pickT rfl rfl ?_ | refine ep_pickF rfl rfl ?_ | refine ep_pickTH rfl (by assumption) rfl ?_ | refine ep_pickFH rfl (by assumption) rfl ?_ | refine ep_lenS rfl ?_ | refine ep_lenN rfl ?_
        | refine ep_lenE rfl ?_ | refine sp_idx rfl rfl rfl (by omega) rfl ?_ | refine ep_loadSN rfl rfl rfl (by first | exact prs_get (by omega) | exact fns_get (by omega)) ?_)
      | (refine g_ops ?_; first | refine eo_none ?_ | refine eo_nil ?_ | refine eo_yes rfl ?_ | refine eo_no rfl ?_ | refine eo_und rfl ?_ | refine eo_yesH rfl (by assumption) ?_ | refine eo_noH rfl (by assumption) ?_)
      | (refine g_dops ?_; first | refine ed_none ?_ | refine ed_nil ?_ | refine ed_yes rfl ?_ | refine ed_no rfl ?_ | refine ed_und rfl ?_ | refine ed_yesH rfl (by assumption) ?_ | refine ed_noH rfl (by assumption) ?_)
      | refine ed_same rfl ?_ | refine ed_one rfl rfl rfl rfl ?_ | refine ed_two rfl rfl rfl rfl rfl rfl rfl ?_ | refine ed_write rfl rfl ?_
      | (refine g_code ?_; first | refine ec_seq ?_ | refine ec_region ?_ | refine ec_draw ?_ | refine ec_block ?_ | refine ec_skip ?_ | refine ec_exit ?_ | refine ec_condT rfl ?_ | refine ec_condF rfl ?_ | refine ec_condTH rfl (by assumption) ?_ | refine ec_condFH rfl (by assumption) ?_)
      | refine ek_seqN ?_ | refine ek_seqX ?_ | refine ek_blkN ?_ | refine ek_blkR ?_ | refine ek_blkX ?_ | refine ek_blkY rfl ?_)
    exact rnd_on (by rfl) (scmp2 (by rfl) (by rfl) (by exact ⟨rfl, rfl, rfl⟩) (by rfl) (by first | rfl | (simp; done) | (simp [ints, prs]; done)) (by rfl) (by first | rfl | (simp; done) | (simp [ints, prs]; done)))
  · intro i hi hp
    have hlt : decide ((i : Int) < (fs.length : Nat)) = true := decide_eq_true (by omega)
    have hp' : (allF (fun k => keepB n u (fs.getD k (0, 0)).1.toNat (fs.getD k (0, 0)).2.toNat) 0 i) = false := hp
    have hget := all_get (P := fun j => isRel (fs.getD j (0, 0)).1 (fs.getD j (0, 0)).2) hall hi
    have e1 := evkR n u (fs.getD i (0, 0)).1 (fs.getD i (0, 0)).2 hget hn ht
    have hg := fns_get (l := fs) (j := i) hi
    have hz := allF_s (fun j => keepB n u (fs.getD j (0, 0)).1.toNat (fs.getD j (0, 0)).2.toNat) i
    rw [hp']
    unfold m40_2
    repeat' (first
      | refine ep_loadSN rfl rfl rfl hg ?_
      | (refine g_op ?_; first
        | refine ep_mov rfl ?_ | refine sp_loadN rfl rfl rfl rfl rfl ?_
        | refine ep_call0 rfl (by first | exact e1) rfl rfl ?_
        | refine sp_call rfl rfl rfl rfl (by first | exact e1) ⟨rfl, rfl, rfl, rfl⟩ rfl rfl rfl ?_
        | refine ep_bin rfl rfl (by first | exact b_add (by omega) (by omega) | exact b_sub (by omega) (by omega) | exact b_and (by omega) (by omega) | exact b_or (by omega) (by omega) | exact b_shr (by omega) | exact b_shl (by omega) (by omega) | exact b_lss | exact b_leq | exact b_gtr | exact b_geq | exact b_eql | exact b_neq) ?_
        | refine ep_pickT rfl rfl ?_ | refine ep_pickF rfl rfl ?_ | refine ep_pickTH rfl (by assumption) rfl ?_ | refine ep_pickFH rfl (by assumption) rfl ?_ | refine ep_lenS rfl ?_ | refine ep_lenN rfl ?_
        | refine ep_lenE rfl ?_ | refine sp_idx rfl rfl rfl (by omega) rfl ?_ | refine ep_loadSN rfl rfl rfl (by first | exact prs_get (by omega) | exact fns_get (by omega)) ?_)
      | (refine g_ops ?_; first | refine eo_none ?_ | refine eo_nil ?_ | refine eo_yes rfl ?_ | refine eo_no rfl ?_ | refine eo_und rfl ?_ | refine eo_yesH rfl (by assumption) ?_ | refine eo_noH rfl (by assumption) ?_)
      | (refine g_dops ?_; first | refine ed_none ?_ | refine ed_nil ?_ | refine ed_yes rfl ?_ | refine ed_no rfl ?_ | refine ed_und rfl ?_ | refine ed_yesH rfl (by assumption) ?_ | refine ed_noH rfl (by assumption) ?_)
      | refine ed_same rfl ?_ | refine ed_one rfl rfl rfl rfl ?_ | refine ed_two rfl rfl rfl rfl rfl rfl rfl ?_ | refine ed_write rfl rfl ?_
      | (refine g_code ?_; first | refine ec_seq ?_ | refine ec_region ?_ | refine ec_draw ?_ | refine ec_block ?_ | refine ec_skip ?_ | refine ec_exit ?_ | refine ec_condT rfl ?_ | refine ec_condF rfl ?_ | refine ec_condTH rfl (by assumption) ?_ | refine ec_condFH rfl (by assumption) ?_)
      | refine ek_seqN ?_ | refine ek_seqX ?_ | refine ek_blkN ?_ | refine ek_blkR ?_ | refine ek_blkX ?_ | refine ek_blkY rfl ?_)
    exact rnd_out (by rfl) (by simp) (scmp2 (by rfl) (by rfl) (by exact ⟨rfl, rfl, rfl⟩) (by rfl) (by first | rfl | (simp; done) | (simp [ints, prs]; done)) (by rfl) (by first | rfl | (simp; done) | (simp [ints, prs]; done)))
  · have hlt : decide (((fs.length : Nat) : Int) < (fs.length : Nat)) = false := decide_eq_false (by omega)
    unfold m40_2
    repeat' (first
      | (refine g_op ?_; first
        | refine ep_mov rfl ?_ | refine sp_loadN rfl rfl rfl rfl rfl ?_
        | refine ep_bin rfl rfl (by first | exact b_add (by omega) (by omega) | exact b_sub (by omega) (by omega) | exact b_and (by omega) (by omega) | exact b_or (by omega) (by omega) | exact b_shr (by omega) | exact b_shl (by omega) (by omega) | exact b_lss | exact b_leq | exact b_gtr | exact b_geq | exact b_eql | exact b_neq) ?_
        | refine ep_pickT rfl rfl ?_ | refine ep_pickF rfl rfl ?_ | refine ep_pickTH rfl (by assumption) rfl ?_ | refine ep_pickFH rfl (by assumption) rfl ?_ | refine ep_lenS rfl ?_ | refine ep_lenN rfl ?_
        | refine ep_lenE rfl ?_ | refine sp_idx rfl rfl rfl (by omega) rfl ?_ | refine ep_loadSN rfl rfl rfl (by first | exact prs_get (by omega) | exact fns_get (by omega)) ?_)
      | (refine g_ops ?_; first | refine eo_none ?_ | refine eo_nil ?_ | refine eo_yes rfl ?_ | refine eo_no rfl ?_ | refine eo_und rfl ?_ | refine eo_yesH rfl (by assumption) ?_ | refine eo_noH rfl (by assumption) ?_)
      | (refine g_dops ?_; first | refine ed_none ?_ | refine ed_nil ?_ | refine ed_yes rfl ?_ | refine ed_no rfl ?_ | refine ed_und rfl ?_ | refine ed_yesH rfl (by assumption) ?_ | refine ed_noH rfl (by assumption) ?_)
      | refine ed_same rfl ?_ | refine ed_one rfl rfl rfl rfl ?_ | refine ed_two rfl rfl rfl rfl rfl rfl rfl ?_ | refine ed_write rfl rfl ?_
      | (refine g_code ?_; first | refine ec_seq ?_ | refine ec_region ?_ | refine ec_draw ?_ | refine ec_block ?_ | refine ec_skip ?_ | refine ec_exit ?_ | refine ec_condT rfl ?_ | refine ec_condF rfl ?_ | refine ec_condTH rfl (by assumption) ?_ | refine ec_condFH rfl (by assumption) ?_)
      | refine ek_seqN ?_ | refine ek_seqX ?_ | refine ek_blkN ?_ | refine ek_blkR ?_ | refine ek_blkX ?_ | refine ek_blkY rfl ?_)
    exact rnd_out (by rfl) (by simp) (scmp2 (by rfl) (by rfl) (by exact ⟨rfl, rfl, rfl⟩) (by rfl) (by first | rfl | (simp; done) | (simp [ints, prs]; done)) (by rfl) (by first | rfl | (simp; done) | (simp [ints, prs]; done)))

theorem lpin_fk_c (fs : List (Int × Int)) (n u : Nat) (hln : fs.length ≤ 1048576) (hall : allRelation fs = true) (hn : n ≤ 4) (ht : u < 65536) (x : Nat) (xs : List Nat) (o : Out) (ho : (if allF (fun j => allF (fun k => keepB n u (fs.getD k (0, 0)).1.toNat (fs.getD k (0, 0)).2.toNat) 0 j) 0 (fs.length) = true then (⟨.exit 4, [(0, .sl 0 0 fs.length), (1, .int .i64 (n : Nat)), (7, .sl 1 0 (x :: xs).length), (8, .int .i64 (u : Nat)), (9, .ptr 2 0), (10, .bool (allF (fun j => keepB n u (fs.getD j (0, 0)).1.toNat (fs.getD j (0, 0)).2.toNat) 0 (fs.length)))], [⟨fns fs, 2, 0, some 0, false⟩, ⟨prs n (x :: xs), 2, 1, some 0, false⟩, ⟨[.int .i64 n, .int .i64 u], 1, 2, some 0, true⟩]⟩ : Out) else ⟨.exit 4, [(0, .sl 0 0 fs.length), (1, .int .i64 (n : Nat)), (7, .sl 1 0 (x :: xs).length), (8, .int .i64 (u : Nat)), (9, .ptr 2 0), (10, .bool false)], [⟨fns fs, 2, 0, some 0, false⟩, ⟨prs n (x :: xs), 2, 1, some 0, false⟩, ⟨[.int .i64 n, .int .i64 u], 1, 2, some 0, true⟩]⟩) = o) :
    LpS cx 63 1 m40_2 [(0, .sl 0 0 fs.length), (1, .int .i64 (n : Nat)), (7, .sl 1 0 (x :: xs).length), (8, .int .i64 (u : Nat)), (9, .ptr 2 0), (10, .bool (allF (fun j => keepB n u (fs.getD j (0, 0)).1.toNat (fs.getD j (0, 0)).2.toNat) 0 (0))), (11, .int .i64 (0 : Nat))] [⟨fns fs, 2, 0, some 0, false⟩, ⟨prs n (x :: xs), 2, 1, some 0, false⟩, ⟨[.int .i64 n, .int .i64 u], 1, 2, some 0, true⟩] o.x o.e o.h := by
  refine lp_all (fs.length) (fun j => allF (fun k => keepB n u (fs.getD k (0, 0)).1.toNat (fs.getD k (0, 0)).2.toNat) 0 j) (fun i => [(0, .sl 0 0 fs.length), (1, .int .i64 (n : Nat)), (7, .sl 1 0 (x :: xs).length), (8, .int .i64 (u : Nat)), (9, .ptr 2 0), (10, .bool (allF (fun j => keepB n u (fs.getD j (0, 0)).1.toNat (fs.getD j (0, 0)).2.toNat) 0 (i))), (11, .int .i64 (i : Nat))]) (fun i => [⟨fns fs, 2, 0, some 0, false⟩, ⟨prs n (x :: xs), 2, 1, some 0, false⟩, ⟨[.int .i64 n, .int .i64 u], 1, 2, some 0, true⟩]) _ _ ?_ ?_ ?_ (fs.length) 0 o (by omega) ho
  · intro i hi hp
    have hlt : decide ((i : Int) < (fs.length : Nat)) = true := decide_eq_true (by omega)
    have hp' : (allF (fun k => keepB n u (fs.getD k (0, 0)).1.toNat (fs.getD k (0, 0)).2.toNat) 0 i) = true := hp
    have hget := all_get (P := fun j => isRel (fs.getD j (0, 0)).1 (fs.getD j (0, 0)).2) hall hi
    have e1 := evkR n u (fs.getD i (0, 0)).1 (fs.getD i (0, 0)).2 hget hn ht
    have hg := fns_get (l := fs) (j := i) hi
    have hz := allF_s (fun j => keepB n u (fs.getD j (0, 0)).1.toNat (fs.getD j (0, 0)).2.toNat) i
    rw [hz, hp', Bool.true_and]
    unfold m40_2
    repeat' (first
      | refine ep_loadSN rfl rfl rfl hg ?_
      | (refine g_op ?_; first
        | refine ep_mov rfl ?_ | refine sp_loadN rfl rfl rfl rfl rfl ?_
        | refine ep_call0 rfl (by first | exact e1) rfl rfl ?_
        | refine sp_call rfl rfl rfl rfl (by first | exact e1) ⟨rfl, rfl, rfl, rfl⟩ rfl rfl rfl ?_
        | refine ep_bin rfl rfl (by first | exact b_add (by omega) (by omega) | exact b_sub (by omega) (by omega) | exact b_and (by omega) (by omega) | exact b_or (by omega) (by omega) | exact b_shr (by omega) | exact b_shl (by omega) (by omega) | exact b_lss | exact b_leq | exact b_gtr | exact b_geq | exact b_eql | exact b_neq) ?_
        | refine ep_pickT rfl rfl ?_ | refine ep_pickF rfl rfl ?_ | refine ep_pickTH rfl (by assumption) rfl ?_ | refine ep_pickFH rfl (by assumption) rfl ?_ | refine ep_lenS rfl ?_ | refine ep_lenN rfl ?_
        | refine ep_lenE rfl ?_ | refine sp_idx rfl rfl rfl (by omega) rfl ?_ | refine ep_loadSN rfl rfl rfl (by first | exact prs_get (by omega) | exact fns_get (by omega)) ?_)
      | (refine g_ops ?_; first | refine eo_none ?_ | refine eo_nil ?_ | refine eo_yes rfl ?_ | refine eo_no rfl ?_ | refine eo_und rfl ?_ | refine eo_yesH rfl (by assumption) ?_ | refine eo_noH rfl (by assumption) ?_)
      | (refine g_dops ?_; first | refine ed_none ?_ | refine ed_nil ?_ | refine ed_yes rfl ?_ | refine ed_no rfl ?_ | refine ed_und rfl ?_ | refine ed_yesH rfl (by assumption) ?_ | refine ed_noH rfl (by assumption) ?_)
      | refine ed_same rfl ?_ | refine ed_one rfl rfl rfl rfl ?_ | refine ed_two rfl rfl rfl rfl rfl rfl rfl ?_ | refine ed_write rfl rfl ?_
      | (refine g_code ?_; first | refine ec_seq ?_ | refine ec_region ?_ | refine ec_draw ?_ | refine ec_block ?_ | refine ec_skip ?_ | refine ec_exit ?_ | refine ec_condT rfl ?_ | refine ec_condF rfl ?_ | refine ec_condTH rfl (by assumption) ?_ | refine ec_condFH rfl (by assumption) ?_)
      | refine ek_seqN ?_ | refine ek_seqX ?_ | refine ek_blkN ?_ | refine ek_blkR ?_ | refine ek_blkX ?_ | refine ek_blkY rfl ?_)
    exact rnd_on (by rfl) (scmp2 (by rfl) (by rfl) (by exact ⟨rfl, rfl, rfl⟩) (by rfl) (by first | rfl | (simp; done) | (simp [ints, prs]; done)) (by rfl) (by first | rfl | (simp; done) | (simp [ints, prs]; done)))
  · intro i hi hp
    have hlt : decide ((i : Int) < (fs.length : Nat)) = true := decide_eq_true (by omega)
    have hp' : (allF (fun k => keepB n u (fs.getD k (0, 0)).1.toNat (fs.getD k (0, 0)).2.toNat) 0 i) = false := hp
    have hget := all_get (P := fun j => isRel (fs.getD j (0, 0)).1 (fs.getD j (0, 0)).2) hall hi
    have e1 := evkR n u (fs.getD i (0, 0)).1 (fs.getD i (0, 0)).2 hget hn ht
    have hg := fns_get (l := fs) (j := i) hi
    have hz := allF_s (fun j => keepB n u (fs.getD j (0, 0)).1.toNat (fs.getD j (0, 0)).2.toNat) i
    rw [hp']
    unfold m40_2
    repeat' (first
      | refine ep_loadSN rfl rfl rfl hg ?_
      | (refine g_op ?_; first
        | refine ep_mov rfl ?_ | refine sp_loadN rfl rfl rfl rfl rfl ?_
        | refine ep_call0 rfl (by first | exact e1) rfl rfl ?_
        | refine sp_call rfl rfl rfl rfl (by first | exact e1) ⟨rfl, rfl, rfl, rfl⟩ rfl rfl rfl ?_
        | refine ep_bin rfl rfl (by first | exact b_add (by omega) (by omega) | exact b_sub (by omega) (by omega) | exact b_and (by omega) (by omega) | exact b_or (by omega) (by omega) | exact b_shr (by omega) | exact b_shl (by omega) (by omega) | exact b_lss | exact b_leq | exact b_gtr | exact b_geq | exact b_eql | exact b_neq) ?_
        | refine ep_pickT rfl rfl ?_ | refine ep_pickF rfl rfl ?_ | refine ep_pickTH rfl (by assumption) rfl ?_ | refine ep_pickFH rfl (by assumption) rfl ?_ | refine ep_lenS rfl ?_ | refine ep_lenN rfl ?_
        | refine ep_lenE rfl ?_ | refine sp_idx rfl rfl rfl (by omega) rfl ?_ | refine ep_loadSN rfl rfl rfl (by first | exact prs_get (by omega) | exact fns_get (by omega)) ?_)
      | (refine g_ops ?_; first | refine eo_none ?_ | refine eo_nil ?_ | refine eo_yes rfl ?_ | refine eo_no rfl ?_ | refine eo_und rfl ?_ | refine eo_yesH rfl (by assumption) ?_ | refine eo_noH rfl (by assumption) ?_)
      | (refine g_dops ?_; first | refine ed_none ?_ | refine ed_nil ?_ | refine ed_yes rfl ?_ | refine ed_no rfl ?_ | refine ed_und rfl ?_ | refine ed_yesH rfl (by assumption) ?_ | refine ed_noH rfl (by assumption) ?_)
      | refine ed_same rfl ?_ | refine ed_one rfl rfl rfl rfl ?_ | refine ed_two rfl rfl rfl rfl rfl rfl rfl ?_ | refine ed_write rfl rfl ?_
      | (refine g_code ?_; first | refine ec_seq ?_ | refine ec_region ?_ | refine ec_draw ?_ | refine ec_block ?_ | refine ec_skip ?_ | refine ec_exit ?_ | refine ec_condT rfl ?_ | refine ec_condF rfl ?_ | refine ec_condTH rfl (by assumption) ?_ | refine ec_condFH rfl (by assumption) ?_)
      | refine ek_seqN ?_ | refine ek_seqX ?_ | refine ek_blkN ?_ | refine ek_blkR ?_ | refine ek_blkX ?_ | refine ek_blkY rfl ?_)
    exact rnd_out (by rfl) (by simp) (scmp2 (by rfl) (by rfl) (by exact ⟨rfl, rfl, rfl⟩) (by rfl) (by first | rfl | (simp; done) | (simp [ints, prs]; done)) (by rfl) (by first | rfl | (simp; done) | (simp [ints, prs]; done)))
  · have hlt : decide (((fs.length : Nat) : Int) < (fs.length : Nat)) = false := decide_eq_false (by omega)
    unfold m40_2
    repeat' (first
      | (refine g_op ?_; first
        | refine ep_mov rfl ?_ | refine sp_loadN rfl rfl rfl rfl rfl ?_
        | refine ep_bin rfl rfl (by first | exact b_add (by omega) (by omega) | exact b_sub (by omega) (by omega) | exact b_and (by omega) (by omega) | exact b_or (by omega) (by omega) | exact b_shr (by omega) | exact b_shl (by omega) (by omega) | exact b_lss | exact b_leq | exact b_gtr | exact b_geq | exact b_eql | exact b_neq) ?_
        | refine ep_pickT rfl rfl ?_ | refine ep_pickF rfl rfl ?_ | refine ep_pickTH rfl (by assumption) rfl ?_ | refine ep_pickFH rfl (by assumption) rfl ?_ | refine ep_lenS rfl ?_ | refine ep_lenN rfl ?_
        | refine ep_lenE rfl ?_ | refine sp_idx rfl rfl rfl (by omega) rfl ?_ | refine ep_loadSN rfl rfl rfl (by first | exact prs_get (by omega) | exact fns_get (by omega)) ?_)
      | (refine g_ops ?_; first | refine eo_none ?_ | refine eo_nil ?_ | refine eo_yes rfl ?_ | refine eo_no rfl ?_ | refine eo_und rfl ?_ | refine eo_yesH rfl (by assumption) ?_ | refine eo_noH rfl (by assumption) ?_)
      | (refine g_dops ?_; first | refine ed_none ?_ | refine ed_nil ?_ | refine ed_yes rfl ?_ | refine ed_no rfl ?_ | refine ed_und rfl ?_ | refine ed_yesH rfl (by assumption) ?_ | refine ed_noH rfl (by assumption) ?_)
      | refine ed_same rfl ?_ | refine ed_one rfl rfl rfl rfl ?_ | refine ed_two rfl rfl rfl rfl rfl rfl rfl ?_ | refine ed_write rfl rfl ?_
      | (refine g_code ?_; first | refine ec_seq ?_ | refine ec_region ?_ | refine ec_draw ?_ | refine ec_block ?_ | refine ec_skip ?_ | refine ec_exit ?_ | refine ec_condT rfl ?_ | refine ec_condF rfl ?_ | refine ec_condTH rfl (by assumption) ?_ | refine ec_condFH rfl (by assumption) ?_)
      | refine ek_seqN ?_ | refine ek_seqX ?_ | refine ek_blkN ?_ | refine ek_blkR ?_ | refine ek_blkX ?_ | refine ek_blkY rfl ?_)
    exact rnd_out (by rfl) (by simp) (scmp2 (by rfl) (by rfl) (by exact ⟨rfl, rfl, rfl⟩) (by rfl) (by first | rfl | (simp; done) | (simp [ints, prs]; done)) (by rfl) (by first | rfl | (simp; done) | (simp [ints, prs]; done)))

theorem lp40_1 (fs : List (Int × Int)) (n : Nat) (hln : fs.length ≤ 1048576) (hall : allRelation fs = true) (hn3 : n ≤ 3) (o : Out) (ho : (match selm (kAR fs n) (idn) (R2 (R2 n)) with | [] => (⟨.exit 2, [(7, .emp)], [⟨fns fs, 2, 0, some 0, false⟩]⟩ : Out) | x :: xs => ⟨.exit 2, [(7, .sl 1 0 (x :: xs).length)], [⟨fns fs, 2, 0, some 0, false⟩, ⟨prs n (x :: xs), 2, 1, some 0, false⟩]⟩) = o) :
    LpS cx 63 1 m40_1 [(0, .sl 0 0 fs.length), (1, .int .i64 (n : Nat)), (7, .emp), (8, .int .i64 (0 : Nat))] [⟨fns fs, 2, 0, some 0, false⟩] o.x o.e o.h := by
  have hn : n ≤ 4 := by omega
  obtain ⟨h1, h2, h3, h4⟩ := shN hn
  subst ho
  refine lp_st (R2 (R2 n)) (selm (kAR fs n) (idn)) (fun i s => match s with | [] => [(0, .sl 0 0 fs.length), (1, .int .i64 (n : Nat)), (7, .emp), (8, .int .i64 (i : Nat))] | x :: xs => [(0, .sl 0 0 fs.length), (1, .int .i64 (n : Nat)), (7, .sl 1 0 (x :: xs).length), (8, .int .i64 (i : Nat))]) (fun i s => match s with | [] => [⟨fns fs, 2, 0, some 0, false⟩] | x :: xs => [⟨fns fs, 2, 0, some 0, false⟩, ⟨prs n (x :: xs), 2, 1, some 0, false⟩]) (fun s => match s with | [] => ⟨.exit 2, [(7, .emp)], [⟨fns fs, 2, 0, some 0, false⟩]⟩ | x :: xs => ⟨.exit 2, [(7, .sl 1 0 (x :: xs).length)], [⟨fns fs, 2, 0, some 0, false⟩, ⟨prs n (x :: xs), 2, 1, some 0, false⟩]⟩) ?_ ?_ (R2 (R2 n)) 0 (by omega)
  · intro i s hi hs
    have hlt : decide ((i : Int) < (R2 (R2 n) : Nat)) = true := decide_eq_true (by omega)
    have hle : decide ((i : Int) ≤ (R2 (R2 n) : Nat) - 1) = true := decide_eq_true (by omega)
    have hlen : s.length ≤ 65536 := by have := selm_len (kAR fs n) (idn) i; rw [hs] at this; omega
    cases hp : (kAR fs n) i with
    | true =>
      have hp' : ((kAR fs n) i) = true := hp
      have lpe := lpin_fk_e fs n i hln hall hn (by omega) _ (ite_pre (P := fun j => keepB n i (fs.getD j (0, 0)).1.toNat (fs.getD j (0, 0)).2.toNat) (n := fs.length) (fun b => (⟨.exit 4, [(0, .sl 0 0 fs.length), (1, .int .i64 (n : Nat)), (7, .emp), (8, .int .i64 (i : Nat)), (9, .ptr 1 0), (10, .bool b)], [⟨fns fs, 2, 0, some 0, false⟩, ⟨[.int .i64 n, .int .i64 i], 1, 1, some 0, true⟩]⟩ : Out)))
      have lpc := fun (x : Nat) (xs : List Nat) => lpin_fk_c fs n i hln hall hn (by omega) x xs _ (ite_pre (P := fun j => keepB n i (fs.getD j (0, 0)).1.toNat (fs.getD j (0, 0)).2.toNat) (n := fs.length) (fun b => (⟨.exit 4, [(0, .sl 0 0 fs.length), (1, .int .i64 (n : Nat)), (7, .sl 1 0 (x :: xs).length), (8, .int .i64 (i : Nat)), (9, .ptr 2 0), (10, .bool b)], [⟨fns fs, 2, 0, some 0, false⟩, ⟨prs n (x :: xs), 2, 1, some 0, false⟩, ⟨[.int .i64 n, .int .i64 i], 1, 2, some 0, true⟩]⟩ : Out)))
      have hq : allF (fun j => keepB n i (fs.getD j (0, 0)).1.toNat (fs.getD j (0, 0)).2.toNat) 0 fs.length = true := hp'
      simp only [allF_z, hq] at lpe lpc
      cases s with
      | nil =>
        refine ⟨[(idn) i], by rw [selm_t (p := kAR fs n) hp, hs]; try rfl, ?_⟩
        unfold m40_1
        repeat' (first
          | refine sc_loop lpe rfl rfl ⟨rfl, rfl, rfl⟩ rfl rfl rfl ?_
          | refine sc_loop (lpc _ _) rfl rfl ⟨rfl, rfl, rfl⟩ rfl rfl rfl ?_
          | (refine g_op ?_; first
            | refine ep_mov rfl ?_ | refine sp_loadN rfl rfl rfl rfl rfl ?_
            | refine ep_call0 rfl (by first | exact ev91 _ hn) rfl rfl ?_
            | refine sp_call rfl rfl rfl rfl (by first | exact ev91 _ hn) ⟨rfl, rfl, rfl, rfl⟩ rfl rfl rfl ?_
            | refine ep_bin rfl rfl (by first | exact b_add (by omega) (by omega) | exact b_sub (by omega) (by omega) | exact b_and (by omega) (by omega) | exact b_or (by omega) (by omega) | exact b_shr (by omega) | exact b_shl (by omega) (by omega) | exact b_lss | exact b_leq | exact b_gtr | exact b_geq | exact b_eql | exact b_neq) ?_
            | refine sp_store rfl rfl rfl rfl rfl rfl rfl rfl rfl rfl ?_ | refine sp_alloc rfl rfl ?_ | refine sp_build rfl rfl ?_ | refine sp_bslice rfl rfl rfl rfl rfl ?_ | refine sp_push0 rfl (by first | exact .inl rfl | exact .inr rfl) rfl rfl rfl rfl rfl (by decide) rfl rfl rfl ?_
            | refine sp_push rfl rfl rfl rfl rfl rfl rfl (by first | exact ints_len _ | exact prs_len _ _ | exact zints_len _) (by omega) (Nat.zero_le _) rfl rfl rfl rfl rfl ?_)
          | (refine g_ops ?_; first | refine eo_none ?_ | refine eo_nil ?_)
          | (refine g_code ?_; first | refine ec_seq ?_ | refine ec_region ?_ | refine ec_block ?_ | refine ec_skip ?_ | refine ec_exit ?_ | refine ec_condT rfl ?_ | refine ec_condF rfl ?_ | refine ec_condTH rfl (by assumption) ?_ | refine ec_condFH rfl (by assumption) ?_)
          | refine ek_seqN ?_ | refine ek_seqX ?_ | refine ek_seqR ?_ | refine ek_blkN ?_ | refine ek_blkR ?_ | refine ek_blkX ?_ | refine ek_blkY rfl ?_)
        exact rnd_on (by rfl) (scmp2 (by rfl) (by rfl) (by exact ⟨rfl, rfl, rfl⟩) (by rfl) (by first | rfl | (simp; done) | (simp [ints, prs]; done)) (by rfl) (by first | rfl | (simp; done) | (simp [ints, prs]; done)))
      | cons x xs =>
        refine ⟨(x :: xs) ++ [(idn) i], by rw [selm_t (p := kAR fs n) hp, hs]; try rfl, ?_⟩
        unfold m40_1
        repeat' (first
          | refine sc_loop lpe rfl rfl ⟨rfl, rfl, rfl⟩ rfl rfl rfl ?_
          | refine sc_loop (lpc _ _) rfl rfl ⟨rfl, rfl, rfl⟩ rfl rfl rfl ?_
          | (refine g_op ?_; first
            | refine ep_mov rfl ?_ | refine sp_loadN rfl rfl rfl rfl rfl ?_
            | refine ep_call0 rfl (by first | exact ev91 _ hn) rfl rfl ?_
            | refine sp_call rfl rfl rfl rfl (by first | exact ev91 _ hn) ⟨rfl, rfl, rfl, rfl⟩ rfl rfl rfl ?_
            | refine ep_bin rfl rfl (by first | exact b_add (by omega) (by omega) | exact b_sub (by omega) (by omega) | exact b_and (by omega) (by omega) | exact b_or (by omega) (by omega) | exact b_shr (by omega) | exact b_shl (by omega) (by omega) | exact b_lss | exact b_leq | exact b_gtr | exact b_geq | exact b_eql | exact b_neq) ?_
            | refine sp_store rfl rfl rfl rfl rfl rfl rfl rfl rfl rfl ?_ | refine sp_alloc rfl rfl ?_ | refine sp_build rfl rfl ?_ | refine sp_bslice rfl rfl rfl rfl rfl ?_ | refine sp_push0 rfl (by first | exact .inl rfl | exact .inr rfl) rfl rfl rfl rfl rfl (by decide) rfl rfl rfl ?_
            | refine sp_push rfl rfl rfl rfl rfl rfl rfl (by first | exact ints_len _ | exact prs_len _ _ | exact zints_len _) (by omega) (Nat.zero_le _) rfl rfl rfl rfl rfl ?_)
          | (refine g_ops ?_; first | refine eo_none ?_ | refine eo_nil ?_)
          | (refine g_code ?_; first | refine ec_seq ?_ | refine ec_region ?_ | refine ec_block ?_ | refine ec_skip ?_ | refine ec_exit ?_ | refine ec_condT rfl ?_ | refine ec_condF rfl ?_ | refine ec_condTH rfl (by assumption) ?_ | refine ec_condFH rfl (by assumption) ?_)
          | refine ek_seqN ?_ | refine ek_seqX ?_ | refine ek_seqR ?_ | refine ek_blkN ?_ | refine ek_blkR ?_ | refine ek_blkX ?_ | refine ek_blkY rfl ?_)
        exact rnd_on (by rfl) (scmp2 (by rfl) (by rfl) (by exact ⟨rfl, rfl, rfl⟩) (by rfl) (by first | rfl | (simp; done) | (simp [ints, prs]; done)) (by rfl) (by first | rfl | (simp; done) | (simp [ints, prs]; done)))
    | false =>
      have hp' : ((kAR fs n) i) = false := hp
      have lpe := lpin_fk_e fs n i hln hall hn (by omega) _ (ite_pre (P := fun j => keepB n i (fs.getD j (0, 0)).1.toNat (fs.getD j (0, 0)).2.toNat) (n := fs.length) (fun b => (⟨.exit 4, [(0, .sl 0 0 fs.length), (1, .int .i64 (n : Nat)), (7, .emp), (8, .int .i64 (i : Nat)), (9, .ptr 1 0), (10, .bool b)], [⟨fns fs, 2, 0, some 0, false⟩, ⟨[.int .i64 n, .int .i64 i], 1, 1, some 0, true⟩]⟩ : Out)))
      have lpc := fun (x : Nat) (xs : List Nat) => lpin_fk_c fs n i hln hall hn (by omega) x xs _ (ite_pre (P := fun j => keepB n i (fs.getD j (0, 0)).1.toNat (fs.getD j (0, 0)).2.toNat) (n := fs.length) (fun b => (⟨.exit 4, [(0, .sl 0 0 fs.length), (1, .int .i64 (n : Nat)), (7, .sl 1 0 (x :: xs).length), (8, .int .i64 (i : Nat)), (9, .ptr 2 0), (10, .bool b)], [⟨fns fs, 2, 0, some 0, false⟩, ⟨prs n (x :: xs), 2, 1, some 0, false⟩, ⟨[.int .i64 n, .int .i64 i], 1, 2, some 0, true⟩]⟩ : Out)))
      have hq : allF (fun j => keepB n i (fs.getD j (0, 0)).1.toNat (fs.getD j (0, 0)).2.toNat) 0 fs.length = false := hp'
      simp only [allF_z, hq] at lpe lpc
      cases s with
      | nil =>
        refine ⟨[], by rw [selm_f (p := kAR fs n) hp, hs]; try rfl, ?_⟩
        unfold m40_1
        repeat' (first
          | refine sc_loop lpe rfl rfl ⟨rfl, rfl, rfl⟩ rfl rfl rfl ?_
          | refine sc_loop (lpc _ _) rfl rfl ⟨rfl, rfl, rfl⟩ rfl rfl rfl ?_
          | (refine g_op ?_; first
            | refine ep_mov rfl ?_ | refine sp_loadN rfl rfl rfl rfl rfl ?_
            | refine ep_call0 rfl (by first | exact ev91 _ hn) rfl rfl ?_
            | refine sp_call rfl rfl rfl rfl (by first | exact ev91 _ hn) ⟨rfl, rfl, rfl, rfl⟩ rfl rfl rfl ?_
            | refine ep_bin rfl rfl (by first | exact b_add (by omega) (by omega) | exact b_sub (by omega) (by omega) | exact b_and (by omega) (by omega) | exact b_or (by omega) (by omega) | exact b_shr (by omega) | exact b_shl (by omega) (by omega) | exact b_lss | exact b_leq | exact b_gtr | exact b_geq | exact b_eql | exact b_neq) ?_
            | refine sp_store rfl rfl rfl rfl rfl rfl rfl rfl rfl rfl ?_ | refine sp_alloc rfl rfl ?_ | refine sp_build rfl rfl ?_ | refine sp_bslice rfl rfl rfl rfl rfl ?_ | refine sp_push0 rfl (by first | exact .inl rfl | exact .inr rfl) rfl rfl rfl rfl rfl (by decide) rfl rfl rfl ?_
            | refine sp_push rfl rfl rfl rfl rfl rfl rfl (by first | exact ints_len _ | exact prs_len _ _ | exact zints_len _) (by omega) (Nat.zero_le _) rfl rfl rfl rfl rfl ?_)
          | (refine g_ops ?_; first | refine eo_none ?_ | refine eo_nil ?_)
          | (refine g_code ?_; first | refine ec_seq ?_ | refine ec_region ?_ | refine ec_block ?_ | refine ec_skip ?_ | refine ec_exit ?_ | refine ec_condT rfl ?_ | refine ec_condF rfl ?_ | refine ec_condTH rfl (by assumption) ?_ | refine ec_condFH rfl (by assumption) ?_)
          | refine ek_seqN ?_ | refine ek_seqX ?_ | refine ek_seqR ?_ | refine ek_blkN ?_ | refine ek_blkR ?_ | refine ek_blkX ?_ | refine ek_blkY rfl ?_)
        exact rnd_on (by rfl) (scmp2 (by rfl) (by rfl) (by exact ⟨rfl, rfl, rfl⟩) (by rfl) (by first | rfl | (simp; done) | (simp [ints, prs]; done)) (by rfl) (by first | rfl | (simp; done) | (simp [ints, prs]; done)))
      | cons x xs =>
        refine ⟨x :: xs, by rw [selm_f (p := kAR fs n) hp, hs]; try rfl, ?_⟩
        unfold m40_1
        repeat' (first
          | refine sc_loop lpe rfl rfl ⟨rfl, rfl, rfl⟩ rfl rfl rfl ?_
          | refine sc_loop (lpc _ _) rfl rfl ⟨rfl, rfl, rfl⟩ rfl rfl rfl ?_
          | (refine g_op ?_; first
            | refine ep_mov rfl ?_ | refine sp_loadN rfl rfl rfl rfl rfl ?_
            | refine ep_call0 rfl (by first | exact ev91 _ hn) rfl rfl ?_
            | refine sp_call rfl rfl rfl rfl (by first | exact ev91 _ hn) ⟨rfl, rfl, rfl, rfl⟩ rfl rfl rfl ?_
            | refine ep_bin rfl rfl (by first | exact b_add (by omega) (by omega) | exact b_sub (by omega) (by omega) | exact b_and (by omega) (by omega) | exact b_or (by omega) (by omega) | exact b_shr (by omega) | exact b_shl (by omega) (by omega) | exact b_lss | exact b_leq | exact b_gtr | exact b_geq | exact b_eql | exact b_neq) ?_
            | refine sp_store rfl rfl rfl rfl rfl rfl rfl rfl rfl rfl ?_ | refine sp_alloc rfl rfl ?_ | refine sp_build rfl rfl ?_ | refine sp_bslice rfl rfl rfl rfl rfl ?_ | refine sp_push0 rfl (by first | exact .inl rfl | exact .inr rfl) rfl rfl rfl rfl rfl (by decide) rfl rfl rfl ?_
            | refine sp_push rfl rfl rfl rfl rfl rfl rfl (by first | exact ints_len _ | exact prs_len _ _ | exact zints_len _) (by omega) (Nat.zero_le _) rfl rfl rfl rfl rfl ?_)
          | (refine g_ops ?_; first | refine eo_none ?_ | refine eo_nil ?_)
          | (refine g_code ?_; first | refine ec_seq ?_ | refine ec_region ?_ | refine ec_block ?_ | refine ec_skip ?_ | refine ec_exit ?_ | refine ec_condT rfl ?_ | refine ec_condF rfl ?_ | refine ec_condTH rfl (by assumption) ?_ | refine ec_condFH rfl (by assumption) ?_)
          | refine ek_seqN ?_ | refine ek_seqX ?_ | refine ek_seqR ?_ | refine ek_blkN ?_ | refine ek_blkR ?_ | refine ek_blkX ?_ | refine ek_blkY rfl ?_)
        exact rnd_on (by rfl) (scmp2 (by rfl) (by rfl) (by exact ⟨rfl, rfl, rfl⟩) (by rfl) (by first | rfl | (simp; done) | (simp [ints, prs]; done)) (by rfl) (by first | rfl | (simp; done) | (simp [ints, prs]; done)))
  · intro s hs
    have hlt : decide (((R2 (R2 n) : Nat) : Int) < (R2 (R2 n) : Nat)) = false := decide_eq_false (by omega)
    have hle : decide (((R2 (R2 n) : Nat) : Int) ≤ (R2 (R2 n) : Nat) - 1) = false := decide_eq_false (by omega)
    cases s with
    | nil =>
      unfold m40_1
      repeat' (first
        | (refine g_op ?_; first
          | refine ep_mov rfl ?_ | refine sp_loadN rfl rfl rfl rfl rfl ?_
          | refine ep_call0 rfl (by first | exact ev91 _ hn) rfl rfl ?_
          | refine sp_call rfl rfl rfl rfl (by first | exact ev91 _ hn) ⟨rfl, rfl, rfl, rfl⟩ rfl rfl rfl ?_
          | refine ep_bin rfl rfl (by first | exact b_add (by omega) (by omega) | exact b_sub (by omega) (by omega) | exact b_and (by omega) (by omega) | exact b_or (by omega) (by omega) | exact b_shr (by omega) | exact b_shl (by omega) (by omega) | exact b_lss | exact b_leq | exact b_gtr | exact b_geq | exact b_eql | exact b_neq) ?_
          | refine sp_store rfl rfl rfl rfl rfl rfl rfl rfl rfl rfl ?_ | refine sp_alloc rfl rfl ?_ | refine sp_build rfl rfl ?_ | refine sp_bslice rfl rfl rfl rfl rfl ?_ | refine sp_push0 rfl (by first | exact .inl rfl | exact .inr rfl) rfl rfl rfl rfl rfl (by decide) rfl rfl rfl ?_
          | refine sp_push rfl rfl rfl rfl rfl rfl rfl (by first | exact ints_len _ | exact prs_len _ _ | exact zints_len _) (by omega) (Nat.zero_le _) rfl rfl rfl rfl rfl ?_)
        | (refine g_ops ?_; first | refine eo_none ?_ | refine eo_nil ?_)
        | (refine g_code ?_; first | refine ec_seq ?_ | refine ec_region ?_ | refine ec_block ?_ | refine ec_skip ?_ | refine ec_exit ?_ | refine ec_condT rfl ?_ | refine ec_condF rfl ?_ | refine ec_condTH rfl (by assumption) ?_ | refine ec_condFH rfl (by assumption) ?_)
        | refine ek_seqN ?_ | refine ek_seqX ?_ | refine ek_seqR ?_ | refine ek_blkN ?_ | refine ek_blkR ?_ | refine ek_blkX ?_ | refine ek_blkY rfl ?_)
      exact rnd_out (by rfl) (by simp) (scmp2 (by rfl) (by rfl) (by exact ⟨rfl, rfl, rfl⟩) (by rfl) (by first | rfl | (simp; done) | (simp [ints, prs]; done)) (by rfl) (by first | rfl | (simp; done) | (simp [ints, prs]; done)))
    | cons x xs =>
      unfold m40_1
      repeat' (first
        | (refine g_op ?_; first
          | refine ep_mov rfl ?_ | refine sp_loadN rfl rfl rfl rfl rfl ?_
          | refine ep_call0 rfl (by first | exact ev91 _ hn) rfl rfl ?_
          | refine sp_call rfl rfl rfl rfl (by first | exact ev91 _ hn) ⟨rfl, rfl, rfl, rfl⟩ rfl rfl rfl ?_
          | refine ep_bin rfl rfl (by first | exact b_add (by omega) (by omega) | exact b_sub (by omega) (by omega) | exact b_and (by omega) (by omega) | exact b_or (by omega) (by omega) | exact b_shr (by omega) | exact b_shl (by omega) (by omega) | exact b_lss | exact b_leq | exact b_gtr | exact b_geq | exact b_eql | exact b_neq) ?_
          | refine sp_store rfl rfl rfl rfl rfl rfl rfl rfl rfl rfl ?_ | refine sp_alloc rfl rfl ?_ | refine sp_build rfl rfl ?_ | refine sp_bslice rfl rfl rfl rfl rfl ?_ | refine sp_push0 rfl (by first | exact .inl rfl | exact .inr rfl) rfl rfl rfl rfl rfl (by decide) rfl rfl rfl ?_
          | refine sp_push rfl rfl rfl rfl rfl rfl rfl (by first | exact ints_len _ | exact prs_len _ _ | exact zints_len _) (by omega) (Nat.zero_le _) rfl rfl rfl rfl rfl ?_)
        | (refine g_ops ?_; first | refine eo_none ?_ | refine eo_nil ?_)
        | (refine g_code ?_; first | refine ec_seq ?_ | refine ec_region ?_ | refine ec_block ?_ | refine ec_skip ?_ | refine ec_exit ?_ | refine ec_condT rfl ?_ | refine ec_condF rfl ?_ | refine ec_condTH rfl (by assumption) ?_ | refine ec_condFH rfl (by assumption) ?_)
        | refine ek_seqN ?_ | refine ek_seqX ?_ | refine ek_seqR ?_ | refine ek_blkN ?_ | refine ek_blkR ?_ | refine ek_blkX ?_ | refine ek_blkY rfl ?_)
      exact rnd_out (by rfl) (by simp) (scmp2 (by rfl) (by rfl) (by exact ⟨rfl, rfl, rfl⟩) (by rfl) (by first | rfl | (simp; done) | (simp [ints, prs]; done)) (by rfl) (by first | rfl | (simp; done) | (simp [ints, prs]; done)))

theorem lp40_0 (fs : List (Int × Int)) (z : Int) (hln : fs.length ≤ 1048576) (o : Out) (ho : (if allF (fun j => isRel (fs.getD j (0, 0)).1 (fs.getD j (0, 0)).2) 0 (fs.length) = true then (⟨.exit 0, [(0, .sl 0 0 fs.length), (1, .int .i64 z)], [⟨fns fs, 2, 0, some 0, false⟩]⟩ : Out) else ⟨.ret, [(4, .nils), (5, .int .i64 1)], [⟨fns fs, 2, 0, some 0, false⟩]⟩) = o) :
    LpS cx 63 1 m40_0 [(0, .sl 0 0 fs.length), (1, .int .i64 z), (6, .int .i64 (0 : Nat))] [⟨fns fs, 2, 0, some 0, false⟩] o.x o.e o.h := by
  refine lp_all (fs.length) (fun j => isRel (fs.getD j (0, 0)).1 (fs.getD j (0, 0)).2) (fun i => [(0, .sl 0 0 fs.length), (1, .int .i64 z), (6, .int .i64 (i : Nat))]) (fun i => [⟨fns fs, 2, 0, some 0, false⟩]) _ _ ?_ ?_ ?_ (fs.length) 0 o (by omega) ho
  · intro i hi hp
    have hlt : decide ((i : Int) < (fs.length : Nat)) = true := decide_eq_true (by omega)
    have hp' : (isRel (fs.getD i (0, 0)).1 (fs.getD i (0, 0)).2) = true := hp
    have e1 := ev56 (fs.getD i (0, 0)).1 (fs.getD i (0, 0)).2
    rw [show isRel (fs.getD i (0, 0)).1 (fs.getD i (0, 0)).2 = _ from hp] at e1
    have hg := fns_get (l := fs) (j := i) hi
    unfold m40_0
    repeat' (first
      | refine ep_loadSN rfl rfl rfl hg ?_
      | (refine g_op ?_; first
        | refine ep_mov rfl ?_ | refine sp_loadN rfl rfl rfl rfl rfl ?_
        | refine ep_call0 rfl (by first | exact e1) rfl rfl ?_
        | refine sp_call rfl rfl rfl rfl (by first | exact e1) ⟨rfl, rfl, rfl, rfl⟩ rfl rfl rfl ?_
        | refine ep_bin rfl rfl (by first | exact b_add (by omega) (by omega) | exact b_sub (by omega) (by omega) | exact b_and (by omega) (by omega) | exact b_or (by omega) (by omega) | exact b_shr (by omega) | exact b_shl (by omega) (by omega) | exact b_lss | exact b_leq | exact b_gtr | exact b_geq | exact b_eql | exact b_neq) ?_
        | refine ep_not rfl ?_ | refine ep_lenS rfl ?_ | refine ep_lenN rfl ?_ | refine ep_lenE rfl ?_ | refine sp_idx rfl rfl rfl (by omega) rfl ?_ | refine ep_loadSN rfl rfl rfl (by first | exact prs_get (by omega) | exact fns_get (by omega)) ?_)
      | (refine g_ops ?_; first | refine eo_none ?_ | refine eo_nil ?_)
      | (refine g_code ?_; first | refine ec_seq ?_ | refine ec_region ?_ | refine ec_block ?_ | refine ec_skip ?_ | refine ec_exit ?_ | refine ec_ret ?_ | refine ec_condT rfl ?_ | refine ec_condF rfl ?_ | refine ec_condTH rfl (by assumption) ?_ | refine ec_condFH rfl (by assumption) ?_)
      | refine ek_seqN ?_ | refine ek_seqX ?_ | refine ek_seqR ?_ | refine ek_blkN ?_ | refine ek_blkR ?_ | refine ek_blkX ?_ | refine ek_blkY rfl ?_)
    exact rnd_on (by rfl) (scmp2 (by rfl) (by rfl) (by exact ⟨rfl, rfl, rfl⟩) (by rfl) (by first | rfl | (simp; done) | (simp [ints, prs]; done)) (by rfl) (by first | rfl | (simp; done) | (simp [ints, prs]; done)))
  · intro i hi hp
    have hlt : decide ((i : Int) < (fs.length : Nat)) = true := decide_eq_true (by omega)
    have hp' : (isRel (fs.getD i (0, 0)).1 (fs.getD i (0, 0)).2) = false := hp
    have e1 := ev56 (fs.getD i (0, 0)).1 (fs.getD i (0, 0)).2
    rw [show isRel (fs.getD i (0, 0)).1 (fs.getD i (0, 0)).2 = _ from hp] at e1
    have hg := fns_get (l := fs) (j := i) hi
    unfold m40_0
    repeat' (first
      | refine ep_loadSN rfl rfl rfl hg ?_
      | (refine g_op ?_; first
        | refine ep_mov rfl ?_ | refine sp_loadN rfl rfl rfl rfl rfl ?_
        | refine ep_call0 rfl (by first | exact e1) rfl rfl ?_
        | refine sp_call rfl rfl rfl rfl (by first | exact e1) ⟨rfl, rfl, rfl, rfl⟩ rfl rfl rfl ?_
        | refine ep_bin rfl rfl (by first | exact b_add (by omega) (by omega) | exact b_sub (by omega) (by omega) | exact b_and (by omega) (by omega) | exact b_or (by omega) (by omega) | exact b_shr (by omega) | exact b_shl (by omega) (by omega) | exact b_lss | exact b_leq | exact b_gtr | exact b_geq | exact b_eql | exact b_neq) ?_
        | refine ep_not rfl ?_ | refine ep_lenS rfl ?_ | refine ep_lenN rfl ?_ | refine ep_lenE rfl ?_ | refine sp_idx rfl rfl rfl (by omega) rfl ?_ | refine ep_loadSN rfl rfl rfl (by first | exact prs_get (by omega) | exact fns_get (by omega)) ?_)
      | (refine g_ops ?_; first | refine eo_none ?_ | refine eo_nil ?_)
      | (refine g_code ?_; first | refine ec_seq ?_ | refine ec_region ?_ | refine ec_block ?_ | refine ec_skip ?_ | refine ec_exit ?_ | refine ec_ret ?_ | refine ec_condT rfl ?_ | refine ec_condF rfl ?_ | refine ec_condTH rfl (by assumption) ?_ | refine ec_condFH rfl (by assumption) ?_)
      | refine ek_seqN ?_ | refine ek_seqX ?_ | refine ek_seqR ?_ | refine ek_blkN ?_ | refine ek_blkR ?_ | refine ek_blkX ?_ | refine ek_blkY rfl ?_)
    exact rnd_out (by rfl) (by simp) (scmp2 (by rfl) (by rfl) (by exact ⟨rfl, rfl, rfl⟩) (by rfl) (by first | rfl | (simp; done) | (simp [ints, prs]; done)) (by rfl) (by first | rfl | (simp; done) | (simp [ints, prs]; done)))
  · have hlt : decide (((fs.length : Nat) : Int) < (fs.length : Nat)) = false := decide_eq_false (by omega)
    unfold m40_0
    repeat' (first
      | (refine g_op ?_; first
        | refine ep_mov rfl ?_ | refine sp_loadN rfl rfl rfl rfl rfl ?_
        | refine ep_bin rfl rfl (by first | exact b_add (by omega) (by omega) | exact b_sub (by omega) (by omega) | exact b_and (by omega) (by omega) | exact b_or (by omega) (by omega) | exact b_shr (by omega) | exact b_shl (by omega) (by omega) | exact b_lss | exact b_leq | exact b_gtr | exact b_geq | exact b_eql | exact b_neq) ?_
        | refine ep_not rfl ?_ | refine ep_lenS rfl ?_ | refine ep_lenN rfl ?_ | refine ep_lenE rfl ?_ | refine sp_idx rfl rfl rfl (by omega) rfl ?_ | refine ep_loadSN rfl rfl rfl (by first | exact prs_get (by omega) | exact fns_get (by omega)) ?_)
      | (refine g_ops ?_; first | refine eo_none ?_ | refine eo_nil ?_)
      | (refine g_code ?_; first | refine ec_seq ?_ | refine ec_region ?_ | refine ec_block ?_ | refine ec_skip ?_ | refine ec_exit ?_ | refine ec_ret ?_ | refine ec_condT rfl ?_ | refine ec_condF rfl ?_ | refine ec_condTH rfl (by assumption) ?_ | refine ec_condFH rfl (by assumption) ?_)
      | refine ek_seqN ?_ | refine ek_seqX ?_ | refine ek_seqR ?_ | refine ek_blkN ?_ | refine ek_blkR ?_ | refine ek_blkX ?_ | refine ek_blkY rfl ?_)
    exact rnd_out (by rfl) (by simp) (scmp2 (by rfl) (by rfl) (by exact ⟨rfl, rfl, rfl⟩) (by rfl) (by first | rfl | (simp; done) | (simp [ints, prs]; done)) (by rfl) (by first | rfl | (simp; done) | (simp [ints, prs]; done)))

theorem ev40 (fs : List (Int × Int)) (z : Int) (hln : fs.length ≤ 1048576) : Ev cx 40 [.sl 0 0 fs.length, .int .i64 z] [⟨fns fs, 2, 0, some 0, false⟩] (.tup [slV (if fkC fs z = 0 then .emp else .nils) 1 (fkL fs z), .int .i64 (fkC fs z)]) (⟨fns fs, 2, 0, some 0, false⟩ :: slH 1 2 (prs z.toNat) (fkL fs z)) := by
  have e2 := ev57 z 0 3
  cases h0 : allRelation fs
  · skip
    have lp0 := lp40_0 fs z hln _ (if_neg (by rw [show allF (fun j => isRel (fs.getD j (0, 0)).1 (fs.getD j (0, 0)).2) 0 fs.length = _ from h0]; simp))
    have hC : fkC fs z = 1 := by rw [fkC, if_neg (by rw [h0]; simp)]
    have hL : fkL fs z = [] := if_neg fun h => by rw [h0] at h; simp at h
    rw [hL, hC]
    refine has40.eev rfl rfl ?_
    unfold m40
    repeat' (first
      | refine sc_loop lp0 rfl rfl ⟨rfl, rfl, rfl⟩ rfl rfl rfl ?_
      | (refine g_op ?_; first
        | refine ep_mov rfl ?_
        | refine ep_call0 rfl (by first | exact e2) rfl rfl ?_
        | refine sp_call rfl rfl rfl rfl (by first | exact e2) ⟨rfl, rfl, rfl, rfl⟩ rfl rfl rfl ?_
        | refine ep_bin rfl rfl (by first | exact b_add (by omega) (by omega) | exact b_sub (by omega) (by omega) | exact b_and (by omega) (by omega) | exact b_or (by omega) (by omega) | exact b_shr (by omega) | exact b_shl (by omega) (by omega) | exact b_lss | exact b_leq | exact b_gtr | exact b_geq | exact b_eql | exact b_neq) ?_
        | refine ep_pickT rfl rfl ?_ | refine ep_pickF rfl rfl ?_ | refine ep_pickTH rfl (by assumption) rfl ?_ | refine ep_pickFH rfl (by assumption) rfl ?_ | refine ep_not rfl ?_ | refine ep_lenS rfl ?_
        | refine ep_lenN rfl ?_ | refine ep_lenE rfl ?_ | refine ep_empt ?_)
      | (refine g_ops ?_; first | refine eo_none ?_ | refine eo_nil ?_ | refine eo_yes rfl ?_ | refine eo_no rfl ?_ | refine eo_und rfl ?_ | refine eo_yesH rfl (by assumption) ?_ | refine eo_noH rfl (by assumption) ?_)
      | (refine g_code ?_; first | refine ec_seq ?_ | refine ec_region ?_ | refine ec_block ?_ | refine ec_skip ?_ | refine ec_ret ?_ | refine ec_condT rfl ?_ | refine ec_condF rfl ?_ | refine ec_condTH rfl (by assumption) ?_ | refine ec_condFH rfl (by assumption) ?_)
      | refine ek_seqN ?_ | refine ek_seqX ?_ | refine ek_seqR ?_ | refine ek_blkN ?_ | refine ek_blkR ?_ | refine ek_blkX ?_ | refine ek_blkY rfl ?_)
    refine sfin (.inr rfl) (by rfl) (by rfl) (by exact ⟨rfl, rfl, rfl⟩) (by rfl) (by rfl) (by rfl) (by first | rfl | (simp; done) | (simp [ints, prs]; done))
  · skip
    have lp0 := lp40_0 fs z hln _ (if_pos h0)
    by_cases h5 : fs.length ≤ 6
    · have g2 : decide (((fs.length : Nat) : Int) > 6) = false := decide_eq_false (by omega)
      by_cases h1 : 0 ≤ z ∧ z ≤ 3
      · rw [decide_eq_true h1] at e2
        obtain ⟨n, rfl⟩ := Int.eq_ofNat_of_zero_le h1.1
        have hn : n ≤ 4 := by omega
        have hC : fkC fs (n : Nat) = 0 := by rw [fkC, if_pos h0, if_pos ⟨h5, h1⟩]
        have hL : fkL fs (n : Nat) = selm (kAR fs n) idn (R2 (R2 n)) := if_pos ⟨h0, h5, h1⟩
        rw [hL, hC, Int.toNat_natCast]
        skip
        cases hs : selm (kAR fs n) idn (R2 (R2 n)) with
        | nil =>
          have lp := lp40_1 fs n hln h0 (by omega) _ (by rw [hs])
          refine has40.eev rfl rfl ?_
          unfold m40
          repeat' (first
            | refine sc_loop lp0 rfl rfl ⟨rfl, rfl, rfl⟩ rfl rfl rfl ?_
            | refine sc_loop lp rfl rfl ⟨rfl, rfl, rfl⟩ rfl rfl rfl ?_
            | (refine g_op ?_; first
              | refine ep_mov rfl ?_
              | refine ep_call0 rfl (by first | exact e2 | exact ev91 _ hn) rfl rfl ?_
              | refine sp_call rfl rfl rfl rfl (by first | exact e2 | exact ev91 _ hn) ⟨rfl, rfl, rfl, rfl⟩ rfl rfl rfl ?_
              | refine ep_bin rfl rfl (by first | exact b_add (by omega) (by omega) | exact b_sub (by omega) (by omega) | exact b_and (by omega) (by omega) | exact b_or (by omega) (by omega) | exact b_shr (by omega) | exact b_shl (by omega) (by omega) | exact b_lss | exact b_leq | exact b_gtr | exact b_geq | exact b_eql | exact b_neq) ?_
              | refine ep_pickT rfl rfl ?_ | refine ep_pickF rfl rfl ?_ | refine ep_pickTH rfl (by assumption) rfl ?_ | refine ep_pickFH rfl (by assumption) rfl ?_ | refine ep_not rfl ?_ | refine ep_lenS rfl ?_
              | refine ep_lenN rfl ?_ | refine ep_lenE rfl ?_ | refine ep_empt ?_)
            | (refine g_ops ?_; first | refine eo_none ?_ | refine eo_nil ?_ | refine eo_yes rfl ?_ | refine eo_no rfl ?_ | refine eo_und rfl ?_ | refine eo_yesH rfl (by assumption) ?_ | refine eo_noH rfl (by assumption) ?_)
            | (refine g_code ?_; first | refine ec_seq ?_ | refine ec_region ?_ | refine ec_block ?_ | refine ec_skip ?_ | refine ec_ret ?_ | refine ec_condT rfl ?_ | refine ec_condF rfl ?_ | refine ec_condTH rfl (by assumption) ?_ | refine ec_condFH rfl (by assumption) ?_)
            | refine ek_seqN ?_ | refine ek_seqX ?_ | refine ek_seqR ?_ | refine ek_blkN ?_ | refine ek_blkR ?_ | refine ek_blkX ?_ | refine ek_blkY rfl ?_)
          refine sfin (.inr rfl) (by rfl) (by rfl) (by exact ⟨rfl, rfl, rfl⟩) (by rfl) (by rfl) (by rfl) (by first | rfl | (simp; done) | (simp [ints, prs]; done))
        | cons x xs =>
          have lp := lp40_1 fs n hln h0 (by omega) _ (by rw [hs])
          refine has40.eev rfl rfl ?_
          unfold m40
          repeat' (first
            | refine sc_loop lp0 rfl rfl ⟨rfl, rfl, rfl⟩ rfl rfl rfl ?_
            | refine sc_loop lp rfl rfl ⟨rfl, rfl, rfl⟩ rfl rfl rfl ?_
            | (refine g_op ?_; first
              | refine ep_mov rfl ?_
              | refine ep_call0 rfl (by first | exact e2 | exact ev91 _ hn) rfl rfl ?_
              | refine sp_call rfl rfl rfl rfl (by first | exact e2 | exact ev91 _ hn) ⟨rfl, rfl, rfl, rfl⟩ rfl rfl rfl ?_
              | refine ep_bin rfl rfl (by first | exact b_add (by omega) (by omega) | exact b_sub (by omega) (by omega) | exact b_and (by omega) (by omega) | exact b_or (by omega) (by omega) | exact b_shr (by omega) | exact b_shl (by omega) (by omega) | exact b_lss | exact b_leq | exact b_gtr | exact b_geq | exact b_eql | exact b_neq) ?_
              | refine ep_pickT rfl rfl ?_ | refine ep_pickF rfl rfl ?_ | refine ep_pickTH rfl (by assumption) rfl ?_ | refine ep_pickFH rfl (by assumption) rfl ?_ | refine ep_not rfl ?_ | refine ep_lenS rfl ?_
              | refine ep_lenN rfl ?_ | refine ep_lenE rfl ?_ | refine ep_empt ?_)
            | (refine g_ops ?_; first | refine eo_none ?_ | refine eo_nil ?_ | refine eo_yes rfl ?_ | refine eo_no rfl ?_ | refine eo_und rfl ?_ | refine eo_yesH rfl (by assumption) ?_ | refine eo_noH rfl (by assumption) ?_)
            | (refine g_code ?_; first | refine ec_seq ?_ | refine ec_region ?_ | refine ec_block ?_ | refine ec_skip ?_ | refine ec_ret ?_ | refine ec_condT rfl ?_ | refine ec_condF rfl ?_ | refine ec_condTH rfl (by assumption) ?_ | refine ec_condFH rfl (by assumption) ?_)
            | refine ek_seqN ?_ | refine ek_seqX ?_ | refine ek_seqR ?_ | refine ek_blkN ?_ | refine ek_blkR ?_ | refine ek_blkX ?_ | refine ek_blkY rfl ?_)
          refine sfin (.inr rfl) (by rfl) (by rfl) (by exact ⟨rfl, rfl, rfl⟩) (by rfl) (by rfl) (by rfl) (by first | rfl | (simp; done) | (simp [ints, prs]; done))
      · rw [decide_eq_false h1] at e2
        have hC : fkC fs z = 2 := by rw [fkC, if_pos h0, if_neg fun h => h1 h.2]
        have hL : fkL fs z = [] := if_neg fun h => h1 h.2.2
        rw [hL, hC]
        refine has40.eev rfl rfl ?_
        unfold m40
        repeat' (first
          | refine sc_loop lp0 rfl rfl ⟨rfl, rfl, rfl⟩ rfl rfl rfl ?_
          | (refine g_op ?_; first
            | refine ep_mov rfl ?_
            | refine ep_call0 rfl (by first | exact e2) rfl rfl ?_
            | refine sp_call rfl rfl rfl rfl (by first | exact e2) ⟨rfl, rfl, rfl, rfl⟩ rfl rfl rfl ?_
            | refine ep_bin rfl rfl (by first | exact b_add (by omega) (by omega) | exact b_sub (by omega) (by omega) | exact b_and (by omega) (by omega) | exact b_or (by omega) (by omega) | exact b_shr (by omega) | exact b_shl (by omega) (by omega) | exact b_lss | exact b_leq | exact b_gtr | exact b_geq | exact b_eql | exact b_neq) ?_
            | refine ep_pickT rfl rfl ?_ | refine ep_pickF rfl rfl ?_ | refine ep_pickTH rfl (by assumption) rfl ?_ | refine ep_pickFH rfl (by assumption) rfl ?_ | refine ep_not rfl ?_ | refine ep_lenS rfl ?_
            | refine ep_lenN rfl ?_ | refine ep_lenE rfl ?_ | refine ep_empt ?_)
          | (refine g_ops ?_; first | refine eo_none ?_ | refine eo_nil ?_ | refine eo_yes rfl ?_ | refine eo_no rfl ?_ | refine eo_und rfl ?_ | refine eo_yesH rfl (by assumption) ?_ | refine eo_noH rfl (by assumption) ?_)
          | (refine g_code ?_; first | refine ec_seq ?_ | refine ec_region ?_ | refine ec_block ?_ | refine ec_skip ?_ | refine ec_ret ?_ | refine ec_condT rfl ?_ | refine ec_condF rfl ?_ | refine ec_condTH rfl (by assumption) ?_ | refine ec_condFH rfl (by assumption) ?_)
          | refine ek_seqN ?_ | refine ek_seqX ?_ | refine ek_seqR ?_ | refine ek_blkN ?_ | refine ek_blkR ?_ | refine ek_blkX ?_ | refine ek_blkY rfl ?_)
        refine sfin (.inr rfl) (by rfl) (by rfl) (by exact ⟨rfl, rfl, rfl⟩) (by rfl) (by rfl) (by rfl) (by first | rfl | (simp; done) | (simp [ints, prs]; done))
    · have g2 : decide (((fs.length : Nat) : Int) > 6) = true := decide_eq_true (by omega)
      have hC : fkC fs z = 2 := by rw [fkC, if_pos h0, if_neg fun h => h5 h.1]
      have hL : fkL fs z = [] := if_neg fun h => h5 h.2.1
      rw [hL, hC]
      refine has40.eev rfl rfl ?_
      unfold m40
      repeat' (first
        | refine sc_loop lp0 rfl rfl ⟨rfl, rfl, rfl⟩ rfl rfl rfl ?_
        | (refine g_op ?_; first
          | refine ep_mov rfl ?_
          | refine ep_call0 rfl (by first | exact e2) rfl rfl ?_
          | refine sp_call rfl rfl rfl rfl (by first | exact e2) ⟨rfl, rfl, rfl, rfl⟩ rfl rfl rfl ?_
          | refine ep_bin rfl rfl (by first | exact b_add (by omega) (by omega) | exact b_sub (by omega) (by omega) | exact b_and (by omega) (by omega) | exact b_or (by omega) (by omega) | exact b_shr (by omega) | exact b_shl (by omega) (by omega) | exact b_lss | exact b_leq | exact b_gtr | exact b_geq | exact b_eql | exact b_neq) ?_
          | refine ep_pickT rfl rfl ?_ | refine ep_pickF rfl rfl ?_ | refine ep_pickTH rfl (by assumption) rfl ?_ | refine ep_pickFH rfl (by assumption) rfl ?_ | refine ep_not rfl ?_ | refine ep_lenS rfl ?_
          | refine ep_lenN rfl ?_ | refine ep_lenE rfl ?_ | refine ep_empt ?_)
        | (refine g_ops ?_; first | refine eo_none ?_ | refine eo_nil ?_ | refine eo_yes rfl ?_ | refine eo_no rfl ?_ | refine eo_und rfl ?_ | refine eo_yesH rfl (by assumption) ?_ | refine eo_noH rfl (by assumption) ?_)
        | (refine g_code ?_; first | refine ec_seq ?_ | refine ec_region ?_ | refine ec_block ?_ | refine ec_skip ?_ | refine ec_ret ?_ | refine ec_condT rfl ?_ | refine ec_condF rfl ?_ | refine ec_condTH rfl (by assumption) ?_ | refine ec_condFH rfl (by assumption) ?_)
        | refine ek_seqN ?_ | refine ek_seqX ?_ | refine ek_seqR ?_ | refine ek_blkN ?_ | refine ek_blkR ?_ | refine ek_blkX ?_ | refine ek_blkY rfl ?_)
      refine sfin (.inr rfl) (by rfl) (by rfl) (by exact ⟨rfl, rfl, rfl⟩) (by rfl) (by rfl) (by rfl) (by first | rfl | (simp; done) | (simp [ints, prs]; done))
-- laws.FnExactFunctionsKeeping
def m10 : MC := (.seq (.region [⟨(.mov (.k (.bool false))), (some 4), none⟩] false) (.seq (.region [⟨(.mov (.k (.int .i64 1048576))), (some 5), none⟩] false) (.seq (.region [⟨(.mov (.t 0)), (some 16), none⟩, ⟨(.mov (.t 5)), (some 17), none⟩, ⟨(.call 39 [(.t 16), (.t 17)]), (some 18), none⟩, ⟨(.mov (.t 18)), (some 5), none⟩] false) (.seq (.seq (.region [⟨(.mov (.t 5)), (some 19), none⟩, ⟨(.bin .lss (.t 19) (.k (.int .i64 0))), (some 20), none⟩] false) (.cond (.t 20) (.seq (.region [⟨(.mov (.k (.bool true))), (some 4), none⟩] false) .ret) .skip)) (.seq (.region [⟨(.mov (.t 0)), (some 22), none⟩, ⟨(.call 41 [(.t 22)]), (some 23), none⟩, ⟨(.mov (.t 1)), (some 24), none⟩, ⟨(.call 40 [(.t 23), (.t 24)]), (some 25), none⟩, ⟨(.mov (.t 25)), (some 21), none⟩, ⟨(.extract (.t 21) 0), (some 26), none⟩, ⟨(.extract (.t 21) 1), (some 27), none⟩, ⟨(.mov (.t 26)), (some 6), none⟩, ⟨(.mov (.t 27)), (some 7), none⟩] false) (.seq (.region [⟨(.mov (.t 0)), (some 28), none⟩, ⟨(.call 41 [(.t 28)]), (some 29), none⟩, ⟨(.mov (.t 29)), (some 8), none⟩] false) (.seq (.region [⟨(.mov (.t 8)), (some 31), none⟩, ⟨(.mov (.t 1)), (some 32), none⟩, ⟨(.call 42 [(.t 31), (.t 32)]), (some 33), none⟩, ⟨(.mov (.t 33)), (some 30), none⟩, ⟨(.extract (.t 30) 0), (some 34), none⟩, ⟨(.extract (.t 30) 1), (some 35), none⟩, ⟨(.mov (.t 34)), (some 9), none⟩, ⟨(.mov (.t 35)), (some 10), none⟩] false) (.seq (.seq (.region [⟨(.mov (.t 9)), (some 36), none⟩, ⟨(.mov (.t 6)), (some 37), none⟩, ⟨(.call 36 [(.t 36), (.t 37)]), (some 38), none⟩, ⟨(.un .not (.t 38)), (some 39), none⟩, ⟨(.mov (.t 39)), (some 40), none⟩, ⟨(.mov (.t 10)), (some 41), (some (40, false))⟩, ⟨(.mov (.t 7)), (some 42), (some (40, false))⟩, ⟨(.bin .neq (.t 41) (.t 42)), (some 43), (some (40, false))⟩, ⟨(.pick (.t 40) (.k (.bool true)) (.t 43)), (some 44), none⟩] false) (.cond (.t 44) (.seq (.region [⟨(.mov (.k (.bool false))), (some 4), none⟩] false) .ret) .skip)) (.seq (.seq (.region [⟨(.mov (.t 8)), (some 45), none⟩, ⟨(.mov (.t 0)), (some 46), none⟩, ⟨(.call 41 [(.t 46)]), (some 47), none⟩, ⟨(.call 43 [(.t 45), (.t 47)]), (some 48), none⟩, ⟨(.un .not (.t 48)), (some 49), none⟩] false) (.cond (.t 49) (.seq (.region [⟨(.mov (.k (.bool false))), (some 4), none⟩] false) .ret) .skip)) (.seq (.region [⟨(.mov (.k (.int .i64 1))), (some 11), none⟩] false) (.seq (.region [⟨(.mov (.t 8)), (some 50), none⟩, ⟨(.mov (.t 11)), (some 51), none⟩, ⟨(.call 44 [(.t 50), (.t 51)]), (some 52), none⟩, ⟨(.mov (.t 52)), (some 11), none⟩] false) (.seq (.seq (.region [⟨(.mov (.t 11)), (some 53), none⟩, ⟨(.bin .lss (.t 53) (.k (.int .i64 0))), (some 54), none⟩, ⟨(.mov (.t 54)), (some 55), none⟩, ⟨(.mov (.t 9)), (some 56), (some (55, false))⟩, ⟨(.mov (.t 6)), (some 57), (some (55, false))⟩, ⟨(.call 36 [(.t 56), (.t 57)]), (some 58), (some (55, false))⟩, ⟨(.un .not (.t 58)), (some 59), (some (55, false))⟩, ⟨(.pick (.t 55) (.k (.bool true)) (.t 59)), (some 60), none⟩, ⟨(.mov (.t 60)), (some 61), none⟩, ⟨(.mov (.t 10)), (some 62), (some (61, false))⟩, ⟨(.mov (.t 7)), (some 63), (some (61, false))⟩, ⟨(.bin .neq (.t 62) (.t 63)), (some 64), (some (61, false))⟩, ⟨(.pick (.t 61) (.k (.bool true)) (.t 64)), (some 65), none⟩] false) (.cond (.t 65) (.seq (.region [⟨(.mov (.k (.bool false))), (some 4), none⟩] false) .ret) .skip)) (.seq (.region [⟨(.mov (.k (.int .i64 1))), (some 12), none⟩] false) (.seq (.region [⟨(.mov (.t 9)), (some 66), none⟩, ⟨(.mov (.t 12)), (some 67), none⟩, ⟨(.call 45 [(.t 66), (.t 67)]), (some 68), none⟩, ⟨(.mov (.t 68)), (some 12), none⟩] false) (.seq (.region [⟨(.mov (.k (.int .i64 1))), (some 13), none⟩] false) (.seq (.region [⟨(.mov (.t 9)), (some 69), none⟩, ⟨(.mov (.t 13)), (some 70), none⟩, ⟨(.call 46 [(.t 69), (.t 70)]), (some 71), none⟩, ⟨(.mov (.t 71)), (some 13), none⟩] false) (.seq (.seq (.region [⟨(.mov (.t 13)), (some 72), none⟩, ⟨(.bin .lss (.t 72) (.k (.int .i64 0))), (some 73), none⟩] false) (.cond (.t 73) (.seq (.region [⟨(.mov (.k (.bool false))), (some 4), none⟩] false) .ret) .skip)) (.seq (.seq (.region [⟨(.mov (.t 13)), (some 74), none⟩, ⟨(.mov (.t 12)), (some 75), none⟩, ⟨(.bin .neq (.t 74) (.t 75)), (some 76), none⟩] false) (.cond (.t 76) (.seq (.region [⟨(.mov (.k (.bool false))), (some 4), none⟩] false) .ret) .skip)) (.seq (.region [⟨(.mov (.t 0)), (some 78), none⟩, ⟨(.call 41 [(.t 78)]), (some 79), none⟩, ⟨(.mov (.t 1)), (some 80), none⟩, ⟨(.call 42 [(.t 79), (.t 80)]), (some 81), none⟩, ⟨(.mov (.t 81)), (some 77), none⟩, ⟨(.extract (.t 77) 0), (some 82), none⟩, ⟨(.extract (.t 77) 1), (some 83), none⟩, ⟨(.mov (.t 82)), (some 14), none⟩, ⟨(.mov (.t 83)), (some 15), none⟩] false) (.seq (.seq (.region [⟨(.mov (.t 14)), (some 84), none⟩, ⟨(.mov (.t 6)), (some 85), none⟩, ⟨(.call 36 [(.t 84), (.t 85)]), (some 86), none⟩, ⟨(.un .not (.t 86)), (some 87), none⟩, ⟨(.mov (.t 87)), (some 88), none⟩, ⟨(.mov (.t 15)), (some 89), (some (88, false))⟩, ⟨(.mov (.t 7)), (some 90), (some (88, false))⟩, ⟨(.bin .neq (.t 89) (.t 90)), (some 91), (some (88, false))⟩, ⟨(.pick (.t 88) (.k (.bool true)) (.t 91)), (some 92), none⟩] false) (.cond (.t 92) (.seq (.region [⟨(.mov (.k (.bool false))), (some 4), none⟩] false) .ret) .skip)) (.seq (.region [⟨(.mov (.k (.int .i64 1))), (some 13), none⟩] false) (.seq (.region [⟨(.mov (.t 9)), (some 93), none⟩, ⟨(.mov (.t 13)), (some 94), none⟩, ⟨(.call 46 [(.t 93), (.t 94)]), (some 95), none⟩, ⟨(.mov (.t 95)), (some 13), none⟩] false) (.seq (.seq (.region [⟨(.mov (.t 13)), (some 96), none⟩, ⟨(.bin .lss (.t 96) (.k (.int .i64 0))), (some 97), none⟩] false) (.cond (.t 97) (.seq (.region [⟨(.mov (.k (.bool false))), (some 4), none⟩] false) .ret) .skip)) (.seq (.seq (.region [⟨(.mov (.t 13)), (some 98), none⟩, ⟨(.mov (.t 12)), (some 99), none⟩, ⟨(.bin .neq (.t 98) (.t 99)), (some 100), none⟩] false) (.cond (.t 100) (.seq (.region [⟨(.mov (.k (.bool false))), (some 4), none⟩] false) .ret) .skip)) (.seq (.region [⟨(.mov (.k (.bool true))), (some 4), none⟩] false) .ret)))))))))))))))))))))))))
theorem has10 : Has cx 10 101 m10 [(.tmp 4)] :=
  ⟨⟨Try.f10, Try.f10.body.getD .skip, by kernel_rfl, by kernel_rfl, by kernel_rfl, by kernel_rfl, by kernel_rfl, by kernel_rfl⟩⟩
-- ROW ev10: bd0
theorem ev10 (a : V) (z : Int) (h : Heap) (c : List Int) (fa : FA .i64 2 a h c) (hb : c.length ≤ 2 * Go.maxLen) : Ev cx 10 [a, .int .i64 z] h (.bool true) h := by
  have hml : Go.maxLen = 9223372036854775807 := by decide
  cases fa with
  | nil =>
    have s0 := ev39_nils
    have e0 := ev41_nils
    rw [show zints [] = fns [] from rfl] at e0
    have e1 := ev40 [] z (by simp)
    have e2 := ev42 [] z (by simp)
    have h2 : (fkC [] z != fkC [] z) = false := by simp
    have m1 := ev44 0 (fns []) (by omega) rfl
    have q5 : decide (((2 * 0 + 1 : Nat) : Int) < 0) = false := decide_eq_false (by omega)
    have q3 := ev43 0 (fns []) (fns []) (fun j => ([] : List (Int × Int)).getD j (0, 0)) (some 0) (some 0) (by omega) (fun j hj => fns_pair (by simp at hj)) (fun j hj => fns_pair (by simp at hj))
    cases hs : fkL [] z with
    | nil =>
      rw [hs] at e1 e2
      by_cases hc0 : fkC [] z = 0
      · rw [if_pos hc0] at e1
        refine has10.eev rfl rfl ?_
        unfold m10
        repeat' (first
          | (refine g_op ?_; first
            | refine ep_mov rfl ?_
            | refine ep_call0 rfl (by first | exact e0 | exact s0 | exact e1 | exact e2 | exact q3 | exact m1 | exact ev36_nils_emp | exact ev45_nils | exact ev46_nils) rfl rfl ?_
            | refine sp_call rfl rfl rfl rfl (by first | exact e0 | exact s0 | exact e1 | exact e2 | exact q3 | exact m1 | exact ev36_nils_emp | exact ev45_nils | exact ev46_nils) ⟨rfl, rfl, rfl, rfl⟩ rfl rfl rfl ?_
            | refine ep_bin rfl rfl (by first | exact b_add (by omega) (by omega) | exact b_sub (by omega) (by omega) | exact b_and (by omega) (by omega) | exact b_or (by omega) (by omega) | exact b_shr (by omega) | exact b_shl (by omega) (by omega) | exact b_lss | exact b_leq | exact b_gtr | exact b_geq | exact b_eql | exact b_neq) ?_
            | refine ep_pickT rfl rfl ?_ | refine ep_pickF rfl rfl ?_ | refine ep_pickTH rfl (by assumption) rfl ?_ | refine ep_pickFH rfl (by assumption) rfl ?_ | refine ep_extract rfl rfl ?_ | refine ep_not rfl ?_)
          | (refine g_ops ?_; first | refine eo_none ?_ | refine eo_nil ?_ | refine eo_yes rfl ?_ | refine eo_no rfl ?_ | refine eo_und rfl ?_ | refine eo_yesH rfl (by assumption) ?_ | refine eo_noH rfl (by assumption) ?_)
          | (refine g_code ?_; first | refine ec_seq ?_ | refine ec_region ?_ | refine ec_skip ?_ | refine ec_ret ?_ | refine ec_condT rfl ?_ | refine ec_condF rfl ?_ | refine ec_condTH rfl (by assumption) ?_ | refine ec_condFH rfl (by assumption) ?_)
          | refine ek_seqN ?_ | refine ek_seqR ?_)
        refine sfin (.inr rfl) (by rfl) (by rfl) (by exact ⟨rfl, rfl, rfl⟩) (by rfl) (by rfl) (by rfl) (by first | rfl | (simp; done) | (simp [ints, prs]; done))
      · rw [if_neg hc0] at e1
        refine has10.eev rfl rfl ?_
        unfold m10
        repeat' (first
          | (refine g_op ?_; first
            | refine ep_mov rfl ?_
            | refine ep_call0 rfl (by first | exact e0 | exact s0 | exact e1 | exact e2 | exact q3 | exact m1 | exact ev36_nils_nils | exact ev45_nils | exact ev46_nils) rfl rfl ?_
            | refine sp_call rfl rfl rfl rfl (by first | exact e0 | exact s0 | exact e1 | exact e2 | exact q3 | exact m1 | exact ev36_nils_nils | exact ev45_nils | exact ev46_nils) ⟨rfl, rfl, rfl, rfl⟩ rfl rfl rfl ?_
            | refine ep_bin rfl rfl (by first | exact b_add (by omega) (by omega) | exact b_sub (by omega) (by omega) | exact b_and (by omega) (by omega) | exact b_or (by omega) (by omega) | exact b_shr (by omega) | exact b_shl (by omega) (by omega) | exact b_lss | exact b_leq | exact b_gtr | exact b_geq | exact b_eql | exact b_neq) ?_
            | refine ep_pickT rfl rfl ?_ | refine ep_pickF rfl rfl ?_ | refine ep_pickTH rfl (by assumption) rfl ?_ | refine ep_pickFH rfl (by assumption) rfl ?_ | refine ep_extract rfl rfl ?_ | refine ep_not rfl ?_)
          | (refine g_ops ?_; first | refine eo_none ?_ | refine eo_nil ?_ | refine eo_yes rfl ?_ | refine eo_no rfl ?_ | refine eo_und rfl ?_ | refine eo_yesH rfl (by assumption) ?_ | refine eo_noH rfl (by assumption) ?_)
          | (refine g_code ?_; first | refine ec_seq ?_ | refine ec_region ?_ | refine ec_skip ?_ | refine ec_ret ?_ | refine ec_condT rfl ?_ | refine ec_condF rfl ?_ | refine ec_condTH rfl (by assumption) ?_ | refine ec_condFH rfl (by assumption) ?_)
          | refine ek_seqN ?_ | refine ek_seqR ?_)
        refine sfin (.inr rfl) (by rfl) (by rfl) (by exact ⟨rfl, rfl, rfl⟩) (by rfl) (by rfl) (by rfl) (by first | rfl | (simp; done) | (simp [ints, prs]; done))
    | cons x xs =>
      have hlen := fkL_len [] z
      rw [hs] at e1 e2 hlen
      have e3 := ev36 (x :: xs).length (prs z.toNat (x :: xs)) (prs z.toNat (x :: xs)) (fun j => ((z.toNat : Int), (((x :: xs).getD j 0 : Nat) : Int))) (some 0) (some 0) (by omega) (fun j hj => prs_pair hj) (fun j hj => prs_pair hj)
      have e4 := ev45 (x :: xs).length (prs z.toNat (x :: xs)) (by omega) (prs_len _ _)
      have e5 := ev46 (x :: xs).length (prs z.toNat (x :: xs)) (by omega)
      have q1 : decide (((2 * (x :: xs).length + 1 : Nat) : Int) < 0) = false := decide_eq_false (by omega)
      have q2 : (((2 * (x :: xs).length + 1 : Nat) : Int) != (2 * (x :: xs).length + 1 : Nat)) = false := by simp
      refine has10.eev rfl rfl ?_
      unfold m10
      repeat' (first
        | (refine g_op ?_; first
          | refine ep_mov rfl ?_
          | refine ep_call0 rfl (by first | exact e0 | exact s0 | exact e1 | exact e2 | exact q3 | exact m1 | exact e3 | exact e4 | exact e5) rfl rfl ?_
          | refine sp_call rfl rfl rfl rfl (by first | exact e0 | exact s0 | exact e1 | exact e2 | exact q3 | exact m1 | exact e3 | exact e4 | exact e5) ⟨rfl, rfl, rfl, rfl⟩ rfl rfl rfl ?_
          | refine ep_bin rfl rfl (by first | exact b_add (by omega) (by omega) | exact b_sub (by omega) (by omega) | exact b_and (by omega) (by omega) | exact b_or (by omega) (by omega) | exact b_shr (by omega) | exact b_shl (by omega) (by omega) | exact b_lss | exact b_leq | exact b_gtr | exact b_geq | exact b_eql | exact b_neq) ?_
          | refine ep_pickT rfl rfl ?_ | refine ep_pickF rfl rfl ?_ | refine ep_pickTH rfl (by assumption) rfl ?_ | refine ep_pickFH rfl (by assumption) rfl ?_ | refine ep_extract rfl rfl ?_ | refine ep_not rfl ?_)
        | (refine g_ops ?_; first | refine eo_none ?_ | refine eo_nil ?_ | refine eo_yes rfl ?_ | refine eo_no rfl ?_ | refine eo_und rfl ?_ | refine eo_yesH rfl (by assumption) ?_ | refine eo_noH rfl (by assumption) ?_)
        | (refine g_code ?_; first | refine ec_seq ?_ | refine ec_region ?_ | refine ec_skip ?_ | refine ec_ret ?_ | refine ec_condT rfl ?_ | refine ec_condF rfl ?_ | refine ec_condTH rfl (by assumption) ?_ | refine ec_condFH rfl (by assumption) ?_)
        | refine ek_seqN ?_ | refine ek_seqR ?_)
      refine sfin (.inr rfl) (by rfl) (by rfl) (by exact ⟨rfl, rfl, rfl⟩) (by rfl) (by rfl) (by rfl) (by first | rfl | (simp; done) | (simp [ints, prs]; done))
  | emp =>
    have s0 := ev39_emp
    have e0 := ev41_emp
    rw [show zints [] = fns [] from rfl] at e0
    have e1 := ev40 [] z (by simp)
    have e2 := ev42 [] z (by simp)
    have h2 : (fkC [] z != fkC [] z) = false := by simp
    have m1 := ev44 0 (fns []) (by omega) rfl
    have q5 : decide (((2 * 0 + 1 : Nat) : Int) < 0) = false := decide_eq_false (by omega)
    have q3 := ev43 0 (fns []) (fns []) (fun j => ([] : List (Int × Int)).getD j (0, 0)) (some 0) (some 0) (by omega) (fun j hj => fns_pair (by simp at hj)) (fun j hj => fns_pair (by simp at hj))
    cases hs : fkL [] z with
    | nil =>
      rw [hs] at e1 e2
      by_cases hc0 : fkC [] z = 0
      · rw [if_pos hc0] at e1
        refine has10.eev rfl rfl ?_
        unfold m10
        repeat' (first
          | (refine g_op ?_; first
            | refine ep_mov rfl ?_
            | refine ep_call0 rfl (by first | exact e0 | exact s0 | exact e1 | exact e2 | exact q3 | exact m1 | exact ev36_nils_emp | exact ev45_nils | exact ev46_nils) rfl rfl ?_
            | refine sp_call rfl rfl rfl rfl (by first | exact e0 | exact s0 | exact e1 | exact e2 | exact q3 | exact m1 | exact ev36_nils_emp | exact ev45_nils | exact ev46_nils) ⟨rfl, rfl, rfl, rfl⟩ rfl rfl rfl ?_
            | refine ep_bin rfl rfl (by first | exact b_add (by omega) (by omega) | exact b_sub (by omega) (by omega) | exact b_and (by omega) (by omega) | exact b_or (by omega) (by omega) | exact b_shr (by omega) | exact b_shl (by omega) (by omega) | exact b_lss | exact b_leq | exact b_gtr | exact b_geq | exact b_eql | exact b_neq) ?_
            | refine ep_pickT rfl rfl ?_ | refine ep_pickF rfl rfl ?_ | refine ep_pickTH rfl (by assumption) rfl ?_ | refine ep_pickFH rfl (by assumption) rfl ?_ | refine ep_extract rfl rfl ?_ | refine ep_not rfl ?_)
          | (refine g_ops ?_; first | refine eo_none ?_ | refine eo_nil ?_ | refine eo_yes rfl ?_ | refine eo_no rfl ?_ | refine eo_und rfl ?_ | refine eo_yesH rfl (by assumption) ?_ | refine eo_noH rfl (by assumption) ?_)
          | (refine g_code ?_; first | refine ec_seq ?_ | refine ec_region ?_ | refine ec_skip ?_ | refine ec_ret ?_ | refine ec_condT rfl ?_ | refine ec_condF rfl ?_ | refine ec_condTH rfl (by assumption) ?_ | refine ec_condFH rfl (by assumption) ?_)
          | refine ek_seqN ?_ | refine ek_seqR ?_)
        refine sfin (.inr rfl) (by rfl) (by rfl) (by exact ⟨rfl, rfl, rfl⟩) (by rfl) (by rfl) (by rfl) (by first | rfl | (simp; done) | (simp [ints, prs]; done))
      · rw [if_neg hc0] at e1
        refine has10.eev rfl rfl ?_
        unfold m10
        repeat' (first
          | (refine g_op ?_; first
            | refine ep_mov rfl ?_
            | refine ep_call0 rfl (by first | exact e0 | exact s0 | exact e1 | exact e2 | exact q3 | exact m1 | exact ev36_nils_nils | exact ev45_nils | exact ev46_nils) rfl rfl ?_
            | refine sp_call rfl rfl rfl rfl (by first | exact e0 | exact s0 | exact e1 | exact e2 | exact q3 | exact m1 | exact ev36_nils_nils | exact ev45_nils | exact ev46_nils) ⟨rfl, rfl, rfl, rfl⟩ rfl rfl rfl ?_
            | refine ep_bin rfl rfl (by first | exact b_add (by omega) (by omega) | exact b_sub (by omega) (by omega) | exact b_and (by omega) (by omega) | exact b_or (by omega) (by omega) | exact b_shr (by omega) | exact b_shl (by omega) (by omega) | exact b_lss | exact b_leq | exact b_gtr | exact b_geq | exact b_eql | exact b_neq) ?_
            | refine ep_pickT rfl rfl ?_ | refine ep_pickF rfl rfl ?_ | refine ep_pickTH rfl (by assumption) rfl ?_ | refine ep_pickFH rfl (by assumption) rfl ?_ | refine ep_extract rfl rfl ?_ | refine ep_not rfl ?_)
          | (refine g_ops ?_; first | refine eo_none ?_ | refine eo_nil ?_ | refine eo_yes rfl ?_ | refine eo_no rfl ?_ | refine eo_und rfl ?_ | refine eo_yesH rfl (by assumption) ?_ | refine eo_noH rfl (by assumption) ?_)
          | (refine g_code ?_; first | refine ec_seq ?_ | refine ec_region ?_ | refine ec_skip ?_ | refine ec_ret ?_ | refine ec_condT rfl ?_ | refine ec_condF rfl ?_ | refine ec_condTH rfl (by assumption) ?_ | refine ec_condFH rfl (by assumption) ?_)
          | refine ek_seqN ?_ | refine ek_seqR ?_)
        refine sfin (.inr rfl) (by rfl) (by rfl) (by exact ⟨rfl, rfl, rfl⟩) (by rfl) (by rfl) (by rfl) (by first | rfl | (simp; done) | (simp [ints, prs]; done))
    | cons x xs =>
      have hlen := fkL_len [] z
      rw [hs] at e1 e2 hlen
      have e3 := ev36 (x :: xs).length (prs z.toNat (x :: xs)) (prs z.toNat (x :: xs)) (fun j => ((z.toNat : Int), (((x :: xs).getD j 0 : Nat) : Int))) (some 0) (some 0) (by omega) (fun j hj => prs_pair hj) (fun j hj => prs_pair hj)
      have e4 := ev45 (x :: xs).length (prs z.toNat (x :: xs)) (by omega) (prs_len _ _)
      have e5 := ev46 (x :: xs).length (prs z.toNat (x :: xs)) (by omega)
      have q1 : decide (((2 * (x :: xs).length + 1 : Nat) : Int) < 0) = false := decide_eq_false (by omega)
      have q2 : (((2 * (x :: xs).length + 1 : Nat) : Int) != (2 * (x :: xs).length + 1 : Nat)) = false := by simp
      refine has10.eev rfl rfl ?_
      unfold m10
      repeat' (first
        | (refine g_op ?_; first
          | refine ep_mov rfl ?_
          | refine ep_call0 rfl (by first | exact e0 | exact s0 | exact e1 | exact e2 | exact q3 | exact m1 | exact e3 | exact e4 | exact e5) rfl rfl ?_
          | refine sp_call rfl rfl rfl rfl (by first | exact e0 | exact s0 | exact e1 | exact e2 | exact q3 | exact m1 | exact e3 | exact e4 | exact e5) ⟨rfl, rfl, rfl, rfl⟩ rfl rfl rfl ?_
          | refine ep_bin rfl rfl (by first | exact b_add (by omega) (by omega) | exact b_sub (by omega) (by omega) | exact b_and (by omega) (by omega) | exact b_or (by omega) (by omega) | exact b_shr (by omega) | exact b_shl (by omega) (by omega) | exact b_lss | exact b_leq | exact b_gtr | exact b_geq | exact b_eql | exact b_neq) ?_
          | refine ep_pickT rfl rfl ?_ | refine ep_pickF rfl rfl ?_ | refine ep_pickTH rfl (by assumption) rfl ?_ | refine ep_pickFH rfl (by assumption) rfl ?_ | refine ep_extract rfl rfl ?_ | refine ep_not rfl ?_)
        | (refine g_ops ?_; first | refine eo_none ?_ | refine eo_nil ?_ | refine eo_yes rfl ?_ | refine eo_no rfl ?_ | refine eo_und rfl ?_ | refine eo_yesH rfl (by assumption) ?_ | refine eo_noH rfl (by assumption) ?_)
        | (refine g_code ?_; first | refine ec_seq ?_ | refine ec_region ?_ | refine ec_skip ?_ | refine ec_ret ?_ | refine ec_condT rfl ?_ | refine ec_condF rfl ?_ | refine ec_condTH rfl (by assumption) ?_ | refine ec_condFH rfl (by assumption) ?_)
        | refine ek_seqN ?_ | refine ek_seqR ?_)
      refine sfin (.inr rfl) (by rfl) (by rfl) (by exact ⟨rfl, rfl, rfl⟩) (by rfl) (by rfl) (by rfl) (by first | rfl | (simp; done) | (simp [ints, prs]; done))
  | sl o n c hc =>
    have s0 := ev39 o n c (by omega)
    by_cases hn : n ≤ 1048576
    · rw [if_pos hn] at s0
      have g1 : decide ((1048576 - (n : Nat) : Int) < 0) = false := decide_eq_false (by omega)
      have e0 := ev41 o n c hc hn
      rw [prOf_fns n c hc] at e0
      have e1 := ev40 (prOf c n) z (by rw [prOf_len]; exact hn)
      have e2 := ev42 (prOf c n) z (by rw [prOf_len]; exact hn)
      rw [prOf_len] at e1 e2
      have h2 : (fkC (prOf c n) z != fkC (prOf c n) z) = false := by simp
      have m1 := ev44 n (fns (prOf c n)) (by omega) (by rw [fns_len, prOf_len])
      have q5 : decide (((2 * n + 1 : Nat) : Int) < 0) = false := decide_eq_false (by omega)
      have q3 := ev43 n (fns (prOf c n)) (fns (prOf c n)) (fun j => ((prOf c n) : List (Int × Int)).getD j (0, 0)) (some 0) (some 0) (by omega) (fun j hj => fns_pair (by rwa [prOf_len])) (fun j hj => fns_pair (by rwa [prOf_len]))
      cases hs : fkL (prOf c n) z with
      | nil =>
        rw [hs] at e1 e2
        by_cases hc0 : fkC (prOf c n) z = 0
        · rw [if_pos hc0] at e1
          refine has10.eev rfl rfl ?_
          unfold m10
          repeat' (first
            | (refine g_op ?_; first
              | refine ep_mov rfl ?_
              | refine ep_call0 rfl (by first | exact e0 | exact s0 | exact e1 | exact e2 | exact q3 | exact m1 | exact ev36_nils_emp | exact ev45_nils | exact ev46_nils) rfl rfl ?_
              | refine sp_call rfl rfl rfl rfl (by first | exact e0 | exact s0 | exact e1 | exact e2 | exact q3 | exact m1 | exact ev36_nils_emp | exact ev45_nils | exact ev46_nils) ⟨rfl, rfl, rfl, rfl⟩ rfl rfl rfl ?_
              | refine ep_bin rfl rfl (by first | exact b_add (by omega) (by omega) | exact b_sub (by omega) (by omega) | exact b_and (by omega) (by omega) | exact b_or (by omega) (by omega) | exact b_shr (by omega) | exact b_shl (by omega) (by omega) | exact b_lss | exact b_leq | exact b_gtr | exact b_geq | exact b_eql | exact b_neq) ?_
              | refine ep_pickT rfl rfl ?_ | refine ep_pickF rfl rfl ?_ | refine ep_pickTH rfl (by assumption) rfl ?_ | refine ep_pickFH rfl (by assumption) rfl ?_ | refine ep_extract rfl rfl ?_ | refine ep_not rfl ?_)
            | (refine g_ops ?_; first | refine eo_none ?_ | refine eo_nil ?_ | refine eo_yes rfl ?_ | refine eo_no rfl ?_ | refine eo_und rfl ?_ | refine eo_yesH rfl (by assumption) ?_ | refine eo_noH rfl (by assumption) ?_)
            | (refine g_code ?_; first | refine ec_seq ?_ | refine ec_region ?_ | refine ec_skip ?_ | refine ec_ret ?_ | refine ec_condT rfl ?_ | refine ec_condF rfl ?_ | refine ec_condTH rfl (by assumption) ?_ | refine ec_condFH rfl (by assumption) ?_)
            | refine ek_seqN ?_ | refine ek_seqR ?_)
          refine sfin (.inr rfl) (by rfl) (by rfl) (by exact ⟨rfl, rfl, rfl⟩) (by rfl) (by rfl) (by rfl) (by first | rfl | (simp; done) | (simp [ints, prs]; done))
        · rw [if_neg hc0] at e1
          refine has10.eev rfl rfl ?_
          unfold m10
          repeat' (first
            | (refine g_op ?_; first
              | refine ep_mov rfl ?_
              | refine ep_call0 rfl (by first | exact e0 | exact s0 | exact e1 | exact e2 | exact q3 | exact m1 | exact ev36_nils_nils | exact ev45_nils | exact ev46_nils) rfl rfl ?_
              | refine sp_call rfl rfl rfl rfl (by first | exact e0 | exact s0 | exact e1 | exact e2 | exact q3 | exact m1 | exact ev36_nils_nils | exact ev45_nils | exact ev46_nils) ⟨rfl, rfl, rfl, rfl⟩ rfl rfl rfl ?_
              | refine ep_bin rfl rfl (by first | exact b_add (by omega) (by omega) | exact b_sub (by omega) (by omega) | exact b_and (by omega) (by omega) | exact b_or (by omega) (by omega) | exact b_shr (by omega) | exact b_shl (by omega) (by omega) | exact b_lss | exact b_leq | exact b_gtr | exact b_geq | exact b_eql | exact b_neq) ?_
              | refine ep_pickT rfl rfl ?_ | refine ep_pickF rfl rfl ?_ | refine ep_pickTH rfl (by assumption) rfl ?_ | refine ep_pickFH rfl (by assumption) rfl ?_ | refine ep_extract rfl rfl ?_ | refine ep_not rfl ?_)
            | (refine g_ops ?_; first | refine eo_none ?_ | refine eo_nil ?_ | refine eo_yes rfl ?_ | refine eo_no rfl ?_ | refine eo_und rfl ?_ | refine eo_yesH rfl (by assumption) ?_ | refine eo_noH rfl (by assumption) ?_)
            | (refine g_code ?_; first | refine ec_seq ?_ | refine ec_region ?_ | refine ec_skip ?_ | refine ec_ret ?_ | refine ec_condT rfl ?_ | refine ec_condF rfl ?_ | refine ec_condTH rfl (by assumption) ?_ | refine ec_condFH rfl (by assumption) ?_)
            | refine ek_seqN ?_ | refine ek_seqR ?_)
          refine sfin (.inr rfl) (by rfl) (by rfl) (by exact ⟨rfl, rfl, rfl⟩) (by rfl) (by rfl) (by rfl) (by first | rfl | (simp; done) | (simp [ints, prs]; done))
      | cons x xs =>
        have hlen := fkL_len (prOf c n) z
        rw [hs] at e1 e2 hlen
        have e3 := ev36 (x :: xs).length (prs z.toNat (x :: xs)) (prs z.toNat (x :: xs)) (fun j => ((z.toNat : Int), (((x :: xs).getD j 0 : Nat) : Int))) (some 0) (some 0) (by omega) (fun j hj => prs_pair hj) (fun j hj => prs_pair hj)
        have e4 := ev45 (x :: xs).length (prs z.toNat (x :: xs)) (by omega) (prs_len _ _)
        have e5 := ev46 (x :: xs).length (prs z.toNat (x :: xs)) (by omega)
        have q1 : decide (((2 * (x :: xs).length + 1 : Nat) : Int) < 0) = false := decide_eq_false (by omega)
        have q2 : (((2 * (x :: xs).length + 1 : Nat) : Int) != (2 * (x :: xs).length + 1 : Nat)) = false := by simp
        refine has10.eev rfl rfl ?_
        unfold m10
        repeat' (first
          | (refine g_op ?_; first
            | refine ep_mov rfl ?_
            | refine ep_call0 rfl (by first | exact e0 | exact s0 | exact e1 | exact e2 | exact q3 | exact m1 | exact e3 | exact e4 | exact e5) rfl rfl ?_
            | refine sp_call rfl rfl rfl rfl (by first | exact e0 | exact s0 | exact e1 | exact e2 | exact q3 | exact m1 | exact e3 | exact e4 | exact e5) ⟨rfl, rfl, rfl, rfl⟩ rfl rfl rfl ?_
            | refine ep_bin rfl rfl (by first | exact b_add (by omega) (by omega) | exact b_sub (by omega) (by omega) | exact b_and (by omega) (by omega) | exact b_or (by omega) (by omega) | exact b_shr (by omega) | exact b_shl (by omega) (by omega) | exact b_lss | exact b_leq | exact b_gtr | exact b_geq | exact b_eql | exact b_neq) ?_
            | refine ep_pickT rfl rfl ?_ | refine ep_pickF rfl rfl ?_ | refine ep_pickTH rfl (by assumption) rfl ?_ | refine ep_pickFH rfl (by assumption) rfl ?_ | refine ep_extract rfl rfl ?_ | refine ep_not rfl ?_)
          | (refine g_ops ?_; first | refine eo_none ?_ | refine eo_nil ?_ | refine eo_yes rfl ?_ | refine eo_no rfl ?_ | refine eo_und rfl ?_ | refine eo_yesH rfl (by assumption) ?_ | refine eo_noH rfl (by assumption) ?_)
          | (refine g_code ?_; first | refine ec_seq ?_ | refine ec_region ?_ | refine ec_skip ?_ | refine ec_ret ?_ | refine ec_condT rfl ?_ | refine ec_condF rfl ?_ | refine ec_condTH rfl (by assumption) ?_ | refine ec_condFH rfl (by assumption) ?_)
          | refine ek_seqN ?_ | refine ek_seqR ?_)
        refine sfin (.inr rfl) (by rfl) (by rfl) (by exact ⟨rfl, rfl, rfl⟩) (by rfl) (by rfl) (by rfl) (by first | rfl | (simp; done) | (simp [ints, prs]; done))
    · rw [if_neg hn] at s0
      refine has10.eev rfl rfl ?_
      unfold m10
      repeat' (first
        | (refine g_op ?_; first
          | refine ep_mov rfl ?_
          | refine ep_call0 rfl (by first | exact s0) rfl rfl ?_
          | refine sp_call rfl rfl rfl rfl (by first | exact s0) ⟨rfl, rfl, rfl, rfl⟩ rfl rfl rfl ?_
          | refine ep_bin rfl rfl (by first | exact b_add (by omega) (by omega) | exact b_sub (by omega) (by omega) | exact b_and (by omega) (by omega) | exact b_or (by omega) (by omega) | exact b_shr (by omega) | exact b_shl (by omega) (by omega) | exact b_lss | exact b_leq | exact b_gtr | exact b_geq | exact b_eql | exact b_neq) ?_
          | refine ep_pickT rfl rfl ?_ | refine ep_pickF rfl rfl ?_ | refine ep_pickTH rfl (by assumption) rfl ?_ | refine ep_pickFH rfl (by assumption) rfl ?_ | refine ep_extract rfl rfl ?_ | refine ep_not rfl ?_)
        | (refine g_ops ?_; first | refine eo_none ?_ | refine eo_nil ?_ | refine eo_yes rfl ?_ | refine eo_no rfl ?_ | refine eo_und rfl ?_ | refine eo_yesH rfl (by assumption) ?_ | refine eo_noH rfl (by assumption) ?_)
        | (refine g_code ?_; first | refine ec_seq ?_ | refine ec_region ?_ | refine ec_skip ?_ | refine ec_ret ?_ | refine ec_condT rfl ?_ | refine ec_condF rfl ?_ | refine ec_condTH rfl (by assumption) ?_ | refine ec_condFH rfl (by assumption) ?_)
        | refine ek_seqN ?_ | refine ek_seqR ?_)
      refine sfin (.inr rfl) (by rfl) (by rfl) (by exact ⟨rfl, rfl, rfl⟩) (by rfl) (by rfl) (by rfl) (by first | rfl | (simp; done) | (simp [ints, prs]; done))



end Go.Proofs.Ytiidbbbcalepjaa
