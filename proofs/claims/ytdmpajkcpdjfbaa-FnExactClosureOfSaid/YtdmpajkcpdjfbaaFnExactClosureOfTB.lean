/- What each function that the statement reaches returns. -/
import Derived.Test.YtdmpajkcpdjfbaaFnExactClosureOfTA
set_option linter.unusedVariables false
set_option linter.unusedSimpArgs false
set_option maxRecDepth 100000
set_option maxHeartbeats 4000000
namespace Go.Proofs.Ytdmpajkcpdjfbaa
open Go Go.Proofs.Ytdmpajkcpdjfbaa.Mi
attribute [local irreducible] code opsK opsDK gopK opK seqK blockK callK binV
attribute [local irreducible] R2 bt
-- laws.toFuncS
def m28_0 : MC := (.seq (.seq (.region [⟨(.mov (.t 4)), (some 8), none⟩, ⟨(.mov (.t 0)), (some 9), none⟩, ⟨(.len (.t 9)), (some 10), none⟩, ⟨(.bin .lss (.t 8) (.t 10)), (some 11), none⟩] false) (.cond (.t 11) .skip (.exit 0))) (.seq (.block 1 (.region [⟨(.mov (.t 3)), (some 14), none⟩, ⟨(.mov (.t 4)), (some 15), none⟩, ⟨(.mov (.t 0)), (some 16), none⟩, ⟨(.mov (.t 4)), (some 17), none⟩, ⟨(.indexAddr 2 (.t 16) (.t 17)), (some 18), none⟩, ⟨(.load (some 2) (.t 18)), (some 19), none⟩, ⟨(.call 17 [(.t 19)]), (some 20), none⟩, ⟨(.indexAddr 2 (.t 14) (.t 15)), (some 21), none⟩, ⟨(.store 2 (.t 21) (.t 20)), none, none⟩] false)) (.region [⟨(.mov (.t 4)), (some 12), none⟩, ⟨(.bin .add (.t 12) (.k (.int .i64 1))), (some 13), none⟩, ⟨(.mov (.t 13)), (some 4), none⟩] false)))
def m28 : MC := (.seq (.region [⟨(.mov (.k .nils)), (some 2), none⟩] false) (.seq (.region [⟨(.mov (.t 0)), (some 5), none⟩, ⟨(.len (.t 5)), (some 6), none⟩, ⟨(.make 2 16 [(.int .i64 0), (.int .i64 0)] (.t 6)), (some 7), none⟩, ⟨(.mov (.t 7)), (some 3), none⟩] false) (.seq (.seq (.region [⟨(.mov (.k (.int .i64 0))), (some 4), none⟩] false) (.block 0 (.loop m28_0))) (.seq (.region [⟨(.mov (.t 3)), (some 22), none⟩, ⟨(.mov (.t 22)), (some 2), none⟩] false) .ret))))
theorem has28 : Has cx 28 23 m28 [(.tmp 2)] :=
  ⟨⟨Try.f28, Try.f28.body.getD .skip, by kernel_rfl, by kernel_rfl, by kernel_rfl, by kernel_rfl, by kernel_rfl, by kernel_rfl⟩⟩
theorem lp28_0 (o n : Nat) (c : List Int) (hl : c.length = n * 2) (hn : n ≤ 1048576) :
    LpS cx 23 1 m28_0 [(0, .sl 0 o n), (3, .sl 1 0 n), (4, .int .i64 (0 : Nat))] [⟨List.replicate o .any ++ nums .i64 c, 0, 0, none, false⟩, ⟨zints (zcp c (2 * (0))), 2, 1, some 0, false⟩] (⟨.exit 0, [(3, .sl 1 0 n)], [⟨List.replicate o .any ++ nums .i64 c, 0, 0, none, false⟩, ⟨zints (zcp c (2 * (n))), 2, 1, some 0, false⟩]⟩ : Out).x (⟨.exit 0, [(3, .sl 1 0 n)], [⟨List.replicate o .any ++ nums .i64 c, 0, 0, none, false⟩, ⟨zints (zcp c (2 * (n))), 2, 1, some 0, false⟩]⟩ : Out).e (⟨.exit 0, [(3, .sl 1 0 n)], [⟨List.replicate o .any ++ nums .i64 c, 0, 0, none, false⟩, ⟨zints (zcp c (2 * (n))), 2, 1, some 0, false⟩]⟩ : Out).h := by
  refine lp_st (n) (fun _ => ()) (fun i _ => [(0, .sl 0 o n), (3, .sl 1 0 n), (4, .int .i64 (i : Nat))]) (fun i _ => [⟨List.replicate o .any ++ nums .i64 c, 0, 0, none, false⟩, ⟨zints (zcp c (2 * (i))), 2, 1, some 0, false⟩]) (fun _ => (⟨.exit 0, [(3, .sl 1 0 n)], [⟨List.replicate o .any ++ nums .i64 c, 0, 0, none, false⟩, ⟨zints (zcp c (2 * (n))), 2, 1, some 0, false⟩]⟩ : Out)) ?_ ?_ (n) 0 (by omega)
  · intro i u_ hi hu_
    refine ⟨(), rfl, ?_⟩
    have hlt : decide ((i : Int) < (n : Nat)) = true := decide_eq_true (by omega)
    have hg := fget2 (o := o) hl hi
    have hzl := zcp_len (c := c) (i := 2 * i) (by omega)
    unfold m28_0
    repeat' (first
      | refine ep_loadSN rfl rfl rfl hg ?_
      | refine sp_storeS rfl rfl rfl rfl rfl rfl rfl (Nat.zero_le _) (by rw [zints_len, hzl]; omega) (zcp_set2 hl hi) rfl ?_
      | (refine g_op ?_; first
        | refine ep_mov rfl ?_ | refine sp_loadN rfl rfl rfl rfl rfl ?_
        | refine ep_call0 rfl (by first | exact ev17 _ _) rfl rfl ?_
        | refine sp_call rfl rfl rfl rfl (by first | exact ev17 _ _) ⟨rfl, rfl, rfl, rfl⟩ rfl rfl rfl ?_
        | refine ep_bin rfl rfl (by first | exact b_add (by omega) (by omega) | exact b_sub (by omega) (by omega) | exact b_and (by omega) (by omega) | exact b_or (by omega) (by omega) | exact b_shr (by omega) | exact b_shl (by omega) (by omega) | exact b_lss | exact b_leq | exact b_gtr | exact b_geq | exact b_eql | exact b_neq) ?_
        | refine sp_store rfl rfl rfl rfl rfl rfl rfl rfl rfl rfl ?_ | refine ep_lenS rfl ?_ | refine ep_lenN rfl ?_ | refine ep_lenE rfl ?_ | refine sp_idx rfl rfl rfl (by omega) rfl ?_ | refine ep_loadSN rfl rfl rfl (by first | exact prs_get (by omega) | exact fns_get (by omega)) ?_)
      | (refine g_ops ?_; first | refine eo_none ?_ | refine eo_nil ?_)
      | (refine g_code ?_; first | refine ec_seq ?_ | refine ec_region ?_ | refine ec_block ?_ | refine ec_skip ?_ | refine ec_exit ?_ | refine ec_condT rfl ?_ | refine ec_condF rfl ?_ | refine ec_condTH rfl (by assumption) ?_ | refine ec_condFH rfl (by assumption) ?_)
      | refine ek_seqN ?_ | refine ek_seqX ?_ | refine ek_blkN ?_ | refine ek_blkR ?_ | refine ek_blkX ?_ | refine ek_blkY rfl ?_)
    exact rnd_on (by rfl) (scmp2 (by rfl) (by rfl) (by exact ⟨rfl, rfl, rfl⟩) (by rfl) (by first | rfl | (simp; done) | (simp [ints, prs]; done)) (by rfl) (by first | rfl | (simp; done) | (simp [ints, prs]; done)))
  · intro u_ hu_
    have hlt : decide (((n : Nat) : Int) < (n : Nat)) = false := decide_eq_false (by omega)
    unfold m28_0
    repeat' (first
      | (refine g_op ?_; first
        | refine ep_mov rfl ?_ | refine sp_loadN rfl rfl rfl rfl rfl ?_
        | refine ep_bin rfl rfl (by first | exact b_add (by omega) (by omega) | exact b_sub (by omega) (by omega) | exact b_and (by omega) (by omega) | exact b_or (by omega) (by omega) | exact b_shr (by omega) | exact b_shl (by omega) (by omega) | exact b_lss | exact b_leq | exact b_gtr | exact b_geq | exact b_eql | exact b_neq) ?_
        | refine sp_store rfl rfl rfl rfl rfl rfl rfl rfl rfl rfl ?_ | refine ep_lenS rfl ?_ | refine ep_lenN rfl ?_ | refine ep_lenE rfl ?_ | refine sp_idx rfl rfl rfl (by omega) rfl ?_ | refine ep_loadSN rfl rfl rfl (by first | exact prs_get (by omega) | exact fns_get (by omega)) ?_)
      | (refine g_ops ?_; first | refine eo_none ?_ | refine eo_nil ?_)
      | (refine g_code ?_; first | refine ec_seq ?_ | refine ec_region ?_ | refine ec_block ?_ | refine ec_skip ?_ | refine ec_exit ?_ | refine ec_condT rfl ?_ | refine ec_condF rfl ?_ | refine ec_condTH rfl (by assumption) ?_ | refine ec_condFH rfl (by assumption) ?_)
      | refine ek_seqN ?_ | refine ek_seqX ?_ | refine ek_blkN ?_ | refine ek_blkR ?_ | refine ek_blkX ?_ | refine ek_blkY rfl ?_)
    exact rnd_out (by rfl) (by simp) (scmp2 (by rfl) (by rfl) (by exact ⟨rfl, rfl, rfl⟩) (by rfl) (by first | rfl | (simp; done) | (simp [ints, prs]; done)) (by rfl) (by first | rfl | (simp; done) | (simp [ints, prs]; done)))

theorem lp28_0_nils  :
    LpS cx 23 0 m28_0 [(0, .nils), (3, .sl 0 0 0), (4, .int .i64 (0 : Nat))] [⟨zints [], 2, 0, some 0, false⟩] (⟨.exit 0, [(3, .sl 0 0 0)], [⟨zints [], 2, 0, some 0, false⟩]⟩ : Out).x (⟨.exit 0, [(3, .sl 0 0 0)], [⟨zints [], 2, 0, some 0, false⟩]⟩ : Out).e (⟨.exit 0, [(3, .sl 0 0 0)], [⟨zints [], 2, 0, some 0, false⟩]⟩ : Out).h := by
  refine lp_st (0) (fun _ => ()) (fun i _ => [(0, .nils), (3, .sl 0 0 0), (4, .int .i64 (i : Nat))]) (fun i _ => [⟨zints [], 2, 0, some 0, false⟩]) (fun _ => (⟨.exit 0, [(3, .sl 0 0 0)], [⟨zints [], 2, 0, some 0, false⟩]⟩ : Out)) ?_ ?_ (0) 0 (by omega)
  · intro i u_ hi hu_
    refine ⟨(), rfl, ?_⟩
    exact absurd hi (by simp)
  · intro u_ hu_
    have hlt : decide (((0 : Nat) : Int) < (0 : Nat)) = false := decide_eq_false (by omega)
    unfold m28_0
    repeat' (first
      | (refine g_op ?_; first
        | refine ep_mov rfl ?_ | refine sp_loadN rfl rfl rfl rfl rfl ?_
        | refine ep_bin rfl rfl (by first | exact b_add (by omega) (by omega) | exact b_sub (by omega) (by omega) | exact b_and (by omega) (by omega) | exact b_or (by omega) (by omega) | exact b_shr (by omega) | exact b_shl (by omega) (by omega) | exact b_lss | exact b_leq | exact b_gtr | exact b_geq | exact b_eql | exact b_neq) ?_
        | refine sp_store rfl rfl rfl rfl rfl rfl rfl rfl rfl rfl ?_ | refine ep_lenS rfl ?_ | refine ep_lenN rfl ?_ | refine ep_lenE rfl ?_ | refine sp_idx rfl rfl rfl (by omega) rfl ?_ | refine ep_loadSN rfl rfl rfl (by first | exact prs_get (by omega) | exact fns_get (by omega)) ?_)
      | (refine g_ops ?_; first | refine eo_none ?_ | refine eo_nil ?_)
      | (refine g_code ?_; first | refine ec_seq ?_ | refine ec_region ?_ | refine ec_block ?_ | refine ec_skip ?_ | refine ec_exit ?_ | refine ec_condT rfl ?_ | refine ec_condF rfl ?_ | refine ec_condTH rfl (by assumption) ?_ | refine ec_condFH rfl (by assumption) ?_)
      | refine ek_seqN ?_ | refine ek_seqX ?_ | refine ek_blkN ?_ | refine ek_blkR ?_ | refine ek_blkX ?_ | refine ek_blkY rfl ?_)
    exact rnd_out (by rfl) (by simp) (scmp2 (by rfl) (by rfl) (by exact ⟨rfl, rfl, rfl⟩) (by rfl) (by first | rfl | (simp; done) | (simp [ints, prs]; done)) (by rfl) (by first | rfl | (simp; done) | (simp [ints, prs]; done)))

theorem lp28_0_emp  :
    LpS cx 23 0 m28_0 [(0, .emp), (3, .sl 0 0 0), (4, .int .i64 (0 : Nat))] [⟨zints [], 2, 0, some 0, false⟩] (⟨.exit 0, [(3, .sl 0 0 0)], [⟨zints [], 2, 0, some 0, false⟩]⟩ : Out).x (⟨.exit 0, [(3, .sl 0 0 0)], [⟨zints [], 2, 0, some 0, false⟩]⟩ : Out).e (⟨.exit 0, [(3, .sl 0 0 0)], [⟨zints [], 2, 0, some 0, false⟩]⟩ : Out).h := by
  refine lp_st (0) (fun _ => ()) (fun i _ => [(0, .emp), (3, .sl 0 0 0), (4, .int .i64 (i : Nat))]) (fun i _ => [⟨zints [], 2, 0, some 0, false⟩]) (fun _ => (⟨.exit 0, [(3, .sl 0 0 0)], [⟨zints [], 2, 0, some 0, false⟩]⟩ : Out)) ?_ ?_ (0) 0 (by omega)
  · intro i u_ hi hu_
    refine ⟨(), rfl, ?_⟩
    exact absurd hi (by simp)
  · intro u_ hu_
    have hlt : decide (((0 : Nat) : Int) < (0 : Nat)) = false := decide_eq_false (by omega)
    unfold m28_0
    repeat' (first
      | (refine g_op ?_; first
        | refine ep_mov rfl ?_ | refine sp_loadN rfl rfl rfl rfl rfl ?_
        | refine ep_bin rfl rfl (by first | exact b_add (by omega) (by omega) | exact b_sub (by omega) (by omega) | exact b_and (by omega) (by omega) | exact b_or (by omega) (by omega) | exact b_shr (by omega) | exact b_shl (by omega) (by omega) | exact b_lss | exact b_leq | exact b_gtr | exact b_geq | exact b_eql | exact b_neq) ?_
        | refine sp_store rfl rfl rfl rfl rfl rfl rfl rfl rfl rfl ?_ | refine ep_lenS rfl ?_ | refine ep_lenN rfl ?_ | refine ep_lenE rfl ?_ | refine sp_idx rfl rfl rfl (by omega) rfl ?_ | refine ep_loadSN rfl rfl rfl (by first | exact prs_get (by omega) | exact fns_get (by omega)) ?_)
      | (refine g_ops ?_; first | refine eo_none ?_ | refine eo_nil ?_)
      | (refine g_code ?_; first | refine ec_seq ?_ | refine ec_region ?_ | refine ec_block ?_ | refine ec_skip ?_ | refine ec_exit ?_ | refine ec_condT rfl ?_ | refine ec_condF rfl ?_ | refine ec_condTH rfl (by assumption) ?_ | refine ec_condFH rfl (by assumption) ?_)
      | refine ek_seqN ?_ | refine ek_seqX ?_ | refine ek_blkN ?_ | refine ek_blkR ?_ | refine ek_blkX ?_ | refine ek_blkY rfl ?_)
    exact rnd_out (by rfl) (by simp) (scmp2 (by rfl) (by rfl) (by exact ⟨rfl, rfl, rfl⟩) (by rfl) (by first | rfl | (simp; done) | (simp [ints, prs]; done)) (by rfl) (by first | rfl | (simp; done) | (simp [ints, prs]; done)))

theorem ev28 (o n : Nat) (c : List Int) (hl : c.length = n * 2) (hn : n ≤ 1048576) : Ev cx 28 [.sl 0 o n] [fblk o (nums .i64 c)] (.sl 1 0 n) [fblk o (nums .i64 c), ⟨zints c, 2, 1, some 0, false⟩] := by
  have lp := lp28_0 o n c hl hn
  rw [show 2 * n = c.length by omega, zcp_end] at lp
  refine has28.eev rfl rfl ?_
  unfold m28
  repeat' (first
    | refine sp_make (l := zints (zcp c (2 * 0))) rfl rfl (by omega) (zcp_mk2 hl) rfl rfl ?_
    | refine sc_loop lp rfl rfl ⟨rfl, rfl, rfl⟩ rfl rfl rfl ?_
    | (refine g_op ?_; first
      | refine ep_mov rfl ?_
      | refine ep_lenS rfl ?_ | refine ep_lenN rfl ?_ | refine ep_lenE rfl ?_)
    | (refine g_ops ?_; first | refine eo_none ?_ | refine eo_nil ?_)
    | (refine g_code ?_; first | refine ec_seq ?_ | refine ec_region ?_ | refine ec_block ?_ | refine ec_ret ?_)
    | refine ek_seqN ?_ | refine ek_seqX ?_ | refine ek_seqR ?_ | refine ek_blkN ?_ | refine ek_blkR ?_ | refine ek_blkX ?_ | refine ek_blkY rfl ?_)
  refine sfin (.inr rfl) (by rfl) (by rfl) (by exact ⟨rfl, rfl, rfl⟩) (by rfl) (by rfl) (by rfl) (by first | rfl | (simp; done) | (simp [ints, prs]; done))
theorem ev28_nils : Ev cx 28 [.nils] [] (.sl 0 0 0) [⟨zints [], 2, 0, some 0, false⟩] := by
  have lp := lp28_0_nils
  refine has28.eev rfl rfl ?_
  unfold m28
  repeat' (first
    | refine sp_make (mm := 0) (l := zints []) rfl rfl (by omega) rfl rfl rfl ?_
    | refine sc_loop lp rfl rfl ⟨rfl, rfl, rfl⟩ rfl rfl rfl ?_
    | (refine g_op ?_; first
      | refine ep_mov rfl ?_
      | refine ep_lenS rfl ?_ | refine ep_lenN rfl ?_ | refine ep_lenE rfl ?_)
    | (refine g_ops ?_; first | refine eo_none ?_ | refine eo_nil ?_)
    | (refine g_code ?_; first | refine ec_seq ?_ | refine ec_region ?_ | refine ec_block ?_ | refine ec_ret ?_)
    | refine ek_seqN ?_ | refine ek_seqX ?_ | refine ek_seqR ?_ | refine ek_blkN ?_ | refine ek_blkR ?_ | refine ek_blkX ?_ | refine ek_blkY rfl ?_)
  refine sfin (.inr rfl) (by rfl) (by rfl) (by exact ⟨rfl, rfl, rfl⟩) (by rfl) (by rfl) (by rfl) (by first | rfl | (simp; done) | (simp [ints, prs]; done))
theorem ev28_emp : Ev cx 28 [.emp] [] (.sl 0 0 0) [⟨zints [], 2, 0, some 0, false⟩] := by
  have lp := lp28_0_emp
  refine has28.eev rfl rfl ?_
  unfold m28
  repeat' (first
    | refine sp_make (mm := 0) (l := zints []) rfl rfl (by omega) rfl rfl rfl ?_
    | refine sc_loop lp rfl rfl ⟨rfl, rfl, rfl⟩ rfl rfl rfl ?_
    | (refine g_op ?_; first
      | refine ep_mov rfl ?_
      | refine ep_lenS rfl ?_ | refine ep_lenN rfl ?_ | refine ep_lenE rfl ?_)
    | (refine g_ops ?_; first | refine eo_none ?_ | refine eo_nil ?_)
    | (refine g_code ?_; first | refine ec_seq ?_ | refine ec_region ?_ | refine ec_block ?_ | refine ec_ret ?_)
    | refine ek_seqN ?_ | refine ek_seqX ?_ | refine ek_seqR ?_ | refine ek_blkN ?_ | refine ek_blkR ?_ | refine ek_blkX ?_ | refine ek_blkY rfl ?_)
  refine sfin (.inr rfl) (by rfl) (by rfl) (by exact ⟨rfl, rfl, rfl⟩) (by rfl) (by rfl) (by rfl) (by first | rfl | (simp; done) | (simp [ints, prs]; done))
def allFunc (fs : List (Int × Int)) : Bool := allF (fun j => isFn (fs.getD j (0, 0)).1 (fs.getD j (0, 0)).2) 0 fs.length
-- impl.areFuncs$1
def m116 : MC := (.seq (.region [⟨(.box (.t 0)), (some 1), none⟩, ⟨(.mov (.k (.bool false))), (some 2), none⟩] false) (.seq (.region [⟨(.load (some 2) (.t 1)), (some 3), none⟩, ⟨(.call 55 [(.t 3)]), (some 4), none⟩, ⟨(.un .not (.t 4)), (some 5), none⟩, ⟨(.mov (.t 5)), (some 2), none⟩] false) .ret))
theorem has116 : Has cx 116 6 m116 [(.tmp 2)] :=
  ⟨⟨Try.f116, Try.f116.body.getD .skip, by kernel_rfl, by kernel_rfl, by kernel_rfl, by kernel_rfl, by kernel_rfl, by kernel_rfl⟩⟩
theorem ev116 (a b : Int) : Ev cx 116 [.agg [.int .i64 a, .int .i64 b]] [] (.bool (!isFn a b)) [] := by
  have e1 := ev55 a b
  refine has116.eev rfl rfl ?_
  unfold m116
  repeat' (first
    | (refine g_op ?_; first
      | refine ep_mov rfl ?_ | refine sp_loadN rfl rfl rfl rfl rfl ?_
      | refine ep_call0 rfl (by first | exact e1) rfl rfl ?_
      | refine sp_call rfl rfl rfl rfl (by first | exact e1) ⟨rfl, rfl, rfl, rfl⟩ rfl rfl rfl ?_
      | refine ep_not rfl ?_ | refine sp_box rfl rfl rfl rfl rfl ?_)
    | (refine g_ops ?_; first | refine eo_none ?_ | refine eo_nil ?_)
    | (refine g_code ?_; first | refine ec_seq ?_ | refine ec_region ?_ | refine ec_ret ?_)
    | refine ek_seqN ?_ | refine ek_seqR ?_)
  refine sfin (.inr rfl) (by rfl) (by rfl) (by exact ⟨rfl, rfl, rfl⟩) (by rfl) (by rfl) (by rfl) (by first | rfl | (simp; done) | (simp [ints, prs]; done))
-- slices.IndexFunc[[]impl.Func,impl.Func]
def m140_0 : MC := (.seq (.region [⟨(.bin .lss (.t 8) (.t 7)), (some 9), none⟩] false) (.seq (.cond (.t 9) .skip (.exit 0)) (.seq (.block 1 (.seq (.region [⟨(.mov (.t 8)), (some 10), none⟩, ⟨(.mov (.t 10)), (some 5), none⟩] false) (.seq (.region [⟨(.mov (.t 1)), (some 11), none⟩, ⟨(.mov (.t 0)), (some 12), none⟩, ⟨(.mov (.t 5)), (some 13), none⟩, ⟨(.indexAddr 2 (.t 12) (.t 13)), (some 14), none⟩, ⟨(.load (some 2) (.t 14)), (some 15), none⟩, ⟨(.callv (.t 11) [(.t 15)]), (some 16), none⟩] false) (.cond (.t 16) (.seq (.region [⟨(.mov (.t 5)), (some 17), none⟩, ⟨(.mov (.t 17)), (some 4), none⟩] false) .ret) .skip)))) (.region [⟨(.bin .add (.t 8) (.k (.int .i64 1))), (some 18), none⟩, ⟨(.mov (.t 18)), (some 8), none⟩] false))))
def m140 : MC := (.seq (.region [⟨(.mov (.k (.int .i64 0))), (some 4), none⟩] false) (.seq (.seq (.region [⟨(.mov (.t 0)), (some 6), none⟩, ⟨(.len (.t 6)), (some 7), none⟩, ⟨(.mov (.k (.int .i64 0))), (some 8), none⟩] false) (.block 0 (.loop m140_0))) (.seq (.region [⟨(.mov (.k (.int .i64 (-1)))), (some 4), none⟩] false) .ret)))
theorem has140 : Has cx 140 19 m140 [(.tmp 4)] :=
  ⟨⟨Try.f140, Try.f140.body.getD .skip, by kernel_rfl, by kernel_rfl, by kernel_rfl, by kernel_rfl, by kernel_rfl, by kernel_rfl⟩⟩

-- slices.ContainsFunc[[]impl.Func,impl.Func]
def m115 : MC := (.seq (.region [⟨(.mov (.k (.bool false))), (some 4), none⟩] false) (.seq (.region [⟨(.mov (.t 0)), (some 5), none⟩, ⟨(.mov (.t 1)), (some 6), none⟩, ⟨(.call 140 [(.t 5), (.t 6)]), (some 7), none⟩, ⟨(.bin .geq (.t 7) (.k (.int .i64 0))), (some 8), none⟩, ⟨(.mov (.t 8)), (some 4), none⟩] false) .ret))
theorem has115 : Has cx 115 9 m115 [(.tmp 4)] :=
  ⟨⟨Try.f115, Try.f115.body.getD .skip, by kernel_rfl, by kernel_rfl, by kernel_rfl, by kernel_rfl, by kernel_rfl, by kernel_rfl⟩⟩

theorem lpix_isFunc (fs : List (Int × Int)) (hln : fs.length ≤ 1048576) (o : Out) (ho : (match firstF (fun i => !(fun j => !isFn (fs.getD j (0, 0)).1 (fs.getD j (0, 0)).2) i) 0 (fs.length) with | none => (⟨.exit 0, [], [⟨fns fs, 2, 0, some 0, false⟩]⟩ : Out) | some x => ⟨.ret, [(4, .int .i64 (x : Nat))], [⟨fns fs, 2, 0, some 0, false⟩]⟩) = o) :
    LpS cx 19 1 m140_0 [(0, .sl 0 0 fs.length), (1, .fn 116 []), (7, .int .i64 (fs.length : Nat)), (8, .int .i64 (0 : Nat))] [⟨fns fs, 2, 0, some 0, false⟩] o.x o.e o.h := by
  refine lp_brk (fs.length) (fun i => !(fun j => !isFn (fs.getD j (0, 0)).1 (fs.getD j (0, 0)).2) i) (fun _ => ()) (fun i _ => [(0, .sl 0 0 fs.length), (1, .fn 116 []), (7, .int .i64 (fs.length : Nat)), (8, .int .i64 (i : Nat))]) (fun i _ => [⟨fns fs, 2, 0, some 0, false⟩]) (fun _ => ⟨.exit 0, [], [⟨fns fs, 2, 0, some 0, false⟩]⟩) (fun i _ => ⟨.ret, [(4, .int .i64 (i : Nat))], [⟨fns fs, 2, 0, some 0, false⟩]⟩) ?_ ?_ ?_ (fs.length) 0 o (by omega) (fun h => by rw [← ho, firstF_none fun x h1 h2 => h x h1 (by omega)]) (fun x h1 h2 h3 h4 => by rw [← ho, firstF_some h1 (by omega) h3 h4])
  · intro i s hi hs hp
    have hlt : decide ((i : Int) < (fs.length : Nat)) = true := decide_eq_true (by omega)
    have hp' : (!(fun j => !isFn (fs.getD j (0, 0)).1 (fs.getD j (0, 0)).2) i) = true := hp
    refine ⟨(), rfl, ?_⟩
    have hg := fns_get (l := fs) (j := i) hi
    have e0 := ev116 (fs.getD i (0, 0)).1 (fs.getD i (0, 0)).2
    have hq : (!isFn (fs.getD i (0, 0)).1 (fs.getD i (0, 0)).2) = !((!(fun j => !isFn (fs.getD j (0, 0)).1 (fs.getD j (0, 0)).2) i)) := by simp
    rw [hp'] at hq
    rw [hq] at e0
    unfold m140_0
    repeat' (first
      | refine ep_loadSN rfl rfl rfl hg ?_
      | (refine g_op ?_; first
        | refine ep_mov rfl ?_ | refine sp_loadN rfl rfl rfl rfl rfl ?_
        | refine sp_callv rfl rfl rfl rfl rfl rfl (by first | exact e0) ⟨rfl, rfl, rfl, rfl⟩ rfl rfl rfl ?_
        | refine sp_callb rfl rfl rfl rfl rfl rfl (by first | exact e0) ⟨rfl, rfl, rfl, rfl⟩ rfl rfl rfl ?_
        | refine ep_bin rfl rfl (by first | exact b_add (by omega) (by omega) | exact b_sub (by omega) (by omega) | exact b_and (by omega) (by omega) | exact b_or (by omega) (by omega) | exact b_shr (by omega) | exact b_shl (by omega) (by omega) | exact b_lss | exact b_leq | exact b_gtr | exact b_geq | exact b_eql | exact b_neq) ?_
        | refine sp_idx rfl rfl rfl (by omega) rfl ?_ | refine ep_loadSN rfl rfl rfl (by first | exact prs_get (by omega) | exact fns_get (by omega)) ?_)
      | (refine g_ops ?_; first | refine eo_none ?_ | refine eo_nil ?_)
      | (refine g_code ?_; first | refine ec_seq ?_ | refine ec_region ?_ | refine ec_block ?_ | refine ec_skip ?_ | refine ec_exit ?_ | refine ec_ret ?_ | refine ec_condT rfl ?_ | refine ec_condF rfl ?_ | refine ec_condTH rfl (by assumption) ?_ | refine ec_condFH rfl (by assumption) ?_)
      | refine ek_seqN ?_ | refine ek_seqX ?_ | refine ek_seqR ?_ | refine ek_blkN ?_ | refine ek_blkR ?_ | refine ek_blkX ?_ | refine ek_blkY rfl ?_)
    exact rnd_on (by rfl) (scmp2 (by rfl) (by rfl) (by exact ⟨rfl, rfl, rfl⟩) (by rfl) (by first | rfl | (simp; done) | (simp [ints, prs]; done)) (by rfl) (by first | rfl | (simp; done) | (simp [ints, prs]; done)))
  · intro i s hi hs hp
    have hlt : decide ((i : Int) < (fs.length : Nat)) = true := decide_eq_true (by omega)
    have hp' : (!(fun j => !isFn (fs.getD j (0, 0)).1 (fs.getD j (0, 0)).2) i) = false := hp
    have hg := fns_get (l := fs) (j := i) hi
    have e0 := ev116 (fs.getD i (0, 0)).1 (fs.getD i (0, 0)).2
    have hq : (!isFn (fs.getD i (0, 0)).1 (fs.getD i (0, 0)).2) = !((!(fun j => !isFn (fs.getD j (0, 0)).1 (fs.getD j (0, 0)).2) i)) := by simp
    rw [hp'] at hq
    rw [hq] at e0
    unfold m140_0
    repeat' (first
      | refine ep_loadSN rfl rfl rfl hg ?_
      | (refine g_op ?_; first
        | refine ep_mov rfl ?_ | refine sp_loadN rfl rfl rfl rfl rfl ?_
        | refine sp_callv rfl rfl rfl rfl rfl rfl (by first | exact e0) ⟨rfl, rfl, rfl, rfl⟩ rfl rfl rfl ?_
        | refine sp_callb rfl rfl rfl rfl rfl rfl (by first | exact e0) ⟨rfl, rfl, rfl, rfl⟩ rfl rfl rfl ?_
        | refine ep_bin rfl rfl (by first | exact b_add (by omega) (by omega) | exact b_sub (by omega) (by omega) | exact b_and (by omega) (by omega) | exact b_or (by omega) (by omega) | exact b_shr (by omega) | exact b_shl (by omega) (by omega) | exact b_lss | exact b_leq | exact b_gtr | exact b_geq | exact b_eql | exact b_neq) ?_
        | refine sp_idx rfl rfl rfl (by omega) rfl ?_ | refine ep_loadSN rfl rfl rfl (by first | exact prs_get (by omega) | exact fns_get (by omega)) ?_)
      | (refine g_ops ?_; first | refine eo_none ?_ | refine eo_nil ?_)
      | (refine g_code ?_; first | refine ec_seq ?_ | refine ec_region ?_ | refine ec_block ?_ | refine ec_skip ?_ | refine ec_exit ?_ | refine ec_ret ?_ | refine ec_condT rfl ?_ | refine ec_condF rfl ?_ | refine ec_condTH rfl (by assumption) ?_ | refine ec_condFH rfl (by assumption) ?_)
      | refine ek_seqN ?_ | refine ek_seqX ?_ | refine ek_seqR ?_ | refine ek_blkN ?_ | refine ek_blkR ?_ | refine ek_blkX ?_ | refine ek_blkY rfl ?_)
    exact rnd_out (by rfl) (by simp) (scmp2 (by rfl) (by rfl) (by exact ⟨rfl, rfl, rfl⟩) (by rfl) (by first | rfl | (simp; done) | (simp [ints, prs]; done)) (by rfl) (by first | rfl | (simp; done) | (simp [ints, prs]; done)))
  · intro s hs
    have hlt : decide (((fs.length : Nat) : Int) < (fs.length : Nat)) = false := decide_eq_false (by omega)
    unfold m140_0
    repeat' (first
      | refine ep_loadSN rfl rfl rfl hg ?_
      | (refine g_op ?_; first
        | refine ep_mov rfl ?_ | refine sp_loadN rfl rfl rfl rfl rfl ?_
        | refine sp_callv rfl rfl rfl rfl rfl rfl (by first | exact e0) ⟨rfl, rfl, rfl, rfl⟩ rfl rfl rfl ?_
        | refine sp_callb rfl rfl rfl rfl rfl rfl (by first | exact e0) ⟨rfl, rfl, rfl, rfl⟩ rfl rfl rfl ?_
        | refine ep_bin rfl rfl (by first | exact b_add (by omega) (by omega) | exact b_sub (by omega) (by omega) | exact b_and (by omega) (by omega) | exact b_or (by omega) (by omega) | exact b_shr (by omega) | exact b_shl (by omega) (by omega) | exact b_lss | exact b_leq | exact b_gtr | exact b_geq | exact b_eql | exact b_neq) ?_
        | refine sp_idx rfl rfl rfl (by omega) rfl ?_ | refine ep_loadSN rfl rfl rfl (by first | exact prs_get (by omega) | exact fns_get (by omega)) ?_)
      | (refine g_ops ?_; first | refine eo_none ?_ | refine eo_nil ?_)
      | (refine g_code ?_; first | refine ec_seq ?_ | refine ec_region ?_ | refine ec_block ?_ | refine ec_skip ?_ | refine ec_exit ?_ | refine ec_ret ?_ | refine ec_condT rfl ?_ | refine ec_condF rfl ?_ | refine ec_condTH rfl (by assumption) ?_ | refine ec_condFH rfl (by assumption) ?_)
      | refine ek_seqN ?_ | refine ek_seqX ?_ | refine ek_seqR ?_ | refine ek_blkN ?_ | refine ek_blkR ?_ | refine ek_blkX ?_ | refine ek_blkY rfl ?_)
    exact rnd_out (by rfl) (by simp) (scmp2 (by rfl) (by rfl) (by exact ⟨rfl, rfl, rfl⟩) (by rfl) (by first | rfl | (simp; done) | (simp [ints, prs]; done)) (by rfl) (by first | rfl | (simp; done) | (simp [ints, prs]; done)))
theorem evix_isFunc (fs : List (Int × Int)) (hln : fs.length ≤ 1048576) : Ev cx 140 [.sl 0 0 fs.length, .fn 116 []] [⟨fns fs, 2, 0, some 0, false⟩] (.int .i64 (match firstF (fun i => !(fun j => !isFn (fs.getD j (0, 0)).1 (fs.getD j (0, 0)).2) i) 0 (fs.length) with | none => -1 | some x => ((x : Nat) : Int))) [⟨fns fs, 2, 0, some 0, false⟩] := by
  cases hs : firstF (fun i => !(fun j => !isFn (fs.getD j (0, 0)).1 (fs.getD j (0, 0)).2) i) 0 (fs.length) with
  | none =>
    have lp := lpix_isFunc fs hln _ (by rw [hs])
    refine has140.eev rfl rfl ?_
    unfold m140
    repeat' (first
      | refine sc_loop lp rfl rfl ⟨rfl, rfl, rfl⟩ rfl rfl rfl ?_
      | (refine g_op ?_; first
        | refine ep_mov rfl ?_
        | refine ep_lenS rfl ?_ | refine ep_lenN rfl ?_ | refine ep_lenE rfl ?_)
      | (refine g_ops ?_; first | refine eo_none ?_ | refine eo_nil ?_)
      | (refine g_code ?_; first | refine ec_seq ?_ | refine ec_region ?_ | refine ec_block ?_ | refine ec_ret ?_)
      | refine ek_seqN ?_ | refine ek_seqX ?_ | refine ek_seqR ?_ | refine ek_blkN ?_ | refine ek_blkR ?_ | refine ek_blkX ?_ | refine ek_blkY rfl ?_)
    refine sfin (.inr rfl) (by rfl) (by rfl) (by exact ⟨rfl, rfl, rfl⟩) (by rfl) (by rfl) (by rfl) (by first | rfl | (simp; done) | (simp [ints, prs]; done))
  | some x =>
    have lp := lpix_isFunc fs hln _ (by rw [hs])
    refine has140.eev rfl rfl ?_
    unfold m140
    repeat' (first
      | refine sc_loop lp rfl rfl ⟨rfl, rfl, rfl⟩ rfl rfl rfl ?_
      | (refine g_op ?_; first
        | refine ep_mov rfl ?_
        | refine ep_lenS rfl ?_ | refine ep_lenN rfl ?_ | refine ep_lenE rfl ?_)
      | (refine g_ops ?_; first | refine eo_none ?_ | refine eo_nil ?_)
      | (refine g_code ?_; first | refine ec_seq ?_ | refine ec_region ?_ | refine ec_block ?_ | refine ec_ret ?_)
      | refine ek_seqN ?_ | refine ek_seqX ?_ | refine ek_seqR ?_ | refine ek_blkN ?_ | refine ek_blkR ?_ | refine ek_blkX ?_ | refine ek_blkY rfl ?_)
    refine sfin (.inr rfl) (by rfl) (by rfl) (by exact ⟨rfl, rfl, rfl⟩) (by rfl) (by rfl) (by rfl) (by first | rfl | (simp; done) | (simp [ints, prs]; done))
theorem evcf_isFunc (fs : List (Int × Int)) (hln : fs.length ≤ 1048576) : Ev cx 115 [.sl 0 0 fs.length, .fn 116 []] [⟨fns fs, 2, 0, some 0, false⟩] (.bool (!allF (fun i => !(fun j => !isFn (fs.getD j (0, 0)).1 (fs.getD j (0, 0)).2) i) 0 (fs.length))) [⟨fns fs, 2, 0, some 0, false⟩] := by
  have e1 := evix_isFunc fs hln
  cases hs : firstF (fun i => !(fun j => !isFn (fs.getD j (0, 0)).1 (fs.getD j (0, 0)).2) i) 0 (fs.length) with
  | none =>
    rw [hs] at e1
    refine has115.eev rfl rfl ?_
    unfold m115
    repeat' (first
      | (refine g_op ?_; first
        | refine ep_mov rfl ?_
        | refine ep_call0 rfl (by first | exact e1) rfl rfl ?_
        | refine sp_call rfl rfl rfl rfl (by first | exact e1) ⟨rfl, rfl, rfl, rfl⟩ rfl rfl rfl ?_
        | refine ep_bin rfl rfl (by first | exact b_add (by omega) (by omega) | exact b_sub (by omega) (by omega) | exact b_and (by omega) (by omega) | exact b_or (by omega) (by omega) | exact b_shr (by omega) | exact b_shl (by omega) (by omega) | exact b_lss | exact b_leq | exact b_gtr | exact b_geq | exact b_eql | exact b_neq) ?_)
      | (refine g_ops ?_; first | refine eo_none ?_ | refine eo_nil ?_)
      | (refine g_code ?_; first | refine ec_seq ?_ | refine ec_region ?_ | refine ec_ret ?_)
      | refine ek_seqN ?_ | refine ek_seqR ?_)
    refine sfin (.inr rfl) (by rfl) (by rfl) (by exact ⟨rfl, rfl, rfl⟩) (by rfl) (by rfl) (by rw [firstF_allT hs]; rfl) (by first | rfl | (simp; done) | (simp [ints, prs]; done))
  | some x =>
    rw [hs] at e1
    have hge : decide (((x : Nat) : Int) ≥ 0) = true := decide_eq_true (by omega)
    refine has115.eev rfl rfl ?_
    unfold m115
    repeat' (first
      | (refine g_op ?_; first
        | refine ep_mov rfl ?_
        | refine ep_call0 rfl (by first | exact e1) rfl rfl ?_
        | refine sp_call rfl rfl rfl rfl (by first | exact e1) ⟨rfl, rfl, rfl, rfl⟩ rfl rfl rfl ?_
        | refine ep_bin rfl rfl (by first | exact b_add (by omega) (by omega) | exact b_sub (by omega) (by omega) | exact b_and (by omega) (by omega) | exact b_or (by omega) (by omega) | exact b_shr (by omega) | exact b_shl (by omega) (by omega) | exact b_lss | exact b_leq | exact b_gtr | exact b_geq | exact b_eql | exact b_neq) ?_)
      | (refine g_ops ?_; first | refine eo_none ?_ | refine eo_nil ?_)
      | (refine g_code ?_; first | refine ec_seq ?_ | refine ec_region ?_ | refine ec_ret ?_)
      | refine ek_seqN ?_ | refine ek_seqR ?_)
    refine sfin (.inr rfl) (by rfl) (by rfl) (by exact ⟨rfl, rfl, rfl⟩) (by rfl) (by rfl) (by rw [firstF_allF hs]; first | rfl | exact congrArg V.bool hge) (by first | rfl | (simp; done) | (simp [ints, prs]; done))

theorem evall_Func (fs : List (Int × Int)) (hln : fs.length ≤ 1048576) : Ev cx 115 [.sl 0 0 fs.length, .fn 116 []] [⟨fns fs, 2, 0, some 0, false⟩] (.bool (!allFunc fs)) [⟨fns fs, 2, 0, some 0, false⟩] := by
  have e := evcf_isFunc fs hln
  rwa [show (fun i => !(fun j => !isFn (fs.getD j (0, 0)).1 (fs.getD j (0, 0)).2) i) = fun j => isFn (fs.getD j (0, 0)).1 (fs.getD j (0, 0)).2 by funext j; simp] at e
def lcode (fs : List (Int × Int)) : Int := if allFunc fs = true then (if fs.length > 8 then 2 else 0) else 1
-- impl.areFuncs
def m73 : MC := (.seq (.region [⟨(.mov (.k (.bool false))), (some 2), none⟩] false) (.seq (.region [⟨(.mov (.t 0)), (some 3), none⟩, ⟨(.call 115 [(.t 3), (.k (.fn 116 []))]), (some 4), none⟩, ⟨(.un .not (.t 4)), (some 5), none⟩, ⟨(.mov (.t 5)), (some 2), none⟩] false) .ret))
theorem has73 : Has cx 73 6 m73 [(.tmp 2)] :=
  ⟨⟨Try.f73, Try.f73.body.getD .skip, by kernel_rfl, by kernel_rfl, by kernel_rfl, by kernel_rfl, by kernel_rfl, by kernel_rfl⟩⟩
theorem ev73 (fs : List (Int × Int)) (hln : fs.length ≤ 1048576) : Ev cx 73 [.sl 0 0 fs.length] [⟨fns fs, 2, 0, some 0, false⟩] (.bool (allFunc fs)) [⟨fns fs, 2, 0, some 0, false⟩] := by
  have e1 := evall_Func fs hln
  refine has73.eev rfl rfl ?_
  unfold m73
  repeat' (first
    | (refine g_op ?_; first
      | refine ep_mov rfl ?_
      | refine ep_call0 rfl (by first | exact e1) rfl rfl ?_
      | refine sp_call rfl rfl rfl rfl (by first | exact e1) ⟨rfl, rfl, rfl, rfl⟩ rfl rfl rfl ?_
      | refine ep_not rfl ?_)
    | (refine g_ops ?_; first | refine eo_none ?_ | refine eo_nil ?_)
    | (refine g_code ?_; first | refine ec_seq ?_ | refine ec_region ?_ | refine ec_ret ?_)
    | refine ek_seqN ?_ | refine ek_seqR ?_)
  refine sfin (.inr rfl) (by rfl) (by rfl) (by exact ⟨rfl, rfl, rfl⟩) (by rfl) (by rfl) (by simp) (by first | rfl | (simp; done) | (simp [ints, prs]; done))
-- spec.l02Code
def m69_0 : MC := (.seq (.seq (.region [⟨(.mov (.t 3)), (some 4), none⟩, ⟨(.mov (.t 0)), (some 5), none⟩, ⟨(.len (.t 5)), (some 6), none⟩, ⟨(.bin .lss (.t 4) (.t 6)), (some 7), none⟩] false) (.cond (.t 7) .skip (.exit 0))) (.seq (.block 1 (.seq (.region [⟨(.mov (.t 0)), (some 10), none⟩, ⟨(.mov (.t 3)), (some 11), none⟩, ⟨(.indexAddr 2 (.t 10) (.t 11)), (some 12), none⟩, ⟨(.load (some 2) (.t 12)), (some 13), none⟩, ⟨(.call 53 [(.t 13)]), (some 14), none⟩, ⟨(.un .not (.t 14)), (some 15), none⟩] false) (.cond (.t 15) (.seq (.region [⟨(.mov (.k (.int .i64 1))), (some 2), none⟩] false) .ret) .skip))) (.region [⟨(.mov (.t 3)), (some 8), none⟩, ⟨(.bin .add (.t 8) (.k (.int .i64 1))), (some 9), none⟩, ⟨(.mov (.t 9)), (some 3), none⟩] false)))
def m69 : MC := (.seq (.region [⟨(.mov (.k (.int .i64 0))), (some 2), none⟩] false) (.seq (.seq (.region [⟨(.mov (.k (.int .i64 0))), (some 3), none⟩] false) (.block 0 (.loop m69_0))) (.seq (.seq (.region [⟨(.mov (.t 0)), (some 16), none⟩, ⟨(.len (.t 16)), (some 17), none⟩, ⟨(.bin .gtr (.t 17) (.k (.int .i64 8))), (some 18), none⟩] false) (.cond (.t 18) (.seq (.region [⟨(.mov (.k (.int .i64 2))), (some 2), none⟩] false) .ret) .skip)) (.seq (.region [⟨(.mov (.k (.int .i64 0))), (some 2), none⟩] false) .ret))))
theorem has69 : Has cx 69 19 m69 [(.tmp 2)] :=
  ⟨⟨Try.f69, Try.f69.body.getD .skip, by kernel_rfl, by kernel_rfl, by kernel_rfl, by kernel_rfl, by kernel_rfl, by kernel_rfl⟩⟩
theorem lp69_0 (fs : List (Int × Int)) (hln : fs.length ≤ 1048576) (o : Out) (ho : (if allF (fun j => isFn (fs.getD j (0, 0)).1 (fs.getD j (0, 0)).2) 0 (fs.length) = true then (⟨.exit 0, [(0, .sl 0 0 fs.length)], [⟨fns fs, 2, 0, some 0, false⟩]⟩ : Out) else ⟨.ret, [(2, .int .i64 1)], [⟨fns fs, 2, 0, some 0, false⟩]⟩) = o) :
    LpS cx 19 1 m69_0 [(0, .sl 0 0 fs.length), (3, .int .i64 (0 : Nat))] [⟨fns fs, 2, 0, some 0, false⟩] o.x o.e o.h := by
  refine lp_all (fs.length) (fun j => isFn (fs.getD j (0, 0)).1 (fs.getD j (0, 0)).2) (fun i => [(0, .sl 0 0 fs.length), (3, .int .i64 (i : Nat))]) (fun i => [⟨fns fs, 2, 0, some 0, false⟩]) _ _ ?_ ?_ ?_ (fs.length) 0 o (by omega) ho
  · intro i hi hp
    have hlt : decide ((i : Int) < (fs.length : Nat)) = true := decide_eq_true (by omega)
    have hp' : (isFn (fs.getD i (0, 0)).1 (fs.getD i (0, 0)).2) = true := hp
    have e1 := ev53 (fs.getD i (0, 0)).1 (fs.getD i (0, 0)).2
    rw [show isFn (fs.getD i (0, 0)).1 (fs.getD i (0, 0)).2 = _ from hp] at e1
    have hg := fns_get (l := fs) (j := i) hi
    unfold m69_0
    repeat' (first
      | refine ep_loadSN rfl rfl rfl hg ?_
      | (refine g_op ?_; first
        | refine ep_mov rfl ?_ | refine sp_loadN rfl rfl rfl rfl rfl ?_
        | refine ep_call0 rfl (by first | exact e1) rfl rfl ?_
        | refine sp_call rfl rfl rfl rfl (by first | exact e1) ⟨rfl, rfl, rfl, rfl⟩ rfl rfl rfl ?_
        | refine ep_bin rfl rfl (by first | exact b_add (by omega) (by omega) | exact b_sub (by omega) (by omega) | exact b_and (by omega) (by omega) | exact b_or (by omega) (by omega) | exact b_shr (by omega) | exact b_shl (by omega) (by omega) | exact b_lss | exact b_leq | exact b_gtr | exact b_geq | exact b_eql | exact b_neq) ?_
        | refine ep_not rfl ?_ | refine ep_lenS rfl ?_ | refine ep_lenN rfl ?_ | refine ep_lenE rfl ?_ | refine sp_idx rfl rfl rfl (by omega) rfl ?_ | refine ep_loadSN rfl rfl rfl (by first | exact prs_get (by omega) | exact fns_get (by omega)) ?_)
      | (refine g_ops ?_; first | refine eo_none ?_ | refine eo_nil ?_)
      | (refine g_code ?_; first | refine ec_seq ?_ | refine ec_region ?_ | refine ec_block ?_ | refine ec_skip ?_ | refine ec_exit ?_ | refine ec_ret ?_ | refine ec_condT rfl ?_ | refine ec_condF rfl ?_ | refine ec_condTH rfl (by assumption) ?_ | refine ec_condFH rfl (by assumption) ?_)
      | refine ek_seqN ?_ | refine ek_seqX ?_ | refine ek_seqR ?_ | refine ek_blkN ?_ | refine ek_blkR ?_ | refine ek_blkX ?_ | refine ek_blkY rfl ?_)
    exact rnd_on (by rfl) (scmp2 (by rfl) (by rfl) (by exact ⟨rfl, rfl, rfl⟩) (by rfl) (by first | rfl | (simp; done) | (simp [ints, prs]; done)) (by rfl) (by first | rfl | (simp; done) | (simp [ints, prs]; done)))
  · intro i hi hp
    have hlt : decide ((i : Int) < (fs.length : Nat)) = true := decide_eq_true (by omega)
    have hp' : (isFn (fs.getD i (0, 0)).1 (fs.getD i (0, 0)).2) = false := hp
    have e1 := ev53 (fs.getD i (0, 0)).1 (fs.getD i (0, 0)).2
    rw [show isFn (fs.getD i (0, 0)).1 (fs.getD i (0, 0)).2 = _ from hp] at e1
    have hg := fns_get (l := fs) (j := i) hi
    unfold m69_0
    repeat' (first
      | refine ep_loadSN rfl rfl rfl hg ?_
      | (refine g_op ?_; first
        | refine ep_mov rfl ?_ | refine sp_loadN rfl rfl rfl rfl rfl ?_
        | refine ep_call0 rfl (by first | exact e1) rfl rfl ?_
        | refine sp_call rfl rfl rfl rfl (by first | exact e1) ⟨rfl, rfl, rfl, rfl⟩ rfl rfl rfl ?_
        | refine ep_bin rfl rfl (by first | exact b_add (by omega) (by omega) | exact b_sub (by omega) (by omega) | exact b_and (by omega) (by omega) | exact b_or (by omega) (by omega) | exact b_shr (by omega) | exact b_shl (by omega) (by omega) | exact b_lss | exact b_leq | exact b_gtr | exact b_geq | exact b_eql | exact b_neq) ?_
        | refine ep_not rfl ?_ | refine ep_lenS rfl ?_ | refine ep_lenN rfl ?_ | refine ep_lenE rfl ?_ | refine sp_idx rfl rfl rfl (by omega) rfl ?_ | refine ep_loadSN rfl rfl rfl (by first | exact prs_get (by omega) | exact fns_get (by omega)) ?_)
      | (refine g_ops ?_; first | refine eo_none ?_ | refine eo_nil ?_)
      | (refine g_code ?_; first | refine ec_seq ?_ | refine ec_region ?_ | refine ec_block ?_ | refine ec_skip ?_ | refine ec_exit ?_ | refine ec_ret ?_ | refine ec_condT rfl ?_ | refine ec_condF rfl ?_ | refine ec_condTH rfl (by assumption) ?_ | refine ec_condFH rfl (by assumption) ?_)
      | refine ek_seqN ?_ | refine ek_seqX ?_ | refine ek_seqR ?_ | refine ek_blkN ?_ | refine ek_blkR ?_ | refine ek_blkX ?_ | refine ek_blkY rfl ?_)
    exact rnd_out (by rfl) (by simp) (scmp2 (by rfl) (by rfl) (by exact ⟨rfl, rfl, rfl⟩) (by rfl) (by first | rfl | (simp; done) | (simp [ints, prs]; done)) (by rfl) (by first | rfl | (simp; done) | (simp [ints, prs]; done)))
  · have hlt : decide (((fs.length : Nat) : Int) < (fs.length : Nat)) = false := decide_eq_false (by omega)
    unfold m69_0
    repeat' (first
      | (refine g_op ?_; first
        | refine ep_mov rfl ?_ | refine sp_loadN rfl rfl rfl rfl rfl ?_
        | refine ep_bin rfl rfl (by first | exact b_add (by omega) (by omega) | exact b_sub (by omega) (by omega) | exact b_and (by omega) (by omega) | exact b_or (by omega) (by omega) | exact b_shr (by omega) | exact b_shl (by omega) (by omega) | exact b_lss | exact b_leq | exact b_gtr | exact b_geq | exact b_eql | exact b_neq) ?_
        | refine ep_not rfl ?_ | refine ep_lenS rfl ?_ | refine ep_lenN rfl ?_ | refine ep_lenE rfl ?_ | refine sp_idx rfl rfl rfl (by omega) rfl ?_ | refine ep_loadSN rfl rfl rfl (by first | exact prs_get (by omega) | exact fns_get (by omega)) ?_)
      | (refine g_ops ?_; first | refine eo_none ?_ | refine eo_nil ?_)
      | (refine g_code ?_; first | refine ec_seq ?_ | refine ec_region ?_ | refine ec_block ?_ | refine ec_skip ?_ | refine ec_exit ?_ | refine ec_ret ?_ | refine ec_condT rfl ?_ | refine ec_condF rfl ?_ | refine ec_condTH rfl (by assumption) ?_ | refine ec_condFH rfl (by assumption) ?_)
      | refine ek_seqN ?_ | refine ek_seqX ?_ | refine ek_seqR ?_ | refine ek_blkN ?_ | refine ek_blkR ?_ | refine ek_blkX ?_ | refine ek_blkY rfl ?_)
    exact rnd_out (by rfl) (by simp) (scmp2 (by rfl) (by rfl) (by exact ⟨rfl, rfl, rfl⟩) (by rfl) (by first | rfl | (simp; done) | (simp [ints, prs]; done)) (by rfl) (by first | rfl | (simp; done) | (simp [ints, prs]; done)))

theorem ev69 (fs : List (Int × Int)) (hln : fs.length ≤ 1048576) : Ev cx 69 [.sl 0 0 fs.length] [⟨fns fs, 2, 0, some 0, false⟩] (.int .i64 (lcode fs)) [⟨fns fs, 2, 0, some 0, false⟩] := by
  cases h : allFunc fs
  · have lp := lp69_0 fs hln _ (if_neg (by rw [show allF (fun j => isFn (fs.getD j (0, 0)).1 (fs.getD j (0, 0)).2) 0 fs.length = _ from h]; simp))
    refine has69.eev rfl rfl ?_
    unfold m69
    repeat' (first
      | refine sc_loop lp rfl rfl ⟨rfl, rfl, rfl⟩ rfl rfl rfl ?_
      | (refine g_op ?_; first
        | refine ep_mov rfl ?_
        | refine ep_bin rfl rfl (by first | exact b_add (by omega) (by omega) | exact b_sub (by omega) (by omega) | exact b_and (by omega) (by omega) | exact b_or (by omega) (by omega) | exact b_shr (by omega) | exact b_shl (by omega) (by omega) | exact b_lss | exact b_leq | exact b_gtr | exact b_geq | exact b_eql | exact b_neq) ?_
        | refine ep_lenS rfl ?_ | refine ep_lenN rfl ?_ | refine ep_lenE rfl ?_)
      | (refine g_ops ?_; first | refine eo_none ?_ | refine eo_nil ?_)
      | (refine g_code ?_; first | refine ec_seq ?_ | refine ec_region ?_ | refine ec_block ?_ | refine ec_skip ?_ | refine ec_ret ?_ | refine ec_condT rfl ?_ | refine ec_condF rfl ?_ | refine ec_condTH rfl (by assumption) ?_ | refine ec_condFH rfl (by assumption) ?_)
      | refine ek_seqN ?_ | refine ek_seqX ?_ | refine ek_seqR ?_ | refine ek_blkN ?_ | refine ek_blkR ?_ | refine ek_blkX ?_ | refine ek_blkY rfl ?_)
    refine sfin (.inr rfl) (by rfl) (by rfl) (by exact ⟨rfl, rfl, rfl⟩) (by rfl) (by rfl) (by rw [lcode, if_neg (by rw [h]; simp)]) (by first | rfl | (simp; done) | (simp [ints, prs]; done))
  · have lp := lp69_0 fs hln _ (if_pos h)
    by_cases h2 : fs.length > 8
    · have g2 : decide (((fs.length : Nat) : Int) > 8) = true := decide_eq_true (by omega)
      refine has69.eev rfl rfl ?_
      unfold m69
      repeat' (first
        | refine sc_loop lp rfl rfl ⟨rfl, rfl, rfl⟩ rfl rfl rfl ?_
        | (refine g_op ?_; first
          | refine ep_mov rfl ?_
          | refine ep_bin rfl rfl (by first | exact b_add (by omega) (by omega) | exact b_sub (by omega) (by omega) | exact b_and (by omega) (by omega) | exact b_or (by omega) (by omega) | exact b_shr (by omega) | exact b_shl (by omega) (by omega) | exact b_lss | exact b_leq | exact b_gtr | exact b_geq | exact b_eql | exact b_neq) ?_
          | refine ep_lenS rfl ?_ | refine ep_lenN rfl ?_ | refine ep_lenE rfl ?_)
        | (refine g_ops ?_; first | refine eo_none ?_ | refine eo_nil ?_)
        | (refine g_code ?_; first | refine ec_seq ?_ | refine ec_region ?_ | refine ec_block ?_ | refine ec_skip ?_ | refine ec_ret ?_ | refine ec_condT rfl ?_ | refine ec_condF rfl ?_ | refine ec_condTH rfl (by assumption) ?_ | refine ec_condFH rfl (by assumption) ?_)
        | refine ek_seqN ?_ | refine ek_seqX ?_ | refine ek_seqR ?_ | refine ek_blkN ?_ | refine ek_blkR ?_ | refine ek_blkX ?_ | refine ek_blkY rfl ?_)
      refine sfin (.inr rfl) (by rfl) (by rfl) (by exact ⟨rfl, rfl, rfl⟩) (by rfl) (by rfl) (by rw [lcode, if_pos h, if_pos h2]) (by first | rfl | (simp; done) | (simp [ints, prs]; done))
    · have g2 : decide (((fs.length : Nat) : Int) > 8) = false := decide_eq_false (by omega)
      refine has69.eev rfl rfl ?_
      unfold m69
      repeat' (first
        | refine sc_loop lp rfl rfl ⟨rfl, rfl, rfl⟩ rfl rfl rfl ?_
        | (refine g_op ?_; first
          | refine ep_mov rfl ?_
          | refine ep_bin rfl rfl (by first | exact b_add (by omega) (by omega) | exact b_sub (by omega) (by omega) | exact b_and (by omega) (by omega) | exact b_or (by omega) (by omega) | exact b_shr (by omega) | exact b_shl (by omega) (by omega) | exact b_lss | exact b_leq | exact b_gtr | exact b_geq | exact b_eql | exact b_neq) ?_
          | refine ep_lenS rfl ?_ | refine ep_lenN rfl ?_ | refine ep_lenE rfl ?_)
        | (refine g_ops ?_; first | refine eo_none ?_ | refine eo_nil ?_)
        | (refine g_code ?_; first | refine ec_seq ?_ | refine ec_region ?_ | refine ec_block ?_ | refine ec_skip ?_ | refine ec_ret ?_ | refine ec_condT rfl ?_ | refine ec_condF rfl ?_ | refine ec_condTH rfl (by assumption) ?_ | refine ec_condFH rfl (by assumption) ?_)
        | refine ek_seqN ?_ | refine ek_seqX ?_ | refine ek_seqR ?_ | refine ek_blkN ?_ | refine ek_blkR ?_ | refine ek_blkX ?_ | refine ek_blkY rfl ?_)
      refine sfin (.inr rfl) (by rfl) (by rfl) (by exact ⟨rfl, rfl, rfl⟩) (by rfl) (by rfl) (by rw [lcode, if_pos h, if_neg h2]) (by first | rfl | (simp; done) | (simp [ints, prs]; done))

def foldN {S : Type} (f : Nat → S → S) : Nat → S → S
  | 0, s => s
  | n + 1, s => f n (foldN f n s)
theorem foldN_inv {S : Type} {f : Nat → S → S} {I : S → Prop} : ∀ (n : Nat) (s : S), (∀ j s, j < n → I s → I (f j s)) → I s → I (foldN f n s)
  | 0, s, _, h => h
  | n + 1, s, hf, h => hf n _ (by omega) (foldN_inv n s (fun j s hj => hf j s (by omega)) h)
theorem foldN_congr {S : Type} {f g : Nat → S → S} {I : S → Prop} : ∀ (n : Nat) (s : S), (∀ j s, j < n → I s → f j s = g j s ∧ I (f j s)) → I s → foldN f n s = foldN g n s ∧ I (foldN f n s)
  | 0, s, _, h => ⟨rfl, h⟩
  | n + 1, s, hf, h => by
    obtain ⟨h1, h2⟩ := foldN_congr n s (fun j s hj => hf j s (by omega)) h
    obtain ⟨h3, h4⟩ := hf n _ (by omega) h2
    refine ⟨?_, h4⟩
    show f n (foldN f n s) = g n (foldN g n s)
    rw [h3, h1]
abbrev GS := List Int × Bool
def upS (d : Int) (b : Nat) (s : GS) : GS := if s.1.getD b 0 < 0 then (s.1.set b d, true) else s
def isNw (d : Int) (D : List Int) (now : List Nat) : Bool := d == 1 || !(allF (fun j => !(D.getD (now.getD j 0) 0 == d - 1)) 0 now.length)
def leafS (d : Int) (n b : Nat) (now : List Nat) (s : GS) : GS := upS d (valS b (R2 n) now) s
def leafI (d : Int) (n b : Nat) (now : List Nat) (s : GS) : GS := if isNw d s.1 now = true then leafS d n b now s else s
def walkT (L : List Nat) (leaf : List Nat → GS → GS) : Nat → List Nat → GS → GS
  | 0, now, s => leaf now s
  | m + 1, now, s => foldN (fun j s => walkT L leaf m (now ++ [L.getD j 0]) s) L.length s
def ngs (D : List Int) : Nat := D.countP (fun x => decide (x < 0))
def leD (D D' : List Int) : Prop := D'.length = D.length ∧ ∀ b, 0 ≤ D.getD b 0 → D'.getD b 0 = D.getD b 0
theorem leD_refl (D : List Int) : leD D D := ⟨rfl, fun _ _ => rfl⟩
theorem leD_trans {A B C : List Int} (h1 : leD A B) (h2 : leD B C) : leD A C :=
  ⟨by rw [h2.1, h1.1], fun b h => by rw [h2.2 b (by rw [h1.2 b h]; exact h), h1.2 b h]⟩
theorem getD_set {D : List Int} {b c : Nat} {d : Int} : (D.set b d).getD c 0 = if b = c ∧ c < D.length then d else D.getD c 0 := by
  rw [List.getD_eq_getElem?_getD, List.getElem?_set, List.getD_eq_getElem?_getD]
  by_cases h : b = c
  · subst h
    by_cases h2 : b < D.length
    · simp [h2]
    · simp [h2]
  · simp [h]
theorem upS_le (d : Int) (b : Nat) (s : GS) : leD s.1 (upS d b s).1 := by
  unfold upS
  split
  · rename_i h
    refine ⟨by simp, fun c hc => ?_⟩
    simp only
    rw [getD_set, if_neg]
    rintro ⟨rfl, _⟩
    omega
  · exact leD_refl _
theorem ngs_set : ∀ {D : List Int} {b : Nat} {d : Int}, 0 ≤ d → D.getD b 0 < 0 → ngs (D.set b d) + 1 = ngs D
  | [], b, d, _, h => by simp at h
  | x :: D, 0, d, hd, h => by
    have h' : x < 0 := by simpa using h
    simp [ngs, List.countP_cons, h', show ¬ d < 0 by omega]
  | x :: D, b + 1, d, hd, h => by
    have h' : D.getD b 0 < 0 := by simpa using h
    have := ngs_set hd h'
    simp only [ngs, List.set_cons_succ, List.countP_cons] at this ⊢
    omega
def invG (D0 : List Int) (s : GS) : Prop := leD D0 s.1 ∧ ngs s.1 ≤ ngs D0 ∧ (s.2 = true → ngs s.1 < ngs D0)
theorem upS_inv {D0 : List Int} {d : Int} {b : Nat} {s : GS} (hd : 0 ≤ d) (h : invG D0 s) : invG D0 (upS d b s) := by
  refine ⟨leD_trans h.1 (upS_le d b s), ?_⟩
  unfold upS
  split
  · rename_i hb
    have := ngs_set (d := d) hd hb
    have := h.2.1
    exact ⟨by simp only; omega, fun _ => by simp only; omega⟩
  · exact h.2
theorem walkT_inv {L : List Nat} {leaf : List Nat → GS → GS} {I : GS → Prop} (hl : ∀ now s, I s → I (leaf now s)) : ∀ (m : Nat) (now : List Nat) (s : GS), I s → I (walkT L leaf m now s)
  | 0, now, s, h => hl now s h
  | m + 1, now, s, h => foldN_inv _ _ (fun j s _ hs => walkT_inv hl m _ s hs) h
theorem leafI_inv {D0 : List Int} {d : Int} {n b : Nat} (hd : 0 ≤ d) (now : List Nat) (s : GS) (h : invG D0 s) : invG D0 (leafI d n b now s) := by
  unfold leafI; split
  · exact upS_inv hd h
  · exact h
def inL (L now : List Nat) : Prop := ∀ j, j < now.length → ∃ k, k < L.length ∧ now.getD j 0 = L.getD k 0
theorem inL_snoc {L now : List Nat} {j : Nat} (h : inL L now) (hj : j < L.length) : inL L (now ++ [L.getD j 0]) := by
  intro i hi
  by_cases h1 : i < now.length
  · obtain ⟨k, hk, e⟩ := h i h1
    refine ⟨k, hk, ?_⟩
    rw [List.getD_eq_getElem?_getD, List.getElem?_append_left h1, ← List.getD_eq_getElem?_getD]; exact e
  · simp at hi
    refine ⟨j, hj, ?_⟩
    rw [List.getD_eq_getElem?_getD, List.getElem?_append_right (by omega), show i - now.length = 0 by omega]; rfl
theorem isNw_congr {d : Int} {D0 D : List Int} {L now : List Nat} (hle : leD D0 D) (hL : ∀ k, k < L.length → 0 ≤ D0.getD (L.getD k 0) 0) (hn : inL L now) : isNw d D now = isNw d D0 now := by
  unfold isNw
  congr 2
  refine allF_congr _ _ fun x _ hx => ?_
  obtain ⟨k, hk, e⟩ := hn x (by omega)
  rw [e, hle.2 _ (hL k hk)]
theorem walk_eq {d : Int} {n b a : Nat} {D0 : List Int} {L : List Nat} (hd : 0 ≤ d) (hL : ∀ k, k < L.length → 0 ≤ D0.getD (L.getD k 0) 0)
    (H : ∀ t : List Nat, t.length = a → inL L t → isNw d D0 t = false → 0 ≤ D0.getD (valS b (R2 n) t) 0) : ∀ (m : Nat) (now : List Nat) (s : GS), now.length + m = a → inL L now → invG D0 s →
    walkT L (leafI d n b) m now s = walkT L (leafS d n b) m now s ∧ invG D0 (walkT L (leafI d n b) m now s)
  | 0, now, s, hm, hn, hs => by
    refine ⟨?_, leafI_inv hd now s hs⟩
    show leafI d n b now s = leafS d n b now s
    unfold leafI
    split
    · rfl
    · rename_i hw
      rw [isNw_congr hs.1 hL hn] at hw
      have := H now (by omega) hn (by simpa using hw)
      unfold leafS upS
      rw [if_neg]
      rw [hs.1.2 _ this]; omega
  | m + 1, now, s, hm, hn, hs => by
    refine foldN_congr L.length s (fun j s hj hI => ?_) hs
    exact walk_eq hd hL H m _ s (by simp; omega) (inL_snoc hn hj) hI
theorem walk_cl {d : Int} {n b N : Nat} {L : List Nat} (hd : 0 ≤ d) (hN : ∀ t, valS b (R2 n) t < N) : ∀ (m : Nat) (now rest : List Nat) (s : GS), s.1.length = N → rest.length = m → inL L rest →
    0 ≤ (walkT L (leafS d n b) m now s).1.getD (valS b (R2 n) (now ++ rest)) 0
  | 0, now, rest, s, hs, hm, _ => by
    have hr : rest = [] := List.eq_nil_of_length_eq_zero hm
    subst hr
    rw [List.append_nil]
    show 0 ≤ (leafS d n b now s).1.getD _ 0
    unfold leafS upS
    split
    · simp only; rw [getD_set, if_pos ⟨rfl, by rw [hs]; exact hN now⟩]; exact hd
    · omega
  | m + 1, now, [], s, hs, hm, _ => by simp at hm
  | m + 1, now, x :: rest, s, hs, hm, hr => by
    obtain ⟨k, hk, e⟩ := hr 0 (by simp)
    have e' : x = L.getD k 0 := by simpa using e
    subst e'
    have hr' : inL L rest := fun j hj => by
      obtain ⟨k', h1, h2⟩ := hr (j + 1) (by simp; omega)
      exact ⟨k', h1, by simpa using h2⟩
    have step : ∀ q, q ≤ L.length → ((foldN (fun j s => walkT L (leafS d n b) m (now ++ [L.getD j 0]) s) q s).1.length = N ∧ (k < q → 0 ≤ (foldN (fun j s => walkT L (leafS d n b) m (now ++ [L.getD j 0]) s) q s).1.getD (valS b (R2 n) (now ++ L.getD k 0 :: rest)) 0)) := by
      intro q
      induction q with
      | zero => intro _; exact ⟨hs, by omega⟩
      | succ q ih =>
        intro hq
        obtain ⟨i1, i2⟩ := ih (by omega)
        have hle := walkT_inv (L := L) (leaf := leafS d n b) (I := fun u => leD (foldN (fun j s => walkT L (leafS d n b) m (now ++ [L.getD j 0]) s) q s).1 u.1) (fun nw u hu => leD_trans hu (upS_le d _ u)) m (now ++ [L.getD q 0]) _ (leD_refl _)
        refine ⟨by rw [foldN, hle.1, i1], fun hk2 => ?_⟩
        by_cases hkq : k = q
        · subst hkq
          have := walk_cl hd hN m (now ++ [L.getD k 0]) rest (foldN (fun j s => walkT L (leafS d n b) m (now ++ [L.getD j 0]) s) k s) i1 (by simpa using hm) hr'
          rw [List.append_assoc] at this
          exact this
        · have h0 := i2 (by omega)
          rw [foldN, hle.2 _ h0]; exact h0
    exact (step L.length (Nat.le_refl _)).2 hk
def rndG (leaf : Int → Nat → Nat → List Nat → GS → GS) (fs : List (Int × Int)) (n : Nat) (d : Int) (L : List Nat) (D : List Int) : GS :=
  foldN (fun k s => walkT L (leaf d n (fs.getD k (0, 0)).2.toNat) (fs.getD k (0, 0)).1.toNat [] s) fs.length (D, false)
def kwI (N : Nat) (d : Int) (D : List Int) : List Nat := selm (fun b => decide (0 ≤ D.getD b 0 ∧ D.getD b 0 ≤ d - 1)) idn N
def kwS (N : Nat) (D : List Int) : List Nat := selm (fun b => decide (0 ≤ D.getD b 0)) idn N
def genI (fs : List (Int × Int)) (n : Nat) : Nat → Nat → List Int → List Int
  | 0, _, D => D
  | k + 1, d, D => if (rndG leafI fs n d (kwI (R2 (R2 n)) d D) D).2 = true then genI fs n k (d + 1) (rndG leafI fs n d (kwI (R2 (R2 n)) d D) D).1 else (rndG leafI fs n d (kwI (R2 (R2 n)) d D) D).1
def genS (fs : List (Int × Int)) (n : Nat) : Nat → Nat → List Int → List Int
  | 0, _, D => D
  | k + 1, d, D => if (rndG leafS fs n d (kwS (R2 (R2 n)) D) D).2 = true then genS fs n k (d + 1) (rndG leafS fs n d (kwS (R2 (R2 n)) D) D).1 else (rndG leafS fs n d (kwS (R2 (R2 n)) D) D).1
def bndD (d : Int) (D : List Int) : Prop := ∀ b, -1 ≤ D.getD b 0 ∧ D.getD b 0 ≤ d
theorem upS_bnd {d : Int} {b : Nat} {s : GS} (hd : 0 ≤ d) (h : bndD d s.1) : bndD d (upS d b s).1 := by
  unfold upS; split
  · intro c; simp only; rw [getD_set]; split
    · omega
    · exact h c
  · exact h
def gClo (fs : List (Int × Int)) (n : Nat) (d : Int) (D : List Int) : Prop := d = 1 ∨ ∀ k, k < fs.length → ∀ t : List Nat, t.length = (fs.getD k (0, 0)).1.toNat → (∀ j, j < t.length → t.getD j 0 < R2 (R2 n) ∧ 0 ≤ D.getD (t.getD j 0) 0 ∧ D.getD (t.getD j 0) 0 ≤ d - 2) → 0 ≤ D.getD (valS (fs.getD k (0, 0)).2.toNat (R2 n) t) 0
theorem selm_mem {p : Nat → Bool} {n x : Nat} (hx : x < n) (hp : p x = true) : ∃ k, k < (selm p idn n).length ∧ x = (selm p idn n).getD k 0 := by
  induction n with
  | zero => omega
  | succ n ih =>
    by_cases hn : x = n
    · subst hn
      rw [selm_t hp]
      refine ⟨(selm p idn x).length, by simp, ?_⟩
      rw [List.getD_eq_getElem?_getD, List.getElem?_append_right (Nat.le_refl _)]; simp
    · obtain ⟨k, h1, h2⟩ := ih (by omega)
      cases hpn : p n
      · rw [selm_f hpn]; exact ⟨k, h1, h2⟩
      · rw [selm_t hpn]
        refine ⟨k, by simp; omega, ?_⟩
        rw [List.getD_eq_getElem?_getD, List.getElem?_append_left h1, ← List.getD_eq_getElem?_getD]; exact h2
theorem selm_lt0 {p : Nat → Bool} {n j : Nat} (h : j < (selm p idn n).length) : (selm p idn n).getD j 0 < n ∧ p ((selm p idn n).getD j 0) = true := by
  have hm : (selm p idn n).getD j 0 ∈ selm p idn n := by
    rw [List.getD_eq_getElem?_getD, List.getElem?_eq_getElem h]; simp
  generalize (selm p idn n).getD j 0 = x at hm
  clear h
  induction n with
  | zero => simp [selm] at hm
  | succ n ih =>
    cases hp : p n
    · rw [selm_f hp] at hm; have := ih hm; exact ⟨by omega, this.2⟩
    · rw [selm_t hp] at hm
      rcases List.mem_append.mp hm with h1 | h1
      · have := ih h1; exact ⟨by omega, this.2⟩
      · have : x = n := by simpa using h1
        subst this; exact ⟨by omega, hp⟩
theorem rnd_inv {fs : List (Int × Int)} {n : Nat} {d : Int} {L : List Nat} {D : List Int} (hd : 0 ≤ d) : invG D (rndG leafS fs n d L D) := by
  refine foldN_inv (I := invG D) _ _ (fun k s _ hs => walkT_inv (fun now s hs => upS_inv hd hs) _ _ s hs) ?_
  exact ⟨leD_refl _, Nat.le_refl _, by simp⟩
theorem rndI_inv {fs : List (Int × Int)} {n : Nat} {d : Int} {L : List Nat} {D : List Int} (hd : 0 ≤ d) : invG D (rndG leafI fs n d L D) := by
  refine foldN_inv (I := invG D) _ _ (fun k s _ hs => walkT_inv (fun now s hs => leafI_inv hd now s hs) _ _ s hs) ?_
  exact ⟨leD_refl _, Nat.le_refl _, by simp⟩
theorem rnd_bnd {fs : List (Int × Int)} {n : Nat} {d : Int} {L : List Nat} {D : List Int} (hd : 0 ≤ d) (h : bndD d D) : bndD d (rndG leafS fs n d L D).1 :=
  foldN_inv (I := fun s : GS => bndD d s.1) _ _ (fun k s _ hs => walkT_inv (I := fun s : GS => bndD d s.1) (fun now s hs => upS_bnd hd hs) _ _ s hs) h
theorem rndI_bnd {fs : List (Int × Int)} {n : Nat} {d : Int} {L : List Nat} {D : List Int} (hd : 0 ≤ d) (h : bndD d D) : bndD d (rndG leafI fs n d L D).1 :=
  foldN_inv (I := fun s : GS => bndD d s.1) _ _ (fun k s _ hs => walkT_inv (I := fun s : GS => bndD d s.1) (fun now s hs => by unfold leafI; split; exact upS_bnd hd hs; exact hs) _ _ s hs) h
theorem valS_R (b n : Nat) (t : List Nat) : valS b (R2 n) t < R2 (R2 n) := valS_lt b (R2 n) t
theorem rnd_eq {fs : List (Int × Int)} {n : Nat} {d : Int} {D : List Int} (hd : 1 ≤ d) (hl : D.length = R2 (R2 n)) (hb : bndD (d - 1) D) (hc : gClo fs n d D) :
    kwI (R2 (R2 n)) d D = kwS (R2 (R2 n)) D ∧ rndG leafI fs n d (kwS (R2 (R2 n)) D) D = rndG leafS fs n d (kwS (R2 (R2 n)) D) D ∧ gClo fs n (d + 1) (rndG leafS fs n d (kwS (R2 (R2 n)) D) D).1 := by
  have hL : ∀ k, k < (kwS (R2 (R2 n)) D).length → 0 ≤ D.getD ((kwS (R2 (R2 n)) D).getD k 0) 0 := fun k hk => by
    exact of_decide_eq_true (selm_lt0 hk).2
  refine ⟨?_, ?_, ?_⟩
  · refine selm_congr _ fun i _ => ⟨?_, fun _ => rfl⟩
    have := hb i
    rw [Bool.eq_iff_iff]; simp only [decide_eq_true_eq]; omega
  · refine (foldN_congr (I := invG D) _ _ (fun k s hk hs => ?_) ⟨leD_refl _, Nat.le_refl _, by simp⟩).1
    refine walk_eq (a := (fs.getD k (0, 0)).1.toNat) (by omega) hL ?_ _ _ s (by rw [List.length_nil, Nat.zero_add]) (fun j hj => by simp at hj) hs
    intro t ht hin hw
    unfold isNw at hw
    rw [Bool.or_eq_false_iff] at hw
    rcases hc with h1 | hc
    · rw [h1] at hw; simp at hw
    · refine hc k hk t ht fun j hj => ?_
      obtain ⟨k', h1, h2⟩ := hin j hj
      have h3 := selm_lt0 h1
      have h4 := hL k' h1
      have h5 := hb (t.getD j 0)
      have h6 : allF (fun j => !(D.getD (t.getD j 0) 0 == d - 1)) 0 t.length = true := by simpa using hw.2
      have h7 := (allF_iff _ _).mp h6 j (by omega) (by omega)
      have h8 : D.getD (t.getD j 0) 0 ≠ d - 1 := by simpa using h7
      rw [h2] at *
      exact ⟨h3.1, h4, by omega⟩
  · right
    intro k hk t ht hm
    have hinv := rnd_inv (fs := fs) (n := n) (d := d) (L := kwS (R2 (R2 n)) D) (D := D) (by omega)
    -- members of t were known
    have hin : inL (kwS (R2 (R2 n)) D) t := fun j hj => by
      obtain ⟨g1, g2, g3⟩ := hm j hj
      have : 0 ≤ D.getD (t.getD j 0) 0 := by
        have hcell : ∀ (c : Nat), 0 ≤ (rndG leafS fs n d (kwS (R2 (R2 n)) D) D).1.getD c 0 → (rndG leafS fs n d (kwS (R2 (R2 n)) D) D).1.getD c 0 ≤ d - 1 → 0 ≤ D.getD c 0 := by
          intro c
          refine foldN_inv (I := fun s : GS => 0 ≤ s.1.getD c 0 → s.1.getD c 0 ≤ d - 1 → 0 ≤ D.getD c 0) _ _ (fun k s _ hs => walkT_inv (I := fun s : GS => 0 ≤ s.1.getD c 0 → s.1.getD c 0 ≤ d - 1 → 0 ≤ D.getD c 0) (fun now s hs => ?_) _ _ s hs) (fun h _ => h)
          unfold leafS upS
          split
          · simp only; rw [getD_set]; split
            · intro _ h; omega
            · exact hs
          · exact hs
        exact hcell _ g2 (by omega)
      obtain ⟨k', e1, e2⟩ := selm_mem (p := fun b => decide (0 ≤ D.getD b 0)) g1 (by simpa using this)
      exact ⟨k', e1, e2⟩
    have step : ∀ q, q ≤ fs.length → ((foldN (fun k s => walkT (kwS (R2 (R2 n)) D) (leafS d n (fs.getD k (0, 0)).2.toNat) (fs.getD k (0, 0)).1.toNat [] s) q (D, false)).1.length = R2 (R2 n) ∧ (k < q → 0 ≤ (foldN (fun k s => walkT (kwS (R2 (R2 n)) D) (leafS d n (fs.getD k (0, 0)).2.toNat) (fs.getD k (0, 0)).1.toNat [] s) q (D, false)).1.getD (valS (fs.getD k (0, 0)).2.toNat (R2 n) t) 0)) := by
      intro q
      induction q with
      | zero => intro _; exact ⟨hl, by omega⟩
      | succ q ih =>
        intro hq
        obtain ⟨i1, i2⟩ := ih (by omega)
        have hle := walkT_inv (L := kwS (R2 (R2 n)) D) (leaf := leafS d n (fs.getD q (0, 0)).2.toNat) (I := fun u => leD (foldN (fun k s => walkT (kwS (R2 (R2 n)) D) (leafS d n (fs.getD k (0, 0)).2.toNat) (fs.getD k (0, 0)).1.toNat [] s) q (D, false)).1 u.1) (fun nw u hu => leD_trans hu (upS_le d _ u)) (fs.getD q (0, 0)).1.toNat [] _ (leD_refl _)
        refine ⟨by rw [foldN, hle.1, i1], fun hk2 => ?_⟩
        by_cases hkq : k = q
        · subst hkq
          have := walk_cl (d := d) (n := n) (b := (fs.getD k (0, 0)).2.toNat) (L := kwS (R2 (R2 n)) D) (by omega) (valS_R _ n) (fs.getD k (0, 0)).1.toNat [] t _ i1 ht hin
          rw [List.nil_append] at this
          exact this
        · have h0 := i2 (by omega)
          rw [foldN, hle.2 _ h0]; exact h0
    exact (step fs.length (Nat.le_refl _)).2 hk
theorem gen_eq {fs : List (Int × Int)} {n : Nat} : ∀ (k d : Nat) (D : List Int), 1 ≤ d → D.length = R2 (R2 n) → bndD (d - 1) D → gClo fs n d D → genI fs n k d D = genS fs n k d D
  | 0, d, D, _, _, _, _ => rfl
  | k + 1, d, D, hd, hl, hb, hc => by
    obtain ⟨e1, e2, e3⟩ := rnd_eq (d := d) (by omega) hl hb hc
    rw [genI, genS, e1, e2]
    have hi := rnd_inv (fs := fs) (n := n) (d := d) (L := kwS (R2 (R2 n)) D) (D := D) (by omega)
    have hb2 : bndD d D := fun b => ⟨(hb b).1, by have := (hb b).2; omega⟩
    have hb3 := rnd_bnd (fs := fs) (n := n) (d := d) (L := kwS (R2 (R2 n)) D) (by omega) hb2
    have := gen_eq (fs := fs) (n := n) k (d + 1) (rndG leafS fs n d (kwS (R2 (R2 n)) D) D).1 (by omega) (by rw [hi.1.1, hl]) (by rw [show ((d + 1 : Nat) : Int) - 1 = d by omega]; exact hb3) e3
    rw [this]
def projB (n i : Nat) : Nat := pk (fun r => bt r i) (R2 n)
def D0 (n : Nat) : Nat → List Int := fun j => foldN (fun i D => D.set (projB n i) 0) j (List.replicate (R2 (R2 n)) (-1))
def depL (fs : List (Int × Int)) (n : Nat) : List Int := genS fs n (R2 (R2 n) + 1) 1 (D0 n n)
theorem D0_len (n j : Nat) : (D0 n j).length = R2 (R2 n) := foldN_inv (I := fun D : List Int => D.length = R2 (R2 n)) _ _ (fun j D _ h => by simpa using h) (by simp)
theorem D0_bnd (n j : Nat) : bndD 0 (D0 n j) := by
  refine foldN_inv (I := bndD 0) _ _ (fun j D _ h c => ?_) (fun c => ?_)
  · rw [getD_set]; split
    · omega
    · exact h c
  · rw [List.getD_eq_getElem?_getD, List.getElem?_replicate]
    split <;> simp
theorem ngs_le (D : List Int) : ngs D ≤ D.length := List.countP_le_length
theorem depL_I (fs : List (Int × Int)) (n : Nat) : genI fs n (R2 (R2 n) + 1) 1 (D0 n n) = depL fs n :=
  gen_eq _ 1 _ (by omega) (D0_len n n) (by simpa using D0_bnd n n) (.inl rfl)
theorem genS_len {fs : List (Int × Int)} {n : Nat} : ∀ (k d : Nat) (D : List Int), (genS fs n k d D).length = D.length
  | 0, d, D => rfl
  | k + 1, d, D => by
    rw [genS]
    have h := (rnd_inv (fs := fs) (n := n) (d := d) (L := kwS (R2 (R2 n)) D) (D := D) (by omega)).1.1
    split
    · rw [genS_len k, h]
    · exact h
theorem genS_bnd {fs : List (Int × Int)} {n : Nat} : ∀ (k d : Nat) (D : List Int), bndD d D → bndD (d + k) (genS fs n k d D)
  | 0, d, D, h => by simpa [genS] using h
  | k + 1, d, D, h => by
    rw [genS]
    have h1 := rnd_bnd (fs := fs) (n := n) (d := d) (L := kwS (R2 (R2 n)) D) (by omega) h
    have h2 : bndD ((d + 1 : Nat) : Int) (rndG leafS fs n d (kwS (R2 (R2 n)) D) D).1 := fun b => ⟨(h1 b).1, by have := (h1 b).2; omega⟩
    split
    · have := genS_bnd (fs := fs) (n := n) k (d + 1) _ h2
      intro b; have := this b; omega
    · intro b; have := h1 b; omega
theorem depL_len (fs : List (Int × Int)) (n : Nat) : (depL fs n).length = R2 (R2 n) := by rw [depL, genS_len, D0_len]

theorem walk_len {d : Int} {n b : Nat} {L : List Nat} (hd : 0 ≤ d) (m : Nat) (l : List Nat) (s : GS) : (walkT L (leafI d n b) m l s).1.length = s.1.length :=
  walkT_inv (I := fun u : GS => u.1.length = s.1.length) (fun now u hu => by
    unfold leafI; split
    · unfold leafS; rw [(upS_le d _ u).1, hu]
    · exact hu) m l s rfl
theorem fold_len {d : Int} {n b : Nat} {L : List Nat} (hd : 0 ≤ d) (m : Nat) (l : List Nat) (s : GS) (i : Nat) : (foldN (fun j s => walkT L (leafI d n b) m (l ++ [L.getD j 0]) s) i s).1.length = s.1.length :=
  foldN_inv (I := fun u : GS => u.1.length = s.1.length) _ _ (fun j u _ hu => by rw [walk_len hd, hu]) rfl
theorem allF_at {P : Nat → Bool} {n i : Nat} (h : allF P 0 n = true) (hi : i < n) : P i = true := by
  rw [allF_iff] at h; exact h i (Nat.zero_le _) (by omega)
theorem projB_lt (n i : Nat) : projB n i < R2 (R2 n) := pk_lt fun r _ => bt_le _ _
theorem D0_s (n i : Nat) : D0 n (i + 1) = (D0 n i).set (projB n i) 0 := rfl
def rndT (fs : List (Int × Int)) (n : Nat) (d : Int) (L : List Nat) (D : List Int) (i : Nat) : GS := foldN (fun k s => walkT L (leafI d n (fs.getD k (0, 0)).2.toNat) (fs.getD k (0, 0)).1.toNat [] s) i (D, false)
theorem rndT_len {fs : List (Int × Int)} {n : Nat} {d : Int} {L : List Nat} {D : List Int} (hd : 0 ≤ d) (i : Nat) : (rndT fs n d L D i).1.length = D.length :=
  foldN_inv (I := fun u : GS => u.1.length = D.length) _ _ (fun j u _ hu => by rw [walk_len hd, hu]) rfl
def a3 (fs : List (Int × Int)) : Bool := allF (fun j => !decide ((fs.getD j (0, 0)).1 > 2)) 0 fs.length
def gcode (fs : List (Int × Int)) (z : Int) : Int := if lcode fs = 0 then (if 2 ≤ z ∧ z ≤ 3 then (if z = 3 ∧ a3 fs = false then 2 else 0) else 2) else lcode fs
theorem fns_at0 {l : List (Int × Int)} {j : Nat} (h : j < l.length) : (fns l)[0 + j * 2 + 0]? = some (.int .i64 (l.getD j (0, 0)).1) := by
  have h2 := congrArg (fun q : List V => q[0]?) (fns_get h).2.2
  simpa [List.getElem?_take, List.getElem?_drop] using h2
theorem gcode_0 {fs : List (Int × Int)} {z : Int} (h : gcode fs z = 0) : allFunc fs = true ∧ fs.length ≤ 8 ∧ 2 ≤ z ∧ z ≤ 3 := by
  unfold gcode at h
  split at h
  · rename_i h0
    split at h
    · rename_i h1
      unfold lcode at h0
      split at h0
      · rename_i ha
        split at h0
        · omega
        · exact ⟨ha, by omega, h1⟩
      · omega
    · omega
  · exact absurd h (by assumption)
theorem genS_le {fs : List (Int × Int)} {n : Nat} : ∀ (k d : Nat) (D : List Int), leD D (genS fs n k d D)
  | 0, d, D => leD_refl D
  | k + 1, d, D => by
    rw [genS]
    have h := (rnd_inv (fs := fs) (n := n) (d := d) (L := kwS (R2 (R2 n)) D) (D := D) (by omega)).1
    split
    · exact leD_trans h (genS_le k _ _)
    · exact h
theorem depL_pj {fs : List (Int × Int)} {n i : Nat} (hi : i < n) : (depL fs n).getD (projB n i) 0 = 0 := by
  have h0 : ∀ m, i < m → (D0 n m).getD (projB n i) 0 = 0 := by
    intro m
    induction m with
    | zero => intro h; omega
    | succ m ih =>
      intro h
      rw [D0_s, getD_set]
      split
      · rfl
      · by_cases e : i = m
        · subst e; rename_i hn; exact absurd ⟨rfl, by rw [D0_len]; exact projB_lt _ _⟩ hn
        · exact ih (by omega)
  have h1 := h0 n hi
  rw [depL, (genS_le _ _ _).2 _ (by omega), h1]
theorem kw_dep {fs : List (Int × Int)} {n : Nat} (hn : 1 ≤ n) : kwS (R2 (R2 n)) (depL fs n) ≠ [] := by
  obtain ⟨k, hk, _⟩ := selm_mem (p := fun b => decide (0 ≤ (depL fs n).getD b 0)) (n := R2 (R2 n)) (x := projB n 0) (projB_lt _ _) (by simp only [decide_eq_true_eq]; rw [depL_pj hn]; omega)
  intro he
  have he' : selm (fun b => decide (0 ≤ (depL fs n).getD b 0)) idn (R2 (R2 n)) = [] := he
  rw [he'] at hk; simp at hk
def gbL (fs : List (Int × Int)) (z : Int) : List Nat := if gcode fs z = 0 then kwS (R2 (R2 z.toNat)) (depL fs z.toNat) else []
abbrev gbC (fs : List (Int × Int)) (z : Int) : Int := gcode fs z
theorem gbL_len (fs : List (Int × Int)) (z : Int) : (gbL fs z).length ≤ 65536 := by
  unfold gbL
  split
  · rename_i h
    have hz := gcode_0 h
    have := selm_len (fun b => decide (0 ≤ (depL fs z.toNat).getD b 0)) idn (R2 (R2 z.toNat))
    have h2 := (shN (n := z.toNat) (by omega)).2.1
    unfold kwS; omega
  · simp
-- 75
def sbs (x y : Nat) : Prop := x &&& y = x
theorem sbs_refl (x : Nat) : sbs x x := Nat.and_self x
theorem sbs_tb {x y : Nat} : sbs x y ↔ ∀ i, x.testBit i = true → y.testBit i = true := by
  unfold sbs
  constructor
  · intro h i hi
    have := congrArg (fun z => z.testBit i) h
    simp only [Nat.testBit_and, hi, Bool.true_and] at this
    exact this
  · intro h
    apply Nat.eq_of_testBit_eq
    intro i
    rw [Nat.testBit_and]
    cases hx : x.testBit i
    · rfl
    · rw [h i hx]; rfl
theorem sbs_trans {x y z : Nat} (h1 : sbs x y) (h2 : sbs y z) : sbs x z := sbs_tb.mpr fun i hi => sbs_tb.mp h2 i (sbs_tb.mp h1 i hi)
theorem sbs_anti {x y : Nat} (h1 : sbs x y) (h2 : sbs y x) : x = y := by
  apply Nat.eq_of_testBit_eq
  intro i
  rw [Bool.eq_iff_iff]; exact ⟨sbs_tb.mp h1 i, sbs_tb.mp h2 i⟩
theorem sbs_or {x y z : Nat} : sbs (x ||| y) z ↔ sbs x z ∧ sbs y z := sb_or x y z
theorem sbs_l (x y : Nat) : sbs x (x ||| y) := (sbs_or.mp (sbs_refl _)).1
theorem sbs_r (x y : Nat) : sbs y (x ||| y) := (sbs_or.mp (sbs_refl _)).2
theorem or_sbs {x y : Nat} (h : sbs y x) : x ||| y = x := sbs_anti (sbs_or.mpr ⟨sbs_refl x, h⟩) (sbs_l _ _)
theorem chkA_sub {P : Nat → Bool} {l l' : List Nat} (hs : ∀ j, j < l.length → ∃ k, k < l'.length ∧ l.getD j 0 = l'.getD k 0) {b p : Nat} : ∀ (m : Nat) (s : List Nat), chkA P l' b p m s = true → chkA P l b p m s = true
  | 0, s, h => h
  | m + 1, s, h => by
    rw [chkA, allF_iff] at h ⊢
    intro j _ hj
    obtain ⟨k, hk, e⟩ := hs j (by omega)
    rw [e]; exact chkA_sub hs m _ (h k (Nat.zero_le _) (by omega))
def clM (fs : List (Int × Int)) (p k r : Nat) : Nat := mbA (tupL p r) (fs.getD k (0, 0)).2.toNat p (fs.getD k (0, 0)).1.toNat []
theorem tup_sub {p r r' : Nat} (h : sbs r r') : ∀ j, j < (tupL p r).length → ∃ k, k < (tupL p r').length ∧ (tupL p r).getD j 0 = (tupL p r').getD k 0 := by
  intro j hj
  obtain ⟨h1, h2⟩ := selm_lt0 (p := fun t => bt r t == 1) (n := R2 p) hj
  obtain ⟨k, hk, e⟩ := selm_mem (p := fun t => bt r' t == 1) (n := R2 p) h1 (by
    rw [beq_iff_eq] at h2 ⊢
    rw [bt_tb] at h2 ⊢
    have ht : r.testBit ((selm (fun t => bt r t == 1) idn (R2 p)).getD j 0) = true := by
      revert h2; cases r.testBit ((selm (fun t => bt r t == 1) idn (R2 p)).getD j 0) <;> simp
    rw [sbs_tb.mp h _ ht]; rfl)
  exact ⟨k, hk, e⟩
theorem clM_mono {fs : List (Int × Int)} {p k r r' : Nat} (h : sbs r r') : sbs (clM fs p k r) (clM fs p k r') :=
  (keep_eq _ _ _ _ _ _).mpr (chkA_sub (tup_sub h) _ _ ((keep_eq _ _ _ _ _ _).mp (sbs_refl _)))
theorem clM_lt (fs : List (Int × Int)) (p k r : Nat) : clM fs p k r < R2 (R2 p) := mbA_lt _ _ _ _ _
def cgI (fs : List (Int × Int)) (p i r : Nat) : Nat := foldN (fun k u => u ||| clM fs p k u) i r
def cgS (fs : List (Int × Int)) (p r i : Nat) : Nat := foldN (fun k u => u ||| clM fs p k r) i r
theorem cgI_lt {fs : List (Int × Int)} {p r : Nat} (i : Nat) (h : r < R2 (R2 p)) : cgI fs p i r < R2 (R2 p) := foldN_inv (I := fun u => u < R2 (R2 p)) _ _ (fun k u _ hu => or_lt hu (clM_lt _ _ _ _)) h
theorem cgS_lt {fs : List (Int × Int)} {p r : Nat} (i : Nat) (h : r < R2 (R2 p)) : cgS fs p r i < R2 (R2 p) := foldN_inv (I := fun u => u < R2 (R2 p)) _ _ (fun k u _ hu => or_lt hu (clM_lt _ _ _ _)) h
theorem cgI_sup (fs : List (Int × Int)) (p i r : Nat) : sbs r (cgI fs p i r) := foldN_inv (I := fun u => sbs r u) _ _ (fun k u _ hu => sbs_trans hu (sbs_l _ _)) (sbs_refl r)
theorem cgS_sup (fs : List (Int × Int)) (p i r : Nat) : sbs r (cgS fs p r i) := foldN_inv (I := fun u => sbs r u) _ _ (fun k u _ hu => sbs_trans hu (sbs_l _ _)) (sbs_refl r)
def clsd (fs : List (Int × Int)) (p r : Nat) : Prop := ∀ k, k < fs.length → sbs (clM fs p k r) r
theorem cgI_sub {fs : List (Int × Int)} {p r C : Nat} (hc : clsd fs p C) (h : sbs r C) : sbs (cgI fs p fs.length r) C :=
  foldN_inv (I := fun u => sbs u C) _ _ (fun k u hk hu => sbs_or.mpr ⟨hu, sbs_trans (clM_mono hu) (hc k hk)⟩) h
theorem cgS_sub {fs : List (Int × Int)} {p r C : Nat} (hc : clsd fs p C) (h : sbs r C) : sbs (cgS fs p r fs.length) C :=
  foldN_inv (I := fun u => sbs u C) _ _ (fun k u hk hu => sbs_or.mpr ⟨hu, sbs_trans (clM_mono h) (hc k hk)⟩) h
theorem foldN_eqv {g : Nat → Nat → Nat} (hg : ∀ k u, sbs u (g k u)) {r : Nat} : ∀ n, foldN g n r = r → ∀ k, k < n → g k r = r ∧ foldN g k r = r
  | 0, _, k, hk => by omega
  | n + 1, h, k, hk => by
    have h1 : sbs (foldN g n r) (g n (foldN g n r)) := hg _ _
    have h2 : sbs r (foldN g n r) := foldN_inv (I := fun u => sbs r u) n r (fun j u _ hu => sbs_trans hu (hg _ _)) (sbs_refl r)
    have h3 : g n (foldN g n r) = r := h
    rw [h3] at h1
    have h4 := sbs_anti h1 h2
    by_cases e : k = n
    · subst e; rw [h4] at h3; exact ⟨h3, h4⟩
    · exact foldN_eqv hg n h4 k (by omega)
theorem cgI_fix {fs : List (Int × Int)} {p r : Nat} (h : cgI fs p fs.length r = r) : clsd fs p r := fun k hk => by
  have := (foldN_eqv (g := fun k u => u ||| clM fs p k u) (fun k u => sbs_l _ _) fs.length h k hk).1
  rw [← this]; exact sbs_trans (clM_mono (by rw [this]; exact sbs_refl _)) (sbs_r _ _)
theorem cgS_fix {fs : List (Int × Int)} {p r : Nat} (h : cgS fs p r fs.length = r) : clsd fs p r := fun k hk => by
  have := (foldN_eqv (g := fun k u => u ||| clM fs p k r) (fun k u => sbs_l _ _) fs.length h k hk).1
  have h2 := sbs_r r (clM fs p k r)
  rwa [show r ||| clM fs p k r = r from this] at h2
def clI (fs : List (Int × Int)) (p : Nat) : Nat → Nat → Nat
  | 0, r => r
  | k + 1, r => if cgI fs p fs.length r = r then r else clI fs p k (cgI fs p fs.length r)
def clS (fs : List (Int × Int)) (p : Nat) : Nat → Nat → Nat
  | 0, r => r
  | k + 1, r => if cgS fs p r fs.length = r then r else clS fs p k (cgS fs p r fs.length)
theorem sbs_le {x y : Nat} (h : sbs x y) : x ≤ y := by rw [← h]; exact Nat.and_le_right
theorem clI_ok {fs : List (Int × Int)} {p : Nat} : ∀ (k r : Nat), r < R2 (R2 p) → R2 (R2 p) - r ≤ k → clsd fs p (clI fs p k r) ∧ sbs r (clI fs p k r) ∧ ∀ C, clsd fs p C → sbs r C → sbs (clI fs p k r) C
  | 0, r, h1, h2 => by omega
  | k + 1, r, h1, h2 => by
    rw [clI]
    by_cases h : cgI fs p fs.length r = r
    · rw [if_pos h]; exact ⟨cgI_fix h, sbs_refl r, fun C _ h => h⟩
    · rw [if_neg h]
      have h3 := cgI_sup fs p fs.length r
      have h4 := sbs_le h3
      obtain ⟨i1, i2, i3⟩ := clI_ok (fs := fs) k (cgI fs p fs.length r) (cgI_lt _ h1) (by omega)
      exact ⟨i1, sbs_trans h3 i2, fun C hC hr => i3 C hC (cgI_sub hC hr)⟩
theorem clS_ok {fs : List (Int × Int)} {p : Nat} : ∀ (k r : Nat), r < R2 (R2 p) → R2 (R2 p) - r ≤ k → clsd fs p (clS fs p k r) ∧ sbs r (clS fs p k r) ∧ ∀ C, clsd fs p C → sbs r C → sbs (clS fs p k r) C
  | 0, r, h1, h2 => by omega
  | k + 1, r, h1, h2 => by
    rw [clS]
    by_cases h : cgS fs p r fs.length = r
    · rw [if_pos h]; exact ⟨cgS_fix h, sbs_refl r, fun C _ h => h⟩
    · rw [if_neg h]
      have h3 := cgS_sup fs p fs.length r
      have h4 := sbs_le h3
      obtain ⟨i1, i2, i3⟩ := clS_ok (fs := fs) k (cgS fs p r fs.length) (cgS_lt _ h1) (by omega)
      exact ⟨i1, sbs_trans h3 i2, fun C hC hr => i3 C hC (cgS_sub hC hr)⟩
theorem cl_eq {fs : List (Int × Int)} {p r : Nat} (hr : r < R2 (R2 p)) : clS fs p (R2 (R2 p)) r = clI fs p (R2 (R2 p)) r := by
  obtain ⟨a1, a2, a3⟩ := clI_ok (fs := fs) (R2 (R2 p)) r hr (by omega)
  obtain ⟨b1, b2, b3⟩ := clS_ok (fs := fs) (R2 (R2 p)) r hr (by omega)
  exact sbs_anti (b3 _ a1 a2) (a3 _ b1 b2)
-- impl.closure$1
def m119 : MC := (.seq (.region [⟨(.mov (.k (.bool false))), (some 3), none⟩] false) (.seq (.region [⟨(.fieldAddr 1 (.t 1)), (some 4), none⟩, ⟨(.load none (.t 4)), (some 5), none⟩, ⟨(.mov (.t 0)), (some 6), none⟩, ⟨(.bin .shl (.k (.int .i64 1)) (.t 6)), (some 7), none⟩, ⟨(.bin .or (.t 5) (.t 7)), (some 8), none⟩, ⟨(.fieldAddr 1 (.t 1)), (some 9), none⟩, ⟨(.store 1 (.t 9) (.t 8)), none, none⟩] true) (.seq (.region [⟨(.mov (.k (.bool true))), (some 3), none⟩] false) .ret)))
theorem has119 : Has cx 119 10 m119 [(.tmp 3)] :=
  ⟨⟨Try.f119, Try.f119.body.getD .skip, by kernel_rfl, by kernel_rfl, by kernel_rfl, by kernel_rfl, by kernel_rfl, by kernel_rfl⟩⟩
theorem evclb (p r t : Nat) (ht : t < 16) (hr : r < 65536) : Ev cx 119 [.int .i64 t, .ptr 0 0] [⟨[.int .i64 p, .int .i64 r], 1, 0, some 0, true⟩] (.bool true) [⟨[.int .i64 p, .int .i64 (r ||| R2 t : Nat)], 1, 0, some 0, true⟩] := by
  have h16 : R2 16 = 65536 := by unfold R2; rfl
  have h1 := R2_mono (i := t) (n := 16) (by omega)
  have hs := b_shl1 (k' := .i64) (y := t) (by omega) (by omega)
  have hor := b_or (x := r) (y := R2 t) (by omega) (by omega)
  refine has119.eev rfl rfl ?_
  unfold m119
  repeat' (first
    | (refine g_op ?_; first
      | refine ep_mov rfl ?_ | refine ep_load1 rfl rfl rfl rfl ?_ | refine ep_fieldAddr rfl ?_
      | refine ep_bin rfl rfl (by first | exact hs | exact hor | exact b_add (by omega) (by omega) | exact b_sub (by omega) (by omega) | exact b_and (by omega) (by omega) | exact b_or (by omega) (by omega) | exact b_shr (by omega) | exact b_shl (by omega) (by omega) | exact b_lss | exact b_leq | exact b_gtr | exact b_geq | exact b_eql | exact b_neq) ?_
      | refine sp_store rfl rfl rfl rfl rfl rfl rfl rfl rfl rfl ?_)
    | (refine g_ops ?_; first | refine eo_none ?_ | refine eo_nil ?_)
    | (refine g_dops ?_; first | refine ed_none ?_ | refine ed_nil ?_)
    | refine ed_same rfl ?_ | refine ed_one rfl rfl rfl rfl ?_ | refine ed_two rfl rfl rfl rfl rfl rfl rfl ?_ | refine ed_write rfl rfl ?_
    | (refine g_code ?_; first | refine ec_seq ?_ | refine ec_region ?_ | refine ec_draw ?_ | refine ec_ret ?_)
    | refine ek_seqN ?_ | refine ek_seqR ?_)
  refine sfin (.inr rfl) (by rfl) (by rfl) (by exact ⟨rfl, rfl, rfl⟩) (by rfl) (by rfl) (by rfl) (by first | rfl | (simp; done) | (simp [ints, prs]; done))
-- 75 117
theorem lpkc0_e (n b p : Nat) (t : Nat) (s : List Nat) (hn : n ≤ 4) (hb : b < 65536) (hp : p ≤ 4) (hp1 : 1 ≤ p) (hl : ∀ j, j < ([] : List Nat).length → ([] : List Nat).getD j 0 < 65536) (hll : ([] : List Nat).length ≤ 65536) (hs0 : s.length = n) :
    LpS cx 75 2 m117_0 [(3, .sl 0 0 p), (5, .fn 119 [.ptr 1 0]), (6, .ptr 2 0), (13, .int .i64 (pk (fun q => bt b (rowS s q)) (0) : Nat)), (23, .int .i64 (p : Nat)), (24, .int .i64 (0 : Nat))] [⟨ints (rowsL p (s)), 1, 0, some 0, false⟩, ⟨[.int .i64 (p : Nat), .int .i64 (t : Nat)], 1, 1, some 0, true⟩, ⟨[.int .i64 (n : Nat), .int .i64 (b : Nat)], 1, 2, some 0, true⟩] (⟨.exit 0, [(5, .fn 119 [.ptr 1 0]), (13, .int .i64 (pk (fun q => bt b (rowS s q)) (p) : Nat))], [⟨ints (rowsL p (s)), 1, 0, some 0, false⟩, ⟨[.int .i64 (p : Nat), .int .i64 (t : Nat)], 1, 1, some 0, true⟩]⟩ : Out).x (⟨.exit 0, [(5, .fn 119 [.ptr 1 0]), (13, .int .i64 (pk (fun q => bt b (rowS s q)) (p) : Nat))], [⟨ints (rowsL p (s)), 1, 0, some 0, false⟩, ⟨[.int .i64 (p : Nat), .int .i64 (t : Nat)], 1, 1, some 0, true⟩]⟩ : Out).e (⟨.exit 0, [(5, .fn 119 [.ptr 1 0]), (13, .int .i64 (pk (fun q => bt b (rowS s q)) (p) : Nat))], [⟨ints (rowsL p (s)), 1, 0, some 0, false⟩, ⟨[.int .i64 (p : Nat), .int .i64 (t : Nat)], 1, 1, some 0, true⟩]⟩ : Out).h := by
  obtain ⟨h1, h2, h3, h4⟩ := shN hn
  obtain ⟨g1, g2, g3, g4⟩ := shN hp
  refine lp_st (p) (fun _ => ()) (fun i _ => [(3, .sl 0 0 p), (5, .fn 119 [.ptr 1 0]), (6, .ptr 2 0), (13, .int .i64 (pk (fun q => bt b (rowS s q)) (i) : Nat)), (23, .int .i64 (p : Nat)), (24, .int .i64 (i : Nat))]) (fun i _ => [⟨ints (rowsL p (s)), 1, 0, some 0, false⟩, ⟨[.int .i64 (p : Nat), .int .i64 (t : Nat)], 1, 1, some 0, true⟩, ⟨[.int .i64 (n : Nat), .int .i64 (b : Nat)], 1, 2, some 0, true⟩]) (fun _ => (⟨.exit 0, [(5, .fn 119 [.ptr 1 0]), (13, .int .i64 (pk (fun q => bt b (rowS s q)) (p) : Nat))], [⟨ints (rowsL p (s)), 1, 0, some 0, false⟩, ⟨[.int .i64 (p : Nat), .int .i64 (t : Nat)], 1, 1, some 0, true⟩]⟩ : Out)) ?_ ?_ (p) 0 (by omega)
  · intro i u_ hi hu_
    refine ⟨(), rfl, ?_⟩
    have hlt : decide ((i : Int) < (p : Nat)) = true := decide_eq_true (by omega)
    have hget : (ints (rowsL p s))[0 + i * 1]? = some (.int .i64 (rowS s i : Nat)) := by simp [ints, rowsL, hi]
    have hr := rowS_lt s i
    rw [hs0] at hr
    have hb1 := bt_le b (rowS s i)
    have hs1 := sl_lt hb1 hi
    have hp0 := pk_lt (g := fun q => bt b (rowS s q)) (n := i) fun r _ => bt_le _ _
    have hp2 := R2_mono (i := i) (n := p) (by omega)
    have hx := or_lt (n := p) (show pk (fun q => bt b (rowS s q)) i < R2 p by omega) hs1
    unfold m117_0
    repeat' (first
      | refine ep_loadS rfl rfl rfl hget ?_
      | (refine g_op ?_; first
        | refine ep_mov rfl ?_ | refine ep_load1 rfl rfl rfl rfl ?_ | refine sp_loadN rfl rfl rfl rfl rfl ?_
        | refine ep_callw0 rfl (by first | exact ev104 n b (rowS s i) (by omega) (by omega)) rfl rfl ?_
        | refine sp_callw rfl rfl rfl rfl (by first | exact ev104 n b (rowS s i) (by omega) (by omega)) ⟨rfl, rfl, rfl, rfl⟩ rfl rfl rfl (by first | exact WrP_refl _ _ | (repeat' (first | exact rfl | exact True.intro | refine And.intro ?_ ?_))) ?_
        | refine ep_bin rfl rfl (by first | exact b_shl (x := bt b (rowS s i)) (by omega) (by omega) | exact b_add (by omega) (by omega) | exact b_sub (by omega) (by omega) | exact b_and (by omega) (by omega) | exact b_or (by omega) (by omega) | exact b_shr (by omega) | exact b_shl (by omega) (by omega) | exact b_lss | exact b_leq | exact b_gtr | exact b_geq | exact b_eql | exact b_neq) ?_
        | refine sp_idx rfl rfl rfl (by omega) rfl ?_ | refine ep_loadS rfl rfl rfl (by first | exact ints_get (by omega) | exact zints_get (by omega) | exact fget (by omega) | assumption) ?_ | refine ep_loadSN rfl rfl rfl (by first | exact prs_get (by omega) | exact fns_get (by omega)) ?_)
      | (refine g_ops ?_; first | refine eo_none ?_ | refine eo_nil ?_)
      | (refine g_dops ?_; first | refine ed_none ?_ | refine ed_nil ?_)
      | refine ed_same rfl ?_ | refine ed_one rfl rfl rfl rfl ?_ | refine ed_two rfl rfl rfl rfl rfl rfl rfl ?_ | refine ed_write rfl rfl ?_
      | (refine g_code ?_; first | refine ec_seq ?_ | refine ec_region ?_ | refine ec_draw ?_ | refine ec_block ?_ | refine ec_skip ?_ | refine ec_exit ?_ | refine ec_condT rfl ?_ | refine ec_condF rfl ?_ | refine ec_condTH rfl (by assumption) ?_ | refine ec_condFH rfl (by assumption) ?_)
      | refine ek_seqN ?_ | refine ek_seqX ?_ | refine ek_blkN ?_ | refine ek_blkR ?_ | refine ek_blkX ?_ | refine ek_blkY rfl ?_)
    exact rnd_on (by rfl) (scmp2 (by rfl) (by rfl) (by exact ⟨rfl, rfl, rfl⟩) (by rfl) (by first | rfl | (simp; done) | (simp [ints, prs]; done)) (by rfl) (by first | rfl | (simp; done) | (simp [ints, prs]; done)))
  · intro u_ hu_
    have hlt : decide (((p : Nat) : Int) < (p : Nat)) = false := decide_eq_false (by omega)
    unfold m117_0
    repeat' (first
      | (refine g_op ?_; first
        | refine ep_mov rfl ?_ | refine ep_load1 rfl rfl rfl rfl ?_ | refine sp_loadN rfl rfl rfl rfl rfl ?_
        | refine ep_bin rfl rfl (by first | exact b_add (by omega) (by omega) | exact b_sub (by omega) (by omega) | exact b_and (by omega) (by omega) | exact b_or (by omega) (by omega) | exact b_shr (by omega) | exact b_shl (by omega) (by omega) | exact b_lss | exact b_leq | exact b_gtr | exact b_geq | exact b_eql | exact b_neq) ?_
        | refine sp_idx rfl rfl rfl (by omega) rfl ?_ | refine ep_loadS rfl rfl rfl (by first | exact ints_get (by omega) | exact zints_get (by omega) | exact fget (by omega) | assumption) ?_ | refine ep_loadSN rfl rfl rfl (by first | exact prs_get (by omega) | exact fns_get (by omega)) ?_)
      | (refine g_ops ?_; first | refine eo_none ?_ | refine eo_nil ?_)
      | (refine g_dops ?_; first | refine ed_none ?_ | refine ed_nil ?_)
      | refine ed_same rfl ?_ | refine ed_one rfl rfl rfl rfl ?_ | refine ed_two rfl rfl rfl rfl rfl rfl rfl ?_ | refine ed_write rfl rfl ?_
      | (refine g_code ?_; first | refine ec_seq ?_ | refine ec_region ?_ | refine ec_draw ?_ | refine ec_block ?_ | refine ec_skip ?_ | refine ec_exit ?_ | refine ec_condT rfl ?_ | refine ec_condF rfl ?_ | refine ec_condTH rfl (by assumption) ?_ | refine ec_condFH rfl (by assumption) ?_)
      | refine ek_seqN ?_ | refine ek_seqX ?_ | refine ek_blkN ?_ | refine ek_blkR ?_ | refine ek_blkX ?_ | refine ek_blkY rfl ?_)
    exact rnd_out (by rfl) (by simp) (scmp2 (by rfl) (by rfl) (by exact ⟨rfl, rfl, rfl⟩) (by rfl) (by first | rfl | (simp; done) | (simp [ints, prs]; done)) (by rfl) (by first | rfl | (simp; done) | (simp [ints, prs]; done)))

theorem lpkc0_c (n b p : Nat) (L : List Nat) (t : Nat) (s : List Nat) (hn : n ≤ 4) (hb : b < 65536) (hp : p ≤ 4) (hp1 : 1 ≤ p) (hl : ∀ j, j < L.length → L.getD j 0 < 65536) (hll : L.length ≤ 65536) (hs0 : s.length = n) :
    LpS cx 75 3 m117_0 [(3, .sl 1 0 p), (5, .fn 119 [.ptr 2 0]), (6, .ptr 3 0), (13, .int .i64 (pk (fun q => bt b (rowS s q)) (0) : Nat)), (23, .int .i64 (p : Nat)), (24, .int .i64 (0 : Nat))] [⟨ints L, 1, 0, some 0, false⟩, ⟨ints (rowsL p (s)), 1, 1, some 0, false⟩, ⟨[.int .i64 (p : Nat), .int .i64 (t : Nat)], 1, 2, some 0, true⟩, ⟨[.int .i64 (n : Nat), .int .i64 (b : Nat)], 1, 3, some 0, true⟩] (⟨.exit 0, [(5, .fn 119 [.ptr 2 0]), (13, .int .i64 (pk (fun q => bt b (rowS s q)) (p) : Nat))], [⟨ints L, 1, 0, some 0, false⟩, ⟨ints (rowsL p (s)), 1, 1, some 0, false⟩, ⟨[.int .i64 (p : Nat), .int .i64 (t : Nat)], 1, 2, some 0, true⟩]⟩ : Out).x (⟨.exit 0, [(5, .fn 119 [.ptr 2 0]), (13, .int .i64 (pk (fun q => bt b (rowS s q)) (p) : Nat))], [⟨ints L, 1, 0, some 0, false⟩, ⟨ints (rowsL p (s)), 1, 1, some 0, false⟩, ⟨[.int .i64 (p : Nat), .int .i64 (t : Nat)], 1, 2, some 0, true⟩]⟩ : Out).e (⟨.exit 0, [(5, .fn 119 [.ptr 2 0]), (13, .int .i64 (pk (fun q => bt b (rowS s q)) (p) : Nat))], [⟨ints L, 1, 0, some 0, false⟩, ⟨ints (rowsL p (s)), 1, 1, some 0, false⟩, ⟨[.int .i64 (p : Nat), .int .i64 (t : Nat)], 1, 2, some 0, true⟩]⟩ : Out).h := by
  obtain ⟨h1, h2, h3, h4⟩ := shN hn
  obtain ⟨g1, g2, g3, g4⟩ := shN hp
  refine lp_st (p) (fun _ => ()) (fun i _ => [(3, .sl 1 0 p), (5, .fn 119 [.ptr 2 0]), (6, .ptr 3 0), (13, .int .i64 (pk (fun q => bt b (rowS s q)) (i) : Nat)), (23, .int .i64 (p : Nat)), (24, .int .i64 (i : Nat))]) (fun i _ => [⟨ints L, 1, 0, some 0, false⟩, ⟨ints (rowsL p (s)), 1, 1, some 0, false⟩, ⟨[.int .i64 (p : Nat), .int .i64 (t : Nat)], 1, 2, some 0, true⟩, ⟨[.int .i64 (n : Nat), .int .i64 (b : Nat)], 1, 3, some 0, true⟩]) (fun _ => (⟨.exit 0, [(5, .fn 119 [.ptr 2 0]), (13, .int .i64 (pk (fun q => bt b (rowS s q)) (p) : Nat))], [⟨ints L, 1, 0, some 0, false⟩, ⟨ints (rowsL p (s)), 1, 1, some 0, false⟩, ⟨[.int .i64 (p : Nat), .int .i64 (t : Nat)], 1, 2, some 0, true⟩]⟩ : Out)) ?_ ?_ (p) 0 (by omega)
  · intro i u_ hi hu_
    refine ⟨(), rfl, ?_⟩
    have hlt : decide ((i : Int) < (p : Nat)) = true := decide_eq_true (by omega)
    have hget : (ints (rowsL p s))[0 + i * 1]? = some (.int .i64 (rowS s i : Nat)) := by simp [ints, rowsL, hi]
    have hr := rowS_lt s i
    rw [hs0] at hr
    have hb1 := bt_le b (rowS s i)
    have hs1 := sl_lt hb1 hi
    have hp0 := pk_lt (g := fun q => bt b (rowS s q)) (n := i) fun r _ => bt_le _ _
    have hp2 := R2_mono (i := i) (n := p) (by omega)
    have hx := or_lt (n := p) (show pk (fun q => bt b (rowS s q)) i < R2 p by omega) hs1
    unfold m117_0
    repeat' (first
      | refine ep_loadS rfl rfl rfl hget ?_
      | (refine g_op ?_; first
        | refine ep_mov rfl ?_ | refine ep_load1 rfl rfl rfl rfl ?_ | refine sp_loadN rfl rfl rfl rfl rfl ?_
        | refine ep_callw0 rfl (by first | exact ev104 n b (rowS s i) (by omega) (by omega)) rfl rfl ?_
        | refine sp_callw rfl rfl rfl rfl (by first | exact ev104 n b (rowS s i) (by omega) (by omega)) ⟨rfl, rfl, rfl, rfl⟩ rfl rfl rfl (by first | exact WrP_refl _ _ | (repeat' (first | exact rfl | exact True.intro | refine And.intro ?_ ?_))) ?_
        | refine ep_bin rfl rfl (by first | exact b_shl (x := bt b (rowS s i)) (by omega) (by omega) | exact b_add (by omega) (by omega) | exact b_sub (by omega) (by omega) | exact b_and (by omega) (by omega) | exact b_or (by omega) (by omega) | exact b_shr (by omega) | exact b_shl (by omega) (by omega) | exact b_lss | exact b_leq | exact b_gtr | exact b_geq | exact b_eql | exact b_neq) ?_
        | refine sp_idx rfl rfl rfl (by omega) rfl ?_ | refine ep_loadS rfl rfl rfl (by first | exact ints_get (by omega) | exact zints_get (by omega) | exact fget (by omega) | assumption) ?_ | refine ep_loadSN rfl rfl rfl (by first | exact prs_get (by omega) | exact fns_get (by omega)) ?_)
      | (refine g_ops ?_; first | refine eo_none ?_ | refine eo_nil ?_)
      | (refine g_dops ?_; first | refine ed_none ?_ | refine ed_nil ?_)
      | refine ed_same rfl ?_ | refine ed_one rfl rfl rfl rfl ?_ | refine ed_two rfl rfl rfl rfl rfl rfl rfl ?_ | refine ed_write rfl rfl ?_
      | (refine g_code ?_; first | refine ec_seq ?_ | refine ec_region ?_ | refine ec_draw ?_ | refine ec_block ?_ | refine ec_skip ?_ | refine ec_exit ?_ | refine ec_condT rfl ?_ | refine ec_condF rfl ?_ | refine ec_condTH rfl (by assumption) ?_ | refine ec_condFH rfl (by assumption) ?_)
      | refine ek_seqN ?_ | refine ek_seqX ?_ | refine ek_blkN ?_ | refine ek_blkR ?_ | refine ek_blkX ?_ | refine ek_blkY rfl ?_)
    exact rnd_on (by rfl) (scmp2 (by rfl) (by rfl) (by exact ⟨rfl, rfl, rfl⟩) (by rfl) (by first | rfl | (simp; done) | (simp [ints, prs]; done)) (by rfl) (by first | rfl | (simp; done) | (simp [ints, prs]; done)))
  · intro u_ hu_
    have hlt : decide (((p : Nat) : Int) < (p : Nat)) = false := decide_eq_false (by omega)
    unfold m117_0
    repeat' (first
      | (refine g_op ?_; first
        | refine ep_mov rfl ?_ | refine ep_load1 rfl rfl rfl rfl ?_ | refine sp_loadN rfl rfl rfl rfl rfl ?_
        | refine ep_bin rfl rfl (by first | exact b_add (by omega) (by omega) | exact b_sub (by omega) (by omega) | exact b_and (by omega) (by omega) | exact b_or (by omega) (by omega) | exact b_shr (by omega) | exact b_shl (by omega) (by omega) | exact b_lss | exact b_leq | exact b_gtr | exact b_geq | exact b_eql | exact b_neq) ?_
        | refine sp_idx rfl rfl rfl (by omega) rfl ?_ | refine ep_loadS rfl rfl rfl (by first | exact ints_get (by omega) | exact zints_get (by omega) | exact fget (by omega) | assumption) ?_ | refine ep_loadSN rfl rfl rfl (by first | exact prs_get (by omega) | exact fns_get (by omega)) ?_)
      | (refine g_ops ?_; first | refine eo_none ?_ | refine eo_nil ?_)
      | (refine g_dops ?_; first | refine ed_none ?_ | refine ed_nil ?_)
      | refine ed_same rfl ?_ | refine ed_one rfl rfl rfl rfl ?_ | refine ed_two rfl rfl rfl rfl rfl rfl rfl ?_ | refine ed_write rfl rfl ?_
      | (refine g_code ?_; first | refine ec_seq ?_ | refine ec_region ?_ | refine ec_draw ?_ | refine ec_block ?_ | refine ec_skip ?_ | refine ec_exit ?_ | refine ec_condT rfl ?_ | refine ec_condF rfl ?_ | refine ec_condTH rfl (by assumption) ?_ | refine ec_condFH rfl (by assumption) ?_)
      | refine ek_seqN ?_ | refine ek_seqX ?_ | refine ek_blkN ?_ | refine ek_blkR ?_ | refine ek_blkX ?_ | refine ek_blkY rfl ?_)
    exact rnd_out (by rfl) (by simp) (scmp2 (by rfl) (by rfl) (by exact ⟨rfl, rfl, rfl⟩) (by rfl) (by first | rfl | (simp; done) | (simp [ints, prs]; done)) (by rfl) (by first | rfl | (simp; done) | (simp [ints, prs]; done)))
theorem lpkc2 (n b p : Nat) (L : List Nat) (x : Nat) (u t : Nat) (s : List Nat) (hn : n ≤ 4) (hb : b < 65536) (hp : p ≤ 4) (hp1 : 1 ≤ p) (hl : ∀ j, j < L.length → L.getD j 0 < 65536) (hll : L.length ≤ 65536) (hs0 : s.length < n) (hx : x < 65536) :
    LpS cx 75 3 m117_2 [(1, .int .i64 (p : Nat)), (2, .sl 0 0 L.length), (3, .sl 1 0 p), (4, .int .i64 (s.length : Nat)), (5, .fn 119 [.ptr 2 0]), (6, .ptr 3 0), (16, .int .i64 (x : Nat)), (17, .sl 4 0 p), (41, .sl 0 0 L.length), (42, .int .i64 (L.length : Nat)), (43, .int .i64 (u : Nat)), (49, .int .i64 (p : Nat)), (50, .int .i64 (0 : Nat))] [⟨ints L, 1, 0, some 0, false⟩, ⟨ints (rowsL p (s)), 1, 1, some 0, false⟩, ⟨[.int .i64 (p : Nat), .int .i64 (t : Nat)], 1, 2, some 0, true⟩, ⟨[.int .i64 (n : Nat), .int .i64 (b : Nat)], 1, 3, some 0, true⟩, ⟨ints (updF (rowS s) (rowS (s ++ [x])) p (0)), 1, 4, some 0, false⟩] (⟨.exit 4, [(1, .int .i64 (p : Nat)), (2, .sl 0 0 L.length), (3, .sl 1 0 p), (4, .int .i64 (s.length : Nat)), (5, .fn 119 [.ptr 2 0]), (6, .ptr 3 0), (17, .sl 4 0 p), (41, .sl 0 0 L.length), (42, .int .i64 (L.length : Nat)), (43, .int .i64 (u : Nat))], [⟨ints L, 1, 0, some 0, false⟩, ⟨ints (rowsL p (s)), 1, 1, some 0, false⟩, ⟨[.int .i64 (p : Nat), .int .i64 (t : Nat)], 1, 2, some 0, true⟩, ⟨[.int .i64 (n : Nat), .int .i64 (b : Nat)], 1, 3, some 0, true⟩, ⟨ints (updF (rowS s) (rowS (s ++ [x])) p (p)), 1, 4, some 0, false⟩]⟩ : Out).x (⟨.exit 4, [(1, .int .i64 (p : Nat)), (2, .sl 0 0 L.length), (3, .sl 1 0 p), (4, .int .i64 (s.length : Nat)), (5, .fn 119 [.ptr 2 0]), (6, .ptr 3 0), (17, .sl 4 0 p), (41, .sl 0 0 L.length), (42, .int .i64 (L.length : Nat)), (43, .int .i64 (u : Nat))], [⟨ints L, 1, 0, some 0, false⟩, ⟨ints (rowsL p (s)), 1, 1, some 0, false⟩, ⟨[.int .i64 (p : Nat), .int .i64 (t : Nat)], 1, 2, some 0, true⟩, ⟨[.int .i64 (n : Nat), .int .i64 (b : Nat)], 1, 3, some 0, true⟩, ⟨ints (updF (rowS s) (rowS (s ++ [x])) p (p)), 1, 4, some 0, false⟩]⟩ : Out).e (⟨.exit 4, [(1, .int .i64 (p : Nat)), (2, .sl 0 0 L.length), (3, .sl 1 0 p), (4, .int .i64 (s.length : Nat)), (5, .fn 119 [.ptr 2 0]), (6, .ptr 3 0), (17, .sl 4 0 p), (41, .sl 0 0 L.length), (42, .int .i64 (L.length : Nat)), (43, .int .i64 (u : Nat))], [⟨ints L, 1, 0, some 0, false⟩, ⟨ints (rowsL p (s)), 1, 1, some 0, false⟩, ⟨[.int .i64 (p : Nat), .int .i64 (t : Nat)], 1, 2, some 0, true⟩, ⟨[.int .i64 (n : Nat), .int .i64 (b : Nat)], 1, 3, some 0, true⟩, ⟨ints (updF (rowS s) (rowS (s ++ [x])) p (p)), 1, 4, some 0, false⟩]⟩ : Out).h := by
  obtain ⟨h1, h2, h3, h4⟩ := shN hn
  refine lp_st (p) (fun _ => ()) (fun i _ => [(1, .int .i64 (p : Nat)), (2, .sl 0 0 L.length), (3, .sl 1 0 p), (4, .int .i64 (s.length : Nat)), (5, .fn 119 [.ptr 2 0]), (6, .ptr 3 0), (16, .int .i64 (x : Nat)), (17, .sl 4 0 p), (41, .sl 0 0 L.length), (42, .int .i64 (L.length : Nat)), (43, .int .i64 (u : Nat)), (49, .int .i64 (p : Nat)), (50, .int .i64 (i : Nat))]) (fun i _ => [⟨ints L, 1, 0, some 0, false⟩, ⟨ints (rowsL p (s)), 1, 1, some 0, false⟩, ⟨[.int .i64 (p : Nat), .int .i64 (t : Nat)], 1, 2, some 0, true⟩, ⟨[.int .i64 (n : Nat), .int .i64 (b : Nat)], 1, 3, some 0, true⟩, ⟨ints (updF (rowS s) (rowS (s ++ [x])) p (i)), 1, 4, some 0, false⟩]) (fun _ => (⟨.exit 4, [(1, .int .i64 (p : Nat)), (2, .sl 0 0 L.length), (3, .sl 1 0 p), (4, .int .i64 (s.length : Nat)), (5, .fn 119 [.ptr 2 0]), (6, .ptr 3 0), (17, .sl 4 0 p), (41, .sl 0 0 L.length), (42, .int .i64 (L.length : Nat)), (43, .int .i64 (u : Nat))], [⟨ints L, 1, 0, some 0, false⟩, ⟨ints (rowsL p (s)), 1, 1, some 0, false⟩, ⟨[.int .i64 (p : Nat), .int .i64 (t : Nat)], 1, 2, some 0, true⟩, ⟨[.int .i64 (n : Nat), .int .i64 (b : Nat)], 1, 3, some 0, true⟩, ⟨ints (updF (rowS s) (rowS (s ++ [x])) p (p)), 1, 4, some 0, false⟩]⟩ : Out)) ?_ ?_ (p) 0 (by omega)
  · intro i u_ hi hu_
    refine ⟨(), rfl, ?_⟩
    have hlt : decide ((i : Int) < (p : Nat)) = true := decide_eq_true (by omega)
    have hget := updF_get (f := rowS s) (g := rowS (s ++ [x])) (i := i) hi
    rw [if_neg (Nat.lt_irrefl i)] at hget
    have hset := updF_set (f := rowS s) (g := rowS (s ++ [x])) hi
    have hlen := updF_len (rowS s) (rowS (s ++ [x])) p i
    have hr := rowS_lt s i
    have hr2 := R2_mono (i := s.length) (n := n) (by omega)
    have hb1 := bt_le x i
    have hs1 := sl_lt hb1 hs0
    have hor : binV .or (.int .i64 (rowS s i : Nat)) (.int .i64 (bt x i <<< s.length : Nat)) = some (.int .i64 (rowS (s ++ [x]) i : Nat)) := by
      rw [rowS_snoc]; exact b_or (by omega) (by have : R2 n ≤ 16 := h1; have : bt x i <<< s.length < R2 n := hs1; omega)
    unfold m117_2
    repeat' (first
      | refine ep_loadS rfl rfl rfl hget ?_
      | refine sp_storeS rfl rfl rfl rfl rfl rfl rfl (Nat.zero_le _) (by omega) hset rfl ?_
      | (refine g_op ?_; first
        | refine ep_mov rfl ?_ | refine ep_load1 rfl rfl rfl rfl ?_
        | refine ep_call0 rfl (by first | exact ev137 x i (by omega) (by omega)) rfl rfl ?_
        | refine sp_call rfl rfl rfl rfl (by first | exact ev137 x i (by omega) (by omega)) ⟨rfl, rfl, rfl, rfl⟩ rfl rfl rfl ?_
        | refine ep_bin rfl rfl (by first | exact hor | exact b_shl (x := bt x i) (y := s.length) (by omega) (by omega) | exact b_add (by omega) (by omega) | exact b_sub (by omega) (by omega) | exact b_and (by omega) (by omega) | exact b_or (by omega) (by omega) | exact b_shr (by omega) | exact b_shl (by omega) (by omega) | exact b_lss | exact b_leq | exact b_gtr | exact b_geq | exact b_eql | exact b_neq) ?_
        | refine sp_store rfl rfl rfl rfl rfl rfl rfl rfl rfl rfl ?_ | refine sp_idx rfl rfl rfl (by omega) rfl ?_ | refine ep_loadS rfl rfl rfl (by first | exact ints_get (by omega) | exact zints_get (by omega) | exact fget (by omega) | assumption) ?_)
      | (refine g_ops ?_; first | refine eo_none ?_ | refine eo_nil ?_)
      | (refine g_dops ?_; first | refine ed_none ?_ | refine ed_nil ?_)
      | refine ed_same rfl ?_ | refine ed_one rfl rfl rfl rfl ?_ | refine ed_two rfl rfl rfl rfl rfl rfl rfl ?_ | refine ed_write rfl rfl ?_
      | (refine g_code ?_; first | refine ec_seq ?_ | refine ec_region ?_ | refine ec_draw ?_ | refine ec_block ?_ | refine ec_skip ?_ | refine ec_exit ?_ | refine ec_condT rfl ?_ | refine ec_condF rfl ?_ | refine ec_condTH rfl (by assumption) ?_ | refine ec_condFH rfl (by assumption) ?_)
      | refine ek_seqN ?_ | refine ek_seqX ?_ | refine ek_blkN ?_ | refine ek_blkR ?_ | refine ek_blkX ?_ | refine ek_blkY rfl ?_)
    exact rnd_on (by rfl) (scmp2 (by rfl) (by rfl) (by exact ⟨rfl, rfl, rfl⟩) (by rfl) (by first | rfl | (simp; done) | (simp [ints, prs]; done)) (by rfl) (by first | rfl | (simp; done) | (simp [ints, prs]; done)))
  · intro u_ hu_
    have hlt : decide (((p : Nat) : Int) < (p : Nat)) = false := decide_eq_false (by omega)
    unfold m117_2
    repeat' (first
      | (refine g_op ?_; first
        | refine ep_mov rfl ?_ | refine ep_load1 rfl rfl rfl rfl ?_
        | refine ep_bin rfl rfl (by first | exact b_add (by omega) (by omega) | exact b_sub (by omega) (by omega) | exact b_and (by omega) (by omega) | exact b_or (by omega) (by omega) | exact b_shr (by omega) | exact b_shl (by omega) (by omega) | exact b_lss | exact b_leq | exact b_gtr | exact b_geq | exact b_eql | exact b_neq) ?_
        | refine sp_store rfl rfl rfl rfl rfl rfl rfl rfl rfl rfl ?_ | refine sp_idx rfl rfl rfl (by omega) rfl ?_ | refine ep_loadS rfl rfl rfl (by first | exact ints_get (by omega) | exact zints_get (by omega) | exact fget (by omega) | assumption) ?_)
      | (refine g_ops ?_; first | refine eo_none ?_ | refine eo_nil ?_)
      | (refine g_dops ?_; first | refine ed_none ?_ | refine ed_nil ?_)
      | refine ed_same rfl ?_ | refine ed_one rfl rfl rfl rfl ?_ | refine ed_two rfl rfl rfl rfl rfl rfl rfl ?_ | refine ed_write rfl rfl ?_
      | (refine g_code ?_; first | refine ec_seq ?_ | refine ec_region ?_ | refine ec_draw ?_ | refine ec_block ?_ | refine ec_skip ?_ | refine ec_exit ?_ | refine ec_condT rfl ?_ | refine ec_condF rfl ?_ | refine ec_condTH rfl (by assumption) ?_ | refine ec_condFH rfl (by assumption) ?_)
      | refine ek_seqN ?_ | refine ek_seqX ?_ | refine ek_blkN ?_ | refine ek_blkR ?_ | refine ek_blkX ?_ | refine ek_blkY rfl ?_)
    exact rnd_out (by rfl) (by simp) (scmp2 (by rfl) (by rfl) (by exact ⟨rfl, rfl, rfl⟩) (by rfl) (by first | rfl | (simp; done) | (simp [ints, prs]; done)) (by rfl) (by first | rfl | (simp; done) | (simp [ints, prs]; done)))
theorem lpkc1 (n b p : Nat) (L : List Nat) (T : Nat → Nat) (s : List Nat) (hn : n ≤ 4) (hb : b < 65536) (hp : p ≤ 4) (hp1 : 1 ≤ p) (hl : ∀ j, j < L.length → L.getD j 0 < 65536) (hll : L.length ≤ 65536) (hs0 : s.length < n) (ih : ∀ i, i < L.length → Ev cx 117 [.agg [.int .i64 (n : Nat), .int .i64 (b : Nat)], .int .i64 (p : Nat), .sl 0 0 L.length, .sl 1 0 p, .int .i64 (s.length + 1 : Nat), .fn 119 [.ptr 2 0]] [⟨ints L, 1, 0, some 0, false⟩, ⟨ints (rowsL p (s ++ [L.getD i 0])), 1, 1, some 0, false⟩, ⟨[.int .i64 (p : Nat), .int .i64 (T i : Nat)], 1, 2, some 0, true⟩] (.bool true) [⟨ints L, 1, 0, some 0, false⟩, ⟨ints (rowsL p (s ++ [L.getD i 0])), 1, 1, some 0, false⟩, ⟨[.int .i64 (p : Nat), .int .i64 (T (i + 1) : Nat)], 1, 2, some 0, true⟩]) :
    LpS cx 75 3 m117_1 [(1, .int .i64 (p : Nat)), (2, .sl 0 0 L.length), (3, .sl 1 0 p), (4, .int .i64 (s.length : Nat)), (5, .fn 119 [.ptr 2 0]), (6, .ptr 3 0), (41, .sl 0 0 L.length), (42, .int .i64 (L.length : Nat)), (43, .int .i64 (0 : Nat))] [⟨ints L, 1, 0, some 0, false⟩, ⟨ints (rowsL p (s)), 1, 1, some 0, false⟩, ⟨[.int .i64 (p : Nat), .int .i64 (T (0) : Nat)], 1, 2, some 0, true⟩, ⟨[.int .i64 (n : Nat), .int .i64 (b : Nat)], 1, 3, some 0, true⟩] (⟨.exit 2, [], [⟨ints L, 1, 0, some 0, false⟩, ⟨ints (rowsL p (s)), 1, 1, some 0, false⟩, ⟨[.int .i64 (p : Nat), .int .i64 (T (L.length) : Nat)], 1, 2, some 0, true⟩]⟩ : Out).x (⟨.exit 2, [], [⟨ints L, 1, 0, some 0, false⟩, ⟨ints (rowsL p (s)), 1, 1, some 0, false⟩, ⟨[.int .i64 (p : Nat), .int .i64 (T (L.length) : Nat)], 1, 2, some 0, true⟩]⟩ : Out).e (⟨.exit 2, [], [⟨ints L, 1, 0, some 0, false⟩, ⟨ints (rowsL p (s)), 1, 1, some 0, false⟩, ⟨[.int .i64 (p : Nat), .int .i64 (T (L.length) : Nat)], 1, 2, some 0, true⟩]⟩ : Out).h := by
  refine lp_st (L.length) (fun _ => ()) (fun i _ => [(1, .int .i64 (p : Nat)), (2, .sl 0 0 L.length), (3, .sl 1 0 p), (4, .int .i64 (s.length : Nat)), (5, .fn 119 [.ptr 2 0]), (6, .ptr 3 0), (41, .sl 0 0 L.length), (42, .int .i64 (L.length : Nat)), (43, .int .i64 (i : Nat))]) (fun i _ => [⟨ints L, 1, 0, some 0, false⟩, ⟨ints (rowsL p (s)), 1, 1, some 0, false⟩, ⟨[.int .i64 (p : Nat), .int .i64 (T (i) : Nat)], 1, 2, some 0, true⟩, ⟨[.int .i64 (n : Nat), .int .i64 (b : Nat)], 1, 3, some 0, true⟩]) (fun _ => (⟨.exit 2, [], [⟨ints L, 1, 0, some 0, false⟩, ⟨ints (rowsL p (s)), 1, 1, some 0, false⟩, ⟨[.int .i64 (p : Nat), .int .i64 (T (L.length) : Nat)], 1, 2, some 0, true⟩]⟩ : Out)) ?_ ?_ (L.length) 0 (by omega)
  · intro i u_ hi hu_
    refine ⟨(), rfl, ?_⟩
    have hlt : decide ((i : Int) < (L.length : Nat)) = true := decide_eq_true (by omega)
    have hx := hl i hi
    have e1 := ih i hi
    have e2 := ev109 (rowsL p s) p (by simp [rowsL]) hp1 (by omega)
    have lp := lpkc2 n b p L (L.getD i 0) i (T i) s hn hb hp hp1 hl hll hs0 hx
    rw [updF_0, updF_p, show (List.range p).map (rowS s) = rowsL p s from rfl, show (List.range p).map (rowS (s ++ [L.getD i 0])) = rowsL p (s ++ [L.getD i 0]) from rfl] at lp
    have hk := b_addN (a := s.length) (b := 1) (by omega)
    unfold m117_1
    repeat' (first
      | refine sc_loop lp rfl rfl ⟨rfl, rfl, rfl⟩ rfl rfl rfl ?_
      | (refine g_op ?_; first
        | refine ep_mov rfl ?_ | refine ep_load1 rfl rfl rfl rfl ?_ | refine sp_loadN rfl rfl rfl rfl rfl ?_
        | refine ep_call0 rfl (by first | exact e1 | exact e2) rfl rfl ?_
        | refine sp_call rfl rfl rfl rfl (by first | exact e1 | exact e2) ⟨rfl, rfl, rfl, rfl⟩ rfl rfl rfl ?_
        | refine ep_bin rfl rfl (by first | exact hk | exact b_add (by omega) (by omega) | exact b_sub (by omega) (by omega) | exact b_and (by omega) (by omega) | exact b_or (by omega) (by omega) | exact b_shr (by omega) | exact b_shl (by omega) (by omega) | exact b_lss | exact b_leq | exact b_gtr | exact b_geq | exact b_eql | exact b_neq) ?_
        | refine ep_not rfl ?_ | refine sp_idx rfl rfl rfl (by omega) rfl ?_ | refine ep_loadS rfl rfl rfl (by first | exact ints_get (by omega) | exact zints_get (by omega) | exact fget (by omega) | assumption) ?_
        | refine ep_loadSN rfl rfl rfl (by first | exact prs_get (by omega) | exact fns_get (by omega)) ?_)
      | (refine g_ops ?_; first | refine eo_none ?_ | refine eo_nil ?_)
      | (refine g_code ?_; first | refine ec_seq ?_ | refine ec_region ?_ | refine ec_block ?_ | refine ec_skip ?_ | refine ec_exit ?_ | refine ec_ret ?_ | refine ec_condT rfl ?_ | refine ec_condF rfl ?_ | refine ec_condTH rfl (by assumption) ?_ | refine ec_condFH rfl (by assumption) ?_)
      | refine ek_seqN ?_ | refine ek_seqX ?_ | refine ek_seqR ?_ | refine ek_blkN ?_ | refine ek_blkR ?_ | refine ek_blkX ?_ | refine ek_blkY rfl ?_)
    exact rnd_on (by rfl) (scmp2 (by rfl) (by rfl) (by exact ⟨rfl, rfl, rfl⟩) (by rfl) (by first | rfl | (simp; done) | (simp [ints, prs]; done)) (by rfl) (by first | rfl | (simp; done) | (simp [ints, prs]; done)))
  · intro u_ hu_
    have hlt : decide (((L.length : Nat) : Int) < (L.length : Nat)) = false := decide_eq_false (by omega)
    unfold m117_1
    repeat' (first
      | (refine g_op ?_; first
        | refine ep_mov rfl ?_ | refine ep_load1 rfl rfl rfl rfl ?_ | refine sp_loadN rfl rfl rfl rfl rfl ?_
        | refine ep_bin rfl rfl (by first | exact b_add (by omega) (by omega) | exact b_sub (by omega) (by omega) | exact b_and (by omega) (by omega) | exact b_or (by omega) (by omega) | exact b_shr (by omega) | exact b_shl (by omega) (by omega) | exact b_lss | exact b_leq | exact b_gtr | exact b_geq | exact b_eql | exact b_neq) ?_
        | refine ep_not rfl ?_ | refine sp_idx rfl rfl rfl (by omega) rfl ?_ | refine ep_loadS rfl rfl rfl (by first | exact ints_get (by omega) | exact zints_get (by omega) | exact fget (by omega) | assumption) ?_
        | refine ep_loadSN rfl rfl rfl (by first | exact prs_get (by omega) | exact fns_get (by omega)) ?_)
      | (refine g_ops ?_; first | refine eo_none ?_ | refine eo_nil ?_)
      | (refine g_code ?_; first | refine ec_seq ?_ | refine ec_region ?_ | refine ec_block ?_ | refine ec_skip ?_ | refine ec_exit ?_ | refine ec_ret ?_ | refine ec_condT rfl ?_ | refine ec_condF rfl ?_ | refine ec_condTH rfl (by assumption) ?_ | refine ec_condFH rfl (by assumption) ?_)
      | refine ek_seqN ?_ | refine ek_seqX ?_ | refine ek_seqR ?_ | refine ek_blkN ?_ | refine ek_blkR ?_ | refine ek_blkX ?_ | refine ek_blkY rfl ?_)
    exact rnd_out (by rfl) (by simp) (scmp2 (by rfl) (by rfl) (by exact ⟨rfl, rfl, rfl⟩) (by rfl) (by first | rfl | (simp; done) | (simp [ints, prs]; done)) (by rfl) (by first | rfl | (simp; done) | (simp [ints, prs]; done)))

theorem lpkc1e (n b p t : Nat) (s : List Nat) :
    LpS cx 75 2 m117_1 [(1, .int .i64 (p : Nat)), (2, .nils), (3, .sl 0 0 p), (4, .int .i64 (s.length : Nat)), (5, .fn 119 [.ptr 1 0]), (6, .ptr 2 0), (41, .nils), (42, .int .i64 0), (43, .int .i64 (0 : Nat))] [⟨ints (rowsL p s), 1, 0, some 0, false⟩, ⟨[.int .i64 (p : Nat), .int .i64 (t : Nat)], 1, 1, some 0, true⟩, ⟨[.int .i64 (n : Nat), .int .i64 (b : Nat)], 1, 2, some 0, true⟩] (⟨.exit 2, [], [⟨ints (rowsL p s), 1, 0, some 0, false⟩, ⟨[.int .i64 (p : Nat), .int .i64 (t : Nat)], 1, 1, some 0, true⟩]⟩ : Out).x (⟨.exit 2, [], [⟨ints (rowsL p s), 1, 0, some 0, false⟩, ⟨[.int .i64 (p : Nat), .int .i64 (t : Nat)], 1, 1, some 0, true⟩]⟩ : Out).e (⟨.exit 2, [], [⟨ints (rowsL p s), 1, 0, some 0, false⟩, ⟨[.int .i64 (p : Nat), .int .i64 (t : Nat)], 1, 1, some 0, true⟩]⟩ : Out).h := by
  refine lp_st (0) (fun _ => ()) (fun i _ => [(1, .int .i64 (p : Nat)), (2, .nils), (3, .sl 0 0 p), (4, .int .i64 (s.length : Nat)), (5, .fn 119 [.ptr 1 0]), (6, .ptr 2 0), (41, .nils), (42, .int .i64 0), (43, .int .i64 (i : Nat))]) (fun i _ => [⟨ints (rowsL p s), 1, 0, some 0, false⟩, ⟨[.int .i64 (p : Nat), .int .i64 (t : Nat)], 1, 1, some 0, true⟩, ⟨[.int .i64 (n : Nat), .int .i64 (b : Nat)], 1, 2, some 0, true⟩]) (fun _ => (⟨.exit 2, [], [⟨ints (rowsL p s), 1, 0, some 0, false⟩, ⟨[.int .i64 (p : Nat), .int .i64 (t : Nat)], 1, 1, some 0, true⟩]⟩ : Out)) ?_ ?_ (0) 0 (by omega)
  · intro i u_ hi hu_
    refine ⟨(), rfl, ?_⟩
    exact absurd hi (by simp)
  · intro u_ hu_
    have hlt : decide (((0 : Nat) : Int) < (0 : Nat)) = false := decide_eq_false (by omega)
    unfold m117_1
    repeat' (first
      | (refine g_op ?_; first
        | refine ep_mov rfl ?_ | refine ep_load1 rfl rfl rfl rfl ?_ | refine sp_loadN rfl rfl rfl rfl rfl ?_
        | refine ep_bin rfl rfl (by first | exact b_add (by omega) (by omega) | exact b_sub (by omega) (by omega) | exact b_and (by omega) (by omega) | exact b_or (by omega) (by omega) | exact b_shr (by omega) | exact b_shl (by omega) (by omega) | exact b_lss | exact b_leq | exact b_gtr | exact b_geq | exact b_eql | exact b_neq) ?_
        | refine ep_not rfl ?_ | refine sp_idx rfl rfl rfl (by omega) rfl ?_ | refine ep_loadS rfl rfl rfl (by first | exact ints_get (by omega) | exact zints_get (by omega) | exact fget (by omega) | assumption) ?_
        | refine ep_loadSN rfl rfl rfl (by first | exact prs_get (by omega) | exact fns_get (by omega)) ?_)
      | (refine g_ops ?_; first | refine eo_none ?_ | refine eo_nil ?_)
      | (refine g_code ?_; first | refine ec_seq ?_ | refine ec_region ?_ | refine ec_block ?_ | refine ec_skip ?_ | refine ec_exit ?_ | refine ec_ret ?_ | refine ec_condT rfl ?_ | refine ec_condF rfl ?_ | refine ec_condTH rfl (by assumption) ?_ | refine ec_condFH rfl (by assumption) ?_)
      | refine ek_seqN ?_ | refine ek_seqX ?_ | refine ek_seqR ?_ | refine ek_blkN ?_ | refine ek_blkR ?_ | refine ek_blkX ?_ | refine ek_blkY rfl ?_)
    exact rnd_out (by rfl) (by simp) (scmp2 (by rfl) (by rfl) (by exact ⟨rfl, rfl, rfl⟩) (by rfl) (by first | rfl | (simp; done) | (simp [ints, prs]; done)) (by rfl) (by first | rfl | (simp; done) | (simp [ints, prs]; done)))

theorem evkc_e (n b p : Nat) (hn : n ≤ 4) (hb : b < 65536) (hp : p ≤ 4) (hp1 : 1 ≤ p) (hl : ∀ j, j < ([] : List Nat).length → ([] : List Nat).getD j 0 < 65536) (hll : ([] : List Nat).length ≤ 65536) : ∀ (m : Nat) (s : List Nat) (t : Nat), t < R2 (R2 p) → s.length + m = n →
    Ev cx 117 [.agg [.int .i64 (n : Nat), .int .i64 (b : Nat)], .int .i64 (p : Nat), .nils, .sl 0 0 p, .int .i64 (s.length : Nat), .fn 119 [.ptr 1 0]] [⟨ints (rowsL p (s)), 1, 0, some 0, false⟩, ⟨[.int .i64 (p : Nat), .int .i64 (t : Nat)], 1, 1, some 0, true⟩] (.bool true) [⟨ints (rowsL p (s)), 1, 0, some 0, false⟩, ⟨[.int .i64 (p : Nat), .int .i64 (t ||| mbA ([] : List Nat) b p m s : Nat)], 1, 1, some 0, true⟩]
  | 0, s, t, ht, hs => by
    obtain ⟨g1, g2, g3, g4⟩ := shN hp
    have lp := lpkc0_e n b p t s hn hb hp hp1 hl hll (by omega)
    have hv := valS_lt b p s
    rw [show pk (fun q => bt b (rowS s q)) p = valS b p s from rfl] at lp
    have he := evclb p t (valS b p s) (by omega) (by omega)
    have hq : (((s.length : Nat) : Int) == (n : Nat)) = true := by rw [ieq]; simp; omega
    refine has117.eev rfl rfl ?_
    unfold m117
    repeat' (first
      | refine sc_loop lp rfl rfl ⟨rfl, rfl, rfl⟩ rfl rfl rfl ?_
      | (refine g_op ?_; first
        | refine ep_mov rfl ?_ | refine ep_load1 rfl rfl rfl rfl ?_ | refine ep_fieldAddr rfl ?_
        | refine sp_callv rfl rfl rfl rfl rfl rfl (by first | exact he) ⟨rfl, rfl, rfl, rfl⟩ rfl rfl rfl ?_
        | refine sp_callb rfl rfl rfl rfl rfl rfl (by first | exact he) ⟨rfl, rfl, rfl, rfl⟩ rfl rfl rfl ?_
        | refine ep_bin rfl rfl (by first | exact b_add (by omega) (by omega) | exact b_sub (by omega) (by omega) | exact b_and (by omega) (by omega) | exact b_or (by omega) (by omega) | exact b_shr (by omega) | exact b_shl (by omega) (by omega) | exact b_lss | exact b_leq | exact b_gtr | exact b_geq | exact b_eql | exact b_neq) ?_
        | refine ep_lenS rfl ?_ | refine ep_lenN rfl ?_ | refine ep_lenE rfl ?_ | refine sp_box rfl rfl rfl rfl rfl ?_)
      | (refine g_ops ?_; first | refine eo_none ?_ | refine eo_nil ?_)
      | (refine g_code ?_; first | refine ec_seq ?_ | refine ec_region ?_ | refine ec_block ?_ | refine ec_skip ?_ | refine ec_ret ?_ | refine ec_condT rfl ?_ | refine ec_condF rfl ?_ | refine ec_condTH rfl (by assumption) ?_ | refine ec_condFH rfl (by assumption) ?_)
      | refine ek_seqN ?_ | refine ek_seqX ?_ | refine ek_seqR ?_ | refine ek_blkN ?_ | refine ek_blkR ?_ | refine ek_blkX ?_ | refine ek_blkY rfl ?_)
    refine sfin (.inr rfl) (by rfl) (by rfl) (by exact ⟨rfl, rfl, rfl⟩) (by rfl) (by rfl) (by rfl) (by first | rfl | (simp; done) | (simp [ints, prs]; done))
  | m + 1, s, t, ht, hs => by
    have hq : (((s.length : Nat) : Int) == (n : Nat)) = false := by rw [ieq]; simp; omega
    rw [show mbA ([] : List Nat) b p (m + 1) s = 0 from rfl, Nat.or_zero]
    have lp := lpkc1e n b p t s
    refine has117.eev rfl rfl ?_
    unfold m117
    repeat' (first
      | refine sc_loop lp rfl rfl ⟨rfl, rfl, rfl⟩ rfl rfl rfl ?_
      | (refine g_op ?_; first
        | refine ep_mov rfl ?_ | refine ep_load1 rfl rfl rfl rfl ?_ | refine ep_fieldAddr rfl ?_
        | refine ep_bin rfl rfl (by first | exact b_add (by omega) (by omega) | exact b_sub (by omega) (by omega) | exact b_and (by omega) (by omega) | exact b_or (by omega) (by omega) | exact b_shr (by omega) | exact b_shl (by omega) (by omega) | exact b_lss | exact b_leq | exact b_gtr | exact b_geq | exact b_eql | exact b_neq) ?_
        | refine ep_lenS rfl ?_ | refine ep_lenN rfl ?_ | refine ep_lenE rfl ?_ | refine sp_box rfl rfl rfl rfl rfl ?_)
      | (refine g_ops ?_; first | refine eo_none ?_ | refine eo_nil ?_)
      | (refine g_code ?_; first | refine ec_seq ?_ | refine ec_region ?_ | refine ec_block ?_ | refine ec_skip ?_ | refine ec_ret ?_ | refine ec_condT rfl ?_ | refine ec_condF rfl ?_ | refine ec_condTH rfl (by assumption) ?_ | refine ec_condFH rfl (by assumption) ?_)
      | refine ek_seqN ?_ | refine ek_seqX ?_ | refine ek_seqR ?_ | refine ek_blkN ?_ | refine ek_blkR ?_ | refine ek_blkX ?_ | refine ek_blkY rfl ?_)
    refine sfin (.inr rfl) (by rfl) (by rfl) (by exact ⟨rfl, rfl, rfl⟩) (by rfl) (by rfl) (by rfl) (by first | rfl | (simp; done) | (simp [ints, prs]; done))

theorem evkc_c (n b p : Nat) (L : List Nat) (hn : n ≤ 4) (hb : b < 65536) (hp : p ≤ 4) (hp1 : 1 ≤ p) (hl : ∀ j, j < L.length → L.getD j 0 < 65536) (hll : L.length ≤ 65536) : ∀ (m : Nat) (s : List Nat) (t : Nat), t < R2 (R2 p) → s.length + m = n →
    Ev cx 117 [.agg [.int .i64 (n : Nat), .int .i64 (b : Nat)], .int .i64 (p : Nat), .sl 0 0 L.length, .sl 1 0 p, .int .i64 (s.length : Nat), .fn 119 [.ptr 2 0]] [⟨ints L, 1, 0, some 0, false⟩, ⟨ints (rowsL p (s)), 1, 1, some 0, false⟩, ⟨[.int .i64 (p : Nat), .int .i64 (t : Nat)], 1, 2, some 0, true⟩] (.bool true) [⟨ints L, 1, 0, some 0, false⟩, ⟨ints (rowsL p (s)), 1, 1, some 0, false⟩, ⟨[.int .i64 (p : Nat), .int .i64 (t ||| mbA L b p m s : Nat)], 1, 2, some 0, true⟩]
  | 0, s, t, ht, hs => by
    obtain ⟨g1, g2, g3, g4⟩ := shN hp
    have lp := lpkc0_c n b p L t s hn hb hp hp1 hl hll (by omega)
    have hv := valS_lt b p s
    rw [show pk (fun q => bt b (rowS s q)) p = valS b p s from rfl] at lp
    have he := evclb p t (valS b p s) (by omega) (by omega)
    have hq : (((s.length : Nat) : Int) == (n : Nat)) = true := by rw [ieq]; simp; omega
    refine has117.eev rfl rfl ?_
    unfold m117
    repeat' (first
      | refine sc_loop lp rfl rfl ⟨rfl, rfl, rfl⟩ rfl rfl rfl ?_
      | (refine g_op ?_; first
        | refine ep_mov rfl ?_ | refine ep_load1 rfl rfl rfl rfl ?_ | refine ep_fieldAddr rfl ?_
        | refine sp_callv rfl rfl rfl rfl rfl rfl (by first | exact he) ⟨rfl, rfl, rfl, rfl⟩ rfl rfl rfl ?_
        | refine sp_callb rfl rfl rfl rfl rfl rfl (by first | exact he) ⟨rfl, rfl, rfl, rfl⟩ rfl rfl rfl ?_
        | refine ep_bin rfl rfl (by first | exact b_add (by omega) (by omega) | exact b_sub (by omega) (by omega) | exact b_and (by omega) (by omega) | exact b_or (by omega) (by omega) | exact b_shr (by omega) | exact b_shl (by omega) (by omega) | exact b_lss | exact b_leq | exact b_gtr | exact b_geq | exact b_eql | exact b_neq) ?_
        | refine ep_lenS rfl ?_ | refine ep_lenN rfl ?_ | refine ep_lenE rfl ?_ | refine sp_box rfl rfl rfl rfl rfl ?_)
      | (refine g_ops ?_; first | refine eo_none ?_ | refine eo_nil ?_)
      | (refine g_code ?_; first | refine ec_seq ?_ | refine ec_region ?_ | refine ec_block ?_ | refine ec_skip ?_ | refine ec_ret ?_ | refine ec_condT rfl ?_ | refine ec_condF rfl ?_ | refine ec_condTH rfl (by assumption) ?_ | refine ec_condFH rfl (by assumption) ?_)
      | refine ek_seqN ?_ | refine ek_seqX ?_ | refine ek_seqR ?_ | refine ek_blkN ?_ | refine ek_blkR ?_ | refine ek_blkX ?_ | refine ek_blkY rfl ?_)
    refine sfin (.inr rfl) (by rfl) (by rfl) (by exact ⟨rfl, rfl, rfl⟩) (by rfl) (by rfl) (by rfl) (by first | rfl | (simp; done) | (simp [ints, prs]; done))
  | m + 1, s, t, ht, hs => by
    have hq : (((s.length : Nat) : Int) == (n : Nat)) = false := by rw [ieq]; simp; omega
    have lp := lpkc1 n b p L (fun i => t ||| orN (fun j => mbA L b p m (s ++ [L.getD j 0])) i) s hn hb hp hp1 hl hll (by omega) (fun i hi => by
      have ho := orN_lt (h := fun j => mbA L b p m (s ++ [L.getD j 0])) (N := R2 p) i (fun j _ => mbA_lt _ _ _ _ _)
      have := evkc_c n b p L hn hb hp hp1 hl hll m (s ++ [L.getD i 0]) (t ||| orN (fun j => mbA L b p m (s ++ [L.getD j 0])) i) (or_lt ht ho) (by simp; omega)
      rw [List.length_append, List.length_singleton, Nat.or_assoc] at this
      exact this)
    rw [show orN (fun j => mbA L b p m (s ++ [L.getD j 0])) 0 = 0 from rfl, Nat.or_zero, show orN (fun j => mbA L b p m (s ++ [L.getD j 0])) L.length = mbA L b p (m + 1) s from rfl] at lp
    refine has117.eev rfl rfl ?_
    unfold m117
    repeat' (first
      | refine sc_loop lp rfl rfl ⟨rfl, rfl, rfl⟩ rfl rfl rfl ?_
      | (refine g_op ?_; first
        | refine ep_mov rfl ?_ | refine ep_load1 rfl rfl rfl rfl ?_ | refine ep_fieldAddr rfl ?_
        | refine ep_bin rfl rfl (by first | exact b_add (by omega) (by omega) | exact b_sub (by omega) (by omega) | exact b_and (by omega) (by omega) | exact b_or (by omega) (by omega) | exact b_shr (by omega) | exact b_shl (by omega) (by omega) | exact b_lss | exact b_leq | exact b_gtr | exact b_geq | exact b_eql | exact b_neq) ?_
        | refine ep_lenS rfl ?_ | refine ep_lenN rfl ?_ | refine ep_lenE rfl ?_ | refine sp_box rfl rfl rfl rfl rfl ?_)
      | (refine g_ops ?_; first | refine eo_none ?_ | refine eo_nil ?_)
      | (refine g_code ?_; first | refine ec_seq ?_ | refine ec_region ?_ | refine ec_block ?_ | refine ec_skip ?_ | refine ec_ret ?_ | refine ec_condT rfl ?_ | refine ec_condF rfl ?_ | refine ec_condTH rfl (by assumption) ?_ | refine ec_condFH rfl (by assumption) ?_)
      | refine ek_seqN ?_ | refine ek_seqX ?_ | refine ek_seqR ?_ | refine ek_blkN ?_ | refine ek_blkR ?_ | refine ek_blkX ?_ | refine ek_blkY rfl ?_)
    refine sfin (.inr rfl) (by rfl) (by rfl) (by exact ⟨rfl, rfl, rfl⟩) (by rfl) (by rfl) (by rfl) (by first | rfl | (simp; done) | (simp [ints, prs]; done))

theorem rows0 (p : Nat) : ints (rowsL p []) = (List.replicate p [V.int .i64 0]).flatten := by
  have : ∀ q : Nat, (List.range q).map (rowS []) = List.replicate q 0 := by
    intro q
    induction q with
    | zero => rfl
    | succ q ih => rw [List.range_succ, List.map_append, ih, List.replicate_succ']; rfl
  rw [rowsL, this]; exact go_flat p
-- impl.closure
def m75_1 : MC := (.seq (.region [⟨(.bin .lss (.t 11) (.t 10)), (some 12), none⟩] false) (.seq (.cond (.t 12) .skip (.exit 2)) (.seq (.block 3 (.seq (.region [⟨(.indexAddr 2 (.t 9) (.t 11)), (some 13), none⟩, ⟨(.load (some 2) (.t 13)), (some 14), none⟩, ⟨(.alloc [(.int .i64 0), (.int .i64 0)]), (some 7), none⟩, ⟨(.store 2 (.t 7) (.t 14)), none, none⟩] false) (.region [⟨(.load (some 2) (.t 7)), (some 15), none⟩, ⟨(.fieldAddr 0 (.t 3)), (some 16), none⟩, ⟨(.load none (.t 16)), (some 17), none⟩, ⟨(.load (some 2) (.t 3)), (some 18), none⟩, ⟨(.call 118 [(.t 18)]), (some 19), none⟩, ⟨(.fieldAddr 0 (.t 3)), (some 20), none⟩, ⟨(.load none (.t 20)), (some 21), none⟩, ⟨(.make 1 8 [(.int .i64 0)] (.t 21)), (some 22), none⟩, ⟨(.mkfn 119 [(.t 3)]), (some 23), none⟩, ⟨(.callw 117 [(.t 15), (.t 17), (.t 19), (.t 22), (.k (.int .i64 0)), (.t 23)]), (some 24), none⟩] true))) (.region [⟨(.bin .add (.t 11) (.k (.int .i64 1))), (some 25), none⟩, ⟨(.mov (.t 25)), (some 11), none⟩] false))))
def m75_0 : MC := (.block 1 (.seq (.region [⟨(.load (some 2) (.t 3)), (some 8), none⟩, ⟨(.alloc [(.int .i64 0), (.int .i64 0)]), (some 5), none⟩, ⟨(.store 2 (.t 5) (.t 8)), none, none⟩] false) (.seq (.seq (.region [⟨(.mov (.t 0)), (some 9), none⟩, ⟨(.len (.t 9)), (some 10), none⟩, ⟨(.mov (.k (.int .i64 0))), (some 11), none⟩] false) (.block 2 (.loop m75_1))) (.seq (.region [⟨(.load (some 2) (.t 3)), (some 26), none⟩, ⟨(.load (some 2) (.t 5)), (some 27), none⟩, ⟨(.eqa false 2 (.t 26) (.t 27)), (some 28), none⟩] false) (.cond (.t 28) (.seq (.region [⟨(.load (some 2) (.t 3)), (some 29), none⟩, ⟨(.store 2 (.t 4) (.t 29)), none, none⟩] false) .ret) .skip)))))
def m75 : MC := (.seq (.region [⟨(.box (.t 1)), (some 3), none⟩, ⟨(.alloc [(.int .i64 0), (.int .i64 0)]), (some 4), none⟩] false) (.block 0 (.loop m75_0)))
theorem has75 : Has cx 75 30 m75 [(.cell 4 (some 2))] :=
  ⟨⟨Try.f75, Try.f75.body.getD .skip, by kernel_rfl, by kernel_rfl, by kernel_rfl, by kernel_rfl, by kernel_rfl, by kernel_rfl⟩⟩
theorem lpcl1 (p r0 : Nat) (fs : List (Int × Int)) (hp : p ≤ 4) (hp1 : 1 ≤ p) (hr0 : r0 < R2 (R2 p)) (hall : allFunc fs = true) (hln : fs.length ≤ 1048576) :
    LpS cx 30 1 m75_1 [(0, .sl 0 0 fs.length), (3, .ptr 1 0), (4, .ptr 2 0), (5, .ptr 3 0), (9, .sl 0 0 fs.length), (10, .int .i64 (fs.length : Nat)), (11, .int .i64 (0 : Nat))] [⟨fns fs, 2, 0, some 0, false⟩, ⟨[.int .i64 (p : Nat), .int .i64 (cgI fs p (0) r0 : Nat)], 1, 1, some 0, true⟩, ⟨[.int .i64 0, .int .i64 0], 1, 2, some 0, true⟩, ⟨[.int .i64 (p : Nat), .int .i64 (r0 : Nat)], 1, 3, some 0, true⟩] (⟨.exit 2, [(0, .sl 0 0 fs.length), (3, .ptr 1 0), (4, .ptr 2 0), (5, .ptr 3 0)], [⟨fns fs, 2, 0, some 0, false⟩, ⟨[.int .i64 (p : Nat), .int .i64 (cgI fs p (fs.length) r0 : Nat)], 1, 1, some 0, true⟩, ⟨[.int .i64 0, .int .i64 0], 1, 2, some 0, true⟩, ⟨[.int .i64 (p : Nat), .int .i64 (r0 : Nat)], 1, 3, some 0, true⟩]⟩ : Out).x (⟨.exit 2, [(0, .sl 0 0 fs.length), (3, .ptr 1 0), (4, .ptr 2 0), (5, .ptr 3 0)], [⟨fns fs, 2, 0, some 0, false⟩, ⟨[.int .i64 (p : Nat), .int .i64 (cgI fs p (fs.length) r0 : Nat)], 1, 1, some 0, true⟩, ⟨[.int .i64 0, .int .i64 0], 1, 2, some 0, true⟩, ⟨[.int .i64 (p : Nat), .int .i64 (r0 : Nat)], 1, 3, some 0, true⟩]⟩ : Out).e (⟨.exit 2, [(0, .sl 0 0 fs.length), (3, .ptr 1 0), (4, .ptr 2 0), (5, .ptr 3 0)], [⟨fns fs, 2, 0, some 0, false⟩, ⟨[.int .i64 (p : Nat), .int .i64 (cgI fs p (fs.length) r0 : Nat)], 1, 1, some 0, true⟩, ⟨[.int .i64 0, .int .i64 0], 1, 2, some 0, true⟩, ⟨[.int .i64 (p : Nat), .int .i64 (r0 : Nat)], 1, 3, some 0, true⟩]⟩ : Out).h := by
  refine lp_st (fs.length) (fun _ => ()) (fun i _ => [(0, .sl 0 0 fs.length), (3, .ptr 1 0), (4, .ptr 2 0), (5, .ptr 3 0), (9, .sl 0 0 fs.length), (10, .int .i64 (fs.length : Nat)), (11, .int .i64 (i : Nat))]) (fun i _ => [⟨fns fs, 2, 0, some 0, false⟩, ⟨[.int .i64 (p : Nat), .int .i64 (cgI fs p (i) r0 : Nat)], 1, 1, some 0, true⟩, ⟨[.int .i64 0, .int .i64 0], 1, 2, some 0, true⟩, ⟨[.int .i64 (p : Nat), .int .i64 (r0 : Nat)], 1, 3, some 0, true⟩]) (fun _ => (⟨.exit 2, [(0, .sl 0 0 fs.length), (3, .ptr 1 0), (4, .ptr 2 0), (5, .ptr 3 0)], [⟨fns fs, 2, 0, some 0, false⟩, ⟨[.int .i64 (p : Nat), .int .i64 (cgI fs p (fs.length) r0 : Nat)], 1, 1, some 0, true⟩, ⟨[.int .i64 0, .int .i64 0], 1, 2, some 0, true⟩, ⟨[.int .i64 (p : Nat), .int .i64 (r0 : Nat)], 1, 3, some 0, true⟩]⟩ : Out)) ?_ ?_ (fs.length) 0 (by omega)
  · intro i u_ hi hu_
    refine ⟨(), rfl, ?_⟩
    have hlt : decide ((i : Int) < (fs.length : Nat)) = true := decide_eq_true (by omega)
    obtain ⟨g1, g2, g3, g4⟩ := shN hp
    have hg := fns_get (l := fs) (j := i) hi
    have hget := allF_at (P := fun j => isFn (fs.getD j (0, 0)).1 (fs.getD j (0, 0)).2) hall hi
    obtain ⟨a, b, ha, hb, ha4, _, hb6⟩ := isFn_nat hget
    have hlt2 := cgI_lt (fs := fs) (p := p) (r := r0) i hr0
    rw [show cgI fs p (i + 1) r0 = cgI fs p i r0 ||| clM fs p i (cgI fs p i r0) from rfl, clM]
    generalize cgI fs p i r0 = r at *
    have e1 := ev118 p r hp (by omega)
    have tl := tup_le (n := p) (b := r)
    have tg := tup_lt (n := p) (b := r)
    have hz := rows0 p
    have q1 : (((fs.getD i (0, 0)).1.toNat : Nat) : Int) = (fs.getD i (0, 0)).1 := by omega
    have q2 : (((fs.getD i (0, 0)).2.toNat : Nat) : Int) = (fs.getD i (0, 0)).2 := by omega
    cases hs : tupL p r with
    | nil =>
      rw [hs] at e1
      have e2 := evkc_e (fs.getD i (0, 0)).1.toNat (fs.getD i (0, 0)).2.toNat p (by omega) (by omega) hp hp1 (by simp) (by simp) (fs.getD i (0, 0)).1.toNat [] r hlt2 (by simp)
      rw [q1, q2] at e2
      unfold m75_1
      repeat' (first
        | refine ep_loadSN rfl rfl rfl hg ?_
        | refine sp_make (mm := p) (l := ints (rowsL p [])) rfl rfl (by omega) hz rfl rfl ?_
        | (refine g_op ?_; first
          | refine ep_mov rfl ?_ | refine ep_load1 rfl rfl rfl rfl ?_ | refine ep_fieldAddr rfl ?_ | refine sp_loadN rfl rfl rfl rfl rfl ?_
          | refine ep_call0 rfl (by first | exact e1 | exact e2) rfl rfl ?_
          | refine sp_call rfl rfl rfl rfl (by first | exact e1 | exact e2) ⟨rfl, rfl, rfl, rfl⟩ rfl rfl rfl ?_
          | refine ep_callw0 rfl (by first | exact e1 | exact e2) rfl rfl ?_
          | refine sp_callw rfl rfl rfl rfl (by first | exact e1 | exact e2) ⟨rfl, rfl, rfl, rfl⟩ rfl rfl rfl (by first | exact WrP_refl _ _ | (repeat' (first | exact rfl | exact True.intro | refine And.intro ?_ ?_))) ?_
          | refine ep_bin rfl rfl (by first | exact b_add (by omega) (by omega) | exact b_sub (by omega) (by omega) | exact b_and (by omega) (by omega) | exact b_or (by omega) (by omega) | exact b_shr (by omega) | exact b_shl (by omega) (by omega) | exact b_lss | exact b_leq | exact b_gtr | exact b_geq | exact b_eql | exact b_neq) ?_
          | refine sp_store rfl rfl rfl rfl rfl rfl rfl rfl rfl rfl ?_ | refine sp_alloc rfl rfl ?_ | refine sp_idx rfl rfl rfl (by omega) rfl ?_ | refine ep_loadS rfl rfl rfl (by first | exact ints_get (by omega) | exact zints_get (by omega) | exact fget (by omega) | assumption) ?_
          | refine ep_loadSN rfl rfl rfl (by first | exact prs_get (by omega) | exact fns_get (by omega)) ?_ | refine ep_mkfn rfl ?_)
        | (refine g_ops ?_; first | refine eo_none ?_ | refine eo_nil ?_)
        | (refine g_dops ?_; first | refine ed_none ?_ | refine ed_nil ?_)
        | refine ed_same rfl ?_ | refine ed_one rfl rfl rfl rfl ?_ | refine ed_two rfl rfl rfl rfl rfl rfl rfl ?_ | refine ed_write rfl rfl ?_
        | (refine g_code ?_; first | refine ec_seq ?_ | refine ec_region ?_ | refine ec_draw ?_ | refine ec_block ?_ | refine ec_skip ?_ | refine ec_exit ?_ | refine ec_condT rfl ?_ | refine ec_condF rfl ?_ | refine ec_condTH rfl (by assumption) ?_ | refine ec_condFH rfl (by assumption) ?_)
        | refine ek_seqN ?_ | refine ek_seqX ?_ | refine ek_blkN ?_ | refine ek_blkR ?_ | refine ek_blkX ?_ | refine ek_blkY rfl ?_)
      exact rnd_on (by rfl) (scmp2 (by rfl) (by rfl) (by exact ⟨rfl, rfl, rfl⟩) (by rfl) (by first | rfl | (simp; done) | (simp [ints, prs]; done)) (by rfl) (by first | rfl | (simp; done) | (simp [ints, prs]; done)))
    | cons y ys =>
      rw [hs] at e1 tl tg
      have e2 := evkc_c (fs.getD i (0, 0)).1.toNat (fs.getD i (0, 0)).2.toNat p (y :: ys) (by omega) (by omega) hp hp1 (fun j hj => by have := tg j hj; omega) (by omega) (fs.getD i (0, 0)).1.toNat [] r hlt2 (by simp)
      rw [q1, q2] at e2
      unfold m75_1
      repeat' (first
        | refine ep_loadSN rfl rfl rfl hg ?_
        | refine sp_make (mm := p) (l := ints (rowsL p [])) rfl rfl (by omega) hz rfl rfl ?_
        | (refine g_op ?_; first
          | refine ep_mov rfl ?_ | refine ep_load1 rfl rfl rfl rfl ?_ | refine ep_fieldAddr rfl ?_ | refine sp_loadN rfl rfl rfl rfl rfl ?_
          | refine ep_call0 rfl (by first | exact e1 | exact e2) rfl rfl ?_
          | refine sp_call rfl rfl rfl rfl (by first | exact e1 | exact e2) ⟨rfl, rfl, rfl, rfl⟩ rfl rfl rfl ?_
          | refine ep_callw0 rfl (by first | exact e1 | exact e2) rfl rfl ?_
          | refine sp_callw rfl rfl rfl rfl (by first | exact e1 | exact e2) ⟨rfl, rfl, rfl, rfl⟩ rfl rfl rfl (by first | exact WrP_refl _ _ | (repeat' (first | exact rfl | exact True.intro | refine And.intro ?_ ?_))) ?_
          | refine ep_bin rfl rfl (by first | exact b_add (by omega) (by omega) | exact b_sub (by omega) (by omega) | exact b_and (by omega) (by omega) | exact b_or (by omega) (by omega) | exact b_shr (by omega) | exact b_shl (by omega) (by omega) | exact b_lss | exact b_leq | exact b_gtr | exact b_geq | exact b_eql | exact b_neq) ?_
          | refine sp_store rfl rfl rfl rfl rfl rfl rfl rfl rfl rfl ?_ | refine sp_alloc rfl rfl ?_ | refine sp_idx rfl rfl rfl (by omega) rfl ?_ | refine ep_loadS rfl rfl rfl (by first | exact ints_get (by omega) | exact zints_get (by omega) | exact fget (by omega) | assumption) ?_
          | refine ep_loadSN rfl rfl rfl (by first | exact prs_get (by omega) | exact fns_get (by omega)) ?_ | refine ep_mkfn rfl ?_)
        | (refine g_ops ?_; first | refine eo_none ?_ | refine eo_nil ?_)
        | (refine g_dops ?_; first | refine ed_none ?_ | refine ed_nil ?_)
        | refine ed_same rfl ?_ | refine ed_one rfl rfl rfl rfl ?_ | refine ed_two rfl rfl rfl rfl rfl rfl rfl ?_ | refine ed_write rfl rfl ?_
        | (refine g_code ?_; first | refine ec_seq ?_ | refine ec_region ?_ | refine ec_draw ?_ | refine ec_block ?_ | refine ec_skip ?_ | refine ec_exit ?_ | refine ec_condT rfl ?_ | refine ec_condF rfl ?_ | refine ec_condTH rfl (by assumption) ?_ | refine ec_condFH rfl (by assumption) ?_)
        | refine ek_seqN ?_ | refine ek_seqX ?_ | refine ek_blkN ?_ | refine ek_blkR ?_ | refine ek_blkX ?_ | refine ek_blkY rfl ?_)
      exact rnd_on (by rfl) (scmp2 (by rfl) (by rfl) (by exact ⟨rfl, rfl, rfl⟩) (by rfl) (by first | rfl | (simp; done) | (simp [ints, prs]; done)) (by rfl) (by first | rfl | (simp; done) | (simp [ints, prs]; done)))
  · intro u_ hu_
    have hlt : decide (((fs.length : Nat) : Int) < (fs.length : Nat)) = false := decide_eq_false (by omega)
    unfold m75_1
    repeat' (first
      | (refine g_op ?_; first
        | refine ep_mov rfl ?_ | refine ep_load1 rfl rfl rfl rfl ?_ | refine ep_fieldAddr rfl ?_ | refine sp_loadN rfl rfl rfl rfl rfl ?_
        | refine ep_bin rfl rfl (by first | exact b_add (by omega) (by omega) | exact b_sub (by omega) (by omega) | exact b_and (by omega) (by omega) | exact b_or (by omega) (by omega) | exact b_shr (by omega) | exact b_shl (by omega) (by omega) | exact b_lss | exact b_leq | exact b_gtr | exact b_geq | exact b_eql | exact b_neq) ?_
        | refine sp_store rfl rfl rfl rfl rfl rfl rfl rfl rfl rfl ?_ | refine sp_alloc rfl rfl ?_ | refine sp_idx rfl rfl rfl (by omega) rfl ?_ | refine ep_loadS rfl rfl rfl (by first | exact ints_get (by omega) | exact zints_get (by omega) | exact fget (by omega) | assumption) ?_
        | refine ep_loadSN rfl rfl rfl (by first | exact prs_get (by omega) | exact fns_get (by omega)) ?_ | refine ep_mkfn rfl ?_)
      | (refine g_ops ?_; first | refine eo_none ?_ | refine eo_nil ?_)
      | (refine g_dops ?_; first | refine ed_none ?_ | refine ed_nil ?_)
      | refine ed_same rfl ?_ | refine ed_one rfl rfl rfl rfl ?_ | refine ed_two rfl rfl rfl rfl rfl rfl rfl ?_ | refine ed_write rfl rfl ?_
      | (refine g_code ?_; first | refine ec_seq ?_ | refine ec_region ?_ | refine ec_draw ?_ | refine ec_block ?_ | refine ec_skip ?_ | refine ec_exit ?_ | refine ec_condT rfl ?_ | refine ec_condF rfl ?_ | refine ec_condTH rfl (by assumption) ?_ | refine ec_condFH rfl (by assumption) ?_)
      | refine ek_seqN ?_ | refine ek_seqX ?_ | refine ek_blkN ?_ | refine ek_blkR ?_ | refine ek_blkX ?_ | refine ek_blkY rfl ?_)
    exact rnd_out (by rfl) (by simp) (scmp2 (by rfl) (by rfl) (by exact ⟨rfl, rfl, rfl⟩) (by rfl) (by first | rfl | (simp; done) | (simp [ints, prs]; done)) (by rfl) (by first | rfl | (simp; done) | (simp [ints, prs]; done)))

theorem lpcl0 (p : Nat) (fs : List (Int × Int)) (hp : p ≤ 4) (hp1 : 1 ≤ p) (hall : allFunc fs = true) (hln : fs.length ≤ 1048576) : ∀ (k r0 : Nat), r0 < R2 (R2 p) → R2 (R2 p) - r0 ≤ k → LpS cx 30 1 m75_0 [(0, .sl 0 0 fs.length), (3, .ptr 1 0), (4, .ptr 2 0)] [⟨fns fs, 2, 0, some 0, false⟩, ⟨[.int .i64 (p : Nat), .int .i64 (r0 : Nat)], 1, 1, some 0, true⟩, ⟨[.int .i64 0, .int .i64 0], 1, 2, some 0, true⟩] (⟨.ret, [(4, .ptr 1 0)], [⟨fns fs, 2, 0, some 0, false⟩, ⟨[.int .i64 (p : Nat), .int .i64 (clI fs p k r0 : Nat)], 1, 1, some 0, true⟩]⟩ : Out).x (⟨.ret, [(4, .ptr 1 0)], [⟨fns fs, 2, 0, some 0, false⟩, ⟨[.int .i64 (p : Nat), .int .i64 (clI fs p k r0 : Nat)], 1, 1, some 0, true⟩]⟩ : Out).e (⟨.ret, [(4, .ptr 1 0)], [⟨fns fs, 2, 0, some 0, false⟩, ⟨[.int .i64 (p : Nat), .int .i64 (clI fs p k r0 : Nat)], 1, 1, some 0, true⟩]⟩ : Out).h
  | 0, r0, h1, h2 => by omega
  | k + 1, r0, hr0, hk => by
    have lp := lpcl1 p r0 fs hp hp1 hr0 hall hln
    rw [show cgI fs p 0 r0 = r0 from rfl] at lp
    have hlt2 := cgI_lt (fs := fs) (p := p) (r := r0) fs.length hr0
    have hsup := sbs_le (cgI_sup fs p fs.length r0)
    rw [clI]
    by_cases h : cgI fs p fs.length r0 = r0
    · rw [if_pos h]
      rw [h] at lp
      have hq : decide (((p : Nat) : Int) = (p : Nat) ∧ ((r0 : Nat) : Int) = (r0 : Nat)) = true := by simp
      refine round_out ?_
      unfold m75_0
      repeat' (first
        | refine sc_loop lp rfl rfl ⟨rfl, rfl, rfl⟩ rfl rfl rfl ?_
        | (refine g_op ?_; first
          | refine ep_mov rfl ?_ | refine sp_loadN rfl rfl rfl rfl rfl ?_
          | refine sp_store rfl rfl rfl rfl rfl rfl rfl rfl rfl rfl ?_ | refine ep_lenS rfl ?_ | refine ep_lenN rfl ?_ | refine ep_lenE rfl ?_ | refine sp_alloc rfl rfl ?_ | refine ep_eqa0 rfl rfl ?_ | refine ep_eqa1 rfl rfl ?_)
        | (refine g_ops ?_; first | refine eo_none ?_ | refine eo_nil ?_)
        | (refine g_code ?_; first | refine ec_seq ?_ | refine ec_region ?_ | refine ec_block ?_ | refine ec_skip ?_ | refine ec_ret ?_ | refine ec_condT rfl ?_ | refine ec_condF rfl ?_ | refine ec_condTH rfl (by assumption) ?_ | refine ec_condFH rfl (by assumption) ?_)
        | refine ek_seqN ?_ | refine ek_seqX ?_ | refine ek_seqR ?_ | refine ek_blkN ?_ | refine ek_blkR ?_ | refine ek_blkX ?_ | refine ek_blkY rfl ?_)
      exact rnd_out (by rfl) (by simp) (scmp2 (by rfl) (by rfl) (by exact ⟨rfl, rfl, rfl⟩) (by rfl) (by first | rfl | (simp; done) | (simp [ints, prs]; done)) (by rfl) (by first | rfl | (simp; done) | (simp [ints, prs]; done)))
    · rw [if_neg h]
      have hq : decide (((p : Nat) : Int) = (p : Nat) ∧ ((cgI fs p fs.length r0 : Nat) : Int) = (r0 : Nat)) = false := decide_eq_false (by omega)
      refine round_on ?_ (lpcl0 p fs hp hp1 hall hln k (cgI fs p fs.length r0) hlt2 (by omega))
      unfold m75_0
      repeat' (first
        | refine sc_loop lp rfl rfl ⟨rfl, rfl, rfl⟩ rfl rfl rfl ?_
        | (refine g_op ?_; first
          | refine ep_mov rfl ?_ | refine sp_loadN rfl rfl rfl rfl rfl ?_
          | refine sp_store rfl rfl rfl rfl rfl rfl rfl rfl rfl rfl ?_ | refine ep_lenS rfl ?_ | refine ep_lenN rfl ?_ | refine ep_lenE rfl ?_ | refine sp_alloc rfl rfl ?_ | refine ep_eqa0 rfl rfl ?_ | refine ep_eqa1 rfl rfl ?_)
        | (refine g_ops ?_; first | refine eo_none ?_ | refine eo_nil ?_)
        | (refine g_code ?_; first | refine ec_seq ?_ | refine ec_region ?_ | refine ec_block ?_ | refine ec_skip ?_ | refine ec_ret ?_ | refine ec_condT rfl ?_ | refine ec_condF rfl ?_ | refine ec_condTH rfl (by assumption) ?_ | refine ec_condFH rfl (by assumption) ?_)
        | refine ek_seqN ?_ | refine ek_seqX ?_ | refine ek_seqR ?_ | refine ek_blkN ?_ | refine ek_blkR ?_ | refine ek_blkX ?_ | refine ek_blkY rfl ?_)
      exact rnd_on (by rfl) (scmp2 (by rfl) (by rfl) (by exact ⟨rfl, rfl, rfl⟩) (by rfl) (by first | rfl | (simp; done) | (simp [ints, prs]; done)) (by rfl) (by first | rfl | (simp; done) | (simp [ints, prs]; done)))
theorem ev75 (p r : Nat) (fs : List (Int × Int)) (hp : p ≤ 4) (hp1 : 1 ≤ p) (hr : r < R2 (R2 p)) (hall : allFunc fs = true) (hln : fs.length ≤ 1048576) : Ev cx 75 [.sl 0 0 fs.length, .agg [.int .i64 p, .int .i64 r]] [⟨fns fs, 2, 0, some 0, false⟩] (.agg [.int .i64 p, .int .i64 (clI fs p (R2 (R2 p)) r : Nat)]) [⟨fns fs, 2, 0, some 0, false⟩] := by
  have lp := lpcl0 p fs hp hp1 hall hln (R2 (R2 p)) r hr (by omega)
  refine has75.eev rfl rfl ?_
  unfold m75
  repeat' (first
    | refine sc_loop lp rfl rfl ⟨rfl, rfl, rfl⟩ rfl rfl rfl ?_
    | (refine g_op ?_; first
      | refine sp_box rfl rfl rfl rfl rfl ?_ | refine sp_alloc rfl rfl ?_)
    | (refine g_ops ?_; first | refine eo_none ?_ | refine eo_nil ?_)
    | (refine g_code ?_; first | refine ec_seq ?_ | refine ec_region ?_ | refine ec_block ?_)
    | refine ek_seqN ?_ | refine ek_seqX ?_ | refine ek_seqR ?_ | refine ek_blkN ?_ | refine ek_blkR ?_ | refine ek_blkX ?_ | refine ek_blkY rfl ?_)
  refine sfin (.inr rfl) (by rfl) (by rfl) (by exact ⟨rfl, rfl, rfl⟩) (by rfl) (by rfl) (by rfl) (by first | rfl | (simp; done) | (simp [ints, prs]; done))
-- 30
def clsR (fs : List (Int × Int)) (p t : Int) : (Int × Int) × Int := if allFunc fs = true ∧ isRel p t = true then (if fs.length > 8 then ((0, 0), 2) else ((p, (clI fs p.toNat (R2 (R2 p.toNat)) t.toNat : Nat)), 0)) else ((0, 0), 1)
-- impl.ClosureOf
def m30 : MC := (.seq (.region [⟨(.box (.t 1)), (some 3), none⟩, ⟨(.alloc [(.int .i64 0), (.int .i64 0)]), (some 4), none⟩, ⟨(.mov (.k (.int .i64 0))), (some 5), none⟩] false) (.seq (.seq (.region [⟨(.mov (.t 0)), (some 6), none⟩, ⟨(.call 73 [(.t 6)]), (some 7), none⟩, ⟨(.un .not (.t 7)), (some 8), none⟩, ⟨(.mov (.t 8)), (some 9), none⟩, ⟨(.load (some 2) (.t 3)), (some 10), (some (9, false))⟩, ⟨(.call 74 [(.t 10)]), (some 11), (some (9, false))⟩, ⟨(.un .not (.t 11)), (some 12), (some (9, false))⟩, ⟨(.pick (.t 9) (.k (.bool true)) (.t 12)), (some 13), none⟩] false) (.cond (.t 13) (.seq (.region [⟨(.build [(.int .i64 0), (.int .i64 0)] []), (some 14), none⟩, ⟨(.store 2 (.t 4) (.t 14)), none, none⟩, ⟨(.mov (.k (.int .i64 1))), (some 5), none⟩] false) .ret) .skip)) (.seq (.seq (.region [⟨(.mov (.t 0)), (some 15), none⟩, ⟨(.len (.t 15)), (some 16), none⟩, ⟨(.bin .gtr (.t 16) (.k (.int .i64 8))), (some 17), none⟩] false) (.cond (.t 17) (.seq (.region [⟨(.build [(.int .i64 0), (.int .i64 0)] []), (some 18), none⟩, ⟨(.store 2 (.t 4) (.t 18)), none, none⟩, ⟨(.mov (.k (.int .i64 2))), (some 5), none⟩] false) .ret) .skip)) (.seq (.region [⟨(.mov (.t 0)), (some 19), none⟩, ⟨(.load (some 2) (.t 3)), (some 20), none⟩, ⟨(.call 75 [(.t 19), (.t 20)]), (some 21), none⟩, ⟨(.store 2 (.t 4) (.t 21)), none, none⟩, ⟨(.mov (.k (.int .i64 0))), (some 5), none⟩] false) .ret))))
theorem has30 : Has cx 30 22 m30 [(.cell 4 (some 2)), (.tmp 5)] :=
  ⟨⟨Try.f30, Try.f30.body.getD .skip, by kernel_rfl, by kernel_rfl, by kernel_rfl, by kernel_rfl, by kernel_rfl, by kernel_rfl⟩⟩
theorem ev30 (fs : List (Int × Int)) (p t : Int) (hln : fs.length ≤ 1048576) : Ev cx 30 [.sl 0 0 fs.length, .agg [.int .i64 p, .int .i64 t]] [⟨fns fs, 2, 0, some 0, false⟩] (.tup [.agg [.int .i64 (clsR fs p t).1.1, .int .i64 (clsR fs p t).1.2], .int .i64 (clsR fs p t).2]) [⟨fns fs, 2, 0, some 0, false⟩] := by
  have e1 := ev73 fs hln
  have e2 := ev74 p t
  cases ha : allFunc fs
  · rw [ha] at e1
    rw [clsR, if_neg (by rw [ha]; simp)]
    refine has30.eev rfl rfl ?_
    unfold m30
    repeat' (first
      | (refine g_op ?_; first
        | refine ep_mov rfl ?_ | refine sp_loadN rfl rfl rfl rfl rfl ?_
        | refine ep_call0 rfl (by first | exact e1) rfl rfl ?_
        | refine sp_call rfl rfl rfl rfl (by first | exact e1) ⟨rfl, rfl, rfl, rfl⟩ rfl rfl rfl ?_
        | refine ep_bin rfl rfl (by first | exact b_add (by omega) (by omega) | exact b_sub (by omega) (by omega) | exact b_and (by omega) (by omega) | exact b_or (by omega) (by omega) | exact b_shr (by omega) | exact b_shl (by omega) (by omega) | exact b_lss | exact b_leq | exact b_gtr | exact b_geq | exact b_eql | exact b_neq) ?_
        | refine ep_pickT rfl rfl ?_ | refine ep_pickF rfl rfl ?_ | refine ep_pickTH rfl (by assumption) rfl ?_ | refine ep_pickFH rfl (by assumption) rfl ?_ | refine sp_store rfl rfl rfl rfl rfl rfl rfl rfl rfl rfl ?_
        | refine ep_not rfl ?_ | refine ep_lenS rfl ?_ | refine ep_lenN rfl ?_ | refine ep_lenE rfl ?_ | refine sp_box rfl rfl rfl rfl rfl ?_ | refine sp_alloc rfl rfl ?_ | refine sp_build rfl rfl ?_)
      | (refine g_ops ?_; first | refine eo_none ?_ | refine eo_nil ?_ | refine eo_yes rfl ?_ | refine eo_no rfl ?_ | refine eo_und rfl ?_ | refine eo_yesH rfl (by assumption) ?_ | refine eo_noH rfl (by assumption) ?_)
      | (refine g_code ?_; first | refine ec_seq ?_ | refine ec_region ?_ | refine ec_skip ?_ | refine ec_ret ?_ | refine ec_condT rfl ?_ | refine ec_condF rfl ?_ | refine ec_condTH rfl (by assumption) ?_ | refine ec_condFH rfl (by assumption) ?_)
      | refine ek_seqN ?_ | refine ek_seqR ?_)
    refine sfin (.inr rfl) (by rfl) (by rfl) (by exact ⟨rfl, rfl, rfl⟩) (by rfl) (by rfl) (by rfl) (by first | rfl | (simp; done) | (simp [ints, prs]; done))
  · rw [ha] at e1
    cases hr : isRel p t
    · rw [hr] at e2
      rw [clsR, if_neg (by rw [hr]; simp)]
      refine has30.eev rfl rfl ?_
      unfold m30
      repeat' (first
        | (refine g_op ?_; first
          | refine ep_mov rfl ?_ | refine sp_loadN rfl rfl rfl rfl rfl ?_
          | refine ep_call0 rfl (by first | exact e1 | exact e2) rfl rfl ?_
          | refine sp_call rfl rfl rfl rfl (by first | exact e1 | exact e2) ⟨rfl, rfl, rfl, rfl⟩ rfl rfl rfl ?_
          | refine ep_bin rfl rfl (by first | exact b_add (by omega) (by omega) | exact b_sub (by omega) (by omega) | exact b_and (by omega) (by omega) | exact b_or (by omega) (by omega) | exact b_shr (by omega) | exact b_shl (by omega) (by omega) | exact b_lss | exact b_leq | exact b_gtr | exact b_geq | exact b_eql | exact b_neq) ?_
          | refine ep_pickT rfl rfl ?_ | refine ep_pickF rfl rfl ?_ | refine ep_pickTH rfl (by assumption) rfl ?_ | refine ep_pickFH rfl (by assumption) rfl ?_ | refine sp_store rfl rfl rfl rfl rfl rfl rfl rfl rfl rfl ?_
          | refine ep_not rfl ?_ | refine ep_lenS rfl ?_ | refine ep_lenN rfl ?_ | refine ep_lenE rfl ?_ | refine sp_box rfl rfl rfl rfl rfl ?_ | refine sp_alloc rfl rfl ?_ | refine sp_build rfl rfl ?_)
        | (refine g_ops ?_; first | refine eo_none ?_ | refine eo_nil ?_ | refine eo_yes rfl ?_ | refine eo_no rfl ?_ | refine eo_und rfl ?_ | refine eo_yesH rfl (by assumption) ?_ | refine eo_noH rfl (by assumption) ?_)
        | (refine g_code ?_; first | refine ec_seq ?_ | refine ec_region ?_ | refine ec_skip ?_ | refine ec_ret ?_ | refine ec_condT rfl ?_ | refine ec_condF rfl ?_ | refine ec_condTH rfl (by assumption) ?_ | refine ec_condFH rfl (by assumption) ?_)
        | refine ek_seqN ?_ | refine ek_seqR ?_)
      refine sfin (.inr rfl) (by rfl) (by rfl) (by exact ⟨rfl, rfl, rfl⟩) (by rfl) (by rfl) (by rfl) (by first | rfl | (simp; done) | (simp [ints, prs]; done))
    · rw [hr] at e2
      rw [clsR, if_pos ⟨ha, hr⟩]
      by_cases h8 : fs.length > 8
      · have g8 : decide (((fs.length : Nat) : Int) > 8) = true := decide_eq_true (by omega)
        rw [if_pos h8]
        refine has30.eev rfl rfl ?_
        unfold m30
        repeat' (first
          | (refine g_op ?_; first
            | refine ep_mov rfl ?_ | refine sp_loadN rfl rfl rfl rfl rfl ?_
            | refine ep_call0 rfl (by first | exact e1 | exact e2) rfl rfl ?_
            | refine sp_call rfl rfl rfl rfl (by first | exact e1 | exact e2) ⟨rfl, rfl, rfl, rfl⟩ rfl rfl rfl ?_
            | refine ep_bin rfl rfl (by first | exact b_add (by omega) (by omega) | exact b_sub (by omega) (by omega) | exact b_and (by omega) (by omega) | exact b_or (by omega) (by omega) | exact b_shr (by omega) | exact b_shl (by omega) (by omega) | exact b_lss | exact b_leq | exact b_gtr | exact b_geq | exact b_eql | exact b_neq) ?_
            | refine ep_pickT rfl rfl ?_ | refine ep_pickF rfl rfl ?_ | refine ep_pickTH rfl (by assumption) rfl ?_ | refine ep_pickFH rfl (by assumption) rfl ?_ | refine sp_store rfl rfl rfl rfl rfl rfl rfl rfl rfl rfl ?_
            | refine ep_not rfl ?_ | refine ep_lenS rfl ?_ | refine ep_lenN rfl ?_ | refine ep_lenE rfl ?_ | refine sp_box rfl rfl rfl rfl rfl ?_ | refine sp_alloc rfl rfl ?_ | refine sp_build rfl rfl ?_)
          | (refine g_ops ?_; first | refine eo_none ?_ | refine eo_nil ?_ | refine eo_yes rfl ?_ | refine eo_no rfl ?_ | refine eo_und rfl ?_ | refine eo_yesH rfl (by assumption) ?_ | refine eo_noH rfl (by assumption) ?_)
          | (refine g_code ?_; first | refine ec_seq ?_ | refine ec_region ?_ | refine ec_skip ?_ | refine ec_ret ?_ | refine ec_condT rfl ?_ | refine ec_condF rfl ?_ | refine ec_condTH rfl (by assumption) ?_ | refine ec_condFH rfl (by assumption) ?_)
          | refine ek_seqN ?_ | refine ek_seqR ?_)
        refine sfin (.inr rfl) (by rfl) (by rfl) (by exact ⟨rfl, rfl, rfl⟩) (by rfl) (by rfl) (by rfl) (by first | rfl | (simp; done) | (simp [ints, prs]; done))
      · have g8 : decide (((fs.length : Nat) : Int) > 8) = false := decide_eq_false (by omega)
        rw [if_neg h8]
        obtain ⟨p, t, rfl, rfl, b1, b2, b3, b4⟩ := isRel_nat hr
        have e3 := ev75 p t fs b2 b1 b3 ha hln
        refine has30.eev rfl rfl ?_
        unfold m30
        repeat' (first
          | (refine g_op ?_; first
            | refine ep_mov rfl ?_ | refine sp_loadN rfl rfl rfl rfl rfl ?_
            | refine ep_call0 rfl (by first | exact e1 | exact e2 | exact e3) rfl rfl ?_
            | refine sp_call rfl rfl rfl rfl (by first | exact e1 | exact e2 | exact e3) ⟨rfl, rfl, rfl, rfl⟩ rfl rfl rfl ?_
            | refine ep_bin rfl rfl (by first | exact b_add (by omega) (by omega) | exact b_sub (by omega) (by omega) | exact b_and (by omega) (by omega) | exact b_or (by omega) (by omega) | exact b_shr (by omega) | exact b_shl (by omega) (by omega) | exact b_lss | exact b_leq | exact b_gtr | exact b_geq | exact b_eql | exact b_neq) ?_
            | refine ep_pickT rfl rfl ?_ | refine ep_pickF rfl rfl ?_ | refine ep_pickTH rfl (by assumption) rfl ?_ | refine ep_pickFH rfl (by assumption) rfl ?_ | refine sp_store rfl rfl rfl rfl rfl rfl rfl rfl rfl rfl ?_
            | refine ep_not rfl ?_ | refine ep_lenS rfl ?_ | refine ep_lenN rfl ?_ | refine ep_lenE rfl ?_ | refine sp_box rfl rfl rfl rfl rfl ?_ | refine sp_alloc rfl rfl ?_ | refine sp_build rfl rfl ?_)
          | (refine g_ops ?_; first | refine eo_none ?_ | refine eo_nil ?_ | refine eo_yes rfl ?_ | refine eo_no rfl ?_ | refine eo_und rfl ?_ | refine eo_yesH rfl (by assumption) ?_ | refine eo_noH rfl (by assumption) ?_)
          | (refine g_code ?_; first | refine ec_seq ?_ | refine ec_region ?_ | refine ec_skip ?_ | refine ec_ret ?_ | refine ec_condT rfl ?_ | refine ec_condF rfl ?_ | refine ec_condTH rfl (by assumption) ?_ | refine ec_condFH rfl (by assumption) ?_)
          | refine ek_seqN ?_ | refine ek_seqR ?_)
        refine sfin (.inr rfl) (by rfl) (by rfl) (by exact ⟨rfl, rfl, rfl⟩) (by rfl) (by rfl) (by rfl) (by first | rfl | (simp; done) | (simp [ints, prs]; done))

-- spec.ClosureOf
def m27_1 : MC := (.seq (.seq (.region [⟨(.mov (.t 8)), (some 25), none⟩, ⟨(.mov (.t 0)), (some 26), none⟩, ⟨(.len (.t 26)), (some 27), none⟩, ⟨(.bin .lss (.t 25) (.t 27)), (some 28), none⟩] false) (.cond (.t 28) .skip (.exit 2))) (.seq (.block 3 (.region [⟨(.mov (.t 7)), (some 31), none⟩, ⟨(.mov (.t 0)), (some 32), none⟩, ⟨(.mov (.t 8)), (some 33), none⟩, ⟨(.indexAddr 2 (.t 32) (.t 33)), (some 34), none⟩, ⟨(.load (some 2) (.t 34)), (some 35), none⟩, ⟨(.load (some 2) (.t 3)), (some 36), none⟩, ⟨(.load (some 2) (.t 3)), (some 37), none⟩, ⟨(.call 72 [(.t 37)]), (some 38), none⟩, ⟨.empt, (some 39), none⟩, ⟨(.callw 71 [(.t 35), (.t 36), (.t 38), (.t 39)]), (some 40), none⟩, ⟨(.bin .or (.t 31) (.t 40)), (some 41), none⟩, ⟨(.mov (.t 41)), (some 7), none⟩] true)) (.region [⟨(.mov (.t 8)), (some 29), none⟩, ⟨(.bin .add (.t 29) (.k (.int .i64 1))), (some 30), none⟩, ⟨(.mov (.t 30)), (some 8), none⟩] false)))
def m27_0 : MC := (.block 1 (.seq (.region [⟨(.fieldAddr 1 (.t 3)), (some 23), none⟩, ⟨(.load none (.t 23)), (some 24), none⟩, ⟨(.mov (.t 24)), (some 7), none⟩] false) (.seq (.seq (.region [⟨(.mov (.k (.int .i64 0))), (some 8), none⟩] false) (.block 2 (.loop m27_1))) (.seq (.seq (.region [⟨(.mov (.t 7)), (some 42), none⟩, ⟨(.fieldAddr 1 (.t 3)), (some 43), none⟩, ⟨(.load none (.t 43)), (some 44), none⟩, ⟨(.bin .eql (.t 42) (.t 44)), (some 45), none⟩] false) (.cond (.t 45) (.seq (.region [⟨(.load (some 2) (.t 3)), (some 46), none⟩, ⟨(.store 2 (.t 4) (.t 46)), none, none⟩, ⟨(.mov (.k (.int .i64 0))), (some 5), none⟩] false) .ret) .skip)) (.region [⟨(.mov (.t 7)), (some 47), none⟩, ⟨(.fieldAddr 1 (.t 3)), (some 48), none⟩, ⟨(.store 1 (.t 48) (.t 47)), none, none⟩] false)))))
def m27 : MC := (.seq (.region [⟨(.box (.t 1)), (some 3), none⟩, ⟨(.alloc [(.int .i64 0), (.int .i64 0)]), (some 4), none⟩, ⟨(.mov (.k (.int .i64 0))), (some 5), none⟩] false) (.seq (.region [⟨(.mov (.t 0)), (some 9), none⟩, ⟨(.call 69 [(.t 9)]), (some 10), none⟩, ⟨(.mov (.t 10)), (some 6), none⟩] false) (.seq (.seq (.region [⟨(.mov (.t 6)), (some 11), none⟩, ⟨(.bin .eql (.t 11) (.k (.int .i64 1))), (some 12), none⟩, ⟨(.mov (.t 12)), (some 13), none⟩, ⟨(.load (some 2) (.t 3)), (some 14), (some (13, false))⟩, ⟨(.call 70 [(.t 14)]), (some 15), (some (13, false))⟩, ⟨(.un .not (.t 15)), (some 16), (some (13, false))⟩, ⟨(.pick (.t 13) (.k (.bool true)) (.t 16)), (some 17), none⟩] false) (.cond (.t 17) (.seq (.region [⟨(.build [(.int .i64 0), (.int .i64 0)] []), (some 18), none⟩, ⟨(.store 2 (.t 4) (.t 18)), none, none⟩, ⟨(.mov (.k (.int .i64 1))), (some 5), none⟩] false) .ret) .skip)) (.seq (.seq (.region [⟨(.mov (.t 6)), (some 19), none⟩, ⟨(.bin .neq (.t 19) (.k (.int .i64 0))), (some 20), none⟩] false) (.cond (.t 20) (.seq (.region [⟨(.build [(.int .i64 0), (.int .i64 0)] []), (some 21), none⟩, ⟨(.mov (.t 6)), (some 22), none⟩, ⟨(.store 2 (.t 4) (.t 21)), none, none⟩, ⟨(.mov (.t 22)), (some 5), none⟩] false) .ret) .skip)) (.block 0 (.loop m27_0))))))
theorem has27 : Has cx 27 49 m27 [(.cell 4 (some 2)), (.tmp 5)] :=
  ⟨⟨Try.f27, Try.f27.body.getD .skip, by kernel_rfl, by kernel_rfl, by kernel_rfl, by kernel_rfl, by kernel_rfl, by kernel_rfl⟩⟩
theorem lpcs1 (p r0 : Nat) (fs : List (Int × Int)) (hp : p ≤ 4) (hp1 : 1 ≤ p) (hr0 : r0 < R2 (R2 p)) (hall : allFunc fs = true) (hln : fs.length ≤ 1048576) :
    LpS cx 49 1 m27_1 [(0, .sl 0 0 fs.length), (3, .ptr 1 0), (4, .ptr 2 0), (7, .int .i64 (cgS fs p r0 (0) : Nat)), (8, .int .i64 (0 : Nat))] [⟨fns fs, 2, 0, some 0, false⟩, ⟨[.int .i64 (p : Nat), .int .i64 (r0 : Nat)], 1, 1, some 0, true⟩, ⟨[.int .i64 0, .int .i64 0], 1, 2, some 0, true⟩] (⟨.exit 2, [(0, .sl 0 0 fs.length), (3, .ptr 1 0), (4, .ptr 2 0), (7, .int .i64 (cgS fs p r0 (fs.length) : Nat))], [⟨fns fs, 2, 0, some 0, false⟩, ⟨[.int .i64 (p : Nat), .int .i64 (r0 : Nat)], 1, 1, some 0, true⟩, ⟨[.int .i64 0, .int .i64 0], 1, 2, some 0, true⟩]⟩ : Out).x (⟨.exit 2, [(0, .sl 0 0 fs.length), (3, .ptr 1 0), (4, .ptr 2 0), (7, .int .i64 (cgS fs p r0 (fs.length) : Nat))], [⟨fns fs, 2, 0, some 0, false⟩, ⟨[.int .i64 (p : Nat), .int .i64 (r0 : Nat)], 1, 1, some 0, true⟩, ⟨[.int .i64 0, .int .i64 0], 1, 2, some 0, true⟩]⟩ : Out).e (⟨.exit 2, [(0, .sl 0 0 fs.length), (3, .ptr 1 0), (4, .ptr 2 0), (7, .int .i64 (cgS fs p r0 (fs.length) : Nat))], [⟨fns fs, 2, 0, some 0, false⟩, ⟨[.int .i64 (p : Nat), .int .i64 (r0 : Nat)], 1, 1, some 0, true⟩, ⟨[.int .i64 0, .int .i64 0], 1, 2, some 0, true⟩]⟩ : Out).h := by
  refine lp_st (fs.length) (fun _ => ()) (fun i _ => [(0, .sl 0 0 fs.length), (3, .ptr 1 0), (4, .ptr 2 0), (7, .int .i64 (cgS fs p r0 (i) : Nat)), (8, .int .i64 (i : Nat))]) (fun i _ => [⟨fns fs, 2, 0, some 0, false⟩, ⟨[.int .i64 (p : Nat), .int .i64 (r0 : Nat)], 1, 1, some 0, true⟩, ⟨[.int .i64 0, .int .i64 0], 1, 2, some 0, true⟩]) (fun _ => (⟨.exit 2, [(0, .sl 0 0 fs.length), (3, .ptr 1 0), (4, .ptr 2 0), (7, .int .i64 (cgS fs p r0 (fs.length) : Nat))], [⟨fns fs, 2, 0, some 0, false⟩, ⟨[.int .i64 (p : Nat), .int .i64 (r0 : Nat)], 1, 1, some 0, true⟩, ⟨[.int .i64 0, .int .i64 0], 1, 2, some 0, true⟩]⟩ : Out)) ?_ ?_ (fs.length) 0 (by omega)
  · intro i u_ hi hu_
    refine ⟨(), rfl, ?_⟩
    have hlt : decide ((i : Int) < (fs.length : Nat)) = true := decide_eq_true (by omega)
    obtain ⟨g1, g2, g3, g4⟩ := shN hp
    have hg := fns_get (l := fs) (j := i) hi
    have hget := allF_at (P := fun j => isFn (fs.getD j (0, 0)).1 (fs.getD j (0, 0)).2) hall hi
    obtain ⟨a, b, ha, hb, ha4, _, hb6⟩ := isFn_nat hget
    have hlt2 := cgS_lt (fs := fs) (p := p) (r := r0) i hr0
    have hlt3 := clM_lt fs p i r0
    have hor := b_or (x := cgS fs p r0 i) (y := clM fs p i r0) (by omega) (by omega)
    rw [show cgS fs p r0 (i + 1) = cgS fs p r0 i ||| clM fs p i r0 from rfl]
    rw [clM] at hor ⊢
    generalize cgS fs p r0 i = u at *
    have e1 := ev72 p r0 hp (by omega)
    have tl := tup_le (n := p) (b := r0)
    have tg := tup_lt (n := p) (b := r0)
    have q1 : (((fs.getD i (0, 0)).1.toNat : Nat) : Int) = (fs.getD i (0, 0)).1 := by omega
    have q2 : (((fs.getD i (0, 0)).2.toNat : Nat) : Int) = (fs.getD i (0, 0)).2 := by omega
    cases hs : tupL p r0 with
    | nil =>
      rw [hs] at e1 hor
      have e2 := evmd_z (fs.getD i (0, 0)).1.toNat (fs.getD i (0, 0)).2.toNat p r0 (by omega) (by omega) hp
      rw [q1, q2] at e2
      unfold m27_1
      repeat' (first
        | refine ep_loadSN rfl rfl rfl hg ?_
        | (refine g_op ?_; first
          | refine ep_mov rfl ?_ | refine sp_loadN rfl rfl rfl rfl rfl ?_
          | refine ep_call0 rfl (by first | exact e1 | exact e2) rfl rfl ?_
          | refine sp_call rfl rfl rfl rfl (by first | exact e1 | exact e2) ⟨rfl, rfl, rfl, rfl⟩ rfl rfl rfl ?_
          | refine ep_callw0 rfl (by first | exact e1 | exact e2) rfl rfl ?_
          | refine sp_callw rfl rfl rfl rfl (by first | exact e1 | exact e2) ⟨rfl, rfl, rfl, rfl⟩ rfl rfl rfl (by first | exact WrP_refl _ _ | (repeat' (first | exact rfl | exact True.intro | refine And.intro ?_ ?_))) ?_
          | refine ep_bin rfl rfl (by first | exact hor | exact b_add (by omega) (by omega) | exact b_sub (by omega) (by omega) | exact b_and (by omega) (by omega) | exact b_or (by omega) (by omega) | exact b_shr (by omega) | exact b_shl (by omega) (by omega) | exact b_lss | exact b_leq | exact b_gtr | exact b_geq | exact b_eql | exact b_neq) ?_
          | refine ep_lenS rfl ?_ | refine ep_lenN rfl ?_ | refine ep_lenE rfl ?_ | refine ep_empt ?_ | refine sp_idx rfl rfl rfl (by omega) rfl ?_ | refine ep_loadSN rfl rfl rfl (by first | exact prs_get (by omega) | exact fns_get (by omega)) ?_)
        | (refine g_ops ?_; first | refine eo_none ?_ | refine eo_nil ?_)
        | (refine g_dops ?_; first | refine ed_none ?_ | refine ed_nil ?_)
        | refine ed_same rfl ?_ | refine ed_one rfl rfl rfl rfl ?_ | refine ed_two rfl rfl rfl rfl rfl rfl rfl ?_ | refine ed_write rfl rfl ?_
        | (refine g_code ?_; first | refine ec_seq ?_ | refine ec_region ?_ | refine ec_draw ?_ | refine ec_block ?_ | refine ec_skip ?_ | refine ec_exit ?_ | refine ec_condT rfl ?_ | refine ec_condF rfl ?_ | refine ec_condTH rfl (by assumption) ?_ | refine ec_condFH rfl (by assumption) ?_)
        | refine ek_seqN ?_ | refine ek_seqX ?_ | refine ek_blkN ?_ | refine ek_blkR ?_ | refine ek_blkX ?_ | refine ek_blkY rfl ?_)
      exact rnd_on (by rfl) (scmp2 (by rfl) (by rfl) (by exact ⟨rfl, rfl, rfl⟩) (by rfl) (by first | rfl | (simp; done) | (simp [ints, prs]; done)) (by rfl) (by first | rfl | (simp; done) | (simp [ints, prs]; done)))
    | cons y ys =>
      rw [hs] at e1 tl tg hor
      have e2 := evmd_e (fs.getD i (0, 0)).1.toNat (fs.getD i (0, 0)).2.toNat p r0 y ys (by omega) (by omega) hp (by omega) (fun j hj => by have := tg j hj; omega)
      rw [q1, q2] at e2
      unfold m27_1
      repeat' (first
        | refine ep_loadSN rfl rfl rfl hg ?_
        | (refine g_op ?_; first
          | refine ep_mov rfl ?_ | refine sp_loadN rfl rfl rfl rfl rfl ?_
          | refine ep_call0 rfl (by first | exact e1 | exact e2) rfl rfl ?_
          | refine sp_call rfl rfl rfl rfl (by first | exact e1 | exact e2) ⟨rfl, rfl, rfl, rfl⟩ rfl rfl rfl ?_
          | refine ep_callw0 rfl (by first | exact e1 | exact e2) rfl rfl ?_
          | refine sp_callw rfl rfl rfl rfl (by first | exact e1 | exact e2) ⟨rfl, rfl, rfl, rfl⟩ rfl rfl rfl (by first | exact WrP_refl _ _ | (repeat' (first | exact rfl | exact True.intro | refine And.intro ?_ ?_))) ?_
          | refine ep_bin rfl rfl (by first | exact hor | exact b_add (by omega) (by omega) | exact b_sub (by omega) (by omega) | exact b_and (by omega) (by omega) | exact b_or (by omega) (by omega) | exact b_shr (by omega) | exact b_shl (by omega) (by omega) | exact b_lss | exact b_leq | exact b_gtr | exact b_geq | exact b_eql | exact b_neq) ?_
          | refine ep_lenS rfl ?_ | refine ep_lenN rfl ?_ | refine ep_lenE rfl ?_ | refine ep_empt ?_ | refine sp_idx rfl rfl rfl (by omega) rfl ?_ | refine ep_loadSN rfl rfl rfl (by first | exact prs_get (by omega) | exact fns_get (by omega)) ?_)
        | (refine g_ops ?_; first | refine eo_none ?_ | refine eo_nil ?_)
        | (refine g_dops ?_; first | refine ed_none ?_ | refine ed_nil ?_)
        | refine ed_same rfl ?_ | refine ed_one rfl rfl rfl rfl ?_ | refine ed_two rfl rfl rfl rfl rfl rfl rfl ?_ | refine ed_write rfl rfl ?_
        | (refine g_code ?_; first | refine ec_seq ?_ | refine ec_region ?_ | refine ec_draw ?_ | refine ec_block ?_ | refine ec_skip ?_ | refine ec_exit ?_ | refine ec_condT rfl ?_ | refine ec_condF rfl ?_ | refine ec_condTH rfl (by assumption) ?_ | refine ec_condFH rfl (by assumption) ?_)
        | refine ek_seqN ?_ | refine ek_seqX ?_ | refine ek_blkN ?_ | refine ek_blkR ?_ | refine ek_blkX ?_ | refine ek_blkY rfl ?_)
      exact rnd_on (by rfl) (scmp2 (by rfl) (by rfl) (by exact ⟨rfl, rfl, rfl⟩) (by rfl) (by first | rfl | (simp; done) | (simp [ints, prs]; done)) (by rfl) (by first | rfl | (simp; done) | (simp [ints, prs]; done)))
  · intro u_ hu_
    have hlt : decide (((fs.length : Nat) : Int) < (fs.length : Nat)) = false := decide_eq_false (by omega)
    unfold m27_1
    repeat' (first
      | (refine g_op ?_; first
        | refine ep_mov rfl ?_ | refine sp_loadN rfl rfl rfl rfl rfl ?_
        | refine ep_bin rfl rfl (by first | exact b_add (by omega) (by omega) | exact b_sub (by omega) (by omega) | exact b_and (by omega) (by omega) | exact b_or (by omega) (by omega) | exact b_shr (by omega) | exact b_shl (by omega) (by omega) | exact b_lss | exact b_leq | exact b_gtr | exact b_geq | exact b_eql | exact b_neq) ?_
        | refine ep_lenS rfl ?_ | refine ep_lenN rfl ?_ | refine ep_lenE rfl ?_ | refine ep_empt ?_ | refine sp_idx rfl rfl rfl (by omega) rfl ?_ | refine ep_loadSN rfl rfl rfl (by first | exact prs_get (by omega) | exact fns_get (by omega)) ?_)
      | (refine g_ops ?_; first | refine eo_none ?_ | refine eo_nil ?_)
      | (refine g_dops ?_; first | refine ed_none ?_ | refine ed_nil ?_)
      | refine ed_same rfl ?_ | refine ed_one rfl rfl rfl rfl ?_ | refine ed_two rfl rfl rfl rfl rfl rfl rfl ?_ | refine ed_write rfl rfl ?_
      | (refine g_code ?_; first | refine ec_seq ?_ | refine ec_region ?_ | refine ec_draw ?_ | refine ec_block ?_ | refine ec_skip ?_ | refine ec_exit ?_ | refine ec_condT rfl ?_ | refine ec_condF rfl ?_ | refine ec_condTH rfl (by assumption) ?_ | refine ec_condFH rfl (by assumption) ?_)
      | refine ek_seqN ?_ | refine ek_seqX ?_ | refine ek_blkN ?_ | refine ek_blkR ?_ | refine ek_blkX ?_ | refine ek_blkY rfl ?_)
    exact rnd_out (by rfl) (by simp) (scmp2 (by rfl) (by rfl) (by exact ⟨rfl, rfl, rfl⟩) (by rfl) (by first | rfl | (simp; done) | (simp [ints, prs]; done)) (by rfl) (by first | rfl | (simp; done) | (simp [ints, prs]; done)))

theorem lpcs0 (p : Nat) (fs : List (Int × Int)) (hp : p ≤ 4) (hp1 : 1 ≤ p) (hall : allFunc fs = true) (hln : fs.length ≤ 1048576) : ∀ (k r0 : Nat), r0 < R2 (R2 p) → R2 (R2 p) - r0 ≤ k → LpS cx 49 1 m27_0 [(0, .sl 0 0 fs.length), (3, .ptr 1 0), (4, .ptr 2 0)] [⟨fns fs, 2, 0, some 0, false⟩, ⟨[.int .i64 (p : Nat), .int .i64 (r0 : Nat)], 1, 1, some 0, true⟩, ⟨[.int .i64 0, .int .i64 0], 1, 2, some 0, true⟩] (⟨.ret, [(4, .ptr 1 0), (5, .int .i64 0)], [⟨fns fs, 2, 0, some 0, false⟩, ⟨[.int .i64 (p : Nat), .int .i64 (clS fs p k r0 : Nat)], 1, 1, some 0, true⟩]⟩ : Out).x (⟨.ret, [(4, .ptr 1 0), (5, .int .i64 0)], [⟨fns fs, 2, 0, some 0, false⟩, ⟨[.int .i64 (p : Nat), .int .i64 (clS fs p k r0 : Nat)], 1, 1, some 0, true⟩]⟩ : Out).e (⟨.ret, [(4, .ptr 1 0), (5, .int .i64 0)], [⟨fns fs, 2, 0, some 0, false⟩, ⟨[.int .i64 (p : Nat), .int .i64 (clS fs p k r0 : Nat)], 1, 1, some 0, true⟩]⟩ : Out).h
  | 0, r0, h1, h2 => by omega
  | k + 1, r0, hr0, hk => by
    have lp := lpcs1 p r0 fs hp hp1 hr0 hall hln
    rw [show cgS fs p r0 0 = r0 from rfl] at lp
    have hlt2 := cgS_lt (fs := fs) (p := p) (r := r0) fs.length hr0
    have hsup := sbs_le (cgS_sup fs p fs.length r0)
    rw [clS]
    by_cases h : cgS fs p r0 fs.length = r0
    · rw [if_pos h]
      rw [h] at lp
      have hq : (((r0 : Nat) : Int) == ((r0 : Nat) : Int)) = true := by simp
      refine round_out ?_
      unfold m27_0
      repeat' (first
        | refine sc_loop lp rfl rfl ⟨rfl, rfl, rfl⟩ rfl rfl rfl ?_
        | (refine g_op ?_; first
          | refine ep_mov rfl ?_ | refine ep_load1 rfl rfl rfl rfl ?_ | refine ep_fieldAddr rfl ?_ | refine sp_loadN rfl rfl rfl rfl rfl ?_
          | refine ep_bin rfl rfl (by first | exact b_add (by omega) (by omega) | exact b_sub (by omega) (by omega) | exact b_and (by omega) (by omega) | exact b_or (by omega) (by omega) | exact b_shr (by omega) | exact b_shl (by omega) (by omega) | exact b_lss | exact b_leq | exact b_gtr | exact b_geq | exact b_eql | exact b_neq) ?_
          | refine sp_store rfl rfl rfl rfl rfl rfl rfl rfl rfl rfl ?_)
        | (refine g_ops ?_; first | refine eo_none ?_ | refine eo_nil ?_)
        | (refine g_code ?_; first | refine ec_seq ?_ | refine ec_region ?_ | refine ec_block ?_ | refine ec_skip ?_ | refine ec_ret ?_ | refine ec_condT rfl ?_ | refine ec_condF rfl ?_ | refine ec_condTH rfl (by assumption) ?_ | refine ec_condFH rfl (by assumption) ?_)
        | refine ek_seqN ?_ | refine ek_seqX ?_ | refine ek_seqR ?_ | refine ek_blkN ?_ | refine ek_blkR ?_ | refine ek_blkX ?_ | refine ek_blkY rfl ?_)
      exact rnd_out (by rfl) (by simp) (scmp2 (by rfl) (by rfl) (by exact ⟨rfl, rfl, rfl⟩) (by rfl) (by first | rfl | (simp; done) | (simp [ints, prs]; done)) (by rfl) (by first | rfl | (simp; done) | (simp [ints, prs]; done)))
    · rw [if_neg h]
      have hq : (((cgS fs p r0 fs.length : Nat) : Int) == ((r0 : Nat) : Int)) = false := by rw [ieq]; simpa using h
      refine round_on ?_ (lpcs0 p fs hp hp1 hall hln k (cgS fs p r0 fs.length) hlt2 (by omega))
      unfold m27_0
      repeat' (first
        | refine sc_loop lp rfl rfl ⟨rfl, rfl, rfl⟩ rfl rfl rfl ?_
        | (refine g_op ?_; first
          | refine ep_mov rfl ?_ | refine ep_load1 rfl rfl rfl rfl ?_ | refine ep_fieldAddr rfl ?_ | refine sp_loadN rfl rfl rfl rfl rfl ?_
          | refine ep_bin rfl rfl (by first | exact b_add (by omega) (by omega) | exact b_sub (by omega) (by omega) | exact b_and (by omega) (by omega) | exact b_or (by omega) (by omega) | exact b_shr (by omega) | exact b_shl (by omega) (by omega) | exact b_lss | exact b_leq | exact b_gtr | exact b_geq | exact b_eql | exact b_neq) ?_
          | refine sp_store rfl rfl rfl rfl rfl rfl rfl rfl rfl rfl ?_)
        | (refine g_ops ?_; first | refine eo_none ?_ | refine eo_nil ?_)
        | (refine g_code ?_; first | refine ec_seq ?_ | refine ec_region ?_ | refine ec_block ?_ | refine ec_skip ?_ | refine ec_ret ?_ | refine ec_condT rfl ?_ | refine ec_condF rfl ?_ | refine ec_condTH rfl (by assumption) ?_ | refine ec_condFH rfl (by assumption) ?_)
        | refine ek_seqN ?_ | refine ek_seqX ?_ | refine ek_seqR ?_ | refine ek_blkN ?_ | refine ek_blkR ?_ | refine ek_blkX ?_ | refine ek_blkY rfl ?_)
      exact rnd_on (by rfl) (scmp2 (by rfl) (by rfl) (by exact ⟨rfl, rfl, rfl⟩) (by rfl) (by first | rfl | (simp; done) | (simp [ints, prs]; done)) (by rfl) (by first | rfl | (simp; done) | (simp [ints, prs]; done)))
theorem ev27 (fs : List (Int × Int)) (p t : Int) (hln : fs.length ≤ 1048576) : Ev cx 27 [.sl 0 0 fs.length, .agg [.int .i64 p, .int .i64 t]] [⟨fns fs, 2, 0, some 0, false⟩] (.tup [.agg [.int .i64 (clsR fs p t).1.1, .int .i64 (clsR fs p t).1.2], .int .i64 (clsR fs p t).2]) [⟨fns fs, 2, 0, some 0, false⟩] := by
  have e1 := ev69 fs hln
  have e2 := ev70 p t
  cases ha : allFunc fs
  · have hC : lcode fs = 1 := by rw [lcode, if_neg (by rw [ha]; simp)]
    rw [hC] at e1
    rw [clsR, if_neg (by rw [ha]; simp)]
    refine has27.eev rfl rfl ?_
    unfold m27
    repeat' (first
      | (refine g_op ?_; first
        | refine ep_mov rfl ?_ | refine sp_loadN rfl rfl rfl rfl rfl ?_
        | refine ep_call0 rfl (by first | exact e1) rfl rfl ?_
        | refine sp_call rfl rfl rfl rfl (by first | exact e1) ⟨rfl, rfl, rfl, rfl⟩ rfl rfl rfl ?_
        | refine ep_bin rfl rfl (by first | exact b_add (by omega) (by omega) | exact b_sub (by omega) (by omega) | exact b_and (by omega) (by omega) | exact b_or (by omega) (by omega) | exact b_shr (by omega) | exact b_shl (by omega) (by omega) | exact b_lss | exact b_leq | exact b_gtr | exact b_geq | exact b_eql | exact b_neq) ?_
        | refine ep_pickT rfl rfl ?_ | refine ep_pickF rfl rfl ?_ | refine ep_pickTH rfl (by assumption) rfl ?_ | refine ep_pickFH rfl (by assumption) rfl ?_ | refine sp_store rfl rfl rfl rfl rfl rfl rfl rfl rfl rfl ?_
        | refine ep_not rfl ?_ | refine sp_box rfl rfl rfl rfl rfl ?_ | refine sp_alloc rfl rfl ?_ | refine sp_build rfl rfl ?_)
      | (refine g_ops ?_; first | refine eo_none ?_ | refine eo_nil ?_ | refine eo_yes rfl ?_ | refine eo_no rfl ?_ | refine eo_und rfl ?_ | refine eo_yesH rfl (by assumption) ?_ | refine eo_noH rfl (by assumption) ?_)
      | (refine g_code ?_; first | refine ec_seq ?_ | refine ec_region ?_ | refine ec_block ?_ | refine ec_skip ?_ | refine ec_ret ?_ | refine ec_condT rfl ?_ | refine ec_condF rfl ?_ | refine ec_condTH rfl (by assumption) ?_ | refine ec_condFH rfl (by assumption) ?_)
      | refine ek_seqN ?_ | refine ek_seqX ?_ | refine ek_seqR ?_ | refine ek_blkN ?_ | refine ek_blkR ?_ | refine ek_blkX ?_ | refine ek_blkY rfl ?_)
    refine sfin (.inr rfl) (by rfl) (by rfl) (by exact ⟨rfl, rfl, rfl⟩) (by rfl) (by rfl) (by rfl) (by first | rfl | (simp; done) | (simp [ints, prs]; done))
  · have hC : lcode fs = if fs.length > 8 then 2 else 0 := by rw [lcode, if_pos ha]
    have hq : (lcode fs == 1) = false := by rw [hC]; split <;> rfl
    cases hr : isRel p t
    · rw [hr] at e2
      rw [clsR, if_neg (by rw [hr]; simp)]
      refine has27.eev rfl rfl ?_
      unfold m27
      repeat' (first
        | (refine g_op ?_; first
          | refine ep_mov rfl ?_ | refine sp_loadN rfl rfl rfl rfl rfl ?_
          | refine ep_call0 rfl (by first | exact e1 | exact e2) rfl rfl ?_
          | refine sp_call rfl rfl rfl rfl (by first | exact e1 | exact e2) ⟨rfl, rfl, rfl, rfl⟩ rfl rfl rfl ?_
          | refine ep_bin rfl rfl (by first | exact b_add (by omega) (by omega) | exact b_sub (by omega) (by omega) | exact b_and (by omega) (by omega) | exact b_or (by omega) (by omega) | exact b_shr (by omega) | exact b_shl (by omega) (by omega) | exact b_lss | exact b_leq | exact b_gtr | exact b_geq | exact b_eql | exact b_neq) ?_
          | refine ep_pickT rfl rfl ?_ | refine ep_pickF rfl rfl ?_ | refine ep_pickTH rfl (by assumption) rfl ?_ | refine ep_pickFH rfl (by assumption) rfl ?_ | refine sp_store rfl rfl rfl rfl rfl rfl rfl rfl rfl rfl ?_
          | refine ep_not rfl ?_ | refine sp_box rfl rfl rfl rfl rfl ?_ | refine sp_alloc rfl rfl ?_ | refine sp_build rfl rfl ?_)
        | (refine g_ops ?_; first | refine eo_none ?_ | refine eo_nil ?_ | refine eo_yes rfl ?_ | refine eo_no rfl ?_ | refine eo_und rfl ?_ | refine eo_yesH rfl (by assumption) ?_ | refine eo_noH rfl (by assumption) ?_)
        | (refine g_code ?_; first | refine ec_seq ?_ | refine ec_region ?_ | refine ec_block ?_ | refine ec_skip ?_ | refine ec_ret ?_ | refine ec_condT rfl ?_ | refine ec_condF rfl ?_ | refine ec_condTH rfl (by assumption) ?_ | refine ec_condFH rfl (by assumption) ?_)
        | refine ek_seqN ?_ | refine ek_seqX ?_ | refine ek_seqR ?_ | refine ek_blkN ?_ | refine ek_blkR ?_ | refine ek_blkX ?_ | refine ek_blkY rfl ?_)
      refine sfin (.inr rfl) (by rfl) (by rfl) (by exact ⟨rfl, rfl, rfl⟩) (by rfl) (by rfl) (by rfl) (by first | rfl | (simp; done) | (simp [ints, prs]; done))
    · rw [hr] at e2
      rw [clsR, if_pos ⟨ha, hr⟩]
      by_cases h8 : fs.length > 8
      · rw [if_pos h8] at hC ⊢
        rw [hC] at e1
        refine has27.eev rfl rfl ?_
        unfold m27
        repeat' (first
          | (refine g_op ?_; first
            | refine ep_mov rfl ?_ | refine sp_loadN rfl rfl rfl rfl rfl ?_
            | refine ep_call0 rfl (by first | exact e1 | exact e2) rfl rfl ?_
            | refine sp_call rfl rfl rfl rfl (by first | exact e1 | exact e2) ⟨rfl, rfl, rfl, rfl⟩ rfl rfl rfl ?_
            | refine ep_bin rfl rfl (by first | exact b_add (by omega) (by omega) | exact b_sub (by omega) (by omega) | exact b_and (by omega) (by omega) | exact b_or (by omega) (by omega) | exact b_shr (by omega) | exact b_shl (by omega) (by omega) | exact b_lss | exact b_leq | exact b_gtr | exact b_geq | exact b_eql | exact b_neq) ?_
            | refine ep_pickT rfl rfl ?_ | refine ep_pickF rfl rfl ?_ | refine ep_pickTH rfl (by assumption) rfl ?_ | refine ep_pickFH rfl (by assumption) rfl ?_ | refine sp_store rfl rfl rfl rfl rfl rfl rfl rfl rfl rfl ?_
            | refine ep_not rfl ?_ | refine sp_box rfl rfl rfl rfl rfl ?_ | refine sp_alloc rfl rfl ?_ | refine sp_build rfl rfl ?_)
          | (refine g_ops ?_; first | refine eo_none ?_ | refine eo_nil ?_ | refine eo_yes rfl ?_ | refine eo_no rfl ?_ | refine eo_und rfl ?_ | refine eo_yesH rfl (by assumption) ?_ | refine eo_noH rfl (by assumption) ?_)
          | (refine g_code ?_; first | refine ec_seq ?_ | refine ec_region ?_ | refine ec_block ?_ | refine ec_skip ?_ | refine ec_ret ?_ | refine ec_condT rfl ?_ | refine ec_condF rfl ?_ | refine ec_condTH rfl (by assumption) ?_ | refine ec_condFH rfl (by assumption) ?_)
          | refine ek_seqN ?_ | refine ek_seqX ?_ | refine ek_seqR ?_ | refine ek_blkN ?_ | refine ek_blkR ?_ | refine ek_blkX ?_ | refine ek_blkY rfl ?_)
        refine sfin (.inr rfl) (by rfl) (by rfl) (by exact ⟨rfl, rfl, rfl⟩) (by rfl) (by rfl) (by rfl) (by first | rfl | (simp; done) | (simp [ints, prs]; done))
      · rw [if_neg h8] at hC ⊢
        rw [hC] at e1
        obtain ⟨p, t, rfl, rfl, b1, b2, b3, b4⟩ := isRel_nat hr
        have lp := lpcs0 p fs b2 b1 ha hln (R2 (R2 p)) t b3 (by omega)
        rw [cl_eq b3] at lp
        refine has27.eev rfl rfl ?_
        unfold m27
        repeat' (first
          | refine sc_loop lp rfl rfl ⟨rfl, rfl, rfl⟩ rfl rfl rfl ?_
          | (refine g_op ?_; first
            | refine ep_mov rfl ?_ | refine sp_loadN rfl rfl rfl rfl rfl ?_
            | refine ep_call0 rfl (by first | exact e1 | exact e2) rfl rfl ?_
            | refine sp_call rfl rfl rfl rfl (by first | exact e1 | exact e2) ⟨rfl, rfl, rfl, rfl⟩ rfl rfl rfl ?_
            | refine ep_bin rfl rfl (by first | exact b_add (by omega) (by omega) | exact b_sub (by omega) (by omega) | exact b_and (by omega) (by omega) | exact b_or (by omega) (by omega) | exact b_shr (by omega) | exact b_shl (by omega) (by omega) | exact b_lss | exact b_leq | exact b_gtr | exact b_geq | exact b_eql | exact b_neq) ?_
            | refine ep_pickT rfl rfl ?_ | refine ep_pickF rfl rfl ?_ | refine ep_pickTH rfl (by assumption) rfl ?_ | refine ep_pickFH rfl (by assumption) rfl ?_ | refine sp_store rfl rfl rfl rfl rfl rfl rfl rfl rfl rfl ?_
            | refine ep_not rfl ?_ | refine sp_box rfl rfl rfl rfl rfl ?_ | refine sp_alloc rfl rfl ?_ | refine sp_build rfl rfl ?_)
          | (refine g_ops ?_; first | refine eo_none ?_ | refine eo_nil ?_ | refine eo_yes rfl ?_ | refine eo_no rfl ?_ | refine eo_und rfl ?_ | refine eo_yesH rfl (by assumption) ?_ | refine eo_noH rfl (by assumption) ?_)
          | (refine g_code ?_; first | refine ec_seq ?_ | refine ec_region ?_ | refine ec_block ?_ | refine ec_skip ?_ | refine ec_ret ?_ | refine ec_condT rfl ?_ | refine ec_condF rfl ?_ | refine ec_condTH rfl (by assumption) ?_ | refine ec_condFH rfl (by assumption) ?_)
          | refine ek_seqN ?_ | refine ek_seqX ?_ | refine ek_seqR ?_ | refine ek_blkN ?_ | refine ek_blkR ?_ | refine ek_blkX ?_ | refine ek_blkY rfl ?_)
        refine sfin (.inr rfl) (by rfl) (by rfl) (by exact ⟨rfl, rfl, rfl⟩) (by rfl) (by rfl) (by rfl) (by first | rfl | (simp; done) | (simp [ints, prs]; done))

-- laws.FnExactClosureOf
def m6 : MC := (.seq (.region [⟨(.box (.t 1)), (some 3), none⟩, ⟨(.mov (.k (.bool false))), (some 4), none⟩] false) (.seq (.region [⟨(.mov (.k (.int .i64 1048576))), (some 5), none⟩] false) (.seq (.region [⟨(.mov (.t 0)), (some 11), none⟩, ⟨(.mov (.t 5)), (some 12), none⟩, ⟨(.call 26 [(.t 11), (.t 12)]), (some 13), none⟩, ⟨(.mov (.t 13)), (some 5), none⟩] false) (.seq (.seq (.region [⟨(.mov (.t 5)), (some 14), none⟩, ⟨(.bin .lss (.t 14) (.k (.int .i64 0))), (some 15), none⟩] false) (.cond (.t 15) (.seq (.region [⟨(.mov (.k (.bool true))), (some 4), none⟩] false) .ret) .skip)) (.seq (.region [⟨(.mov (.t 0)), (some 17), none⟩, ⟨(.call 28 [(.t 17)]), (some 18), none⟩, ⟨(.load (some 2) (.t 3)), (some 19), none⟩, ⟨(.call 29 [(.t 19)]), (some 20), none⟩, ⟨(.call 27 [(.t 18), (.t 20)]), (some 21), none⟩, ⟨(.mov (.t 21)), (some 16), none⟩, ⟨(.extract (.t 16) 0), (some 22), none⟩, ⟨(.extract (.t 16) 1), (some 23), none⟩, ⟨(.alloc [(.int .i64 0), (.int .i64 0)]), (some 6), none⟩, ⟨(.store 2 (.t 6) (.t 22)), none, none⟩, ⟨(.mov (.t 23)), (some 7), none⟩] true) (.seq (.region [⟨(.mov (.t 0)), (some 24), none⟩, ⟨(.call 28 [(.t 24)]), (some 25), none⟩, ⟨(.mov (.t 25)), (some 8), none⟩] false) (.seq (.region [⟨(.mov (.t 8)), (some 27), none⟩, ⟨(.load (some 2) (.t 3)), (some 28), none⟩, ⟨(.call 29 [(.t 28)]), (some 29), none⟩, ⟨(.call 30 [(.t 27), (.t 29)]), (some 30), none⟩, ⟨(.mov (.t 30)), (some 26), none⟩, ⟨(.extract (.t 26) 0), (some 31), none⟩, ⟨(.extract (.t 26) 1), (some 32), none⟩, ⟨(.alloc [(.int .i64 0), (.int .i64 0)]), (some 9), none⟩, ⟨(.store 2 (.t 9) (.t 31)), none, none⟩, ⟨(.mov (.t 32)), (some 10), none⟩] false) (.seq (.seq (.region [⟨(.load (some 2) (.t 9)), (some 33), none⟩, ⟨(.load (some 2) (.t 6)), (some 34), none⟩, ⟨(.call 31 [(.t 33), (.t 34)]), (some 35), none⟩, ⟨(.un .not (.t 35)), (some 36), none⟩, ⟨(.mov (.t 36)), (some 37), none⟩, ⟨(.mov (.t 10)), (some 38), (some (37, false))⟩, ⟨(.mov (.t 7)), (some 39), (some (37, false))⟩, ⟨(.bin .neq (.t 38) (.t 39)), (some 40), (some (37, false))⟩, ⟨(.pick (.t 37) (.k (.bool true)) (.t 40)), (some 41), none⟩] false) (.cond (.t 41) (.seq (.region [⟨(.mov (.k (.bool false))), (some 4), none⟩] false) .ret) .skip)) (.seq (.seq (.region [⟨(.mov (.t 8)), (some 42), none⟩, ⟨(.mov (.t 0)), (some 43), none⟩, ⟨(.call 28 [(.t 43)]), (some 44), none⟩, ⟨(.call 32 [(.t 42), (.t 44)]), (some 45), none⟩, ⟨(.un .not (.t 45)), (some 46), none⟩] false) (.cond (.t 46) (.seq (.region [⟨(.mov (.k (.bool false))), (some 4), none⟩] false) .ret) .skip)) (.seq (.region [⟨(.mov (.k (.bool true))), (some 4), none⟩] false) .ret))))))))))
theorem has6 : Has cx 6 47 m6 [(.tmp 4)] :=
  ⟨⟨Try.f6, Try.f6.body.getD .skip, by kernel_rfl, by kernel_rfl, by kernel_rfl, by kernel_rfl, by kernel_rfl, by kernel_rfl⟩⟩
-- ROW ev6: bd0
theorem ev6 (a : V) (p t : Int) (h : Heap) (c : List Int) (fa : FA .i64 2 a h c) (hb : c.length ≤ 2 * Go.maxLen) : Ev cx 6 [a, .agg [.int .i64 p, .int .i64 t]] h (.bool true) h := by
  have hml : Go.maxLen = 9223372036854775807 := by decide
  cases fa with
  | nil =>
    have s0 := ev26_nils
    have e0 := ev28_nils
    rw [show zints [] = fns [] from rfl] at e0
    have e1 := ev27 [] p t (by simp)
    have e2 := ev30 [] p t (by simp)
    have hr0 : ((clsR [] p t).2 != (clsR [] p t).2) = false := by simp
    have q3 := ev32 0 (fns []) (fns []) (fun j => ([] : List (Int × Int)).getD j (0, 0)) (some 0) (some 0) (by omega) (fun j hj => fns_pair (by simp at hj)) (fun j hj => fns_pair (by simp at hj))
    refine has6.eev rfl rfl ?_
    unfold m6
    repeat' (first
      | (refine g_op ?_; first
        | refine ep_mov rfl ?_ | refine sp_loadN rfl rfl rfl rfl rfl ?_
        | refine ep_call0 rfl (by first | exact e0 | exact s0 | exact e1 | exact e2 | exact q3 | exact ev29 _ _ | exact ev31 _ _) rfl rfl ?_
        | refine sp_call rfl rfl rfl rfl (by first | exact e0 | exact s0 | exact e1 | exact e2 | exact q3 | exact ev29 _ _ | exact ev31 _ _) ⟨rfl, rfl, rfl, rfl⟩ rfl rfl rfl ?_
        | refine ep_bin rfl rfl (by first | exact b_add (by omega) (by omega) | exact b_sub (by omega) (by omega) | exact b_and (by omega) (by omega) | exact b_or (by omega) (by omega) | exact b_shr (by omega) | exact b_shl (by omega) (by omega) | exact b_lss | exact b_leq | exact b_gtr | exact b_geq | exact b_eql | exact b_neq) ?_
        | refine ep_pickT rfl rfl ?_ | refine ep_pickF rfl rfl ?_ | refine ep_pickTH rfl (by assumption) rfl ?_ | refine ep_pickFH rfl (by assumption) rfl ?_ | refine ep_extract rfl rfl ?_ | refine sp_store rfl rfl rfl rfl rfl rfl rfl rfl rfl rfl ?_
        | refine ep_not rfl ?_ | refine sp_box rfl rfl rfl rfl rfl ?_ | refine sp_alloc rfl rfl ?_)
      | (refine g_ops ?_; first | refine eo_none ?_ | refine eo_nil ?_ | refine eo_yes rfl ?_ | refine eo_no rfl ?_ | refine eo_und rfl ?_ | refine eo_yesH rfl (by assumption) ?_ | refine eo_noH rfl (by assumption) ?_)
      | (refine g_dops ?_; first | refine ed_none ?_ | refine ed_nil ?_ | refine ed_yes rfl ?_ | refine ed_no rfl ?_ | refine ed_und rfl ?_ | refine ed_yesH rfl (by assumption) ?_ | refine ed_noH rfl (by assumption) ?_)
      | refine ed_same rfl ?_ | refine ed_one rfl rfl rfl rfl ?_ | refine ed_two rfl rfl rfl rfl rfl rfl rfl ?_ | refine ed_write rfl rfl ?_
      | (refine g_code ?_; first | refine ec_seq ?_ | refine ec_region ?_ | refine ec_draw ?_ | refine ec_skip ?_ | refine ec_ret ?_ | refine ec_condT rfl ?_ | refine ec_condF rfl ?_ | refine ec_condTH rfl (by assumption) ?_ | refine ec_condFH rfl (by assumption) ?_)
      | refine ek_seqN ?_ | refine ek_seqR ?_)
    refine sfin (.inr rfl) (by rfl) (by rfl) (by exact ⟨rfl, rfl, rfl⟩) (by rfl) (by rfl) (by rfl) (by first | rfl | (simp; done) | (simp [ints, prs]; done))
  | emp =>
    have s0 := ev26_emp
    have e0 := ev28_emp
    rw [show zints [] = fns [] from rfl] at e0
    have e1 := ev27 [] p t (by simp)
    have e2 := ev30 [] p t (by simp)
    have hr0 : ((clsR [] p t).2 != (clsR [] p t).2) = false := by simp
    have q3 := ev32 0 (fns []) (fns []) (fun j => ([] : List (Int × Int)).getD j (0, 0)) (some 0) (some 0) (by omega) (fun j hj => fns_pair (by simp at hj)) (fun j hj => fns_pair (by simp at hj))
    refine has6.eev rfl rfl ?_
    unfold m6
    repeat' (first
      | (refine g_op ?_; first
        | refine ep_mov rfl ?_ | refine sp_loadN rfl rfl rfl rfl rfl ?_
        | refine ep_call0 rfl (by first | exact e0 | exact s0 | exact e1 | exact e2 | exact q3 | exact ev29 _ _ | exact ev31 _ _) rfl rfl ?_
        | refine sp_call rfl rfl rfl rfl (by first | exact e0 | exact s0 | exact e1 | exact e2 | exact q3 | exact ev29 _ _ | exact ev31 _ _) ⟨rfl, rfl, rfl, rfl⟩ rfl rfl rfl ?_
        | refine ep_bin rfl rfl (by first | exact b_add (by omega) (by omega) | exact b_sub (by omega) (by omega) | exact b_and (by omega) (by omega) | exact b_or (by omega) (by omega) | exact b_shr (by omega) | exact b_shl (by omega) (by omega) | exact b_lss | exact b_leq | exact b_gtr | exact b_geq | exact b_eql | exact b_neq) ?_
        | refine ep_pickT rfl rfl ?_ | refine ep_pickF rfl rfl ?_ | refine ep_pickTH rfl (by assumption) rfl ?_ | refine ep_pickFH rfl (by assumption) rfl ?_ | refine ep_extract rfl rfl ?_ | refine sp_store rfl rfl rfl rfl rfl rfl rfl rfl rfl rfl ?_
        | refine ep_not rfl ?_ | refine sp_box rfl rfl rfl rfl rfl ?_ | refine sp_alloc rfl rfl ?_)
      | (refine g_ops ?_; first | refine eo_none ?_ | refine eo_nil ?_ | refine eo_yes rfl ?_ | refine eo_no rfl ?_ | refine eo_und rfl ?_ | refine eo_yesH rfl (by assumption) ?_ | refine eo_noH rfl (by assumption) ?_)
      | (refine g_dops ?_; first | refine ed_none ?_ | refine ed_nil ?_ | refine ed_yes rfl ?_ | refine ed_no rfl ?_ | refine ed_und rfl ?_ | refine ed_yesH rfl (by assumption) ?_ | refine ed_noH rfl (by assumption) ?_)
      | refine ed_same rfl ?_ | refine ed_one rfl rfl rfl rfl ?_ | refine ed_two rfl rfl rfl rfl rfl rfl rfl ?_ | refine ed_write rfl rfl ?_
      | (refine g_code ?_; first | refine ec_seq ?_ | refine ec_region ?_ | refine ec_draw ?_ | refine ec_skip ?_ | refine ec_ret ?_ | refine ec_condT rfl ?_ | refine ec_condF rfl ?_ | refine ec_condTH rfl (by assumption) ?_ | refine ec_condFH rfl (by assumption) ?_)
      | refine ek_seqN ?_ | refine ek_seqR ?_)
    refine sfin (.inr rfl) (by rfl) (by rfl) (by exact ⟨rfl, rfl, rfl⟩) (by rfl) (by rfl) (by rfl) (by first | rfl | (simp; done) | (simp [ints, prs]; done))
  | sl o n c hc =>
    have s0 := ev26 o n c (by omega)
    by_cases hn : n ≤ 1048576
    · rw [if_pos hn] at s0
      have g1 : decide ((1048576 - (n : Nat) : Int) < 0) = false := decide_eq_false (by omega)
      have e0 := ev28 o n c hc hn
      rw [prOf_fns n c hc] at e0
      have e1 := ev27 (prOf c n) p t (by rw [prOf_len]; exact hn)
      have e2 := ev30 (prOf c n) p t (by rw [prOf_len]; exact hn)
      rw [prOf_len] at e1 e2
      have hr0 : ((clsR (prOf c n) p t).2 != (clsR (prOf c n) p t).2) = false := by simp
      have q3 := ev32 n (fns (prOf c n)) (fns (prOf c n)) (fun j => ((prOf c n) : List (Int × Int)).getD j (0, 0)) (some 0) (some 0) (by omega) (fun j hj => fns_pair (by rwa [prOf_len])) (fun j hj => fns_pair (by rwa [prOf_len]))
      refine has6.eev rfl rfl ?_
      unfold m6
      repeat' (first
        | (refine g_op ?_; first
          | refine ep_mov rfl ?_ | refine sp_loadN rfl rfl rfl rfl rfl ?_
          | refine ep_call0 rfl (by first | exact e0 | exact s0 | exact e1 | exact e2 | exact q3 | exact ev29 _ _ | exact ev31 _ _) rfl rfl ?_
          | refine sp_call rfl rfl rfl rfl (by first | exact e0 | exact s0 | exact e1 | exact e2 | exact q3 | exact ev29 _ _ | exact ev31 _ _) ⟨rfl, rfl, rfl, rfl⟩ rfl rfl rfl ?_
          | refine ep_bin rfl rfl (by first | exact b_add (by omega) (by omega) | exact b_sub (by omega) (by omega) | exact b_and (by omega) (by omega) | exact b_or (by omega) (by omega) | exact b_shr (by omega) | exact b_shl (by omega) (by omega) | exact b_lss | exact b_leq | exact b_gtr | exact b_geq | exact b_eql | exact b_neq) ?_
          | refine ep_pickT rfl rfl ?_ | refine ep_pickF rfl rfl ?_ | refine ep_pickTH rfl (by assumption) rfl ?_ | refine ep_pickFH rfl (by assumption) rfl ?_ | refine ep_extract rfl rfl ?_ | refine sp_store rfl rfl rfl rfl rfl rfl rfl rfl rfl rfl ?_
          | refine ep_not rfl ?_ | refine sp_box rfl rfl rfl rfl rfl ?_ | refine sp_alloc rfl rfl ?_)
        | (refine g_ops ?_; first | refine eo_none ?_ | refine eo_nil ?_ | refine eo_yes rfl ?_ | refine eo_no rfl ?_ | refine eo_und rfl ?_ | refine eo_yesH rfl (by assumption) ?_ | refine eo_noH rfl (by assumption) ?_)
        | (refine g_dops ?_; first | refine ed_none ?_ | refine ed_nil ?_ | refine ed_yes rfl ?_ | refine ed_no rfl ?_ | refine ed_und rfl ?_ | refine ed_yesH rfl (by assumption) ?_ | refine ed_noH rfl (by assumption) ?_)
        | refine ed_same rfl ?_ | refine ed_one rfl rfl rfl rfl ?_ | refine ed_two rfl rfl rfl rfl rfl rfl rfl ?_ | refine ed_write rfl rfl ?_
        | (refine g_code ?_; first | refine ec_seq ?_ | refine ec_region ?_ | refine ec_draw ?_ | refine ec_skip ?_ | refine ec_ret ?_ | refine ec_condT rfl ?_ | refine ec_condF rfl ?_ | refine ec_condTH rfl (by assumption) ?_ | refine ec_condFH rfl (by assumption) ?_)
        | refine ek_seqN ?_ | refine ek_seqR ?_)
      refine sfin (.inr rfl) (by rfl) (by rfl) (by exact ⟨rfl, rfl, rfl⟩) (by rfl) (by rfl) (by rfl) (by first | rfl | (simp; done) | (simp [ints, prs]; done))
    · rw [if_neg hn] at s0
      refine has6.eev rfl rfl ?_
      unfold m6
      repeat' (first
        | (refine g_op ?_; first
          | refine ep_mov rfl ?_ | refine sp_loadN rfl rfl rfl rfl rfl ?_
          | refine ep_call0 rfl (by first | exact s0) rfl rfl ?_
          | refine sp_call rfl rfl rfl rfl (by first | exact s0) ⟨rfl, rfl, rfl, rfl⟩ rfl rfl rfl ?_
          | refine ep_bin rfl rfl (by first | exact b_add (by omega) (by omega) | exact b_sub (by omega) (by omega) | exact b_and (by omega) (by omega) | exact b_or (by omega) (by omega) | exact b_shr (by omega) | exact b_shl (by omega) (by omega) | exact b_lss | exact b_leq | exact b_gtr | exact b_geq | exact b_eql | exact b_neq) ?_
          | refine ep_pickT rfl rfl ?_ | refine ep_pickF rfl rfl ?_ | refine ep_pickTH rfl (by assumption) rfl ?_ | refine ep_pickFH rfl (by assumption) rfl ?_ | refine ep_extract rfl rfl ?_ | refine sp_store rfl rfl rfl rfl rfl rfl rfl rfl rfl rfl ?_
          | refine ep_not rfl ?_ | refine sp_box rfl rfl rfl rfl rfl ?_ | refine sp_alloc rfl rfl ?_)
        | (refine g_ops ?_; first | refine eo_none ?_ | refine eo_nil ?_ | refine eo_yes rfl ?_ | refine eo_no rfl ?_ | refine eo_und rfl ?_ | refine eo_yesH rfl (by assumption) ?_ | refine eo_noH rfl (by assumption) ?_)
        | (refine g_dops ?_; first | refine ed_none ?_ | refine ed_nil ?_ | refine ed_yes rfl ?_ | refine ed_no rfl ?_ | refine ed_und rfl ?_ | refine ed_yesH rfl (by assumption) ?_ | refine ed_noH rfl (by assumption) ?_)
        | refine ed_same rfl ?_ | refine ed_one rfl rfl rfl rfl ?_ | refine ed_two rfl rfl rfl rfl rfl rfl rfl ?_ | refine ed_write rfl rfl ?_
        | (refine g_code ?_; first | refine ec_seq ?_ | refine ec_region ?_ | refine ec_draw ?_ | refine ec_skip ?_ | refine ec_ret ?_ | refine ec_condT rfl ?_ | refine ec_condF rfl ?_ | refine ec_condTH rfl (by assumption) ?_ | refine ec_condFH rfl (by assumption) ?_)
        | refine ek_seqN ?_ | refine ek_seqR ?_)
      refine sfin (.inr rfl) (by rfl) (by rfl) (by exact ⟨rfl, rfl, rfl⟩) (by rfl) (by rfl) (by rfl) (by first | rfl | (simp; done) | (simp [ints, prs]; done))



end Go.Proofs.Ytdmpajkcpdjfbaa
