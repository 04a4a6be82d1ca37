/- What each function that the statement reaches returns. -/
import Derived.Test.YtdmpajkcpdjfbaaFnExactLastStepTB
set_option linter.unusedVariables false
set_option linter.unusedSimpArgs false
set_option maxRecDepth 100000
set_option maxHeartbeats 4000000
namespace Go.Proofs.Ytdmpajkcpdjfbaa
open Go Go.Proofs.Ytdmpajkcpdjfbaa.Mi
attribute [local irreducible] code opsK opsDK gopK opK seqK blockK callK binV
attribute [local irreducible] R2 bt
theorem lpix_gc2 (fs : List (Int × Int)) (hln : fs.length ≤ 1048576) (o : Out) (ho : (match firstF (fun i => !(fun j => decide ((fs.getD j (0, 0)).1 > 2)) i) 0 (fs.length) with | none => (⟨.exit 0, [], [⟨fns fs, 2, 0, some 0, false⟩]⟩ : Out) | some x => ⟨.ret, [(4, .int .i64 (x : Nat))], [⟨fns fs, 2, 0, some 0, false⟩]⟩) = o) :
    LpS cx 19 1 m140_0 [(0, .sl 0 0 fs.length), (1, .fn 126 []), (7, .int .i64 (fs.length : Nat)), (8, .int .i64 (0 : Nat))] [⟨fns fs, 2, 0, some 0, false⟩] o.x o.e o.h := by
  refine lp_brk (fs.length) (fun i => !(fun j => decide ((fs.getD j (0, 0)).1 > 2)) i) (fun _ => ()) (fun i _ => [(0, .sl 0 0 fs.length), (1, .fn 126 []), (7, .int .i64 (fs.length : Nat)), (8, .int .i64 (i : Nat))]) (fun i _ => [⟨fns fs, 2, 0, some 0, false⟩]) (fun _ => ⟨.exit 0, [], [⟨fns fs, 2, 0, some 0, false⟩]⟩) (fun i _ => ⟨.ret, [(4, .int .i64 (i : Nat))], [⟨fns fs, 2, 0, some 0, false⟩]⟩) ?_ ?_ ?_ (fs.length) 0 o (by omega) (fun h => by rw [← ho, firstF_none fun x h1 h2 => h x h1 (by omega)]) (fun x h1 h2 h3 h4 => by rw [← ho, firstF_some h1 (by omega) h3 h4])
  · intro i s hi hs hp
    have hlt : decide ((i : Int) < (fs.length : Nat)) = true := decide_eq_true (by omega)
    have hp' : (!(fun j => decide ((fs.getD j (0, 0)).1 > 2)) i) = true := hp
    refine ⟨(), rfl, ?_⟩
    have hg := fns_get (l := fs) (j := i) hi
    have e0 := evgc2 (fs.getD i (0, 0)).1 (fs.getD i (0, 0)).2
    have hq : (decide ((fs.getD i (0, 0)).1 > 2)) = !((!(fun j => decide ((fs.getD j (0, 0)).1 > 2)) i)) := by simp
    rw [hp'] at hq
    rw [hq] at e0
    unfold m140_0
    repeat' (first
      | refine ep_loadSN rfl rfl rfl hg ?_
      | (refine g_op ?_; first
        | refine ep_mov rfl ?_ | refine sp_loadN rfl rfl rfl rfl rfl ?_
        | refine sp_callv rfl rfl rfl rfl rfl rfl (by first | exact e0) ⟨rfl, rfl, rfl, rfl⟩ rfl rfl rfl ?_
        | refine sp_callb rfl rfl rfl rfl rfl rfl (by first | exact e0) ⟨rfl, rfl, rfl, rfl⟩ rfl rfl rfl ?_
        | refine ep_bin rfl rfl (by first | exact b_add (by omega) (by omega) | exact b_lss) ?_ | refine sp_idx rfl rfl rfl (by omega) rfl ?_ | refine ep_loadSN rfl rfl rfl (by first | exact prs_get (by omega) | exact fns_get (by omega)) ?_)
      | (refine g_ops ?_; first | refine eo_none ?_ | refine eo_nil ?_)
      | (refine g_code ?_; first | refine ec_seq ?_ | refine ec_region ?_ | refine ec_block ?_ | refine ec_skip ?_ | refine ec_exit ?_ | refine ec_ret ?_ | refine ec_condT rfl ?_ | refine ec_condF rfl ?_ | refine ec_condTH rfl (by assumption) ?_ | refine ec_condFH rfl (by assumption) ?_)
      | refine ek_seqN ?_ | refine ek_seqX ?_ | refine ek_seqR ?_ | refine ek_blkN ?_ | refine ek_blkR ?_ | refine ek_blkX ?_ | refine ek_blkY rfl ?_)
    exact rnd_on (by rfl) (scmp2 (by rfl) (by rfl) (by exact ⟨rfl, rfl, rfl⟩) (by rfl) (by first | rfl | (simp; done) | (simp [ints, prs]; done)) (by rfl) (by first | rfl | (simp; done) | (simp [ints, prs]; done)))
  · intro i s hi hs hp
    have hlt : decide ((i : Int) < (fs.length : Nat)) = true := decide_eq_true (by omega)
    have hp' : (!(fun j => decide ((fs.getD j (0, 0)).1 > 2)) i) = false := hp
    have hg := fns_get (l := fs) (j := i) hi
    have e0 := evgc2 (fs.getD i (0, 0)).1 (fs.getD i (0, 0)).2
    have hq : (decide ((fs.getD i (0, 0)).1 > 2)) = !((!(fun j => decide ((fs.getD j (0, 0)).1 > 2)) i)) := by simp
    rw [hp'] at hq
    rw [hq] at e0
    unfold m140_0
    repeat' (first
      | refine ep_loadSN rfl rfl rfl hg ?_
      | (refine g_op ?_; first
        | refine ep_mov rfl ?_ | refine sp_loadN rfl rfl rfl rfl rfl ?_
        | refine sp_callv rfl rfl rfl rfl rfl rfl (by first | exact e0) ⟨rfl, rfl, rfl, rfl⟩ rfl rfl rfl ?_
        | refine sp_callb rfl rfl rfl rfl rfl rfl (by first | exact e0) ⟨rfl, rfl, rfl, rfl⟩ rfl rfl rfl ?_
        | refine ep_bin rfl rfl (by first | exact b_add (by omega) (by omega) | exact b_lss) ?_ | refine sp_idx rfl rfl rfl (by omega) rfl ?_ | refine ep_loadSN rfl rfl rfl (by first | exact prs_get (by omega) | exact fns_get (by omega)) ?_)
      | (refine g_ops ?_; first | refine eo_none ?_ | refine eo_nil ?_)
      | (refine g_code ?_; first | refine ec_seq ?_ | refine ec_region ?_ | refine ec_block ?_ | refine ec_skip ?_ | refine ec_exit ?_ | refine ec_ret ?_ | refine ec_condT rfl ?_ | refine ec_condF rfl ?_ | refine ec_condTH rfl (by assumption) ?_ | refine ec_condFH rfl (by assumption) ?_)
      | refine ek_seqN ?_ | refine ek_seqX ?_ | refine ek_seqR ?_ | refine ek_blkN ?_ | refine ek_blkR ?_ | refine ek_blkX ?_ | refine ek_blkY rfl ?_)
    exact rnd_out (by rfl) (by simp) (scmp2 (by rfl) (by rfl) (by exact ⟨rfl, rfl, rfl⟩) (by rfl) (by first | rfl | (simp; done) | (simp [ints, prs]; done)) (by rfl) (by first | rfl | (simp; done) | (simp [ints, prs]; done)))
  · intro s hs
    have hlt : decide (((fs.length : Nat) : Int) < (fs.length : Nat)) = false := decide_eq_false (by omega)
    unfold m140_0
    repeat' (first
      | refine ep_loadSN rfl rfl rfl hg ?_
      | (refine g_op ?_; first
        | refine ep_mov rfl ?_ | refine sp_loadN rfl rfl rfl rfl rfl ?_
        | refine sp_callv rfl rfl rfl rfl rfl rfl (by first | exact e0) ⟨rfl, rfl, rfl, rfl⟩ rfl rfl rfl ?_
        | refine sp_callb rfl rfl rfl rfl rfl rfl (by first | exact e0) ⟨rfl, rfl, rfl, rfl⟩ rfl rfl rfl ?_
        | refine ep_bin rfl rfl (by first | exact b_add (by omega) (by omega) | exact b_lss) ?_ | refine sp_idx rfl rfl rfl (by omega) rfl ?_ | refine ep_loadSN rfl rfl rfl (by first | exact prs_get (by omega) | exact fns_get (by omega)) ?_)
      | (refine g_ops ?_; first | refine eo_none ?_ | refine eo_nil ?_)
      | (refine g_code ?_; first | refine ec_seq ?_ | refine ec_region ?_ | refine ec_block ?_ | refine ec_skip ?_ | refine ec_exit ?_ | refine ec_ret ?_ | refine ec_condT rfl ?_ | refine ec_condF rfl ?_ | refine ec_condTH rfl (by assumption) ?_ | refine ec_condFH rfl (by assumption) ?_)
      | refine ek_seqN ?_ | refine ek_seqX ?_ | refine ek_seqR ?_ | refine ek_blkN ?_ | refine ek_blkR ?_ | refine ek_blkX ?_ | refine ek_blkY rfl ?_)
    exact rnd_out (by rfl) (by simp) (scmp2 (by rfl) (by rfl) (by exact ⟨rfl, rfl, rfl⟩) (by rfl) (by first | rfl | (simp; done) | (simp [ints, prs]; done)) (by rfl) (by first | rfl | (simp; done) | (simp [ints, prs]; done)))
theorem evix_gc2 (fs : List (Int × Int)) (hln : fs.length ≤ 1048576) : Ev cx 140 [.sl 0 0 fs.length, .fn 126 []] [⟨fns fs, 2, 0, some 0, false⟩] (.int .i64 (match firstF (fun i => !(fun j => decide ((fs.getD j (0, 0)).1 > 2)) i) 0 (fs.length) with | none => -1 | some x => ((x : Nat) : Int))) [⟨fns fs, 2, 0, some 0, false⟩] := by
  cases hs : firstF (fun i => !(fun j => decide ((fs.getD j (0, 0)).1 > 2)) i) 0 (fs.length) with
  | none =>
    have lp := lpix_gc2 fs hln _ (by rw [hs])
    refine has140.eev rfl rfl ?_
    unfold m140
    repeat' (first
      | refine sc_loop lp rfl rfl ⟨rfl, rfl, rfl⟩ rfl rfl rfl ?_
      | (refine g_op ?_; first
        | refine ep_mov rfl ?_
        | refine ep_lenS rfl ?_ | refine ep_lenN rfl ?_ | refine ep_lenE rfl ?_)
      | (refine g_ops ?_; first | refine eo_none ?_ | refine eo_nil ?_)
      | (refine g_code ?_; first | refine ec_seq ?_ | refine ec_region ?_ | refine ec_block ?_ | refine ec_ret ?_)
      | refine ek_seqN ?_ | refine ek_seqX ?_ | refine ek_seqR ?_ | refine ek_blkN ?_ | refine ek_blkR ?_ | refine ek_blkX ?_ | refine ek_blkY rfl ?_)
    refine sfin (.inr rfl) (by rfl) (by rfl) (by exact ⟨rfl, rfl, rfl⟩) (by rfl) (by rfl) (by rfl) (by first | rfl | (simp; done) | (simp [ints, prs]; done))
  | some x =>
    have lp := lpix_gc2 fs hln _ (by rw [hs])
    refine has140.eev rfl rfl ?_
    unfold m140
    repeat' (first
      | refine sc_loop lp rfl rfl ⟨rfl, rfl, rfl⟩ rfl rfl rfl ?_
      | (refine g_op ?_; first
        | refine ep_mov rfl ?_
        | refine ep_lenS rfl ?_ | refine ep_lenN rfl ?_ | refine ep_lenE rfl ?_)
      | (refine g_ops ?_; first | refine eo_none ?_ | refine eo_nil ?_)
      | (refine g_code ?_; first | refine ec_seq ?_ | refine ec_region ?_ | refine ec_block ?_ | refine ec_ret ?_)
      | refine ek_seqN ?_ | refine ek_seqX ?_ | refine ek_seqR ?_ | refine ek_blkN ?_ | refine ek_blkR ?_ | refine ek_blkX ?_ | refine ek_blkY rfl ?_)
    refine sfin (.inr rfl) (by rfl) (by rfl) (by exact ⟨rfl, rfl, rfl⟩) (by rfl) (by rfl) (by rfl) (by first | rfl | (simp; done) | (simp [ints, prs]; done))
theorem evcf_gc2 (fs : List (Int × Int)) (hln : fs.length ≤ 1048576) : Ev cx 115 [.sl 0 0 fs.length, .fn 126 []] [⟨fns fs, 2, 0, some 0, false⟩] (.bool (!allF (fun i => !(fun j => decide ((fs.getD j (0, 0)).1 > 2)) i) 0 (fs.length))) [⟨fns fs, 2, 0, some 0, false⟩] := by
  have e1 := evix_gc2 fs hln
  cases hs : firstF (fun i => !(fun j => decide ((fs.getD j (0, 0)).1 > 2)) i) 0 (fs.length) with
  | none =>
    rw [hs] at e1
    refine has115.eev rfl rfl ?_
    unfold m115
    repeat' (first
      | (refine g_op ?_; first
        | refine ep_mov rfl ?_
        | refine ep_call0 rfl (by first | exact e1) rfl rfl ?_
        | refine sp_call rfl rfl rfl rfl (by first | exact e1) ⟨rfl, rfl, rfl, rfl⟩ rfl rfl rfl ?_
        | refine ep_bin rfl rfl (by exact b_geq) ?_)
      | (refine g_ops ?_; first | refine eo_none ?_ | refine eo_nil ?_)
      | (refine g_code ?_; first | refine ec_seq ?_ | refine ec_region ?_ | refine ec_ret ?_)
      | refine ek_seqN ?_ | refine ek_seqR ?_)
    refine sfin (.inr rfl) (by rfl) (by rfl) (by exact ⟨rfl, rfl, rfl⟩) (by rfl) (by rfl) (by rw [firstF_allT hs]; rfl) (by first | rfl | (simp; done) | (simp [ints, prs]; done))
  | some x =>
    rw [hs] at e1
    have hge : decide (((x : Nat) : Int) ≥ 0) = true := decide_eq_true (by omega)
    refine has115.eev rfl rfl ?_
    unfold m115
    repeat' (first
      | (refine g_op ?_; first
        | refine ep_mov rfl ?_
        | refine ep_call0 rfl (by first | exact e1) rfl rfl ?_
        | refine sp_call rfl rfl rfl rfl (by first | exact e1) ⟨rfl, rfl, rfl, rfl⟩ rfl rfl rfl ?_
        | refine ep_bin rfl rfl (by exact b_geq) ?_)
      | (refine g_ops ?_; first | refine eo_none ?_ | refine eo_nil ?_)
      | (refine g_code ?_; first | refine ec_seq ?_ | refine ec_region ?_ | refine ec_ret ?_)
      | refine ek_seqN ?_ | refine ek_seqR ?_)
    refine sfin (.inr rfl) (by rfl) (by rfl) (by exact ⟨rfl, rfl, rfl⟩) (by rfl) (by rfl) (by rw [firstF_allF hs]; first | rfl | exact congrArg V.bool hge) (by first | rfl | (simp; done) | (simp [ints, prs]; done))

theorem lpix_ll1 (fs : List (Int × Int)) (hln : fs.length ≤ 1048576) (o : Out) (ho : (match firstF (fun i => !(fun _ => !allFunc fs) i) 0 (1) with | none => (⟨.exit 0, [], [⟨[.sl 1 0 fs.length], 1, 0, some 0, true⟩, ⟨fns fs, 2, 1, some 0, false⟩]⟩ : Out) | some x => ⟨.ret, [(4, .int .i64 (x : Nat))], [⟨[.sl 1 0 fs.length], 1, 0, some 0, true⟩, ⟨fns fs, 2, 1, some 0, false⟩]⟩) = o) :
    LpS cx 19 2 m144_0 [(0, .sl 0 0 1), (1, .fn 125 []), (7, .int .i64 (1 : Nat)), (8, .int .i64 (0 : Nat))] [⟨[.sl 1 0 fs.length], 1, 0, some 0, true⟩, ⟨fns fs, 2, 1, some 0, false⟩] o.x o.e o.h := by
  refine lp_brk (1) (fun i => !(fun _ => !allFunc fs) i) (fun _ => ()) (fun i _ => [(0, .sl 0 0 1), (1, .fn 125 []), (7, .int .i64 (1 : Nat)), (8, .int .i64 (i : Nat))]) (fun i _ => [⟨[.sl 1 0 fs.length], 1, 0, some 0, true⟩, ⟨fns fs, 2, 1, some 0, false⟩]) (fun _ => ⟨.exit 0, [], [⟨[.sl 1 0 fs.length], 1, 0, some 0, true⟩, ⟨fns fs, 2, 1, some 0, false⟩]⟩) (fun i _ => ⟨.ret, [(4, .int .i64 (i : Nat))], [⟨[.sl 1 0 fs.length], 1, 0, some 0, true⟩, ⟨fns fs, 2, 1, some 0, false⟩]⟩) ?_ ?_ ?_ (1) 0 o (by omega) (fun h => by rw [← ho, firstF_none fun x h1 h2 => h x h1 (by omega)]) (fun x h1 h2 h3 h4 => by rw [← ho, firstF_some h1 (by omega) h3 h4])
  · intro i s hi hs hp
    have hlt : decide ((i : Int) < (1 : Nat)) = true := decide_eq_true (by omega)
    have hp' : (!(fun _ => !allFunc fs) i) = true := hp
    refine ⟨(), rfl, ?_⟩
    have e0 := evgc1 fs hln
    have hq : (!allFunc fs) = !((!(fun _ => !allFunc fs) i)) := by simp
    rw [hp'] at hq
    rw [hq] at e0
    obtain rfl : i = 0 := by omega
    unfold m144_0
    repeat' (first
      | (refine g_op ?_; first
        | refine ep_mov rfl ?_ | refine ep_load1 rfl rfl rfl rfl ?_
        | refine sp_callv rfl rfl rfl rfl rfl rfl (by first | exact e0) ⟨rfl, rfl, rfl, rfl⟩ rfl rfl rfl ?_
        | refine sp_callb rfl rfl rfl rfl rfl rfl (by first | exact e0) ⟨rfl, rfl, rfl, rfl⟩ rfl rfl rfl ?_
        | refine ep_bin rfl rfl (by first | exact b_add (by omega) (by omega) | exact b_lss) ?_ | refine sp_idx rfl rfl rfl (by omega) rfl ?_ | refine ep_loadS rfl rfl rfl (by first | exact ints_get (by omega) | exact zints_get (by omega) | exact fget (by omega) | assumption) ?_)
      | (refine g_ops ?_; first | refine eo_none ?_ | refine eo_nil ?_)
      | (refine g_code ?_; first | refine ec_seq ?_ | refine ec_region ?_ | refine ec_block ?_ | refine ec_skip ?_ | refine ec_exit ?_ | refine ec_ret ?_ | refine ec_condT rfl ?_ | refine ec_condF rfl ?_ | refine ec_condTH rfl (by assumption) ?_ | refine ec_condFH rfl (by assumption) ?_)
      | refine ek_seqN ?_ | refine ek_seqX ?_ | refine ek_seqR ?_ | refine ek_blkN ?_ | refine ek_blkR ?_ | refine ek_blkX ?_ | refine ek_blkY rfl ?_)
    exact rnd_on (by rfl) (scmp2 (by rfl) (by rfl) (by exact ⟨rfl, rfl, rfl⟩) (by rfl) (by first | rfl | (simp; done) | (simp [ints, prs]; done)) (by rfl) (by first | rfl | (simp; done) | (simp [ints, prs]; done)))
  · intro i s hi hs hp
    have hlt : decide ((i : Int) < (1 : Nat)) = true := decide_eq_true (by omega)
    have hp' : (!(fun _ => !allFunc fs) i) = false := hp
    have e0 := evgc1 fs hln
    have hq : (!allFunc fs) = !((!(fun _ => !allFunc fs) i)) := by simp
    rw [hp'] at hq
    rw [hq] at e0
    obtain rfl : i = 0 := by omega
    unfold m144_0
    repeat' (first
      | (refine g_op ?_; first
        | refine ep_mov rfl ?_ | refine ep_load1 rfl rfl rfl rfl ?_
        | refine sp_callv rfl rfl rfl rfl rfl rfl (by first | exact e0) ⟨rfl, rfl, rfl, rfl⟩ rfl rfl rfl ?_
        | refine sp_callb rfl rfl rfl rfl rfl rfl (by first | exact e0) ⟨rfl, rfl, rfl, rfl⟩ rfl rfl rfl ?_
        | refine ep_bin rfl rfl (by first | exact b_add (by omega) (by omega) | exact b_lss) ?_ | refine sp_idx rfl rfl rfl (by omega) rfl ?_ | refine ep_loadS rfl rfl rfl (by first | exact ints_get (by omega) | exact zints_get (by omega) | exact fget (by omega) | assumption) ?_)
      | (refine g_ops ?_; first | refine eo_none ?_ | refine eo_nil ?_)
      | (refine g_code ?_; first | refine ec_seq ?_ | refine ec_region ?_ | refine ec_block ?_ | refine ec_skip ?_ | refine ec_exit ?_ | refine ec_ret ?_ | refine ec_condT rfl ?_ | refine ec_condF rfl ?_ | refine ec_condTH rfl (by assumption) ?_ | refine ec_condFH rfl (by assumption) ?_)
      | refine ek_seqN ?_ | refine ek_seqX ?_ | refine ek_seqR ?_ | refine ek_blkN ?_ | refine ek_blkR ?_ | refine ek_blkX ?_ | refine ek_blkY rfl ?_)
    exact rnd_out (by rfl) (by simp) (scmp2 (by rfl) (by rfl) (by exact ⟨rfl, rfl, rfl⟩) (by rfl) (by first | rfl | (simp; done) | (simp [ints, prs]; done)) (by rfl) (by first | rfl | (simp; done) | (simp [ints, prs]; done)))
  · intro s hs
    have hlt : decide (((1 : Nat) : Int) < (1 : Nat)) = false := decide_eq_false (by omega)
    unfold m144_0
    repeat' (first
      | (refine g_op ?_; first
        | refine ep_mov rfl ?_ | refine ep_load1 rfl rfl rfl rfl ?_
        | refine sp_callv rfl rfl rfl rfl rfl rfl (by first | exact e0) ⟨rfl, rfl, rfl, rfl⟩ rfl rfl rfl ?_
        | refine sp_callb rfl rfl rfl rfl rfl rfl (by first | exact e0) ⟨rfl, rfl, rfl, rfl⟩ rfl rfl rfl ?_
        | refine ep_bin rfl rfl (by first | exact b_add (by omega) (by omega) | exact b_lss) ?_ | refine sp_idx rfl rfl rfl (by omega) rfl ?_ | refine ep_loadS rfl rfl rfl (by first | exact ints_get (by omega) | exact zints_get (by omega) | exact fget (by omega) | assumption) ?_)
      | (refine g_ops ?_; first | refine eo_none ?_ | refine eo_nil ?_)
      | (refine g_code ?_; first | refine ec_seq ?_ | refine ec_region ?_ | refine ec_block ?_ | refine ec_skip ?_ | refine ec_exit ?_ | refine ec_ret ?_ | refine ec_condT rfl ?_ | refine ec_condF rfl ?_ | refine ec_condTH rfl (by assumption) ?_ | refine ec_condFH rfl (by assumption) ?_)
      | refine ek_seqN ?_ | refine ek_seqX ?_ | refine ek_seqR ?_ | refine ek_blkN ?_ | refine ek_blkR ?_ | refine ek_blkX ?_ | refine ek_blkY rfl ?_)
    exact rnd_out (by rfl) (by simp) (scmp2 (by rfl) (by rfl) (by exact ⟨rfl, rfl, rfl⟩) (by rfl) (by first | rfl | (simp; done) | (simp [ints, prs]; done)) (by rfl) (by first | rfl | (simp; done) | (simp [ints, prs]; done)))
theorem evix_ll1 (fs : List (Int × Int)) (hln : fs.length ≤ 1048576) : Ev cx 144 [.sl 0 0 1, .fn 125 []] [⟨[.sl 1 0 fs.length], 1, 0, some 0, true⟩, ⟨fns fs, 2, 1, some 0, false⟩] (.int .i64 (match firstF (fun i => !(fun _ => !allFunc fs) i) 0 (1) with | none => -1 | some x => ((x : Nat) : Int))) [⟨[.sl 1 0 fs.length], 1, 0, some 0, true⟩, ⟨fns fs, 2, 1, some 0, false⟩] := by
  cases hs : firstF (fun i => !(fun _ => !allFunc fs) i) 0 (1) with
  | none =>
    have lp := lpix_ll1 fs hln _ (by rw [hs])
    refine has144.eev rfl rfl ?_
    unfold m144
    repeat' (first
      | refine sc_loop lp rfl rfl ⟨rfl, rfl, rfl⟩ rfl rfl rfl ?_
      | (refine g_op ?_; first
        | refine ep_mov rfl ?_
        | refine ep_lenS rfl ?_ | refine ep_lenN rfl ?_ | refine ep_lenE rfl ?_)
      | (refine g_ops ?_; first | refine eo_none ?_ | refine eo_nil ?_)
      | (refine g_code ?_; first | refine ec_seq ?_ | refine ec_region ?_ | refine ec_block ?_ | refine ec_ret ?_)
      | refine ek_seqN ?_ | refine ek_seqX ?_ | refine ek_seqR ?_ | refine ek_blkN ?_ | refine ek_blkR ?_ | refine ek_blkX ?_ | refine ek_blkY rfl ?_)
    refine sfin (.inr rfl) (by rfl) (by rfl) (by exact ⟨rfl, rfl, rfl⟩) (by rfl) (by rfl) (by rfl) (by first | rfl | (simp; done) | (simp [ints, prs]; done))
  | some x =>
    have lp := lpix_ll1 fs hln _ (by rw [hs])
    refine has144.eev rfl rfl ?_
    unfold m144
    repeat' (first
      | refine sc_loop lp rfl rfl ⟨rfl, rfl, rfl⟩ rfl rfl rfl ?_
      | (refine g_op ?_; first
        | refine ep_mov rfl ?_
        | refine ep_lenS rfl ?_ | refine ep_lenN rfl ?_ | refine ep_lenE rfl ?_)
      | (refine g_ops ?_; first | refine eo_none ?_ | refine eo_nil ?_)
      | (refine g_code ?_; first | refine ec_seq ?_ | refine ec_region ?_ | refine ec_block ?_ | refine ec_ret ?_)
      | refine ek_seqN ?_ | refine ek_seqX ?_ | refine ek_seqR ?_ | refine ek_blkN ?_ | refine ek_blkR ?_ | refine ek_blkX ?_ | refine ek_blkY rfl ?_)
    refine sfin (.inr rfl) (by rfl) (by rfl) (by exact ⟨rfl, rfl, rfl⟩) (by rfl) (by rfl) (by rfl) (by first | rfl | (simp; done) | (simp [ints, prs]; done))
theorem evcf_ll1 (fs : List (Int × Int)) (hln : fs.length ≤ 1048576) : Ev cx 124 [.sl 0 0 1, .fn 125 []] [⟨[.sl 1 0 fs.length], 1, 0, some 0, true⟩, ⟨fns fs, 2, 1, some 0, false⟩] (.bool (!allF (fun i => !(fun _ => !allFunc fs) i) 0 (1))) [⟨[.sl 1 0 fs.length], 1, 0, some 0, true⟩, ⟨fns fs, 2, 1, some 0, false⟩] := by
  have e1 := evix_ll1 fs hln
  cases hs : firstF (fun i => !(fun _ => !allFunc fs) i) 0 (1) with
  | none =>
    rw [hs] at e1
    refine has124.eev rfl rfl ?_
    unfold m124
    repeat' (first
      | (refine g_op ?_; first
        | refine ep_mov rfl ?_
        | refine ep_call0 rfl (by first | exact e1) rfl rfl ?_
        | refine sp_call rfl rfl rfl rfl (by first | exact e1) ⟨rfl, rfl, rfl, rfl⟩ rfl rfl rfl ?_
        | refine ep_bin rfl rfl (by exact b_geq) ?_)
      | (refine g_ops ?_; first | refine eo_none ?_ | refine eo_nil ?_)
      | (refine g_code ?_; first | refine ec_seq ?_ | refine ec_region ?_ | refine ec_ret ?_)
      | refine ek_seqN ?_ | refine ek_seqR ?_)
    refine sfin (.inr rfl) (by rfl) (by rfl) (by exact ⟨rfl, rfl, rfl⟩) (by rfl) (by rfl) (by rw [firstF_allT hs]; rfl) (by first | rfl | (simp; done) | (simp [ints, prs]; done))
  | some x =>
    rw [hs] at e1
    have hge : decide (((x : Nat) : Int) ≥ 0) = true := decide_eq_true (by omega)
    refine has124.eev rfl rfl ?_
    unfold m124
    repeat' (first
      | (refine g_op ?_; first
        | refine ep_mov rfl ?_
        | refine ep_call0 rfl (by first | exact e1) rfl rfl ?_
        | refine sp_call rfl rfl rfl rfl (by first | exact e1) ⟨rfl, rfl, rfl, rfl⟩ rfl rfl rfl ?_
        | refine ep_bin rfl rfl (by exact b_geq) ?_)
      | (refine g_ops ?_; first | refine eo_none ?_ | refine eo_nil ?_)
      | (refine g_code ?_; first | refine ec_seq ?_ | refine ec_region ?_ | refine ec_ret ?_)
      | refine ek_seqN ?_ | refine ek_seqR ?_)
    refine sfin (.inr rfl) (by rfl) (by rfl) (by exact ⟨rfl, rfl, rfl⟩) (by rfl) (by rfl) (by rw [firstF_allF hs]; first | rfl | exact congrArg V.bool hge) (by first | rfl | (simp; done) | (simp [ints, prs]; done))

-- impl.generationCode
def m86_0 : MC := (.seq (.region [⟨(.bin .lss (.t 14) (.t 13)), (some 15), none⟩] false) (.seq (.cond (.t 15) .skip (.exit 0)) (.seq (.block 1 (.seq (.region [⟨(.indexAddr 1 (.t 12) (.t 14)), (some 16), none⟩, ⟨(.load none (.t 16)), (some 17), none⟩, ⟨(.mov (.t 17)), (some 6), none⟩] false) (.seq (.region [⟨(.mov (.t 6)), (some 18), none⟩, ⟨(.len (.t 18)), (some 19), none⟩, ⟨(.bin .gtr (.t 19) (.k (.int .i64 8))), (some 20), none⟩, ⟨(.mov (.t 20)), (some 21), none⟩, ⟨(.mov (.t 0)), (some 22), (some (21, false))⟩, ⟨(.bin .eql (.t 22) (.k (.int .i64 3))), (some 23), (some (21, false))⟩, ⟨(.mov (.t 23)), (some 24), (some (21, false))⟩, ⟨(.mov (.t 6)), (some 25), (some (24, true))⟩, ⟨(.call 115 [(.t 25), (.k (.fn 126 []))]), (some 26), (some (24, true))⟩, ⟨(.pick (.t 24) (.t 26) (.k (.bool false))), (some 27), (some (21, false))⟩, ⟨(.pick (.t 21) (.k (.bool true)) (.t 27)), (some 28), none⟩] false) (.cond (.t 28) (.seq (.region [⟨(.mov (.k (.int .i64 2))), (some 4), none⟩] false) .ret) .skip)))) (.region [⟨(.bin .add (.t 14) (.k (.int .i64 1))), (some 29), none⟩, ⟨(.mov (.t 29)), (some 14), none⟩] false))))
def m86 : MC := (.seq (.region [⟨(.mov (.k (.int .i64 0))), (some 4), none⟩] false) (.seq (.seq (.region [⟨(.mov (.t 1)), (some 7), none⟩, ⟨(.call 124 [(.t 7), (.k (.fn 125 []))]), (some 8), none⟩] false) (.cond (.t 8) (.seq (.region [⟨(.mov (.k (.int .i64 1))), (some 4), none⟩] false) .ret) .skip)) (.seq (.seq (.region [⟨(.mov (.t 0)), (some 9), none⟩, ⟨(.call 101 [(.t 9), (.k (.int .i64 2)), (.k (.int .i64 3))]), (some 10), none⟩, ⟨(.un .not (.t 10)), (some 11), none⟩] false) (.cond (.t 11) (.seq (.region [⟨(.mov (.k (.int .i64 2))), (some 4), none⟩] false) .ret) .skip)) (.seq (.seq (.region [⟨(.mov (.t 1)), (some 12), none⟩, ⟨(.len (.t 12)), (some 13), none⟩, ⟨(.mov (.k (.int .i64 0))), (some 14), none⟩] false) (.block 0 (.loop m86_0))) (.seq (.region [⟨(.mov (.k (.int .i64 0))), (some 4), none⟩] false) .ret)))))
theorem has86 : Has cx 86 30 m86 [(.tmp 4)] :=
  ⟨⟨Try.f86, Try.f86.body.getD .skip, by kernel_rfl, by kernel_rfl, by kernel_rfl, by kernel_rfl, by kernel_rfl, by kernel_rfl⟩⟩
theorem lpgc_A (fs : List (Int × Int)) (z : Int) (hln : fs.length ≤ 1048576) (h8 : fs.length > 8) : LpS cx 30 2 m86_0 [(0, .int .i64 (z)), (12, .sl 0 0 1), (13, .int .i64 (1 : Nat)), (14, .int .i64 (0 : Nat))] [⟨[.sl 1 0 fs.length], 1, 0, some 0, true⟩, ⟨fns fs, 2, 1, some 0, false⟩] (⟨.ret, [(4, .int .i64 2)], [⟨[.sl 1 0 fs.length], 1, 0, some 0, true⟩, ⟨fns fs, 2, 1, some 0, false⟩]⟩ : Out).x (⟨.ret, [(4, .int .i64 2)], [⟨[.sl 1 0 fs.length], 1, 0, some 0, true⟩, ⟨fns fs, 2, 1, some 0, false⟩]⟩ : Out).e (⟨.ret, [(4, .int .i64 2)], [⟨[.sl 1 0 fs.length], 1, 0, some 0, true⟩, ⟨fns fs, 2, 1, some 0, false⟩]⟩ : Out).h := by
  have hg8 : decide (((fs.length : Nat) : Int) > 8) = true := decide_eq_true (by omega)
  have hlt0 : decide (((0 : Nat) : Int) < (1 : Nat)) = true := by decide
  have hlt1 : decide (((0 + 1 : Nat) : Int) < (1 : Nat)) = false := by decide
  refine round_out ?_
  unfold m86_0
  repeat' (first
    | (refine g_op ?_; first
      | refine ep_mov rfl ?_ | refine ep_load1 rfl rfl rfl rfl ?_
      | refine ep_bin rfl rfl (by first | exact b_add (by omega) (by omega) | exact b_lss | exact b_gtr | exact b_eql) ?_ | refine ep_pickT rfl rfl ?_ | refine ep_pickF rfl rfl ?_ | refine ep_pickTH rfl (by assumption) rfl ?_
      | refine ep_pickFH rfl (by assumption) rfl ?_ | refine ep_lenS rfl ?_ | refine ep_lenN rfl ?_ | refine ep_lenE rfl ?_ | refine sp_idx rfl rfl rfl (by omega) rfl ?_ | refine ep_loadS rfl rfl rfl (by first | exact ints_get (by omega) | exact zints_get (by omega) | exact fget (by omega) | assumption) ?_)
    | (refine g_ops ?_; first | refine eo_none ?_ | refine eo_nil ?_ | refine eo_yes rfl ?_ | refine eo_no rfl ?_ | refine eo_und rfl ?_ | refine eo_yesH rfl (by assumption) ?_ | refine eo_noH rfl (by assumption) ?_)
    | (refine g_code ?_; first | refine ec_seq ?_ | refine ec_region ?_ | refine ec_block ?_ | refine ec_skip ?_ | refine ec_exit ?_ | refine ec_ret ?_ | refine ec_condT rfl ?_ | refine ec_condF rfl ?_ | refine ec_condTH rfl (by assumption) ?_ | refine ec_condFH rfl (by assumption) ?_)
    | refine ek_seqN ?_ | refine ek_seqX ?_ | refine ek_seqR ?_ | refine ek_blkN ?_ | refine ek_blkR ?_ | refine ek_blkX ?_ | refine ek_blkY rfl ?_)
  exact rnd_out (by rfl) (by simp) (scmp2 (by rfl) (by rfl) (by exact ⟨rfl, rfl, rfl⟩) (by rfl) (by first | rfl | (simp; done) | (simp [ints, prs]; done)) (by rfl) (by first | rfl | (simp; done) | (simp [ints, prs]; done)))
theorem lpgc_B (fs : List (Int × Int)) (z : Int) (hln : fs.length ≤ 1048576) (h8 : fs.length ≤ 8) (hz : (z == 3) = false) : LpS cx 30 2 m86_0 [(0, .int .i64 (z)), (12, .sl 0 0 1), (13, .int .i64 (1 : Nat)), (14, .int .i64 (0 : Nat))] [⟨[.sl 1 0 fs.length], 1, 0, some 0, true⟩, ⟨fns fs, 2, 1, some 0, false⟩] (⟨.exit 0, [], [⟨[.sl 1 0 fs.length], 1, 0, some 0, true⟩, ⟨fns fs, 2, 1, some 0, false⟩]⟩ : Out).x (⟨.exit 0, [], [⟨[.sl 1 0 fs.length], 1, 0, some 0, true⟩, ⟨fns fs, 2, 1, some 0, false⟩]⟩ : Out).e (⟨.exit 0, [], [⟨[.sl 1 0 fs.length], 1, 0, some 0, true⟩, ⟨fns fs, 2, 1, some 0, false⟩]⟩ : Out).h := by
  have hg8 : decide (((fs.length : Nat) : Int) > 8) = false := decide_eq_false (by omega)
  have hlt0 : decide (((0 : Nat) : Int) < (1 : Nat)) = true := by decide
  have hlt1 : decide (((0 + 1 : Nat) : Int) < (1 : Nat)) = false := by decide
  refine round_on (e2 := [(0, .int .i64 (z)), (12, .sl 0 0 1), (13, .int .i64 (1 : Nat)), (14, .int .i64 (0 + 1 : Nat))]) (h2 := [⟨[.sl 1 0 fs.length], 1, 0, some 0, true⟩, ⟨fns fs, 2, 1, some 0, false⟩]) ?_ (round_out ?_)
  · unfold m86_0
    repeat' (first
      | (refine g_op ?_; first
        | refine ep_mov rfl ?_ | refine ep_load1 rfl rfl rfl rfl ?_
        | refine ep_bin rfl rfl (by first | exact b_add (by omega) (by omega) | exact b_lss | exact b_gtr | exact b_eql) ?_ | refine ep_pickT rfl rfl ?_ | refine ep_pickF rfl rfl ?_ | refine ep_pickTH rfl (by assumption) rfl ?_
        | refine ep_pickFH rfl (by assumption) rfl ?_ | refine ep_lenS rfl ?_ | refine ep_lenN rfl ?_ | refine ep_lenE rfl ?_ | refine sp_idx rfl rfl rfl (by omega) rfl ?_ | refine ep_loadS rfl rfl rfl (by first | exact ints_get (by omega) | exact zints_get (by omega) | exact fget (by omega) | assumption) ?_)
      | (refine g_ops ?_; first | refine eo_none ?_ | refine eo_nil ?_ | refine eo_yes rfl ?_ | refine eo_no rfl ?_ | refine eo_und rfl ?_ | refine eo_yesH rfl (by assumption) ?_ | refine eo_noH rfl (by assumption) ?_)
      | (refine g_code ?_; first | refine ec_seq ?_ | refine ec_region ?_ | refine ec_block ?_ | refine ec_skip ?_ | refine ec_exit ?_ | refine ec_ret ?_ | refine ec_condT rfl ?_ | refine ec_condF rfl ?_ | refine ec_condTH rfl (by assumption) ?_ | refine ec_condFH rfl (by assumption) ?_)
      | refine ek_seqN ?_ | refine ek_seqX ?_ | refine ek_seqR ?_ | refine ek_blkN ?_ | refine ek_blkR ?_ | refine ek_blkX ?_ | refine ek_blkY rfl ?_)
    exact rnd_on (by rfl) (scmp2 (by rfl) (by rfl) (by exact ⟨rfl, rfl, rfl⟩) (by rfl) (by first | rfl | (simp; done) | (simp [ints, prs]; done)) (by rfl) (by first | rfl | (simp; done) | (simp [ints, prs]; done)))
  · unfold m86_0
    repeat' (first
      | (refine g_op ?_; first
        | refine ep_mov rfl ?_ | refine ep_load1 rfl rfl rfl rfl ?_
        | refine ep_bin rfl rfl (by first | exact b_add (by omega) (by omega) | exact b_lss | exact b_gtr | exact b_eql) ?_ | refine ep_pickT rfl rfl ?_ | refine ep_pickF rfl rfl ?_ | refine ep_pickTH rfl (by assumption) rfl ?_
        | refine ep_pickFH rfl (by assumption) rfl ?_ | refine ep_lenS rfl ?_ | refine ep_lenN rfl ?_ | refine ep_lenE rfl ?_ | refine sp_idx rfl rfl rfl (by omega) rfl ?_ | refine ep_loadS rfl rfl rfl (by first | exact ints_get (by omega) | exact zints_get (by omega) | exact fget (by omega) | assumption) ?_)
      | (refine g_ops ?_; first | refine eo_none ?_ | refine eo_nil ?_ | refine eo_yes rfl ?_ | refine eo_no rfl ?_ | refine eo_und rfl ?_ | refine eo_yesH rfl (by assumption) ?_ | refine eo_noH rfl (by assumption) ?_)
      | (refine g_code ?_; first | refine ec_seq ?_ | refine ec_region ?_ | refine ec_block ?_ | refine ec_skip ?_ | refine ec_exit ?_ | refine ec_ret ?_ | refine ec_condT rfl ?_ | refine ec_condF rfl ?_ | refine ec_condTH rfl (by assumption) ?_ | refine ec_condFH rfl (by assumption) ?_)
      | refine ek_seqN ?_ | refine ek_seqX ?_ | refine ek_seqR ?_ | refine ek_blkN ?_ | refine ek_blkR ?_ | refine ek_blkX ?_ | refine ek_blkY rfl ?_)
    exact rnd_out (by rfl) (by simp) (scmp2 (by rfl) (by rfl) (by exact ⟨rfl, rfl, rfl⟩) (by rfl) (by first | rfl | (simp; done) | (simp [ints, prs]; done)) (by rfl) (by first | rfl | (simp; done) | (simp [ints, prs]; done)))
theorem lpgc_C (fs : List (Int × Int)) (z : Int) (hln : fs.length ≤ 1048576) (h8 : fs.length ≤ 8) (hz : (z == 3) = true) (h3 : a3 fs = true) : LpS cx 30 2 m86_0 [(0, .int .i64 (z)), (12, .sl 0 0 1), (13, .int .i64 (1 : Nat)), (14, .int .i64 (0 : Nat))] [⟨[.sl 1 0 fs.length], 1, 0, some 0, true⟩, ⟨fns fs, 2, 1, some 0, false⟩] (⟨.exit 0, [], [⟨[.sl 1 0 fs.length], 1, 0, some 0, true⟩, ⟨fns fs, 2, 1, some 0, false⟩]⟩ : Out).x (⟨.exit 0, [], [⟨[.sl 1 0 fs.length], 1, 0, some 0, true⟩, ⟨fns fs, 2, 1, some 0, false⟩]⟩ : Out).e (⟨.exit 0, [], [⟨[.sl 1 0 fs.length], 1, 0, some 0, true⟩, ⟨fns fs, 2, 1, some 0, false⟩]⟩ : Out).h := by
  have hg8 : decide (((fs.length : Nat) : Int) > 8) = false := decide_eq_false (by omega)
  have e3 := evcf_gc2 fs hln
  rw [show (!allF (fun i => !(fun j => decide ((fs.getD j (0, 0)).1 > 2)) i) 0 fs.length) = !a3 fs from rfl, h3] at e3
  have hlt0 : decide (((0 : Nat) : Int) < (1 : Nat)) = true := by decide
  have hlt1 : decide (((0 + 1 : Nat) : Int) < (1 : Nat)) = false := by decide
  refine round_on (e2 := [(0, .int .i64 (z)), (12, .sl 0 0 1), (13, .int .i64 (1 : Nat)), (14, .int .i64 (0 + 1 : Nat))]) (h2 := [⟨[.sl 1 0 fs.length], 1, 0, some 0, true⟩, ⟨fns fs, 2, 1, some 0, false⟩]) ?_ (round_out ?_)
  · unfold m86_0
    repeat' (first
      | (refine g_op ?_; first
        | refine ep_mov rfl ?_ | refine ep_load1 rfl rfl rfl rfl ?_
        | refine ep_call0 rfl (by first | exact e3) rfl rfl ?_
        | refine sp_call rfl rfl rfl rfl (by first | exact e3) ⟨rfl, rfl, rfl, rfl⟩ rfl rfl rfl ?_
        | refine ep_bin rfl rfl (by first | exact b_add (by omega) (by omega) | exact b_lss | exact b_gtr | exact b_eql) ?_ | refine ep_pickT rfl rfl ?_ | refine ep_pickF rfl rfl ?_ | refine ep_pickTH rfl (by assumption) rfl ?_
        | refine ep_pickFH rfl (by assumption) rfl ?_ | refine ep_lenS rfl ?_ | refine ep_lenN rfl ?_ | refine ep_lenE rfl ?_ | refine sp_idx rfl rfl rfl (by omega) rfl ?_ | refine ep_loadS rfl rfl rfl (by first | exact ints_get (by omega) | exact zints_get (by omega) | exact fget (by omega) | assumption) ?_)
      | (refine g_ops ?_; first | refine eo_none ?_ | refine eo_nil ?_ | refine eo_yes rfl ?_ | refine eo_no rfl ?_ | refine eo_und rfl ?_ | refine eo_yesH rfl (by assumption) ?_ | refine eo_noH rfl (by assumption) ?_)
      | (refine g_code ?_; first | refine ec_seq ?_ | refine ec_region ?_ | refine ec_block ?_ | refine ec_skip ?_ | refine ec_exit ?_ | refine ec_ret ?_ | refine ec_condT rfl ?_ | refine ec_condF rfl ?_ | refine ec_condTH rfl (by assumption) ?_ | refine ec_condFH rfl (by assumption) ?_)
      | refine ek_seqN ?_ | refine ek_seqX ?_ | refine ek_seqR ?_ | refine ek_blkN ?_ | refine ek_blkR ?_ | refine ek_blkX ?_ | refine ek_blkY rfl ?_)
    exact rnd_on (by rfl) (scmp2 (by rfl) (by rfl) (by exact ⟨rfl, rfl, rfl⟩) (by rfl) (by first | rfl | (simp; done) | (simp [ints, prs]; done)) (by rfl) (by first | rfl | (simp; done) | (simp [ints, prs]; done)))
  · unfold m86_0
    repeat' (first
      | (refine g_op ?_; first
        | refine ep_mov rfl ?_ | refine ep_load1 rfl rfl rfl rfl ?_
        | refine ep_bin rfl rfl (by first | exact b_add (by omega) (by omega) | exact b_lss | exact b_gtr | exact b_eql) ?_ | refine ep_pickT rfl rfl ?_ | refine ep_pickF rfl rfl ?_ | refine ep_pickTH rfl (by assumption) rfl ?_
        | refine ep_pickFH rfl (by assumption) rfl ?_ | refine ep_lenS rfl ?_ | refine ep_lenN rfl ?_ | refine ep_lenE rfl ?_ | refine sp_idx rfl rfl rfl (by omega) rfl ?_ | refine ep_loadS rfl rfl rfl (by first | exact ints_get (by omega) | exact zints_get (by omega) | exact fget (by omega) | assumption) ?_)
      | (refine g_ops ?_; first | refine eo_none ?_ | refine eo_nil ?_ | refine eo_yes rfl ?_ | refine eo_no rfl ?_ | refine eo_und rfl ?_ | refine eo_yesH rfl (by assumption) ?_ | refine eo_noH rfl (by assumption) ?_)
      | (refine g_code ?_; first | refine ec_seq ?_ | refine ec_region ?_ | refine ec_block ?_ | refine ec_skip ?_ | refine ec_exit ?_ | refine ec_ret ?_ | refine ec_condT rfl ?_ | refine ec_condF rfl ?_ | refine ec_condTH rfl (by assumption) ?_ | refine ec_condFH rfl (by assumption) ?_)
      | refine ek_seqN ?_ | refine ek_seqX ?_ | refine ek_seqR ?_ | refine ek_blkN ?_ | refine ek_blkR ?_ | refine ek_blkX ?_ | refine ek_blkY rfl ?_)
    exact rnd_out (by rfl) (by simp) (scmp2 (by rfl) (by rfl) (by exact ⟨rfl, rfl, rfl⟩) (by rfl) (by first | rfl | (simp; done) | (simp [ints, prs]; done)) (by rfl) (by first | rfl | (simp; done) | (simp [ints, prs]; done)))
theorem lpgc_D (fs : List (Int × Int)) (z : Int) (hln : fs.length ≤ 1048576) (h8 : fs.length ≤ 8) (hz : (z == 3) = true) (h3 : a3 fs = false) : LpS cx 30 2 m86_0 [(0, .int .i64 (z)), (12, .sl 0 0 1), (13, .int .i64 (1 : Nat)), (14, .int .i64 (0 : Nat))] [⟨[.sl 1 0 fs.length], 1, 0, some 0, true⟩, ⟨fns fs, 2, 1, some 0, false⟩] (⟨.ret, [(4, .int .i64 2)], [⟨[.sl 1 0 fs.length], 1, 0, some 0, true⟩, ⟨fns fs, 2, 1, some 0, false⟩]⟩ : Out).x (⟨.ret, [(4, .int .i64 2)], [⟨[.sl 1 0 fs.length], 1, 0, some 0, true⟩, ⟨fns fs, 2, 1, some 0, false⟩]⟩ : Out).e (⟨.ret, [(4, .int .i64 2)], [⟨[.sl 1 0 fs.length], 1, 0, some 0, true⟩, ⟨fns fs, 2, 1, some 0, false⟩]⟩ : Out).h := by
  have hg8 : decide (((fs.length : Nat) : Int) > 8) = false := decide_eq_false (by omega)
  have e3 := evcf_gc2 fs hln
  rw [show (!allF (fun i => !(fun j => decide ((fs.getD j (0, 0)).1 > 2)) i) 0 fs.length) = !a3 fs from rfl, h3] at e3
  have hlt0 : decide (((0 : Nat) : Int) < (1 : Nat)) = true := by decide
  have hlt1 : decide (((0 + 1 : Nat) : Int) < (1 : Nat)) = false := by decide
  refine round_out ?_
  unfold m86_0
  repeat' (first
    | (refine g_op ?_; first
      | refine ep_mov rfl ?_ | refine ep_load1 rfl rfl rfl rfl ?_
      | refine ep_call0 rfl (by first | exact e3) rfl rfl ?_
      | refine sp_call rfl rfl rfl rfl (by first | exact e3) ⟨rfl, rfl, rfl, rfl⟩ rfl rfl rfl ?_
      | refine ep_bin rfl rfl (by first | exact b_add (by omega) (by omega) | exact b_lss | exact b_gtr | exact b_eql) ?_ | refine ep_pickT rfl rfl ?_ | refine ep_pickF rfl rfl ?_ | refine ep_pickTH rfl (by assumption) rfl ?_
      | refine ep_pickFH rfl (by assumption) rfl ?_ | refine ep_lenS rfl ?_ | refine ep_lenN rfl ?_ | refine ep_lenE rfl ?_ | refine sp_idx rfl rfl rfl (by omega) rfl ?_ | refine ep_loadS rfl rfl rfl (by first | exact ints_get (by omega) | exact zints_get (by omega) | exact fget (by omega) | assumption) ?_)
    | (refine g_ops ?_; first | refine eo_none ?_ | refine eo_nil ?_ | refine eo_yes rfl ?_ | refine eo_no rfl ?_ | refine eo_und rfl ?_ | refine eo_yesH rfl (by assumption) ?_ | refine eo_noH rfl (by assumption) ?_)
    | (refine g_code ?_; first | refine ec_seq ?_ | refine ec_region ?_ | refine ec_block ?_ | refine ec_skip ?_ | refine ec_exit ?_ | refine ec_ret ?_ | refine ec_condT rfl ?_ | refine ec_condF rfl ?_ | refine ec_condTH rfl (by assumption) ?_ | refine ec_condFH rfl (by assumption) ?_)
    | refine ek_seqN ?_ | refine ek_seqX ?_ | refine ek_seqR ?_ | refine ek_blkN ?_ | refine ek_blkR ?_ | refine ek_blkX ?_ | refine ek_blkY rfl ?_)
  exact rnd_out (by rfl) (by simp) (scmp2 (by rfl) (by rfl) (by exact ⟨rfl, rfl, rfl⟩) (by rfl) (by first | rfl | (simp; done) | (simp [ints, prs]; done)) (by rfl) (by first | rfl | (simp; done) | (simp [ints, prs]; done)))
theorem ev86_1 (fs : List (Int × Int)) (z : Int) (hln : fs.length ≤ 1048576) : Ev cx 86 [.int .i64 z, .sl 0 0 1] [⟨[.sl 1 0 fs.length], 1, 0, some 0, true⟩, ⟨fns fs, 2, 1, some 0, false⟩] (.int .i64 (gcode fs z)) [⟨[.sl 1 0 fs.length], 1, 0, some 0, true⟩, ⟨fns fs, 2, 1, some 0, false⟩] := by
  have e1 := evcf_ll1 fs hln
  have e2 := ev101 z 2 3
  cases ha : allFunc fs
  · rw [show (!allF (fun i => !(fun _ => !allFunc fs) i) 0 1) = true by simp [allF, ha]] at e1
    have hl1 : lcode fs = 1 := by rw [lcode, if_neg (by rw [ha]; simp)]
    have hC : gcode fs z = 1 := by rw [gcode, hl1, if_neg (by omega)]
    rw [hC]
    refine has86.eev rfl rfl ?_
    unfold m86
    repeat' (first
      | (refine g_op ?_; first
        | refine ep_mov rfl ?_
        | refine ep_call0 rfl (by first | exact e1 | exact e2) rfl rfl ?_
        | refine sp_call rfl rfl rfl rfl (by first | exact e1 | exact e2) ⟨rfl, rfl, rfl, rfl⟩ rfl rfl rfl ?_
        | refine ep_not rfl ?_ | refine ep_lenS rfl ?_ | refine ep_lenN rfl ?_ | refine ep_lenE rfl ?_)
      | (refine g_ops ?_; first | refine eo_none ?_ | refine eo_nil ?_)
      | (refine g_code ?_; first | refine ec_seq ?_ | refine ec_region ?_ | refine ec_block ?_ | refine ec_skip ?_ | refine ec_ret ?_ | refine ec_condT rfl ?_ | refine ec_condF rfl ?_ | refine ec_condTH rfl (by assumption) ?_ | refine ec_condFH rfl (by assumption) ?_)
      | refine ek_seqN ?_ | refine ek_seqX ?_ | refine ek_seqR ?_ | refine ek_blkN ?_ | refine ek_blkR ?_ | refine ek_blkX ?_ | refine ek_blkY rfl ?_)
    refine sfin (.inr rfl) (by rfl) (by rfl) (by exact ⟨rfl, rfl, rfl⟩) (by rfl) (by rfl) (by rfl) (by first | rfl | (simp; done) | (simp [ints, prs]; done))
  · rw [show (!allF (fun i => !(fun _ => !allFunc fs) i) 0 1) = false by simp [allF, ha]] at e1
    have hl : lcode fs = if fs.length > 8 then 2 else 0 := by rw [lcode, if_pos ha]
    by_cases h1 : 2 ≤ z ∧ z ≤ 3
    · rw [decide_eq_true h1] at e2
      by_cases h8 : fs.length > 8
      · rw [if_pos h8] at hl
        have hC : gcode fs z = 2 := by rw [gcode, hl, if_neg (by omega)]
        have lp := lpgc_A fs z hln h8
        rw [hC]
        refine has86.eev rfl rfl ?_
        unfold m86
        repeat' (first
          | refine sc_loop lp rfl rfl ⟨rfl, rfl, rfl⟩ rfl rfl rfl ?_
          | (refine g_op ?_; first
            | refine ep_mov rfl ?_
            | refine ep_call0 rfl (by first | exact e1 | exact e2) rfl rfl ?_
            | refine sp_call rfl rfl rfl rfl (by first | exact e1 | exact e2) ⟨rfl, rfl, rfl, rfl⟩ rfl rfl rfl ?_
            | refine ep_not rfl ?_ | refine ep_lenS rfl ?_ | refine ep_lenN rfl ?_ | refine ep_lenE rfl ?_)
          | (refine g_ops ?_; first | refine eo_none ?_ | refine eo_nil ?_)
          | (refine g_code ?_; first | refine ec_seq ?_ | refine ec_region ?_ | refine ec_block ?_ | refine ec_skip ?_ | refine ec_ret ?_ | refine ec_condT rfl ?_ | refine ec_condF rfl ?_ | refine ec_condTH rfl (by assumption) ?_ | refine ec_condFH rfl (by assumption) ?_)
          | refine ek_seqN ?_ | refine ek_seqX ?_ | refine ek_seqR ?_ | refine ek_blkN ?_ | refine ek_blkR ?_ | refine ek_blkX ?_ | refine ek_blkY rfl ?_)
        refine sfin (.inr rfl) (by rfl) (by rfl) (by exact ⟨rfl, rfl, rfl⟩) (by rfl) (by rfl) (by rfl) (by first | rfl | (simp; done) | (simp [ints, prs]; done))
      · rw [if_neg h8] at hl
        cases hz : (z == 3)
        · have hC : gcode fs z = 0 := by rw [gcode, if_pos hl, if_pos h1, if_neg (fun h => by rw [h.1] at hz; simp at hz)]
          have lp := lpgc_B fs z hln (by omega) hz
          rw [hC]
          refine has86.eev rfl rfl ?_
          unfold m86
          repeat' (first
            | refine sc_loop lp rfl rfl ⟨rfl, rfl, rfl⟩ rfl rfl rfl ?_
            | (refine g_op ?_; first
              | refine ep_mov rfl ?_
              | refine ep_call0 rfl (by first | exact e1 | exact e2) rfl rfl ?_
              | refine sp_call rfl rfl rfl rfl (by first | exact e1 | exact e2) ⟨rfl, rfl, rfl, rfl⟩ rfl rfl rfl ?_
              | refine ep_not rfl ?_ | refine ep_lenS rfl ?_ | refine ep_lenN rfl ?_ | refine ep_lenE rfl ?_)
            | (refine g_ops ?_; first | refine eo_none ?_ | refine eo_nil ?_)
            | (refine g_code ?_; first | refine ec_seq ?_ | refine ec_region ?_ | refine ec_block ?_ | refine ec_skip ?_ | refine ec_ret ?_ | refine ec_condT rfl ?_ | refine ec_condF rfl ?_ | refine ec_condTH rfl (by assumption) ?_ | refine ec_condFH rfl (by assumption) ?_)
            | refine ek_seqN ?_ | refine ek_seqX ?_ | refine ek_seqR ?_ | refine ek_blkN ?_ | refine ek_blkR ?_ | refine ek_blkX ?_ | refine ek_blkY rfl ?_)
          refine sfin (.inr rfl) (by rfl) (by rfl) (by exact ⟨rfl, rfl, rfl⟩) (by rfl) (by rfl) (by rfl) (by first | rfl | (simp; done) | (simp [ints, prs]; done))
        · have hz3 : z = 3 := by simpa using hz
          cases h3 : a3 fs
          · have hC : gcode fs z = 2 := by rw [gcode, if_pos hl, if_pos h1, if_pos ⟨hz3, h3⟩]
            have lp := lpgc_D fs z hln (by omega) hz h3
            rw [hC]
            refine has86.eev rfl rfl ?_
            unfold m86
            repeat' (first
              | refine sc_loop lp rfl rfl ⟨rfl, rfl, rfl⟩ rfl rfl rfl ?_
              | (refine g_op ?_; first
                | refine ep_mov rfl ?_
                | refine ep_call0 rfl (by first | exact e1 | exact e2) rfl rfl ?_
                | refine sp_call rfl rfl rfl rfl (by first | exact e1 | exact e2) ⟨rfl, rfl, rfl, rfl⟩ rfl rfl rfl ?_
                | refine ep_not rfl ?_ | refine ep_lenS rfl ?_ | refine ep_lenN rfl ?_ | refine ep_lenE rfl ?_)
              | (refine g_ops ?_; first | refine eo_none ?_ | refine eo_nil ?_)
              | (refine g_code ?_; first | refine ec_seq ?_ | refine ec_region ?_ | refine ec_block ?_ | refine ec_skip ?_ | refine ec_ret ?_ | refine ec_condT rfl ?_ | refine ec_condF rfl ?_ | refine ec_condTH rfl (by assumption) ?_ | refine ec_condFH rfl (by assumption) ?_)
              | refine ek_seqN ?_ | refine ek_seqX ?_ | refine ek_seqR ?_ | refine ek_blkN ?_ | refine ek_blkR ?_ | refine ek_blkX ?_ | refine ek_blkY rfl ?_)
            refine sfin (.inr rfl) (by rfl) (by rfl) (by exact ⟨rfl, rfl, rfl⟩) (by rfl) (by rfl) (by rfl) (by first | rfl | (simp; done) | (simp [ints, prs]; done))
          · have hC : gcode fs z = 0 := by rw [gcode, if_pos hl, if_pos h1, if_neg (fun h => by rw [h3] at h; simp at h)]
            have lp := lpgc_C fs z hln (by omega) hz h3
            rw [hC]
            refine has86.eev rfl rfl ?_
            unfold m86
            repeat' (first
              | refine sc_loop lp rfl rfl ⟨rfl, rfl, rfl⟩ rfl rfl rfl ?_
              | (refine g_op ?_; first
                | refine ep_mov rfl ?_
                | refine ep_call0 rfl (by first | exact e1 | exact e2) rfl rfl ?_
                | refine sp_call rfl rfl rfl rfl (by first | exact e1 | exact e2) ⟨rfl, rfl, rfl, rfl⟩ rfl rfl rfl ?_
                | refine ep_not rfl ?_ | refine ep_lenS rfl ?_ | refine ep_lenN rfl ?_ | refine ep_lenE rfl ?_)
              | (refine g_ops ?_; first | refine eo_none ?_ | refine eo_nil ?_)
              | (refine g_code ?_; first | refine ec_seq ?_ | refine ec_region ?_ | refine ec_block ?_ | refine ec_skip ?_ | refine ec_ret ?_ | refine ec_condT rfl ?_ | refine ec_condF rfl ?_ | refine ec_condTH rfl (by assumption) ?_ | refine ec_condFH rfl (by assumption) ?_)
              | refine ek_seqN ?_ | refine ek_seqX ?_ | refine ek_seqR ?_ | refine ek_blkN ?_ | refine ek_blkR ?_ | refine ek_blkX ?_ | refine ek_blkY rfl ?_)
            refine sfin (.inr rfl) (by rfl) (by rfl) (by exact ⟨rfl, rfl, rfl⟩) (by rfl) (by rfl) (by rfl) (by first | rfl | (simp; done) | (simp [ints, prs]; done))
    · rw [decide_eq_false h1] at e2
      have hC : gcode fs z = 2 := by
        by_cases h0 : lcode fs = 0
        · rw [gcode, if_pos h0, if_neg h1]
        · rw [gcode, if_neg h0]
          by_cases h8 : fs.length > 8
          · rw [hl, if_pos h8]
          · rw [if_neg h8] at hl; exact absurd hl h0
      rw [hC]
      refine has86.eev rfl rfl ?_
      unfold m86
      repeat' (first
        | (refine g_op ?_; first
          | refine ep_mov rfl ?_
          | refine ep_call0 rfl (by first | exact e1 | exact e2) rfl rfl ?_
          | refine sp_call rfl rfl rfl rfl (by first | exact e1 | exact e2) ⟨rfl, rfl, rfl, rfl⟩ rfl rfl rfl ?_
          | refine ep_not rfl ?_ | refine ep_lenS rfl ?_ | refine ep_lenN rfl ?_ | refine ep_lenE rfl ?_)
        | (refine g_ops ?_; first | refine eo_none ?_ | refine eo_nil ?_)
        | (refine g_code ?_; first | refine ec_seq ?_ | refine ec_region ?_ | refine ec_block ?_ | refine ec_skip ?_ | refine ec_ret ?_ | refine ec_condT rfl ?_ | refine ec_condF rfl ?_ | refine ec_condTH rfl (by assumption) ?_ | refine ec_condFH rfl (by assumption) ?_)
        | refine ek_seqN ?_ | refine ek_seqX ?_ | refine ek_seqR ?_ | refine ek_blkN ?_ | refine ek_blkR ?_ | refine ek_blkX ?_ | refine ek_blkY rfl ?_)
      refine sfin (.inr rfl) (by rfl) (by rfl) (by exact ⟨rfl, rfl, rfl⟩) (by rfl) (by rfl) (by rfl) (by first | rfl | (simp; done) | (simp [ints, prs]; done))
def acode (fs : List (Int × Int)) (a b : Int) : Int := if isFn a b = true then gcode fs a else 1
def dpt (fs : List (Int × Int)) (a b : Int) : Int := (depL fs a.toNat).getD b.toNat 0
theorem gcode_1 {fs : List (Int × Int)} {z : Int} (h : lcode fs = 1) : gcode fs z = 1 := by rw [gcode, if_neg (by omega), h]
-- impl.depthOf
def m85 : MC := (.seq (.region [⟨(.box (.t 1)), (some 3), none⟩, ⟨(.mov (.k .nilp)), (some 4), none⟩, ⟨(.mov (.k (.int .i64 0))), (some 5), none⟩, ⟨(.mov (.k (.int .i64 0))), (some 6), none⟩] false) (.seq (.seq (.region [⟨(.load (some 2) (.t 3)), (some 9), none⟩, ⟨(.call 55 [(.t 9)]), (some 10), none⟩, ⟨(.un .not (.t 10)), (some 11), none⟩] false) (.cond (.t 11) (.seq (.region [⟨(.mov (.k .nilp)), (some 4), none⟩, ⟨(.mov (.k (.int .i64 0))), (some 5), none⟩, ⟨(.mov (.k (.int .i64 1))), (some 6), none⟩] false) .ret) .skip)) (.seq (.seq (.region [⟨(.fieldAddr 0 (.t 3)), (some 12), none⟩, ⟨(.load none (.t 12)), (some 13), none⟩, ⟨(.mov (.t 0)), (some 14), none⟩, ⟨(.bslice 1 [.nils] 1 [(0, (1, (.t 14)))]), (some 15), none⟩, ⟨(.call 86 [(.t 13), (.t 15)]), (some 16), none⟩, ⟨(.mov (.t 16)), (some 7), none⟩] false) (.seq (.region [⟨(.mov (.t 7)), (some 17), none⟩, ⟨(.bin .neq (.t 17) (.k (.int .i64 0))), (some 18), none⟩] false) (.cond (.t 18) (.seq (.region [⟨(.mov (.t 7)), (some 19), none⟩, ⟨(.mov (.k .nilp)), (some 4), none⟩, ⟨(.mov (.k (.int .i64 0))), (some 5), none⟩, ⟨(.mov (.t 19)), (some 6), none⟩] false) .ret) .skip))) (.seq (.region [⟨(.mov (.t 0)), (some 20), none⟩, ⟨(.fieldAddr 0 (.t 3)), (some 21), none⟩, ⟨(.load none (.t 21)), (some 22), none⟩, ⟨(.call 88 [(.t 20), (.t 22)]), (some 23), none⟩, ⟨(.mov (.t 23)), (some 8), none⟩] false) (.seq (.seq (.region [⟨(.mov (.t 8)), (some 24), none⟩, ⟨(.nilck (.t 24)), (some 25), none⟩, ⟨(.fieldAddr 2 (.t 25)), (some 26), none⟩, ⟨(.load none (.t 26)), (some 27), none⟩, ⟨(.fieldAddr 1 (.t 3)), (some 28), none⟩, ⟨(.load none (.t 28)), (some 29), none⟩, ⟨(.indexAddr 1 (.t 27) (.t 29)), (some 30), none⟩, ⟨(.load none (.t 30)), (some 31), none⟩, ⟨(.bin .lss (.t 31) (.k (.int .i64 0))), (some 32), none⟩] true) (.cond (.t 32) (.seq (.region [⟨(.mov (.k .nilp)), (some 4), none⟩, ⟨(.mov (.k (.int .i64 0))), (some 5), none⟩, ⟨(.mov (.k (.int .i64 4))), (some 6), none⟩] false) .ret) .skip)) (.seq (.region [⟨(.mov (.t 8)), (some 33), none⟩, ⟨(.mov (.t 8)), (some 34), none⟩, ⟨(.nilck (.t 34)), (some 35), none⟩, ⟨(.fieldAddr 2 (.t 35)), (some 36), none⟩, ⟨(.load none (.t 36)), (some 37), none⟩, ⟨(.fieldAddr 1 (.t 3)), (some 38), none⟩, ⟨(.load none (.t 38)), (some 39), none⟩, ⟨(.indexAddr 1 (.t 37) (.t 39)), (some 40), none⟩, ⟨(.load none (.t 40)), (some 41), none⟩, ⟨(.mov (.t 33)), (some 4), none⟩, ⟨(.mov (.t 41)), (some 5), none⟩, ⟨(.mov (.k (.int .i64 0))), (some 6), none⟩] true) .ret))))))
theorem has85 : Has cx 85 42 m85 [(.tmp 4), (.tmp 5), (.tmp 6)] :=
  ⟨⟨Try.f85, Try.f85.body.getD .skip, by kernel_rfl, by kernel_rfl, by kernel_rfl, by kernel_rfl, by kernel_rfl, by kernel_rfl⟩⟩
theorem evdo_bad (fs : List (Int × Int)) (a b : Int) (hln : fs.length ≤ 1048576) (h0 : acode fs a b ≠ 0) : Ev cx 85 [.sl 0 0 fs.length, .agg [.int .i64 a, .int .i64 b]] [⟨fns fs, 2, 0, some 0, false⟩] (.tup [.nilp, .int .i64 0, .int .i64 (acode fs a b)]) [⟨fns fs, 2, 0, some 0, false⟩] := by
  have e1 := ev55 a b
  have e2 := ev86_1 fs a hln
  cases h1 : isFn a b
  · rw [h1] at e1
    rw [acode, h1, if_neg (by simp)]
    refine has85.eev rfl rfl ?_
    unfold m85
    repeat' (first
      | (refine g_op ?_; first
        | refine ep_mov rfl ?_ | refine ep_load1 rfl rfl rfl rfl ?_ | refine ep_fieldAddr rfl ?_ | refine sp_loadN rfl rfl rfl rfl rfl ?_
        | refine ep_call0 rfl (by first | exact e1) rfl rfl ?_
        | refine sp_call rfl rfl rfl rfl (by first | exact e1) ⟨rfl, rfl, rfl, rfl⟩ rfl rfl rfl ?_
        | refine ep_bin rfl rfl (by first | exact b_lss | exact b_neq) ?_ | refine ep_not rfl ?_ | refine sp_box rfl rfl rfl rfl rfl ?_ | refine sp_bslice rfl rfl rfl rfl rfl ?_ | refine sp_idx rfl rfl rfl (by omega) rfl ?_
        | refine ep_loadS rfl rfl rfl (by first | exact ints_get (by omega) | exact zints_get (by omega) | exact fget (by omega) | assumption) ?_ | refine ep_loadSN rfl rfl rfl (by first | exact prs_get (by omega) | exact fns_get (by omega)) ?_
        | refine ep_nilckP rfl ?_ | refine ep_nilckF rfl ?_)
      | (refine g_ops ?_; first | refine eo_none ?_ | refine eo_nil ?_)
      | (refine g_dops ?_; first | refine ed_none ?_ | refine ed_nil ?_)
      | refine ed_same rfl ?_ | refine ed_one rfl rfl rfl rfl ?_ | refine ed_two rfl rfl rfl rfl rfl rfl rfl ?_ | refine ed_write rfl rfl ?_
      | (refine g_code ?_; first | refine ec_seq ?_ | refine ec_region ?_ | refine ec_draw ?_ | refine ec_skip ?_ | refine ec_ret ?_ | refine ec_condT rfl ?_ | refine ec_condF rfl ?_ | refine ec_condTH rfl (by assumption) ?_ | refine ec_condFH rfl (by assumption) ?_)
      | refine ek_seqN ?_ | refine ek_seqR ?_)
    refine sfin (.inr rfl) (by rfl) (by rfl) (by exact ⟨rfl, rfl, rfl⟩) (by rfl) (by rfl) (by rfl) (by first | rfl | (simp; done) | (simp [ints, prs]; done))
  · rw [h1] at e1
    have hC : acode fs a b = gcode fs a := by rw [acode, if_pos h1]
    rw [hC] at h0 ⊢
    have hq2 : (gcode fs a != 0) = true := by simpa using h0
    refine has85.eev rfl rfl ?_
    unfold m85
    repeat' (first
      | (refine g_op ?_; first
        | refine ep_mov rfl ?_ | refine ep_load1 rfl rfl rfl rfl ?_ | refine ep_fieldAddr rfl ?_ | refine sp_loadN rfl rfl rfl rfl rfl ?_
        | refine ep_call0 rfl (by first | exact e1 | exact e2) rfl rfl ?_
        | refine sp_call rfl rfl rfl rfl (by first | exact e1 | exact e2) ⟨rfl, rfl, rfl, rfl⟩ rfl rfl rfl ?_
        | refine ep_bin rfl rfl (by first | exact b_lss | exact b_neq) ?_ | refine ep_not rfl ?_ | refine sp_box rfl rfl rfl rfl rfl ?_ | refine sp_bslice rfl rfl rfl rfl rfl ?_ | refine sp_idx rfl rfl rfl (by omega) rfl ?_
        | refine ep_loadS rfl rfl rfl (by first | exact ints_get (by omega) | exact zints_get (by omega) | exact fget (by omega) | assumption) ?_ | refine ep_loadSN rfl rfl rfl (by first | exact prs_get (by omega) | exact fns_get (by omega)) ?_
        | refine ep_nilckP rfl ?_ | refine ep_nilckF rfl ?_)
      | (refine g_ops ?_; first | refine eo_none ?_ | refine eo_nil ?_)
      | (refine g_dops ?_; first | refine ed_none ?_ | refine ed_nil ?_)
      | refine ed_same rfl ?_ | refine ed_one rfl rfl rfl rfl ?_ | refine ed_two rfl rfl rfl rfl rfl rfl rfl ?_ | refine ed_write rfl rfl ?_
      | (refine g_code ?_; first | refine ec_seq ?_ | refine ec_region ?_ | refine ec_draw ?_ | refine ec_skip ?_ | refine ec_ret ?_ | refine ec_condT rfl ?_ | refine ec_condF rfl ?_ | refine ec_condTH rfl (by assumption) ?_ | refine ec_condFH rfl (by assumption) ?_)
      | refine ek_seqN ?_ | refine ek_seqR ?_)
    refine sfin (.inr rfl) (by rfl) (by rfl) (by exact ⟨rfl, rfl, rfl⟩) (by rfl) (by rfl) (by rfl) (by first | rfl | (simp; done) | (simp [ints, prs]; done))
theorem acode_0 {fs : List (Int × Int)} {a b : Int} (h : acode fs a b = 0) : isFn a b = true ∧ gcode fs a = 0 := by
  unfold acode at h
  split at h
  · rename_i h1; exact ⟨h1, h⟩
  · omega
theorem evdo_ok (fs : List (Int × Int)) (a b : Int) (hln : fs.length ≤ 1048576) (h0 : acode fs a b = 0) : if dpt fs a b < 0 then Ev cx 85 [.sl 0 0 fs.length, .agg [.int .i64 a, .int .i64 b]] [⟨fns fs, 2, 0, some 0, false⟩] (.tup [.nilp, .int .i64 0, .int .i64 4]) [⟨fns fs, 2, 0, some 0, false⟩]
    else Ev cx 85 [.sl 0 0 fs.length, .agg [.int .i64 a, .int .i64 b]] [⟨fns fs, 2, 0, some 0, false⟩] (.tup [.ptr 1 0, .int .i64 (dpt fs a b), .int .i64 0]) [⟨fns fs, 2, 0, some 0, false⟩, ⟨[.sl 0 0 fs.length, .int .i64 a, .sl 2 0 (R2 (R2 a.toNat))], 1, 1, some 0, true⟩, ⟨zints (depL fs a.toNat), 1, 2, some 0, false⟩] := by
  obtain ⟨h1, h2⟩ := acode_0 h0
  obtain ⟨ha, hl, hz1, hz2⟩ := gcode_0 h2
  have e1 := ev55 a b
  have e2 := ev86_1 fs a hln
  rw [h1] at e1
  rw [h2] at e2
  obtain ⟨n, b, rfl, rfl, a1, a2, a3⟩ := isFn_nat h1
  have e3 := ev88 n fs (by omega) (by omega) ha hln
  have hlen := depL_len fs n
  have hget := zints_get (l := depL fs n) (j := b) (by omega)
  have hd : dpt fs (n : Nat) (b : Nat) = (depL fs n).getD b 0 := rfl
  rw [hd, Int.toNat_natCast]
  by_cases h : (depL fs n).getD b 0 < 0
  · rw [if_pos h]
    have hq : decide ((depL fs n).getD b 0 < 0) = true := decide_eq_true h
    refine has85.eev rfl rfl ?_
    unfold m85
    repeat' (first
      | refine ep_loadS rfl rfl rfl hget ?_
      | (refine g_op ?_; first
        | refine ep_mov rfl ?_ | refine ep_load1 rfl rfl rfl rfl ?_ | refine ep_fieldAddr rfl ?_ | refine sp_loadN rfl rfl rfl rfl rfl ?_
        | refine ep_call0 rfl (by first | exact e1 | exact e2 | exact e3) rfl rfl ?_
        | refine sp_call rfl rfl rfl rfl (by first | exact e1 | exact e2 | exact e3) ⟨rfl, rfl, rfl, rfl⟩ rfl rfl rfl ?_
        | refine ep_bin rfl rfl (by first | exact b_lss | exact b_neq) ?_ | refine ep_not rfl ?_ | refine sp_box rfl rfl rfl rfl rfl ?_ | refine sp_bslice rfl rfl rfl rfl rfl ?_ | refine sp_idx rfl rfl rfl (by omega) rfl ?_
        | refine ep_loadS rfl rfl rfl (by first | exact ints_get (by omega) | exact zints_get (by omega) | exact fget (by omega) | assumption) ?_ | refine ep_loadSN rfl rfl rfl (by first | exact prs_get (by omega) | exact fns_get (by omega)) ?_
        | refine ep_nilckP rfl ?_ | refine ep_nilckF rfl ?_)
      | (refine g_ops ?_; first | refine eo_none ?_ | refine eo_nil ?_)
      | (refine g_dops ?_; first | refine ed_none ?_ | refine ed_nil ?_)
      | refine ed_same rfl ?_ | refine ed_one rfl rfl rfl rfl ?_ | refine ed_two rfl rfl rfl rfl rfl rfl rfl ?_ | refine ed_write rfl rfl ?_
      | (refine g_code ?_; first | refine ec_seq ?_ | refine ec_region ?_ | refine ec_draw ?_ | refine ec_skip ?_ | refine ec_ret ?_ | refine ec_condT rfl ?_ | refine ec_condF rfl ?_ | refine ec_condTH rfl (by assumption) ?_ | refine ec_condFH rfl (by assumption) ?_)
      | refine ek_seqN ?_ | refine ek_seqR ?_)
    refine sfin (.inr rfl) (by rfl) (by rfl) (by exact ⟨rfl, rfl, rfl⟩) (by rfl) (by rfl) (by rfl) (by first | rfl | (simp; done) | (simp [ints, prs]; done))
  · rw [if_neg h]
    have hq : decide ((depL fs n).getD b 0 < 0) = false := decide_eq_false h
    refine has85.eev rfl rfl ?_
    unfold m85
    repeat' (first
      | refine ep_loadS rfl rfl rfl hget ?_
      | (refine g_op ?_; first
        | refine ep_mov rfl ?_ | refine ep_load1 rfl rfl rfl rfl ?_ | refine ep_fieldAddr rfl ?_ | refine sp_loadN rfl rfl rfl rfl rfl ?_
        | refine ep_call0 rfl (by first | exact e1 | exact e2 | exact e3) rfl rfl ?_
        | refine sp_call rfl rfl rfl rfl (by first | exact e1 | exact e2 | exact e3) ⟨rfl, rfl, rfl, rfl⟩ rfl rfl rfl ?_
        | refine ep_bin rfl rfl (by first | exact b_lss | exact b_neq) ?_ | refine ep_not rfl ?_ | refine sp_box rfl rfl rfl rfl rfl ?_ | refine sp_bslice rfl rfl rfl rfl rfl ?_ | refine sp_idx rfl rfl rfl (by omega) rfl ?_
        | refine ep_loadS rfl rfl rfl (by first | exact ints_get (by omega) | exact zints_get (by omega) | exact fget (by omega) | assumption) ?_ | refine ep_loadSN rfl rfl rfl (by first | exact prs_get (by omega) | exact fns_get (by omega)) ?_
        | refine ep_nilckP rfl ?_ | refine ep_nilckF rfl ?_)
      | (refine g_ops ?_; first | refine eo_none ?_ | refine eo_nil ?_)
      | (refine g_dops ?_; first | refine ed_none ?_ | refine ed_nil ?_)
      | refine ed_same rfl ?_ | refine ed_one rfl rfl rfl rfl ?_ | refine ed_two rfl rfl rfl rfl rfl rfl rfl ?_ | refine ed_write rfl rfl ?_
      | (refine g_code ?_; first | refine ec_seq ?_ | refine ec_region ?_ | refine ec_draw ?_ | refine ec_skip ?_ | refine ec_ret ?_ | refine ec_condT rfl ?_ | refine ec_condF rfl ?_ | refine ec_condTH rfl (by assumption) ?_ | refine ec_condFH rfl (by assumption) ?_)
      | refine ek_seqN ?_ | refine ek_seqR ?_)
    refine sfin (.inr rfl) (by rfl) (by rfl) (by exact ⟨rfl, rfl, rfl⟩) (by rfl) (by rfl) (by rfl) (by first | rfl | (simp; done) | (simp [ints, prs]; done))
-- spec.l04Asked
def m84 : MC := (.seq (.region [⟨(.box (.t 1)), (some 3), none⟩, ⟨(.mov (.k (.int .i64 0))), (some 4), none⟩] false) (.seq (.seq (.region [⟨(.mov (.t 0)), (some 6), none⟩, ⟨(.call 69 [(.t 6)]), (some 7), none⟩, ⟨(.mov (.t 7)), (some 5), none⟩] false) (.seq (.region [⟨(.mov (.t 5)), (some 8), none⟩, ⟨(.bin .eql (.t 8) (.k (.int .i64 1))), (some 9), none⟩, ⟨(.mov (.t 9)), (some 10), none⟩, ⟨(.load (some 2) (.t 3)), (some 11), (some (10, false))⟩, ⟨(.call 53 [(.t 11)]), (some 12), (some (10, false))⟩, ⟨(.un .not (.t 12)), (some 13), (some (10, false))⟩, ⟨(.pick (.t 10) (.k (.bool true)) (.t 13)), (some 14), none⟩] false) (.cond (.t 14) (.seq (.region [⟨(.mov (.k (.int .i64 1))), (some 4), none⟩] false) .ret) .skip))) (.seq (.region [⟨(.mov (.t 0)), (some 15), none⟩, ⟨(.fieldAddr 0 (.t 3)), (some 16), none⟩, ⟨(.load none (.t 16)), (some 17), none⟩, ⟨(.call 81 [(.t 15), (.t 17)]), (some 18), none⟩, ⟨(.mov (.t 18)), (some 4), none⟩] false) .ret)))
theorem has84 : Has cx 84 19 m84 [(.tmp 4)] :=
  ⟨⟨Try.f84, Try.f84.body.getD .skip, by kernel_rfl, by kernel_rfl, by kernel_rfl, by kernel_rfl, by kernel_rfl, by kernel_rfl⟩⟩
theorem ev84 (fs : List (Int × Int)) (a b : Int) (hln : fs.length ≤ 1048576) : Ev cx 84 [.sl 0 0 fs.length, .agg [.int .i64 a, .int .i64 b]] [⟨fns fs, 2, 0, some 0, false⟩] (.int .i64 (acode fs a b)) [⟨fns fs, 2, 0, some 0, false⟩] := by
  have e1 := ev69 fs hln
  have e2 := ev53 a b
  have e3 := ev81 fs a hln
  cases hq : (lcode fs == 1)
  · cases h1 : isFn a b
    · rw [h1] at e2
      rw [acode, h1, if_neg (by simp)]
      refine has84.eev rfl rfl ?_
      unfold m84
      repeat' (first
        | (refine g_op ?_; first
          | refine ep_mov rfl ?_ | refine ep_load1 rfl rfl rfl rfl ?_ | refine ep_fieldAddr rfl ?_ | refine sp_loadN rfl rfl rfl rfl rfl ?_
          | refine ep_call0 rfl (by first | exact e1 | exact e2) rfl rfl ?_
          | refine sp_call rfl rfl rfl rfl (by first | exact e1 | exact e2) ⟨rfl, rfl, rfl, rfl⟩ rfl rfl rfl ?_
          | refine ep_bin rfl rfl (by exact b_eql) ?_ | refine ep_pickT rfl rfl ?_ | refine ep_pickF rfl rfl ?_ | refine ep_pickTH rfl (by assumption) rfl ?_ | refine ep_pickFH rfl (by assumption) rfl ?_
          | refine ep_not rfl ?_ | refine sp_box rfl rfl rfl rfl rfl ?_)
        | (refine g_ops ?_; first | refine eo_none ?_ | refine eo_nil ?_ | refine eo_yes rfl ?_ | refine eo_no rfl ?_ | refine eo_und rfl ?_ | refine eo_yesH rfl (by assumption) ?_ | refine eo_noH rfl (by assumption) ?_)
        | (refine g_code ?_; first | refine ec_seq ?_ | refine ec_region ?_ | refine ec_skip ?_ | refine ec_ret ?_ | refine ec_condT rfl ?_ | refine ec_condF rfl ?_ | refine ec_condTH rfl (by assumption) ?_ | refine ec_condFH rfl (by assumption) ?_)
        | refine ek_seqN ?_ | refine ek_seqR ?_)
      refine sfin (.inr rfl) (by rfl) (by rfl) (by exact ⟨rfl, rfl, rfl⟩) (by rfl) (by rfl) (by rfl) (by first | rfl | (simp; done) | (simp [ints, prs]; done))
    · rw [h1] at e2
      rw [acode, h1, if_pos rfl]
      refine has84.eev rfl rfl ?_
      unfold m84
      repeat' (first
        | (refine g_op ?_; first
          | refine ep_mov rfl ?_ | refine ep_load1 rfl rfl rfl rfl ?_ | refine ep_fieldAddr rfl ?_ | refine sp_loadN rfl rfl rfl rfl rfl ?_
          | refine ep_call0 rfl (by first | exact e1 | exact e2 | exact e3) rfl rfl ?_
          | refine sp_call rfl rfl rfl rfl (by first | exact e1 | exact e2 | exact e3) ⟨rfl, rfl, rfl, rfl⟩ rfl rfl rfl ?_
          | refine ep_bin rfl rfl (by exact b_eql) ?_ | refine ep_pickT rfl rfl ?_ | refine ep_pickF rfl rfl ?_ | refine ep_pickTH rfl (by assumption) rfl ?_ | refine ep_pickFH rfl (by assumption) rfl ?_
          | refine ep_not rfl ?_ | refine sp_box rfl rfl rfl rfl rfl ?_)
        | (refine g_ops ?_; first | refine eo_none ?_ | refine eo_nil ?_ | refine eo_yes rfl ?_ | refine eo_no rfl ?_ | refine eo_und rfl ?_ | refine eo_yesH rfl (by assumption) ?_ | refine eo_noH rfl (by assumption) ?_)
        | (refine g_code ?_; first | refine ec_seq ?_ | refine ec_region ?_ | refine ec_skip ?_ | refine ec_ret ?_ | refine ec_condT rfl ?_ | refine ec_condF rfl ?_ | refine ec_condTH rfl (by assumption) ?_ | refine ec_condFH rfl (by assumption) ?_)
        | refine ek_seqN ?_ | refine ek_seqR ?_)
      refine sfin (.inr rfl) (by rfl) (by rfl) (by exact ⟨rfl, rfl, rfl⟩) (by rfl) (by rfl) (by rfl) (by first | rfl | (simp; done) | (simp [ints, prs]; done))
  · have h1 : lcode fs = 1 := by simpa using hq
    have hC : acode fs a b = 1 := by rw [acode, gcode_1 h1]; split <;> rfl
    rw [hC]
    refine has84.eev rfl rfl ?_
    unfold m84
    repeat' (first
      | (refine g_op ?_; first
        | refine ep_mov rfl ?_ | refine ep_load1 rfl rfl rfl rfl ?_ | refine ep_fieldAddr rfl ?_ | refine sp_loadN rfl rfl rfl rfl rfl ?_
        | refine ep_call0 rfl (by first | exact e1) rfl rfl ?_
        | refine sp_call rfl rfl rfl rfl (by first | exact e1) ⟨rfl, rfl, rfl, rfl⟩ rfl rfl rfl ?_
        | refine ep_bin rfl rfl (by exact b_eql) ?_ | refine ep_pickT rfl rfl ?_ | refine ep_pickF rfl rfl ?_ | refine ep_pickTH rfl (by assumption) rfl ?_ | refine ep_pickFH rfl (by assumption) rfl ?_
        | refine ep_not rfl ?_ | refine sp_box rfl rfl rfl rfl rfl ?_)
      | (refine g_ops ?_; first | refine eo_none ?_ | refine eo_nil ?_ | refine eo_yes rfl ?_ | refine eo_no rfl ?_ | refine eo_und rfl ?_ | refine eo_yesH rfl (by assumption) ?_ | refine eo_noH rfl (by assumption) ?_)
      | (refine g_code ?_; first | refine ec_seq ?_ | refine ec_region ?_ | refine ec_skip ?_ | refine ec_ret ?_ | refine ec_condT rfl ?_ | refine ec_condF rfl ?_ | refine ec_condTH rfl (by assumption) ?_ | refine ec_condFH rfl (by assumption) ?_)
      | refine ek_seqN ?_ | refine ek_seqR ?_)
    refine sfin (.inr rfl) (by rfl) (by rfl) (by exact ⟨rfl, rfl, rfl⟩) (by rfl) (by rfl) (by rfl) (by first | rfl | (simp; done) | (simp [ints, prs]; done))
def fsome {α : Type} (f : Nat → Option α) : Nat → Nat → Option α
  | _, 0 => none
  | i, j + 1 => match f i with
    | some x => some x
    | none => fsome f (i + 1) j
def fsO {α : Type} (on : Out) (ot : Nat → α → Out) : Option (Nat × α) → Out
  | none => on
  | some x => ot x.1 x.2
section
variable {C : Cx} {N k : Nat}
/-- A loop that looks for the first answer. -/
theorem lp_fs {α : Type} {b : MC} (n : Nat) (f : Nat → Option α) (E : Nat → Env) (H : Nat → Heap) (on : Out) (ot : Nat → α → Out)
    (step : ∀ i, i < n → f i = none → ∃ A, code (Ev C) (LpS C N k) b (E i) (H i) A fun y e1 h1 A1 => A1 = [] ∧ rnd k y e1 h1 (.inl (E (i + 1), H (i + 1))))
    (stop : ∀ i x, i < n → f i = some x → ∃ A, code (Ev C) (LpS C N k) b (E i) (H i) A fun y e1 h1 A1 => A1 = [] ∧ rnd k y e1 h1 (.inr (ot i x)))
    (last : ∃ A, code (Ev C) (LpS C N k) b (E n) (H n) A fun y e1 h1 A1 => A1 = [] ∧ rnd k y e1 h1 (.inr on)) :
    ∀ (j i : Nat) (o : Out), i + j = n → fsO on ot (fsome (fun i => (f i).map fun x => (i, x)) i j) = o → LpS C N k b (E i) (H i) o.x o.e o.h
  | 0, i, o, hij, ho => by
    simp only [fsome, fsO] at ho
    subst ho
    have : i = n := by omega
    subst this
    exact round_out last
  | j + 1, i, o, hij, ho => by
    cases hp : f i with
    | none =>
      simp only [fsome, hp, Option.map_none] at ho
      exact round_on (step i (by omega) hp) (lp_fs n f E H on ot step stop last j (i + 1) o (by omega) ho)
    | some x =>
      simp only [fsome, hp, Option.map_some, fsO] at ho
      subst ho
      exact round_out (stop i x (by omega) hp)
end
theorem fsome_map {α : Type} (f : Nat → Option α) : ∀ (j i : Nat), (fsome (fun i => (f i).map fun x => (i, x)) i j).map Prod.snd = fsome f i j
  | 0, i => rfl
  | j + 1, i => by
    simp only [fsome]
    cases h : f i with
    | none => simp only [Option.map_none]; exact fsome_map f j (i + 1)
    | some x => rfl
theorem fsome_congr {α : Type} {f g : Nat → Option α} : ∀ (j i : Nat), (∀ x, i ≤ x → x < i + j → f x = g x) → fsome f i j = fsome g i j
  | 0, i, _ => rfl
  | j + 1, i, h => by
    simp only [fsome]
    rw [h i (Nat.le_refl _) (by omega), fsome_congr j (i + 1) fun x h1 h2 => h x (by omega) (by omega)]
theorem fsome_snoc {α : Type} (f : Nat → Option α) : ∀ (j i : Nat), fsome f i (j + 1) = (match fsome f i j with | some x => some x | none => f (i + j))
  | 0, i => by simp only [fsome, Nat.add_zero]; cases f i <;> rfl
  | j + 1, i => by
    rw [fsome, fsome_snoc f j (i + 1)]
    conv => rhs; rw [fsome]
    cases f i with
    | some x => rfl
    | none => simp only []; rw [show i + 1 + j = i + (j + 1) by omega]
theorem fsome_selm {α : Type} (p : Nat → Bool) (F : Nat → Option α) : ∀ N, fsome (fun j => F ((selm p idn N).getD j 0)) 0 (selm p idn N).length = fsome (fun b => if p b = true then F b else none) 0 N
  | 0 => rfl
  | N + 1 => by
    rw [fsome_snoc, ← fsome_selm p F N, Nat.zero_add]
    cases hp : p N
    · rw [selm_f hp]; simp only [Bool.false_eq_true, if_false]
      cases fsome (fun j => F ((selm p idn N).getD j 0)) 0 (selm p idn N).length <;> rfl
    · rw [selm_t hp, List.length_append, List.length_singleton, fsome_snoc, Nat.zero_add, if_pos rfl]
      rw [fsome_congr (f := fun j => F ((selm p idn N ++ [N]).getD j 0)) (g := fun j => F ((selm p idn N).getD j 0)) _ _ (fun x _ hx => by
        rw [List.getD_eq_getElem?_getD, List.getElem?_append_left (by omega), ← List.getD_eq_getElem?_getD])]
      rw [show (selm p idn N ++ [N]).getD (selm p idn N).length 0 = N by rw [List.getD_eq_getElem?_getD, List.getElem?_append_right (Nat.le_refl _)]; simp]
def srch (L : List Nat) (P : List Nat → Bool) : Nat → List Nat → Option (List Nat)
  | 0, now => if P now = true then some now else none
  | m + 1, now => fsome (fun j => srch L P m (now ++ [L.getD j 0])) 0 L.length
def srchN (N : Nat) (p : Nat → Bool) (P : List Nat → Bool) : Nat → List Nat → Option (List Nat)
  | 0, now => if P now = true then some now else none
  | m + 1, now => fsome (fun b => if p b = true then srchN N p P m (now ++ [b]) else none) 0 N
theorem srchN_eq (N : Nat) (p : Nat → Bool) (P : List Nat → Bool) : ∀ (m : Nat) (now : List Nat), srchN N p P m now = srch (selm p idn N) P m now
  | 0, now => rfl
  | m + 1, now => by
    rw [srchN, srch, fsome_selm p (fun b => srch (selm p idn N) P m (now ++ [b])) N]
    exact fsome_congr _ _ fun x _ _ => by rw [srchN_eq N p P m]
theorem srch_congr {L : List Nat} {P Q : List Nat → Bool} {a : Nat} (h : ∀ t : List Nat, t.length = a → inL L t → P t = Q t) : ∀ (m : Nat) (now : List Nat), now.length + m = a → inL L now → srch L P m now = srch L Q m now
  | 0, now, hm, hn => by rw [srch, srch, h now (by omega) hn]
  | m + 1, now, hm, hn => by
    rw [srch, srch]
    exact fsome_congr _ _ fun x _ hx => srch_congr h m _ (by simp; omega) (inL_snoc hn (by omega))
theorem fsome_some {α : Type} {f : Nat → Option α} {x : α} : ∀ (j i : Nat), fsome f i j = some x → ∃ k, i ≤ k ∧ k < i + j ∧ f k = some x
  | 0, i, h => by simp [fsome] at h
  | j + 1, i, h => by
    simp only [fsome] at h
    cases hf : f i with
    | none =>
      rw [hf] at h
      obtain ⟨k, h1, h2, h3⟩ := fsome_some j (i + 1) h
      exact ⟨k, by omega, by omega, h3⟩
    | some y => rw [hf] at h; exact ⟨i, Nat.le_refl _, by omega, by rw [hf]; exact h⟩
theorem srch_len {L : List Nat} {P : List Nat → Bool} {t : List Nat} : ∀ (m : Nat) (now : List Nat), srch L P m now = some t → t.length = now.length + m
  | 0, now, h => by
    rw [srch] at h
    split at h
    · obtain rfl := Option.some.inj h; rfl
    · simp at h
  | m + 1, now, h => by
    rw [srch] at h
    obtain ⟨k, _, _, h3⟩ := fsome_some _ _ h
    have := srch_len m _ h3
    simp at this; omega
def lsP (d : Int) (D : List Int) (n b g : Nat) (t : List Nat) : Bool := isNw d D t && (valS b (R2 n) t == g)
-- slices.Clone[[]impl.Func,impl.Func]
def m96 : MC := (.seq (.region [⟨(.mov (.k .nils)), (some 2), none⟩] false) (.seq (.seq (.region [⟨(.mov (.t 0)), (some 3), none⟩, ⟨(.isnil false (.t 3)), (some 4), none⟩] false) (.cond (.t 4) (.seq (.region [⟨(.mov (.k .nils)), (some 2), none⟩] false) .ret) .skip)) (.seq (.region [⟨.empt, (some 5), none⟩, ⟨(.mov (.t 0)), (some 6), none⟩, ⟨(.append 2 16 (.t 5) (.t 6)), (some 7), none⟩, ⟨(.mov (.t 7)), (some 2), none⟩] false) .ret)))
theorem has96 : Has cx 96 8 m96 [(.tmp 2)] :=
  ⟨⟨Try.f96, Try.f96.body.getD .skip, by kernel_rfl, by kernel_rfl, by kernel_rfl, by kernel_rfl, by kernel_rfl, by kernel_rfl⟩⟩
theorem evclf (n q0 : Nat) (l : List Nat) (h1 : 1 ≤ l.length) (h2 : l.length ≤ 65536) : Ev cx 96 [.sl 0 0 l.length] [⟨prs n l, 2, 0, some q0, false⟩] (.sl 1 0 l.length) [⟨prs n l, 2, 0, some q0, false⟩, ⟨prs n l, 2, 1, some 0, false⟩] := by
  have hr : rowOf [⟨prs n l, 2, 0, some q0, false⟩] 2 (.sl 0 0 l.length) = some (prs n l, l.length) := by
    simp only [rowOf, List.getElem?_cons_zero, List.drop_zero]; rw [List.take_of_length_le (by rw [prs_len]; omega)]
  refine has96.eev rfl rfl ?_
  unfold m96
  repeat' (first
    | refine sp_app0 (l := prs n l) rfl (.inr rfl) rfl hr ⟨by rw [prs_len], by omega, by omega⟩ (.inr ⟨0, 0, _, rfl, rfl, rfl⟩) rfl rfl ?_
    | (refine g_op ?_; first
      | refine ep_mov rfl ?_
      | refine sp_push0 rfl (by first | exact .inl rfl | exact .inr rfl) rfl rfl rfl rfl rfl (by decide) rfl rfl rfl ?_ | refine sp_push rfl rfl rfl rfl rfl rfl rfl (by first | exact ints_len _ | exact prs_len _ _ | exact zints_len _) (by omega) (Nat.zero_le _) rfl rfl rfl rfl rfl ?_
      | refine ep_empt ?_ | refine ep_isnilN rfl ?_ | refine ep_isnilS rfl ?_ | refine ep_isnilE rfl ?_)
    | (refine g_ops ?_; first | refine eo_none ?_ | refine eo_nil ?_)
    | (refine g_code ?_; first | refine ec_seq ?_ | refine ec_region ?_ | refine ec_skip ?_ | refine ec_ret ?_ | refine ec_condT rfl ?_ | refine ec_condF rfl ?_ | refine ec_condTH rfl (by assumption) ?_ | refine ec_condFH rfl (by assumption) ?_)
    | refine ek_seqN ?_ | refine ek_seqR ?_)
  refine sfin (.inr rfl) (by rfl) (by rfl) (by exact ⟨rfl, rfl, rfl⟩) (by rfl) (by rfl) (by rfl) (by first | rfl | (simp; done) | (simp [ints, prs]; done))
theorem evclf0 : Ev cx 96 [.nils] [] .nils [] := by
  refine has96.eev rfl rfl ?_
  unfold m96
  repeat' (first
    | (refine g_op ?_; first
      | refine ep_mov rfl ?_
      | refine sp_push0 rfl (by first | exact .inl rfl | exact .inr rfl) rfl rfl rfl rfl rfl (by decide) rfl rfl rfl ?_ | refine sp_push rfl rfl rfl rfl rfl rfl rfl (by first | exact ints_len _ | exact prs_len _ _ | exact zints_len _) (by omega) (Nat.zero_le _) rfl rfl rfl rfl rfl ?_
      | refine ep_empt ?_ | refine ep_isnilN rfl ?_ | refine ep_isnilS rfl ?_ | refine ep_isnilE rfl ?_)
    | (refine g_ops ?_; first | refine eo_none ?_ | refine eo_nil ?_)
    | (refine g_code ?_; first | refine ec_seq ?_ | refine ec_region ?_ | refine ec_skip ?_ | refine ec_ret ?_ | refine ec_condT rfl ?_ | refine ec_condF rfl ?_ | refine ec_condTH rfl (by assumption) ?_ | refine ec_condFH rfl (by assumption) ?_)
    | refine ek_seqN ?_ | refine ek_seqR ?_)
  refine sfin (.inr rfl) (by rfl) (by rfl) (by exact ⟨rfl, rfl, rfl⟩) (by rfl) (by rfl) (by rfl) (by first | rfl | (simp; done) | (simp [ints, prs]; done))
-- impl.LastStep$1
def m95 : MC := (.seq (.region [⟨(.box (.t 0)), (some 5), none⟩, ⟨(.mov (.k (.bool false))), (some 7), none⟩] false) (.seq (.seq (.region [⟨(.load (some 2) (.t 5)), (some 8), none⟩, ⟨(.load (some 2) (.t 2)), (some 9), none⟩, ⟨(.eqa false 2 (.t 8) (.t 9)), (some 10), none⟩] false) (.cond (.t 10) (.region [⟨(.mov (.t 1)), (some 11), none⟩, ⟨(.call 96 [(.t 11)]), (some 12), none⟩, ⟨(.store 1 (.t 3) (.t 12)), none, none⟩, ⟨(.store 1 (.t 4) (.k (.bool true))), none, none⟩] false) .skip)) (.seq (.region [⟨(.load none (.t 4)), (some 13), none⟩, ⟨(.un .not (.t 13)), (some 14), none⟩, ⟨(.mov (.t 14)), (some 7), none⟩] false) .ret)))
theorem has95 : Has cx 95 15 m95 [(.tmp 7)] :=
  ⟨⟨Try.f95, Try.f95.body.getD .skip, by kernel_rfl, by kernel_rfl, by kernel_rfl, by kernel_rfl, by kernel_rfl, by kernel_rfl⟩⟩
theorem evlc_no (n v g q0 : Nat) (l : List Nat) (hv : v ≠ g) : Ev cx 95 [.agg [.int .i64 (n : Nat), .int .i64 (v : Nat)], .sl 0 0 l.length, .ptr 1 0, .ptr 2 0, .ptr 3 0] [⟨prs n l, 2, 0, some q0, false⟩, ⟨[.int .i64 (n : Nat), .int .i64 (g : Nat)], 1, 1, some 0, true⟩, ⟨[.nils], 1, 2, some 0, true⟩, ⟨[.bool false], 1, 3, some 0, true⟩] (.bool true) [⟨prs n l, 2, 0, some q0, false⟩, ⟨[.int .i64 (n : Nat), .int .i64 (g : Nat)], 1, 1, some 0, true⟩, ⟨[.nils], 1, 2, some 0, true⟩, ⟨[.bool false], 1, 3, some 0, true⟩] := by
  have hq : decide (((n : Nat) : Int) = (n : Nat) ∧ ((v : Nat) : Int) = (g : Nat)) = false := decide_eq_false (by omega)
  refine has95.eev rfl rfl ?_
  unfold m95
  repeat' (first
    | (refine g_op ?_; first
      | refine ep_mov rfl ?_ | refine ep_load1 rfl rfl rfl rfl ?_ | refine sp_loadN rfl rfl rfl rfl rfl ?_
      | refine sp_store rfl rfl rfl rfl rfl rfl rfl rfl rfl rfl ?_ | refine ep_not rfl ?_ | refine sp_box rfl rfl rfl rfl rfl ?_ | refine ep_eqa0 rfl rfl ?_ | refine ep_eqa1 rfl rfl ?_)
    | (refine g_ops ?_; first | refine eo_none ?_ | refine eo_nil ?_)
    | (refine g_code ?_; first | refine ec_seq ?_ | refine ec_region ?_ | refine ec_skip ?_ | refine ec_ret ?_ | refine ec_condT rfl ?_ | refine ec_condF rfl ?_ | refine ec_condTH rfl (by assumption) ?_ | refine ec_condFH rfl (by assumption) ?_)
    | refine ek_seqN ?_ | refine ek_seqR ?_)
  refine sfin (.inr rfl) (by rfl) (by rfl) (by exact ⟨rfl, rfl, rfl⟩) (by rfl) (by rfl) (by rfl) (by first | rfl | (simp; done) | (simp [ints, prs]; done))
theorem evlc_no0 (n v g : Nat) (hv : v ≠ g) : Ev cx 95 [.agg [.int .i64 (n : Nat), .int .i64 (v : Nat)], .nils, .ptr 0 0, .ptr 1 0, .ptr 2 0] [⟨[.int .i64 (n : Nat), .int .i64 (g : Nat)], 1, 0, some 0, true⟩, ⟨[.nils], 1, 1, some 0, true⟩, ⟨[.bool false], 1, 2, some 0, true⟩] (.bool true) [⟨[.int .i64 (n : Nat), .int .i64 (g : Nat)], 1, 0, some 0, true⟩, ⟨[.nils], 1, 1, some 0, true⟩, ⟨[.bool false], 1, 2, some 0, true⟩] := by
  have hq : decide (((n : Nat) : Int) = (n : Nat) ∧ ((v : Nat) : Int) = (g : Nat)) = false := decide_eq_false (by omega)
  refine has95.eev rfl rfl ?_
  unfold m95
  repeat' (first
    | (refine g_op ?_; first
      | refine ep_mov rfl ?_ | refine ep_load1 rfl rfl rfl rfl ?_ | refine sp_loadN rfl rfl rfl rfl rfl ?_
      | refine sp_store rfl rfl rfl rfl rfl rfl rfl rfl rfl rfl ?_ | refine ep_not rfl ?_ | refine sp_box rfl rfl rfl rfl rfl ?_ | refine ep_eqa0 rfl rfl ?_ | refine ep_eqa1 rfl rfl ?_)
    | (refine g_ops ?_; first | refine eo_none ?_ | refine eo_nil ?_)
    | (refine g_code ?_; first | refine ec_seq ?_ | refine ec_region ?_ | refine ec_skip ?_ | refine ec_ret ?_ | refine ec_condT rfl ?_ | refine ec_condF rfl ?_ | refine ec_condTH rfl (by assumption) ?_ | refine ec_condFH rfl (by assumption) ?_)
    | refine ek_seqN ?_ | refine ek_seqR ?_)
  refine sfin (.inr rfl) (by rfl) (by rfl) (by exact ⟨rfl, rfl, rfl⟩) (by rfl) (by rfl) (by rfl) (by first | rfl | (simp; done) | (simp [ints, prs]; done))
theorem evlc_yes (n g q0 : Nat) (l : List Nat) (h1 : 1 ≤ l.length) (h2 : l.length ≤ 65536) : Ev cx 95 [.agg [.int .i64 (n : Nat), .int .i64 (g : Nat)], .sl 0 0 l.length, .ptr 1 0, .ptr 2 0, .ptr 3 0] [⟨prs n l, 2, 0, some q0, false⟩, ⟨[.int .i64 (n : Nat), .int .i64 (g : Nat)], 1, 1, some 0, true⟩, ⟨[.nils], 1, 2, some 0, true⟩, ⟨[.bool false], 1, 3, some 0, true⟩] (.bool false) [⟨prs n l, 2, 0, some q0, false⟩, ⟨[.int .i64 (n : Nat), .int .i64 (g : Nat)], 1, 1, some 0, true⟩, ⟨[.sl 4 0 l.length], 1, 2, some 0, true⟩, ⟨[.bool true], 1, 3, some 0, true⟩, ⟨prs n l, 2, 4, some 0, false⟩] := by
  have hq : decide (((n : Nat) : Int) = (n : Nat) ∧ ((g : Nat) : Int) = (g : Nat)) = true := by simp
  have e1 := evclf n q0 l h1 h2
  refine has95.eev rfl rfl ?_
  unfold m95
  repeat' (first
    | (refine g_op ?_; first
      | refine ep_mov rfl ?_ | refine ep_load1 rfl rfl rfl rfl ?_ | refine sp_loadN rfl rfl rfl rfl rfl ?_
      | refine ep_call0 rfl (by first | exact e1) rfl rfl ?_
      | refine sp_call rfl rfl rfl rfl (by first | exact e1) ⟨rfl, rfl, rfl, rfl⟩ rfl rfl rfl ?_
      | refine sp_store rfl rfl rfl rfl rfl rfl rfl rfl rfl rfl ?_ | refine ep_not rfl ?_ | refine sp_box rfl rfl rfl rfl rfl ?_ | refine ep_eqa0 rfl rfl ?_ | refine ep_eqa1 rfl rfl ?_)
    | (refine g_ops ?_; first | refine eo_none ?_ | refine eo_nil ?_)
    | (refine g_code ?_; first | refine ec_seq ?_ | refine ec_region ?_ | refine ec_skip ?_ | refine ec_ret ?_ | refine ec_condT rfl ?_ | refine ec_condF rfl ?_ | refine ec_condTH rfl (by assumption) ?_ | refine ec_condFH rfl (by assumption) ?_)
    | refine ek_seqN ?_ | refine ek_seqR ?_)
  refine sfin (.inr rfl) (by rfl) (by rfl) (by exact ⟨rfl, rfl, rfl⟩) (by rfl) (by rfl) (by rfl) (by first | rfl | (simp; done) | (simp [ints, prs]; done))
theorem evlc_yes0 (n g : Nat) : Ev cx 95 [.agg [.int .i64 (n : Nat), .int .i64 (g : Nat)], .nils, .ptr 0 0, .ptr 1 0, .ptr 2 0] [⟨[.int .i64 (n : Nat), .int .i64 (g : Nat)], 1, 0, some 0, true⟩, ⟨[.nils], 1, 1, some 0, true⟩, ⟨[.bool false], 1, 2, some 0, true⟩] (.bool false) [⟨[.int .i64 (n : Nat), .int .i64 (g : Nat)], 1, 0, some 0, true⟩, ⟨[.nils], 1, 1, some 0, true⟩, ⟨[.bool true], 1, 2, some 0, true⟩] := by
  have hq : decide (((n : Nat) : Int) = (n : Nat) ∧ ((g : Nat) : Int) = (g : Nat)) = true := by simp
  have e1 := evclf0
  refine has95.eev rfl rfl ?_
  unfold m95
  repeat' (first
    | (refine g_op ?_; first
      | refine ep_mov rfl ?_ | refine ep_load1 rfl rfl rfl rfl ?_ | refine sp_loadN rfl rfl rfl rfl rfl ?_
      | refine ep_call0 rfl (by first | exact e1) rfl rfl ?_
      | refine sp_call rfl rfl rfl rfl (by first | exact e1) ⟨rfl, rfl, rfl, rfl⟩ rfl rfl rfl ?_
      | refine sp_store rfl rfl rfl rfl rfl rfl rfl rfl rfl rfl ?_ | refine ep_not rfl ?_ | refine sp_box rfl rfl rfl rfl rfl ?_ | refine ep_eqa0 rfl rfl ?_ | refine ep_eqa1 rfl rfl ?_)
    | (refine g_ops ?_; first | refine eo_none ?_ | refine eo_nil ?_)
    | (refine g_code ?_; first | refine ec_seq ?_ | refine ec_region ?_ | refine ec_skip ?_ | refine ec_ret ?_ | refine ec_condT rfl ?_ | refine ec_condF rfl ?_ | refine ec_condTH rfl (by assumption) ?_ | refine ec_condFH rfl (by assumption) ?_)
    | refine ek_seqN ?_ | refine ek_seqR ?_)
  refine sfin (.inr rfl) (by rfl) (by rfl) (by exact ⟨rfl, rfl, rfl⟩) (by rfl) (by rfl) (by rfl) (by first | rfl | (simp; done) | (simp [ints, prs]; done))
theorem evlb_newe (n N d b g : Nat) (fs : List (Int × Int)) (D : List Int) (L : List Nat) (hN : D.length = N) (hNn : N = R2 (R2 n)) (hn : n ≤ 4) (hd : d < 65536) (hb : b < 65536) (hw : isNw (d : Int) D [] = true) : (valS b (R2 n) [] ≠ g → Ev cx 94 [.ptr 0 0, .agg [.int .i64 (0 : Nat), .int .i64 (b : Nat)], .sl 3 0 L.length, .nils, .int .i64 (d : Nat), .fn 95 [.ptr 4 0, .ptr 5 0, .ptr 6 0]] [⟨[.sl 1 0 fs.length, .int .i64 (n : Nat), .sl 2 0 N], 1, 0, some 0, true⟩, ⟨fns fs, 2, 1, some 0, false⟩, ⟨zints D, 1, 2, some 0, false⟩, ⟨prs n L, 2, 3, some 0, false⟩, ⟨[.int .i64 (n : Nat), .int .i64 (g : Nat)], 1, 4, some 0, true⟩, ⟨[.nils], 1, 5, some 0, true⟩, ⟨[.bool false], 1, 6, some 0, true⟩] (.bool true) [⟨[.sl 1 0 fs.length, .int .i64 (n : Nat), .sl 2 0 N], 1, 0, some 0, true⟩, ⟨fns fs, 2, 1, some 0, false⟩, ⟨zints D, 1, 2, some 0, false⟩, ⟨prs n L, 2, 3, some 0, false⟩, ⟨[.int .i64 (n : Nat), .int .i64 (g : Nat)], 1, 4, some 0, true⟩, ⟨[.nils], 1, 5, some 0, true⟩, ⟨[.bool false], 1, 6, some 0, true⟩]) ∧ (valS b (R2 n) [] = g → Ev cx 94 [.ptr 0 0, .agg [.int .i64 (0 : Nat), .int .i64 (b : Nat)], .sl 3 0 L.length, .nils, .int .i64 (d : Nat), .fn 95 [.ptr 4 0, .ptr 5 0, .ptr 6 0]] [⟨[.sl 1 0 fs.length, .int .i64 (n : Nat), .sl 2 0 N], 1, 0, some 0, true⟩, ⟨fns fs, 2, 1, some 0, false⟩, ⟨zints D, 1, 2, some 0, false⟩, ⟨prs n L, 2, 3, some 0, false⟩, ⟨[.int .i64 (n : Nat), .int .i64 (g : Nat)], 1, 4, some 0, true⟩, ⟨[.nils], 1, 5, some 0, true⟩, ⟨[.bool false], 1, 6, some 0, true⟩] (.bool false) [⟨[.sl 1 0 fs.length, .int .i64 (n : Nat), .sl 2 0 N], 1, 0, some 0, true⟩, ⟨fns fs, 2, 1, some 0, false⟩, ⟨zints D, 1, 2, some 0, false⟩, ⟨prs n L, 2, 3, some 0, false⟩, ⟨[.int .i64 (n : Nat), .int .i64 (g : Nat)], 1, 4, some 0, true⟩, ⟨[.nils], 1, 5, some 0, true⟩, ⟨[.bool true], 1, 6, some 0, true⟩]) := by
  obtain ⟨h1, h2, h3, h4⟩ := shN hn
  have hv := valS_lt b (R2 n) []
  have e2 := evput_e n b  ((0 : Nat) : Int) (by simp) (fun j hj => by simp at hj) hb hn
  have hq : (((0 : Nat) : Int) == ((0 : Nat) : Int)) = true := by simp
  have eno := evlc_no0 n (valS b (R2 n) []) g
  have eyes := evlc_yes0 n g
  unfold isNw at hw
  have hd1 : (((d : Nat) : Int) == 1) = true := by simpa [allF] using hw
  refine ⟨fun hg => ?_, fun hg => ?_⟩
  · have e3 := eno hg
    refine has94.eev rfl rfl ?_
    unfold m94
    repeat' (first
      | (refine g_op ?_; first
        | refine ep_mov rfl ?_ | refine ep_load1 rfl rfl rfl rfl ?_ | refine ep_fieldAddr rfl ?_ | refine sp_loadN rfl rfl rfl rfl rfl ?_
        | refine ep_call0 rfl (by first | exact e2 | exact e3) rfl rfl ?_
        | refine sp_call rfl rfl rfl rfl (by first | exact e2 | exact e3) ⟨rfl, rfl, rfl, rfl⟩ rfl rfl rfl ?_
        | refine ep_callw0 rfl (by first | exact e2 | exact e3) rfl rfl ?_
        | refine sp_callw rfl rfl rfl rfl (by first | exact e2 | exact e3) ⟨rfl, rfl, rfl, rfl⟩ rfl rfl rfl (by first | exact WrP_refl _ _ | (repeat' (first | exact rfl | exact True.intro | refine And.intro ?_ ?_))) ?_
        | refine sp_callvw rfl rfl rfl rfl rfl rfl (by first | exact e2 | exact e3) ⟨rfl, rfl, rfl, rfl⟩ rfl rfl rfl (by first | exact WrP_refl _ _ | (repeat' (first | exact rfl | exact True.intro | refine And.intro ?_ ?_))) ?_
        | refine sp_callbw rfl rfl rfl rfl rfl rfl (by first | exact e2 | exact e3) ⟨rfl, rfl, rfl, rfl⟩ rfl rfl rfl (by first | exact WrP_refl _ _ | (repeat' (first | exact rfl | exact True.intro | refine And.intro ?_ ?_))) ?_
        | refine ep_bin rfl rfl (by exact b_eql) ?_ | refine ep_pickT rfl rfl ?_ | refine ep_pickF rfl rfl ?_ | refine ep_pickTH rfl (by assumption) rfl ?_ | refine ep_pickFH rfl (by assumption) rfl ?_
        | refine ep_not rfl ?_ | refine ep_lenS rfl ?_ | refine ep_lenN rfl ?_ | refine ep_lenE rfl ?_ | refine sp_box rfl rfl rfl rfl rfl ?_ | refine ep_mkfn rfl ?_ | refine ep_nilckP rfl ?_ | refine ep_nilckF rfl ?_)
      | (refine g_ops ?_; first | refine eo_none ?_ | refine eo_nil ?_ | refine eo_yes rfl ?_ | refine eo_no rfl ?_ | refine eo_und rfl ?_ | refine eo_yesH rfl (by assumption) ?_ | refine eo_noH rfl (by assumption) ?_)
      | (refine g_dops ?_; first | refine ed_none ?_ | refine ed_nil ?_ | refine ed_yes rfl ?_ | refine ed_no rfl ?_ | refine ed_und rfl ?_ | refine ed_yesH rfl (by assumption) ?_ | refine ed_noH rfl (by assumption) ?_)
      | refine ed_same rfl ?_ | refine ed_one rfl rfl rfl rfl ?_ | refine ed_two rfl rfl rfl rfl rfl rfl rfl ?_ | refine ed_write rfl rfl ?_
      | (refine g_code ?_; first | refine ec_seq ?_ | refine ec_region ?_ | refine ec_draw ?_ | refine ec_block ?_ | refine ec_skip ?_ | refine ec_ret ?_ | refine ec_condT rfl ?_ | refine ec_condF rfl ?_ | refine ec_condTH rfl (by assumption) ?_ | refine ec_condFH rfl (by assumption) ?_)
      | refine ek_seqN ?_ | refine ek_seqX ?_ | refine ek_seqR ?_ | refine ek_blkN ?_ | refine ek_blkR ?_ | refine ek_blkX ?_ | refine ek_blkY rfl ?_)
    refine sfin (.inr rfl) (by rfl) (by rfl) (by exact ⟨rfl, rfl, rfl⟩) (by rfl) (by rfl) (by rfl) (by first | rfl | (simp; done) | (simp [ints, prs]; done))
  · rw [hg] at e2
    refine has94.eev rfl rfl ?_
    unfold m94
    repeat' (first
      | (refine g_op ?_; first
        | refine ep_mov rfl ?_ | refine ep_load1 rfl rfl rfl rfl ?_ | refine ep_fieldAddr rfl ?_ | refine sp_loadN rfl rfl rfl rfl rfl ?_
        | refine ep_call0 rfl (by first | exact e2 | exact eyes) rfl rfl ?_
        | refine sp_call rfl rfl rfl rfl (by first | exact e2 | exact eyes) ⟨rfl, rfl, rfl, rfl⟩ rfl rfl rfl ?_
        | refine ep_callw0 rfl (by first | exact e2 | exact eyes) rfl rfl ?_
        | refine sp_callw rfl rfl rfl rfl (by first | exact e2 | exact eyes) ⟨rfl, rfl, rfl, rfl⟩ rfl rfl rfl (by first | exact WrP_refl _ _ | (repeat' (first | exact rfl | exact True.intro | refine And.intro ?_ ?_))) ?_
        | refine sp_callvw rfl rfl rfl rfl rfl rfl (by first | exact e2 | exact eyes) ⟨rfl, rfl, rfl, rfl⟩ rfl rfl rfl (by first | exact WrP_refl _ _ | (repeat' (first | exact rfl | exact True.intro | refine And.intro ?_ ?_))) ?_
        | refine sp_callbw rfl rfl rfl rfl rfl rfl (by first | exact e2 | exact eyes) ⟨rfl, rfl, rfl, rfl⟩ rfl rfl rfl (by first | exact WrP_refl _ _ | (repeat' (first | exact rfl | exact True.intro | refine And.intro ?_ ?_))) ?_
        | refine ep_bin rfl rfl (by exact b_eql) ?_ | refine ep_pickT rfl rfl ?_ | refine ep_pickF rfl rfl ?_ | refine ep_pickTH rfl (by assumption) rfl ?_ | refine ep_pickFH rfl (by assumption) rfl ?_
        | refine ep_not rfl ?_ | refine ep_lenS rfl ?_ | refine ep_lenN rfl ?_ | refine ep_lenE rfl ?_ | refine sp_box rfl rfl rfl rfl rfl ?_ | refine ep_mkfn rfl ?_ | refine ep_nilckP rfl ?_ | refine ep_nilckF rfl ?_)
      | (refine g_ops ?_; first | refine eo_none ?_ | refine eo_nil ?_ | refine eo_yes rfl ?_ | refine eo_no rfl ?_ | refine eo_und rfl ?_ | refine eo_yesH rfl (by assumption) ?_ | refine eo_noH rfl (by assumption) ?_)
      | (refine g_dops ?_; first | refine ed_none ?_ | refine ed_nil ?_ | refine ed_yes rfl ?_ | refine ed_no rfl ?_ | refine ed_und rfl ?_ | refine ed_yesH rfl (by assumption) ?_ | refine ed_noH rfl (by assumption) ?_)
      | refine ed_same rfl ?_ | refine ed_one rfl rfl rfl rfl ?_ | refine ed_two rfl rfl rfl rfl rfl rfl rfl ?_ | refine ed_write rfl rfl ?_
      | (refine g_code ?_; first | refine ec_seq ?_ | refine ec_region ?_ | refine ec_draw ?_ | refine ec_block ?_ | refine ec_skip ?_ | refine ec_ret ?_ | refine ec_condT rfl ?_ | refine ec_condF rfl ?_ | refine ec_condTH rfl (by assumption) ?_ | refine ec_condFH rfl (by assumption) ?_)
      | refine ek_seqN ?_ | refine ek_seqX ?_ | refine ek_seqR ?_ | refine ek_blkN ?_ | refine ek_blkR ?_ | refine ek_blkX ?_ | refine ek_blkY rfl ?_)
    refine sfin (.inr rfl) (by rfl) (by rfl) (by exact ⟨rfl, rfl, rfl⟩) (by rfl) (by rfl) (by rfl) (by first | rfl | (simp; done) | (simp [ints, prs]; done))
theorem evlb_olde (n N d b g : Nat) (fs : List (Int × Int)) (D : List Int) (L : List Nat) (hN : D.length = N) (hNn : N = R2 (R2 n)) (hn : n ≤ 4) (hd : d < 65536) (hb : b < 65536) (hw : isNw (d : Int) D [] = false) : Ev cx 94 [.ptr 0 0, .agg [.int .i64 (0 : Nat), .int .i64 (b : Nat)], .sl 3 0 L.length, .nils, .int .i64 (d : Nat), .fn 95 [.ptr 4 0, .ptr 5 0, .ptr 6 0]] [⟨[.sl 1 0 fs.length, .int .i64 (n : Nat), .sl 2 0 N], 1, 0, some 0, true⟩, ⟨fns fs, 2, 1, some 0, false⟩, ⟨zints D, 1, 2, some 0, false⟩, ⟨prs n L, 2, 3, some 0, false⟩, ⟨[.int .i64 (n : Nat), .int .i64 (g : Nat)], 1, 4, some 0, true⟩, ⟨[.nils], 1, 5, some 0, true⟩, ⟨[.bool false], 1, 6, some 0, true⟩] (.bool true) [⟨[.sl 1 0 fs.length, .int .i64 (n : Nat), .sl 2 0 N], 1, 0, some 0, true⟩, ⟨fns fs, 2, 1, some 0, false⟩, ⟨zints D, 1, 2, some 0, false⟩, ⟨prs n L, 2, 3, some 0, false⟩, ⟨[.int .i64 (n : Nat), .int .i64 (g : Nat)], 1, 4, some 0, true⟩, ⟨[.nils], 1, 5, some 0, true⟩, ⟨[.bool false], 1, 6, some 0, true⟩] := by
  obtain ⟨h1, h2, h3, h4⟩ := shN hn
  have hv := valS_lt b (R2 n) []
  have e2 := evput_e n b  ((0 : Nat) : Int) (by simp) (fun j hj => by simp at hj) hb hn
  have hq : (((0 : Nat) : Int) == ((0 : Nat) : Int)) = true := by simp
  unfold isNw at hw
  rw [Bool.or_eq_false_iff] at hw
  obtain ⟨hd1, hw⟩ := hw
  have e1 := evcf_ste n N d fs D
  rw [show (!allF (fun i => !(fun _ => false) i) 0 0) = false from rfl] at e1
  refine has94.eev rfl rfl ?_
  unfold m94
  repeat' (first
    | (refine g_op ?_; first
      | refine ep_mov rfl ?_ | refine ep_load1 rfl rfl rfl rfl ?_ | refine ep_fieldAddr rfl ?_ | refine sp_loadN rfl rfl rfl rfl rfl ?_
      | refine ep_call0 rfl (by first | exact e1) rfl rfl ?_
      | refine sp_call rfl rfl rfl rfl (by first | exact e1) ⟨rfl, rfl, rfl, rfl⟩ rfl rfl rfl ?_
      | refine ep_callw0 rfl (by first | exact e1) rfl rfl ?_
      | refine sp_callw rfl rfl rfl rfl (by first | exact e1) ⟨rfl, rfl, rfl, rfl⟩ rfl rfl rfl (by first | exact WrP_refl _ _ | (repeat' (first | exact rfl | exact True.intro | refine And.intro ?_ ?_))) ?_
      | refine sp_callvw rfl rfl rfl rfl rfl rfl (by first | exact e1) ⟨rfl, rfl, rfl, rfl⟩ rfl rfl rfl (by first | exact WrP_refl _ _ | (repeat' (first | exact rfl | exact True.intro | refine And.intro ?_ ?_))) ?_
      | refine sp_callbw rfl rfl rfl rfl rfl rfl (by first | exact e1) ⟨rfl, rfl, rfl, rfl⟩ rfl rfl rfl (by first | exact WrP_refl _ _ | (repeat' (first | exact rfl | exact True.intro | refine And.intro ?_ ?_))) ?_
      | refine ep_bin rfl rfl (by exact b_eql) ?_ | refine ep_pickT rfl rfl ?_ | refine ep_pickF rfl rfl ?_ | refine ep_pickTH rfl (by assumption) rfl ?_ | refine ep_pickFH rfl (by assumption) rfl ?_
      | refine ep_not rfl ?_ | refine ep_lenS rfl ?_ | refine ep_lenN rfl ?_ | refine ep_lenE rfl ?_ | refine sp_box rfl rfl rfl rfl rfl ?_ | refine ep_mkfn rfl ?_ | refine ep_nilckP rfl ?_ | refine ep_nilckF rfl ?_)
    | (refine g_ops ?_; first | refine eo_none ?_ | refine eo_nil ?_ | refine eo_yes rfl ?_ | refine eo_no rfl ?_ | refine eo_und rfl ?_ | refine eo_yesH rfl (by assumption) ?_ | refine eo_noH rfl (by assumption) ?_)
    | (refine g_dops ?_; first | refine ed_none ?_ | refine ed_nil ?_ | refine ed_yes rfl ?_ | refine ed_no rfl ?_ | refine ed_und rfl ?_ | refine ed_yesH rfl (by assumption) ?_ | refine ed_noH rfl (by assumption) ?_)
    | refine ed_same rfl ?_ | refine ed_one rfl rfl rfl rfl ?_ | refine ed_two rfl rfl rfl rfl rfl rfl rfl ?_ | refine ed_write rfl rfl ?_
    | (refine g_code ?_; first | refine ec_seq ?_ | refine ec_region ?_ | refine ec_draw ?_ | refine ec_block ?_ | refine ec_skip ?_ | refine ec_ret ?_ | refine ec_condT rfl ?_ | refine ec_condF rfl ?_ | refine ec_condTH rfl (by assumption) ?_ | refine ec_condFH rfl (by assumption) ?_)
    | refine ek_seqN ?_ | refine ek_seqX ?_ | refine ek_seqR ?_ | refine ek_blkN ?_ | refine ek_blkR ?_ | refine ek_blkX ?_ | refine ek_blkY rfl ?_)
  refine sfin (.inr rfl) (by rfl) (by rfl) (by exact ⟨rfl, rfl, rfl⟩) (by rfl) (by rfl) (by rfl) (by first | rfl | (simp; done) | (simp [ints, prs]; done))
theorem evlb_newc (n N d b g q0 : Nat) (fs : List (Int × Int)) (D : List Int) (L l : List Nat) (hl4 : l.length ≤ 4) (hl1 : 1 ≤ l.length) (hl : ∀ j, j < l.length → l.getD j 0 < N) (hN : D.length = N) (hNn : N = R2 (R2 n)) (hn : n ≤ 4) (hd : d < 65536) (hb : b < 65536) (hw : isNw (d : Int) D l = true) : (valS b (R2 n) l ≠ g → Ev cx 94 [.ptr 0 0, .agg [.int .i64 (l.length : Nat), .int .i64 (b : Nat)], .sl 3 0 L.length, .sl 4 0 l.length, .int .i64 (d : Nat), .fn 95 [.ptr 5 0, .ptr 6 0, .ptr 7 0]] [⟨[.sl 1 0 fs.length, .int .i64 (n : Nat), .sl 2 0 N], 1, 0, some 0, true⟩, ⟨fns fs, 2, 1, some 0, false⟩, ⟨zints D, 1, 2, some 0, false⟩, ⟨prs n L, 2, 3, some 0, false⟩, ⟨prs n (l), 2, 4, some q0, false⟩, ⟨[.int .i64 (n : Nat), .int .i64 (g : Nat)], 1, 5, some 0, true⟩, ⟨[.nils], 1, 6, some 0, true⟩, ⟨[.bool false], 1, 7, some 0, true⟩] (.bool true) [⟨[.sl 1 0 fs.length, .int .i64 (n : Nat), .sl 2 0 N], 1, 0, some 0, true⟩, ⟨fns fs, 2, 1, some 0, false⟩, ⟨zints D, 1, 2, some 0, false⟩, ⟨prs n L, 2, 3, some 0, false⟩, ⟨prs n (l), 2, 4, some q0, false⟩, ⟨[.int .i64 (n : Nat), .int .i64 (g : Nat)], 1, 5, some 0, true⟩, ⟨[.nils], 1, 6, some 0, true⟩, ⟨[.bool false], 1, 7, some 0, true⟩]) ∧ (valS b (R2 n) l = g → Ev cx 94 [.ptr 0 0, .agg [.int .i64 (l.length : Nat), .int .i64 (b : Nat)], .sl 3 0 L.length, .sl 4 0 l.length, .int .i64 (d : Nat), .fn 95 [.ptr 5 0, .ptr 6 0, .ptr 7 0]] [⟨[.sl 1 0 fs.length, .int .i64 (n : Nat), .sl 2 0 N], 1, 0, some 0, true⟩, ⟨fns fs, 2, 1, some 0, false⟩, ⟨zints D, 1, 2, some 0, false⟩, ⟨prs n L, 2, 3, some 0, false⟩, ⟨prs n (l), 2, 4, some q0, false⟩, ⟨[.int .i64 (n : Nat), .int .i64 (g : Nat)], 1, 5, some 0, true⟩, ⟨[.nils], 1, 6, some 0, true⟩, ⟨[.bool false], 1, 7, some 0, true⟩] (.bool false) [⟨[.sl 1 0 fs.length, .int .i64 (n : Nat), .sl 2 0 N], 1, 0, some 0, true⟩, ⟨fns fs, 2, 1, some 0, false⟩, ⟨zints D, 1, 2, some 0, false⟩, ⟨prs n L, 2, 3, some 0, false⟩, ⟨prs n (l), 2, 4, some q0, false⟩, ⟨[.int .i64 (n : Nat), .int .i64 (g : Nat)], 1, 5, some 0, true⟩, ⟨[.sl 8 0 (l).length], 1, 6, some 0, true⟩, ⟨[.bool true], 1, 7, some 0, true⟩, ⟨prs n (l), 2, 8, some 0, false⟩]) := by
  obtain ⟨h1, h2, h3, h4⟩ := shN hn
  have hv := valS_lt b (R2 n) l
  have e2 := evput_c n b q0 l.length l (by omega) (fun j hj => by have := hl j hj; omega) hb hn
  have hq : (((l.length : Nat) : Int) == ((l.length : Nat) : Int)) = true := by simp
  have eno := evlc_no n (valS b (R2 n) l) g q0 l
  have eyes := evlc_yes n g q0 l hl1 (by omega)
  unfold isNw at hw
  cases hd1 : (((d : Nat) : Int) == 1)
  · rw [hd1, Bool.false_or] at hw
    have e1 := evcf_st n N d q0 fs D l hl hl4 hN hd
    rw [show (!allF (fun i => !(fun j => D.getD (l.getD j 0) 0 == (d : Int) - 1) i) 0 l.length) = true from hw] at e1
    refine ⟨fun hg => ?_, fun hg => ?_⟩
    · have e3 := eno hg
      refine has94.eev rfl rfl ?_
      unfold m94
      repeat' (first
        | (refine g_op ?_; first
          | refine ep_mov rfl ?_ | refine ep_load1 rfl rfl rfl rfl ?_ | refine ep_fieldAddr rfl ?_ | refine sp_loadN rfl rfl rfl rfl rfl ?_
          | refine ep_call0 rfl (by first | exact e1 | exact e2 | exact e3) rfl rfl ?_
          | refine sp_call rfl rfl rfl rfl (by first | exact e1 | exact e2 | exact e3) ⟨rfl, rfl, rfl, rfl⟩ rfl rfl rfl ?_
          | refine ep_callw0 rfl (by first | exact e1 | exact e2 | exact e3) rfl rfl ?_
          | refine sp_callw rfl rfl rfl rfl (by first | exact e1 | exact e2 | exact e3) ⟨rfl, rfl, rfl, rfl⟩ rfl rfl rfl (by first | exact WrP_refl _ _ | (repeat' (first | exact rfl | exact True.intro | refine And.intro ?_ ?_))) ?_
          | refine sp_callvw rfl rfl rfl rfl rfl rfl (by first | exact e1 | exact e2 | exact e3) ⟨rfl, rfl, rfl, rfl⟩ rfl rfl rfl (by first | exact WrP_refl _ _ | (repeat' (first | exact rfl | exact True.intro | refine And.intro ?_ ?_))) ?_
          | refine sp_callbw rfl rfl rfl rfl rfl rfl (by first | exact e1 | exact e2 | exact e3) ⟨rfl, rfl, rfl, rfl⟩ rfl rfl rfl (by first | exact WrP_refl _ _ | (repeat' (first | exact rfl | exact True.intro | refine And.intro ?_ ?_))) ?_
          | refine ep_bin rfl rfl (by exact b_eql) ?_ | refine ep_pickT rfl rfl ?_ | refine ep_pickF rfl rfl ?_ | refine ep_pickTH rfl (by assumption) rfl ?_ | refine ep_pickFH rfl (by assumption) rfl ?_
          | refine ep_not rfl ?_ | refine ep_lenS rfl ?_ | refine ep_lenN rfl ?_ | refine ep_lenE rfl ?_ | refine sp_box rfl rfl rfl rfl rfl ?_ | refine ep_mkfn rfl ?_ | refine ep_nilckP rfl ?_ | refine ep_nilckF rfl ?_)
        | (refine g_ops ?_; first | refine eo_none ?_ | refine eo_nil ?_ | refine eo_yes rfl ?_ | refine eo_no rfl ?_ | refine eo_und rfl ?_ | refine eo_yesH rfl (by assumption) ?_ | refine eo_noH rfl (by assumption) ?_)
        | (refine g_dops ?_; first | refine ed_none ?_ | refine ed_nil ?_ | refine ed_yes rfl ?_ | refine ed_no rfl ?_ | refine ed_und rfl ?_ | refine ed_yesH rfl (by assumption) ?_ | refine ed_noH rfl (by assumption) ?_)
        | refine ed_same rfl ?_ | refine ed_one rfl rfl rfl rfl ?_ | refine ed_two rfl rfl rfl rfl rfl rfl rfl ?_ | refine ed_write rfl rfl ?_
        | (refine g_code ?_; first | refine ec_seq ?_ | refine ec_region ?_ | refine ec_draw ?_ | refine ec_block ?_ | refine ec_skip ?_ | refine ec_ret ?_ | refine ec_condT rfl ?_ | refine ec_condF rfl ?_ | refine ec_condTH rfl (by assumption) ?_ | refine ec_condFH rfl (by assumption) ?_)
        | refine ek_seqN ?_ | refine ek_seqX ?_ | refine ek_seqR ?_ | refine ek_blkN ?_ | refine ek_blkR ?_ | refine ek_blkX ?_ | refine ek_blkY rfl ?_)
      refine sfin (.inr rfl) (by rfl) (by rfl) (by exact ⟨rfl, rfl, rfl⟩) (by rfl) (by rfl) (by rfl) (by first | rfl | (simp; done) | (simp [ints, prs]; done))
    · rw [hg] at e2
      refine has94.eev rfl rfl ?_
      unfold m94
      repeat' (first
        | (refine g_op ?_; first
          | refine ep_mov rfl ?_ | refine ep_load1 rfl rfl rfl rfl ?_ | refine ep_fieldAddr rfl ?_ | refine sp_loadN rfl rfl rfl rfl rfl ?_
          | refine ep_call0 rfl (by first | exact e1 | exact e2 | exact eyes) rfl rfl ?_
          | refine sp_call rfl rfl rfl rfl (by first | exact e1 | exact e2 | exact eyes) ⟨rfl, rfl, rfl, rfl⟩ rfl rfl rfl ?_
          | refine ep_callw0 rfl (by first | exact e1 | exact e2 | exact eyes) rfl rfl ?_
          | refine sp_callw rfl rfl rfl rfl (by first | exact e1 | exact e2 | exact eyes) ⟨rfl, rfl, rfl, rfl⟩ rfl rfl rfl (by first | exact WrP_refl _ _ | (repeat' (first | exact rfl | exact True.intro | refine And.intro ?_ ?_))) ?_
          | refine sp_callvw rfl rfl rfl rfl rfl rfl (by first | exact e1 | exact e2 | exact eyes) ⟨rfl, rfl, rfl, rfl⟩ rfl rfl rfl (by first | exact WrP_refl _ _ | (repeat' (first | exact rfl | exact True.intro | refine And.intro ?_ ?_))) ?_
          | refine sp_callbw rfl rfl rfl rfl rfl rfl (by first | exact e1 | exact e2 | exact eyes) ⟨rfl, rfl, rfl, rfl⟩ rfl rfl rfl (by first | exact WrP_refl _ _ | (repeat' (first | exact rfl | exact True.intro | refine And.intro ?_ ?_))) ?_
          | refine ep_bin rfl rfl (by exact b_eql) ?_ | refine ep_pickT rfl rfl ?_ | refine ep_pickF rfl rfl ?_ | refine ep_pickTH rfl (by assumption) rfl ?_ | refine ep_pickFH rfl (by assumption) rfl ?_
          | refine ep_not rfl ?_ | refine ep_lenS rfl ?_ | refine ep_lenN rfl ?_ | refine ep_lenE rfl ?_ | refine sp_box rfl rfl rfl rfl rfl ?_ | refine ep_mkfn rfl ?_ | refine ep_nilckP rfl ?_ | refine ep_nilckF rfl ?_)
        | (refine g_ops ?_; first | refine eo_none ?_ | refine eo_nil ?_ | refine eo_yes rfl ?_ | refine eo_no rfl ?_ | refine eo_und rfl ?_ | refine eo_yesH rfl (by assumption) ?_ | refine eo_noH rfl (by assumption) ?_)
        | (refine g_dops ?_; first | refine ed_none ?_ | refine ed_nil ?_ | refine ed_yes rfl ?_ | refine ed_no rfl ?_ | refine ed_und rfl ?_ | refine ed_yesH rfl (by assumption) ?_ | refine ed_noH rfl (by assumption) ?_)
        | refine ed_same rfl ?_ | refine ed_one rfl rfl rfl rfl ?_ | refine ed_two rfl rfl rfl rfl rfl rfl rfl ?_ | refine ed_write rfl rfl ?_
        | (refine g_code ?_; first | refine ec_seq ?_ | refine ec_region ?_ | refine ec_draw ?_ | refine ec_block ?_ | refine ec_skip ?_ | refine ec_ret ?_ | refine ec_condT rfl ?_ | refine ec_condF rfl ?_ | refine ec_condTH rfl (by assumption) ?_ | refine ec_condFH rfl (by assumption) ?_)
        | refine ek_seqN ?_ | refine ek_seqX ?_ | refine ek_seqR ?_ | refine ek_blkN ?_ | refine ek_blkR ?_ | refine ek_blkX ?_ | refine ek_blkY rfl ?_)
      refine sfin (.inr rfl) (by rfl) (by rfl) (by exact ⟨rfl, rfl, rfl⟩) (by rfl) (by rfl) (by rfl) (by first | rfl | (simp; done) | (simp [ints, prs]; done))
  · refine ⟨fun hg => ?_, fun hg => ?_⟩
    · have e3 := eno hg
      refine has94.eev rfl rfl ?_
      unfold m94
      repeat' (first
        | (refine g_op ?_; first
          | refine ep_mov rfl ?_ | refine ep_load1 rfl rfl rfl rfl ?_ | refine ep_fieldAddr rfl ?_ | refine sp_loadN rfl rfl rfl rfl rfl ?_
          | refine ep_call0 rfl (by first | exact e2 | exact e3) rfl rfl ?_
          | refine sp_call rfl rfl rfl rfl (by first | exact e2 | exact e3) ⟨rfl, rfl, rfl, rfl⟩ rfl rfl rfl ?_
          | refine ep_callw0 rfl (by first | exact e2 | exact e3) rfl rfl ?_
          | refine sp_callw rfl rfl rfl rfl (by first | exact e2 | exact e3) ⟨rfl, rfl, rfl, rfl⟩ rfl rfl rfl (by first | exact WrP_refl _ _ | (repeat' (first | exact rfl | exact True.intro | refine And.intro ?_ ?_))) ?_
          | refine sp_callvw rfl rfl rfl rfl rfl rfl (by first | exact e2 | exact e3) ⟨rfl, rfl, rfl, rfl⟩ rfl rfl rfl (by first | exact WrP_refl _ _ | (repeat' (first | exact rfl | exact True.intro | refine And.intro ?_ ?_))) ?_
          | refine sp_callbw rfl rfl rfl rfl rfl rfl (by first | exact e2 | exact e3) ⟨rfl, rfl, rfl, rfl⟩ rfl rfl rfl (by first | exact WrP_refl _ _ | (repeat' (first | exact rfl | exact True.intro | refine And.intro ?_ ?_))) ?_
          | refine ep_bin rfl rfl (by exact b_eql) ?_ | refine ep_pickT rfl rfl ?_ | refine ep_pickF rfl rfl ?_ | refine ep_pickTH rfl (by assumption) rfl ?_ | refine ep_pickFH rfl (by assumption) rfl ?_
          | refine ep_not rfl ?_ | refine ep_lenS rfl ?_ | refine ep_lenN rfl ?_ | refine ep_lenE rfl ?_ | refine sp_box rfl rfl rfl rfl rfl ?_ | refine ep_mkfn rfl ?_ | refine ep_nilckP rfl ?_ | refine ep_nilckF rfl ?_)
        | (refine g_ops ?_; first | refine eo_none ?_ | refine eo_nil ?_ | refine eo_yes rfl ?_ | refine eo_no rfl ?_ | refine eo_und rfl ?_ | refine eo_yesH rfl (by assumption) ?_ | refine eo_noH rfl (by assumption) ?_)
        | (refine g_dops ?_; first | refine ed_none ?_ | refine ed_nil ?_ | refine ed_yes rfl ?_ | refine ed_no rfl ?_ | refine ed_und rfl ?_ | refine ed_yesH rfl (by assumption) ?_ | refine ed_noH rfl (by assumption) ?_)
        | refine ed_same rfl ?_ | refine ed_one rfl rfl rfl rfl ?_ | refine ed_two rfl rfl rfl rfl rfl rfl rfl ?_ | refine ed_write rfl rfl ?_
        | (refine g_code ?_; first | refine ec_seq ?_ | refine ec_region ?_ | refine ec_draw ?_ | refine ec_block ?_ | refine ec_skip ?_ | refine ec_ret ?_ | refine ec_condT rfl ?_ | refine ec_condF rfl ?_ | refine ec_condTH rfl (by assumption) ?_ | refine ec_condFH rfl (by assumption) ?_)
        | refine ek_seqN ?_ | refine ek_seqX ?_ | refine ek_seqR ?_ | refine ek_blkN ?_ | refine ek_blkR ?_ | refine ek_blkX ?_ | refine ek_blkY rfl ?_)
      refine sfin (.inr rfl) (by rfl) (by rfl) (by exact ⟨rfl, rfl, rfl⟩) (by rfl) (by rfl) (by rfl) (by first | rfl | (simp; done) | (simp [ints, prs]; done))
    · rw [hg] at e2
      refine has94.eev rfl rfl ?_
      unfold m94
      repeat' (first
        | (refine g_op ?_; first
          | refine ep_mov rfl ?_ | refine ep_load1 rfl rfl rfl rfl ?_ | refine ep_fieldAddr rfl ?_ | refine sp_loadN rfl rfl rfl rfl rfl ?_
          | refine ep_call0 rfl (by first | exact e2 | exact eyes) rfl rfl ?_
          | refine sp_call rfl rfl rfl rfl (by first | exact e2 | exact eyes) ⟨rfl, rfl, rfl, rfl⟩ rfl rfl rfl ?_
          | refine ep_callw0 rfl (by first | exact e2 | exact eyes) rfl rfl ?_
          | refine sp_callw rfl rfl rfl rfl (by first | exact e2 | exact eyes) ⟨rfl, rfl, rfl, rfl⟩ rfl rfl rfl (by first | exact WrP_refl _ _ | (repeat' (first | exact rfl | exact True.intro | refine And.intro ?_ ?_))) ?_
          | refine sp_callvw rfl rfl rfl rfl rfl rfl (by first | exact e2 | exact eyes) ⟨rfl, rfl, rfl, rfl⟩ rfl rfl rfl (by first | exact WrP_refl _ _ | (repeat' (first | exact rfl | exact True.intro | refine And.intro ?_ ?_))) ?_
          | refine sp_callbw rfl rfl rfl rfl rfl rfl (by first | exact e2 | exact eyes) ⟨rfl, rfl, rfl, rfl⟩ rfl rfl rfl (by first | exact WrP_refl _ _ | (repeat' (first | exact rfl | exact True.intro | refine And.intro ?_ ?_))) ?_
          | refine ep_bin rfl rfl (by exact b_eql) ?_ | refine ep_pickT rfl rfl ?_ | refine ep_pickF rfl rfl ?_ | refine ep_pickTH rfl (by assumption) rfl ?_ | refine ep_pickFH rfl (by assumption) rfl ?_
          | refine ep_not rfl ?_ | refine ep_lenS rfl ?_ | refine ep_lenN rfl ?_ | refine ep_lenE rfl ?_ | refine sp_box rfl rfl rfl rfl rfl ?_ | refine ep_mkfn rfl ?_ | refine ep_nilckP rfl ?_ | refine ep_nilckF rfl ?_)
        | (refine g_ops ?_; first | refine eo_none ?_ | refine eo_nil ?_ | refine eo_yes rfl ?_ | refine eo_no rfl ?_ | refine eo_und rfl ?_ | refine eo_yesH rfl (by assumption) ?_ | refine eo_noH rfl (by assumption) ?_)
        | (refine g_dops ?_; first | refine ed_none ?_ | refine ed_nil ?_ | refine ed_yes rfl ?_ | refine ed_no rfl ?_ | refine ed_und rfl ?_ | refine ed_yesH rfl (by assumption) ?_ | refine ed_noH rfl (by assumption) ?_)
        | refine ed_same rfl ?_ | refine ed_one rfl rfl rfl rfl ?_ | refine ed_two rfl rfl rfl rfl rfl rfl rfl ?_ | refine ed_write rfl rfl ?_
        | (refine g_code ?_; first | refine ec_seq ?_ | refine ec_region ?_ | refine ec_draw ?_ | refine ec_block ?_ | refine ec_skip ?_ | refine ec_ret ?_ | refine ec_condT rfl ?_ | refine ec_condF rfl ?_ | refine ec_condTH rfl (by assumption) ?_ | refine ec_condFH rfl (by assumption) ?_)
        | refine ek_seqN ?_ | refine ek_seqX ?_ | refine ek_seqR ?_ | refine ek_blkN ?_ | refine ek_blkR ?_ | refine ek_blkX ?_ | refine ek_blkY rfl ?_)
      refine sfin (.inr rfl) (by rfl) (by rfl) (by exact ⟨rfl, rfl, rfl⟩) (by rfl) (by rfl) (by rfl) (by first | rfl | (simp; done) | (simp [ints, prs]; done))
theorem evlb_oldc (n N d b g q0 : Nat) (fs : List (Int × Int)) (D : List Int) (L l : List Nat) (hl4 : l.length ≤ 4) (hl1 : 1 ≤ l.length) (hl : ∀ j, j < l.length → l.getD j 0 < N) (hN : D.length = N) (hNn : N = R2 (R2 n)) (hn : n ≤ 4) (hd : d < 65536) (hb : b < 65536) (hw : isNw (d : Int) D l = false) : Ev cx 94 [.ptr 0 0, .agg [.int .i64 (l.length : Nat), .int .i64 (b : Nat)], .sl 3 0 L.length, .sl 4 0 l.length, .int .i64 (d : Nat), .fn 95 [.ptr 5 0, .ptr 6 0, .ptr 7 0]] [⟨[.sl 1 0 fs.length, .int .i64 (n : Nat), .sl 2 0 N], 1, 0, some 0, true⟩, ⟨fns fs, 2, 1, some 0, false⟩, ⟨zints D, 1, 2, some 0, false⟩, ⟨prs n L, 2, 3, some 0, false⟩, ⟨prs n (l), 2, 4, some q0, false⟩, ⟨[.int .i64 (n : Nat), .int .i64 (g : Nat)], 1, 5, some 0, true⟩, ⟨[.nils], 1, 6, some 0, true⟩, ⟨[.bool false], 1, 7, some 0, true⟩] (.bool true) [⟨[.sl 1 0 fs.length, .int .i64 (n : Nat), .sl 2 0 N], 1, 0, some 0, true⟩, ⟨fns fs, 2, 1, some 0, false⟩, ⟨zints D, 1, 2, some 0, false⟩, ⟨prs n L, 2, 3, some 0, false⟩, ⟨prs n (l), 2, 4, some q0, false⟩, ⟨[.int .i64 (n : Nat), .int .i64 (g : Nat)], 1, 5, some 0, true⟩, ⟨[.nils], 1, 6, some 0, true⟩, ⟨[.bool false], 1, 7, some 0, true⟩] := by
  obtain ⟨h1, h2, h3, h4⟩ := shN hn
  have hv := valS_lt b (R2 n) l
  have e2 := evput_c n b q0 l.length l (by omega) (fun j hj => by have := hl j hj; omega) hb hn
  have hq : (((l.length : Nat) : Int) == ((l.length : Nat) : Int)) = true := by simp
  unfold isNw at hw
  rw [Bool.or_eq_false_iff] at hw
  obtain ⟨hd1, hw⟩ := hw
  have e1 := evcf_st n N d q0 fs D l hl hl4 hN hd
  rw [show (!allF (fun i => !(fun j => D.getD (l.getD j 0) 0 == (d : Int) - 1) i) 0 l.length) = false from hw] at e1
  refine has94.eev rfl rfl ?_
  unfold m94
  repeat' (first
    | (refine g_op ?_; first
      | refine ep_mov rfl ?_ | refine ep_load1 rfl rfl rfl rfl ?_ | refine ep_fieldAddr rfl ?_ | refine sp_loadN rfl rfl rfl rfl rfl ?_
      | refine ep_call0 rfl (by first | exact e1) rfl rfl ?_
      | refine sp_call rfl rfl rfl rfl (by first | exact e1) ⟨rfl, rfl, rfl, rfl⟩ rfl rfl rfl ?_
      | refine ep_callw0 rfl (by first | exact e1) rfl rfl ?_
      | refine sp_callw rfl rfl rfl rfl (by first | exact e1) ⟨rfl, rfl, rfl, rfl⟩ rfl rfl rfl (by first | exact WrP_refl _ _ | (repeat' (first | exact rfl | exact True.intro | refine And.intro ?_ ?_))) ?_
      | refine sp_callvw rfl rfl rfl rfl rfl rfl (by first | exact e1) ⟨rfl, rfl, rfl, rfl⟩ rfl rfl rfl (by first | exact WrP_refl _ _ | (repeat' (first | exact rfl | exact True.intro | refine And.intro ?_ ?_))) ?_
      | refine sp_callbw rfl rfl rfl rfl rfl rfl (by first | exact e1) ⟨rfl, rfl, rfl, rfl⟩ rfl rfl rfl (by first | exact WrP_refl _ _ | (repeat' (first | exact rfl | exact True.intro | refine And.intro ?_ ?_))) ?_
      | refine ep_bin rfl rfl (by exact b_eql) ?_ | refine ep_pickT rfl rfl ?_ | refine ep_pickF rfl rfl ?_ | refine ep_pickTH rfl (by assumption) rfl ?_ | refine ep_pickFH rfl (by assumption) rfl ?_
      | refine ep_not rfl ?_ | refine ep_lenS rfl ?_ | refine ep_lenN rfl ?_ | refine ep_lenE rfl ?_ | refine sp_box rfl rfl rfl rfl rfl ?_ | refine ep_mkfn rfl ?_ | refine ep_nilckP rfl ?_ | refine ep_nilckF rfl ?_)
    | (refine g_ops ?_; first | refine eo_none ?_ | refine eo_nil ?_ | refine eo_yes rfl ?_ | refine eo_no rfl ?_ | refine eo_und rfl ?_ | refine eo_yesH rfl (by assumption) ?_ | refine eo_noH rfl (by assumption) ?_)
    | (refine g_dops ?_; first | refine ed_none ?_ | refine ed_nil ?_ | refine ed_yes rfl ?_ | refine ed_no rfl ?_ | refine ed_und rfl ?_ | refine ed_yesH rfl (by assumption) ?_ | refine ed_noH rfl (by assumption) ?_)
    | refine ed_same rfl ?_ | refine ed_one rfl rfl rfl rfl ?_ | refine ed_two rfl rfl rfl rfl rfl rfl rfl ?_ | refine ed_write rfl rfl ?_
    | (refine g_code ?_; first | refine ec_seq ?_ | refine ec_region ?_ | refine ec_draw ?_ | refine ec_block ?_ | refine ec_skip ?_ | refine ec_ret ?_ | refine ec_condT rfl ?_ | refine ec_condF rfl ?_ | refine ec_condTH rfl (by assumption) ?_ | refine ec_condFH rfl (by assumption) ?_)
    | refine ek_seqN ?_ | refine ek_seqX ?_ | refine ek_seqR ?_ | refine ek_blkN ?_ | refine ek_blkR ?_ | refine ek_blkX ?_ | refine ek_blkY rfl ?_)
  refine sfin (.inr rfl) (by rfl) (by rfl) (by exact ⟨rfl, rfl, rfl⟩) (by rfl) (by rfl) (by rfl) (by first | rfl | (simp; done) | (simp [ints, prs]; done))
theorem lplt_e (n N d b g a m : Nat) (fs : List (Int × Int)) (D : List Int) (L : List Nat) (hll : L.length ≤ 65536) (ih : ∀ i, i < L.length → ((srch L (lsP (d : Int) D n b g) m ([] ++ [L.getD i 0]) = none → Ev cx 94 [.ptr 0 0, .agg [.int .i64 (a : Nat), .int .i64 (b : Nat)], .sl 3 0 L.length, .sl 4 0 1, .int .i64 (d : Nat), .fn 95 [.ptr 5 0, .ptr 6 0, .ptr 7 0]] [⟨[.sl 1 0 fs.length, .int .i64 (n : Nat), .sl 2 0 N], 1, 0, some 0, true⟩, ⟨fns fs, 2, 1, some 0, false⟩, ⟨zints D, 1, 2, some 0, false⟩, ⟨prs n L, 2, 3, some 0, false⟩, ⟨[.int .i64 (n : Nat), .int .i64 (L.getD i 0 : Nat)], 2, 4, some 0, false⟩, ⟨[.int .i64 (n : Nat), .int .i64 (g : Nat)], 1, 5, some 0, true⟩, ⟨[.nils], 1, 6, some 0, true⟩, ⟨[.bool false], 1, 7, some 0, true⟩] (.bool true) [⟨[.sl 1 0 fs.length, .int .i64 (n : Nat), .sl 2 0 N], 1, 0, some 0, true⟩, ⟨fns fs, 2, 1, some 0, false⟩, ⟨zints D, 1, 2, some 0, false⟩, ⟨prs n L, 2, 3, some 0, false⟩, ⟨[.int .i64 (n : Nat), .int .i64 (L.getD i 0 : Nat)], 2, 4, some 0, false⟩, ⟨[.int .i64 (n : Nat), .int .i64 (g : Nat)], 1, 5, some 0, true⟩, ⟨[.nils], 1, 6, some 0, true⟩, ⟨[.bool false], 1, 7, some 0, true⟩]) ∧ ∀ t, srch L (lsP (d : Int) D n b g) m ([] ++ [L.getD i 0]) = some t → Ev cx 94 [.ptr 0 0, .agg [.int .i64 (a : Nat), .int .i64 (b : Nat)], .sl 3 0 L.length, .sl 4 0 1, .int .i64 (d : Nat), .fn 95 [.ptr 5 0, .ptr 6 0, .ptr 7 0]] [⟨[.sl 1 0 fs.length, .int .i64 (n : Nat), .sl 2 0 N], 1, 0, some 0, true⟩, ⟨fns fs, 2, 1, some 0, false⟩, ⟨zints D, 1, 2, some 0, false⟩, ⟨prs n L, 2, 3, some 0, false⟩, ⟨[.int .i64 (n : Nat), .int .i64 (L.getD i 0 : Nat)], 2, 4, some 0, false⟩, ⟨[.int .i64 (n : Nat), .int .i64 (g : Nat)], 1, 5, some 0, true⟩, ⟨[.nils], 1, 6, some 0, true⟩, ⟨[.bool false], 1, 7, some 0, true⟩] (.bool false) [⟨[.sl 1 0 fs.length, .int .i64 (n : Nat), .sl 2 0 N], 1, 0, some 0, true⟩, ⟨fns fs, 2, 1, some 0, false⟩, ⟨zints D, 1, 2, some 0, false⟩, ⟨prs n L, 2, 3, some 0, false⟩, ⟨[.int .i64 (n : Nat), .int .i64 (L.getD i 0 : Nat)], 2, 4, some 0, false⟩, ⟨[.int .i64 (n : Nat), .int .i64 (g : Nat)], 1, 5, some 0, true⟩, ⟨[.sl 8 0 (t).length], 1, 6, some 0, true⟩, ⟨[.bool true], 1, 7, some 0, true⟩, ⟨prs n (t), 2, 8, some 0, false⟩])) (o : Out) (ho : fsO (⟨.exit 0, [], [⟨[.sl 1 0 fs.length, .int .i64 (n : Nat), .sl 2 0 N], 1, 0, some 0, true⟩, ⟨fns fs, 2, 1, some 0, false⟩, ⟨zints D, 1, 2, some 0, false⟩, ⟨prs n L, 2, 3, some 0, false⟩, ⟨[.int .i64 (n : Nat), .int .i64 (g : Nat)], 1, 4, some 0, true⟩, ⟨[.nils], 1, 5, some 0, true⟩, ⟨[.bool false], 1, 6, some 0, true⟩]⟩ : Out) (fun _ t => (⟨.ret, [(12, .bool false)], [⟨[.sl 1 0 fs.length, .int .i64 (n : Nat), .sl 2 0 N], 1, 0, some 0, true⟩, ⟨fns fs, 2, 1, some 0, false⟩, ⟨zints D, 1, 2, some 0, false⟩, ⟨prs n L, 2, 3, some 0, false⟩, ⟨[.int .i64 (n : Nat), .int .i64 (g : Nat)], 1, 4, some 0, true⟩, ⟨[.sl 7 0 (t).length], 1, 5, some 0, true⟩, ⟨[.bool true], 1, 6, some 0, true⟩, ⟨prs n (t), 2, 7, some 0, false⟩]⟩ : Out)) (fsome (fun i => (srch L (lsP (d : Int) D n b g) m ([] ++ [L.getD i 0])).map fun x => (i, x)) 0 L.length) = o) :
    LpS cx 60 7 m94_0 [(2, .sl 3 0 L.length), (3, .nils), (5, .fn 95 [.ptr 4 0, .ptr 5 0, .ptr 6 0]), (6, .ptr 7 0), (7, .ptr 8 0), (10, .ptr 9 0), (42, .sl 3 0 L.length), (43, .int .i64 (L.length : Nat)), (44, .int .i64 (0 : Nat))] [⟨[.sl 1 0 fs.length, .int .i64 (n : Nat), .sl 2 0 N], 1, 0, some 0, true⟩, ⟨fns fs, 2, 1, some 0, false⟩, ⟨zints D, 1, 2, some 0, false⟩, ⟨prs n L, 2, 3, some 0, false⟩, ⟨[.int .i64 (n : Nat), .int .i64 (g : Nat)], 1, 4, some 0, true⟩, ⟨[.nils], 1, 5, some 0, true⟩, ⟨[.bool false], 1, 6, some 0, true⟩, ⟨[.ptr 0 0], 1, 7, some 0, true⟩, ⟨[.int .i64 (a : Nat), .int .i64 (b : Nat)], 1, 8, some 0, true⟩, ⟨[.int .i64 (d : Nat)], 1, 9, some 0, true⟩] o.x o.e o.h := by
  refine lp_fs L.length (fun i => srch L (lsP (d : Int) D n b g) m ([] ++ [L.getD i 0])) (fun i => [(2, .sl 3 0 L.length), (3, .nils), (5, .fn 95 [.ptr 4 0, .ptr 5 0, .ptr 6 0]), (6, .ptr 7 0), (7, .ptr 8 0), (10, .ptr 9 0), (42, .sl 3 0 L.length), (43, .int .i64 (L.length : Nat)), (44, .int .i64 (i : Nat))]) (fun i => [⟨[.sl 1 0 fs.length, .int .i64 (n : Nat), .sl 2 0 N], 1, 0, some 0, true⟩, ⟨fns fs, 2, 1, some 0, false⟩, ⟨zints D, 1, 2, some 0, false⟩, ⟨prs n L, 2, 3, some 0, false⟩, ⟨[.int .i64 (n : Nat), .int .i64 (g : Nat)], 1, 4, some 0, true⟩, ⟨[.nils], 1, 5, some 0, true⟩, ⟨[.bool false], 1, 6, some 0, true⟩, ⟨[.ptr 0 0], 1, 7, some 0, true⟩, ⟨[.int .i64 (a : Nat), .int .i64 (b : Nat)], 1, 8, some 0, true⟩, ⟨[.int .i64 (d : Nat)], 1, 9, some 0, true⟩]) ((⟨.exit 0, [], [⟨[.sl 1 0 fs.length, .int .i64 (n : Nat), .sl 2 0 N], 1, 0, some 0, true⟩, ⟨fns fs, 2, 1, some 0, false⟩, ⟨zints D, 1, 2, some 0, false⟩, ⟨prs n L, 2, 3, some 0, false⟩, ⟨[.int .i64 (n : Nat), .int .i64 (g : Nat)], 1, 4, some 0, true⟩, ⟨[.nils], 1, 5, some 0, true⟩, ⟨[.bool false], 1, 6, some 0, true⟩]⟩ : Out)) (fun _ t => (⟨.ret, [(12, .bool false)], [⟨[.sl 1 0 fs.length, .int .i64 (n : Nat), .sl 2 0 N], 1, 0, some 0, true⟩, ⟨fns fs, 2, 1, some 0, false⟩, ⟨zints D, 1, 2, some 0, false⟩, ⟨prs n L, 2, 3, some 0, false⟩, ⟨[.int .i64 (n : Nat), .int .i64 (g : Nat)], 1, 4, some 0, true⟩, ⟨[.sl 7 0 (t).length], 1, 5, some 0, true⟩, ⟨[.bool true], 1, 6, some 0, true⟩, ⟨prs n (t), 2, 7, some 0, false⟩]⟩ : Out)) ?_ ?_ ?_ (L.length) 0 o (by omega) ho
  · intro i hi hf
    have hlt : decide ((i : Int) < (L.length : Nat)) = true := decide_eq_true (by omega)
    have e1 := (ih i hi).1 hf
    unfold m94_0
    repeat' (first
      | (refine g_op ?_; first
        | refine ep_mov rfl ?_ | refine ep_load1 rfl rfl rfl rfl ?_ | refine sp_loadN rfl rfl rfl rfl rfl ?_
        | refine ep_callw0 rfl (by first | exact e1) rfl rfl ?_
        | refine sp_callw rfl rfl rfl rfl (by first | exact e1) ⟨rfl, rfl, rfl, rfl⟩ rfl rfl rfl (by first | exact WrP_refl _ _ | (repeat' (first | exact rfl | exact True.intro | refine And.intro ?_ ?_))) ?_
        | refine ep_bin rfl rfl (by first | exact b_add (by omega) (by omega) | exact b_lss) ?_ | refine sp_store rfl rfl rfl rfl rfl rfl rfl rfl rfl rfl ?_ | refine ep_not rfl ?_ | refine sp_alloc rfl rfl ?_
        | refine sp_bslice rfl rfl rfl rfl rfl ?_ | refine sp_push0 rfl (by first | exact .inl rfl | exact .inr rfl) rfl rfl rfl rfl rfl (by decide) rfl rfl rfl ?_ | refine sp_push rfl rfl rfl rfl rfl rfl rfl (by first | exact ints_len _ | exact prs_len _ _ | exact zints_len _) (by omega) (Nat.zero_le _) rfl rfl rfl rfl rfl ?_
        | refine sp_idx rfl rfl rfl (by omega) rfl ?_ | refine ep_loadS rfl rfl rfl (by first | exact ints_get (by omega) | exact zints_get (by omega) | exact fget (by omega) | assumption) ?_ | refine ep_loadSN rfl rfl rfl (by first | exact prs_get (by omega) | exact fns_get (by omega)) ?_)
      | (refine g_ops ?_; first | refine eo_none ?_ | refine eo_nil ?_)
      | (refine g_lops ?_; first | refine el_none rfl ?_ | refine el_nil ?_)
      | refine el_same rfl ?_ | refine el_one rfl rfl rfl rfl rfl ?_ | refine el_write rfl rfl rfl ?_
      | (refine g_code ?_; first | refine ec_seq ?_ | refine ec_region ?_ | refine ec_drawL (X := [7, 8, 9]) rfl ?_ | refine ec_block ?_ | refine ec_skip ?_ | refine ec_exit ?_ | refine ec_ret ?_ | refine ec_condT rfl ?_ | refine ec_condF rfl ?_ | refine ec_condTH rfl (by assumption) ?_ | refine ec_condFH rfl (by assumption) ?_)
      | refine ek_seqN ?_ | refine ek_seqX ?_ | refine ek_seqR ?_ | refine ek_blkN ?_ | refine ek_blkR ?_ | refine ek_blkX ?_ | refine ek_blkY rfl ?_)
    exact rnd_on (by rfl) (scmp2 (by rfl) (by rfl) (by exact ⟨rfl, rfl, rfl⟩) (by rfl) (by first | rfl | (simp; done) | (simp [ints, prs]; done)) (by rfl) (by first | rfl | (simp; done) | (simp [ints, prs]; done)))
  · intro i t hi hf
    have hlt : decide ((i : Int) < (L.length : Nat)) = true := decide_eq_true (by omega)
    have e1 := (ih i hi).2 t hf
    unfold m94_0
    repeat' (first
      | (refine g_op ?_; first
        | refine ep_mov rfl ?_ | refine ep_load1 rfl rfl rfl rfl ?_ | refine sp_loadN rfl rfl rfl rfl rfl ?_
        | refine ep_callw0 rfl (by first | exact e1) rfl rfl ?_
        | refine sp_callw rfl rfl rfl rfl (by first | exact e1) ⟨rfl, rfl, rfl, rfl⟩ rfl rfl rfl (by first | exact WrP_refl _ _ | (repeat' (first | exact rfl | exact True.intro | refine And.intro ?_ ?_))) ?_
        | refine ep_bin rfl rfl (by first | exact b_add (by omega) (by omega) | exact b_lss) ?_ | refine sp_store rfl rfl rfl rfl rfl rfl rfl rfl rfl rfl ?_ | refine ep_not rfl ?_ | refine sp_alloc rfl rfl ?_
        | refine sp_bslice rfl rfl rfl rfl rfl ?_ | refine sp_push0 rfl (by first | exact .inl rfl | exact .inr rfl) rfl rfl rfl rfl rfl (by decide) rfl rfl rfl ?_ | refine sp_push rfl rfl rfl rfl rfl rfl rfl (by first | exact ints_len _ | exact prs_len _ _ | exact zints_len _) (by omega) (Nat.zero_le _) rfl rfl rfl rfl rfl ?_
        | refine sp_idx rfl rfl rfl (by omega) rfl ?_ | refine ep_loadS rfl rfl rfl (by first | exact ints_get (by omega) | exact zints_get (by omega) | exact fget (by omega) | assumption) ?_ | refine ep_loadSN rfl rfl rfl (by first | exact prs_get (by omega) | exact fns_get (by omega)) ?_)
      | (refine g_ops ?_; first | refine eo_none ?_ | refine eo_nil ?_)
      | (refine g_lops ?_; first | refine el_none rfl ?_ | refine el_nil ?_)
      | refine el_same rfl ?_ | refine el_one rfl rfl rfl rfl rfl ?_ | refine el_write rfl rfl rfl ?_
      | (refine g_code ?_; first | refine ec_seq ?_ | refine ec_region ?_ | refine ec_drawL (X := [7, 8, 9]) rfl ?_ | refine ec_block ?_ | refine ec_skip ?_ | refine ec_exit ?_ | refine ec_ret ?_ | refine ec_condT rfl ?_ | refine ec_condF rfl ?_ | refine ec_condTH rfl (by assumption) ?_ | refine ec_condFH rfl (by assumption) ?_)
      | refine ek_seqN ?_ | refine ek_seqX ?_ | refine ek_seqR ?_ | refine ek_blkN ?_ | refine ek_blkR ?_ | refine ek_blkX ?_ | refine ek_blkY rfl ?_)
    exact rnd_out (by rfl) (by simp) (scmp2 (by rfl) (by rfl) (by exact ⟨rfl, rfl, rfl⟩) (by rfl) (by first | rfl | (simp; done) | (simp [ints, prs]; done)) (by rfl) (by first | rfl | (simp; done) | (simp [ints, prs]; done)))
  · have hlt : decide (((L.length : Nat) : Int) < (L.length : Nat)) = false := decide_eq_false (by omega)
    unfold m94_0
    repeat' (first
      | (refine g_op ?_; first
        | refine ep_mov rfl ?_ | refine ep_load1 rfl rfl rfl rfl ?_ | refine sp_loadN rfl rfl rfl rfl rfl ?_
        | refine ep_bin rfl rfl (by first | exact b_add (by omega) (by omega) | exact b_lss) ?_ | refine sp_store rfl rfl rfl rfl rfl rfl rfl rfl rfl rfl ?_ | refine ep_not rfl ?_ | refine sp_alloc rfl rfl ?_
        | refine sp_bslice rfl rfl rfl rfl rfl ?_ | refine sp_push0 rfl (by first | exact .inl rfl | exact .inr rfl) rfl rfl rfl rfl rfl (by decide) rfl rfl rfl ?_ | refine sp_push rfl rfl rfl rfl rfl rfl rfl (by first | exact ints_len _ | exact prs_len _ _ | exact zints_len _) (by omega) (Nat.zero_le _) rfl rfl rfl rfl rfl ?_
        | refine sp_idx rfl rfl rfl (by omega) rfl ?_ | refine ep_loadS rfl rfl rfl (by first | exact ints_get (by omega) | exact zints_get (by omega) | exact fget (by omega) | assumption) ?_ | refine ep_loadSN rfl rfl rfl (by first | exact prs_get (by omega) | exact fns_get (by omega)) ?_)
      | (refine g_ops ?_; first | refine eo_none ?_ | refine eo_nil ?_)
      | (refine g_lops ?_; first | refine el_none rfl ?_ | refine el_nil ?_)
      | refine el_same rfl ?_ | refine el_one rfl rfl rfl rfl rfl ?_ | refine el_write rfl rfl rfl ?_
      | (refine g_code ?_; first | refine ec_seq ?_ | refine ec_region ?_ | refine ec_drawL (X := []) rfl ?_ | refine ec_block ?_ | refine ec_skip ?_ | refine ec_exit ?_ | refine ec_ret ?_ | refine ec_condT rfl ?_ | refine ec_condF rfl ?_ | refine ec_condTH rfl (by assumption) ?_ | refine ec_condFH rfl (by assumption) ?_)
      | refine ek_seqN ?_ | refine ek_seqX ?_ | refine ek_seqR ?_ | refine ek_blkN ?_ | refine ek_blkR ?_ | refine ek_blkX ?_ | refine ek_blkY rfl ?_)
    exact rnd_out (by rfl) (by simp) (scmp2 (by rfl) (by rfl) (by exact ⟨rfl, rfl, rfl⟩) (by rfl) (by first | rfl | (simp; done) | (simp [ints, prs]; done)) (by rfl) (by first | rfl | (simp; done) | (simp [ints, prs]; done)))
theorem lplt_c (n N d b g a m q0 : Nat) (fs : List (Int × Int)) (D : List Int) (L l : List Nat) (hll : L.length ≤ 65536) (hl4 : l.length < 5) (hq0 : q0 ≤ l.length * 2) (ih : ∀ i q, i < L.length → q ≤ (l.length + 1) * 2 → ((srch L (lsP (d : Int) D n b g) m (l ++ [L.getD i 0]) = none → Ev cx 94 [.ptr 0 0, .agg [.int .i64 (a : Nat), .int .i64 (b : Nat)], .sl 3 0 L.length, .sl 4 0 (l.length + 1), .int .i64 (d : Nat), .fn 95 [.ptr 5 0, .ptr 6 0, .ptr 7 0]] [⟨[.sl 1 0 fs.length, .int .i64 (n : Nat), .sl 2 0 N], 1, 0, some 0, true⟩, ⟨fns fs, 2, 1, some 0, false⟩, ⟨zints D, 1, 2, some 0, false⟩, ⟨prs n L, 2, 3, some 0, false⟩, ⟨prs n (l ++ [L.getD i 0]), 2, 4, some q, false⟩, ⟨[.int .i64 (n : Nat), .int .i64 (g : Nat)], 1, 5, some 0, true⟩, ⟨[.nils], 1, 6, some 0, true⟩, ⟨[.bool false], 1, 7, some 0, true⟩] (.bool true) [⟨[.sl 1 0 fs.length, .int .i64 (n : Nat), .sl 2 0 N], 1, 0, some 0, true⟩, ⟨fns fs, 2, 1, some 0, false⟩, ⟨zints D, 1, 2, some 0, false⟩, ⟨prs n L, 2, 3, some 0, false⟩, ⟨prs n (l ++ [L.getD i 0]), 2, 4, some q, false⟩, ⟨[.int .i64 (n : Nat), .int .i64 (g : Nat)], 1, 5, some 0, true⟩, ⟨[.nils], 1, 6, some 0, true⟩, ⟨[.bool false], 1, 7, some 0, true⟩]) ∧ ∀ t, srch L (lsP (d : Int) D n b g) m (l ++ [L.getD i 0]) = some t → Ev cx 94 [.ptr 0 0, .agg [.int .i64 (a : Nat), .int .i64 (b : Nat)], .sl 3 0 L.length, .sl 4 0 (l.length + 1), .int .i64 (d : Nat), .fn 95 [.ptr 5 0, .ptr 6 0, .ptr 7 0]] [⟨[.sl 1 0 fs.length, .int .i64 (n : Nat), .sl 2 0 N], 1, 0, some 0, true⟩, ⟨fns fs, 2, 1, some 0, false⟩, ⟨zints D, 1, 2, some 0, false⟩, ⟨prs n L, 2, 3, some 0, false⟩, ⟨prs n (l ++ [L.getD i 0]), 2, 4, some q, false⟩, ⟨[.int .i64 (n : Nat), .int .i64 (g : Nat)], 1, 5, some 0, true⟩, ⟨[.nils], 1, 6, some 0, true⟩, ⟨[.bool false], 1, 7, some 0, true⟩] (.bool false) [⟨[.sl 1 0 fs.length, .int .i64 (n : Nat), .sl 2 0 N], 1, 0, some 0, true⟩, ⟨fns fs, 2, 1, some 0, false⟩, ⟨zints D, 1, 2, some 0, false⟩, ⟨prs n L, 2, 3, some 0, false⟩, ⟨prs n (l ++ [L.getD i 0]), 2, 4, some q, false⟩, ⟨[.int .i64 (n : Nat), .int .i64 (g : Nat)], 1, 5, some 0, true⟩, ⟨[.sl 8 0 (t).length], 1, 6, some 0, true⟩, ⟨[.bool true], 1, 7, some 0, true⟩, ⟨prs n (t), 2, 8, some 0, false⟩])) (o : Out) (ho : fsO (⟨.exit 0, [], [⟨[.sl 1 0 fs.length, .int .i64 (n : Nat), .sl 2 0 N], 1, 0, some 0, true⟩, ⟨fns fs, 2, 1, some 0, false⟩, ⟨zints D, 1, 2, some 0, false⟩, ⟨prs n L, 2, 3, some 0, false⟩, ⟨prs n (l), 2, 4, some q0, false⟩, ⟨[.int .i64 (n : Nat), .int .i64 (g : Nat)], 1, 5, some 0, true⟩, ⟨[.nils], 1, 6, some 0, true⟩, ⟨[.bool false], 1, 7, some 0, true⟩]⟩ : Out) (fun _ t => (⟨.ret, [(12, .bool false)], [⟨[.sl 1 0 fs.length, .int .i64 (n : Nat), .sl 2 0 N], 1, 0, some 0, true⟩, ⟨fns fs, 2, 1, some 0, false⟩, ⟨zints D, 1, 2, some 0, false⟩, ⟨prs n L, 2, 3, some 0, false⟩, ⟨prs n (l), 2, 4, some q0, false⟩, ⟨[.int .i64 (n : Nat), .int .i64 (g : Nat)], 1, 5, some 0, true⟩, ⟨[.sl 8 0 (t).length], 1, 6, some 0, true⟩, ⟨[.bool true], 1, 7, some 0, true⟩, ⟨prs n (t), 2, 8, some 0, false⟩]⟩ : Out)) (fsome (fun i => (srch L (lsP (d : Int) D n b g) m (l ++ [L.getD i 0])).map fun x => (i, x)) 0 L.length) = o) :
    LpS cx 60 8 m94_0 [(2, .sl 3 0 L.length), (3, .sl 4 0 l.length), (5, .fn 95 [.ptr 5 0, .ptr 6 0, .ptr 7 0]), (6, .ptr 8 0), (7, .ptr 9 0), (10, .ptr 10 0), (42, .sl 3 0 L.length), (43, .int .i64 (L.length : Nat)), (44, .int .i64 (0 : Nat))] [⟨[.sl 1 0 fs.length, .int .i64 (n : Nat), .sl 2 0 N], 1, 0, some 0, true⟩, ⟨fns fs, 2, 1, some 0, false⟩, ⟨zints D, 1, 2, some 0, false⟩, ⟨prs n L, 2, 3, some 0, false⟩, ⟨prs n (l), 2, 4, some q0, false⟩, ⟨[.int .i64 (n : Nat), .int .i64 (g : Nat)], 1, 5, some 0, true⟩, ⟨[.nils], 1, 6, some 0, true⟩, ⟨[.bool false], 1, 7, some 0, true⟩, ⟨[.ptr 0 0], 1, 8, some 0, true⟩, ⟨[.int .i64 (a : Nat), .int .i64 (b : Nat)], 1, 9, some 0, true⟩, ⟨[.int .i64 (d : Nat)], 1, 10, some 0, true⟩] o.x o.e o.h := by
  refine lp_fs L.length (fun i => srch L (lsP (d : Int) D n b g) m (l ++ [L.getD i 0])) (fun i => [(2, .sl 3 0 L.length), (3, .sl 4 0 l.length), (5, .fn 95 [.ptr 5 0, .ptr 6 0, .ptr 7 0]), (6, .ptr 8 0), (7, .ptr 9 0), (10, .ptr 10 0), (42, .sl 3 0 L.length), (43, .int .i64 (L.length : Nat)), (44, .int .i64 (i : Nat))]) (fun i => [⟨[.sl 1 0 fs.length, .int .i64 (n : Nat), .sl 2 0 N], 1, 0, some 0, true⟩, ⟨fns fs, 2, 1, some 0, false⟩, ⟨zints D, 1, 2, some 0, false⟩, ⟨prs n L, 2, 3, some 0, false⟩, ⟨prs n (l), 2, 4, some q0, false⟩, ⟨[.int .i64 (n : Nat), .int .i64 (g : Nat)], 1, 5, some 0, true⟩, ⟨[.nils], 1, 6, some 0, true⟩, ⟨[.bool false], 1, 7, some 0, true⟩, ⟨[.ptr 0 0], 1, 8, some 0, true⟩, ⟨[.int .i64 (a : Nat), .int .i64 (b : Nat)], 1, 9, some 0, true⟩, ⟨[.int .i64 (d : Nat)], 1, 10, some 0, true⟩]) ((⟨.exit 0, [], [⟨[.sl 1 0 fs.length, .int .i64 (n : Nat), .sl 2 0 N], 1, 0, some 0, true⟩, ⟨fns fs, 2, 1, some 0, false⟩, ⟨zints D, 1, 2, some 0, false⟩, ⟨prs n L, 2, 3, some 0, false⟩, ⟨prs n (l), 2, 4, some q0, false⟩, ⟨[.int .i64 (n : Nat), .int .i64 (g : Nat)], 1, 5, some 0, true⟩, ⟨[.nils], 1, 6, some 0, true⟩, ⟨[.bool false], 1, 7, some 0, true⟩]⟩ : Out)) (fun _ t => (⟨.ret, [(12, .bool false)], [⟨[.sl 1 0 fs.length, .int .i64 (n : Nat), .sl 2 0 N], 1, 0, some 0, true⟩, ⟨fns fs, 2, 1, some 0, false⟩, ⟨zints D, 1, 2, some 0, false⟩, ⟨prs n L, 2, 3, some 0, false⟩, ⟨prs n (l), 2, 4, some q0, false⟩, ⟨[.int .i64 (n : Nat), .int .i64 (g : Nat)], 1, 5, some 0, true⟩, ⟨[.sl 8 0 (t).length], 1, 6, some 0, true⟩, ⟨[.bool true], 1, 7, some 0, true⟩, ⟨prs n (t), 2, 8, some 0, false⟩]⟩ : Out)) ?_ ?_ ?_ (L.length) 0 o (by omega) ho
  · intro i hi hf
    have hlt : decide ((i : Int) < (L.length : Nat)) = true := decide_eq_true (by omega)
    have e1 := (ih i (max q0 (max (prs n l).length 0)) hi (by rw [prs_len]; omega)).1 hf
    rw [← prs_snoc] at e1
    unfold m94_0
    repeat' (first
      | refine sp_push rfl rfl rfl rfl rfl rfl rfl (prs_len _ _) (by omega) hq0 rfl rfl rfl rfl rfl ?_
      | (refine g_op ?_; first
        | refine ep_mov rfl ?_ | refine ep_load1 rfl rfl rfl rfl ?_ | refine sp_loadN rfl rfl rfl rfl rfl ?_
        | refine ep_callw0 rfl (by first | exact e1) rfl rfl ?_
        | refine sp_callw rfl rfl rfl rfl (by first | exact e1) ⟨rfl, rfl, rfl, rfl⟩ rfl rfl rfl (by first | exact WrP_refl _ _ | (repeat' (first | exact rfl | exact True.intro | refine And.intro ?_ ?_))) ?_
        | refine ep_bin rfl rfl (by first | exact b_add (by omega) (by omega) | exact b_lss) ?_ | refine sp_store rfl rfl rfl rfl rfl rfl rfl rfl rfl rfl ?_ | refine ep_not rfl ?_ | refine sp_alloc rfl rfl ?_
        | refine sp_bslice rfl rfl rfl rfl rfl ?_ | refine sp_push0 rfl (by first | exact .inl rfl | exact .inr rfl) rfl rfl rfl rfl rfl (by decide) rfl rfl rfl ?_ | refine sp_push rfl rfl rfl rfl rfl rfl rfl (by first | exact ints_len _ | exact prs_len _ _ | exact zints_len _) (by omega) (Nat.zero_le _) rfl rfl rfl rfl rfl ?_
        | refine sp_idx rfl rfl rfl (by omega) rfl ?_ | refine ep_loadS rfl rfl rfl (by first | exact ints_get (by omega) | exact zints_get (by omega) | exact fget (by omega) | assumption) ?_ | refine ep_loadSN rfl rfl rfl (by first | exact prs_get (by omega) | exact fns_get (by omega)) ?_)
      | (refine g_ops ?_; first | refine eo_none ?_ | refine eo_nil ?_)
      | (refine g_lops ?_; first | refine el_none rfl ?_ | refine el_nil ?_)
      | refine el_same rfl ?_ | refine el_one rfl rfl rfl rfl rfl ?_ | refine el_write rfl rfl rfl ?_
      | (refine g_code ?_; first | refine ec_seq ?_ | refine ec_region ?_ | refine ec_drawL (X := [8, 9, 10]) rfl ?_ | refine ec_block ?_ | refine ec_skip ?_ | refine ec_exit ?_ | refine ec_ret ?_ | refine ec_condT rfl ?_ | refine ec_condF rfl ?_ | refine ec_condTH rfl (by assumption) ?_ | refine ec_condFH rfl (by assumption) ?_)
      | refine ek_seqN ?_ | refine ek_seqX ?_ | refine ek_seqR ?_ | refine ek_blkN ?_ | refine ek_blkR ?_ | refine ek_blkX ?_ | refine ek_blkY rfl ?_)
    exact rnd_on (by rfl) (scmp2 (by rfl) (by rfl) (by exact ⟨rfl, rfl, rfl⟩) (by rfl) (by first | rfl | (simp; done) | (simp [ints, prs]; done)) (by rfl) (by first | rfl | (simp; done) | (simp [ints, prs]; done)))
  · intro i t hi hf
    have hlt : decide ((i : Int) < (L.length : Nat)) = true := decide_eq_true (by omega)
    have e1 := (ih i (max q0 (max (prs n l).length 0)) hi (by rw [prs_len]; omega)).2 t hf
    rw [← prs_snoc] at e1
    unfold m94_0
    repeat' (first
      | refine sp_push rfl rfl rfl rfl rfl rfl rfl (prs_len _ _) (by omega) hq0 rfl rfl rfl rfl rfl ?_
      | (refine g_op ?_; first
        | refine ep_mov rfl ?_ | refine ep_load1 rfl rfl rfl rfl ?_ | refine sp_loadN rfl rfl rfl rfl rfl ?_
        | refine ep_callw0 rfl (by first | exact e1) rfl rfl ?_
        | refine sp_callw rfl rfl rfl rfl (by first | exact e1) ⟨rfl, rfl, rfl, rfl⟩ rfl rfl rfl (by first | exact WrP_refl _ _ | (repeat' (first | exact rfl | exact True.intro | refine And.intro ?_ ?_))) ?_
        | refine ep_bin rfl rfl (by first | exact b_add (by omega) (by omega) | exact b_lss) ?_ | refine sp_store rfl rfl rfl rfl rfl rfl rfl rfl rfl rfl ?_ | refine ep_not rfl ?_ | refine sp_alloc rfl rfl ?_
        | refine sp_bslice rfl rfl rfl rfl rfl ?_ | refine sp_push0 rfl (by first | exact .inl rfl | exact .inr rfl) rfl rfl rfl rfl rfl (by decide) rfl rfl rfl ?_ | refine sp_push rfl rfl rfl rfl rfl rfl rfl (by first | exact ints_len _ | exact prs_len _ _ | exact zints_len _) (by omega) (Nat.zero_le _) rfl rfl rfl rfl rfl ?_
        | refine sp_idx rfl rfl rfl (by omega) rfl ?_ | refine ep_loadS rfl rfl rfl (by first | exact ints_get (by omega) | exact zints_get (by omega) | exact fget (by omega) | assumption) ?_ | refine ep_loadSN rfl rfl rfl (by first | exact prs_get (by omega) | exact fns_get (by omega)) ?_)
      | (refine g_ops ?_; first | refine eo_none ?_ | refine eo_nil ?_)
      | (refine g_lops ?_; first | refine el_none rfl ?_ | refine el_nil ?_)
      | refine el_same rfl ?_ | refine el_one rfl rfl rfl rfl rfl ?_ | refine el_write rfl rfl rfl ?_
      | (refine g_code ?_; first | refine ec_seq ?_ | refine ec_region ?_ | refine ec_drawL (X := [8, 9, 10]) rfl ?_ | refine ec_block ?_ | refine ec_skip ?_ | refine ec_exit ?_ | refine ec_ret ?_ | refine ec_condT rfl ?_ | refine ec_condF rfl ?_ | refine ec_condTH rfl (by assumption) ?_ | refine ec_condFH rfl (by assumption) ?_)
      | refine ek_seqN ?_ | refine ek_seqX ?_ | refine ek_seqR ?_ | refine ek_blkN ?_ | refine ek_blkR ?_ | refine ek_blkX ?_ | refine ek_blkY rfl ?_)
    exact rnd_out (by rfl) (by simp) (scmp2 (by rfl) (by rfl) (by exact ⟨rfl, rfl, rfl⟩) (by rfl) (by first | rfl | (simp; done) | (simp [ints, prs]; done)) (by rfl) (by first | rfl | (simp; done) | (simp [ints, prs]; done)))
  · have hlt : decide (((L.length : Nat) : Int) < (L.length : Nat)) = false := decide_eq_false (by omega)
    unfold m94_0
    repeat' (first
      | (refine g_op ?_; first
        | refine ep_mov rfl ?_ | refine ep_load1 rfl rfl rfl rfl ?_ | refine sp_loadN rfl rfl rfl rfl rfl ?_
        | refine ep_bin rfl rfl (by first | exact b_add (by omega) (by omega) | exact b_lss) ?_ | refine sp_store rfl rfl rfl rfl rfl rfl rfl rfl rfl rfl ?_ | refine ep_not rfl ?_ | refine sp_alloc rfl rfl ?_
        | refine sp_bslice rfl rfl rfl rfl rfl ?_ | refine sp_push0 rfl (by first | exact .inl rfl | exact .inr rfl) rfl rfl rfl rfl rfl (by decide) rfl rfl rfl ?_ | refine sp_push rfl rfl rfl rfl rfl rfl rfl (by first | exact ints_len _ | exact prs_len _ _ | exact zints_len _) (by omega) (Nat.zero_le _) rfl rfl rfl rfl rfl ?_
        | refine sp_idx rfl rfl rfl (by omega) rfl ?_ | refine ep_loadS rfl rfl rfl (by first | exact ints_get (by omega) | exact zints_get (by omega) | exact fget (by omega) | assumption) ?_ | refine ep_loadSN rfl rfl rfl (by first | exact prs_get (by omega) | exact fns_get (by omega)) ?_)
      | (refine g_ops ?_; first | refine eo_none ?_ | refine eo_nil ?_)
      | (refine g_lops ?_; first | refine el_none rfl ?_ | refine el_nil ?_)
      | refine el_same rfl ?_ | refine el_one rfl rfl rfl rfl rfl ?_ | refine el_write rfl rfl rfl ?_
      | (refine g_code ?_; first | refine ec_seq ?_ | refine ec_region ?_ | refine ec_drawL (X := []) rfl ?_ | refine ec_block ?_ | refine ec_skip ?_ | refine ec_exit ?_ | refine ec_ret ?_ | refine ec_condT rfl ?_ | refine ec_condF rfl ?_ | refine ec_condTH rfl (by assumption) ?_ | refine ec_condFH rfl (by assumption) ?_)
      | refine ek_seqN ?_ | refine ek_seqX ?_ | refine ek_seqR ?_ | refine ek_blkN ?_ | refine ek_blkR ?_ | refine ek_blkX ?_ | refine ek_blkY rfl ?_)
    exact rnd_out (by rfl) (by simp) (scmp2 (by rfl) (by rfl) (by exact ⟨rfl, rfl, rfl⟩) (by rfl) (by first | rfl | (simp; done) | (simp [ints, prs]; done)) (by rfl) (by first | rfl | (simp; done) | (simp [ints, prs]; done)))

def clE (fs : List (Int × Int)) (n : Nat) (e : Int) (D : List Int) : Prop := ∀ k, k < fs.length → ∀ t : List Nat, t.length = (fs.getD k (0, 0)).1.toNat → (∀ j, j < t.length → t.getD j 0 < R2 (R2 n) ∧ 0 ≤ D.getD (t.getD j 0) 0 ∧ D.getD (t.getD j 0) 0 ≤ e) → 0 ≤ D.getD (valS (fs.getD k (0, 0)).2.toNat (R2 n) t) 0 ∧ D.getD (valS (fs.getD k (0, 0)).2.toNat (R2 n) t) 0 ≤ e + 1
theorem rnd_old {fs : List (Int × Int)} {n : Nat} {d : Int} {L : List Nat} {D : List Int} (c : Nat) : 0 ≤ (rndG leafS fs n d L D).1.getD c 0 → (rndG leafS fs n d L D).1.getD c 0 ≤ d - 1 → 0 ≤ D.getD c 0 := by
  refine foldN_inv (I := fun s : GS => 0 ≤ s.1.getD c 0 → s.1.getD c 0 ≤ d - 1 → 0 ≤ D.getD c 0) _ _ (fun k s _ hs => walkT_inv (I := fun s : GS => 0 ≤ s.1.getD c 0 → s.1.getD c 0 ≤ d - 1 → 0 ≤ D.getD c 0) (fun now s hs => ?_) _ _ s hs) (fun h _ => h)
  unfold leafS upS
  split
  · simp only; rw [getD_set]; split
    · intro _ h; omega
    · exact hs
  · exact hs
theorem rnd_same {fs : List (Int × Int)} {n : Nat} {d : Int} {L : List Nat} {D : List Int} : (rndG leafS fs n d L D).2 = false → (rndG leafS fs n d L D).1 = D := by
  refine foldN_inv (I := fun s : GS => s.2 = false → s.1 = D) _ _ (fun k s _ hs => walkT_inv (I := fun s : GS => s.2 = false → s.1 = D) (fun now s hs => ?_) _ _ s hs) (fun _ => rfl)
  unfold leafS upS
  split
  · simp
  · exact hs
theorem gen_cl {fs : List (Int × Int)} {n : Nat} : ∀ (k d : Nat) (D : List Int), 1 ≤ d → ngs D < k → D.length = R2 (R2 n) → bndD (d - 1) D → gClo fs n d D → (∀ e : Int, 0 ≤ e → e ≤ d - 2 → clE fs n e D) → ∀ e : Int, 0 ≤ e → clE fs n e (genS fs n k d D)
  | 0, d, D, _, hk, _, _, _, _ => by omega
  | k + 1, d, D, hd, hk, hl, hb, hc, hcl => by
    obtain ⟨_, _, e3⟩ := rnd_eq (d := d) (by omega) hl hb hc
    have hi := rnd_inv (fs := fs) (n := n) (d := d) (L := kwS (R2 (R2 n)) D) (D := D) (by omega)
    have hb2 : bndD d D := fun b => ⟨(hb b).1, by have := (hb b).2; omega⟩
    have hb3 := rnd_bnd (fs := fs) (n := n) (d := d) (L := kwS (R2 (R2 n)) D) (by omega) hb2
    have hold := fun c => rnd_old (fs := fs) (n := n) (d := d) (L := kwS (R2 (R2 n)) D) (D := D) c
    have hsame := rnd_same (fs := fs) (n := n) (d := d) (L := kwS (R2 (R2 n)) D) (D := D)
    have e4 : ∀ e : Int, 0 ≤ e → e ≤ (d : Int) - 1 → clE fs n e (rndG leafS fs n d (kwS (R2 (R2 n)) D) D).1 := by
      intro e he0 he q hq t ht hm
      rcases e3 with h1 | e3
      · omega
      by_cases hed : e = (d : Int) - 1
      · have h2 := e3 q hq t ht fun j hj => ⟨(hm j hj).1, (hm j hj).2.1, by have := (hm j hj).2.2; omega⟩
        have h3 := (hb3 (valS (fs.getD q (0, 0)).2.toNat (R2 n) t)).2
        exact ⟨h2, by omega⟩
      · have h2 := hcl e he0 (by omega) q hq t ht fun j hj => by
          have h5 := hm j hj
          have h6 := hold _ h5.2.1 (by omega)
          have h7 := hi.1.2 _ h6
          exact ⟨h5.1, h6, by omega⟩
        have h3 := hi.1.2 _ h2.1
        rw [h3]; exact h2
    rw [genS]
    split
    · rename_i hf
      refine gen_cl k (d + 1) _ (by omega) (by have := hi.2.2 hf; omega) (by rw [hi.1.1, hl]) (by rw [show ((d + 1 : Nat) : Int) - 1 = d by omega]; exact hb3) e3 fun e he0 he => e4 e he0 (by omega)
    · rename_i hf
      have hs := hsame (by simpa using hf)
      intro e he0
      by_cases he : e ≤ (d : Int) - 1
      · exact e4 e he0 he
      · intro q hq t ht hm
        rw [hs] at hm ⊢
        have h2 := e4 ((d : Int) - 1) (by omega) (by omega) q hq t ht
        rw [hs] at h2
        have h3 := h2 fun j hj => ⟨(hm j hj).1, (hm j hj).2.1, (hb _).2⟩
        exact ⟨h3.1, by omega⟩
theorem dep_cl (fs : List (Int × Int)) (n : Nat) (e : Int) (he : 0 ≤ e) : clE fs n e (depL fs n) :=
  gen_cl _ 1 _ (by omega) (by have := ngs_le (D0 n n); rw [D0_len] at this; omega) (D0_len n n) (by simpa using D0_bnd n n) (.inl rfl) (fun e h1 h2 => by omega) e he
theorem lsP_eq {fs : List (Int × Int)} {n d g k : Nat} (hd : (depL fs n).getD g 0 = (d : Int)) (hd1 : 1 ≤ d) (hk : k < fs.length) (t : List Nat) (ht : t.length = (fs.getD k (0, 0)).1.toNat)
    (hin : inL (kwI (R2 (R2 n)) d (depL fs n)) t) : lsP (d : Int) (depL fs n) n (fs.getD k (0, 0)).2.toNat g t = (valS (fs.getD k (0, 0)).2.toNat (R2 n) t == g) := by
  unfold lsP
  cases hv : valS (fs.getD k (0, 0)).2.toNat (R2 n) t == g
  · rw [Bool.and_false]
  · rw [Bool.and_true]
    have hv' := eq_of_beq hv
    cases hw : isNw (d : Int) (depL fs n) t
    · exfalso
      unfold isNw at hw
      rw [Bool.or_eq_false_iff] at hw
      have h1 : ¬ ((d : Int) = 1) := by simpa using hw.1
      have h6 : allF (fun j => !((depL fs n).getD (t.getD j 0) 0 == (d : Int) - 1)) 0 t.length = true := by simpa using hw.2
      have h2 := dep_cl fs n ((d : Int) - 2) (by omega) k hk t ht fun j hj => by
        obtain ⟨k', e1, e2⟩ := hin j hj
        have h3 : (kwI (R2 (R2 n)) (d : Int) (depL fs n)).getD k' 0 < R2 (R2 n) ∧ decide (0 ≤ (depL fs n).getD ((kwI (R2 (R2 n)) (d : Int) (depL fs n)).getD k' 0) 0 ∧ (depL fs n).getD ((kwI (R2 (R2 n)) (d : Int) (depL fs n)).getD k' 0) 0 ≤ (d : Int) - 1) = true := selm_lt0 e1
        have h7 := (allF_iff _ _).mp h6 j (by omega) (by omega)
        have h8 : (depL fs n).getD (t.getD j 0) 0 ≠ (d : Int) - 1 := by simpa using h7
        have h9 := of_decide_eq_true h3.2
        rw [e2] at *
        exact ⟨h3.1, h9.1, by omega⟩
      rw [hv', hd] at h2
      omega
    · rfl

theorem fsome_ix {α : Type} {f : Nat → Option α} {j i : Nat} : (fsome f i j = none → fsome (fun i => (f i).map fun x => (i, x)) i j = none) ∧ ∀ t, fsome f i j = some t → ∃ k, fsome (fun i => (f i).map fun x => (i, x)) i j = some (k, t) := by
  have h := fsome_map f j i
  refine ⟨fun hs => ?_, fun t hs => ?_⟩
  · rw [hs] at h; exact Option.map_eq_none_iff.mp h
  · rw [hs] at h
    obtain ⟨⟨k, x⟩, h1, h2⟩ := Option.map_eq_some_iff.mp h
    have : x = t := h2
    subst this
    exact ⟨k, h1⟩
theorem evl_base {d : Nat} {D : List Int} {n b g : Nat} {l : List Nat} {A : Prop} {B : List Nat → Prop} (h1 : isNw (d : Int) D l = false → A) (h2 : isNw (d : Int) D l = true → (valS b (R2 n) l ≠ g → A) ∧ (valS b (R2 n) l = g → B l)) (L : List Nat) :
    (srch L (lsP (d : Int) D n b g) 0 l = none → A) ∧ ∀ t, srch L (lsP (d : Int) D n b g) 0 l = some t → B t := by
  cases hw : isNw (d : Int) D l
  · have hP : lsP (d : Int) D n b g l = false := by unfold lsP; rw [hw]; rfl
    refine ⟨fun _ => h1 hw, fun t ht => ?_⟩
    rw [srch, hP] at ht; simp at ht
  · have hP : lsP (d : Int) D n b g l = (valS b (R2 n) l == g) := by unfold lsP; rw [hw]; rfl
    obtain ⟨h3, h4⟩ := h2 hw
    by_cases hg : valS b (R2 n) l = g
    · refine ⟨fun h => ?_, fun t ht => ?_⟩
      · rw [srch, hP, hg] at h; simp at h
      · rw [srch, hP, hg] at ht
        have : l = t := by simpa using ht
        subst this; exact h4 hg
    · refine ⟨fun _ => h3 hg, fun t ht => ?_⟩
      rw [srch, hP] at ht; simp [hg] at ht
theorem getD_snoc_lt {l : List Nat} {v N : Nat} (hl : ∀ j, j < l.length → l.getD j 0 < N) (hv : v < N) : ∀ j, j < (l ++ [v]).length → (l ++ [v]).getD j 0 < N := by
  intro j hj
  by_cases hlt : j < l.length
  · rw [List.getD_eq_getElem?_getD, List.getElem?_append_left hlt, ← List.getD_eq_getElem?_getD]; exact hl j hlt
  · rw [List.getD_eq_getElem?_getD, List.getElem?_append_right (by omega)]
    rw [List.length_append, List.length_singleton] at hj
    rw [show j - l.length = 0 by omega]; exact hv
theorem evl_c (n N d b g a : Nat) (fs : List (Int × Int)) (D : List Int) (L : List Nat) (hN : D.length = N) (hNn : N = R2 (R2 n)) (hn : n ≤ 4) (hd : d < 65536) (hb : b < 65536) (ha : a ≤ 4) (hll : L.length ≤ 65536) (hLN : ∀ j, j < L.length → L.getD j 0 < N) : ∀ (m : Nat) (l : List Nat) (q0 : Nat), l.length + m = a → 1 ≤ l.length → q0 ≤ l.length * 2 → (∀ j, j < l.length → l.getD j 0 < N) →
    ((srch L (lsP (d : Int) D n b g) m l = none → Ev cx 94 [.ptr 0 0, .agg [.int .i64 (a : Nat), .int .i64 (b : Nat)], .sl 3 0 L.length, .sl 4 0 l.length, .int .i64 (d : Nat), .fn 95 [.ptr 5 0, .ptr 6 0, .ptr 7 0]] [⟨[.sl 1 0 fs.length, .int .i64 (n : Nat), .sl 2 0 N], 1, 0, some 0, true⟩, ⟨fns fs, 2, 1, some 0, false⟩, ⟨zints D, 1, 2, some 0, false⟩, ⟨prs n L, 2, 3, some 0, false⟩, ⟨prs n (l), 2, 4, some q0, false⟩, ⟨[.int .i64 (n : Nat), .int .i64 (g : Nat)], 1, 5, some 0, true⟩, ⟨[.nils], 1, 6, some 0, true⟩, ⟨[.bool false], 1, 7, some 0, true⟩] (.bool true) [⟨[.sl 1 0 fs.length, .int .i64 (n : Nat), .sl 2 0 N], 1, 0, some 0, true⟩, ⟨fns fs, 2, 1, some 0, false⟩, ⟨zints D, 1, 2, some 0, false⟩, ⟨prs n L, 2, 3, some 0, false⟩, ⟨prs n (l), 2, 4, some q0, false⟩, ⟨[.int .i64 (n : Nat), .int .i64 (g : Nat)], 1, 5, some 0, true⟩, ⟨[.nils], 1, 6, some 0, true⟩, ⟨[.bool false], 1, 7, some 0, true⟩]) ∧ ∀ t, srch L (lsP (d : Int) D n b g) m l = some t → Ev cx 94 [.ptr 0 0, .agg [.int .i64 (a : Nat), .int .i64 (b : Nat)], .sl 3 0 L.length, .sl 4 0 l.length, .int .i64 (d : Nat), .fn 95 [.ptr 5 0, .ptr 6 0, .ptr 7 0]] [⟨[.sl 1 0 fs.length, .int .i64 (n : Nat), .sl 2 0 N], 1, 0, some 0, true⟩, ⟨fns fs, 2, 1, some 0, false⟩, ⟨zints D, 1, 2, some 0, false⟩, ⟨prs n L, 2, 3, some 0, false⟩, ⟨prs n (l), 2, 4, some q0, false⟩, ⟨[.int .i64 (n : Nat), .int .i64 (g : Nat)], 1, 5, some 0, true⟩, ⟨[.nils], 1, 6, some 0, true⟩, ⟨[.bool false], 1, 7, some 0, true⟩] (.bool false) [⟨[.sl 1 0 fs.length, .int .i64 (n : Nat), .sl 2 0 N], 1, 0, some 0, true⟩, ⟨fns fs, 2, 1, some 0, false⟩, ⟨zints D, 1, 2, some 0, false⟩, ⟨prs n L, 2, 3, some 0, false⟩, ⟨prs n (l), 2, 4, some q0, false⟩, ⟨[.int .i64 (n : Nat), .int .i64 (g : Nat)], 1, 5, some 0, true⟩, ⟨[.sl 8 0 (t).length], 1, 6, some 0, true⟩, ⟨[.bool true], 1, 7, some 0, true⟩, ⟨prs n (t), 2, 8, some 0, false⟩])
  | 0, l, q0, hm, hl1, hq0, hl => by
    obtain rfl : l.length = a := by omega
    exact evl_base (evlb_oldc n N d b g q0 fs D L l ha hl1 hl hN hNn hn hd hb) (evlb_newc n N d b g q0 fs D L l ha hl1 hl hN hNn hn hd hb) L
  | m + 1, l, q0, hm, hl1, hq0, hl => by
    have hq : (((l.length : Nat) : Int) == ((a : Nat) : Int)) = false := by rw [ieq]; simp; omega
    have ih := fun i q (hi : i < L.length) (hqq : q ≤ (l.length + 1) * 2) => by
      have h0 := evl_c n N d b g a fs D L hN hNn hn hd hb ha hll hLN m (l ++ [L.getD i 0]) q (by simp; omega) (by simp) (by simp; omega) (getD_snoc_lt hl (hLN i hi))
      rw [List.length_append, List.length_singleton] at h0
      exact h0
    obtain ⟨f1, f2⟩ := fsome_ix (f := fun i => srch L (lsP (d : Int) D n b g) m (l ++ [L.getD i 0])) (j := L.length) (i := 0)
    refine ⟨fun hs => ?_, fun t hs => ?_⟩
    · have lp := lplt_c n N d b g a m q0 fs D L l hll (by omega) hq0 ih (⟨.exit 0, [], [⟨[.sl 1 0 fs.length, .int .i64 (n : Nat), .sl 2 0 N], 1, 0, some 0, true⟩, ⟨fns fs, 2, 1, some 0, false⟩, ⟨zints D, 1, 2, some 0, false⟩, ⟨prs n L, 2, 3, some 0, false⟩, ⟨prs n (l), 2, 4, some q0, false⟩, ⟨[.int .i64 (n : Nat), .int .i64 (g : Nat)], 1, 5, some 0, true⟩, ⟨[.nils], 1, 6, some 0, true⟩, ⟨[.bool false], 1, 7, some 0, true⟩]⟩ : Out) (by rw [f1 hs]; rfl)
      refine has94.eev rfl rfl ?_
      unfold m94
      repeat' (first
        | refine sc_loop lp rfl rfl ⟨rfl, rfl, rfl⟩ rfl rfl rfl ?_
        | (refine g_op ?_; first
          | refine ep_mov rfl ?_ | refine ep_load1 rfl rfl rfl rfl ?_ | refine ep_fieldAddr rfl ?_ | refine sp_loadN rfl rfl rfl rfl rfl ?_
          | refine ep_bin rfl rfl (by exact b_eql) ?_ | refine ep_pickT rfl rfl ?_ | refine ep_pickF rfl rfl ?_ | refine ep_pickTH rfl (by assumption) rfl ?_ | refine ep_pickFH rfl (by assumption) rfl ?_
          | refine ep_not rfl ?_ | refine ep_lenS rfl ?_ | refine ep_lenN rfl ?_ | refine ep_lenE rfl ?_ | refine sp_box rfl rfl rfl rfl rfl ?_ | refine ep_mkfn rfl ?_ | refine ep_nilckP rfl ?_ | refine ep_nilckF rfl ?_)
        | (refine g_ops ?_; first | refine eo_none ?_ | refine eo_nil ?_ | refine eo_yes rfl ?_ | refine eo_no rfl ?_ | refine eo_und rfl ?_ | refine eo_yesH rfl (by assumption) ?_ | refine eo_noH rfl (by assumption) ?_)
        | (refine g_dops ?_; first | refine ed_none ?_ | refine ed_nil ?_ | refine ed_yes rfl ?_ | refine ed_no rfl ?_ | refine ed_und rfl ?_ | refine ed_yesH rfl (by assumption) ?_ | refine ed_noH rfl (by assumption) ?_)
        | refine ed_same rfl ?_ | refine ed_one rfl rfl rfl rfl ?_ | refine ed_two rfl rfl rfl rfl rfl rfl rfl ?_ | refine ed_write rfl rfl ?_
        | (refine g_code ?_; first | refine ec_seq ?_ | refine ec_region ?_ | refine ec_draw ?_ | refine ec_block ?_ | refine ec_skip ?_ | refine ec_ret ?_ | refine ec_condT rfl ?_ | refine ec_condF rfl ?_ | refine ec_condTH rfl (by assumption) ?_ | refine ec_condFH rfl (by assumption) ?_)
        | refine ek_seqN ?_ | refine ek_seqX ?_ | refine ek_seqR ?_ | refine ek_blkN ?_ | refine ek_blkR ?_ | refine ek_blkX ?_ | refine ek_blkY rfl ?_)
      refine sfin (.inr rfl) (by rfl) (by rfl) (by exact ⟨rfl, rfl, rfl⟩) (by rfl) (by rfl) (by rfl) (by first | rfl | (simp; done) | (simp [ints, prs]; done))
    · obtain ⟨k, hk⟩ := f2 t hs
      have lp := lplt_c n N d b g a m q0 fs D L l hll (by omega) hq0 ih (⟨.ret, [(12, .bool false)], [⟨[.sl 1 0 fs.length, .int .i64 (n : Nat), .sl 2 0 N], 1, 0, some 0, true⟩, ⟨fns fs, 2, 1, some 0, false⟩, ⟨zints D, 1, 2, some 0, false⟩, ⟨prs n L, 2, 3, some 0, false⟩, ⟨prs n (l), 2, 4, some q0, false⟩, ⟨[.int .i64 (n : Nat), .int .i64 (g : Nat)], 1, 5, some 0, true⟩, ⟨[.sl 8 0 (t).length], 1, 6, some 0, true⟩, ⟨[.bool true], 1, 7, some 0, true⟩, ⟨prs n (t), 2, 8, some 0, false⟩]⟩ : Out) (by rw [hk]; rfl)
      refine has94.eev rfl rfl ?_
      unfold m94
      repeat' (first
        | refine sc_loop lp rfl rfl ⟨rfl, rfl, rfl⟩ rfl rfl rfl ?_
        | (refine g_op ?_; first
          | refine ep_mov rfl ?_ | refine ep_load1 rfl rfl rfl rfl ?_ | refine ep_fieldAddr rfl ?_ | refine sp_loadN rfl rfl rfl rfl rfl ?_
          | refine ep_bin rfl rfl (by exact b_eql) ?_ | refine ep_pickT rfl rfl ?_ | refine ep_pickF rfl rfl ?_ | refine ep_pickTH rfl (by assumption) rfl ?_ | refine ep_pickFH rfl (by assumption) rfl ?_
          | refine ep_not rfl ?_ | refine ep_lenS rfl ?_ | refine ep_lenN rfl ?_ | refine ep_lenE rfl ?_ | refine sp_box rfl rfl rfl rfl rfl ?_ | refine ep_mkfn rfl ?_ | refine ep_nilckP rfl ?_ | refine ep_nilckF rfl ?_)
        | (refine g_ops ?_; first | refine eo_none ?_ | refine eo_nil ?_ | refine eo_yes rfl ?_ | refine eo_no rfl ?_ | refine eo_und rfl ?_ | refine eo_yesH rfl (by assumption) ?_ | refine eo_noH rfl (by assumption) ?_)
        | (refine g_dops ?_; first | refine ed_none ?_ | refine ed_nil ?_ | refine ed_yes rfl ?_ | refine ed_no rfl ?_ | refine ed_und rfl ?_ | refine ed_yesH rfl (by assumption) ?_ | refine ed_noH rfl (by assumption) ?_)
        | refine ed_same rfl ?_ | refine ed_one rfl rfl rfl rfl ?_ | refine ed_two rfl rfl rfl rfl rfl rfl rfl ?_ | refine ed_write rfl rfl ?_
        | (refine g_code ?_; first | refine ec_seq ?_ | refine ec_region ?_ | refine ec_draw ?_ | refine ec_block ?_ | refine ec_skip ?_ | refine ec_ret ?_ | refine ec_condT rfl ?_ | refine ec_condF rfl ?_ | refine ec_condTH rfl (by assumption) ?_ | refine ec_condFH rfl (by assumption) ?_)
        | refine ek_seqN ?_ | refine ek_seqX ?_ | refine ek_seqR ?_ | refine ek_blkN ?_ | refine ek_blkR ?_ | refine ek_blkX ?_ | refine ek_blkY rfl ?_)
      refine sfin (.inr rfl) (by rfl) (by rfl) (by exact ⟨rfl, rfl, rfl⟩) (by rfl) (by rfl) (by rfl) (by first | rfl | (simp; done) | (simp [ints, prs]; done))
theorem evl_e0 (n N d b g : Nat) (fs : List (Int × Int)) (D : List Int) (L : List Nat) (hN : D.length = N) (hNn : N = R2 (R2 n)) (hn : n ≤ 4) (hd : d < 65536) (hb : b < 65536) :
    ((srch L (lsP (d : Int) D n b g) 0 [] = none → Ev cx 94 [.ptr 0 0, .agg [.int .i64 (0 : Nat), .int .i64 (b : Nat)], .sl 3 0 L.length, .nils, .int .i64 (d : Nat), .fn 95 [.ptr 4 0, .ptr 5 0, .ptr 6 0]] [⟨[.sl 1 0 fs.length, .int .i64 (n : Nat), .sl 2 0 N], 1, 0, some 0, true⟩, ⟨fns fs, 2, 1, some 0, false⟩, ⟨zints D, 1, 2, some 0, false⟩, ⟨prs n L, 2, 3, some 0, false⟩, ⟨[.int .i64 (n : Nat), .int .i64 (g : Nat)], 1, 4, some 0, true⟩, ⟨[.nils], 1, 5, some 0, true⟩, ⟨[.bool false], 1, 6, some 0, true⟩] (.bool true) [⟨[.sl 1 0 fs.length, .int .i64 (n : Nat), .sl 2 0 N], 1, 0, some 0, true⟩, ⟨fns fs, 2, 1, some 0, false⟩, ⟨zints D, 1, 2, some 0, false⟩, ⟨prs n L, 2, 3, some 0, false⟩, ⟨[.int .i64 (n : Nat), .int .i64 (g : Nat)], 1, 4, some 0, true⟩, ⟨[.nils], 1, 5, some 0, true⟩, ⟨[.bool false], 1, 6, some 0, true⟩]) ∧ ∀ t, srch L (lsP (d : Int) D n b g) 0 [] = some t → Ev cx 94 [.ptr 0 0, .agg [.int .i64 (0 : Nat), .int .i64 (b : Nat)], .sl 3 0 L.length, .nils, .int .i64 (d : Nat), .fn 95 [.ptr 4 0, .ptr 5 0, .ptr 6 0]] [⟨[.sl 1 0 fs.length, .int .i64 (n : Nat), .sl 2 0 N], 1, 0, some 0, true⟩, ⟨fns fs, 2, 1, some 0, false⟩, ⟨zints D, 1, 2, some 0, false⟩, ⟨prs n L, 2, 3, some 0, false⟩, ⟨[.int .i64 (n : Nat), .int .i64 (g : Nat)], 1, 4, some 0, true⟩, ⟨[.nils], 1, 5, some 0, true⟩, ⟨[.bool false], 1, 6, some 0, true⟩] (.bool false) [⟨[.sl 1 0 fs.length, .int .i64 (n : Nat), .sl 2 0 N], 1, 0, some 0, true⟩, ⟨fns fs, 2, 1, some 0, false⟩, ⟨zints D, 1, 2, some 0, false⟩, ⟨prs n L, 2, 3, some 0, false⟩, ⟨[.int .i64 (n : Nat), .int .i64 (g : Nat)], 1, 4, some 0, true⟩, ⟨[.nils], 1, 5, some 0, true⟩, ⟨[.bool true], 1, 6, some 0, true⟩]) :=
  evl_base (A := Ev cx 94 [.ptr 0 0, .agg [.int .i64 (0 : Nat), .int .i64 (b : Nat)], .sl 3 0 L.length, .nils, .int .i64 (d : Nat), .fn 95 [.ptr 4 0, .ptr 5 0, .ptr 6 0]] [⟨[.sl 1 0 fs.length, .int .i64 (n : Nat), .sl 2 0 N], 1, 0, some 0, true⟩, ⟨fns fs, 2, 1, some 0, false⟩, ⟨zints D, 1, 2, some 0, false⟩, ⟨prs n L, 2, 3, some 0, false⟩, ⟨[.int .i64 (n : Nat), .int .i64 (g : Nat)], 1, 4, some 0, true⟩, ⟨[.nils], 1, 5, some 0, true⟩, ⟨[.bool false], 1, 6, some 0, true⟩] (.bool true) [⟨[.sl 1 0 fs.length, .int .i64 (n : Nat), .sl 2 0 N], 1, 0, some 0, true⟩, ⟨fns fs, 2, 1, some 0, false⟩, ⟨zints D, 1, 2, some 0, false⟩, ⟨prs n L, 2, 3, some 0, false⟩, ⟨[.int .i64 (n : Nat), .int .i64 (g : Nat)], 1, 4, some 0, true⟩, ⟨[.nils], 1, 5, some 0, true⟩, ⟨[.bool false], 1, 6, some 0, true⟩]) (B := fun _ => Ev cx 94 [.ptr 0 0, .agg [.int .i64 (0 : Nat), .int .i64 (b : Nat)], .sl 3 0 L.length, .nils, .int .i64 (d : Nat), .fn 95 [.ptr 4 0, .ptr 5 0, .ptr 6 0]] [⟨[.sl 1 0 fs.length, .int .i64 (n : Nat), .sl 2 0 N], 1, 0, some 0, true⟩, ⟨fns fs, 2, 1, some 0, false⟩, ⟨zints D, 1, 2, some 0, false⟩, ⟨prs n L, 2, 3, some 0, false⟩, ⟨[.int .i64 (n : Nat), .int .i64 (g : Nat)], 1, 4, some 0, true⟩, ⟨[.nils], 1, 5, some 0, true⟩, ⟨[.bool false], 1, 6, some 0, true⟩] (.bool false) [⟨[.sl 1 0 fs.length, .int .i64 (n : Nat), .sl 2 0 N], 1, 0, some 0, true⟩, ⟨fns fs, 2, 1, some 0, false⟩, ⟨zints D, 1, 2, some 0, false⟩, ⟨prs n L, 2, 3, some 0, false⟩, ⟨[.int .i64 (n : Nat), .int .i64 (g : Nat)], 1, 4, some 0, true⟩, ⟨[.nils], 1, 5, some 0, true⟩, ⟨[.bool true], 1, 6, some 0, true⟩]) (evlb_olde n N d b g fs D L hN hNn hn hd hb) (evlb_newe n N d b g fs D L hN hNn hn hd hb) L
theorem evl_e1 (n N d b g a m : Nat) (fs : List (Int × Int)) (D : List Int) (L : List Nat) (hN : D.length = N) (hNn : N = R2 (R2 n)) (hn : n ≤ 4) (hd : d < 65536) (hb : b < 65536) (ha : a ≤ 4) (hll : L.length ≤ 65536) (hLN : ∀ j, j < L.length → L.getD j 0 < N) (hm : a = m + 1) :
    ((srch L (lsP (d : Int) D n b g) a [] = none → Ev cx 94 [.ptr 0 0, .agg [.int .i64 (a : Nat), .int .i64 (b : Nat)], .sl 3 0 L.length, .nils, .int .i64 (d : Nat), .fn 95 [.ptr 4 0, .ptr 5 0, .ptr 6 0]] [⟨[.sl 1 0 fs.length, .int .i64 (n : Nat), .sl 2 0 N], 1, 0, some 0, true⟩, ⟨fns fs, 2, 1, some 0, false⟩, ⟨zints D, 1, 2, some 0, false⟩, ⟨prs n L, 2, 3, some 0, false⟩, ⟨[.int .i64 (n : Nat), .int .i64 (g : Nat)], 1, 4, some 0, true⟩, ⟨[.nils], 1, 5, some 0, true⟩, ⟨[.bool false], 1, 6, some 0, true⟩] (.bool true) [⟨[.sl 1 0 fs.length, .int .i64 (n : Nat), .sl 2 0 N], 1, 0, some 0, true⟩, ⟨fns fs, 2, 1, some 0, false⟩, ⟨zints D, 1, 2, some 0, false⟩, ⟨prs n L, 2, 3, some 0, false⟩, ⟨[.int .i64 (n : Nat), .int .i64 (g : Nat)], 1, 4, some 0, true⟩, ⟨[.nils], 1, 5, some 0, true⟩, ⟨[.bool false], 1, 6, some 0, true⟩]) ∧ ∀ t, srch L (lsP (d : Int) D n b g) a [] = some t → Ev cx 94 [.ptr 0 0, .agg [.int .i64 (a : Nat), .int .i64 (b : Nat)], .sl 3 0 L.length, .nils, .int .i64 (d : Nat), .fn 95 [.ptr 4 0, .ptr 5 0, .ptr 6 0]] [⟨[.sl 1 0 fs.length, .int .i64 (n : Nat), .sl 2 0 N], 1, 0, some 0, true⟩, ⟨fns fs, 2, 1, some 0, false⟩, ⟨zints D, 1, 2, some 0, false⟩, ⟨prs n L, 2, 3, some 0, false⟩, ⟨[.int .i64 (n : Nat), .int .i64 (g : Nat)], 1, 4, some 0, true⟩, ⟨[.nils], 1, 5, some 0, true⟩, ⟨[.bool false], 1, 6, some 0, true⟩] (.bool false) [⟨[.sl 1 0 fs.length, .int .i64 (n : Nat), .sl 2 0 N], 1, 0, some 0, true⟩, ⟨fns fs, 2, 1, some 0, false⟩, ⟨zints D, 1, 2, some 0, false⟩, ⟨prs n L, 2, 3, some 0, false⟩, ⟨[.int .i64 (n : Nat), .int .i64 (g : Nat)], 1, 4, some 0, true⟩, ⟨[.sl 7 0 (t).length], 1, 5, some 0, true⟩, ⟨[.bool true], 1, 6, some 0, true⟩, ⟨prs n (t), 2, 7, some 0, false⟩]) := by
  have hq : ((0 : Int) == ((a : Nat) : Int)) = false := by rw [hm]; simp; omega
  have ih := fun i (hi : i < L.length) => evl_c n N d b g a fs D L hN hNn hn hd hb ha hll hLN m [L.getD i 0] 0 (by simp; omega) (by simp) (by omega) (fun j hj => by
    obtain rfl : j = 0 := by simpa using hj
    exact hLN i hi)
  obtain ⟨f1, f2⟩ := fsome_ix (f := fun i => srch L (lsP (d : Int) D n b g) m ([] ++ [L.getD i 0])) (j := L.length) (i := 0)
  rw [hm]
  refine ⟨fun hs => ?_, fun t hs => ?_⟩
  · have lp := lplt_e n N d b g a m fs D L hll ih (⟨.exit 0, [], [⟨[.sl 1 0 fs.length, .int .i64 (n : Nat), .sl 2 0 N], 1, 0, some 0, true⟩, ⟨fns fs, 2, 1, some 0, false⟩, ⟨zints D, 1, 2, some 0, false⟩, ⟨prs n L, 2, 3, some 0, false⟩, ⟨[.int .i64 (n : Nat), .int .i64 (g : Nat)], 1, 4, some 0, true⟩, ⟨[.nils], 1, 5, some 0, true⟩, ⟨[.bool false], 1, 6, some 0, true⟩]⟩ : Out) (by rw [f1 hs]; rfl)
    rw [← hm]
    refine has94.eev rfl rfl ?_
    unfold m94
    repeat' (first
      | refine sc_loop lp rfl rfl ⟨rfl, rfl, rfl⟩ rfl rfl rfl ?_
      | (refine g_op ?_; first
        | refine ep_mov rfl ?_ | refine ep_load1 rfl rfl rfl rfl ?_ | refine ep_fieldAddr rfl ?_ | refine sp_loadN rfl rfl rfl rfl rfl ?_
        | refine ep_bin rfl rfl (by exact b_eql) ?_ | refine ep_pickT rfl rfl ?_ | refine ep_pickF rfl rfl ?_ | refine ep_pickTH rfl (by assumption) rfl ?_ | refine ep_pickFH rfl (by assumption) rfl ?_
        | refine ep_not rfl ?_ | refine ep_lenS rfl ?_ | refine ep_lenN rfl ?_ | refine ep_lenE rfl ?_ | refine sp_box rfl rfl rfl rfl rfl ?_ | refine ep_mkfn rfl ?_ | refine ep_nilckP rfl ?_ | refine ep_nilckF rfl ?_)
      | (refine g_ops ?_; first | refine eo_none ?_ | refine eo_nil ?_ | refine eo_yes rfl ?_ | refine eo_no rfl ?_ | refine eo_und rfl ?_ | refine eo_yesH rfl (by assumption) ?_ | refine eo_noH rfl (by assumption) ?_)
      | (refine g_dops ?_; first | refine ed_none ?_ | refine ed_nil ?_ | refine ed_yes rfl ?_ | refine ed_no rfl ?_ | refine ed_und rfl ?_ | refine ed_yesH rfl (by assumption) ?_ | refine ed_noH rfl (by assumption) ?_)
      | refine ed_same rfl ?_ | refine ed_one rfl rfl rfl rfl ?_ | refine ed_two rfl rfl rfl rfl rfl rfl rfl ?_ | refine ed_write rfl rfl ?_
      | (refine g_code ?_; first | refine ec_seq ?_ | refine ec_region ?_ | refine ec_draw ?_ | refine ec_block ?_ | refine ec_skip ?_ | refine ec_ret ?_ | refine ec_condT rfl ?_ | refine ec_condF rfl ?_ | refine ec_condTH rfl (by assumption) ?_ | refine ec_condFH rfl (by assumption) ?_)
      | refine ek_seqN ?_ | refine ek_seqX ?_ | refine ek_seqR ?_ | refine ek_blkN ?_ | refine ek_blkR ?_ | refine ek_blkX ?_ | refine ek_blkY rfl ?_)
    refine sfin (.inr rfl) (by rfl) (by rfl) (by exact ⟨rfl, rfl, rfl⟩) (by rfl) (by rfl) (by rfl) (by first | rfl | (simp; done) | (simp [ints, prs]; done))
  · obtain ⟨k, hk⟩ := f2 t hs
    have lp := lplt_e n N d b g a m fs D L hll ih (⟨.ret, [(12, .bool false)], [⟨[.sl 1 0 fs.length, .int .i64 (n : Nat), .sl 2 0 N], 1, 0, some 0, true⟩, ⟨fns fs, 2, 1, some 0, false⟩, ⟨zints D, 1, 2, some 0, false⟩, ⟨prs n L, 2, 3, some 0, false⟩, ⟨[.int .i64 (n : Nat), .int .i64 (g : Nat)], 1, 4, some 0, true⟩, ⟨[.sl 7 0 (t).length], 1, 5, some 0, true⟩, ⟨[.bool true], 1, 6, some 0, true⟩, ⟨prs n (t), 2, 7, some 0, false⟩]⟩ : Out) (by rw [hk]; rfl)
    rw [← hm]
    refine has94.eev rfl rfl ?_
    unfold m94
    repeat' (first
      | refine sc_loop lp rfl rfl ⟨rfl, rfl, rfl⟩ rfl rfl rfl ?_
      | (refine g_op ?_; first
        | refine ep_mov rfl ?_ | refine ep_load1 rfl rfl rfl rfl ?_ | refine ep_fieldAddr rfl ?_ | refine sp_loadN rfl rfl rfl rfl rfl ?_
        | refine ep_bin rfl rfl (by exact b_eql) ?_ | refine ep_pickT rfl rfl ?_ | refine ep_pickF rfl rfl ?_ | refine ep_pickTH rfl (by assumption) rfl ?_ | refine ep_pickFH rfl (by assumption) rfl ?_
        | refine ep_not rfl ?_ | refine ep_lenS rfl ?_ | refine ep_lenN rfl ?_ | refine ep_lenE rfl ?_ | refine sp_box rfl rfl rfl rfl rfl ?_ | refine ep_mkfn rfl ?_ | refine ep_nilckP rfl ?_ | refine ep_nilckF rfl ?_)
      | (refine g_ops ?_; first | refine eo_none ?_ | refine eo_nil ?_ | refine eo_yes rfl ?_ | refine eo_no rfl ?_ | refine eo_und rfl ?_ | refine eo_yesH rfl (by assumption) ?_ | refine eo_noH rfl (by assumption) ?_)
      | (refine g_dops ?_; first | refine ed_none ?_ | refine ed_nil ?_ | refine ed_yes rfl ?_ | refine ed_no rfl ?_ | refine ed_und rfl ?_ | refine ed_yesH rfl (by assumption) ?_ | refine ed_noH rfl (by assumption) ?_)
      | refine ed_same rfl ?_ | refine ed_one rfl rfl rfl rfl ?_ | refine ed_two rfl rfl rfl rfl rfl rfl rfl ?_ | refine ed_write rfl rfl ?_
      | (refine g_code ?_; first | refine ec_seq ?_ | refine ec_region ?_ | refine ec_draw ?_ | refine ec_block ?_ | refine ec_skip ?_ | refine ec_ret ?_ | refine ec_condT rfl ?_ | refine ec_condF rfl ?_ | refine ec_condTH rfl (by assumption) ?_ | refine ec_condFH rfl (by assumption) ?_)
      | refine ek_seqN ?_ | refine ek_seqX ?_ | refine ek_seqR ?_ | refine ek_blkN ?_ | refine ek_blkR ?_ | refine ek_blkX ?_ | refine ek_blkY rfl ?_)
    refine sfin (.inr rfl) (by rfl) (by rfl) (by exact ⟨rfl, rfl, rfl⟩) (by rfl) (by rfl) (by rfl) (by first | rfl | (simp; done) | (simp [ints, prs]; done))

def lsF (fs : List (Int × Int)) (n d g : Nat) (i : Nat) : Option (List Nat) := srch (kwI (R2 (R2 n)) d (depL fs n)) (fun t => valS (fs.getD i (0, 0)).2.toNat (R2 n) t == g) (fs.getD i (0, 0)).1.toNat []
def lsX (fs : List (Int × Int)) (n d g : Nat) : Option (Nat × List Nat) := fsome (fun i => (lsF fs n d g i).map fun x => (i, x)) 0 fs.length
def lsR (fs : List (Int × Int)) (a b : Int) : Int × List Nat × Int :=
  if acode fs a b = 0 then (if dpt fs a b < 0 then (0, [], 4) else if dpt fs a b = 0 then (0, [], 5) else match lsX fs a.toNat (dpt fs a b).toNat b.toNat with | none => (0, [], 4) | some x => (x.1, x.2, 0)) else (0, [], acode fs a b)
theorem kwI_lt (N : Nat) (d : Int) (D : List Int) : ∀ j, j < (kwI N d D).length → (kwI N d D).getD j 0 < N := fun j hj => (selm_lt0 hj).1
theorem dep_0 {fs : List (Int × Int)} {n : Nat} (hn : 1 ≤ n) : ∃ c, c < R2 (R2 n) ∧ (depL fs n).getD c 0 = 0 :=
  ⟨projB n 0, projB_lt _ _, depL_pj (by omega)⟩
theorem dep_bn (fs : List (Int × Int)) (n : Nat) (b : Nat) : (depL fs n).getD b 0 < ((R2 (R2 n) + 4 : Nat) : Int) := by
  have := genS_bnd (fs := fs) (n := n) (R2 (R2 n) + 1) 1 (D0 n n) (fun c => by have := D0_bnd n n c; omega) b
  unfold depL; omega
theorem lsF_eq {fs : List (Int × Int)} {n d g i : Nat} (hd : (depL fs n).getD g 0 = (d : Int)) (hd1 : 1 ≤ d) (hi : i < fs.length) :
    srch (kwI (R2 (R2 n)) d (depL fs n)) (lsP (d : Int) (depL fs n) n (fs.getD i (0, 0)).2.toNat g) (fs.getD i (0, 0)).1.toNat [] = lsF fs n d g i :=
  srch_congr (a := (fs.getD i (0, 0)).1.toNat) (fun t ht hin => lsP_eq hd hd1 hi t ht hin) _ _ (by simp) (fun j hj => by simp at hj)
theorem lsF_len {fs : List (Int × Int)} {n d g i : Nat} {t : List Nat} (h : lsF fs n d g i = some t) : t.length = (fs.getD i (0, 0)).1.toNat := by
  have := srch_len _ _ h; simpa using this
-- impl.LastStep
def m52_0 : MC := (.seq (.region [⟨(.bin .lss (.t 34) (.t 33)), (some 35), none⟩] false) (.seq (.cond (.t 35) .skip (.exit 1)) (.seq (.block 2 (.seq (.region [⟨(.mov (.t 34)), (some 36), none⟩, ⟨(.indexAddr 2 (.t 32) (.t 34)), (some 37), none⟩, ⟨(.load (some 2) (.t 37)), (some 38), none⟩, ⟨(.alloc [(.int .i64 0), (.int .i64 0)]), (some 12), none⟩, ⟨(.mov (.t 36)), (some 11), none⟩, ⟨(.store 2 (.t 12) (.t 38)), none, none⟩] false) (.seq (.region [⟨(.alloc [.nils]), (some 13), none⟩] false) (.seq (.region [⟨(.alloc [(.bool false)]), (some 14), none⟩, ⟨(.store 1 (.t 14) (.k (.bool false))), none, none⟩] false) (.seq (.region [⟨(.mov (.t 7)), (some 39), none⟩, ⟨(.load (some 2) (.t 12)), (some 40), none⟩, ⟨(.mov (.t 10)), (some 41), none⟩, ⟨(.mov (.t 8)), (some 42), none⟩, ⟨(.mkfn 95 [(.t 3), (.t 13), (.t 14)]), (some 43), none⟩, ⟨(.call 94 [(.t 39), (.t 40), (.t 41), (.k .nils), (.t 42), (.t 43)]), (some 44), none⟩] false) (.seq (.region [⟨(.load none (.t 14)), (some 45), none⟩] false) (.cond (.t 45) (.seq (.region [⟨(.mov (.t 11)), (some 46), none⟩, ⟨(.load none (.t 13)), (some 47), none⟩, ⟨(.mov (.t 46)), (some 4), none⟩, ⟨(.mov (.t 47)), (some 5), none⟩, ⟨(.mov (.k (.int .i64 0))), (some 6), none⟩] true) .ret) .skip))))))) (.region [⟨(.bin .add (.t 34) (.k (.int .i64 1))), (some 48), none⟩, ⟨(.mov (.t 48)), (some 34), none⟩] false))))
def m52 : MC := (.seq (.region [⟨(.box (.t 1)), (some 3), none⟩, ⟨(.mov (.k (.int .i64 0))), (some 4), none⟩, ⟨(.mov (.k .nils)), (some 5), none⟩, ⟨(.mov (.k (.int .i64 0))), (some 6), none⟩] false) (.seq (.region [⟨(.mov (.t 0)), (some 16), none⟩, ⟨(.load (some 2) (.t 3)), (some 17), none⟩, ⟨(.call 85 [(.t 16), (.t 17)]), (some 18), none⟩, ⟨(.mov (.t 18)), (some 15), none⟩, ⟨(.extract (.t 15) 0), (some 19), none⟩, ⟨(.extract (.t 15) 1), (some 20), none⟩, ⟨(.extract (.t 15) 2), (some 21), none⟩, ⟨(.mov (.t 19)), (some 7), none⟩, ⟨(.mov (.t 20)), (some 8), none⟩, ⟨(.mov (.t 21)), (some 9), none⟩] false) (.seq (.block 0 (.seq (.region [⟨(.mov (.t 9)), (some 23), none⟩, ⟨(.bin .neq (.t 23) (.k (.int .i64 0))), (some 24), none⟩, ⟨(.mov (.t 24)), (some 22), none⟩] false) (.cond (.t 22) (.seq (.region [⟨(.mov (.t 9)), (some 25), none⟩, ⟨(.mov (.k (.int .i64 0))), (some 4), none⟩, ⟨(.mov (.k .nils)), (some 5), none⟩, ⟨(.mov (.t 25)), (some 6), none⟩] false) .ret) (.seq (.region [⟨(.mov (.t 8)), (some 27), none⟩, ⟨(.bin .eql (.t 27) (.k (.int .i64 0))), (some 28), none⟩, ⟨(.mov (.t 28)), (some 26), none⟩] false) (.cond (.t 26) (.seq (.region [⟨(.mov (.k (.int .i64 0))), (some 4), none⟩, ⟨(.mov (.k .nils)), (some 5), none⟩, ⟨(.mov (.k (.int .i64 5))), (some 6), none⟩] false) .ret) .skip))))) (.seq (.region [⟨(.mov (.t 7)), (some 29), none⟩, ⟨(.mov (.t 8)), (some 30), none⟩, ⟨(.call 93 [(.t 29), (.t 30)]), (some 31), none⟩, ⟨(.mov (.t 31)), (some 10), none⟩] false) (.seq (.seq (.region [⟨(.mov (.t 0)), (some 32), none⟩, ⟨(.len (.t 32)), (some 33), none⟩, ⟨(.mov (.k (.int .i64 0))), (some 34), none⟩] false) (.block 1 (.loop m52_0))) (.seq (.region [⟨(.mov (.k (.int .i64 0))), (some 4), none⟩, ⟨(.mov (.k .nils)), (some 5), none⟩, ⟨(.mov (.k (.int .i64 4))), (some 6), none⟩] false) .ret))))))
theorem has52 : Has cx 52 49 m52 [(.tmp 4), (.tmp 5), (.tmp 6)] :=
  ⟨⟨Try.f52, Try.f52.body.getD .skip, by kernel_rfl, by kernel_rfl, by kernel_rfl, by kernel_rfl, by kernel_rfl, by kernel_rfl⟩⟩
theorem lpls (n N d g : Nat) (fs : List (Int × Int)) (L : List Nat) (hNn : N = R2 (R2 n)) (hn : n ≤ 3) (hall : allFunc fs = true) (hln : fs.length ≤ 1048576) (hd : d < 65536) (hL : kwI (R2 (R2 n)) d (depL fs n) = L) (hdd : (depL fs n).getD g 0 = (d : Int)) (hd1 : 1 ≤ d) (o : Out) (ho : fsO (⟨.exit 1, [], [⟨fns fs, 2, 0, some 0, false⟩]⟩ : Out) (fun i t => (⟨.ret, [(4, .int .i64 (i : Nat)), (5, slV .nils 1 t), (6, .int .i64 0)], ⟨fns fs, 2, 0, some 0, false⟩ :: slH 1 2 (prs n) t⟩ : Out)) (lsX fs n d g) = o) :
    LpS cx 49 1 m52_0 [(3, .ptr 1 0), (7, .ptr 2 0), (8, .int .i64 (d : Nat)), (10, .sl 4 0 L.length), (32, .sl 0 0 fs.length), (33, .int .i64 (fs.length : Nat)), (34, .int .i64 (0 : Nat))] [⟨fns fs, 2, 0, some 0, false⟩, ⟨[.int .i64 (n : Nat), .int .i64 (g : Nat)], 1, 1, some 0, true⟩, ⟨[.sl 0 0 fs.length, .int .i64 (n : Nat), .sl 3 0 N], 1, 2, some 0, true⟩, ⟨zints (depL fs n), 1, 3, some 0, false⟩, ⟨prs n L, 2, 4, some 0, false⟩] o.x o.e o.h := by
  have hll : L.length ≤ 65536 := by rw [← hL]; have h1 := selm_len (fun b => decide (0 ≤ (depL fs n).getD b 0 ∧ (depL fs n).getD b 0 ≤ (d : Int) - 1)) idn (R2 (R2 n)); have h2 := (shN (n := n) (by omega)).2.1; unfold kwI; omega
  have hLN : ∀ j, j < L.length → L.getD j 0 < N := by rw [← hL, hNn]; exact kwI_lt _ _ _
  have hDl : (depL fs n).length = N := by rw [hNn]; exact depL_len fs n
  refine lp_fs fs.length (lsF fs n d g) (fun i => [(3, .ptr 1 0), (7, .ptr 2 0), (8, .int .i64 (d : Nat)), (10, .sl 4 0 L.length), (32, .sl 0 0 fs.length), (33, .int .i64 (fs.length : Nat)), (34, .int .i64 (i : Nat))]) (fun i => [⟨fns fs, 2, 0, some 0, false⟩, ⟨[.int .i64 (n : Nat), .int .i64 (g : Nat)], 1, 1, some 0, true⟩, ⟨[.sl 0 0 fs.length, .int .i64 (n : Nat), .sl 3 0 N], 1, 2, some 0, true⟩, ⟨zints (depL fs n), 1, 3, some 0, false⟩, ⟨prs n L, 2, 4, some 0, false⟩]) ((⟨.exit 1, [], [⟨fns fs, 2, 0, some 0, false⟩]⟩ : Out)) (fun i t => (⟨.ret, [(4, .int .i64 (i : Nat)), (5, slV .nils 1 t), (6, .int .i64 0)], ⟨fns fs, 2, 0, some 0, false⟩ :: slH 1 2 (prs n) t⟩ : Out)) ?_ ?_ ?_ fs.length 0 o (by omega) ho

  · intro i hi hf
    have hlt : decide ((i : Int) < (fs.length : Nat)) = true := decide_eq_true (by omega)
    have hg := fns_get (l := fs) (j := i) hi
    have hget := allF_at (P := fun j => isFn (fs.getD j (0, 0)).1 (fs.getD j (0, 0)).2) hall hi
    obtain ⟨a, b, ha, hb, ha4, _, hb6⟩ := isFn_nat hget
    rw [← lsF_eq hdd hd1 hi, hL] at hf
    rw [show (fs.getD i (0, 0)).1.toNat = a by omega, show (fs.getD i (0, 0)).2.toNat = b by omega] at hf
    rw [ha, hb] at hg
    cases a with
    | zero =>
      have e1 := (evl_e0 n N d b g fs (depL fs n) L hDl hNn (by omega) hd (by omega)).1 hf
      unfold m52_0
      repeat' (first
        | refine ep_loadSN rfl rfl rfl hg ?_
        | (refine g_op ?_; first
          | refine ep_mov rfl ?_ | refine ep_load1 rfl rfl rfl rfl ?_ | refine sp_loadN rfl rfl rfl rfl rfl ?_
          | refine ep_call0 rfl (by first | exact e1) rfl rfl ?_
          | refine sp_call rfl rfl rfl rfl (by first | exact e1) ⟨rfl, rfl, rfl, rfl⟩ rfl rfl rfl ?_
          | refine ep_bin rfl rfl (by first | exact b_add (by omega) (by omega) | exact b_lss) ?_ | refine sp_store rfl rfl rfl rfl rfl rfl rfl rfl rfl rfl ?_ | refine sp_alloc rfl rfl ?_ | refine sp_idx rfl rfl rfl (by omega) rfl ?_
          | refine ep_loadS rfl rfl rfl (by first | exact ints_get (by omega) | exact zints_get (by omega) | exact fget (by omega) | assumption) ?_ | refine ep_loadSN rfl rfl rfl (by first | exact prs_get (by omega) | exact fns_get (by omega)) ?_
          | refine ep_mkfn rfl ?_)
        | (refine g_ops ?_; first | refine eo_none ?_ | refine eo_nil ?_)
        | (refine g_dops ?_; first | refine ed_none ?_ | refine ed_nil ?_)
        | refine ed_same rfl ?_ | refine ed_one rfl rfl rfl rfl ?_ | refine ed_two rfl rfl rfl rfl rfl rfl rfl ?_ | refine ed_write rfl rfl ?_
        | (refine g_code ?_; first | refine ec_seq ?_ | refine ec_region ?_ | refine ec_draw ?_ | refine ec_block ?_ | refine ec_skip ?_ | refine ec_exit ?_ | refine ec_ret ?_ | refine ec_condT rfl ?_ | refine ec_condF rfl ?_ | refine ec_condTH rfl (by assumption) ?_ | refine ec_condFH rfl (by assumption) ?_)
        | refine ek_seqN ?_ | refine ek_seqX ?_ | refine ek_seqR ?_ | refine ek_blkN ?_ | refine ek_blkR ?_ | refine ek_blkX ?_ | refine ek_blkY rfl ?_)
      exact rnd_on (by rfl) (scmp2 (by rfl) (by rfl) (by exact ⟨rfl, rfl, rfl⟩) (by rfl) (by first | rfl | (simp; done) | (simp [ints, prs]; done)) (by rfl) (by first | rfl | (simp; done) | (simp [ints, prs]; done)))
    | succ m =>
      have e1 := (evl_e1 n N d b g (m + 1) m fs (depL fs n) L hDl hNn (by omega) hd (by omega) ha4 hll hLN rfl).1 hf
      unfold m52_0
      repeat' (first
        | refine ep_loadSN rfl rfl rfl hg ?_
        | (refine g_op ?_; first
          | refine ep_mov rfl ?_ | refine ep_load1 rfl rfl rfl rfl ?_ | refine sp_loadN rfl rfl rfl rfl rfl ?_
          | refine ep_call0 rfl (by first | exact e1) rfl rfl ?_
          | refine sp_call rfl rfl rfl rfl (by first | exact e1) ⟨rfl, rfl, rfl, rfl⟩ rfl rfl rfl ?_
          | refine ep_bin rfl rfl (by first | exact b_add (by omega) (by omega) | exact b_lss) ?_ | refine sp_store rfl rfl rfl rfl rfl rfl rfl rfl rfl rfl ?_ | refine sp_alloc rfl rfl ?_ | refine sp_idx rfl rfl rfl (by omega) rfl ?_
          | refine ep_loadS rfl rfl rfl (by first | exact ints_get (by omega) | exact zints_get (by omega) | exact fget (by omega) | assumption) ?_ | refine ep_loadSN rfl rfl rfl (by first | exact prs_get (by omega) | exact fns_get (by omega)) ?_
          | refine ep_mkfn rfl ?_)
        | (refine g_ops ?_; first | refine eo_none ?_ | refine eo_nil ?_)
        | (refine g_dops ?_; first | refine ed_none ?_ | refine ed_nil ?_)
        | refine ed_same rfl ?_ | refine ed_one rfl rfl rfl rfl ?_ | refine ed_two rfl rfl rfl rfl rfl rfl rfl ?_ | refine ed_write rfl rfl ?_
        | (refine g_code ?_; first | refine ec_seq ?_ | refine ec_region ?_ | refine ec_draw ?_ | refine ec_block ?_ | refine ec_skip ?_ | refine ec_exit ?_ | refine ec_ret ?_ | refine ec_condT rfl ?_ | refine ec_condF rfl ?_ | refine ec_condTH rfl (by assumption) ?_ | refine ec_condFH rfl (by assumption) ?_)
        | refine ek_seqN ?_ | refine ek_seqX ?_ | refine ek_seqR ?_ | refine ek_blkN ?_ | refine ek_blkR ?_ | refine ek_blkX ?_ | refine ek_blkY rfl ?_)
      exact rnd_on (by rfl) (scmp2 (by rfl) (by rfl) (by exact ⟨rfl, rfl, rfl⟩) (by rfl) (by first | rfl | (simp; done) | (simp [ints, prs]; done)) (by rfl) (by first | rfl | (simp; done) | (simp [ints, prs]; done)))
  · intro i t hi hf
    have hlen := lsF_len hf
    have hlt : decide ((i : Int) < (fs.length : Nat)) = true := decide_eq_true (by omega)
    have hg := fns_get (l := fs) (j := i) hi
    have hget := allF_at (P := fun j => isFn (fs.getD j (0, 0)).1 (fs.getD j (0, 0)).2) hall hi
    obtain ⟨a, b, ha, hb, ha4, _, hb6⟩ := isFn_nat hget
    rw [← lsF_eq hdd hd1 hi, hL] at hf
    rw [show (fs.getD i (0, 0)).1.toNat = a by omega, show (fs.getD i (0, 0)).2.toNat = b by omega] at hf
    rw [ha, hb] at hg
    rw [show (fs.getD i (0, 0)).1.toNat = a by omega] at hlen
    cases a with
    | zero =>
      have e1 := (evl_e0 n N d b g fs (depL fs n) L hDl hNn (by omega) hd (by omega)).2 t hf
      obtain rfl : t = [] := List.eq_nil_of_length_eq_zero hlen
      unfold m52_0
      repeat' (first
        | refine ep_loadSN rfl rfl rfl hg ?_
        | (refine g_op ?_; first
          | refine ep_mov rfl ?_ | refine ep_load1 rfl rfl rfl rfl ?_ | refine sp_loadN rfl rfl rfl rfl rfl ?_
          | refine ep_call0 rfl (by first | exact e1) rfl rfl ?_
          | refine sp_call rfl rfl rfl rfl (by first | exact e1) ⟨rfl, rfl, rfl, rfl⟩ rfl rfl rfl ?_
          | refine ep_bin rfl rfl (by first | exact b_add (by omega) (by omega) | exact b_lss) ?_ | refine sp_store rfl rfl rfl rfl rfl rfl rfl rfl rfl rfl ?_ | refine sp_alloc rfl rfl ?_ | refine sp_idx rfl rfl rfl (by omega) rfl ?_
          | refine ep_loadS rfl rfl rfl (by first | exact ints_get (by omega) | exact zints_get (by omega) | exact fget (by omega) | assumption) ?_ | refine ep_loadSN rfl rfl rfl (by first | exact prs_get (by omega) | exact fns_get (by omega)) ?_
          | refine ep_mkfn rfl ?_)
        | (refine g_ops ?_; first | refine eo_none ?_ | refine eo_nil ?_)
        | (refine g_dops ?_; first | refine ed_none ?_ | refine ed_nil ?_)
        | refine ed_same rfl ?_ | refine ed_one rfl rfl rfl rfl ?_ | refine ed_two rfl rfl rfl rfl rfl rfl rfl ?_ | refine ed_write rfl rfl ?_
        | (refine g_code ?_; first | refine ec_seq ?_ | refine ec_region ?_ | refine ec_draw ?_ | refine ec_block ?_ | refine ec_skip ?_ | refine ec_exit ?_ | refine ec_ret ?_ | refine ec_condT rfl ?_ | refine ec_condF rfl ?_ | refine ec_condTH rfl (by assumption) ?_ | refine ec_condFH rfl (by assumption) ?_)
        | refine ek_seqN ?_ | refine ek_seqX ?_ | refine ek_seqR ?_ | refine ek_blkN ?_ | refine ek_blkR ?_ | refine ek_blkX ?_ | refine ek_blkY rfl ?_)
      exact rnd_out (by rfl) (by simp) (scmp2 (by rfl) (by rfl) (by exact ⟨rfl, rfl, rfl⟩) (by rfl) (by first | rfl | (simp; done) | (simp [ints, prs]; done)) (by rfl) (by first | rfl | (simp; done) | (simp [ints, prs]; done)))
    | succ m =>
      have e1 := (evl_e1 n N d b g (m + 1) m fs (depL fs n) L hDl hNn (by omega) hd (by omega) ha4 hll hLN rfl).2 t hf
      cases t with
      | nil => simp at hlen
      | cons x xs =>
              unfold m52_0
              repeat' (first
                | refine ep_loadSN rfl rfl rfl hg ?_
                | (refine g_op ?_; first
                  | refine ep_mov rfl ?_ | refine ep_load1 rfl rfl rfl rfl ?_ | refine sp_loadN rfl rfl rfl rfl rfl ?_
                  | refine ep_call0 rfl (by first | exact e1) rfl rfl ?_
                  | refine sp_call rfl rfl rfl rfl (by first | exact e1) ⟨rfl, rfl, rfl, rfl⟩ rfl rfl rfl ?_
                  | refine ep_bin rfl rfl (by first | exact b_add (by omega) (by omega) | exact b_lss) ?_ | refine sp_store rfl rfl rfl rfl rfl rfl rfl rfl rfl rfl ?_ | refine sp_alloc rfl rfl ?_ | refine sp_idx rfl rfl rfl (by omega) rfl ?_
                  | refine ep_loadS rfl rfl rfl (by first | exact ints_get (by omega) | exact zints_get (by omega) | exact fget (by omega) | assumption) ?_ | refine ep_loadSN rfl rfl rfl (by first | exact prs_get (by omega) | exact fns_get (by omega)) ?_
                  | refine ep_mkfn rfl ?_)
                | (refine g_ops ?_; first | refine eo_none ?_ | refine eo_nil ?_)
                | (refine g_dops ?_; first | refine ed_none ?_ | refine ed_nil ?_)
                | refine ed_same rfl ?_ | refine ed_one rfl rfl rfl rfl ?_ | refine ed_two rfl rfl rfl rfl rfl rfl rfl ?_ | refine ed_write rfl rfl ?_
                | (refine g_code ?_; first | refine ec_seq ?_ | refine ec_region ?_ | refine ec_draw ?_ | refine ec_block ?_ | refine ec_skip ?_ | refine ec_exit ?_ | refine ec_ret ?_ | refine ec_condT rfl ?_ | refine ec_condF rfl ?_ | refine ec_condTH rfl (by assumption) ?_ | refine ec_condFH rfl (by assumption) ?_)
                | refine ek_seqN ?_ | refine ek_seqX ?_ | refine ek_seqR ?_ | refine ek_blkN ?_ | refine ek_blkR ?_ | refine ek_blkX ?_ | refine ek_blkY rfl ?_)
              exact rnd_out (by rfl) (by simp) (scmp2 (by rfl) (by rfl) (by exact ⟨rfl, rfl, rfl⟩) (by rfl) (by first | rfl | (simp; done) | (simp [ints, prs]; done)) (by rfl) (by first | rfl | (simp; done) | (simp [ints, prs]; done)))
  · have hlt : decide (((fs.length : Nat) : Int) < (fs.length : Nat)) = false := decide_eq_false (by omega)
    unfold m52_0
    repeat' (first
      | (refine g_op ?_; first
        | refine ep_mov rfl ?_ | refine ep_load1 rfl rfl rfl rfl ?_ | refine sp_loadN rfl rfl rfl rfl rfl ?_
        | refine ep_bin rfl rfl (by first | exact b_add (by omega) (by omega) | exact b_lss) ?_ | refine sp_store rfl rfl rfl rfl rfl rfl rfl rfl rfl rfl ?_ | refine sp_alloc rfl rfl ?_ | refine sp_idx rfl rfl rfl (by omega) rfl ?_
        | refine ep_loadS rfl rfl rfl (by first | exact ints_get (by omega) | exact zints_get (by omega) | exact fget (by omega) | assumption) ?_ | refine ep_loadSN rfl rfl rfl (by first | exact prs_get (by omega) | exact fns_get (by omega)) ?_
        | refine ep_mkfn rfl ?_)
      | (refine g_ops ?_; first | refine eo_none ?_ | refine eo_nil ?_)
      | (refine g_dops ?_; first | refine ed_none ?_ | refine ed_nil ?_)
      | refine ed_same rfl ?_ | refine ed_one rfl rfl rfl rfl ?_ | refine ed_two rfl rfl rfl rfl rfl rfl rfl ?_ | refine ed_write rfl rfl ?_
      | (refine g_code ?_; first | refine ec_seq ?_ | refine ec_region ?_ | refine ec_draw ?_ | refine ec_block ?_ | refine ec_skip ?_ | refine ec_exit ?_ | refine ec_ret ?_ | refine ec_condT rfl ?_ | refine ec_condF rfl ?_ | refine ec_condTH rfl (by assumption) ?_ | refine ec_condFH rfl (by assumption) ?_)
      | refine ek_seqN ?_ | refine ek_seqX ?_ | refine ek_seqR ?_ | refine ek_blkN ?_ | refine ek_blkR ?_ | refine ek_blkX ?_ | refine ek_blkY rfl ?_)
    exact rnd_out (by rfl) (by simp) (scmp2 (by rfl) (by rfl) (by exact ⟨rfl, rfl, rfl⟩) (by rfl) (by first | rfl | (simp; done) | (simp [ints, prs]; done)) (by rfl) (by first | rfl | (simp; done) | (simp [ints, prs]; done)))
theorem ev52 (fs : List (Int × Int)) (a b : Int) (hln : fs.length ≤ 1048576) : Ev cx 52 [.sl 0 0 fs.length, .agg [.int .i64 a, .int .i64 b]] [⟨fns fs, 2, 0, some 0, false⟩] (.tup [.int .i64 (lsR fs a b).1, slV .nils 1 (lsR fs a b).2.1, .int .i64 (lsR fs a b).2.2]) (⟨fns fs, 2, 0, some 0, false⟩ :: slH 1 2 (prs a.toNat) (lsR fs a b).2.1) := by
  by_cases h0 : acode fs a b = 0
  · have e1 := evdo_ok fs a b hln h0
    obtain ⟨g1, g2⟩ := acode_0 h0
    obtain ⟨ha, hl, hz1, hz2⟩ := gcode_0 g2
    by_cases h : dpt fs a b < 0
    · rw [if_pos h] at e1
      have hR : lsR fs a b = (0, [], 4) := by unfold lsR; rw [if_pos h0, if_pos h]
      rw [hR]
      refine has52.eev rfl rfl ?_
      unfold m52
      repeat' (first
        | (refine g_op ?_; first
          | refine ep_mov rfl ?_ | refine sp_loadN rfl rfl rfl rfl rfl ?_
          | refine ep_call0 rfl (by first | exact e1) rfl rfl ?_
          | refine sp_call rfl rfl rfl rfl (by first | exact e1) ⟨rfl, rfl, rfl, rfl⟩ rfl rfl rfl ?_
          | refine ep_bin rfl rfl (by first | exact b_eql | exact b_neq) ?_ | refine ep_extract rfl rfl ?_ | refine ep_lenS rfl ?_ | refine ep_lenN rfl ?_ | refine ep_lenE rfl ?_ | refine sp_box rfl rfl rfl rfl rfl ?_)
        | (refine g_ops ?_; first | refine eo_none ?_ | refine eo_nil ?_)
        | (refine g_code ?_; first | refine ec_seq ?_ | refine ec_region ?_ | refine ec_block ?_ | refine ec_skip ?_ | refine ec_ret ?_ | refine ec_condT rfl ?_ | refine ec_condF rfl ?_ | refine ec_condTH rfl (by assumption) ?_ | refine ec_condFH rfl (by assumption) ?_)
        | refine ek_seqN ?_ | refine ek_seqX ?_ | refine ek_seqR ?_ | refine ek_blkN ?_ | refine ek_blkR ?_ | refine ek_blkX ?_ | refine ek_blkY rfl ?_)
      refine sfin (.inr rfl) (by rfl) (by rfl) (by exact ⟨rfl, rfl, rfl⟩) (by rfl) (by rfl) (by rfl) (by first | rfl | (simp; done) | (simp [ints, prs]; done))
    · rw [if_neg h] at e1
      by_cases hz : dpt fs a b = 0
      · have hR : lsR fs a b = (0, [], 5) := by unfold lsR; rw [if_pos h0, if_neg h, if_pos hz]
        rw [hR]
        rw [hz] at e1
        refine has52.eev rfl rfl ?_
        unfold m52
        repeat' (first
          | (refine g_op ?_; first
            | refine ep_mov rfl ?_ | refine sp_loadN rfl rfl rfl rfl rfl ?_
            | refine ep_call0 rfl (by first | exact e1) rfl rfl ?_
            | refine sp_call rfl rfl rfl rfl (by first | exact e1) ⟨rfl, rfl, rfl, rfl⟩ rfl rfl rfl ?_
            | refine ep_bin rfl rfl (by first | exact b_eql | exact b_neq) ?_ | refine ep_extract rfl rfl ?_ | refine ep_lenS rfl ?_ | refine ep_lenN rfl ?_ | refine ep_lenE rfl ?_ | refine sp_box rfl rfl rfl rfl rfl ?_)
          | (refine g_ops ?_; first | refine eo_none ?_ | refine eo_nil ?_)
          | (refine g_code ?_; first | refine ec_seq ?_ | refine ec_region ?_ | refine ec_block ?_ | refine ec_skip ?_ | refine ec_ret ?_ | refine ec_condT rfl ?_ | refine ec_condF rfl ?_ | refine ec_condTH rfl (by assumption) ?_ | refine ec_condFH rfl (by assumption) ?_)
          | refine ek_seqN ?_ | refine ek_seqX ?_ | refine ek_seqR ?_ | refine ek_blkN ?_ | refine ek_blkR ?_ | refine ek_blkX ?_ | refine ek_blkY rfl ?_)
        refine sfin (.inr rfl) (by rfl) (by rfl) (by exact ⟨rfl, rfl, rfl⟩) (by rfl) (by rfl) (by rfl) (by first | rfl | (simp; done) | (simp [ints, prs]; done))
      · have hR : lsR fs a b = (match lsX fs a.toNat (dpt fs a b).toNat b.toNat with | none => (0, [], 4) | some x => (x.1, x.2, 0)) := by rw [lsR, if_pos h0, if_neg h, if_neg hz]
        obtain ⟨n, g, rfl, rfl, a1, a2, a3⟩ := isFn_nat g1
        have hdd : dpt fs (n : Nat) (g : Nat) = (depL fs n).getD g 0 := rfl
        obtain ⟨d, hd⟩ := Int.eq_ofNat_of_zero_le (show 0 ≤ dpt fs (n : Nat) (g : Nat) by omega)
        have hdb := dep_bn fs n g
        have h23 : R2 n ≤ 8 := by have := R2_mono (i := n) (n := 3) (by omega); have h8 : R2 3 = 8 := by { unfold R2; rfl }; omega
        have h2 : R2 (R2 n) ≤ 256 := by have := R2_mono (i := R2 n) (n := 8) h23; have h8 : R2 8 = 256 := by { unfold R2; rfl }; omega
        rw [hd] at e1 hz hR
        rw [← hdd, hd] at hdb
        have hqz : (((d : Nat) : Int) == 0) = false := by simpa using hz
        have hd1 : 1 ≤ d := by omega
        simp only [Int.toNat_natCast] at e1 hR ⊢
        have hN : (depL fs n).length = R2 (R2 n) := depL_len fs n
        have hne := kw_ne (n := n) (N := R2 (R2 n)) (d := d) (D := depL fs n) rfl (dep_0 (by omega)) hd1
        have e2 := evkn n (R2 (R2 n)) d fs (depL fs n) hN rfl (by omega) (by omega) _ rfl hne
        generalize hL : kwI (R2 (R2 n)) d (depL fs n) = L at *
        rw [show selm (fun b => decide (0 ≤ (depL fs n).getD b 0 ∧ (depL fs n).getD b 0 ≤ (d : Int) - 1)) idn (R2 (R2 n)) = L from hL] at e2
        rw [hR]
        cases hX : lsX fs n d g with
        | none =>
          have lp := lpls n (R2 (R2 n)) d g fs L rfl (by omega) ha hln (by omega) hL (by rw [← hdd, hd]) hd1 _ (by rw [hX]; try rfl)
          refine has52.eev rfl rfl ?_
          unfold m52
          repeat' (first
            | refine sc_loop lp rfl rfl ⟨rfl, rfl, rfl⟩ rfl rfl rfl ?_
            | (refine g_op ?_; first
              | refine ep_mov rfl ?_ | refine sp_loadN rfl rfl rfl rfl rfl ?_
              | refine ep_call0 rfl (by first | exact e1 | exact e2) rfl rfl ?_
              | refine sp_call rfl rfl rfl rfl (by first | exact e1 | exact e2) ⟨rfl, rfl, rfl, rfl⟩ rfl rfl rfl ?_
              | refine ep_bin rfl rfl (by first | exact b_eql | exact b_neq) ?_ | refine ep_extract rfl rfl ?_ | refine ep_lenS rfl ?_ | refine ep_lenN rfl ?_ | refine ep_lenE rfl ?_ | refine sp_box rfl rfl rfl rfl rfl ?_)
            | (refine g_ops ?_; first | refine eo_none ?_ | refine eo_nil ?_)
            | (refine g_code ?_; first | refine ec_seq ?_ | refine ec_region ?_ | refine ec_block ?_ | refine ec_skip ?_ | refine ec_ret ?_ | refine ec_condT rfl ?_ | refine ec_condF rfl ?_ | refine ec_condTH rfl (by assumption) ?_ | refine ec_condFH rfl (by assumption) ?_)
            | refine ek_seqN ?_ | refine ek_seqX ?_ | refine ek_seqR ?_ | refine ek_blkN ?_ | refine ek_blkR ?_ | refine ek_blkX ?_ | refine ek_blkY rfl ?_)
          refine sfin (.inr rfl) (by rfl) (by rfl) (by exact ⟨rfl, rfl, rfl⟩) (by rfl) (by rfl) (by rfl) (by first | rfl | (simp; done) | (simp [ints, prs]; done))
        | some x =>
          obtain ⟨i, t⟩ := x
          cases t with
          | nil =>
            have lp := lpls n (R2 (R2 n)) d g fs L rfl (by omega) ha hln (by omega) hL (by rw [← hdd, hd]) hd1 _ (by rw [hX]; try rfl)
            refine has52.eev rfl rfl ?_
            unfold m52
            repeat' (first
              | refine sc_loop lp rfl rfl ⟨rfl, rfl, rfl⟩ rfl rfl rfl ?_
              | (refine g_op ?_; first
                | refine ep_mov rfl ?_ | refine sp_loadN rfl rfl rfl rfl rfl ?_
                | refine ep_call0 rfl (by first | exact e1 | exact e2) rfl rfl ?_
                | refine sp_call rfl rfl rfl rfl (by first | exact e1 | exact e2) ⟨rfl, rfl, rfl, rfl⟩ rfl rfl rfl ?_
                | refine ep_bin rfl rfl (by first | exact b_eql | exact b_neq) ?_ | refine ep_extract rfl rfl ?_ | refine ep_lenS rfl ?_ | refine ep_lenN rfl ?_ | refine ep_lenE rfl ?_ | refine sp_box rfl rfl rfl rfl rfl ?_)
              | (refine g_ops ?_; first | refine eo_none ?_ | refine eo_nil ?_)
              | (refine g_code ?_; first | refine ec_seq ?_ | refine ec_region ?_ | refine ec_block ?_ | refine ec_skip ?_ | refine ec_ret ?_ | refine ec_condT rfl ?_ | refine ec_condF rfl ?_ | refine ec_condTH rfl (by assumption) ?_ | refine ec_condFH rfl (by assumption) ?_)
              | refine ek_seqN ?_ | refine ek_seqX ?_ | refine ek_seqR ?_ | refine ek_blkN ?_ | refine ek_blkR ?_ | refine ek_blkX ?_ | refine ek_blkY rfl ?_)
            refine sfin (.inr rfl) (by rfl) (by rfl) (by exact ⟨rfl, rfl, rfl⟩) (by rfl) (by rfl) (by rfl) (by first | rfl | (simp; done) | (simp [ints, prs]; done))
          | cons y ys =>
            have lp := lpls n (R2 (R2 n)) d g fs L rfl (by omega) ha hln (by omega) hL (by rw [← hdd, hd]) hd1 _ (by rw [hX]; try rfl)
            refine has52.eev rfl rfl ?_
            unfold m52
            repeat' (first
              | refine sc_loop lp rfl rfl ⟨rfl, rfl, rfl⟩ rfl rfl rfl ?_
              | (refine g_op ?_; first
                | refine ep_mov rfl ?_ | refine sp_loadN rfl rfl rfl rfl rfl ?_
                | refine ep_call0 rfl (by first | exact e1 | exact e2) rfl rfl ?_
                | refine sp_call rfl rfl rfl rfl (by first | exact e1 | exact e2) ⟨rfl, rfl, rfl, rfl⟩ rfl rfl rfl ?_
                | refine ep_bin rfl rfl (by first | exact b_eql | exact b_neq) ?_ | refine ep_extract rfl rfl ?_ | refine ep_lenS rfl ?_ | refine ep_lenN rfl ?_ | refine ep_lenE rfl ?_ | refine sp_box rfl rfl rfl rfl rfl ?_)
              | (refine g_ops ?_; first | refine eo_none ?_ | refine eo_nil ?_)
              | (refine g_code ?_; first | refine ec_seq ?_ | refine ec_region ?_ | refine ec_block ?_ | refine ec_skip ?_ | refine ec_ret ?_ | refine ec_condT rfl ?_ | refine ec_condF rfl ?_ | refine ec_condTH rfl (by assumption) ?_ | refine ec_condFH rfl (by assumption) ?_)
              | refine ek_seqN ?_ | refine ek_seqX ?_ | refine ek_seqR ?_ | refine ek_blkN ?_ | refine ek_blkR ?_ | refine ek_blkX ?_ | refine ek_blkY rfl ?_)
            refine sfin (.inr rfl) (by rfl) (by rfl) (by exact ⟨rfl, rfl, rfl⟩) (by rfl) (by rfl) (by rfl) (by first | rfl | (simp; done) | (simp [ints, prs]; done))
  · have hR : lsR fs a b = (0, [], acode fs a b) := by unfold lsR; rw [if_neg h0]
    have e1 := evdo_bad fs a b hln h0
    have hq2 : (acode fs a b != 0) = true := by simpa using h0
    rw [hR]
    refine has52.eev rfl rfl ?_
    unfold m52
    repeat' (first
      | (refine g_op ?_; first
        | refine ep_mov rfl ?_ | refine sp_loadN rfl rfl rfl rfl rfl ?_
        | refine ep_call0 rfl (by first | exact e1) rfl rfl ?_
        | refine sp_call rfl rfl rfl rfl (by first | exact e1) ⟨rfl, rfl, rfl, rfl⟩ rfl rfl rfl ?_
        | refine ep_bin rfl rfl (by first | exact b_eql | exact b_neq) ?_ | refine ep_extract rfl rfl ?_ | refine ep_lenS rfl ?_ | refine ep_lenN rfl ?_ | refine ep_lenE rfl ?_ | refine sp_box rfl rfl rfl rfl rfl ?_)
      | (refine g_ops ?_; first | refine eo_none ?_ | refine eo_nil ?_)
      | (refine g_code ?_; first | refine ec_seq ?_ | refine ec_region ?_ | refine ec_block ?_ | refine ec_skip ?_ | refine ec_ret ?_ | refine ec_condT rfl ?_ | refine ec_condF rfl ?_ | refine ec_condTH rfl (by assumption) ?_ | refine ec_condFH rfl (by assumption) ?_)
      | refine ek_seqN ?_ | refine ek_seqX ?_ | refine ek_seqR ?_ | refine ek_blkN ?_ | refine ek_blkR ?_ | refine ek_blkX ?_ | refine ek_blkY rfl ?_)
    refine sfin (.inr rfl) (by rfl) (by rfl) (by exact ⟨rfl, rfl, rfl⟩) (by rfl) (by rfl) (by rfl) (by first | rfl | (simp; done) | (simp [ints, prs]; done))


end Go.Proofs.Ytdmpajkcpdjfbaa
