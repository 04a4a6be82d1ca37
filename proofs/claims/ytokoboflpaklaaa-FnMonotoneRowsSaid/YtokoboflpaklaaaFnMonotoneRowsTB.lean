/- What each function that the statement reaches returns. -/
import Derived.Test.YtokoboflpaklaaaFnMonotoneRowsTA
set_option linter.unusedVariables false
set_option linter.unusedSimpArgs false
set_option maxRecDepth 100000
set_option maxHeartbeats 4000000
namespace Go.Proofs.Ytokoboflpaklaaa
open Go Go.Proofs.Ytokoboflpaklaaa.Mi
attribute [local irreducible] code opsK opsDK gopK opK seqK blockK callK binV
attribute [local irreducible] R2 bt
theorem lpix_endsix (fb : Nat) (bel : Nat → Nat → Bool) (hbel : ∀ r s : Nat, r < 65536 → s < 65536 → Ev cx fb [.int .i64 r, .int .i64 s] [] (.bool (bel r s)) []) (rs : List Nat) (hrn : rs.length ≤ 16) (hrl : ∀ j, j < rs.length → rs.getD j 0 < 65536) (l : List Nat) (hln : l.length ≤ 1048576) (hl : ∀ j, j < l.length → l.getD j 0 < 65536) (o : Out) (ho : (match firstF (fun i => !(fun j => (delQ rs bel) (l.getD j 0)) i) 0 (l.length) with | none => (⟨.exit 0, [], [⟨ints l, 1, 0, some 0, false⟩, ⟨[.sl 2 0 rs.length], 1, 1, some 0, true⟩, ⟨ints rs, 1, 2, some 0, false⟩, ⟨[.fn fb []], 1, 3, some 0, true⟩]⟩ : Out) | some x => ⟨.ret, [(4, .int .i64 (x : Nat))], [⟨ints l, 1, 0, some 0, false⟩, ⟨[.sl 2 0 rs.length], 1, 1, some 0, true⟩, ⟨ints rs, 1, 2, some 0, false⟩, ⟨[.fn fb []], 1, 3, some 0, true⟩]⟩) = o) :
    LpS cx 19 4 m188_0 [(0, .sl 0 0 l.length), (1, .fn 186 [.ptr 1 0, .ptr 3 0]), (7, .int .i64 (l.length : Nat)), (8, .int .i64 (0 : Nat))] [⟨ints l, 1, 0, some 0, false⟩, ⟨[.sl 2 0 rs.length], 1, 1, some 0, true⟩, ⟨ints rs, 1, 2, some 0, false⟩, ⟨[.fn fb []], 1, 3, some 0, true⟩] o.x o.e o.h := by
  refine lp_brk (l.length) (fun i => !(fun j => (delQ rs bel) (l.getD j 0)) i) (fun _ => ()) (fun i _ => [(0, .sl 0 0 l.length), (1, .fn 186 [.ptr 1 0, .ptr 3 0]), (7, .int .i64 (l.length : Nat)), (8, .int .i64 (i : Nat))]) (fun i _ => [⟨ints l, 1, 0, some 0, false⟩, ⟨[.sl 2 0 rs.length], 1, 1, some 0, true⟩, ⟨ints rs, 1, 2, some 0, false⟩, ⟨[.fn fb []], 1, 3, some 0, true⟩]) (fun _ => ⟨.exit 0, [], [⟨ints l, 1, 0, some 0, false⟩, ⟨[.sl 2 0 rs.length], 1, 1, some 0, true⟩, ⟨ints rs, 1, 2, some 0, false⟩, ⟨[.fn fb []], 1, 3, some 0, true⟩]⟩) (fun i _ => ⟨.ret, [(4, .int .i64 (i : Nat))], [⟨ints l, 1, 0, some 0, false⟩, ⟨[.sl 2 0 rs.length], 1, 1, some 0, true⟩, ⟨ints rs, 1, 2, some 0, false⟩, ⟨[.fn fb []], 1, 3, some 0, true⟩]⟩) ?_ ?_ ?_ (l.length) 0 o (by omega) (fun h => by rw [← ho, firstF_none fun x h1 h2 => h x h1 (by omega)]) (fun x h1 h2 h3 h4 => by rw [← ho, firstF_some h1 (by omega) h3 h4])
  · intro i s hi hs hp
    have hlt : decide ((i : Int) < (l.length : Nat)) = true := decide_eq_true (by omega)
    have hp' : (!(fun j => (delQ rs bel) (l.getD j 0)) i) = true := hp
    refine ⟨(), rfl, ?_⟩
    have e0 := ev186 fb bel hbel rs hrn hrl (l.getD i 0) (hl i hi)
    have hq : ((delQ rs bel) (l.getD i 0)) = !((!(fun j => (delQ rs bel) (l.getD j 0)) i)) := by simp
    rw [hp'] at hq
    rw [hq] at e0
    unfold m188_0
    repeat' (first
      | (refine g_op ?_; first
        | refine ep_mov rfl ?_ | refine ep_load1 rfl rfl rfl rfl ?_
        | refine sp_callv rfl rfl rfl rfl rfl rfl (by first | exact e0) ⟨rfl, rfl, rfl, rfl⟩ rfl rfl rfl ?_
        | refine sp_callb rfl rfl rfl rfl rfl rfl (by first | exact e0) ⟨rfl, rfl, rfl, rfl⟩ rfl rfl rfl ?_
        | refine ep_bin rfl rfl (by first | exact b_add (by omega) (by omega) | exact b_lss) ?_ | refine sp_idx rfl rfl rfl (by omega) rfl ?_ | refine ep_loadS rfl rfl rfl (by first | exact ints_get (by omega) | exact zints_get (by omega) | exact fget (by omega) | assumption) ?_)
      | (refine g_ops ?_; first | refine eo_none ?_ | refine eo_nil ?_)
      | (refine g_code ?_; first | refine ec_seq ?_ | refine ec_region ?_ | refine ec_block ?_ | refine ec_skip ?_ | refine ec_exit ?_ | refine ec_ret ?_ | refine ec_condT rfl ?_ | refine ec_condF rfl ?_ | refine ec_condTH rfl (by assumption) ?_ | refine ec_condFH rfl (by assumption) ?_)
      | refine ek_seqN ?_ | refine ek_seqX ?_ | refine ek_seqR ?_ | refine ek_blkN ?_ | refine ek_blkR ?_ | refine ek_blkX ?_ | refine ek_blkY rfl ?_)
    exact rnd_on (by rfl) (scmp2 (by rfl) (by rfl) (by exact ⟨rfl, rfl, rfl⟩) (by rfl) (by first | rfl | (simp; done) | (simp [ints, prs]; done)) (by rfl) (by first | rfl | (simp; done) | (simp [ints, prs]; done)))
  · intro i s hi hs hp
    have hlt : decide ((i : Int) < (l.length : Nat)) = true := decide_eq_true (by omega)
    have hp' : (!(fun j => (delQ rs bel) (l.getD j 0)) i) = false := hp
    have e0 := ev186 fb bel hbel rs hrn hrl (l.getD i 0) (hl i hi)
    have hq : ((delQ rs bel) (l.getD i 0)) = !((!(fun j => (delQ rs bel) (l.getD j 0)) i)) := by simp
    rw [hp'] at hq
    rw [hq] at e0
    unfold m188_0
    repeat' (first
      | (refine g_op ?_; first
        | refine ep_mov rfl ?_ | refine ep_load1 rfl rfl rfl rfl ?_
        | refine sp_callv rfl rfl rfl rfl rfl rfl (by first | exact e0) ⟨rfl, rfl, rfl, rfl⟩ rfl rfl rfl ?_
        | refine sp_callb rfl rfl rfl rfl rfl rfl (by first | exact e0) ⟨rfl, rfl, rfl, rfl⟩ rfl rfl rfl ?_
        | refine ep_bin rfl rfl (by first | exact b_add (by omega) (by omega) | exact b_lss) ?_ | refine sp_idx rfl rfl rfl (by omega) rfl ?_ | refine ep_loadS rfl rfl rfl (by first | exact ints_get (by omega) | exact zints_get (by omega) | exact fget (by omega) | assumption) ?_)
      | (refine g_ops ?_; first | refine eo_none ?_ | refine eo_nil ?_)
      | (refine g_code ?_; first | refine ec_seq ?_ | refine ec_region ?_ | refine ec_block ?_ | refine ec_skip ?_ | refine ec_exit ?_ | refine ec_ret ?_ | refine ec_condT rfl ?_ | refine ec_condF rfl ?_ | refine ec_condTH rfl (by assumption) ?_ | refine ec_condFH rfl (by assumption) ?_)
      | refine ek_seqN ?_ | refine ek_seqX ?_ | refine ek_seqR ?_ | refine ek_blkN ?_ | refine ek_blkR ?_ | refine ek_blkX ?_ | refine ek_blkY rfl ?_)
    exact rnd_out (by rfl) (by simp) (scmp2 (by rfl) (by rfl) (by exact ⟨rfl, rfl, rfl⟩) (by rfl) (by first | rfl | (simp; done) | (simp [ints, prs]; done)) (by rfl) (by first | rfl | (simp; done) | (simp [ints, prs]; done)))
  · intro s hs
    have hlt : decide (((l.length : Nat) : Int) < (l.length : Nat)) = false := decide_eq_false (by omega)
    unfold m188_0
    repeat' (first
      | (refine g_op ?_; first
        | refine ep_mov rfl ?_ | refine ep_load1 rfl rfl rfl rfl ?_
        | refine sp_callv rfl rfl rfl rfl rfl rfl (by first | exact e0) ⟨rfl, rfl, rfl, rfl⟩ rfl rfl rfl ?_
        | refine sp_callb rfl rfl rfl rfl rfl rfl (by first | exact e0) ⟨rfl, rfl, rfl, rfl⟩ rfl rfl rfl ?_
        | refine ep_bin rfl rfl (by first | exact b_add (by omega) (by omega) | exact b_lss) ?_ | refine sp_idx rfl rfl rfl (by omega) rfl ?_ | refine ep_loadS rfl rfl rfl (by first | exact ints_get (by omega) | exact zints_get (by omega) | exact fget (by omega) | assumption) ?_)
      | (refine g_ops ?_; first | refine eo_none ?_ | refine eo_nil ?_)
      | (refine g_code ?_; first | refine ec_seq ?_ | refine ec_region ?_ | refine ec_block ?_ | refine ec_skip ?_ | refine ec_exit ?_ | refine ec_ret ?_ | refine ec_condT rfl ?_ | refine ec_condF rfl ?_ | refine ec_condTH rfl (by assumption) ?_ | refine ec_condFH rfl (by assumption) ?_)
      | refine ek_seqN ?_ | refine ek_seqX ?_ | refine ek_seqR ?_ | refine ek_blkN ?_ | refine ek_blkR ?_ | refine ek_blkX ?_ | refine ek_blkY rfl ?_)
    exact rnd_out (by rfl) (by simp) (scmp2 (by rfl) (by rfl) (by exact ⟨rfl, rfl, rfl⟩) (by rfl) (by first | rfl | (simp; done) | (simp [ints, prs]; done)) (by rfl) (by first | rfl | (simp; done) | (simp [ints, prs]; done)))
theorem evix_endsix (fb : Nat) (bel : Nat → Nat → Bool) (hbel : ∀ r s : Nat, r < 65536 → s < 65536 → Ev cx fb [.int .i64 r, .int .i64 s] [] (.bool (bel r s)) []) (rs : List Nat) (hrn : rs.length ≤ 16) (hrl : ∀ j, j < rs.length → rs.getD j 0 < 65536) (l : List Nat) (hln : l.length ≤ 1048576) (hl : ∀ j, j < l.length → l.getD j 0 < 65536) : Ev cx 188 [.sl 0 0 l.length, .fn 186 [.ptr 1 0, .ptr 3 0]] [⟨ints l, 1, 0, some 0, false⟩, ⟨[.sl 2 0 rs.length], 1, 1, some 0, true⟩, ⟨ints rs, 1, 2, some 0, false⟩, ⟨[.fn fb []], 1, 3, some 0, true⟩] (.int .i64 (match firstF (fun i => !(fun j => (delQ rs bel) (l.getD j 0)) i) 0 (l.length) with | none => -1 | some x => ((x : Nat) : Int))) [⟨ints l, 1, 0, some 0, false⟩, ⟨[.sl 2 0 rs.length], 1, 1, some 0, true⟩, ⟨ints rs, 1, 2, some 0, false⟩, ⟨[.fn fb []], 1, 3, some 0, true⟩] := by
  cases hs : firstF (fun i => !(fun j => (delQ rs bel) (l.getD j 0)) i) 0 (l.length) with
  | none =>
    have lp := lpix_endsix fb bel hbel rs hrn hrl l hln hl _ (by rw [hs])
    refine has188.eev rfl rfl ?_
    unfold m188
    repeat' (first
      | refine sc_loop lp rfl rfl ⟨rfl, rfl, rfl⟩ rfl rfl rfl ?_
      | (refine g_op ?_; first
        | refine ep_mov rfl ?_
        | refine ep_lenS rfl ?_ | refine ep_lenN rfl ?_ | refine ep_lenE rfl ?_)
      | (refine g_ops ?_; first | refine eo_none ?_ | refine eo_nil ?_)
      | (refine g_code ?_; first | refine ec_seq ?_ | refine ec_region ?_ | refine ec_block ?_ | refine ec_ret ?_)
      | refine ek_seqN ?_ | refine ek_seqX ?_ | refine ek_seqR ?_ | refine ek_blkN ?_ | refine ek_blkR ?_ | refine ek_blkX ?_ | refine ek_blkY rfl ?_)
    refine sfin (.inr rfl) (by rfl) (by rfl) (by exact ⟨rfl, rfl, rfl⟩) (by rfl) (by rfl) (by rfl) (by first | rfl | (simp; done) | (simp [ints, prs]; done))
  | some x =>
    have lp := lpix_endsix fb bel hbel rs hrn hrl l hln hl _ (by rw [hs])
    refine has188.eev rfl rfl ?_
    unfold m188
    repeat' (first
      | refine sc_loop lp rfl rfl ⟨rfl, rfl, rfl⟩ rfl rfl rfl ?_
      | (refine g_op ?_; first
        | refine ep_mov rfl ?_
        | refine ep_lenS rfl ?_ | refine ep_lenN rfl ?_ | refine ep_lenE rfl ?_)
      | (refine g_ops ?_; first | refine eo_none ?_ | refine eo_nil ?_)
      | (refine g_code ?_; first | refine ec_seq ?_ | refine ec_region ?_ | refine ec_block ?_ | refine ec_ret ?_)
      | refine ek_seqN ?_ | refine ek_seqX ?_ | refine ek_seqR ?_ | refine ek_blkN ?_ | refine ek_blkR ?_ | refine ek_blkX ?_ | refine ek_blkY rfl ?_)
    refine sfin (.inr rfl) (by rfl) (by rfl) (by exact ⟨rfl, rfl, rfl⟩) (by rfl) (by rfl) (by rfl) (by first | rfl | (simp; done) | (simp [ints, prs]; done))
theorem lpdf_ends (fb : Nat) (bel : Nat → Nat → Bool) (hbel : ∀ r s : Nat, r < 65536 → s < 65536 → Ev cx fb [.int .i64 r, .int .i64 s] [] (.bool (bel r s)) []) (rs : List Nat) (hrn : rs.length ≤ 16) (hrl : ∀ j, j < rs.length → rs.getD j 0 < 65536) (l : List Nat) (hln : l.length ≤ 1048576) (hl : ∀ j, j < l.length → l.getD j 0 < 65536) (i0 : Nat) (hi0 : i0 < l.length) :
    LpS cx 42 4 m184_0 [(0, .sl 0 0 l.length), (1, .fn 186 [.ptr 1 0, .ptr 3 0]), (5, .int .i64 ((kpt (delQ rs bel) l (i0 + 1 + (0))).length : Nat)), (6, .int .i64 (i0 + 1 + (0) : Nat))] [⟨ints (dls (delQ rs bel) l (i0 + 1 + (0))), 1, 0, some 0, false⟩, ⟨[.sl 2 0 rs.length], 1, 1, some 0, true⟩, ⟨ints rs, 1, 2, some 0, false⟩, ⟨[.fn fb []], 1, 3, some 0, true⟩] (⟨.exit 0, [(0, .sl 0 0 l.length), (5, .int .i64 ((kpt (delQ rs bel) l (i0 + 1 + (l.length - (i0 + 1)))).length : Nat))], [⟨ints (dls (delQ rs bel) l (i0 + 1 + (l.length - (i0 + 1)))), 1, 0, some 0, false⟩, ⟨[.sl 2 0 rs.length], 1, 1, some 0, true⟩, ⟨ints rs, 1, 2, some 0, false⟩, ⟨[.fn fb []], 1, 3, some 0, true⟩]⟩ : Out).x (⟨.exit 0, [(0, .sl 0 0 l.length), (5, .int .i64 ((kpt (delQ rs bel) l (i0 + 1 + (l.length - (i0 + 1)))).length : Nat))], [⟨ints (dls (delQ rs bel) l (i0 + 1 + (l.length - (i0 + 1)))), 1, 0, some 0, false⟩, ⟨[.sl 2 0 rs.length], 1, 1, some 0, true⟩, ⟨ints rs, 1, 2, some 0, false⟩, ⟨[.fn fb []], 1, 3, some 0, true⟩]⟩ : Out).e (⟨.exit 0, [(0, .sl 0 0 l.length), (5, .int .i64 ((kpt (delQ rs bel) l (i0 + 1 + (l.length - (i0 + 1)))).length : Nat))], [⟨ints (dls (delQ rs bel) l (i0 + 1 + (l.length - (i0 + 1)))), 1, 0, some 0, false⟩, ⟨[.sl 2 0 rs.length], 1, 1, some 0, true⟩, ⟨ints rs, 1, 2, some 0, false⟩, ⟨[.fn fb []], 1, 3, some 0, true⟩]⟩ : Out).h := by
  refine lp_st (l.length - (i0 + 1)) (fun _ => ()) (fun i _ => [(0, .sl 0 0 l.length), (1, .fn 186 [.ptr 1 0, .ptr 3 0]), (5, .int .i64 ((kpt (delQ rs bel) l (i0 + 1 + (i))).length : Nat)), (6, .int .i64 (i0 + 1 + (i) : Nat))]) (fun i _ => [⟨ints (dls (delQ rs bel) l (i0 + 1 + (i))), 1, 0, some 0, false⟩, ⟨[.sl 2 0 rs.length], 1, 1, some 0, true⟩, ⟨ints rs, 1, 2, some 0, false⟩, ⟨[.fn fb []], 1, 3, some 0, true⟩]) (fun _ => (⟨.exit 0, [(0, .sl 0 0 l.length), (5, .int .i64 ((kpt (delQ rs bel) l (i0 + 1 + (l.length - (i0 + 1)))).length : Nat))], [⟨ints (dls (delQ rs bel) l (i0 + 1 + (l.length - (i0 + 1)))), 1, 0, some 0, false⟩, ⟨[.sl 2 0 rs.length], 1, 1, some 0, true⟩, ⟨ints rs, 1, 2, some 0, false⟩, ⟨[.fn fb []], 1, 3, some 0, true⟩]⟩ : Out)) ?_ ?_ (l.length - (i0 + 1)) 0 (by omega)
  · intro i u_ hi hu_
    refine ⟨(), rfl, ?_⟩
    have hlt : decide ((i : Int) < (l.length - (i0 + 1) : Nat)) = true := decide_eq_true (by omega)
    have hlt2 : decide (((i0 + 1 + i : Nat) : Int) < (l.length : Nat)) = true := decide_eq_true (by omega)
    have hj : i0 + 1 + i < l.length := by omega
    have hadd : binV .add (.int .i64 (i0 + 1 + i : Nat)) (.int .i64 1) = some (.int .i64 (i0 + 1 + (i + 1) : Nat)) := b_addN (b := 1) (by omega)
    have hk := kpt_len (delQ rs bel) l (i0 + 1 + i)
    have hg := dls_get (q := (delQ rs bel)) hj
    have hdl := dls_len (q := (delQ rs bel)) (l := l) (j := i0 + 1 + i) (by omega)
    have e1 := ev186 fb bel hbel rs hrn hrl (l.getD (i0 + 1 + i) 0) (hl _ hj)
    cases hq : (delQ rs bel) (l.getD (i0 + 1 + i) 0)
    · rw [hq] at e1
      have hset := dls_set hj hq
      have hkt := kpt_t hj hq
      have hk1 : binV .add (.int .i64 ((kpt (delQ rs bel) l (i0 + 1 + i)).length : Nat)) (.int .i64 1) = some (.int .i64 ((kpt (delQ rs bel) l (i0 + 1 + (i + 1))).length : Nat)) := by
        rw [show (kpt (delQ rs bel) l (i0 + 1 + (i + 1))).length = (kpt (delQ rs bel) l (i0 + 1 + i)).length + 1 by rw [show i0 + 1 + (i + 1) = i0 + 1 + i + 1 from rfl, hkt]; simp]
        exact b_addN (b := 1) (by omega)
      unfold m184_0
      repeat' (first
        | refine ep_loadS rfl rfl rfl hg ?_
        | refine sp_storeS rfl rfl rfl rfl rfl rfl rfl (Nat.zero_le _) (by rw [ints_len, hdl]; omega) hset rfl ?_
        | (refine g_op ?_; first
          | refine ep_mov rfl ?_ | refine ep_load1 rfl rfl rfl rfl ?_
          | refine sp_callv rfl rfl rfl rfl rfl rfl (by first | exact e1) ⟨rfl, rfl, rfl, rfl⟩ rfl rfl rfl ?_
          | refine sp_callb rfl rfl rfl rfl rfl rfl (by first | exact e1) ⟨rfl, rfl, rfl, rfl⟩ rfl rfl rfl ?_
          | refine ep_bin rfl rfl (by first | exact hk1 | exact hadd | exact b_add (by omega) (by omega) | exact b_lss) ?_ | refine sp_store rfl rfl rfl rfl rfl rfl rfl rfl rfl rfl ?_ | refine ep_not rfl ?_
          | refine ep_lenS rfl ?_ | refine ep_lenN rfl ?_ | refine ep_lenE rfl ?_ | refine sp_idx rfl rfl rfl (by omega) rfl ?_ | refine ep_loadS rfl rfl rfl (by first | exact ints_get (by omega) | exact zints_get (by omega) | exact fget (by omega) | assumption) ?_)
        | (refine g_ops ?_; first | refine eo_none ?_ | refine eo_nil ?_)
        | (refine g_code ?_; first | refine ec_seq ?_ | refine ec_region ?_ | refine ec_block ?_ | refine ec_skip ?_ | refine ec_exit ?_ | refine ec_condT rfl ?_ | refine ec_condF rfl ?_ | refine ec_condTH rfl (by assumption) ?_ | refine ec_condFH rfl (by assumption) ?_)
        | refine ek_seqN ?_ | refine ek_seqX ?_ | refine ek_blkN ?_ | refine ek_blkR ?_ | refine ek_blkX ?_ | refine ek_blkY rfl ?_)
      exact rnd_on (by rfl) (scmp2 (by rfl) (by rfl) (by exact ⟨rfl, rfl, rfl⟩) (by rfl) (by first | rfl | (simp; done) | (simp [ints, prs]; done)) (by rfl) (by first | rfl | (simp; done) | (simp [ints, prs]; done)))
    rw [hq] at e1
    rw [show i0 + 1 + (i + 1) = i0 + 1 + i + 1 from rfl, kpt_f hj hq, dls_f hj hq] at *
    unfold m184_0
    repeat' (first
      | refine ep_loadS rfl rfl rfl hg ?_
      | (refine g_op ?_; first
        | refine ep_mov rfl ?_ | refine ep_load1 rfl rfl rfl rfl ?_
        | refine sp_callv rfl rfl rfl rfl rfl rfl (by first | exact e1) ⟨rfl, rfl, rfl, rfl⟩ rfl rfl rfl ?_
        | refine sp_callb rfl rfl rfl rfl rfl rfl (by first | exact e1) ⟨rfl, rfl, rfl, rfl⟩ rfl rfl rfl ?_
        | refine ep_bin rfl rfl (by first | exact hadd | exact b_add (by omega) (by omega) | exact b_lss) ?_ | refine sp_store rfl rfl rfl rfl rfl rfl rfl rfl rfl rfl ?_ | refine ep_not rfl ?_ | refine ep_lenS rfl ?_
        | refine ep_lenN rfl ?_ | refine ep_lenE rfl ?_ | refine sp_idx rfl rfl rfl (by omega) rfl ?_ | refine ep_loadS rfl rfl rfl (by first | exact ints_get (by omega) | exact zints_get (by omega) | exact fget (by omega) | assumption) ?_)
      | (refine g_ops ?_; first | refine eo_none ?_ | refine eo_nil ?_)
      | (refine g_code ?_; first | refine ec_seq ?_ | refine ec_region ?_ | refine ec_block ?_ | refine ec_skip ?_ | refine ec_exit ?_ | refine ec_condT rfl ?_ | refine ec_condF rfl ?_ | refine ec_condTH rfl (by assumption) ?_ | refine ec_condFH rfl (by assumption) ?_)
      | refine ek_seqN ?_ | refine ek_seqX ?_ | refine ek_blkN ?_ | refine ek_blkR ?_ | refine ek_blkX ?_ | refine ek_blkY rfl ?_)
    exact rnd_on (by rfl) (scmp2 (by rfl) (by rfl) (by exact ⟨rfl, rfl, rfl⟩) (by rfl) (by first | rfl | (simp; done) | (simp [ints, prs]; done)) (by rfl) (by first | rfl | (simp; done) | (simp [ints, prs]; done)))
  · intro u_ hu_
    have hlt : decide (((l.length - (i0 + 1) : Nat) : Int) < (l.length - (i0 + 1) : Nat)) = false := decide_eq_false (by omega)
    have hlt2 : decide (((i0 + 1 + (l.length - (i0 + 1)) : Nat) : Int) < (l.length : Nat)) = false := decide_eq_false (by omega)
    unfold m184_0
    repeat' (first
      | (refine g_op ?_; first
        | refine ep_mov rfl ?_ | refine ep_load1 rfl rfl rfl rfl ?_
        | refine ep_bin rfl rfl (by first | exact b_add (by omega) (by omega) | exact b_lss) ?_ | refine sp_store rfl rfl rfl rfl rfl rfl rfl rfl rfl rfl ?_ | refine ep_not rfl ?_ | refine ep_lenS rfl ?_
        | refine ep_lenN rfl ?_ | refine ep_lenE rfl ?_ | refine sp_idx rfl rfl rfl (by omega) rfl ?_ | refine ep_loadS rfl rfl rfl (by first | exact ints_get (by omega) | exact zints_get (by omega) | exact fget (by omega) | assumption) ?_)
      | (refine g_ops ?_; first | refine eo_none ?_ | refine eo_nil ?_)
      | (refine g_code ?_; first | refine ec_seq ?_ | refine ec_region ?_ | refine ec_block ?_ | refine ec_skip ?_ | refine ec_exit ?_ | refine ec_condT rfl ?_ | refine ec_condF rfl ?_ | refine ec_condTH rfl (by assumption) ?_ | refine ec_condFH rfl (by assumption) ?_)
      | refine ek_seqN ?_ | refine ek_seqX ?_ | refine ek_blkN ?_ | refine ek_blkR ?_ | refine ek_blkX ?_ | refine ek_blkY rfl ?_)
    exact rnd_out (by rfl) (by simp) (scmp2 (by rfl) (by rfl) (by exact ⟨rfl, rfl, rfl⟩) (by rfl) (by first | rfl | (simp; done) | (simp [ints, prs]; done)) (by rfl) (by first | rfl | (simp; done) | (simp [ints, prs]; done)))

theorem firstF_spec {p : Nat → Bool} : ∀ {j i : Nat}, (∀ x, firstF p i j = some x → i ≤ x ∧ x < i + j ∧ p x = false ∧ ∀ y, i ≤ y → y < x → p y = true) ∧ (firstF p i j = none → ∀ y, i ≤ y → y < i + j → p y = true)
  | 0, i => ⟨fun x h => by simp [firstF] at h, fun _ y h1 h2 => by omega⟩
  | j + 1, i => by
    obtain ⟨ih1, ih2⟩ := firstF_spec (p := p) (j := j) (i := i + 1)
    rw [firstF]
    by_cases e : p i = true
    · rw [if_pos e]
      refine ⟨fun x h => ?_, fun h y h1 h2 => ?_⟩
      · obtain ⟨a, b, c, d⟩ := ih1 x h
        refine ⟨by omega, by omega, c, fun y h1 h2 => ?_⟩
        by_cases g : y = i
        · rw [g]; exact e
        · exact d y (by omega) h2
      · by_cases g : y = i
        · rw [g]; exact e
        · exact ih2 h y (by omega) (by omega)
    · rw [if_neg e]
      refine ⟨fun x h => ?_, fun h => by simp at h⟩
      obtain rfl := Option.some.inj h
      exact ⟨Nat.le_refl _, by omega, by simpa using e, fun y h1 h2 => by omega⟩
theorem kpt_pre {q : Nat → Bool} {l : List Nat} : ∀ {m : Nat}, m ≤ l.length → (∀ j, j < m → q (l.getD j 0) = false) → kpt q l m = l.take m
  | 0, _, _ => by simp [kpt]
  | m + 1, h, hq => by
    rw [kpt_t (by omega) (hq m (by omega)), kpt_pre (by omega) fun j hj => hq j (by omega), List.take_add_one, List.getElem?_eq_getElem (by omega), List.getD_eq_getElem?_getD, List.getElem?_eq_getElem (by omega)]
    rfl
-- (impl.Func).ends
def m98_0 : MC := (.seq (.region [⟨(.bin .lss (.t 11) (.t 10)), (some 12), none⟩] false) (.seq (.cond (.t 12) .skip (.exit 0)) (.seq (.block 1 (.seq (.region [⟨(.mov (.t 11)), (some 13), none⟩, ⟨(.mov (.t 13)), (some 8), none⟩] false) (.seq (.region [⟨(.mov (.t 1)), (some 14), none⟩, ⟨(.mov (.t 8)), (some 15), none⟩, ⟨(.callv (.t 14) [(.t 15)]), (some 16), none⟩] false) (.cond (.t 16) (.region [⟨(.load none (.t 7)), (some 17), none⟩, ⟨(.mov (.t 8)), (some 18), none⟩, ⟨(.bslice 1 [(.int .i64 0)] 1 [(0, (1, (.t 18)))]), (some 19), none⟩, ⟨(.append 1 8 (.t 17) (.t 19)), (some 20), none⟩, ⟨(.store 1 (.t 7) (.t 20)), none, none⟩] false) .skip)))) (.region [⟨(.bin .add (.t 11) (.k (.int .i64 1))), (some 21), none⟩, ⟨(.mov (.t 21)), (some 11), none⟩] false))))
def m98 : MC := (.seq (.region [⟨(.box (.t 0)), (some 3), none⟩, ⟨(.box (.t 2)), (some 5), none⟩, ⟨(.mov (.k .nils)), (some 6), none⟩] false) (.seq (.region [⟨(.alloc [.nils]), (some 7), none⟩] false) (.seq (.seq (.region [⟨(.load (some 2) (.t 3)), (some 9), none⟩, ⟨(.call 182 [(.t 9)]), (some 10), none⟩, ⟨(.mov (.k (.int .i64 0))), (some 11), none⟩] false) (.block 0 (.loop m98_0))) (.seq (.region [⟨(.load none (.t 7)), (some 22), none⟩, ⟨(.call 185 [(.t 22)]), (some 23), none⟩, ⟨(.mkfn 186 [(.t 7), (.t 5)]), (some 24), none⟩, ⟨(.call 184 [(.t 23), (.t 24)]), (some 25), none⟩, ⟨(.mov (.t 25)), (some 6), none⟩] false) .ret))))
theorem has98 : Has cx 98 26 m98 [(.tmp 6)] :=
  ⟨⟨Try.f98, Try.f98.body.getD .skip, by kernel_rfl, by kernel_rfl, by kernel_rfl, by kernel_rfl, by kernel_rfl, by kernel_rfl⟩⟩
theorem evdf_ends (fb : Nat) (bel : Nat → Nat → Bool) (hbel : ∀ r s : Nat, r < 65536 → s < 65536 → Ev cx fb [.int .i64 r, .int .i64 s] [] (.bool (bel r s)) []) (rs : List Nat) (hrn : rs.length ≤ 16) (hrl : ∀ j, j < rs.length → rs.getD j 0 < 65536) (l : List Nat) (hln : l.length ≤ 1048576) (hl : ∀ j, j < l.length → l.getD j 0 < 65536) : Ev cx 184 [.sl 0 0 l.length, (.fn 186 [.ptr 1 0, .ptr 3 0])] [⟨ints l, 1, 0, some 0, false⟩, ⟨[.sl 2 0 rs.length], 1, 1, some 0, true⟩, ⟨ints rs, 1, 2, some 0, false⟩, ⟨[.fn fb []], 1, 3, some 0, true⟩] (.sl 0 0 (kpt (delQ rs bel) l l.length).length) [⟨ints (kpt (delQ rs bel) l l.length ++ List.replicate (l.length - (kpt (delQ rs bel) l l.length).length) 0), 1, 0, some 0, false⟩, ⟨[.sl 2 0 rs.length], 1, 1, some 0, true⟩, ⟨ints rs, 1, 2, some 0, false⟩, ⟨[.fn fb []], 1, 3, some 0, true⟩] := by
  have e1 := evix_endsix fb bel hbel rs hrn hrl l hln hl
  obtain ⟨f1, f2⟩ := firstF_spec (p := fun i => !(fun j => (delQ rs bel) (l.getD j 0)) i) (j := l.length) (i := 0)
  cases hs : firstF (fun i => !(fun j => (delQ rs bel) (l.getD j 0)) i) 0 l.length with
  | none =>
    rw [hs] at e1
    have hk := kpt_pre (q := (delQ rs bel)) (l := l) (Nat.le_refl _) (fun j hj => by have := f2 hs j (Nat.zero_le _) (by omega); simpa using this)
    rw [List.take_length] at hk
    rw [hk, Nat.sub_self, List.replicate_zero, List.append_nil]
    refine has184.eev rfl rfl ?_
    unfold m184
    repeat' (first
      | (refine g_op ?_; first
        | refine ep_mov rfl ?_
        | refine ep_call0 rfl (by first | exact e1) rfl rfl ?_
        | refine sp_call rfl rfl rfl rfl (by first | exact e1) ⟨rfl, rfl, rfl, rfl⟩ rfl rfl rfl ?_
        | refine ep_bin rfl rfl (by first | exact b_add (by omega) (by omega) | exact b_eql) ?_)
      | (refine g_ops ?_; first | refine eo_none ?_ | refine eo_nil ?_)
      | (refine g_code ?_; first | refine ec_seq ?_ | refine ec_region ?_ | refine ec_block ?_ | refine ec_skip ?_ | refine ec_ret ?_ | refine ec_condT rfl ?_ | refine ec_condF rfl ?_ | refine ec_condTH rfl (by assumption) ?_ | refine ec_condFH rfl (by assumption) ?_)
      | refine ek_seqN ?_ | refine ek_seqX ?_ | refine ek_seqR ?_ | refine ek_blkN ?_ | refine ek_blkR ?_ | refine ek_blkX ?_ | refine ek_blkY rfl ?_)
    refine sfin (.inr rfl) (by rfl) (by rfl) (by exact ⟨rfl, rfl, rfl⟩) (by rfl) (by rfl) (by rfl) (by first | rfl | (simp; done) | (simp [ints, prs]; done))
  | some i0 =>
    rw [hs] at e1
    obtain ⟨a1, a2, a3, a4⟩ := f1 i0 hs
    have hi0 : i0 < l.length := by omega
    have hq0 : (delQ rs bel) (l.getD i0 0) = true := by simpa using a3
    have hpre := kpt_pre (q := (delQ rs bel)) (l := l) (m := i0) (by omega) (fun j hj => by have := a4 j (Nat.zero_le _) hj; simpa using this)
    have hk1 : kpt (delQ rs bel) l (i0 + 1) = l.take i0 := by rw [kpt_f hi0 hq0, hpre]
    have hl1 : (l.take i0).length = i0 := by rw [List.length_take]; omega
    have hd1 : dls (delQ rs bel) l (i0 + 1) = l := by unfold dls; rw [hk1, hl1, List.take_append_drop]
    have lp := lpdf_ends fb bel hbel rs hrn hrl l hln hl i0 hi0
    rw [show i0 + 1 + 0 = i0 + 1 from rfl, hd1, hk1, hl1, show i0 + 1 + (l.length - (i0 + 1)) = l.length by omega] at lp
    have hm1 : (((i0 : Nat) : Int) == -1) = false := by simp only [beq_eq_false_iff_ne, ne_eq]; omega
    have hadd : binV .add (.int .i64 (i0 : Nat)) (.int .i64 1) = some (.int .i64 (i0 + 1 : Nat)) := b_addN (b := 1) (by omega)
    have hkl := kpt_len (delQ rs bel) l l.length
    have hcl := dls_clear (q := (delQ rs bel)) (l := l) (j := l.length) rfl
    have hdl := dls_len (q := (delQ rs bel)) (l := l) (j := l.length) (Nat.le_refl _)
    generalize kpt (delQ rs bel) l l.length = K at *
    refine has184.eev rfl rfl ?_
    unfold m184
    repeat' (first
      | refine sc_loop lp rfl rfl ⟨rfl, rfl, rfl⟩ rfl rfl rfl ?_
      | refine ep_slice (p := (K.length : Nat)) (q := (l.length : Nat)) (o' := 0 + K.length * 1) (n' := l.length - K.length) rfl rfl rfl (.inr ⟨_, rfl⟩) (.inl ⟨rfl, rfl⟩) ⟨by omega, by omega, by omega, rfl, by omega⟩ rfl rfl ?_
      | refine sp_clear rfl rfl (Nat.zero_le _) (by rw [ints_len, hdl]; omega) hcl rfl ?_
      | refine ep_slice (p := 0) (q := (K.length : Nat)) (o' := 0) (n' := K.length) rfl rfl rfl (.inl ⟨rfl, rfl⟩) (.inr ⟨_, rfl⟩) ⟨by omega, by omega, by omega, rfl, by omega⟩ rfl rfl ?_
      | (refine g_op ?_; first
        | refine ep_mov rfl ?_
        | refine ep_call0 rfl (by first | exact e1) rfl rfl ?_
        | refine sp_call rfl rfl rfl rfl (by first | exact e1) ⟨rfl, rfl, rfl, rfl⟩ rfl rfl rfl ?_
        | refine ep_bin rfl rfl (by first | exact hadd | exact b_add (by omega) (by omega) | exact b_eql) ?_)
      | (refine g_ops ?_; first | refine eo_none ?_ | refine eo_nil ?_)
      | (refine g_code ?_; first | refine ec_seq ?_ | refine ec_region ?_ | refine ec_block ?_ | refine ec_skip ?_ | refine ec_ret ?_ | refine ec_condT rfl ?_ | refine ec_condF rfl ?_ | refine ec_condTH rfl (by assumption) ?_ | refine ec_condFH rfl (by assumption) ?_)
      | refine ek_seqN ?_ | refine ek_seqX ?_ | refine ek_seqR ?_ | refine ek_blkN ?_ | refine ek_blkR ?_ | refine ek_blkX ?_ | refine ek_blkY rfl ?_)
    refine sfin (.inr rfl) (by rfl) (by rfl) (by exact ⟨rfl, rfl, rfl⟩) (by rfl) (by rfl) (by rfl) (by first | rfl | (simp; done) | (simp [ints, prs]; done))
theorem lp98_0 (fb fp n b : Nat) (pkp : Nat → Bool) (hn : n ≤ 4) (hpk : ∀ r : Nat, r < 16 → Ev cx fp [.int .i64 r, .ptr 0 0] [⟨[.int .i64 n, .int .i64 b], 1, 0, some 0, true⟩] (.bool (pkp r)) [⟨[.int .i64 n, .int .i64 b], 1, 0, some 0, true⟩]) (o : Out) (ho : (match selm (pkp) (idn) (R2 n) with | [] => (⟨.exit 0, [(5, .ptr 1 0), (7, .ptr 2 0)], [⟨[.int .i64 n, .int .i64 b], 1, 0, some 0, true⟩, ⟨[.fn fb []], 1, 1, some 0, true⟩, ⟨[.nils], 1, 2, some 0, true⟩]⟩ : Out) | x :: xs => ⟨.exit 0, [(5, .ptr 1 0), (7, .ptr 2 0)], [⟨[.int .i64 n, .int .i64 b], 1, 0, some 0, true⟩, ⟨[.fn fb []], 1, 1, some 0, true⟩, ⟨[.sl 3 0 (x :: xs).length], 1, 2, some 0, true⟩, ⟨ints (x :: xs), 1, 3, some 0, false⟩]⟩) = o) :
    LpS cx 26 1 m98_0 [(1, .fn fp [.ptr 0 0]), (5, .ptr 1 0), (7, .ptr 2 0), (10, .int .i64 (R2 n : Nat)), (11, .int .i64 (0 : Nat))] [⟨[.int .i64 n, .int .i64 b], 1, 0, some 0, true⟩, ⟨[.fn fb []], 1, 1, some 0, true⟩, ⟨[.nils], 1, 2, some 0, true⟩] o.x o.e o.h := by
  obtain ⟨h1, h2, h3, h4⟩ := shN hn
  subst ho
  refine lp_st (R2 n) (selm (pkp) (idn)) (fun i s => match s with | [] => [(1, .fn fp [.ptr 0 0]), (5, .ptr 1 0), (7, .ptr 2 0), (10, .int .i64 (R2 n : Nat)), (11, .int .i64 (i : Nat))] | x :: xs => [(1, .fn fp [.ptr 0 0]), (5, .ptr 1 0), (7, .ptr 2 0), (10, .int .i64 (R2 n : Nat)), (11, .int .i64 (i : Nat))]) (fun i s => match s with | [] => [⟨[.int .i64 n, .int .i64 b], 1, 0, some 0, true⟩, ⟨[.fn fb []], 1, 1, some 0, true⟩, ⟨[.nils], 1, 2, some 0, true⟩] | x :: xs => [⟨[.int .i64 n, .int .i64 b], 1, 0, some 0, true⟩, ⟨[.fn fb []], 1, 1, some 0, true⟩, ⟨[.sl 3 0 (x :: xs).length], 1, 2, some 0, true⟩, ⟨ints (x :: xs), 1, 3, some 0, false⟩]) (fun s => match s with | [] => ⟨.exit 0, [(5, .ptr 1 0), (7, .ptr 2 0)], [⟨[.int .i64 n, .int .i64 b], 1, 0, some 0, true⟩, ⟨[.fn fb []], 1, 1, some 0, true⟩, ⟨[.nils], 1, 2, some 0, true⟩]⟩ | x :: xs => ⟨.exit 0, [(5, .ptr 1 0), (7, .ptr 2 0)], [⟨[.int .i64 n, .int .i64 b], 1, 0, some 0, true⟩, ⟨[.fn fb []], 1, 1, some 0, true⟩, ⟨[.sl 3 0 (x :: xs).length], 1, 2, some 0, true⟩, ⟨ints (x :: xs), 1, 3, some 0, false⟩]⟩) ?_ ?_ (R2 n) 0 (by omega)
  · intro i s hi hs
    have hlt : decide ((i : Int) < (R2 n : Nat)) = true := decide_eq_true (by omega)
    have hle : decide ((i : Int) ≤ (R2 n : Nat) - 1) = true := decide_eq_true (by omega)
    have hlen : s.length ≤ 16 := by have := selm_len (pkp) (idn) i; rw [hs] at this; omega
    have e1 := hpk i (by omega)
    cases hp : (pkp) i with
    | true =>
      have hp' : ((pkp) i) = true := hp
      rw [hp'] at e1
      cases s with
      | nil =>
        refine ⟨[(idn) i], by rw [selm_t (p := pkp) hp, hs]; try rfl, ?_⟩
        unfold m98_0
        repeat' (first
          | (refine g_op ?_; first
            | refine ep_mov rfl ?_ | refine ep_load1 rfl rfl rfl rfl ?_
            | refine sp_callv rfl rfl rfl rfl rfl rfl (by first | exact e1) ⟨rfl, rfl, rfl, rfl⟩ rfl rfl rfl ?_
            | refine sp_callb rfl rfl rfl rfl rfl rfl (by first | exact e1) ⟨rfl, rfl, rfl, rfl⟩ rfl rfl rfl ?_
            | refine ep_bin rfl rfl (by first | exact b_add (by omega) (by omega) | exact b_lss) ?_ | refine sp_store rfl rfl rfl rfl rfl rfl rfl rfl rfl rfl ?_ | refine sp_bslice rfl rfl rfl rfl rfl ?_ | refine sp_push0 rfl (by first | exact .inl rfl | exact .inr rfl) rfl rfl rfl rfl rfl (by decide) rfl rfl rfl ?_
            | refine sp_push rfl rfl rfl rfl rfl rfl rfl (by first | exact ints_len _ | exact prs_len _ _ | exact zints_len _) (by omega) (Nat.zero_le _) rfl rfl rfl rfl rfl ?_)
          | (refine g_ops ?_; first | refine eo_none ?_ | refine eo_nil ?_)
          | (refine g_code ?_; first | refine ec_seq ?_ | refine ec_region ?_ | refine ec_block ?_ | refine ec_skip ?_ | refine ec_exit ?_ | refine ec_condT rfl ?_ | refine ec_condF rfl ?_ | refine ec_condTH rfl (by assumption) ?_ | refine ec_condFH rfl (by assumption) ?_)
          | refine ek_seqN ?_ | refine ek_seqX ?_ | refine ek_blkN ?_ | refine ek_blkR ?_ | refine ek_blkX ?_ | refine ek_blkY rfl ?_)
        exact rnd_on (by rfl) (scmp2 (by rfl) (by rfl) (by exact ⟨rfl, rfl, rfl⟩) (by rfl) (by first | rfl | (simp; done) | (simp [ints, prs]; done)) (by rfl) (by first | rfl | (simp; done) | (simp [ints, prs]; done)))
      | cons x xs =>
        refine ⟨(x :: xs) ++ [(idn) i], by rw [selm_t (p := pkp) hp, hs]; try rfl, ?_⟩
        unfold m98_0
        repeat' (first
          | (refine g_op ?_; first
            | refine ep_mov rfl ?_ | refine ep_load1 rfl rfl rfl rfl ?_
            | refine sp_callv rfl rfl rfl rfl rfl rfl (by first | exact e1) ⟨rfl, rfl, rfl, rfl⟩ rfl rfl rfl ?_
            | refine sp_callb rfl rfl rfl rfl rfl rfl (by first | exact e1) ⟨rfl, rfl, rfl, rfl⟩ rfl rfl rfl ?_
            | refine ep_bin rfl rfl (by first | exact b_add (by omega) (by omega) | exact b_lss) ?_ | refine sp_store rfl rfl rfl rfl rfl rfl rfl rfl rfl rfl ?_ | refine sp_bslice rfl rfl rfl rfl rfl ?_ | refine sp_push0 rfl (by first | exact .inl rfl | exact .inr rfl) rfl rfl rfl rfl rfl (by decide) rfl rfl rfl ?_
            | refine sp_push rfl rfl rfl rfl rfl rfl rfl (by first | exact ints_len _ | exact prs_len _ _ | exact zints_len _) (by omega) (Nat.zero_le _) rfl rfl rfl rfl rfl ?_)
          | (refine g_ops ?_; first | refine eo_none ?_ | refine eo_nil ?_)
          | (refine g_code ?_; first | refine ec_seq ?_ | refine ec_region ?_ | refine ec_block ?_ | refine ec_skip ?_ | refine ec_exit ?_ | refine ec_condT rfl ?_ | refine ec_condF rfl ?_ | refine ec_condTH rfl (by assumption) ?_ | refine ec_condFH rfl (by assumption) ?_)
          | refine ek_seqN ?_ | refine ek_seqX ?_ | refine ek_blkN ?_ | refine ek_blkR ?_ | refine ek_blkX ?_ | refine ek_blkY rfl ?_)
        exact rnd_on (by rfl) (scmp2 (by rfl) (by rfl) (by exact ⟨rfl, rfl, rfl⟩) (by rfl) (by first | rfl | (simp; done) | (simp [ints, prs]; done)) (by rfl) (by first | rfl | (simp; done) | (simp [ints, prs]; done)))
    | false =>
      have hp' : ((pkp) i) = false := hp
      rw [hp'] at e1
      cases s with
      | nil =>
        refine ⟨[], by rw [selm_f (p := pkp) hp, hs]; try rfl, ?_⟩
        unfold m98_0
        repeat' (first
          | (refine g_op ?_; first
            | refine ep_mov rfl ?_ | refine ep_load1 rfl rfl rfl rfl ?_
            | refine sp_callv rfl rfl rfl rfl rfl rfl (by first | exact e1) ⟨rfl, rfl, rfl, rfl⟩ rfl rfl rfl ?_
            | refine sp_callb rfl rfl rfl rfl rfl rfl (by first | exact e1) ⟨rfl, rfl, rfl, rfl⟩ rfl rfl rfl ?_
            | refine ep_bin rfl rfl (by first | exact b_add (by omega) (by omega) | exact b_lss) ?_ | refine sp_store rfl rfl rfl rfl rfl rfl rfl rfl rfl rfl ?_ | refine sp_bslice rfl rfl rfl rfl rfl ?_ | refine sp_push0 rfl (by first | exact .inl rfl | exact .inr rfl) rfl rfl rfl rfl rfl (by decide) rfl rfl rfl ?_
            | refine sp_push rfl rfl rfl rfl rfl rfl rfl (by first | exact ints_len _ | exact prs_len _ _ | exact zints_len _) (by omega) (Nat.zero_le _) rfl rfl rfl rfl rfl ?_)
          | (refine g_ops ?_; first | refine eo_none ?_ | refine eo_nil ?_)
          | (refine g_code ?_; first | refine ec_seq ?_ | refine ec_region ?_ | refine ec_block ?_ | refine ec_skip ?_ | refine ec_exit ?_ | refine ec_condT rfl ?_ | refine ec_condF rfl ?_ | refine ec_condTH rfl (by assumption) ?_ | refine ec_condFH rfl (by assumption) ?_)
          | refine ek_seqN ?_ | refine ek_seqX ?_ | refine ek_blkN ?_ | refine ek_blkR ?_ | refine ek_blkX ?_ | refine ek_blkY rfl ?_)
        exact rnd_on (by rfl) (scmp2 (by rfl) (by rfl) (by exact ⟨rfl, rfl, rfl⟩) (by rfl) (by first | rfl | (simp; done) | (simp [ints, prs]; done)) (by rfl) (by first | rfl | (simp; done) | (simp [ints, prs]; done)))
      | cons x xs =>
        refine ⟨x :: xs, by rw [selm_f (p := pkp) hp, hs]; try rfl, ?_⟩
        unfold m98_0
        repeat' (first
          | (refine g_op ?_; first
            | refine ep_mov rfl ?_ | refine ep_load1 rfl rfl rfl rfl ?_
            | refine sp_callv rfl rfl rfl rfl rfl rfl (by first | exact e1) ⟨rfl, rfl, rfl, rfl⟩ rfl rfl rfl ?_
            | refine sp_callb rfl rfl rfl rfl rfl rfl (by first | exact e1) ⟨rfl, rfl, rfl, rfl⟩ rfl rfl rfl ?_
            | refine ep_bin rfl rfl (by first | exact b_add (by omega) (by omega) | exact b_lss) ?_ | refine sp_store rfl rfl rfl rfl rfl rfl rfl rfl rfl rfl ?_ | refine sp_bslice rfl rfl rfl rfl rfl ?_ | refine sp_push0 rfl (by first | exact .inl rfl | exact .inr rfl) rfl rfl rfl rfl rfl (by decide) rfl rfl rfl ?_
            | refine sp_push rfl rfl rfl rfl rfl rfl rfl (by first | exact ints_len _ | exact prs_len _ _ | exact zints_len _) (by omega) (Nat.zero_le _) rfl rfl rfl rfl rfl ?_)
          | (refine g_ops ?_; first | refine eo_none ?_ | refine eo_nil ?_)
          | (refine g_code ?_; first | refine ec_seq ?_ | refine ec_region ?_ | refine ec_block ?_ | refine ec_skip ?_ | refine ec_exit ?_ | refine ec_condT rfl ?_ | refine ec_condF rfl ?_ | refine ec_condTH rfl (by assumption) ?_ | refine ec_condFH rfl (by assumption) ?_)
          | refine ek_seqN ?_ | refine ek_seqX ?_ | refine ek_blkN ?_ | refine ek_blkR ?_ | refine ek_blkX ?_ | refine ek_blkY rfl ?_)
        exact rnd_on (by rfl) (scmp2 (by rfl) (by rfl) (by exact ⟨rfl, rfl, rfl⟩) (by rfl) (by first | rfl | (simp; done) | (simp [ints, prs]; done)) (by rfl) (by first | rfl | (simp; done) | (simp [ints, prs]; done)))
  · intro s hs
    have hlt : decide (((R2 n : Nat) : Int) < (R2 n : Nat)) = false := decide_eq_false (by omega)
    have hle : decide (((R2 n : Nat) : Int) ≤ (R2 n : Nat) - 1) = false := decide_eq_false (by omega)
    cases s with
    | nil =>
      unfold m98_0
      repeat' (first
        | (refine g_op ?_; first
          | refine ep_mov rfl ?_ | refine ep_load1 rfl rfl rfl rfl ?_
          | refine ep_bin rfl rfl (by first | exact b_add (by omega) (by omega) | exact b_lss) ?_ | refine sp_store rfl rfl rfl rfl rfl rfl rfl rfl rfl rfl ?_ | refine sp_bslice rfl rfl rfl rfl rfl ?_ | refine sp_push0 rfl (by first | exact .inl rfl | exact .inr rfl) rfl rfl rfl rfl rfl (by decide) rfl rfl rfl ?_
          | refine sp_push rfl rfl rfl rfl rfl rfl rfl (by first | exact ints_len _ | exact prs_len _ _ | exact zints_len _) (by omega) (Nat.zero_le _) rfl rfl rfl rfl rfl ?_)
        | (refine g_ops ?_; first | refine eo_none ?_ | refine eo_nil ?_)
        | (refine g_code ?_; first | refine ec_seq ?_ | refine ec_region ?_ | refine ec_block ?_ | refine ec_skip ?_ | refine ec_exit ?_ | refine ec_condT rfl ?_ | refine ec_condF rfl ?_ | refine ec_condTH rfl (by assumption) ?_ | refine ec_condFH rfl (by assumption) ?_)
        | refine ek_seqN ?_ | refine ek_seqX ?_ | refine ek_blkN ?_ | refine ek_blkR ?_ | refine ek_blkX ?_ | refine ek_blkY rfl ?_)
      exact rnd_out (by rfl) (by simp) (scmp2 (by rfl) (by rfl) (by exact ⟨rfl, rfl, rfl⟩) (by rfl) (by first | rfl | (simp; done) | (simp [ints, prs]; done)) (by rfl) (by first | rfl | (simp; done) | (simp [ints, prs]; done)))
    | cons x xs =>
      unfold m98_0
      repeat' (first
        | (refine g_op ?_; first
          | refine ep_mov rfl ?_ | refine ep_load1 rfl rfl rfl rfl ?_
          | refine ep_bin rfl rfl (by first | exact b_add (by omega) (by omega) | exact b_lss) ?_ | refine sp_store rfl rfl rfl rfl rfl rfl rfl rfl rfl rfl ?_ | refine sp_bslice rfl rfl rfl rfl rfl ?_ | refine sp_push0 rfl (by first | exact .inl rfl | exact .inr rfl) rfl rfl rfl rfl rfl (by decide) rfl rfl rfl ?_
          | refine sp_push rfl rfl rfl rfl rfl rfl rfl (by first | exact ints_len _ | exact prs_len _ _ | exact zints_len _) (by omega) (Nat.zero_le _) rfl rfl rfl rfl rfl ?_)
        | (refine g_ops ?_; first | refine eo_none ?_ | refine eo_nil ?_)
        | (refine g_code ?_; first | refine ec_seq ?_ | refine ec_region ?_ | refine ec_block ?_ | refine ec_skip ?_ | refine ec_exit ?_ | refine ec_condT rfl ?_ | refine ec_condF rfl ?_ | refine ec_condTH rfl (by assumption) ?_ | refine ec_condFH rfl (by assumption) ?_)
        | refine ek_seqN ?_ | refine ek_seqX ?_ | refine ek_blkN ?_ | refine ek_blkR ?_ | refine ek_blkX ?_ | refine ek_blkY rfl ?_)
      exact rnd_out (by rfl) (by simp) (scmp2 (by rfl) (by rfl) (by exact ⟨rfl, rfl, rfl⟩) (by rfl) (by first | rfl | (simp; done) | (simp [ints, prs]; done)) (by rfl) (by first | rfl | (simp; done) | (simp [ints, prs]; done)))

theorem selm_lt {p : Nat → Bool} {n j : Nat} (h : j < (selm p idn n).length) : (selm p idn n).getD j 0 < n ∧ p ((selm p idn n).getD j 0) = true := by
  have e : selm p idn n = (List.range n).filter p := by unfold selm; exact List.map_id' _
  rw [e] at h ⊢
  rw [List.getD_eq_getElem?_getD, List.getElem?_eq_getElem h]
  have := List.getElem_mem h
  rw [List.mem_filter, List.mem_range] at this
  exact this
abbrev endL (rs : List Nat) (bel : Nat → Nat → Bool) : List Nat := kpt (delQ rs bel) rs rs.length

theorem lpix_endsn (fb : Nat) (o : Out) (ho : (match firstF (fun i => !(fun _ => false) i) 0 (0) with | none => (⟨.exit 0, [], [⟨[.nils], 1, 0, some 0, true⟩, ⟨[.fn fb []], 1, 1, some 0, true⟩]⟩ : Out) | some x => ⟨.ret, [(4, .int .i64 (x : Nat))], [⟨[.nils], 1, 0, some 0, true⟩, ⟨[.fn fb []], 1, 1, some 0, true⟩]⟩) = o) :
    LpS cx 19 2 m188_0 [(0, .nils), (1, .fn 186 [.ptr 0 0, .ptr 1 0]), (7, .int .i64 (0 : Nat)), (8, .int .i64 (0 : Nat))] [⟨[.nils], 1, 0, some 0, true⟩, ⟨[.fn fb []], 1, 1, some 0, true⟩] o.x o.e o.h := by
  refine lp_brk (0) (fun i => !(fun _ => false) i) (fun _ => ()) (fun i _ => [(0, .nils), (1, .fn 186 [.ptr 0 0, .ptr 1 0]), (7, .int .i64 (0 : Nat)), (8, .int .i64 (i : Nat))]) (fun i _ => [⟨[.nils], 1, 0, some 0, true⟩, ⟨[.fn fb []], 1, 1, some 0, true⟩]) (fun _ => ⟨.exit 0, [], [⟨[.nils], 1, 0, some 0, true⟩, ⟨[.fn fb []], 1, 1, some 0, true⟩]⟩) (fun i _ => ⟨.ret, [(4, .int .i64 (i : Nat))], [⟨[.nils], 1, 0, some 0, true⟩, ⟨[.fn fb []], 1, 1, some 0, true⟩]⟩) ?_ ?_ ?_ (0) 0 o (by omega) (fun h => by rw [← ho, firstF_none fun x h1 h2 => h x h1 (by omega)]) (fun x h1 h2 h3 h4 => by rw [← ho, firstF_some h1 (by omega) h3 h4])
  · intro i s hi hs hp
    exact absurd hi (by simp)
  · intro i s hi hs hp
    exact absurd hi (by simp)
  · intro s hs
    have hlt : decide (((0 : Nat) : Int) < (0 : Nat)) = false := decide_eq_false (by omega)
    unfold m188_0
    repeat' (first
      | (refine g_op ?_; first
        | refine ep_mov rfl ?_ | refine ep_load1 rfl rfl rfl rfl ?_
        | refine sp_callv rfl rfl rfl rfl rfl rfl (by first | exact e0) ⟨rfl, rfl, rfl, rfl⟩ rfl rfl rfl ?_
        | refine sp_callb rfl rfl rfl rfl rfl rfl (by first | exact e0) ⟨rfl, rfl, rfl, rfl⟩ rfl rfl rfl ?_
        | refine ep_bin rfl rfl (by first | exact b_add (by omega) (by omega) | exact b_lss) ?_ | refine sp_idx rfl rfl rfl (by omega) rfl ?_ | refine ep_loadS rfl rfl rfl (by first | exact ints_get (by omega) | exact zints_get (by omega) | exact fget (by omega) | assumption) ?_)
      | (refine g_ops ?_; first | refine eo_none ?_ | refine eo_nil ?_)
      | (refine g_code ?_; first | refine ec_seq ?_ | refine ec_region ?_ | refine ec_block ?_ | refine ec_skip ?_ | refine ec_exit ?_ | refine ec_ret ?_ | refine ec_condT rfl ?_ | refine ec_condF rfl ?_ | refine ec_condTH rfl (by assumption) ?_ | refine ec_condFH rfl (by assumption) ?_)
      | refine ek_seqN ?_ | refine ek_seqX ?_ | refine ek_seqR ?_ | refine ek_blkN ?_ | refine ek_blkR ?_ | refine ek_blkX ?_ | refine ek_blkY rfl ?_)
    exact rnd_out (by rfl) (by simp) (scmp2 (by rfl) (by rfl) (by exact ⟨rfl, rfl, rfl⟩) (by rfl) (by first | rfl | (simp; done) | (simp [ints, prs]; done)) (by rfl) (by first | rfl | (simp; done) | (simp [ints, prs]; done)))
theorem evix_endsn (fb : Nat) : Ev cx 188 [.nils, .fn 186 [.ptr 0 0, .ptr 1 0]] [⟨[.nils], 1, 0, some 0, true⟩, ⟨[.fn fb []], 1, 1, some 0, true⟩] (.int .i64 (match firstF (fun i => !(fun _ => false) i) 0 (0) with | none => -1 | some x => ((x : Nat) : Int))) [⟨[.nils], 1, 0, some 0, true⟩, ⟨[.fn fb []], 1, 1, some 0, true⟩] := by
  cases hs : firstF (fun i => !(fun _ => false) i) 0 (0) with
  | none =>
    have lp := lpix_endsn fb _ (by rw [hs])
    refine has188.eev rfl rfl ?_
    unfold m188
    repeat' (first
      | refine sc_loop lp rfl rfl ⟨rfl, rfl, rfl⟩ rfl rfl rfl ?_
      | (refine g_op ?_; first
        | refine ep_mov rfl ?_
        | refine ep_lenS rfl ?_ | refine ep_lenN rfl ?_ | refine ep_lenE rfl ?_)
      | (refine g_ops ?_; first | refine eo_none ?_ | refine eo_nil ?_)
      | (refine g_code ?_; first | refine ec_seq ?_ | refine ec_region ?_ | refine ec_block ?_ | refine ec_ret ?_)
      | refine ek_seqN ?_ | refine ek_seqX ?_ | refine ek_seqR ?_ | refine ek_blkN ?_ | refine ek_blkR ?_ | refine ek_blkX ?_ | refine ek_blkY rfl ?_)
    refine sfin (.inr rfl) (by rfl) (by rfl) (by exact ⟨rfl, rfl, rfl⟩) (by rfl) (by rfl) (by rfl) (by first | rfl | (simp; done) | (simp [ints, prs]; done))
  | some x =>
    have lp := lpix_endsn fb _ (by rw [hs])
    refine has188.eev rfl rfl ?_
    unfold m188
    repeat' (first
      | refine sc_loop lp rfl rfl ⟨rfl, rfl, rfl⟩ rfl rfl rfl ?_
      | (refine g_op ?_; first
        | refine ep_mov rfl ?_
        | refine ep_lenS rfl ?_ | refine ep_lenN rfl ?_ | refine ep_lenE rfl ?_)
      | (refine g_ops ?_; first | refine eo_none ?_ | refine eo_nil ?_)
      | (refine g_code ?_; first | refine ec_seq ?_ | refine ec_region ?_ | refine ec_block ?_ | refine ec_ret ?_)
      | refine ek_seqN ?_ | refine ek_seqX ?_ | refine ek_seqR ?_ | refine ek_blkN ?_ | refine ek_blkR ?_ | refine ek_blkX ?_ | refine ek_blkY rfl ?_)
    refine sfin (.inr rfl) (by rfl) (by rfl) (by exact ⟨rfl, rfl, rfl⟩) (by rfl) (by rfl) (by rfl) (by first | rfl | (simp; done) | (simp [ints, prs]; done))
theorem evdf_nils (fb : Nat) : Ev cx 184 [.nils, .fn 186 [.ptr 0 0, .ptr 1 0]] [⟨[.nils], 1, 0, some 0, true⟩, ⟨[.fn fb []], 1, 1, some 0, true⟩] .nils [⟨[.nils], 1, 0, some 0, true⟩, ⟨[.fn fb []], 1, 1, some 0, true⟩] := by
  have e1 := evix_endsn fb
  rw [show firstF (fun i => !(fun _ => false) i) 0 0 = none from rfl] at e1
  refine has184.eev rfl rfl ?_
  unfold m184
  repeat' (first
    | (refine g_op ?_; first
      | refine ep_mov rfl ?_
      | refine ep_call0 rfl (by first | exact e1) rfl rfl ?_
      | refine sp_call rfl rfl rfl rfl (by first | exact e1) ⟨rfl, rfl, rfl, rfl⟩ rfl rfl rfl ?_
      | refine ep_bin rfl rfl (by first | exact b_add (by omega) (by omega) | exact b_eql) ?_)
    | (refine g_ops ?_; first | refine eo_none ?_ | refine eo_nil ?_)
    | (refine g_code ?_; first | refine ec_seq ?_ | refine ec_region ?_ | refine ec_block ?_ | refine ec_skip ?_ | refine ec_ret ?_ | refine ec_condT rfl ?_ | refine ec_condF rfl ?_ | refine ec_condTH rfl (by assumption) ?_ | refine ec_condFH rfl (by assumption) ?_)
    | refine ek_seqN ?_ | refine ek_seqX ?_ | refine ek_seqR ?_ | refine ek_blkN ?_ | refine ek_blkR ?_ | refine ek_blkX ?_ | refine ek_blkY rfl ?_)
  refine sfin (.inr rfl) (by rfl) (by rfl) (by exact ⟨rfl, rfl, rfl⟩) (by rfl) (by rfl) (by rfl) (by first | rfl | (simp; done) | (simp [ints, prs]; done))
theorem evcl_nils : Ev cx 185 [.nils] [] .nils [] := by
  refine has185.eev rfl rfl ?_
  unfold m185
  repeat' (first
    | refine ep_appE rfl (.inl rfl) rfl rfl ?_
    | (refine g_op ?_; first
      | refine ep_mov rfl ?_
      | refine sp_push0 rfl (by first | exact .inl rfl | exact .inr rfl) rfl rfl rfl rfl rfl (by decide) rfl rfl rfl ?_ | refine sp_push rfl rfl rfl rfl rfl rfl rfl (by first | exact ints_len _ | exact prs_len _ _ | exact zints_len _) (by omega) (Nat.zero_le _) rfl rfl rfl rfl rfl ?_
      | refine ep_empt ?_ | refine ep_isnilN rfl ?_ | refine ep_isnilS rfl ?_ | refine ep_isnilE rfl ?_)
    | (refine g_ops ?_; first | refine eo_none ?_ | refine eo_nil ?_)
    | (refine g_code ?_; first | refine ec_seq ?_ | refine ec_region ?_ | refine ec_skip ?_ | refine ec_ret ?_ | refine ec_condT rfl ?_ | refine ec_condF rfl ?_ | refine ec_condTH rfl (by assumption) ?_ | refine ec_condFH rfl (by assumption) ?_)
    | refine ek_seqN ?_ | refine ek_seqR ?_)
  refine sfin (.inr rfl) (by rfl) (by rfl) (by exact ⟨rfl, rfl, rfl⟩) (by rfl) (by rfl) (by rfl) (by first | rfl | (simp; done) | (simp [ints, prs]; done))
theorem ends_nil (fb fp n b : Nat) (pkp : Nat → Bool) (hn : n ≤ 4) (hpk : ∀ r : Nat, r < 16 → Ev cx fp [.int .i64 r, .ptr 0 0] [⟨[.int .i64 n, .int .i64 b], 1, 0, some 0, true⟩] (.bool (pkp r)) [⟨[.int .i64 n, .int .i64 b], 1, 0, some 0, true⟩]) (hs : selm pkp idn (R2 n) = []) : Ev cx 98 [.agg [.int .i64 n, .int .i64 b], .fn fp [.ptr 0 0], .fn fb []] [⟨[.int .i64 n, .int .i64 b], 1, 0, some 0, true⟩] .nils [⟨[.int .i64 n, .int .i64 b], 1, 0, some 0, true⟩] := by
  have lp := lp98_0 fb fp n b pkp hn hpk _ (by rw [hs])
  refine has98.eev rfl rfl ?_
  unfold m98
  repeat' (first
    | refine sc_loop lp rfl rfl ⟨rfl, rfl, rfl⟩ rfl rfl rfl ?_
    | (refine g_op ?_; first
      | refine ep_mov rfl ?_ | refine ep_load1 rfl rfl rfl rfl ?_ | refine sp_loadN rfl rfl rfl rfl rfl ?_
      | refine ep_call0 rfl (by first | exact ev182 _ _ hn | exact evcl_nils | exact evdf_nils fb) rfl rfl ?_
      | refine sp_call rfl rfl rfl rfl (by first | exact ev182 _ _ hn | exact evcl_nils | exact evdf_nils fb) ⟨rfl, rfl, rfl, rfl⟩ rfl rfl rfl ?_
      | refine sp_box rfl rfl rfl rfl rfl ?_ | refine sp_alloc rfl rfl ?_ | refine ep_mkfn rfl ?_)
    | (refine g_ops ?_; first | refine eo_none ?_ | refine eo_nil ?_)
    | (refine g_code ?_; first | refine ec_seq ?_ | refine ec_region ?_ | refine ec_block ?_ | refine ec_ret ?_)
    | refine ek_seqN ?_ | refine ek_seqX ?_ | refine ek_seqR ?_ | refine ek_blkN ?_ | refine ek_blkR ?_ | refine ek_blkX ?_ | refine ek_blkY rfl ?_)
  refine sfin (.inr rfl) (by rfl) (by rfl) (by exact ⟨rfl, rfl, rfl⟩) (by rfl) (by rfl) (by rfl) (by first | rfl | (simp; done) | (simp [ints, prs]; done))
theorem ends_cons (fb fp n b : Nat) (pkp : Nat → Bool) (hn : n ≤ 4) (hpk : ∀ r : Nat, r < 16 → Ev cx fp [.int .i64 r, .ptr 0 0] [⟨[.int .i64 n, .int .i64 b], 1, 0, some 0, true⟩] (.bool (pkp r)) [⟨[.int .i64 n, .int .i64 b], 1, 0, some 0, true⟩]) (bel : Nat → Nat → Bool) (hbel : ∀ r s : Nat, r < 65536 → s < 65536 → Ev cx fb [.int .i64 r, .int .i64 s] [] (.bool (bel r s)) []) (x : Nat) (xs : List Nat) (hs : selm pkp idn (R2 n) = x :: xs) :
    Ev cx 98 [.agg [.int .i64 n, .int .i64 b], .fn fp [.ptr 0 0], .fn fb []] [⟨[.int .i64 n, .int .i64 b], 1, 0, some 0, true⟩] (.sl 1 0 (endL (x :: xs) bel).length) [⟨[.int .i64 n, .int .i64 b], 1, 0, some 0, true⟩, ⟨ints (endL (x :: xs) bel ++ List.replicate ((x :: xs).length - (endL (x :: xs) bel).length) 0), 1, 1, some 0, false⟩] := by
  obtain ⟨h1, h2, h3, h4⟩ := shN hn
  have hle := selm_len pkp idn (R2 n)
  have hlt : ∀ j, j < (x :: xs).length → (x :: xs).getD j 0 < 65536 := fun j hj => by
    have := (selm_lt (p := pkp) (n := R2 n) (j := j) (by rw [hs]; exact hj)).1
    rw [hs] at this; omega
  rw [hs] at hle
  have lp := lp98_0 fb fp n b pkp hn hpk _ (by rw [hs])
  have e2 := ev185 (x :: xs) (x :: xs).length rfl (by simp) (by omega)
  have e3 := evdf_ends fb bel hbel (x :: xs) (by omega) hlt (x :: xs) (by omega) hlt
  refine has98.eev rfl rfl ?_
  unfold m98
  repeat' (first
    | refine sc_loop lp rfl rfl ⟨rfl, rfl, rfl⟩ rfl rfl rfl ?_
    | (refine g_op ?_; first
      | refine ep_mov rfl ?_ | refine ep_load1 rfl rfl rfl rfl ?_ | refine sp_loadN rfl rfl rfl rfl rfl ?_
      | refine ep_call0 rfl (by first | exact ev182 _ _ hn | exact e2 | exact e3) rfl rfl ?_
      | refine sp_call rfl rfl rfl rfl (by first | exact ev182 _ _ hn | exact e2 | exact e3) ⟨rfl, rfl, rfl, rfl⟩ rfl rfl rfl ?_
      | refine sp_box rfl rfl rfl rfl rfl ?_ | refine sp_alloc rfl rfl ?_ | refine ep_mkfn rfl ?_)
    | (refine g_ops ?_; first | refine eo_none ?_ | refine eo_nil ?_)
    | (refine g_code ?_; first | refine ec_seq ?_ | refine ec_region ?_ | refine ec_block ?_ | refine ec_ret ?_)
    | refine ek_seqN ?_ | refine ek_seqX ?_ | refine ek_seqR ?_ | refine ek_blkN ?_ | refine ek_blkR ?_ | refine ek_blkX ?_ | refine ek_blkY rfl ?_)
  refine sfin (.inr rfl) (by rfl) (by rfl) (by exact ⟨rfl, rfl, rfl⟩) (by rfl) (by rfl) (by rfl) (by first | rfl | (simp; done) | (simp [ints, prs]; done))
-- impl.GreatestFalseRows$1
def m117 : MC := (.seq (.region [⟨(.mov (.k (.bool false))), (some 3), none⟩] false) (.seq (.region [⟨(.load (some 2) (.t 1)), (some 4), none⟩, ⟨(.mov (.t 0)), (some 5), none⟩, ⟨(.call 118 [(.t 4), (.t 5)]), (some 6), none⟩, ⟨(.bin .eql (.t 6) (.k (.int .i64 0))), (some 7), none⟩, ⟨(.mov (.t 7)), (some 3), none⟩] false) .ret))
theorem has117 : Has cx 117 8 m117 [(.tmp 3)] :=
  ⟨⟨Try.f117, Try.f117.body.getD .skip, by kernel_rfl, by kernel_rfl, by kernel_rfl, by kernel_rfl, by kernel_rfl, by kernel_rfl⟩⟩
theorem ev117 (n b r : Nat) (hb : b < 65536) (hr : r < 16) : Ev cx 117 [.int .i64 r, .ptr 0 0] [⟨[.int .i64 n, .int .i64 b], 1, 0, some 0, true⟩] (.bool (bt b r == 0)) [⟨[.int .i64 n, .int .i64 b], 1, 0, some 0, true⟩] := by
  have e1 := ev118 n b r (by omega) (by omega)
  refine has117.eev rfl rfl ?_
  unfold m117
  repeat' (first
    | (refine g_op ?_; first
      | refine ep_mov rfl ?_ | refine sp_loadN rfl rfl rfl rfl rfl ?_
      | refine ep_call0 rfl (by first | exact e1) rfl rfl ?_
      | refine sp_call rfl rfl rfl rfl (by first | exact e1) ⟨rfl, rfl, rfl, rfl⟩ rfl rfl rfl ?_
      | refine ep_bin rfl rfl (by exact b_eql) ?_)
    | (refine g_ops ?_; first | refine eo_none ?_ | refine eo_nil ?_)
    | (refine g_code ?_; first | refine ec_seq ?_ | refine ec_region ?_ | refine ec_ret ?_)
    | refine ek_seqN ?_ | refine ek_seqR ?_)
  refine sfin (.inr rfl) (by rfl) (by rfl) (by exact ⟨rfl, rfl, rfl⟩) (by rfl) (by rfl) (by exact congrArg V.bool (ieq0 (bt b r))) (by first | rfl | (simp; done) | (simp [ints, prs]; done))
-- (impl.Func).leastTrue$1
def m183 : MC := (.seq (.region [⟨(.mov (.k (.bool false))), (some 3), none⟩] false) (.seq (.region [⟨(.load (some 2) (.t 1)), (some 4), none⟩, ⟨(.mov (.t 0)), (some 5), none⟩, ⟨(.call 118 [(.t 4), (.t 5)]), (some 6), none⟩, ⟨(.bin .eql (.t 6) (.k (.int .i64 1))), (some 7), none⟩, ⟨(.mov (.t 7)), (some 3), none⟩] false) .ret))
theorem has183 : Has cx 183 8 m183 [(.tmp 3)] :=
  ⟨⟨Try.f183, Try.f183.body.getD .skip, by kernel_rfl, by kernel_rfl, by kernel_rfl, by kernel_rfl, by kernel_rfl, by kernel_rfl⟩⟩
theorem ev183 (n b r : Nat) (hb : b < 65536) (hr : r < 16) : Ev cx 183 [.int .i64 r, .ptr 0 0] [⟨[.int .i64 n, .int .i64 b], 1, 0, some 0, true⟩] (.bool (bt b r == 1)) [⟨[.int .i64 n, .int .i64 b], 1, 0, some 0, true⟩] := by
  have e1 := ev118 n b r (by omega) (by omega)
  refine has183.eev rfl rfl ?_
  unfold m183
  repeat' (first
    | (refine g_op ?_; first
      | refine ep_mov rfl ?_ | refine sp_loadN rfl rfl rfl rfl rfl ?_
      | refine ep_call0 rfl (by first | exact e1) rfl rfl ?_
      | refine sp_call rfl rfl rfl rfl (by first | exact e1) ⟨rfl, rfl, rfl, rfl⟩ rfl rfl rfl ?_
      | refine ep_bin rfl rfl (by exact b_eql) ?_)
    | (refine g_ops ?_; first | refine eo_none ?_ | refine eo_nil ?_)
    | (refine g_code ?_; first | refine ec_seq ?_ | refine ec_region ?_ | refine ec_ret ?_)
    | refine ek_seqN ?_ | refine ek_seqR ?_)
  refine sfin (.inr rfl) (by rfl) (by rfl) (by exact ⟨rfl, rfl, rfl⟩) (by rfl) (by rfl) (by exact congrArg V.bool (ieq1 (bt b r))) (by first | rfl | (simp; done) | (simp [ints, prs]; done))
-- impl.GreatestFalseRows$2
def m119 : MC := (.seq (.region [⟨(.mov (.k (.bool false))), (some 4), none⟩] false) (.seq (.region [⟨(.mov (.t 1)), (some 5), none⟩, ⟨(.mov (.t 0)), (some 6), none⟩, ⟨(.call 102 [(.t 5), (.t 6)]), (some 7), none⟩, ⟨(.mov (.t 7)), (some 4), none⟩] false) .ret))
theorem has119 : Has cx 119 8 m119 [(.tmp 4)] :=
  ⟨⟨Try.f119, Try.f119.body.getD .skip, by kernel_rfl, by kernel_rfl, by kernel_rfl, by kernel_rfl, by kernel_rfl, by kernel_rfl⟩⟩
theorem ev119 (r s : Nat) (hr : r < 65536) (hs : s < 65536) : Ev cx 119 [.int .i64 r, .int .i64 s] [] (.bool (s &&& r == r)) [] := by
  have e1 := ev102 s r hs hr
  refine has119.eev rfl rfl ?_
  unfold m119
  repeat' (first
    | (refine g_op ?_; first
      | refine ep_mov rfl ?_
      | refine ep_call0 rfl (by first | exact e1) rfl rfl ?_
      | refine sp_call rfl rfl rfl rfl (by first | exact e1) ⟨rfl, rfl, rfl, rfl⟩ rfl rfl rfl ?_)
    | (refine g_ops ?_; first | refine eo_none ?_ | refine eo_nil ?_)
    | (refine g_code ?_; first | refine ec_seq ?_ | refine ec_region ?_ | refine ec_ret ?_)
    | refine ek_seqN ?_ | refine ek_seqR ?_)
  refine sfin (.inr rfl) (by rfl) (by rfl) (by exact ⟨rfl, rfl, rfl⟩) (by rfl) (by rfl) (by rfl) (by first | rfl | (simp; done) | (simp [ints, prs]; done))
theorem allFz (p : Nat → Bool) (i : Nat) : allF p i 0 = true := rfl
theorem ite_preT {P : Nat → Bool} {n : Nat} (A : Bool → Out) : (if allF (fun j => allF P 0 j) 0 n = true then A (allF P 0 n) else A false) = A (allF P 0 n) := by
  cases h : allF (fun j => allF P 0 j) 0 n
  · have : allF P 0 n = false := by
      cases hh : allF P 0 n
      · rfl
      · have : allF (fun j => allF P 0 j) 0 n = true := by
          rw [allF_iff]; intro j _ hj
          rw [allF_iff] at hh ⊢
          intro k h1 h2; exact hh k h1 (by omega)
        rw [this] at h; simp at h
    rw [this]; rfl
  · rfl
theorem ite_pre2 {E : Bool} {Q : Nat → Bool} {n : Nat} (A : Bool → Out) : (if allF (fun j => E && allF Q 0 j) 0 n = true then A (E && allF Q 0 n) else A false) = A (E && allF Q 0 n) := by
  cases E with
  | false => 
    cases allF (fun j => false && allF Q 0 j) 0 n <;> rfl
  | true =>
    have := ite_preT (P := Q) (n := n) A
    simp only [Bool.true_and]; exact this
def enQ (b v r : Nat) (bel : Nat → Nat → Bool) (s : Nat) : Bool := s == r || (bt b s != v || !bel r s)
def enP (n b v : Nat) (bel : Nat → Nat → Bool) (r : Nat) : Bool := (((bt b r : Nat) : Int) == (v : Nat)) && allF (enQ b v r bel) 0 (R2 n)
-- spec.l07Ends
def m105_1 : MC := (.seq (.seq (.region [⟨(.mov (.t 11)), (some 27), none⟩, ⟨(.mov (.t 8)), (some 28), none⟩, ⟨(.bin .lss (.t 27) (.t 28)), (some 29), none⟩, ⟨(.mov (.t 29)), (some 30), none⟩, ⟨(.mov (.t 10)), (some 31), (some (30, true))⟩, ⟨(.pick (.t 30) (.t 31) (.k (.bool false))), (some 32), none⟩] false) (.cond (.t 32) .skip (.exit 2))) (.seq (.block 3 (.seq (.region [⟨(.mov (.t 11)), (some 35), none⟩, ⟨(.mov (.t 9)), (some 36), none⟩, ⟨(.call 189 [(.t 35), (.t 36)]), (some 37), none⟩, ⟨(.mov (.t 37)), (some 12), none⟩] false) (.seq (.seq (.region [⟨(.mov (.t 2)), (some 38), none⟩] false) (.cond (.t 38) (.region [⟨(.mov (.t 9)), (some 39), none⟩, ⟨(.mov (.t 11)), (some 40), none⟩, ⟨(.call 189 [(.t 39), (.t 40)]), (some 41), none⟩, ⟨(.mov (.t 41)), (some 12), none⟩] false) .skip)) (.region [⟨(.mov (.t 11)), (some 42), none⟩, ⟨(.mov (.t 9)), (some 43), none⟩, ⟨(.bin .eql (.t 42) (.t 43)), (some 44), none⟩, ⟨(.mov (.t 44)), (some 45), none⟩, ⟨(.load (some 2) (.t 3)), (some 46), (some (45, false))⟩, ⟨(.mov (.t 11)), (some 47), (some (45, false))⟩, ⟨(.call 157 [(.t 46), (.t 47)]), (some 48), (some (45, false))⟩, ⟨(.mov (.t 1)), (some 49), (some (45, false))⟩, ⟨(.bin .neq (.t 48) (.t 49)), (some 50), (some (45, false))⟩, ⟨(.pick (.t 45) (.k (.bool true)) (.t 50)), (some 51), none⟩, ⟨(.mov (.t 51)), (some 52), none⟩, ⟨(.mov (.t 12)), (some 53), (some (52, false))⟩, ⟨(.un .not (.t 53)), (some 54), (some (52, false))⟩, ⟨(.pick (.t 52) (.k (.bool true)) (.t 54)), (some 55), none⟩, ⟨(.mov (.t 55)), (some 10), none⟩] false)))) (.region [⟨(.mov (.t 11)), (some 33), none⟩, ⟨(.bin .add (.t 33) (.k (.int .i64 1))), (some 34), none⟩, ⟨(.mov (.t 34)), (some 11), none⟩] false)))
def m105_0 : MC := (.seq (.seq (.region [⟨(.mov (.t 9)), (some 17), none⟩, ⟨(.mov (.t 8)), (some 18), none⟩, ⟨(.bin .lss (.t 17) (.t 18)), (some 19), none⟩] false) (.cond (.t 19) .skip (.exit 0))) (.seq (.block 1 (.seq (.region [⟨(.load (some 2) (.t 3)), (some 22), none⟩, ⟨(.mov (.t 9)), (some 23), none⟩, ⟨(.call 157 [(.t 22), (.t 23)]), (some 24), none⟩, ⟨(.mov (.t 1)), (some 25), none⟩, ⟨(.bin .eql (.t 24) (.t 25)), (some 26), none⟩, ⟨(.mov (.t 26)), (some 10), none⟩] false) (.seq (.seq (.region [⟨(.mov (.k (.int .i64 0))), (some 11), none⟩] false) (.block 2 (.loop m105_1))) (.seq (.region [⟨(.mov (.t 10)), (some 56), none⟩] false) (.cond (.t 56) (.region [⟨(.mov (.t 7)), (some 57), none⟩, ⟨(.mov (.t 9)), (some 58), none⟩, ⟨(.bslice 1 [(.int .i64 0)] 1 [(0, (1, (.t 58)))]), (some 59), none⟩, ⟨(.append 1 8 (.t 57) (.t 59)), (some 60), none⟩, ⟨(.mov (.t 60)), (some 7), none⟩] false) .skip))))) (.region [⟨(.mov (.t 9)), (some 20), none⟩, ⟨(.bin .add (.t 20) (.k (.int .i64 1))), (some 21), none⟩, ⟨(.mov (.t 21)), (some 9), none⟩] false)))
def m105 : MC := (.seq (.region [⟨(.box (.t 0)), (some 3), none⟩, ⟨(.mov (.k .nils)), (some 6), none⟩] false) (.seq (.region [⟨.empt, (some 13), none⟩, ⟨(.fieldAddr 0 (.t 3)), (some 14), none⟩, ⟨(.load none (.t 14)), (some 15), none⟩, ⟨(.call 106 [(.t 15)]), (some 16), none⟩, ⟨(.mov (.t 13)), (some 7), none⟩, ⟨(.mov (.t 16)), (some 8), none⟩] false) (.seq (.seq (.region [⟨(.mov (.k (.int .i64 0))), (some 9), none⟩] false) (.block 0 (.loop m105_0))) (.seq (.region [⟨(.mov (.t 7)), (some 61), none⟩, ⟨(.mov (.t 61)), (some 6), none⟩] false) .ret))))
theorem has105 : Has cx 105 62 m105 [(.tmp 6)] :=
  ⟨⟨Try.f105, Try.f105.body.getD .skip, by kernel_rfl, by kernel_rfl, by kernel_rfl, by kernel_rfl, by kernel_rfl, by kernel_rfl⟩⟩
theorem lpen_f_e (n b v r : Nat) (hn : n ≤ 4) (hb : b < 65536) (hr : r < R2 n) (o : Out) (ho : (if allF (fun j => (((bt b r : Nat) : Int) == (v : Nat)) && allF (enQ b v r (fun r s => s &&& r == r)) 0 j) 0 (R2 n) = true then (⟨.exit 2, [(1, .int .i64 (v : Nat)), (2, .bool false), (3, .ptr 0 0), (7, .emp), (8, .int .i64 (R2 n : Nat)), (9, .int .i64 (r : Nat)), (10, .bool ((((bt b r : Nat) : Int) == (v : Nat)) && allF (enQ b v r (fun r s => s &&& r == r)) 0 (R2 n)))], [⟨[.int .i64 n, .int .i64 b], 1, 0, some 0, true⟩]⟩ : Out) else ⟨.exit 2, [(1, .int .i64 (v : Nat)), (2, .bool false), (3, .ptr 0 0), (7, .emp), (8, .int .i64 (R2 n : Nat)), (9, .int .i64 (r : Nat)), (10, .bool false)], [⟨[.int .i64 n, .int .i64 b], 1, 0, some 0, true⟩]⟩) = o) :
    LpS cx 62 0 m105_1 [(1, .int .i64 (v : Nat)), (2, .bool false), (3, .ptr 0 0), (7, .emp), (8, .int .i64 (R2 n : Nat)), (9, .int .i64 (r : Nat)), (10, .bool ((((bt b r : Nat) : Int) == (v : Nat)) && allF (enQ b v r (fun r s => s &&& r == r)) 0 (0))), (11, .int .i64 (0 : Nat))] [⟨[.int .i64 n, .int .i64 b], 1, 0, some 0, true⟩] o.x o.e o.h := by
  obtain ⟨h1, h2, h3, h4⟩ := shN hn
  refine lp_all (R2 n) (fun j => (((bt b r : Nat) : Int) == (v : Nat)) && allF (enQ b v r (fun r s => s &&& r == r)) 0 j) (fun i => [(1, .int .i64 (v : Nat)), (2, .bool false), (3, .ptr 0 0), (7, .emp), (8, .int .i64 (R2 n : Nat)), (9, .int .i64 (r : Nat)), (10, .bool ((((bt b r : Nat) : Int) == (v : Nat)) && allF (enQ b v r (fun r s => s &&& r == r)) 0 (i))), (11, .int .i64 (i : Nat))]) (fun i => [⟨[.int .i64 n, .int .i64 b], 1, 0, some 0, true⟩]) _ _ ?_ ?_ ?_ (R2 n) 0 o (by omega) ho
  · intro i hi hp
    have hlt : decide ((i : Int) < (R2 n : Nat)) = true := decide_eq_true (by omega)
    have hp' : ((((bt b r : Nat) : Int) == (v : Nat)) && allF (enQ b v r (fun r s => s &&& r == r)) 0 i) = true := hp
    have e1 := ev189 i r (by omega) (by omega)
    have e2 := ev189 r i (by omega) (by omega)
    have e3 := ev157 n b i (by omega) (by omega)
    have hA := ((Bool.and_eq_true _ _).mp hp').2
    have hE := ((Bool.and_eq_true _ _).mp hp').1
    have hz : ((((bt b r : Nat) : Int) == (v : Nat)) && allF (enQ b v r (fun r s => s &&& r == r)) 0 (i + 1)) = enQ b v r (fun r s => s &&& r == r) i := by rw [allF_s, hA, hE, Bool.true_and, Bool.true_and]
    rw [hz, hp']
    have w1 := ieq i r
    have w2 := ine (bt b i) v
    have hQ : enQ b v r (fun r s => s &&& r == r) i = (i == r || (bt b i != v || !(i &&& r == r))) := rfl
    rw [hQ]
    cases c1 : (i == r)
    · rw [c1] at w1
      cases c2 : (bt b i != v)
      · rw [c2] at w2
        unfold m105_1
        repeat' (first
          | (refine g_op ?_; first
            | refine ep_mov rfl ?_ | refine sp_loadN rfl rfl rfl rfl rfl ?_
            | refine ep_call0 rfl (by first | exact e1 | exact e2 | exact e3) rfl rfl ?_
            | refine sp_call rfl rfl rfl rfl (by first | exact e1 | exact e2 | exact e3) ⟨rfl, rfl, rfl, rfl⟩ rfl rfl rfl ?_
            | refine ep_bin rfl rfl (by first | exact b_add (by omega) (by omega) | exact b_lss | exact b_eql | exact b_neq) ?_ | refine ep_pickT rfl rfl ?_ | refine ep_pickF rfl rfl ?_ | refine ep_pickTH rfl (by assumption) rfl ?_
            | refine ep_pickFH rfl (by assumption) rfl ?_ | refine ep_not rfl ?_)
          | (refine g_ops ?_; first | refine eo_none ?_ | refine eo_nil ?_ | refine eo_yes rfl ?_ | refine eo_no rfl ?_ | refine eo_und rfl ?_ | refine eo_yesH rfl (by assumption) ?_ | refine eo_noH rfl (by assumption) ?_)
          | (refine g_code ?_; first | refine ec_seq ?_ | refine ec_region ?_ | refine ec_block ?_ | refine ec_skip ?_ | refine ec_exit ?_ | refine ec_condT rfl ?_ | refine ec_condF rfl ?_ | refine ec_condTH rfl (by assumption) ?_ | refine ec_condFH rfl (by assumption) ?_)
          | refine ek_seqN ?_ | refine ek_seqX ?_ | refine ek_blkN ?_ | refine ek_blkR ?_ | refine ek_blkX ?_ | refine ek_blkY rfl ?_)
        exact rnd_on (by rfl) (scmp2 (by rfl) (by rfl) (by exact ⟨rfl, rfl, rfl⟩) (by rfl) (by first | rfl | (simp; done) | (simp [ints, prs]; done)) (by rfl) (by first | rfl | (simp; done) | (simp [ints, prs]; done)))
      · rw [c2] at w2
        unfold m105_1
        repeat' (first
          | (refine g_op ?_; first
            | refine ep_mov rfl ?_ | refine sp_loadN rfl rfl rfl rfl rfl ?_
            | refine ep_call0 rfl (by first | exact e1 | exact e2 | exact e3) rfl rfl ?_
            | refine sp_call rfl rfl rfl rfl (by first | exact e1 | exact e2 | exact e3) ⟨rfl, rfl, rfl, rfl⟩ rfl rfl rfl ?_
            | refine ep_bin rfl rfl (by first | exact b_add (by omega) (by omega) | exact b_lss | exact b_eql | exact b_neq) ?_ | refine ep_pickT rfl rfl ?_ | refine ep_pickF rfl rfl ?_ | refine ep_pickTH rfl (by assumption) rfl ?_
            | refine ep_pickFH rfl (by assumption) rfl ?_ | refine ep_not rfl ?_)
          | (refine g_ops ?_; first | refine eo_none ?_ | refine eo_nil ?_ | refine eo_yes rfl ?_ | refine eo_no rfl ?_ | refine eo_und rfl ?_ | refine eo_yesH rfl (by assumption) ?_ | refine eo_noH rfl (by assumption) ?_)
          | (refine g_code ?_; first | refine ec_seq ?_ | refine ec_region ?_ | refine ec_block ?_ | refine ec_skip ?_ | refine ec_exit ?_ | refine ec_condT rfl ?_ | refine ec_condF rfl ?_ | refine ec_condTH rfl (by assumption) ?_ | refine ec_condFH rfl (by assumption) ?_)
          | refine ek_seqN ?_ | refine ek_seqX ?_ | refine ek_blkN ?_ | refine ek_blkR ?_ | refine ek_blkX ?_ | refine ek_blkY rfl ?_)
        exact rnd_on (by rfl) (scmp2 (by rfl) (by rfl) (by exact ⟨rfl, rfl, rfl⟩) (by rfl) (by first | rfl | (simp; done) | (simp [ints, prs]; done)) (by rfl) (by first | rfl | (simp; done) | (simp [ints, prs]; done)))
    rw [c1] at w1
    unfold m105_1
    repeat' (first
      | (refine g_op ?_; first
        | refine ep_mov rfl ?_ | refine sp_loadN rfl rfl rfl rfl rfl ?_
        | refine ep_call0 rfl (by first | exact e1 | exact e2 | exact e3) rfl rfl ?_
        | refine sp_call rfl rfl rfl rfl (by first | exact e1 | exact e2 | exact e3) ⟨rfl, rfl, rfl, rfl⟩ rfl rfl rfl ?_
        | refine ep_bin rfl rfl (by first | exact b_add (by omega) (by omega) | exact b_lss | exact b_eql | exact b_neq) ?_ | refine ep_pickT rfl rfl ?_ | refine ep_pickF rfl rfl ?_ | refine ep_pickTH rfl (by assumption) rfl ?_
        | refine ep_pickFH rfl (by assumption) rfl ?_ | refine ep_not rfl ?_)
      | (refine g_ops ?_; first | refine eo_none ?_ | refine eo_nil ?_ | refine eo_yes rfl ?_ | refine eo_no rfl ?_ | refine eo_und rfl ?_ | refine eo_yesH rfl (by assumption) ?_ | refine eo_noH rfl (by assumption) ?_)
      | (refine g_code ?_; first | refine ec_seq ?_ | refine ec_region ?_ | refine ec_block ?_ | refine ec_skip ?_ | refine ec_exit ?_ | refine ec_condT rfl ?_ | refine ec_condF rfl ?_ | refine ec_condTH rfl (by assumption) ?_ | refine ec_condFH rfl (by assumption) ?_)
      | refine ek_seqN ?_ | refine ek_seqX ?_ | refine ek_blkN ?_ | refine ek_blkR ?_ | refine ek_blkX ?_ | refine ek_blkY rfl ?_)
    exact rnd_on (by rfl) (scmp2 (by rfl) (by rfl) (by exact ⟨rfl, rfl, rfl⟩) (by rfl) (by first | rfl | (simp; done) | (simp [ints, prs]; done)) (by rfl) (by first | rfl | (simp; done) | (simp [ints, prs]; done)))
  · intro i hi hp
    have hlt : decide ((i : Int) < (R2 n : Nat)) = true := decide_eq_true (by omega)
    have hp' : ((((bt b r : Nat) : Int) == (v : Nat)) && allF (enQ b v r (fun r s => s &&& r == r)) 0 i) = false := hp
    have e1 := ev189 i r (by omega) (by omega)
    have e2 := ev189 r i (by omega) (by omega)
    have e3 := ev157 n b i (by omega) (by omega)
    rw [hp']
    unfold m105_1
    repeat' (first
      | (refine g_op ?_; first
        | refine ep_mov rfl ?_ | refine sp_loadN rfl rfl rfl rfl rfl ?_
        | refine ep_call0 rfl (by first | exact e1 | exact e2 | exact e3) rfl rfl ?_
        | refine sp_call rfl rfl rfl rfl (by first | exact e1 | exact e2 | exact e3) ⟨rfl, rfl, rfl, rfl⟩ rfl rfl rfl ?_
        | refine ep_bin rfl rfl (by first | exact b_add (by omega) (by omega) | exact b_lss | exact b_eql | exact b_neq) ?_ | refine ep_pickT rfl rfl ?_ | refine ep_pickF rfl rfl ?_ | refine ep_pickTH rfl (by assumption) rfl ?_
        | refine ep_pickFH rfl (by assumption) rfl ?_ | refine ep_not rfl ?_)
      | (refine g_ops ?_; first | refine eo_none ?_ | refine eo_nil ?_ | refine eo_yes rfl ?_ | refine eo_no rfl ?_ | refine eo_und rfl ?_ | refine eo_yesH rfl (by assumption) ?_ | refine eo_noH rfl (by assumption) ?_)
      | (refine g_code ?_; first | refine ec_seq ?_ | refine ec_region ?_ | refine ec_block ?_ | refine ec_skip ?_ | refine ec_exit ?_ | refine ec_condT rfl ?_ | refine ec_condF rfl ?_ | refine ec_condTH rfl (by assumption) ?_ | refine ec_condFH rfl (by assumption) ?_)
      | refine ek_seqN ?_ | refine ek_seqX ?_ | refine ek_blkN ?_ | refine ek_blkR ?_ | refine ek_blkX ?_ | refine ek_blkY rfl ?_)
    exact rnd_out (by rfl) (by simp) (scmp2 (by rfl) (by rfl) (by exact ⟨rfl, rfl, rfl⟩) (by rfl) (by first | rfl | (simp; done) | (simp [ints, prs]; done)) (by rfl) (by first | rfl | (simp; done) | (simp [ints, prs]; done)))
  · have hlt : decide (((R2 n : Nat) : Int) < (R2 n : Nat)) = false := decide_eq_false (by omega)
    unfold m105_1
    repeat' (first
      | (refine g_op ?_; first
        | refine ep_mov rfl ?_ | refine sp_loadN rfl rfl rfl rfl rfl ?_
        | refine ep_bin rfl rfl (by first | exact b_add (by omega) (by omega) | exact b_lss | exact b_eql | exact b_neq) ?_ | refine ep_pickT rfl rfl ?_ | refine ep_pickF rfl rfl ?_ | refine ep_pickTH rfl (by assumption) rfl ?_
        | refine ep_pickFH rfl (by assumption) rfl ?_ | refine ep_not rfl ?_)
      | (refine g_ops ?_; first | refine eo_none ?_ | refine eo_nil ?_ | refine eo_yes rfl ?_ | refine eo_no rfl ?_ | refine eo_und rfl ?_ | refine eo_yesH rfl (by assumption) ?_ | refine eo_noH rfl (by assumption) ?_)
      | (refine g_code ?_; first | refine ec_seq ?_ | refine ec_region ?_ | refine ec_block ?_ | refine ec_skip ?_ | refine ec_exit ?_ | refine ec_condT rfl ?_ | refine ec_condF rfl ?_ | refine ec_condTH rfl (by assumption) ?_ | refine ec_condFH rfl (by assumption) ?_)
      | refine ek_seqN ?_ | refine ek_seqX ?_ | refine ek_blkN ?_ | refine ek_blkR ?_ | refine ek_blkX ?_ | refine ek_blkY rfl ?_)
    exact rnd_out (by rfl) (by simp) (scmp2 (by rfl) (by rfl) (by exact ⟨rfl, rfl, rfl⟩) (by rfl) (by first | rfl | (simp; done) | (simp [ints, prs]; done)) (by rfl) (by first | rfl | (simp; done) | (simp [ints, prs]; done)))

theorem lpen_f_c (n b v r : Nat) (hn : n ≤ 4) (hb : b < 65536) (hr : r < R2 n) (x : Nat) (xs : List Nat) (o : Out) (ho : (if allF (fun j => (((bt b r : Nat) : Int) == (v : Nat)) && allF (enQ b v r (fun r s => s &&& r == r)) 0 j) 0 (R2 n) = true then (⟨.exit 2, [(1, .int .i64 (v : Nat)), (2, .bool false), (3, .ptr 0 0), (7, .sl 1 0 (x :: xs).length), (8, .int .i64 (R2 n : Nat)), (9, .int .i64 (r : Nat)), (10, .bool ((((bt b r : Nat) : Int) == (v : Nat)) && allF (enQ b v r (fun r s => s &&& r == r)) 0 (R2 n)))], [⟨[.int .i64 n, .int .i64 b], 1, 0, some 0, true⟩, ⟨ints (x :: xs), 1, 1, some 0, false⟩]⟩ : Out) else ⟨.exit 2, [(1, .int .i64 (v : Nat)), (2, .bool false), (3, .ptr 0 0), (7, .sl 1 0 (x :: xs).length), (8, .int .i64 (R2 n : Nat)), (9, .int .i64 (r : Nat)), (10, .bool false)], [⟨[.int .i64 n, .int .i64 b], 1, 0, some 0, true⟩, ⟨ints (x :: xs), 1, 1, some 0, false⟩]⟩) = o) :
    LpS cx 62 0 m105_1 [(1, .int .i64 (v : Nat)), (2, .bool false), (3, .ptr 0 0), (7, .sl 1 0 (x :: xs).length), (8, .int .i64 (R2 n : Nat)), (9, .int .i64 (r : Nat)), (10, .bool ((((bt b r : Nat) : Int) == (v : Nat)) && allF (enQ b v r (fun r s => s &&& r == r)) 0 (0))), (11, .int .i64 (0 : Nat))] [⟨[.int .i64 n, .int .i64 b], 1, 0, some 0, true⟩, ⟨ints (x :: xs), 1, 1, some 0, false⟩] o.x o.e o.h := by
  obtain ⟨h1, h2, h3, h4⟩ := shN hn
  refine lp_all (R2 n) (fun j => (((bt b r : Nat) : Int) == (v : Nat)) && allF (enQ b v r (fun r s => s &&& r == r)) 0 j) (fun i => [(1, .int .i64 (v : Nat)), (2, .bool false), (3, .ptr 0 0), (7, .sl 1 0 (x :: xs).length), (8, .int .i64 (R2 n : Nat)), (9, .int .i64 (r : Nat)), (10, .bool ((((bt b r : Nat) : Int) == (v : Nat)) && allF (enQ b v r (fun r s => s &&& r == r)) 0 (i))), (11, .int .i64 (i : Nat))]) (fun i => [⟨[.int .i64 n, .int .i64 b], 1, 0, some 0, true⟩, ⟨ints (x :: xs), 1, 1, some 0, false⟩]) _ _ ?_ ?_ ?_ (R2 n) 0 o (by omega) ho
  · intro i hi hp
    have hlt : decide ((i : Int) < (R2 n : Nat)) = true := decide_eq_true (by omega)
    have hp' : ((((bt b r : Nat) : Int) == (v : Nat)) && allF (enQ b v r (fun r s => s &&& r == r)) 0 i) = true := hp
    have e1 := ev189 i r (by omega) (by omega)
    have e2 := ev189 r i (by omega) (by omega)
    have e3 := ev157 n b i (by omega) (by omega)
    have hA := ((Bool.and_eq_true _ _).mp hp').2
    have hE := ((Bool.and_eq_true _ _).mp hp').1
    have hz : ((((bt b r : Nat) : Int) == (v : Nat)) && allF (enQ b v r (fun r s => s &&& r == r)) 0 (i + 1)) = enQ b v r (fun r s => s &&& r == r) i := by rw [allF_s, hA, hE, Bool.true_and, Bool.true_and]
    rw [hz, hp']
    have w1 := ieq i r
    have w2 := ine (bt b i) v
    have hQ : enQ b v r (fun r s => s &&& r == r) i = (i == r || (bt b i != v || !(i &&& r == r))) := rfl
    rw [hQ]
    cases c1 : (i == r)
    · rw [c1] at w1
      cases c2 : (bt b i != v)
      · rw [c2] at w2
        unfold m105_1
        repeat' (first
          | (refine g_op ?_; first
            | refine ep_mov rfl ?_ | refine sp_loadN rfl rfl rfl rfl rfl ?_
            | refine ep_call0 rfl (by first | exact e1 | exact e2 | exact e3) rfl rfl ?_
            | refine sp_call rfl rfl rfl rfl (by first | exact e1 | exact e2 | exact e3) ⟨rfl, rfl, rfl, rfl⟩ rfl rfl rfl ?_
            | refine ep_bin rfl rfl (by first | exact b_add (by omega) (by omega) | exact b_lss | exact b_eql | exact b_neq) ?_ | refine ep_pickT rfl rfl ?_ | refine ep_pickF rfl rfl ?_ | refine ep_pickTH rfl (by assumption) rfl ?_
            | refine ep_pickFH rfl (by assumption) rfl ?_ | refine ep_not rfl ?_)
          | (refine g_ops ?_; first | refine eo_none ?_ | refine eo_nil ?_ | refine eo_yes rfl ?_ | refine eo_no rfl ?_ | refine eo_und rfl ?_ | refine eo_yesH rfl (by assumption) ?_ | refine eo_noH rfl (by assumption) ?_)
          | (refine g_code ?_; first | refine ec_seq ?_ | refine ec_region ?_ | refine ec_block ?_ | refine ec_skip ?_ | refine ec_exit ?_ | refine ec_condT rfl ?_ | refine ec_condF rfl ?_ | refine ec_condTH rfl (by assumption) ?_ | refine ec_condFH rfl (by assumption) ?_)
          | refine ek_seqN ?_ | refine ek_seqX ?_ | refine ek_blkN ?_ | refine ek_blkR ?_ | refine ek_blkX ?_ | refine ek_blkY rfl ?_)
        exact rnd_on (by rfl) (scmp2 (by rfl) (by rfl) (by exact ⟨rfl, rfl, rfl⟩) (by rfl) (by first | rfl | (simp; done) | (simp [ints, prs]; done)) (by rfl) (by first | rfl | (simp; done) | (simp [ints, prs]; done)))
      · rw [c2] at w2
        unfold m105_1
        repeat' (first
          | (refine g_op ?_; first
            | refine ep_mov rfl ?_ | refine sp_loadN rfl rfl rfl rfl rfl ?_
            | refine ep_call0 rfl (by first | exact e1 | exact e2 | exact e3) rfl rfl ?_
            | refine sp_call rfl rfl rfl rfl (by first | exact e1 | exact e2 | exact e3) ⟨rfl, rfl, rfl, rfl⟩ rfl rfl rfl ?_
            | refine ep_bin rfl rfl (by first | exact b_add (by omega) (by omega) | exact b_lss | exact b_eql | exact b_neq) ?_ | refine ep_pickT rfl rfl ?_ | refine ep_pickF rfl rfl ?_ | refine ep_pickTH rfl (by assumption) rfl ?_
            | refine ep_pickFH rfl (by assumption) rfl ?_ | refine ep_not rfl ?_)
          | (refine g_ops ?_; first | refine eo_none ?_ | refine eo_nil ?_ | refine eo_yes rfl ?_ | refine eo_no rfl ?_ | refine eo_und rfl ?_ | refine eo_yesH rfl (by assumption) ?_ | refine eo_noH rfl (by assumption) ?_)
          | (refine g_code ?_; first | refine ec_seq ?_ | refine ec_region ?_ | refine ec_block ?_ | refine ec_skip ?_ | refine ec_exit ?_ | refine ec_condT rfl ?_ | refine ec_condF rfl ?_ | refine ec_condTH rfl (by assumption) ?_ | refine ec_condFH rfl (by assumption) ?_)
          | refine ek_seqN ?_ | refine ek_seqX ?_ | refine ek_blkN ?_ | refine ek_blkR ?_ | refine ek_blkX ?_ | refine ek_blkY rfl ?_)
        exact rnd_on (by rfl) (scmp2 (by rfl) (by rfl) (by exact ⟨rfl, rfl, rfl⟩) (by rfl) (by first | rfl | (simp; done) | (simp [ints, prs]; done)) (by rfl) (by first | rfl | (simp; done) | (simp [ints, prs]; done)))
    rw [c1] at w1
    unfold m105_1
    repeat' (first
      | (refine g_op ?_; first
        | refine ep_mov rfl ?_ | refine sp_loadN rfl rfl rfl rfl rfl ?_
        | refine ep_call0 rfl (by first | exact e1 | exact e2 | exact e3) rfl rfl ?_
        | refine sp_call rfl rfl rfl rfl (by first | exact e1 | exact e2 | exact e3) ⟨rfl, rfl, rfl, rfl⟩ rfl rfl rfl ?_
        | refine ep_bin rfl rfl (by first | exact b_add (by omega) (by omega) | exact b_lss | exact b_eql | exact b_neq) ?_ | refine ep_pickT rfl rfl ?_ | refine ep_pickF rfl rfl ?_ | refine ep_pickTH rfl (by assumption) rfl ?_
        | refine ep_pickFH rfl (by assumption) rfl ?_ | refine ep_not rfl ?_)
      | (refine g_ops ?_; first | refine eo_none ?_ | refine eo_nil ?_ | refine eo_yes rfl ?_ | refine eo_no rfl ?_ | refine eo_und rfl ?_ | refine eo_yesH rfl (by assumption) ?_ | refine eo_noH rfl (by assumption) ?_)
      | (refine g_code ?_; first | refine ec_seq ?_ | refine ec_region ?_ | refine ec_block ?_ | refine ec_skip ?_ | refine ec_exit ?_ | refine ec_condT rfl ?_ | refine ec_condF rfl ?_ | refine ec_condTH rfl (by assumption) ?_ | refine ec_condFH rfl (by assumption) ?_)
      | refine ek_seqN ?_ | refine ek_seqX ?_ | refine ek_blkN ?_ | refine ek_blkR ?_ | refine ek_blkX ?_ | refine ek_blkY rfl ?_)
    exact rnd_on (by rfl) (scmp2 (by rfl) (by rfl) (by exact ⟨rfl, rfl, rfl⟩) (by rfl) (by first | rfl | (simp; done) | (simp [ints, prs]; done)) (by rfl) (by first | rfl | (simp; done) | (simp [ints, prs]; done)))
  · intro i hi hp
    have hlt : decide ((i : Int) < (R2 n : Nat)) = true := decide_eq_true (by omega)
    have hp' : ((((bt b r : Nat) : Int) == (v : Nat)) && allF (enQ b v r (fun r s => s &&& r == r)) 0 i) = false := hp
    have e1 := ev189 i r (by omega) (by omega)
    have e2 := ev189 r i (by omega) (by omega)
    have e3 := ev157 n b i (by omega) (by omega)
    rw [hp']
    unfold m105_1
    repeat' (first
      | (refine g_op ?_; first
        | refine ep_mov rfl ?_ | refine sp_loadN rfl rfl rfl rfl rfl ?_
        | refine ep_call0 rfl (by first | exact e1 | exact e2 | exact e3) rfl rfl ?_
        | refine sp_call rfl rfl rfl rfl (by first | exact e1 | exact e2 | exact e3) ⟨rfl, rfl, rfl, rfl⟩ rfl rfl rfl ?_
        | refine ep_bin rfl rfl (by first | exact b_add (by omega) (by omega) | exact b_lss | exact b_eql | exact b_neq) ?_ | refine ep_pickT rfl rfl ?_ | refine ep_pickF rfl rfl ?_ | refine ep_pickTH rfl (by assumption) rfl ?_
        | refine ep_pickFH rfl (by assumption) rfl ?_ | refine ep_not rfl ?_)
      | (refine g_ops ?_; first | refine eo_none ?_ | refine eo_nil ?_ | refine eo_yes rfl ?_ | refine eo_no rfl ?_ | refine eo_und rfl ?_ | refine eo_yesH rfl (by assumption) ?_ | refine eo_noH rfl (by assumption) ?_)
      | (refine g_code ?_; first | refine ec_seq ?_ | refine ec_region ?_ | refine ec_block ?_ | refine ec_skip ?_ | refine ec_exit ?_ | refine ec_condT rfl ?_ | refine ec_condF rfl ?_ | refine ec_condTH rfl (by assumption) ?_ | refine ec_condFH rfl (by assumption) ?_)
      | refine ek_seqN ?_ | refine ek_seqX ?_ | refine ek_blkN ?_ | refine ek_blkR ?_ | refine ek_blkX ?_ | refine ek_blkY rfl ?_)
    exact rnd_out (by rfl) (by simp) (scmp2 (by rfl) (by rfl) (by exact ⟨rfl, rfl, rfl⟩) (by rfl) (by first | rfl | (simp; done) | (simp [ints, prs]; done)) (by rfl) (by first | rfl | (simp; done) | (simp [ints, prs]; done)))
  · have hlt : decide (((R2 n : Nat) : Int) < (R2 n : Nat)) = false := decide_eq_false (by omega)
    unfold m105_1
    repeat' (first
      | (refine g_op ?_; first
        | refine ep_mov rfl ?_ | refine sp_loadN rfl rfl rfl rfl rfl ?_
        | refine ep_bin rfl rfl (by first | exact b_add (by omega) (by omega) | exact b_lss | exact b_eql | exact b_neq) ?_ | refine ep_pickT rfl rfl ?_ | refine ep_pickF rfl rfl ?_ | refine ep_pickTH rfl (by assumption) rfl ?_
        | refine ep_pickFH rfl (by assumption) rfl ?_ | refine ep_not rfl ?_)
      | (refine g_ops ?_; first | refine eo_none ?_ | refine eo_nil ?_ | refine eo_yes rfl ?_ | refine eo_no rfl ?_ | refine eo_und rfl ?_ | refine eo_yesH rfl (by assumption) ?_ | refine eo_noH rfl (by assumption) ?_)
      | (refine g_code ?_; first | refine ec_seq ?_ | refine ec_region ?_ | refine ec_block ?_ | refine ec_skip ?_ | refine ec_exit ?_ | refine ec_condT rfl ?_ | refine ec_condF rfl ?_ | refine ec_condTH rfl (by assumption) ?_ | refine ec_condFH rfl (by assumption) ?_)
      | refine ek_seqN ?_ | refine ek_seqX ?_ | refine ek_blkN ?_ | refine ek_blkR ?_ | refine ek_blkX ?_ | refine ek_blkY rfl ?_)
    exact rnd_out (by rfl) (by simp) (scmp2 (by rfl) (by rfl) (by exact ⟨rfl, rfl, rfl⟩) (by rfl) (by first | rfl | (simp; done) | (simp [ints, prs]; done)) (by rfl) (by first | rfl | (simp; done) | (simp [ints, prs]; done)))

theorem lp105_0_f (n b v : Nat) (hn : n ≤ 4) (hb : b < 65536) (o : Out) (ho : (match selm (enP n b v (fun r s => s &&& r == r)) (idn) (R2 n) with | [] => (⟨.exit 0, [(7, .emp)], []⟩ : Out) | x :: xs => ⟨.exit 0, [(7, .sl 0 0 (x :: xs).length)], [⟨ints (x :: xs), 1, 0, some 0, false⟩]⟩) = o) :
    LpS cx 62 0 m105_0 [(1, .int .i64 (v : Nat)), (2, .bool false), (3, .ptr 0 0), (7, .emp), (8, .int .i64 (R2 n : Nat)), (9, .int .i64 (0 : Nat))] [⟨[.int .i64 n, .int .i64 b], 1, 0, some 0, true⟩] o.x o.e o.h := by
  obtain ⟨h1, h2, h3, h4⟩ := shN hn
  subst ho
  refine lp_st (R2 n) (selm (enP n b v (fun r s => s &&& r == r)) (idn)) (fun i s => match s with | [] => [(1, .int .i64 (v : Nat)), (2, .bool false), (3, .ptr 0 0), (7, .emp), (8, .int .i64 (R2 n : Nat)), (9, .int .i64 (i : Nat))] | x :: xs => [(1, .int .i64 (v : Nat)), (2, .bool false), (3, .ptr 0 0), (7, .sl 1 0 (x :: xs).length), (8, .int .i64 (R2 n : Nat)), (9, .int .i64 (i : Nat))]) (fun i s => match s with | [] => [⟨[.int .i64 n, .int .i64 b], 1, 0, some 0, true⟩] | x :: xs => [⟨[.int .i64 n, .int .i64 b], 1, 0, some 0, true⟩, ⟨ints (x :: xs), 1, 1, some 0, false⟩]) (fun s => match s with | [] => ⟨.exit 0, [(7, .emp)], []⟩ | x :: xs => ⟨.exit 0, [(7, .sl 0 0 (x :: xs).length)], [⟨ints (x :: xs), 1, 0, some 0, false⟩]⟩) ?_ ?_ (R2 n) 0 (by omega)
  · intro i s hi hs
    have hlt : decide ((i : Int) < (R2 n : Nat)) = true := decide_eq_true (by omega)
    have hle : decide ((i : Int) ≤ (R2 n : Nat) - 1) = true := decide_eq_true (by omega)
    have hlen : s.length ≤ 16 := by have := selm_len (enP n b v (fun r s => s &&& r == r)) (idn) i; rw [hs] at this; omega
    cases hp : (enP n b v (fun r s => s &&& r == r)) i with
    | true =>
      have hp' : ((enP n b v (fun r s => s &&& r == r)) i) = true := hp
      have lpe := lpen_f_e n b v i hn hb hi _ (ite_pre2 (E := (((bt b i : Nat) : Int) == (v : Nat))) (Q := enQ b v i (fun r s => s &&& r == r)) (n := R2 n) (fun b_ => (⟨.exit 2, [(1, .int .i64 (v : Nat)), (2, .bool false), (3, .ptr 0 0), (7, .emp), (8, .int .i64 (R2 n : Nat)), (9, .int .i64 (i : Nat)), (10, .bool b_)], [⟨[.int .i64 n, .int .i64 b], 1, 0, some 0, true⟩]⟩ : Out)))
      have lpc := fun (x : Nat) (xs : List Nat) => lpen_f_c n b v i hn hb hi x xs _ (ite_pre2 (E := (((bt b i : Nat) : Int) == (v : Nat))) (Q := enQ b v i (fun r s => s &&& r == r)) (n := R2 n) (fun b_ => (⟨.exit 2, [(1, .int .i64 (v : Nat)), (2, .bool false), (3, .ptr 0 0), (7, .sl 1 0 (x :: xs).length), (8, .int .i64 (R2 n : Nat)), (9, .int .i64 (i : Nat)), (10, .bool b_)], [⟨[.int .i64 n, .int .i64 b], 1, 0, some 0, true⟩, ⟨ints (x :: xs), 1, 1, some 0, false⟩]⟩ : Out)))
      have hq : ((((bt b i : Nat) : Int) == (v : Nat)) && allF (enQ b v i (fun r s => s &&& r == r)) 0 (R2 n)) = true := hp'
      simp only [hq] at lpe lpc
      simp only [allFz, Bool.and_true] at lpe lpc
      have e3 := ev157 n b i (by omega) (by omega)
      cases s with
      | nil =>
        refine ⟨[(idn) i], by rw [selm_t (p := enP n b v (fun r s => s &&& r == r)) hp, hs]; try rfl, ?_⟩
        unfold m105_0
        repeat' (first
          | refine sc_loop lpe rfl rfl ⟨rfl, rfl, rfl⟩ rfl rfl rfl ?_
          | refine sc_loop (lpc _ _) rfl rfl ⟨rfl, rfl, rfl⟩ rfl rfl rfl ?_
          | (refine g_op ?_; first
            | refine ep_mov rfl ?_ | refine sp_loadN rfl rfl rfl rfl rfl ?_
            | refine ep_call0 rfl (by first | exact e3) rfl rfl ?_
            | refine sp_call rfl rfl rfl rfl (by first | exact e3) ⟨rfl, rfl, rfl, rfl⟩ rfl rfl rfl ?_
            | refine ep_bin rfl rfl (by first | exact b_add (by omega) (by omega) | exact b_lss | exact b_eql) ?_ | refine sp_bslice rfl rfl rfl rfl rfl ?_ | refine sp_push0 rfl (by first | exact .inl rfl | exact .inr rfl) rfl rfl rfl rfl rfl (by decide) rfl rfl rfl ?_
            | refine sp_push rfl rfl rfl rfl rfl rfl rfl (by first | exact ints_len _ | exact prs_len _ _ | exact zints_len _) (by omega) (Nat.zero_le _) rfl rfl rfl rfl rfl ?_)
          | (refine g_ops ?_; first | refine eo_none ?_ | refine eo_nil ?_)
          | (refine g_code ?_; first | refine ec_seq ?_ | refine ec_region ?_ | refine ec_block ?_ | refine ec_skip ?_ | refine ec_exit ?_ | refine ec_condT rfl ?_ | refine ec_condF rfl ?_ | refine ec_condTH rfl (by assumption) ?_ | refine ec_condFH rfl (by assumption) ?_)
          | refine ek_seqN ?_ | refine ek_seqX ?_ | refine ek_seqR ?_ | refine ek_blkN ?_ | refine ek_blkR ?_ | refine ek_blkX ?_ | refine ek_blkY rfl ?_)
        exact rnd_on (by rfl) (scmp2 (by rfl) (by rfl) (by exact ⟨rfl, rfl, rfl⟩) (by rfl) (by first | rfl | (simp; done) | (simp [ints, prs]; done)) (by rfl) (by first | rfl | (simp; done) | (simp [ints, prs]; done)))
      | cons x xs =>
        refine ⟨(x :: xs) ++ [(idn) i], by rw [selm_t (p := enP n b v (fun r s => s &&& r == r)) hp, hs]; try rfl, ?_⟩
        unfold m105_0
        repeat' (first
          | refine sc_loop lpe rfl rfl ⟨rfl, rfl, rfl⟩ rfl rfl rfl ?_
          | refine sc_loop (lpc _ _) rfl rfl ⟨rfl, rfl, rfl⟩ rfl rfl rfl ?_
          | (refine g_op ?_; first
            | refine ep_mov rfl ?_ | refine sp_loadN rfl rfl rfl rfl rfl ?_
            | refine ep_call0 rfl (by first | exact e3) rfl rfl ?_
            | refine sp_call rfl rfl rfl rfl (by first | exact e3) ⟨rfl, rfl, rfl, rfl⟩ rfl rfl rfl ?_
            | refine ep_bin rfl rfl (by first | exact b_add (by omega) (by omega) | exact b_lss | exact b_eql) ?_ | refine sp_bslice rfl rfl rfl rfl rfl ?_ | refine sp_push0 rfl (by first | exact .inl rfl | exact .inr rfl) rfl rfl rfl rfl rfl (by decide) rfl rfl rfl ?_
            | refine sp_push rfl rfl rfl rfl rfl rfl rfl (by first | exact ints_len _ | exact prs_len _ _ | exact zints_len _) (by omega) (Nat.zero_le _) rfl rfl rfl rfl rfl ?_)
          | (refine g_ops ?_; first | refine eo_none ?_ | refine eo_nil ?_)
          | (refine g_code ?_; first | refine ec_seq ?_ | refine ec_region ?_ | refine ec_block ?_ | refine ec_skip ?_ | refine ec_exit ?_ | refine ec_condT rfl ?_ | refine ec_condF rfl ?_ | refine ec_condTH rfl (by assumption) ?_ | refine ec_condFH rfl (by assumption) ?_)
          | refine ek_seqN ?_ | refine ek_seqX ?_ | refine ek_seqR ?_ | refine ek_blkN ?_ | refine ek_blkR ?_ | refine ek_blkX ?_ | refine ek_blkY rfl ?_)
        exact rnd_on (by rfl) (scmp2 (by rfl) (by rfl) (by exact ⟨rfl, rfl, rfl⟩) (by rfl) (by first | rfl | (simp; done) | (simp [ints, prs]; done)) (by rfl) (by first | rfl | (simp; done) | (simp [ints, prs]; done)))
    | false =>
      have hp' : ((enP n b v (fun r s => s &&& r == r)) i) = false := hp
      have lpe := lpen_f_e n b v i hn hb hi _ (ite_pre2 (E := (((bt b i : Nat) : Int) == (v : Nat))) (Q := enQ b v i (fun r s => s &&& r == r)) (n := R2 n) (fun b_ => (⟨.exit 2, [(1, .int .i64 (v : Nat)), (2, .bool false), (3, .ptr 0 0), (7, .emp), (8, .int .i64 (R2 n : Nat)), (9, .int .i64 (i : Nat)), (10, .bool b_)], [⟨[.int .i64 n, .int .i64 b], 1, 0, some 0, true⟩]⟩ : Out)))
      have lpc := fun (x : Nat) (xs : List Nat) => lpen_f_c n b v i hn hb hi x xs _ (ite_pre2 (E := (((bt b i : Nat) : Int) == (v : Nat))) (Q := enQ b v i (fun r s => s &&& r == r)) (n := R2 n) (fun b_ => (⟨.exit 2, [(1, .int .i64 (v : Nat)), (2, .bool false), (3, .ptr 0 0), (7, .sl 1 0 (x :: xs).length), (8, .int .i64 (R2 n : Nat)), (9, .int .i64 (i : Nat)), (10, .bool b_)], [⟨[.int .i64 n, .int .i64 b], 1, 0, some 0, true⟩, ⟨ints (x :: xs), 1, 1, some 0, false⟩]⟩ : Out)))
      have hq : ((((bt b i : Nat) : Int) == (v : Nat)) && allF (enQ b v i (fun r s => s &&& r == r)) 0 (R2 n)) = false := hp'
      simp only [hq] at lpe lpc
      simp only [allFz, Bool.and_true] at lpe lpc
      have e3 := ev157 n b i (by omega) (by omega)
      cases s with
      | nil =>
        refine ⟨[], by rw [selm_f (p := enP n b v (fun r s => s &&& r == r)) hp, hs]; try rfl, ?_⟩
        unfold m105_0
        repeat' (first
          | refine sc_loop lpe rfl rfl ⟨rfl, rfl, rfl⟩ rfl rfl rfl ?_
          | refine sc_loop (lpc _ _) rfl rfl ⟨rfl, rfl, rfl⟩ rfl rfl rfl ?_
          | (refine g_op ?_; first
            | refine ep_mov rfl ?_ | refine sp_loadN rfl rfl rfl rfl rfl ?_
            | refine ep_call0 rfl (by first | exact e3) rfl rfl ?_
            | refine sp_call rfl rfl rfl rfl (by first | exact e3) ⟨rfl, rfl, rfl, rfl⟩ rfl rfl rfl ?_
            | refine ep_bin rfl rfl (by first | exact b_add (by omega) (by omega) | exact b_lss | exact b_eql) ?_ | refine sp_bslice rfl rfl rfl rfl rfl ?_ | refine sp_push0 rfl (by first | exact .inl rfl | exact .inr rfl) rfl rfl rfl rfl rfl (by decide) rfl rfl rfl ?_
            | refine sp_push rfl rfl rfl rfl rfl rfl rfl (by first | exact ints_len _ | exact prs_len _ _ | exact zints_len _) (by omega) (Nat.zero_le _) rfl rfl rfl rfl rfl ?_)
          | (refine g_ops ?_; first | refine eo_none ?_ | refine eo_nil ?_)
          | (refine g_code ?_; first | refine ec_seq ?_ | refine ec_region ?_ | refine ec_block ?_ | refine ec_skip ?_ | refine ec_exit ?_ | refine ec_condT rfl ?_ | refine ec_condF rfl ?_ | refine ec_condTH rfl (by assumption) ?_ | refine ec_condFH rfl (by assumption) ?_)
          | refine ek_seqN ?_ | refine ek_seqX ?_ | refine ek_seqR ?_ | refine ek_blkN ?_ | refine ek_blkR ?_ | refine ek_blkX ?_ | refine ek_blkY rfl ?_)
        exact rnd_on (by rfl) (scmp2 (by rfl) (by rfl) (by exact ⟨rfl, rfl, rfl⟩) (by rfl) (by first | rfl | (simp; done) | (simp [ints, prs]; done)) (by rfl) (by first | rfl | (simp; done) | (simp [ints, prs]; done)))
      | cons x xs =>
        refine ⟨x :: xs, by rw [selm_f (p := enP n b v (fun r s => s &&& r == r)) hp, hs]; try rfl, ?_⟩
        unfold m105_0
        repeat' (first
          | refine sc_loop lpe rfl rfl ⟨rfl, rfl, rfl⟩ rfl rfl rfl ?_
          | refine sc_loop (lpc _ _) rfl rfl ⟨rfl, rfl, rfl⟩ rfl rfl rfl ?_
          | (refine g_op ?_; first
            | refine ep_mov rfl ?_ | refine sp_loadN rfl rfl rfl rfl rfl ?_
            | refine ep_call0 rfl (by first | exact e3) rfl rfl ?_
            | refine sp_call rfl rfl rfl rfl (by first | exact e3) ⟨rfl, rfl, rfl, rfl⟩ rfl rfl rfl ?_
            | refine ep_bin rfl rfl (by first | exact b_add (by omega) (by omega) | exact b_lss | exact b_eql) ?_ | refine sp_bslice rfl rfl rfl rfl rfl ?_ | refine sp_push0 rfl (by first | exact .inl rfl | exact .inr rfl) rfl rfl rfl rfl rfl (by decide) rfl rfl rfl ?_
            | refine sp_push rfl rfl rfl rfl rfl rfl rfl (by first | exact ints_len _ | exact prs_len _ _ | exact zints_len _) (by omega) (Nat.zero_le _) rfl rfl rfl rfl rfl ?_)
          | (refine g_ops ?_; first | refine eo_none ?_ | refine eo_nil ?_)
          | (refine g_code ?_; first | refine ec_seq ?_ | refine ec_region ?_ | refine ec_block ?_ | refine ec_skip ?_ | refine ec_exit ?_ | refine ec_condT rfl ?_ | refine ec_condF rfl ?_ | refine ec_condTH rfl (by assumption) ?_ | refine ec_condFH rfl (by assumption) ?_)
          | refine ek_seqN ?_ | refine ek_seqX ?_ | refine ek_seqR ?_ | refine ek_blkN ?_ | refine ek_blkR ?_ | refine ek_blkX ?_ | refine ek_blkY rfl ?_)
        exact rnd_on (by rfl) (scmp2 (by rfl) (by rfl) (by exact ⟨rfl, rfl, rfl⟩) (by rfl) (by first | rfl | (simp; done) | (simp [ints, prs]; done)) (by rfl) (by first | rfl | (simp; done) | (simp [ints, prs]; done)))
  · intro s hs
    have hlt : decide (((R2 n : Nat) : Int) < (R2 n : Nat)) = false := decide_eq_false (by omega)
    have hle : decide (((R2 n : Nat) : Int) ≤ (R2 n : Nat) - 1) = false := decide_eq_false (by omega)
    cases s with
    | nil =>
      unfold m105_0
      repeat' (first
        | (refine g_op ?_; first
          | refine ep_mov rfl ?_ | refine sp_loadN rfl rfl rfl rfl rfl ?_
          | refine ep_bin rfl rfl (by first | exact b_add (by omega) (by omega) | exact b_lss | exact b_eql) ?_ | refine sp_bslice rfl rfl rfl rfl rfl ?_ | refine sp_push0 rfl (by first | exact .inl rfl | exact .inr rfl) rfl rfl rfl rfl rfl (by decide) rfl rfl rfl ?_
          | refine sp_push rfl rfl rfl rfl rfl rfl rfl (by first | exact ints_len _ | exact prs_len _ _ | exact zints_len _) (by omega) (Nat.zero_le _) rfl rfl rfl rfl rfl ?_)
        | (refine g_ops ?_; first | refine eo_none ?_ | refine eo_nil ?_)
        | (refine g_code ?_; first | refine ec_seq ?_ | refine ec_region ?_ | refine ec_block ?_ | refine ec_skip ?_ | refine ec_exit ?_ | refine ec_condT rfl ?_ | refine ec_condF rfl ?_ | refine ec_condTH rfl (by assumption) ?_ | refine ec_condFH rfl (by assumption) ?_)
        | refine ek_seqN ?_ | refine ek_seqX ?_ | refine ek_seqR ?_ | refine ek_blkN ?_ | refine ek_blkR ?_ | refine ek_blkX ?_ | refine ek_blkY rfl ?_)
      exact rnd_out (by rfl) (by simp) (scmp2 (by rfl) (by rfl) (by exact ⟨rfl, rfl, rfl⟩) (by rfl) (by first | rfl | (simp; done) | (simp [ints, prs]; done)) (by rfl) (by first | rfl | (simp; done) | (simp [ints, prs]; done)))
    | cons x xs =>
      unfold m105_0
      repeat' (first
        | (refine g_op ?_; first
          | refine ep_mov rfl ?_ | refine sp_loadN rfl rfl rfl rfl rfl ?_
          | refine ep_bin rfl rfl (by first | exact b_add (by omega) (by omega) | exact b_lss | exact b_eql) ?_ | refine sp_bslice rfl rfl rfl rfl rfl ?_ | refine sp_push0 rfl (by first | exact .inl rfl | exact .inr rfl) rfl rfl rfl rfl rfl (by decide) rfl rfl rfl ?_
          | refine sp_push rfl rfl rfl rfl rfl rfl rfl (by first | exact ints_len _ | exact prs_len _ _ | exact zints_len _) (by omega) (Nat.zero_le _) rfl rfl rfl rfl rfl ?_)
        | (refine g_ops ?_; first | refine eo_none ?_ | refine eo_nil ?_)
        | (refine g_code ?_; first | refine ec_seq ?_ | refine ec_region ?_ | refine ec_block ?_ | refine ec_skip ?_ | refine ec_exit ?_ | refine ec_condT rfl ?_ | refine ec_condF rfl ?_ | refine ec_condTH rfl (by assumption) ?_ | refine ec_condFH rfl (by assumption) ?_)
        | refine ek_seqN ?_ | refine ek_seqX ?_ | refine ek_seqR ?_ | refine ek_blkN ?_ | refine ek_blkR ?_ | refine ek_blkX ?_ | refine ek_blkY rfl ?_)
      exact rnd_out (by rfl) (by simp) (scmp2 (by rfl) (by rfl) (by exact ⟨rfl, rfl, rfl⟩) (by rfl) (by first | rfl | (simp; done) | (simp [ints, prs]; done)) (by rfl) (by first | rfl | (simp; done) | (simp [ints, prs]; done)))

theorem ev105_f (n b v : Nat) (hn : n ≤ 4) (hb : b < 65536) : Ev cx 105 [.agg [.int .i64 n, .int .i64 b], .int .i64 v, .bool false] [] (slV .emp 0 (selm (enP n b v (fun r s => s &&& r == r)) idn (R2 n))) (slH 0 1 ints (selm (enP n b v (fun r s => s &&& r == r)) idn (R2 n))) := by
  have e1 := ev106 n hn
  cases hs : selm (enP n b v (fun r s => s &&& r == r)) idn (R2 n) with
  | nil =>
    have lp := lp105_0_f n b v hn hb _ (by rw [hs])
    refine has105.eev rfl rfl ?_
    unfold m105
    repeat' (first
      | refine sc_loop lp rfl rfl ⟨rfl, rfl, rfl⟩ rfl rfl rfl ?_
      | (refine g_op ?_; first
        | refine ep_mov rfl ?_ | refine ep_load1 rfl rfl rfl rfl ?_ | refine ep_fieldAddr rfl ?_
        | refine ep_call0 rfl (by first | exact e1) rfl rfl ?_
        | refine sp_call rfl rfl rfl rfl (by first | exact e1) ⟨rfl, rfl, rfl, rfl⟩ rfl rfl rfl ?_
        | refine sp_box rfl rfl rfl rfl rfl ?_ | refine ep_empt ?_)
      | (refine g_ops ?_; first | refine eo_none ?_ | refine eo_nil ?_)
      | (refine g_code ?_; first | refine ec_seq ?_ | refine ec_region ?_ | refine ec_block ?_ | refine ec_ret ?_)
      | refine ek_seqN ?_ | refine ek_seqX ?_ | refine ek_seqR ?_ | refine ek_blkN ?_ | refine ek_blkR ?_ | refine ek_blkX ?_ | refine ek_blkY rfl ?_)
    refine sfin (.inr rfl) (by rfl) (by rfl) (by exact ⟨rfl, rfl, rfl⟩) (by rfl) (by rfl) (by rfl) (by first | rfl | (simp; done) | (simp [ints, prs]; done))
  | cons x xs =>
    have lp := lp105_0_f n b v hn hb _ (by rw [hs])
    refine has105.eev rfl rfl ?_
    unfold m105
    repeat' (first
      | refine sc_loop lp rfl rfl ⟨rfl, rfl, rfl⟩ rfl rfl rfl ?_
      | (refine g_op ?_; first
        | refine ep_mov rfl ?_ | refine ep_load1 rfl rfl rfl rfl ?_ | refine ep_fieldAddr rfl ?_
        | refine ep_call0 rfl (by first | exact e1) rfl rfl ?_
        | refine sp_call rfl rfl rfl rfl (by first | exact e1) ⟨rfl, rfl, rfl, rfl⟩ rfl rfl rfl ?_
        | refine sp_box rfl rfl rfl rfl rfl ?_ | refine ep_empt ?_)
      | (refine g_ops ?_; first | refine eo_none ?_ | refine eo_nil ?_)
      | (refine g_code ?_; first | refine ec_seq ?_ | refine ec_region ?_ | refine ec_block ?_ | refine ec_ret ?_)
      | refine ek_seqN ?_ | refine ek_seqX ?_ | refine ek_seqR ?_ | refine ek_blkN ?_ | refine ek_blkR ?_ | refine ek_blkX ?_ | refine ek_blkY rfl ?_)
    refine sfin (.inr rfl) (by rfl) (by rfl) (by exact ⟨rfl, rfl, rfl⟩) (by rfl) (by rfl) (by rfl) (by first | rfl | (simp; done) | (simp [ints, prs]; done))
theorem lpen_t_e (n b v r : Nat) (hn : n ≤ 4) (hb : b < 65536) (hr : r < R2 n) (o : Out) (ho : (if allF (fun j => (((bt b r : Nat) : Int) == (v : Nat)) && allF (enQ b v r (fun r s => r &&& s == s)) 0 j) 0 (R2 n) = true then (⟨.exit 2, [(1, .int .i64 (v : Nat)), (2, .bool true), (3, .ptr 0 0), (7, .emp), (8, .int .i64 (R2 n : Nat)), (9, .int .i64 (r : Nat)), (10, .bool ((((bt b r : Nat) : Int) == (v : Nat)) && allF (enQ b v r (fun r s => r &&& s == s)) 0 (R2 n)))], [⟨[.int .i64 n, .int .i64 b], 1, 0, some 0, true⟩]⟩ : Out) else ⟨.exit 2, [(1, .int .i64 (v : Nat)), (2, .bool true), (3, .ptr 0 0), (7, .emp), (8, .int .i64 (R2 n : Nat)), (9, .int .i64 (r : Nat)), (10, .bool false)], [⟨[.int .i64 n, .int .i64 b], 1, 0, some 0, true⟩]⟩) = o) :
    LpS cx 62 0 m105_1 [(1, .int .i64 (v : Nat)), (2, .bool true), (3, .ptr 0 0), (7, .emp), (8, .int .i64 (R2 n : Nat)), (9, .int .i64 (r : Nat)), (10, .bool ((((bt b r : Nat) : Int) == (v : Nat)) && allF (enQ b v r (fun r s => r &&& s == s)) 0 (0))), (11, .int .i64 (0 : Nat))] [⟨[.int .i64 n, .int .i64 b], 1, 0, some 0, true⟩] o.x o.e o.h := by
  obtain ⟨h1, h2, h3, h4⟩ := shN hn
  refine lp_all (R2 n) (fun j => (((bt b r : Nat) : Int) == (v : Nat)) && allF (enQ b v r (fun r s => r &&& s == s)) 0 j) (fun i => [(1, .int .i64 (v : Nat)), (2, .bool true), (3, .ptr 0 0), (7, .emp), (8, .int .i64 (R2 n : Nat)), (9, .int .i64 (r : Nat)), (10, .bool ((((bt b r : Nat) : Int) == (v : Nat)) && allF (enQ b v r (fun r s => r &&& s == s)) 0 (i))), (11, .int .i64 (i : Nat))]) (fun i => [⟨[.int .i64 n, .int .i64 b], 1, 0, some 0, true⟩]) _ _ ?_ ?_ ?_ (R2 n) 0 o (by omega) ho
  · intro i hi hp
    have hlt : decide ((i : Int) < (R2 n : Nat)) = true := decide_eq_true (by omega)
    have hp' : ((((bt b r : Nat) : Int) == (v : Nat)) && allF (enQ b v r (fun r s => r &&& s == s)) 0 i) = true := hp
    have e1 := ev189 i r (by omega) (by omega)
    have e2 := ev189 r i (by omega) (by omega)
    have e3 := ev157 n b i (by omega) (by omega)
    have hA := ((Bool.and_eq_true _ _).mp hp').2
    have hE := ((Bool.and_eq_true _ _).mp hp').1
    have hz : ((((bt b r : Nat) : Int) == (v : Nat)) && allF (enQ b v r (fun r s => r &&& s == s)) 0 (i + 1)) = enQ b v r (fun r s => r &&& s == s) i := by rw [allF_s, hA, hE, Bool.true_and, Bool.true_and]
    rw [hz, hp']
    have w1 := ieq i r
    have w2 := ine (bt b i) v
    have hQ : enQ b v r (fun r s => r &&& s == s) i = (i == r || (bt b i != v || !(r &&& i == i))) := rfl
    rw [hQ]
    cases c1 : (i == r)
    · rw [c1] at w1
      cases c2 : (bt b i != v)
      · rw [c2] at w2
        unfold m105_1
        repeat' (first
          | (refine g_op ?_; first
            | refine ep_mov rfl ?_ | refine sp_loadN rfl rfl rfl rfl rfl ?_
            | refine ep_call0 rfl (by first | exact e1 | exact e2 | exact e3) rfl rfl ?_
            | refine sp_call rfl rfl rfl rfl (by first | exact e1 | exact e2 | exact e3) ⟨rfl, rfl, rfl, rfl⟩ rfl rfl rfl ?_
            | refine ep_bin rfl rfl (by first | exact b_add (by omega) (by omega) | exact b_lss | exact b_eql | exact b_neq) ?_ | refine ep_pickT rfl rfl ?_ | refine ep_pickF rfl rfl ?_ | refine ep_pickTH rfl (by assumption) rfl ?_
            | refine ep_pickFH rfl (by assumption) rfl ?_ | refine ep_not rfl ?_)
          | (refine g_ops ?_; first | refine eo_none ?_ | refine eo_nil ?_ | refine eo_yes rfl ?_ | refine eo_no rfl ?_ | refine eo_und rfl ?_ | refine eo_yesH rfl (by assumption) ?_ | refine eo_noH rfl (by assumption) ?_)
          | (refine g_code ?_; first | refine ec_seq ?_ | refine ec_region ?_ | refine ec_block ?_ | refine ec_skip ?_ | refine ec_exit ?_ | refine ec_condT rfl ?_ | refine ec_condF rfl ?_ | refine ec_condTH rfl (by assumption) ?_ | refine ec_condFH rfl (by assumption) ?_)
          | refine ek_seqN ?_ | refine ek_seqX ?_ | refine ek_blkN ?_ | refine ek_blkR ?_ | refine ek_blkX ?_ | refine ek_blkY rfl ?_)
        exact rnd_on (by rfl) (scmp2 (by rfl) (by rfl) (by exact ⟨rfl, rfl, rfl⟩) (by rfl) (by first | rfl | (simp; done) | (simp [ints, prs]; done)) (by rfl) (by first | rfl | (simp; done) | (simp [ints, prs]; done)))
      · rw [c2] at w2
        unfold m105_1
        repeat' (first
          | (refine g_op ?_; first
            | refine ep_mov rfl ?_ | refine sp_loadN rfl rfl rfl rfl rfl ?_
            | refine ep_call0 rfl (by first | exact e1 | exact e2 | exact e3) rfl rfl ?_
            | refine sp_call rfl rfl rfl rfl (by first | exact e1 | exact e2 | exact e3) ⟨rfl, rfl, rfl, rfl⟩ rfl rfl rfl ?_
            | refine ep_bin rfl rfl (by first | exact b_add (by omega) (by omega) | exact b_lss | exact b_eql | exact b_neq) ?_ | refine ep_pickT rfl rfl ?_ | refine ep_pickF rfl rfl ?_ | refine ep_pickTH rfl (by assumption) rfl ?_
            | refine ep_pickFH rfl (by assumption) rfl ?_ | refine ep_not rfl ?_)
          | (refine g_ops ?_; first | refine eo_none ?_ | refine eo_nil ?_ | refine eo_yes rfl ?_ | refine eo_no rfl ?_ | refine eo_und rfl ?_ | refine eo_yesH rfl (by assumption) ?_ | refine eo_noH rfl (by assumption) ?_)
          | (refine g_code ?_; first | refine ec_seq ?_ | refine ec_region ?_ | refine ec_block ?_ | refine ec_skip ?_ | refine ec_exit ?_ | refine ec_condT rfl ?_ | refine ec_condF rfl ?_ | refine ec_condTH rfl (by assumption) ?_ | refine ec_condFH rfl (by assumption) ?_)
          | refine ek_seqN ?_ | refine ek_seqX ?_ | refine ek_blkN ?_ | refine ek_blkR ?_ | refine ek_blkX ?_ | refine ek_blkY rfl ?_)
        exact rnd_on (by rfl) (scmp2 (by rfl) (by rfl) (by exact ⟨rfl, rfl, rfl⟩) (by rfl) (by first | rfl | (simp; done) | (simp [ints, prs]; done)) (by rfl) (by first | rfl | (simp; done) | (simp [ints, prs]; done)))
    rw [c1] at w1
    unfold m105_1
    repeat' (first
      | (refine g_op ?_; first
        | refine ep_mov rfl ?_ | refine sp_loadN rfl rfl rfl rfl rfl ?_
        | refine ep_call0 rfl (by first | exact e1 | exact e2 | exact e3) rfl rfl ?_
        | refine sp_call rfl rfl rfl rfl (by first | exact e1 | exact e2 | exact e3) ⟨rfl, rfl, rfl, rfl⟩ rfl rfl rfl ?_
        | refine ep_bin rfl rfl (by first | exact b_add (by omega) (by omega) | exact b_lss | exact b_eql | exact b_neq) ?_ | refine ep_pickT rfl rfl ?_ | refine ep_pickF rfl rfl ?_ | refine ep_pickTH rfl (by assumption) rfl ?_
        | refine ep_pickFH rfl (by assumption) rfl ?_ | refine ep_not rfl ?_)
      | (refine g_ops ?_; first | refine eo_none ?_ | refine eo_nil ?_ | refine eo_yes rfl ?_ | refine eo_no rfl ?_ | refine eo_und rfl ?_ | refine eo_yesH rfl (by assumption) ?_ | refine eo_noH rfl (by assumption) ?_)
      | (refine g_code ?_; first | refine ec_seq ?_ | refine ec_region ?_ | refine ec_block ?_ | refine ec_skip ?_ | refine ec_exit ?_ | refine ec_condT rfl ?_ | refine ec_condF rfl ?_ | refine ec_condTH rfl (by assumption) ?_ | refine ec_condFH rfl (by assumption) ?_)
      | refine ek_seqN ?_ | refine ek_seqX ?_ | refine ek_blkN ?_ | refine ek_blkR ?_ | refine ek_blkX ?_ | refine ek_blkY rfl ?_)
    exact rnd_on (by rfl) (scmp2 (by rfl) (by rfl) (by exact ⟨rfl, rfl, rfl⟩) (by rfl) (by first | rfl | (simp; done) | (simp [ints, prs]; done)) (by rfl) (by first | rfl | (simp; done) | (simp [ints, prs]; done)))
  · intro i hi hp
    have hlt : decide ((i : Int) < (R2 n : Nat)) = true := decide_eq_true (by omega)
    have hp' : ((((bt b r : Nat) : Int) == (v : Nat)) && allF (enQ b v r (fun r s => r &&& s == s)) 0 i) = false := hp
    have e1 := ev189 i r (by omega) (by omega)
    have e2 := ev189 r i (by omega) (by omega)
    have e3 := ev157 n b i (by omega) (by omega)
    rw [hp']
    unfold m105_1
    repeat' (first
      | (refine g_op ?_; first
        | refine ep_mov rfl ?_ | refine sp_loadN rfl rfl rfl rfl rfl ?_
        | refine ep_call0 rfl (by first | exact e1 | exact e2 | exact e3) rfl rfl ?_
        | refine sp_call rfl rfl rfl rfl (by first | exact e1 | exact e2 | exact e3) ⟨rfl, rfl, rfl, rfl⟩ rfl rfl rfl ?_
        | refine ep_bin rfl rfl (by first | exact b_add (by omega) (by omega) | exact b_lss | exact b_eql | exact b_neq) ?_ | refine ep_pickT rfl rfl ?_ | refine ep_pickF rfl rfl ?_ | refine ep_pickTH rfl (by assumption) rfl ?_
        | refine ep_pickFH rfl (by assumption) rfl ?_ | refine ep_not rfl ?_)
      | (refine g_ops ?_; first | refine eo_none ?_ | refine eo_nil ?_ | refine eo_yes rfl ?_ | refine eo_no rfl ?_ | refine eo_und rfl ?_ | refine eo_yesH rfl (by assumption) ?_ | refine eo_noH rfl (by assumption) ?_)
      | (refine g_code ?_; first | refine ec_seq ?_ | refine ec_region ?_ | refine ec_block ?_ | refine ec_skip ?_ | refine ec_exit ?_ | refine ec_condT rfl ?_ | refine ec_condF rfl ?_ | refine ec_condTH rfl (by assumption) ?_ | refine ec_condFH rfl (by assumption) ?_)
      | refine ek_seqN ?_ | refine ek_seqX ?_ | refine ek_blkN ?_ | refine ek_blkR ?_ | refine ek_blkX ?_ | refine ek_blkY rfl ?_)
    exact rnd_out (by rfl) (by simp) (scmp2 (by rfl) (by rfl) (by exact ⟨rfl, rfl, rfl⟩) (by rfl) (by first | rfl | (simp; done) | (simp [ints, prs]; done)) (by rfl) (by first | rfl | (simp; done) | (simp [ints, prs]; done)))
  · have hlt : decide (((R2 n : Nat) : Int) < (R2 n : Nat)) = false := decide_eq_false (by omega)
    unfold m105_1
    repeat' (first
      | (refine g_op ?_; first
        | refine ep_mov rfl ?_ | refine sp_loadN rfl rfl rfl rfl rfl ?_
        | refine ep_bin rfl rfl (by first | exact b_add (by omega) (by omega) | exact b_lss | exact b_eql | exact b_neq) ?_ | refine ep_pickT rfl rfl ?_ | refine ep_pickF rfl rfl ?_ | refine ep_pickTH rfl (by assumption) rfl ?_
        | refine ep_pickFH rfl (by assumption) rfl ?_ | refine ep_not rfl ?_)
      | (refine g_ops ?_; first | refine eo_none ?_ | refine eo_nil ?_ | refine eo_yes rfl ?_ | refine eo_no rfl ?_ | refine eo_und rfl ?_ | refine eo_yesH rfl (by assumption) ?_ | refine eo_noH rfl (by assumption) ?_)
      | (refine g_code ?_; first | refine ec_seq ?_ | refine ec_region ?_ | refine ec_block ?_ | refine ec_skip ?_ | refine ec_exit ?_ | refine ec_condT rfl ?_ | refine ec_condF rfl ?_ | refine ec_condTH rfl (by assumption) ?_ | refine ec_condFH rfl (by assumption) ?_)
      | refine ek_seqN ?_ | refine ek_seqX ?_ | refine ek_blkN ?_ | refine ek_blkR ?_ | refine ek_blkX ?_ | refine ek_blkY rfl ?_)
    exact rnd_out (by rfl) (by simp) (scmp2 (by rfl) (by rfl) (by exact ⟨rfl, rfl, rfl⟩) (by rfl) (by first | rfl | (simp; done) | (simp [ints, prs]; done)) (by rfl) (by first | rfl | (simp; done) | (simp [ints, prs]; done)))

theorem lpen_t_c (n b v r : Nat) (hn : n ≤ 4) (hb : b < 65536) (hr : r < R2 n) (x : Nat) (xs : List Nat) (o : Out) (ho : (if allF (fun j => (((bt b r : Nat) : Int) == (v : Nat)) && allF (enQ b v r (fun r s => r &&& s == s)) 0 j) 0 (R2 n) = true then (⟨.exit 2, [(1, .int .i64 (v : Nat)), (2, .bool true), (3, .ptr 0 0), (7, .sl 1 0 (x :: xs).length), (8, .int .i64 (R2 n : Nat)), (9, .int .i64 (r : Nat)), (10, .bool ((((bt b r : Nat) : Int) == (v : Nat)) && allF (enQ b v r (fun r s => r &&& s == s)) 0 (R2 n)))], [⟨[.int .i64 n, .int .i64 b], 1, 0, some 0, true⟩, ⟨ints (x :: xs), 1, 1, some 0, false⟩]⟩ : Out) else ⟨.exit 2, [(1, .int .i64 (v : Nat)), (2, .bool true), (3, .ptr 0 0), (7, .sl 1 0 (x :: xs).length), (8, .int .i64 (R2 n : Nat)), (9, .int .i64 (r : Nat)), (10, .bool false)], [⟨[.int .i64 n, .int .i64 b], 1, 0, some 0, true⟩, ⟨ints (x :: xs), 1, 1, some 0, false⟩]⟩) = o) :
    LpS cx 62 0 m105_1 [(1, .int .i64 (v : Nat)), (2, .bool true), (3, .ptr 0 0), (7, .sl 1 0 (x :: xs).length), (8, .int .i64 (R2 n : Nat)), (9, .int .i64 (r : Nat)), (10, .bool ((((bt b r : Nat) : Int) == (v : Nat)) && allF (enQ b v r (fun r s => r &&& s == s)) 0 (0))), (11, .int .i64 (0 : Nat))] [⟨[.int .i64 n, .int .i64 b], 1, 0, some 0, true⟩, ⟨ints (x :: xs), 1, 1, some 0, false⟩] o.x o.e o.h := by
  obtain ⟨h1, h2, h3, h4⟩ := shN hn
  refine lp_all (R2 n) (fun j => (((bt b r : Nat) : Int) == (v : Nat)) && allF (enQ b v r (fun r s => r &&& s == s)) 0 j) (fun i => [(1, .int .i64 (v : Nat)), (2, .bool true), (3, .ptr 0 0), (7, .sl 1 0 (x :: xs).length), (8, .int .i64 (R2 n : Nat)), (9, .int .i64 (r : Nat)), (10, .bool ((((bt b r : Nat) : Int) == (v : Nat)) && allF (enQ b v r (fun r s => r &&& s == s)) 0 (i))), (11, .int .i64 (i : Nat))]) (fun i => [⟨[.int .i64 n, .int .i64 b], 1, 0, some 0, true⟩, ⟨ints (x :: xs), 1, 1, some 0, false⟩]) _ _ ?_ ?_ ?_ (R2 n) 0 o (by omega) ho
  · intro i hi hp
    have hlt : decide ((i : Int) < (R2 n : Nat)) = true := decide_eq_true (by omega)
    have hp' : ((((bt b r : Nat) : Int) == (v : Nat)) && allF (enQ b v r (fun r s => r &&& s == s)) 0 i) = true := hp
    have e1 := ev189 i r (by omega) (by omega)
    have e2 := ev189 r i (by omega) (by omega)
    have e3 := ev157 n b i (by omega) (by omega)
    have hA := ((Bool.and_eq_true _ _).mp hp').2
    have hE := ((Bool.and_eq_true _ _).mp hp').1
    have hz : ((((bt b r : Nat) : Int) == (v : Nat)) && allF (enQ b v r (fun r s => r &&& s == s)) 0 (i + 1)) = enQ b v r (fun r s => r &&& s == s) i := by rw [allF_s, hA, hE, Bool.true_and, Bool.true_and]
    rw [hz, hp']
    have w1 := ieq i r
    have w2 := ine (bt b i) v
    have hQ : enQ b v r (fun r s => r &&& s == s) i = (i == r || (bt b i != v || !(r &&& i == i))) := rfl
    rw [hQ]
    cases c1 : (i == r)
    · rw [c1] at w1
      cases c2 : (bt b i != v)
      · rw [c2] at w2
        unfold m105_1
        repeat' (first
          | (refine g_op ?_; first
            | refine ep_mov rfl ?_ | refine sp_loadN rfl rfl rfl rfl rfl ?_
            | refine ep_call0 rfl (by first | exact e1 | exact e2 | exact e3) rfl rfl ?_
            | refine sp_call rfl rfl rfl rfl (by first | exact e1 | exact e2 | exact e3) ⟨rfl, rfl, rfl, rfl⟩ rfl rfl rfl ?_
            | refine ep_bin rfl rfl (by first | exact b_add (by omega) (by omega) | exact b_lss | exact b_eql | exact b_neq) ?_ | refine ep_pickT rfl rfl ?_ | refine ep_pickF rfl rfl ?_ | refine ep_pickTH rfl (by assumption) rfl ?_
            | refine ep_pickFH rfl (by assumption) rfl ?_ | refine ep_not rfl ?_)
          | (refine g_ops ?_; first | refine eo_none ?_ | refine eo_nil ?_ | refine eo_yes rfl ?_ | refine eo_no rfl ?_ | refine eo_und rfl ?_ | refine eo_yesH rfl (by assumption) ?_ | refine eo_noH rfl (by assumption) ?_)
          | (refine g_code ?_; first | refine ec_seq ?_ | refine ec_region ?_ | refine ec_block ?_ | refine ec_skip ?_ | refine ec_exit ?_ | refine ec_condT rfl ?_ | refine ec_condF rfl ?_ | refine ec_condTH rfl (by assumption) ?_ | refine ec_condFH rfl (by assumption) ?_)
          | refine ek_seqN ?_ | refine ek_seqX ?_ | refine ek_blkN ?_ | refine ek_blkR ?_ | refine ek_blkX ?_ | refine ek_blkY rfl ?_)
        exact rnd_on (by rfl) (scmp2 (by rfl) (by rfl) (by exact ⟨rfl, rfl, rfl⟩) (by rfl) (by first | rfl | (simp; done) | (simp [ints, prs]; done)) (by rfl) (by first | rfl | (simp; done) | (simp [ints, prs]; done)))
      · rw [c2] at w2
        unfold m105_1
        repeat' (first
          | (refine g_op ?_; first
            | refine ep_mov rfl ?_ | refine sp_loadN rfl rfl rfl rfl rfl ?_
            | refine ep_call0 rfl (by first | exact e1 | exact e2 | exact e3) rfl rfl ?_
            | refine sp_call rfl rfl rfl rfl (by first | exact e1 | exact e2 | exact e3) ⟨rfl, rfl, rfl, rfl⟩ rfl rfl rfl ?_
            | refine ep_bin rfl rfl (by first | exact b_add (by omega) (by omega) | exact b_lss | exact b_eql | exact b_neq) ?_ | refine ep_pickT rfl rfl ?_ | refine ep_pickF rfl rfl ?_ | refine ep_pickTH rfl (by assumption) rfl ?_
            | refine ep_pickFH rfl (by assumption) rfl ?_ | refine ep_not rfl ?_)
          | (refine g_ops ?_; first | refine eo_none ?_ | refine eo_nil ?_ | refine eo_yes rfl ?_ | refine eo_no rfl ?_ | refine eo_und rfl ?_ | refine eo_yesH rfl (by assumption) ?_ | refine eo_noH rfl (by assumption) ?_)
          | (refine g_code ?_; first | refine ec_seq ?_ | refine ec_region ?_ | refine ec_block ?_ | refine ec_skip ?_ | refine ec_exit ?_ | refine ec_condT rfl ?_ | refine ec_condF rfl ?_ | refine ec_condTH rfl (by assumption) ?_ | refine ec_condFH rfl (by assumption) ?_)
          | refine ek_seqN ?_ | refine ek_seqX ?_ | refine ek_blkN ?_ | refine ek_blkR ?_ | refine ek_blkX ?_ | refine ek_blkY rfl ?_)
        exact rnd_on (by rfl) (scmp2 (by rfl) (by rfl) (by exact ⟨rfl, rfl, rfl⟩) (by rfl) (by first | rfl | (simp; done) | (simp [ints, prs]; done)) (by rfl) (by first | rfl | (simp; done) | (simp [ints, prs]; done)))
    rw [c1] at w1
    unfold m105_1
    repeat' (first
      | (refine g_op ?_; first
        | refine ep_mov rfl ?_ | refine sp_loadN rfl rfl rfl rfl rfl ?_
        | refine ep_call0 rfl (by first | exact e1 | exact e2 | exact e3) rfl rfl ?_
        | refine sp_call rfl rfl rfl rfl (by first | exact e1 | exact e2 | exact e3) ⟨rfl, rfl, rfl, rfl⟩ rfl rfl rfl ?_
        | refine ep_bin rfl rfl (by first | exact b_add (by omega) (by omega) | exact b_lss | exact b_eql | exact b_neq) ?_ | refine ep_pickT rfl rfl ?_ | refine ep_pickF rfl rfl ?_ | refine ep_pickTH rfl (by assumption) rfl ?_
        | refine ep_pickFH rfl (by assumption) rfl ?_ | refine ep_not rfl ?_)
      | (refine g_ops ?_; first | refine eo_none ?_ | refine eo_nil ?_ | refine eo_yes rfl ?_ | refine eo_no rfl ?_ | refine eo_und rfl ?_ | refine eo_yesH rfl (by assumption) ?_ | refine eo_noH rfl (by assumption) ?_)
      | (refine g_code ?_; first | refine ec_seq ?_ | refine ec_region ?_ | refine ec_block ?_ | refine ec_skip ?_ | refine ec_exit ?_ | refine ec_condT rfl ?_ | refine ec_condF rfl ?_ | refine ec_condTH rfl (by assumption) ?_ | refine ec_condFH rfl (by assumption) ?_)
      | refine ek_seqN ?_ | refine ek_seqX ?_ | refine ek_blkN ?_ | refine ek_blkR ?_ | refine ek_blkX ?_ | refine ek_blkY rfl ?_)
    exact rnd_on (by rfl) (scmp2 (by rfl) (by rfl) (by exact ⟨rfl, rfl, rfl⟩) (by rfl) (by first | rfl | (simp; done) | (simp [ints, prs]; done)) (by rfl) (by first | rfl | (simp; done) | (simp [ints, prs]; done)))
  · intro i hi hp
    have hlt : decide ((i : Int) < (R2 n : Nat)) = true := decide_eq_true (by omega)
    have hp' : ((((bt b r : Nat) : Int) == (v : Nat)) && allF (enQ b v r (fun r s => r &&& s == s)) 0 i) = false := hp
    have e1 := ev189 i r (by omega) (by omega)
    have e2 := ev189 r i (by omega) (by omega)
    have e3 := ev157 n b i (by omega) (by omega)
    rw [hp']
    unfold m105_1
    repeat' (first
      | (refine g_op ?_; first
        | refine ep_mov rfl ?_ | refine sp_loadN rfl rfl rfl rfl rfl ?_
        | refine ep_call0 rfl (by first | exact e1 | exact e2 | exact e3) rfl rfl ?_
        | refine sp_call rfl rfl rfl rfl (by first | exact e1 | exact e2 | exact e3) ⟨rfl, rfl, rfl, rfl⟩ rfl rfl rfl ?_
        | refine ep_bin rfl rfl (by first | exact b_add (by omega) (by omega) | exact b_lss | exact b_eql | exact b_neq) ?_ | refine ep_pickT rfl rfl ?_ | refine ep_pickF rfl rfl ?_ | refine ep_pickTH rfl (by assumption) rfl ?_
        | refine ep_pickFH rfl (by assumption) rfl ?_ | refine ep_not rfl ?_)
      | (refine g_ops ?_; first | refine eo_none ?_ | refine eo_nil ?_ | refine eo_yes rfl ?_ | refine eo_no rfl ?_ | refine eo_und rfl ?_ | refine eo_yesH rfl (by assumption) ?_ | refine eo_noH rfl (by assumption) ?_)
      | (refine g_code ?_; first | refine ec_seq ?_ | refine ec_region ?_ | refine ec_block ?_ | refine ec_skip ?_ | refine ec_exit ?_ | refine ec_condT rfl ?_ | refine ec_condF rfl ?_ | refine ec_condTH rfl (by assumption) ?_ | refine ec_condFH rfl (by assumption) ?_)
      | refine ek_seqN ?_ | refine ek_seqX ?_ | refine ek_blkN ?_ | refine ek_blkR ?_ | refine ek_blkX ?_ | refine ek_blkY rfl ?_)
    exact rnd_out (by rfl) (by simp) (scmp2 (by rfl) (by rfl) (by exact ⟨rfl, rfl, rfl⟩) (by rfl) (by first | rfl | (simp; done) | (simp [ints, prs]; done)) (by rfl) (by first | rfl | (simp; done) | (simp [ints, prs]; done)))
  · have hlt : decide (((R2 n : Nat) : Int) < (R2 n : Nat)) = false := decide_eq_false (by omega)
    unfold m105_1
    repeat' (first
      | (refine g_op ?_; first
        | refine ep_mov rfl ?_ | refine sp_loadN rfl rfl rfl rfl rfl ?_
        | refine ep_bin rfl rfl (by first | exact b_add (by omega) (by omega) | exact b_lss | exact b_eql | exact b_neq) ?_ | refine ep_pickT rfl rfl ?_ | refine ep_pickF rfl rfl ?_ | refine ep_pickTH rfl (by assumption) rfl ?_
        | refine ep_pickFH rfl (by assumption) rfl ?_ | refine ep_not rfl ?_)
      | (refine g_ops ?_; first | refine eo_none ?_ | refine eo_nil ?_ | refine eo_yes rfl ?_ | refine eo_no rfl ?_ | refine eo_und rfl ?_ | refine eo_yesH rfl (by assumption) ?_ | refine eo_noH rfl (by assumption) ?_)
      | (refine g_code ?_; first | refine ec_seq ?_ | refine ec_region ?_ | refine ec_block ?_ | refine ec_skip ?_ | refine ec_exit ?_ | refine ec_condT rfl ?_ | refine ec_condF rfl ?_ | refine ec_condTH rfl (by assumption) ?_ | refine ec_condFH rfl (by assumption) ?_)
      | refine ek_seqN ?_ | refine ek_seqX ?_ | refine ek_blkN ?_ | refine ek_blkR ?_ | refine ek_blkX ?_ | refine ek_blkY rfl ?_)
    exact rnd_out (by rfl) (by simp) (scmp2 (by rfl) (by rfl) (by exact ⟨rfl, rfl, rfl⟩) (by rfl) (by first | rfl | (simp; done) | (simp [ints, prs]; done)) (by rfl) (by first | rfl | (simp; done) | (simp [ints, prs]; done)))

theorem lp105_0_t (n b v : Nat) (hn : n ≤ 4) (hb : b < 65536) (o : Out) (ho : (match selm (enP n b v (fun r s => r &&& s == s)) (idn) (R2 n) with | [] => (⟨.exit 0, [(7, .emp)], []⟩ : Out) | x :: xs => ⟨.exit 0, [(7, .sl 0 0 (x :: xs).length)], [⟨ints (x :: xs), 1, 0, some 0, false⟩]⟩) = o) :
    LpS cx 62 0 m105_0 [(1, .int .i64 (v : Nat)), (2, .bool true), (3, .ptr 0 0), (7, .emp), (8, .int .i64 (R2 n : Nat)), (9, .int .i64 (0 : Nat))] [⟨[.int .i64 n, .int .i64 b], 1, 0, some 0, true⟩] o.x o.e o.h := by
  obtain ⟨h1, h2, h3, h4⟩ := shN hn
  subst ho
  refine lp_st (R2 n) (selm (enP n b v (fun r s => r &&& s == s)) (idn)) (fun i s => match s with | [] => [(1, .int .i64 (v : Nat)), (2, .bool true), (3, .ptr 0 0), (7, .emp), (8, .int .i64 (R2 n : Nat)), (9, .int .i64 (i : Nat))] | x :: xs => [(1, .int .i64 (v : Nat)), (2, .bool true), (3, .ptr 0 0), (7, .sl 1 0 (x :: xs).length), (8, .int .i64 (R2 n : Nat)), (9, .int .i64 (i : Nat))]) (fun i s => match s with | [] => [⟨[.int .i64 n, .int .i64 b], 1, 0, some 0, true⟩] | x :: xs => [⟨[.int .i64 n, .int .i64 b], 1, 0, some 0, true⟩, ⟨ints (x :: xs), 1, 1, some 0, false⟩]) (fun s => match s with | [] => ⟨.exit 0, [(7, .emp)], []⟩ | x :: xs => ⟨.exit 0, [(7, .sl 0 0 (x :: xs).length)], [⟨ints (x :: xs), 1, 0, some 0, false⟩]⟩) ?_ ?_ (R2 n) 0 (by omega)
  · intro i s hi hs
    have hlt : decide ((i : Int) < (R2 n : Nat)) = true := decide_eq_true (by omega)
    have hle : decide ((i : Int) ≤ (R2 n : Nat) - 1) = true := decide_eq_true (by omega)
    have hlen : s.length ≤ 16 := by have := selm_len (enP n b v (fun r s => r &&& s == s)) (idn) i; rw [hs] at this; omega
    cases hp : (enP n b v (fun r s => r &&& s == s)) i with
    | true =>
      have hp' : ((enP n b v (fun r s => r &&& s == s)) i) = true := hp
      have lpe := lpen_t_e n b v i hn hb hi _ (ite_pre2 (E := (((bt b i : Nat) : Int) == (v : Nat))) (Q := enQ b v i (fun r s => r &&& s == s)) (n := R2 n) (fun b_ => (⟨.exit 2, [(1, .int .i64 (v : Nat)), (2, .bool true), (3, .ptr 0 0), (7, .emp), (8, .int .i64 (R2 n : Nat)), (9, .int .i64 (i : Nat)), (10, .bool b_)], [⟨[.int .i64 n, .int .i64 b], 1, 0, some 0, true⟩]⟩ : Out)))
      have lpc := fun (x : Nat) (xs : List Nat) => lpen_t_c n b v i hn hb hi x xs _ (ite_pre2 (E := (((bt b i : Nat) : Int) == (v : Nat))) (Q := enQ b v i (fun r s => r &&& s == s)) (n := R2 n) (fun b_ => (⟨.exit 2, [(1, .int .i64 (v : Nat)), (2, .bool true), (3, .ptr 0 0), (7, .sl 1 0 (x :: xs).length), (8, .int .i64 (R2 n : Nat)), (9, .int .i64 (i : Nat)), (10, .bool b_)], [⟨[.int .i64 n, .int .i64 b], 1, 0, some 0, true⟩, ⟨ints (x :: xs), 1, 1, some 0, false⟩]⟩ : Out)))
      have hq : ((((bt b i : Nat) : Int) == (v : Nat)) && allF (enQ b v i (fun r s => r &&& s == s)) 0 (R2 n)) = true := hp'
      simp only [hq] at lpe lpc
      simp only [allFz, Bool.and_true] at lpe lpc
      have e3 := ev157 n b i (by omega) (by omega)
      cases s with
      | nil =>
        refine ⟨[(idn) i], by rw [selm_t (p := enP n b v (fun r s => r &&& s == s)) hp, hs]; try rfl, ?_⟩
        unfold m105_0
        repeat' (first
          | refine sc_loop lpe rfl rfl ⟨rfl, rfl, rfl⟩ rfl rfl rfl ?_
          | refine sc_loop (lpc _ _) rfl rfl ⟨rfl, rfl, rfl⟩ rfl rfl rfl ?_
          | (refine g_op ?_; first
            | refine ep_mov rfl ?_ | refine sp_loadN rfl rfl rfl rfl rfl ?_
            | refine ep_call0 rfl (by first | exact e3) rfl rfl ?_
            | refine sp_call rfl rfl rfl rfl (by first | exact e3) ⟨rfl, rfl, rfl, rfl⟩ rfl rfl rfl ?_
            | refine ep_bin rfl rfl (by first | exact b_add (by omega) (by omega) | exact b_lss | exact b_eql) ?_ | refine sp_bslice rfl rfl rfl rfl rfl ?_ | refine sp_push0 rfl (by first | exact .inl rfl | exact .inr rfl) rfl rfl rfl rfl rfl (by decide) rfl rfl rfl ?_
            | refine sp_push rfl rfl rfl rfl rfl rfl rfl (by first | exact ints_len _ | exact prs_len _ _ | exact zints_len _) (by omega) (Nat.zero_le _) rfl rfl rfl rfl rfl ?_)
          | (refine g_ops ?_; first | refine eo_none ?_ | refine eo_nil ?_)
          | (refine g_code ?_; first | refine ec_seq ?_ | refine ec_region ?_ | refine ec_block ?_ | refine ec_skip ?_ | refine ec_exit ?_ | refine ec_condT rfl ?_ | refine ec_condF rfl ?_ | refine ec_condTH rfl (by assumption) ?_ | refine ec_condFH rfl (by assumption) ?_)
          | refine ek_seqN ?_ | refine ek_seqX ?_ | refine ek_seqR ?_ | refine ek_blkN ?_ | refine ek_blkR ?_ | refine ek_blkX ?_ | refine ek_blkY rfl ?_)
        exact rnd_on (by rfl) (scmp2 (by rfl) (by rfl) (by exact ⟨rfl, rfl, rfl⟩) (by rfl) (by first | rfl | (simp; done) | (simp [ints, prs]; done)) (by rfl) (by first | rfl | (simp; done) | (simp [ints, prs]; done)))
      | cons x xs =>
        refine ⟨(x :: xs) ++ [(idn) i], by rw [selm_t (p := enP n b v (fun r s => r &&& s == s)) hp, hs]; try rfl, ?_⟩
        unfold m105_0
        repeat' (first
          | refine sc_loop lpe rfl rfl ⟨rfl, rfl, rfl⟩ rfl rfl rfl ?_
          | refine sc_loop (lpc _ _) rfl rfl ⟨rfl, rfl, rfl⟩ rfl rfl rfl ?_
          | (refine g_op ?_; first
            | refine ep_mov rfl ?_ | refine sp_loadN rfl rfl rfl rfl rfl ?_
            | refine ep_call0 rfl (by first | exact e3) rfl rfl ?_
            | refine sp_call rfl rfl rfl rfl (by first | exact e3) ⟨rfl, rfl, rfl, rfl⟩ rfl rfl rfl ?_
            | refine ep_bin rfl rfl (by first | exact b_add (by omega) (by omega) | exact b_lss | exact b_eql) ?_ | refine sp_bslice rfl rfl rfl rfl rfl ?_ | refine sp_push0 rfl (by first | exact .inl rfl | exact .inr rfl) rfl rfl rfl rfl rfl (by decide) rfl rfl rfl ?_
            | refine sp_push rfl rfl rfl rfl rfl rfl rfl (by first | exact ints_len _ | exact prs_len _ _ | exact zints_len _) (by omega) (Nat.zero_le _) rfl rfl rfl rfl rfl ?_)
          | (refine g_ops ?_; first | refine eo_none ?_ | refine eo_nil ?_)
          | (refine g_code ?_; first | refine ec_seq ?_ | refine ec_region ?_ | refine ec_block ?_ | refine ec_skip ?_ | refine ec_exit ?_ | refine ec_condT rfl ?_ | refine ec_condF rfl ?_ | refine ec_condTH rfl (by assumption) ?_ | refine ec_condFH rfl (by assumption) ?_)
          | refine ek_seqN ?_ | refine ek_seqX ?_ | refine ek_seqR ?_ | refine ek_blkN ?_ | refine ek_blkR ?_ | refine ek_blkX ?_ | refine ek_blkY rfl ?_)
        exact rnd_on (by rfl) (scmp2 (by rfl) (by rfl) (by exact ⟨rfl, rfl, rfl⟩) (by rfl) (by first | rfl | (simp; done) | (simp [ints, prs]; done)) (by rfl) (by first | rfl | (simp; done) | (simp [ints, prs]; done)))
    | false =>
      have hp' : ((enP n b v (fun r s => r &&& s == s)) i) = false := hp
      have lpe := lpen_t_e n b v i hn hb hi _ (ite_pre2 (E := (((bt b i : Nat) : Int) == (v : Nat))) (Q := enQ b v i (fun r s => r &&& s == s)) (n := R2 n) (fun b_ => (⟨.exit 2, [(1, .int .i64 (v : Nat)), (2, .bool true), (3, .ptr 0 0), (7, .emp), (8, .int .i64 (R2 n : Nat)), (9, .int .i64 (i : Nat)), (10, .bool b_)], [⟨[.int .i64 n, .int .i64 b], 1, 0, some 0, true⟩]⟩ : Out)))
      have lpc := fun (x : Nat) (xs : List Nat) => lpen_t_c n b v i hn hb hi x xs _ (ite_pre2 (E := (((bt b i : Nat) : Int) == (v : Nat))) (Q := enQ b v i (fun r s => r &&& s == s)) (n := R2 n) (fun b_ => (⟨.exit 2, [(1, .int .i64 (v : Nat)), (2, .bool true), (3, .ptr 0 0), (7, .sl 1 0 (x :: xs).length), (8, .int .i64 (R2 n : Nat)), (9, .int .i64 (i : Nat)), (10, .bool b_)], [⟨[.int .i64 n, .int .i64 b], 1, 0, some 0, true⟩, ⟨ints (x :: xs), 1, 1, some 0, false⟩]⟩ : Out)))
      have hq : ((((bt b i : Nat) : Int) == (v : Nat)) && allF (enQ b v i (fun r s => r &&& s == s)) 0 (R2 n)) = false := hp'
      simp only [hq] at lpe lpc
      simp only [allFz, Bool.and_true] at lpe lpc
      have e3 := ev157 n b i (by omega) (by omega)
      cases s with
      | nil =>
        refine ⟨[], by rw [selm_f (p := enP n b v (fun r s => r &&& s == s)) hp, hs]; try rfl, ?_⟩
        unfold m105_0
        repeat' (first
          | refine sc_loop lpe rfl rfl ⟨rfl, rfl, rfl⟩ rfl rfl rfl ?_
          | refine sc_loop (lpc _ _) rfl rfl ⟨rfl, rfl, rfl⟩ rfl rfl rfl ?_
          | (refine g_op ?_; first
            | refine ep_mov rfl ?_ | refine sp_loadN rfl rfl rfl rfl rfl ?_
            | refine ep_call0 rfl (by first | exact e3) rfl rfl ?_
            | refine sp_call rfl rfl rfl rfl (by first | exact e3) ⟨rfl, rfl, rfl, rfl⟩ rfl rfl rfl ?_
            | refine ep_bin rfl rfl (by first | exact b_add (by omega) (by omega) | exact b_lss | exact b_eql) ?_ | refine sp_bslice rfl rfl rfl rfl rfl ?_ | refine sp_push0 rfl (by first | exact .inl rfl | exact .inr rfl) rfl rfl rfl rfl rfl (by decide) rfl rfl rfl ?_
            | refine sp_push rfl rfl rfl rfl rfl rfl rfl (by first | exact ints_len _ | exact prs_len _ _ | exact zints_len _) (by omega) (Nat.zero_le _) rfl rfl rfl rfl rfl ?_)
          | (refine g_ops ?_; first | refine eo_none ?_ | refine eo_nil ?_)
          | (refine g_code ?_; first | refine ec_seq ?_ | refine ec_region ?_ | refine ec_block ?_ | refine ec_skip ?_ | refine ec_exit ?_ | refine ec_condT rfl ?_ | refine ec_condF rfl ?_ | refine ec_condTH rfl (by assumption) ?_ | refine ec_condFH rfl (by assumption) ?_)
          | refine ek_seqN ?_ | refine ek_seqX ?_ | refine ek_seqR ?_ | refine ek_blkN ?_ | refine ek_blkR ?_ | refine ek_blkX ?_ | refine ek_blkY rfl ?_)
        exact rnd_on (by rfl) (scmp2 (by rfl) (by rfl) (by exact ⟨rfl, rfl, rfl⟩) (by rfl) (by first | rfl | (simp; done) | (simp [ints, prs]; done)) (by rfl) (by first | rfl | (simp; done) | (simp [ints, prs]; done)))
      | cons x xs =>
        refine ⟨x :: xs, by rw [selm_f (p := enP n b v (fun r s => r &&& s == s)) hp, hs]; try rfl, ?_⟩
        unfold m105_0
        repeat' (first
          | refine sc_loop lpe rfl rfl ⟨rfl, rfl, rfl⟩ rfl rfl rfl ?_
          | refine sc_loop (lpc _ _) rfl rfl ⟨rfl, rfl, rfl⟩ rfl rfl rfl ?_
          | (refine g_op ?_; first
            | refine ep_mov rfl ?_ | refine sp_loadN rfl rfl rfl rfl rfl ?_
            | refine ep_call0 rfl (by first | exact e3) rfl rfl ?_
            | refine sp_call rfl rfl rfl rfl (by first | exact e3) ⟨rfl, rfl, rfl, rfl⟩ rfl rfl rfl ?_
            | refine ep_bin rfl rfl (by first | exact b_add (by omega) (by omega) | exact b_lss | exact b_eql) ?_ | refine sp_bslice rfl rfl rfl rfl rfl ?_ | refine sp_push0 rfl (by first | exact .inl rfl | exact .inr rfl) rfl rfl rfl rfl rfl (by decide) rfl rfl rfl ?_
            | refine sp_push rfl rfl rfl rfl rfl rfl rfl (by first | exact ints_len _ | exact prs_len _ _ | exact zints_len _) (by omega) (Nat.zero_le _) rfl rfl rfl rfl rfl ?_)
          | (refine g_ops ?_; first | refine eo_none ?_ | refine eo_nil ?_)
          | (refine g_code ?_; first | refine ec_seq ?_ | refine ec_region ?_ | refine ec_block ?_ | refine ec_skip ?_ | refine ec_exit ?_ | refine ec_condT rfl ?_ | refine ec_condF rfl ?_ | refine ec_condTH rfl (by assumption) ?_ | refine ec_condFH rfl (by assumption) ?_)
          | refine ek_seqN ?_ | refine ek_seqX ?_ | refine ek_seqR ?_ | refine ek_blkN ?_ | refine ek_blkR ?_ | refine ek_blkX ?_ | refine ek_blkY rfl ?_)
        exact rnd_on (by rfl) (scmp2 (by rfl) (by rfl) (by exact ⟨rfl, rfl, rfl⟩) (by rfl) (by first | rfl | (simp; done) | (simp [ints, prs]; done)) (by rfl) (by first | rfl | (simp; done) | (simp [ints, prs]; done)))
  · intro s hs
    have hlt : decide (((R2 n : Nat) : Int) < (R2 n : Nat)) = false := decide_eq_false (by omega)
    have hle : decide (((R2 n : Nat) : Int) ≤ (R2 n : Nat) - 1) = false := decide_eq_false (by omega)
    cases s with
    | nil =>
      unfold m105_0
      repeat' (first
        | (refine g_op ?_; first
          | refine ep_mov rfl ?_ | refine sp_loadN rfl rfl rfl rfl rfl ?_
          | refine ep_bin rfl rfl (by first | exact b_add (by omega) (by omega) | exact b_lss | exact b_eql) ?_ | refine sp_bslice rfl rfl rfl rfl rfl ?_ | refine sp_push0 rfl (by first | exact .inl rfl | exact .inr rfl) rfl rfl rfl rfl rfl (by decide) rfl rfl rfl ?_
          | refine sp_push rfl rfl rfl rfl rfl rfl rfl (by first | exact ints_len _ | exact prs_len _ _ | exact zints_len _) (by omega) (Nat.zero_le _) rfl rfl rfl rfl rfl ?_)
        | (refine g_ops ?_; first | refine eo_none ?_ | refine eo_nil ?_)
        | (refine g_code ?_; first | refine ec_seq ?_ | refine ec_region ?_ | refine ec_block ?_ | refine ec_skip ?_ | refine ec_exit ?_ | refine ec_condT rfl ?_ | refine ec_condF rfl ?_ | refine ec_condTH rfl (by assumption) ?_ | refine ec_condFH rfl (by assumption) ?_)
        | refine ek_seqN ?_ | refine ek_seqX ?_ | refine ek_seqR ?_ | refine ek_blkN ?_ | refine ek_blkR ?_ | refine ek_blkX ?_ | refine ek_blkY rfl ?_)
      exact rnd_out (by rfl) (by simp) (scmp2 (by rfl) (by rfl) (by exact ⟨rfl, rfl, rfl⟩) (by rfl) (by first | rfl | (simp; done) | (simp [ints, prs]; done)) (by rfl) (by first | rfl | (simp; done) | (simp [ints, prs]; done)))
    | cons x xs =>
      unfold m105_0
      repeat' (first
        | (refine g_op ?_; first
          | refine ep_mov rfl ?_ | refine sp_loadN rfl rfl rfl rfl rfl ?_
          | refine ep_bin rfl rfl (by first | exact b_add (by omega) (by omega) | exact b_lss | exact b_eql) ?_ | refine sp_bslice rfl rfl rfl rfl rfl ?_ | refine sp_push0 rfl (by first | exact .inl rfl | exact .inr rfl) rfl rfl rfl rfl rfl (by decide) rfl rfl rfl ?_
          | refine sp_push rfl rfl rfl rfl rfl rfl rfl (by first | exact ints_len _ | exact prs_len _ _ | exact zints_len _) (by omega) (Nat.zero_le _) rfl rfl rfl rfl rfl ?_)
        | (refine g_ops ?_; first | refine eo_none ?_ | refine eo_nil ?_)
        | (refine g_code ?_; first | refine ec_seq ?_ | refine ec_region ?_ | refine ec_block ?_ | refine ec_skip ?_ | refine ec_exit ?_ | refine ec_condT rfl ?_ | refine ec_condF rfl ?_ | refine ec_condTH rfl (by assumption) ?_ | refine ec_condFH rfl (by assumption) ?_)
        | refine ek_seqN ?_ | refine ek_seqX ?_ | refine ek_seqR ?_ | refine ek_blkN ?_ | refine ek_blkR ?_ | refine ek_blkX ?_ | refine ek_blkY rfl ?_)
      exact rnd_out (by rfl) (by simp) (scmp2 (by rfl) (by rfl) (by exact ⟨rfl, rfl, rfl⟩) (by rfl) (by first | rfl | (simp; done) | (simp [ints, prs]; done)) (by rfl) (by first | rfl | (simp; done) | (simp [ints, prs]; done)))

theorem ev105_t (n b v : Nat) (hn : n ≤ 4) (hb : b < 65536) : Ev cx 105 [.agg [.int .i64 n, .int .i64 b], .int .i64 v, .bool true] [] (slV .emp 0 (selm (enP n b v (fun r s => r &&& s == s)) idn (R2 n))) (slH 0 1 ints (selm (enP n b v (fun r s => r &&& s == s)) idn (R2 n))) := by
  have e1 := ev106 n hn
  cases hs : selm (enP n b v (fun r s => r &&& s == s)) idn (R2 n) with
  | nil =>
    have lp := lp105_0_t n b v hn hb _ (by rw [hs])
    refine has105.eev rfl rfl ?_
    unfold m105
    repeat' (first
      | refine sc_loop lp rfl rfl ⟨rfl, rfl, rfl⟩ rfl rfl rfl ?_
      | (refine g_op ?_; first
        | refine ep_mov rfl ?_ | refine ep_load1 rfl rfl rfl rfl ?_ | refine ep_fieldAddr rfl ?_
        | refine ep_call0 rfl (by first | exact e1) rfl rfl ?_
        | refine sp_call rfl rfl rfl rfl (by first | exact e1) ⟨rfl, rfl, rfl, rfl⟩ rfl rfl rfl ?_
        | refine sp_box rfl rfl rfl rfl rfl ?_ | refine ep_empt ?_)
      | (refine g_ops ?_; first | refine eo_none ?_ | refine eo_nil ?_)
      | (refine g_code ?_; first | refine ec_seq ?_ | refine ec_region ?_ | refine ec_block ?_ | refine ec_ret ?_)
      | refine ek_seqN ?_ | refine ek_seqX ?_ | refine ek_seqR ?_ | refine ek_blkN ?_ | refine ek_blkR ?_ | refine ek_blkX ?_ | refine ek_blkY rfl ?_)
    refine sfin (.inr rfl) (by rfl) (by rfl) (by exact ⟨rfl, rfl, rfl⟩) (by rfl) (by rfl) (by rfl) (by first | rfl | (simp; done) | (simp [ints, prs]; done))
  | cons x xs =>
    have lp := lp105_0_t n b v hn hb _ (by rw [hs])
    refine has105.eev rfl rfl ?_
    unfold m105
    repeat' (first
      | refine sc_loop lp rfl rfl ⟨rfl, rfl, rfl⟩ rfl rfl rfl ?_
      | (refine g_op ?_; first
        | refine ep_mov rfl ?_ | refine ep_load1 rfl rfl rfl rfl ?_ | refine ep_fieldAddr rfl ?_
        | refine ep_call0 rfl (by first | exact e1) rfl rfl ?_
        | refine sp_call rfl rfl rfl rfl (by first | exact e1) ⟨rfl, rfl, rfl, rfl⟩ rfl rfl rfl ?_
        | refine sp_box rfl rfl rfl rfl rfl ?_ | refine ep_empt ?_)
      | (refine g_ops ?_; first | refine eo_none ?_ | refine eo_nil ?_)
      | (refine g_code ?_; first | refine ec_seq ?_ | refine ec_region ?_ | refine ec_block ?_ | refine ec_ret ?_)
      | refine ek_seqN ?_ | refine ek_seqX ?_ | refine ek_seqR ?_ | refine ek_blkN ?_ | refine ek_blkR ?_ | refine ek_blkX ?_ | refine ek_blkY rfl ?_)
    refine sfin (.inr rfl) (by rfl) (by rfl) (by exact ⟨rfl, rfl, rfl⟩) (by rfl) (by rfl) (by rfl) (by first | rfl | (simp; done) | (simp [ints, prs]; done))
theorem end_eq (n b v : Nat) (bel : Nat → Nat → Bool) (rs : List Nat) (hs : selm (fun r => bt b r == v) idn (R2 n) = rs) : endL rs bel = selm (enP n b v bel) idn (R2 n) := by
  have e : ∀ p : Nat → Bool, selm p idn (R2 n) = (List.range (R2 n)).filter p := fun p => by unfold selm; exact List.map_id' _
  have hmem : ∀ s, s ∈ rs ↔ s < R2 n ∧ bt b s = v := by
    intro s; rw [← hs, e, List.mem_filter, List.mem_range, beq_iff_eq]
  unfold endL kpt
  rw [List.take_length]
  have key : rs.filter (fun x => !delQ rs bel x) = ((List.range (R2 n)).filter (fun r => bt b r == v)).filter (fun x => !delQ rs bel x) := by rw [← e, hs]
  rw [key, e, List.filter_filter]
  apply List.filter_congr
  intro r hr
  rw [List.mem_range] at hr
  unfold enP
  rw [ieq, Bool.and_comm]
  cases hv : (bt b r == v)
  · rfl
  rw [Bool.true_and, Bool.true_and]
  rw [Bool.eq_iff_iff, delQ, Bool.not_not, allF_iff, allF_iff]
  constructor
  · intro h s _ hsn
    unfold enQ
    cases c1 : (s == r)
    · cases c2 : (bt b s != v)
      · have hm : s ∈ rs := (hmem s).mpr ⟨by omega, by simpa [bne] using c2⟩
        obtain ⟨j, hj, rfl⟩ := List.getElem_of_mem hm
        have := h j (Nat.zero_le _) (by omega)
        rw [List.getD_eq_getElem?_getD, List.getElem?_eq_getElem hj, Option.getD_some] at this
        rw [show (rs[j] != r) = true by simp only [bne, c1]; rfl, Bool.true_and] at this
        rw [this]; rfl
      · rfl
    · rfl
  · intro h j _ hj
    have hj : j < rs.length := by omega
    rw [List.getD_eq_getElem?_getD, List.getElem?_eq_getElem hj, Option.getD_some]
    obtain ⟨m1, m2⟩ := (hmem rs[j]).mp (List.getElem_mem hj)
    have := h rs[j] (Nat.zero_le _) (by omega)
    unfold enQ at this
    rw [m2] at this
    revert this
    cases c1 : (rs[j] == r) <;> simp [bne, c1]
abbrev belF : Nat → Nat → Bool := fun r s => s &&& r == r
abbrev belT : Nat → Nat → Bool := fun r s => r &&& s == s
-- impl.GreatestFalseRows
def m15 : MC := (.seq (.region [⟨(.box (.t 0)), (some 1), none⟩, ⟨(.mov (.k .nils)), (some 2), none⟩, ⟨(.mov (.k (.int .i64 0))), (some 3), none⟩] false) (.seq (.seq (.region [⟨(.load (some 2) (.t 1)), (some 4), none⟩, ⟨(.call 95 [(.t 4)]), (some 5), none⟩, ⟨(.un .not (.t 5)), (some 6), none⟩] false) (.cond (.t 6) (.seq (.region [⟨(.mov (.k .nils)), (some 2), none⟩, ⟨(.mov (.k (.int .i64 1))), (some 3), none⟩] false) .ret) .skip)) (.seq (.region [⟨(.load (some 2) (.t 1)), (some 7), none⟩, ⟨(.mkfn 117 [(.t 1)]), (some 8), none⟩, ⟨(.call 98 [(.t 7), (.t 8), (.k (.fn 119 []))]), (some 9), none⟩, ⟨(.mov (.t 9)), (some 2), none⟩, ⟨(.mov (.k (.int .i64 0))), (some 3), none⟩] false) .ret)))
theorem has15 : Has cx 15 10 m15 [(.tmp 2), (.tmp 3)] :=
  ⟨⟨Try.f15, Try.f15.body.getD .skip, by kernel_rfl, by kernel_rfl, by kernel_rfl, by kernel_rfl, by kernel_rfl, by kernel_rfl⟩⟩
theorem evgf_GreatestFalseRows (n b : Nat) (a1 : n ≤ 4) (a2 : b < R2 (R2 n)) (a3 : b < 65536) (L : List Nat) (hL : selm (enP n b 0 belF) idn (R2 n) = L) (e1 : Ev cx 95 [.agg [.int .i64 n, .int .i64 b]] [] (.bool true) []) : ∃ (w : V) (hp : Heap), Ev cx 15 [.agg [.int .i64 n, .int .i64 b]] [] (.tup [w, .int .i64 0]) hp ∧
    ((w = .nils ∧ hp = [] ∧ L = []) ∨ ∃ k : Nat, k ≤ 16 ∧ w = .sl 0 0 L.length ∧ hp = [⟨ints (L ++ List.replicate k 0), 1, 0, some 0, false⟩] ∧ L.length ≤ 16) := by
  obtain ⟨h1, h2, h3, h4⟩ := shN a1
  have en := end_eq n b 0 belF
  have hle := selm_len (fun r => bt b r == 0) idn (R2 n)
  cases hs : selm (fun r => bt b r == 0) idn (R2 n) with
  | nil =>
    have e2 := ends_nil 119 117 n b (fun r => bt b r == 0) a1 (fun r hr => ev117 n b r a3 hr) hs
    have hE := en [] hs
    rw [hL] at hE
    refine ⟨.nils, [], ?_, .inl ⟨rfl, rfl, hE.symm⟩⟩
    refine has15.eev rfl rfl ?_
    unfold m15
    repeat' (first
      | (refine g_op ?_; first
        | refine ep_mov rfl ?_ | refine sp_loadN rfl rfl rfl rfl rfl ?_
        | refine ep_call0 rfl (by first | exact e1 | exact e2) rfl rfl ?_
        | refine sp_call rfl rfl rfl rfl (by first | exact e1 | exact e2) ⟨rfl, rfl, rfl, rfl⟩ rfl rfl rfl ?_
        | refine ep_not rfl ?_ | refine sp_box rfl rfl rfl rfl rfl ?_ | refine ep_mkfn rfl ?_)
      | (refine g_ops ?_; first | refine eo_none ?_ | refine eo_nil ?_)
      | (refine g_code ?_; first | refine ec_seq ?_ | refine ec_region ?_ | refine ec_skip ?_ | refine ec_ret ?_ | refine ec_condT rfl ?_ | refine ec_condF rfl ?_ | refine ec_condTH rfl (by assumption) ?_ | refine ec_condFH rfl (by assumption) ?_)
      | refine ek_seqN ?_ | refine ek_seqR ?_)
    refine sfin (.inr rfl) (by rfl) (by rfl) (by exact ⟨rfl, rfl, rfl⟩) (by rfl) (by rfl) (by rfl) (by first | rfl | (simp; done) | (simp [ints, prs]; done))
  | cons x xs =>
    have e2 := ends_cons 119 117 n b (fun r => bt b r == 0) a1 (fun r hr => ev117 n b r a3 hr) belF (fun r s hr hs => ev119 r s hr hs) x xs hs
    have hE := en (x :: xs) hs
    rw [hL] at hE
    rw [hE] at e2
    rw [hs] at hle
    have hkl := kpt_len (delQ (x :: xs) belF) (x :: xs) (x :: xs).length
    rw [show kpt (delQ (x :: xs) belF) (x :: xs) (x :: xs).length = L from hE] at hkl
    refine ⟨_, _, ?_, .inr ⟨(x :: xs).length - L.length, by omega, rfl, rfl, by omega⟩⟩
    refine has15.eev rfl rfl ?_
    unfold m15
    repeat' (first
      | (refine g_op ?_; first
        | refine ep_mov rfl ?_ | refine sp_loadN rfl rfl rfl rfl rfl ?_
        | refine ep_call0 rfl (by first | exact e1 | exact e2) rfl rfl ?_
        | refine sp_call rfl rfl rfl rfl (by first | exact e1 | exact e2) ⟨rfl, rfl, rfl, rfl⟩ rfl rfl rfl ?_
        | refine ep_not rfl ?_ | refine sp_box rfl rfl rfl rfl rfl ?_ | refine ep_mkfn rfl ?_)
      | (refine g_ops ?_; first | refine eo_none ?_ | refine eo_nil ?_)
      | (refine g_code ?_; first | refine ec_seq ?_ | refine ec_region ?_ | refine ec_skip ?_ | refine ec_ret ?_ | refine ec_condT rfl ?_ | refine ec_condF rfl ?_ | refine ec_condTH rfl (by assumption) ?_ | refine ec_condFH rfl (by assumption) ?_)
      | refine ek_seqN ?_ | refine ek_seqR ?_)
    refine sfin (.inr rfl) (by rfl) (by rfl) (by exact ⟨rfl, rfl, rfl⟩) (by rfl) (by rfl) (by rfl) (by first | rfl | (simp; done) | (simp [ints, prs]; done))
-- (impl.Func).leastTrue
def m97 : MC := (.seq (.region [⟨(.box (.t 0)), (some 1), none⟩, ⟨(.mov (.k .nils)), (some 2), none⟩] false) (.seq (.region [⟨(.load (some 2) (.t 1)), (some 3), none⟩, ⟨(.mkfn 183 [(.t 1)]), (some 4), none⟩, ⟨(.call 98 [(.t 3), (.t 4), (.k (.fn 102 []))]), (some 5), none⟩, ⟨(.mov (.t 5)), (some 2), none⟩] false) .ret))
theorem has97 : Has cx 97 6 m97 [(.tmp 2)] :=
  ⟨⟨Try.f97, Try.f97.body.getD .skip, by kernel_rfl, by kernel_rfl, by kernel_rfl, by kernel_rfl, by kernel_rfl, by kernel_rfl⟩⟩
theorem ev97 (n b : Nat) (a1 : n ≤ 4) (a3 : b < 65536) (L : List Nat) (hL : selm (enP n b 1 belT) idn (R2 n) = L) : ∃ (w : V) (hp : Heap), Ev cx 97 [.agg [.int .i64 n, .int .i64 b]] [] w hp ∧
    ((w = .nils ∧ hp = [] ∧ L = []) ∨ ∃ k : Nat, k ≤ 16 ∧ w = .sl 0 0 L.length ∧ hp = [⟨ints (L ++ List.replicate k 0), 1, 0, some 0, false⟩] ∧ L.length ≤ 16) := by
  obtain ⟨h1, h2, h3, h4⟩ := shN a1
  have en := end_eq n b 1 belT
  have hle := selm_len (fun r => bt b r == 1) idn (R2 n)
  cases hs : selm (fun r => bt b r == 1) idn (R2 n) with
  | nil =>
    have e2 := ends_nil 102 183 n b (fun r => bt b r == 1) a1 (fun r hr => ev183 n b r a3 hr) hs
    have hE := en [] hs
    rw [hL] at hE
    refine ⟨.nils, [], ?_, .inl ⟨rfl, rfl, hE.symm⟩⟩
    refine has97.eev rfl rfl ?_
    unfold m97
    repeat' (first
      | (refine g_op ?_; first
        | refine ep_mov rfl ?_ | refine sp_loadN rfl rfl rfl rfl rfl ?_
        | refine ep_call0 rfl (by first | exact e2) rfl rfl ?_
        | refine sp_call rfl rfl rfl rfl (by first | exact e2) ⟨rfl, rfl, rfl, rfl⟩ rfl rfl rfl ?_
        | refine sp_box rfl rfl rfl rfl rfl ?_ | refine ep_mkfn rfl ?_)
      | (refine g_ops ?_; first | refine eo_none ?_ | refine eo_nil ?_)
      | (refine g_code ?_; first | refine ec_seq ?_ | refine ec_region ?_ | refine ec_ret ?_)
      | refine ek_seqN ?_ | refine ek_seqR ?_)
    refine sfin (.inr rfl) (by rfl) (by rfl) (by exact ⟨rfl, rfl, rfl⟩) (by rfl) (by rfl) (by rfl) (by first | rfl | (simp; done) | (simp [ints, prs]; done))
  | cons x xs =>
    have e2 := ends_cons 102 183 n b (fun r => bt b r == 1) a1 (fun r hr => ev183 n b r a3 hr) belT (fun r s hr hs => ev102 r s hr hs) x xs hs
    have hE := en (x :: xs) hs
    rw [hL] at hE
    rw [hE] at e2
    rw [hs] at hle
    have hkl := kpt_len (delQ (x :: xs) belT) (x :: xs) (x :: xs).length
    rw [show kpt (delQ (x :: xs) belT) (x :: xs) (x :: xs).length = L from hE] at hkl
    refine ⟨_, _, ?_, .inr ⟨(x :: xs).length - L.length, by omega, rfl, rfl, by omega⟩⟩
    refine has97.eev rfl rfl ?_
    unfold m97
    repeat' (first
      | (refine g_op ?_; first
        | refine ep_mov rfl ?_ | refine sp_loadN rfl rfl rfl rfl rfl ?_
        | refine ep_call0 rfl (by first | exact e2) rfl rfl ?_
        | refine sp_call rfl rfl rfl rfl (by first | exact e2) ⟨rfl, rfl, rfl, rfl⟩ rfl rfl rfl ?_
        | refine sp_box rfl rfl rfl rfl rfl ?_ | refine ep_mkfn rfl ?_)
      | (refine g_ops ?_; first | refine eo_none ?_ | refine eo_nil ?_)
      | (refine g_code ?_; first | refine ec_seq ?_ | refine ec_region ?_ | refine ec_ret ?_)
      | refine ek_seqN ?_ | refine ek_seqR ?_)
    refine sfin (.inr rfl) (by rfl) (by rfl) (by exact ⟨rfl, rfl, rfl⟩) (by rfl) (by rfl) (by rfl) (by first | rfl | (simp; done) | (simp [ints, prs]; done))
-- spec.GreatestFalseRows
def m28 : MC := (.seq (.region [⟨(.box (.t 0)), (some 1), none⟩, ⟨(.mov (.k .nils)), (some 2), none⟩, ⟨(.mov (.k (.int .i64 0))), (some 3), none⟩] false) (.seq (.seq (.region [⟨(.load (some 2) (.t 1)), (some 4), none⟩, ⟨(.call 103 [(.t 4)]), (some 5), none⟩, ⟨(.un .not (.t 5)), (some 6), none⟩] false) (.cond (.t 6) (.seq (.region [⟨(.mov (.k .nils)), (some 2), none⟩, ⟨(.mov (.k (.int .i64 1))), (some 3), none⟩] false) .ret) .skip)) (.seq (.region [⟨(.load (some 2) (.t 1)), (some 7), none⟩, ⟨(.call 105 [(.t 7), (.k (.int .i64 0)), (.k (.bool false))]), (some 8), none⟩, ⟨(.mov (.t 8)), (some 2), none⟩, ⟨(.mov (.k (.int .i64 0))), (some 3), none⟩] false) .ret)))
theorem has28 : Has cx 28 9 m28 [(.tmp 2), (.tmp 3)] :=
  ⟨⟨Try.f28, Try.f28.body.getD .skip, by kernel_rfl, by kernel_rfl, by kernel_rfl, by kernel_rfl, by kernel_rfl, by kernel_rfl⟩⟩
theorem ev28 (n b : Nat) (a1 : n ≤ 4) (a3 : b < 65536) (L : List Nat) (hL : selm (enP n b 0 belF) idn (R2 n) = L) (e1 : Ev cx 103 [.agg [.int .i64 n, .int .i64 b]] [] (.bool true) []) : Ev cx 28 [.agg [.int .i64 n, .int .i64 b]] [] (.tup [slV .emp 0 L, .int .i64 0]) (slH 0 1 ints L) := by
  have e2 := ev105_f n b 0 a1 a3
  cases L with
  | nil =>
    rw [hL] at e2
    refine has28.eev rfl rfl ?_
    unfold m28
    repeat' (first
      | (refine g_op ?_; first
        | refine ep_mov rfl ?_ | refine sp_loadN rfl rfl rfl rfl rfl ?_
        | refine ep_call0 rfl (by first | exact e1 | exact e2) rfl rfl ?_
        | refine sp_call rfl rfl rfl rfl (by first | exact e1 | exact e2) ⟨rfl, rfl, rfl, rfl⟩ rfl rfl rfl ?_
        | refine ep_not rfl ?_ | refine sp_box rfl rfl rfl rfl rfl ?_)
      | (refine g_ops ?_; first | refine eo_none ?_ | refine eo_nil ?_)
      | (refine g_code ?_; first | refine ec_seq ?_ | refine ec_region ?_ | refine ec_skip ?_ | refine ec_ret ?_ | refine ec_condT rfl ?_ | refine ec_condF rfl ?_ | refine ec_condTH rfl (by assumption) ?_ | refine ec_condFH rfl (by assumption) ?_)
      | refine ek_seqN ?_ | refine ek_seqR ?_)
    refine sfin (.inr rfl) (by rfl) (by rfl) (by exact ⟨rfl, rfl, rfl⟩) (by rfl) (by rfl) (by rfl) (by first | rfl | (simp; done) | (simp [ints, prs]; done))
  | cons x xs =>
    rw [hL] at e2
    refine has28.eev rfl rfl ?_
    unfold m28
    repeat' (first
      | (refine g_op ?_; first
        | refine ep_mov rfl ?_ | refine sp_loadN rfl rfl rfl rfl rfl ?_
        | refine ep_call0 rfl (by first | exact e1 | exact e2) rfl rfl ?_
        | refine sp_call rfl rfl rfl rfl (by first | exact e1 | exact e2) ⟨rfl, rfl, rfl, rfl⟩ rfl rfl rfl ?_
        | refine ep_not rfl ?_ | refine sp_box rfl rfl rfl rfl rfl ?_)
      | (refine g_ops ?_; first | refine eo_none ?_ | refine eo_nil ?_)
      | (refine g_code ?_; first | refine ec_seq ?_ | refine ec_region ?_ | refine ec_skip ?_ | refine ec_ret ?_ | refine ec_condT rfl ?_ | refine ec_condF rfl ?_ | refine ec_condTH rfl (by assumption) ?_ | refine ec_condFH rfl (by assumption) ?_)
      | refine ek_seqN ?_ | refine ek_seqR ?_)
    refine sfin (.inr rfl) (by rfl) (by rfl) (by exact ⟨rfl, rfl, rfl⟩) (by rfl) (by rfl) (by rfl) (by first | rfl | (simp; done) | (simp [ints, prs]; done))
theorem ev28_bad (p t : Int) (h1 : isFn p t = false) : Ev cx 28 [.agg [.int .i64 p, .int .i64 t]] [] (.tup [.nils, .int .i64 1]) [] := by
  have e1 := ev103 p t
  rw [h1] at e1
  refine has28.eev rfl rfl ?_
  unfold m28
  repeat' (first
    | (refine g_op ?_; first
      | refine ep_mov rfl ?_ | refine sp_loadN rfl rfl rfl rfl rfl ?_
      | refine ep_call0 rfl (by first | exact e1) rfl rfl ?_
      | refine sp_call rfl rfl rfl rfl (by first | exact e1) ⟨rfl, rfl, rfl, rfl⟩ rfl rfl rfl ?_
      | refine ep_not rfl ?_ | refine sp_box rfl rfl rfl rfl rfl ?_)
    | (refine g_ops ?_; first | refine eo_none ?_ | refine eo_nil ?_)
    | (refine g_code ?_; first | refine ec_seq ?_ | refine ec_region ?_ | refine ec_skip ?_ | refine ec_ret ?_ | refine ec_condT rfl ?_ | refine ec_condF rfl ?_ | refine ec_condTH rfl (by assumption) ?_ | refine ec_condFH rfl (by assumption) ?_)
    | refine ek_seqN ?_ | refine ek_seqR ?_)
  refine sfin (.inr rfl) (by rfl) (by rfl) (by exact ⟨rfl, rfl, rfl⟩) (by rfl) (by rfl) (by rfl) (by first | rfl | (simp; done) | (simp [ints, prs]; done))
-- spec.LeastTrueRows
def m26 : MC := (.seq (.region [⟨(.box (.t 0)), (some 1), none⟩, ⟨(.mov (.k .nils)), (some 2), none⟩, ⟨(.mov (.k (.int .i64 0))), (some 3), none⟩] false) (.seq (.seq (.region [⟨(.load (some 2) (.t 1)), (some 4), none⟩, ⟨(.call 103 [(.t 4)]), (some 5), none⟩, ⟨(.un .not (.t 5)), (some 6), none⟩] false) (.cond (.t 6) (.seq (.region [⟨(.mov (.k .nils)), (some 2), none⟩, ⟨(.mov (.k (.int .i64 1))), (some 3), none⟩] false) .ret) .skip)) (.seq (.region [⟨(.load (some 2) (.t 1)), (some 7), none⟩, ⟨(.call 105 [(.t 7), (.k (.int .i64 1)), (.k (.bool true))]), (some 8), none⟩, ⟨(.mov (.t 8)), (some 2), none⟩, ⟨(.mov (.k (.int .i64 0))), (some 3), none⟩] false) .ret)))
theorem has26 : Has cx 26 9 m26 [(.tmp 2), (.tmp 3)] :=
  ⟨⟨Try.f26, Try.f26.body.getD .skip, by kernel_rfl, by kernel_rfl, by kernel_rfl, by kernel_rfl, by kernel_rfl, by kernel_rfl⟩⟩
theorem ev26 (n b : Nat) (a1 : n ≤ 4) (a3 : b < 65536) (L : List Nat) (hL : selm (enP n b 1 belT) idn (R2 n) = L) (e1 : Ev cx 103 [.agg [.int .i64 n, .int .i64 b]] [] (.bool true) []) : Ev cx 26 [.agg [.int .i64 n, .int .i64 b]] [] (.tup [slV .emp 0 L, .int .i64 0]) (slH 0 1 ints L) := by
  have e2 := ev105_t n b 1 a1 a3
  cases L with
  | nil =>
    rw [hL] at e2
    refine has26.eev rfl rfl ?_
    unfold m26
    repeat' (first
      | (refine g_op ?_; first
        | refine ep_mov rfl ?_ | refine sp_loadN rfl rfl rfl rfl rfl ?_
        | refine ep_call0 rfl (by first | exact e1 | exact e2) rfl rfl ?_
        | refine sp_call rfl rfl rfl rfl (by first | exact e1 | exact e2) ⟨rfl, rfl, rfl, rfl⟩ rfl rfl rfl ?_
        | refine ep_not rfl ?_ | refine sp_box rfl rfl rfl rfl rfl ?_)
      | (refine g_ops ?_; first | refine eo_none ?_ | refine eo_nil ?_)
      | (refine g_code ?_; first | refine ec_seq ?_ | refine ec_region ?_ | refine ec_skip ?_ | refine ec_ret ?_ | refine ec_condT rfl ?_ | refine ec_condF rfl ?_ | refine ec_condTH rfl (by assumption) ?_ | refine ec_condFH rfl (by assumption) ?_)
      | refine ek_seqN ?_ | refine ek_seqR ?_)
    refine sfin (.inr rfl) (by rfl) (by rfl) (by exact ⟨rfl, rfl, rfl⟩) (by rfl) (by rfl) (by rfl) (by first | rfl | (simp; done) | (simp [ints, prs]; done))
  | cons x xs =>
    rw [hL] at e2
    refine has26.eev rfl rfl ?_
    unfold m26
    repeat' (first
      | (refine g_op ?_; first
        | refine ep_mov rfl ?_ | refine sp_loadN rfl rfl rfl rfl rfl ?_
        | refine ep_call0 rfl (by first | exact e1 | exact e2) rfl rfl ?_
        | refine sp_call rfl rfl rfl rfl (by first | exact e1 | exact e2) ⟨rfl, rfl, rfl, rfl⟩ rfl rfl rfl ?_
        | refine ep_not rfl ?_ | refine sp_box rfl rfl rfl rfl rfl ?_)
      | (refine g_ops ?_; first | refine eo_none ?_ | refine eo_nil ?_)
      | (refine g_code ?_; first | refine ec_seq ?_ | refine ec_region ?_ | refine ec_skip ?_ | refine ec_ret ?_ | refine ec_condT rfl ?_ | refine ec_condF rfl ?_ | refine ec_condTH rfl (by assumption) ?_ | refine ec_condFH rfl (by assumption) ?_)
      | refine ek_seqN ?_ | refine ek_seqR ?_)
    refine sfin (.inr rfl) (by rfl) (by rfl) (by exact ⟨rfl, rfl, rfl⟩) (by rfl) (by rfl) (by rfl) (by first | rfl | (simp; done) | (simp [ints, prs]; done))
theorem ev26_bad (p t : Int) (h1 : isFn p t = false) : Ev cx 26 [.agg [.int .i64 p, .int .i64 t]] [] (.tup [.nils, .int .i64 1]) [] := by
  have e1 := ev103 p t
  rw [h1] at e1
  refine has26.eev rfl rfl ?_
  unfold m26
  repeat' (first
    | (refine g_op ?_; first
      | refine ep_mov rfl ?_ | refine sp_loadN rfl rfl rfl rfl rfl ?_
      | refine ep_call0 rfl (by first | exact e1) rfl rfl ?_
      | refine sp_call rfl rfl rfl rfl (by first | exact e1) ⟨rfl, rfl, rfl, rfl⟩ rfl rfl rfl ?_
      | refine ep_not rfl ?_ | refine sp_box rfl rfl rfl rfl rfl ?_)
    | (refine g_ops ?_; first | refine eo_none ?_ | refine eo_nil ?_)
    | (refine g_code ?_; first | refine ec_seq ?_ | refine ec_region ?_ | refine ec_skip ?_ | refine ec_ret ?_ | refine ec_condT rfl ?_ | refine ec_condF rfl ?_ | refine ec_condTH rfl (by assumption) ?_ | refine ec_condFH rfl (by assumption) ?_)
    | refine ek_seqN ?_ | refine ek_seqR ?_)
  refine sfin (.inr rfl) (by rfl) (by rfl) (by exact ⟨rfl, rfl, rfl⟩) (by rfl) (by rfl) (by rfl) (by first | rfl | (simp; done) | (simp [ints, prs]; done))
-- impl.LeastTrueRows
def m12 : MC := (.seq (.region [⟨(.box (.t 0)), (some 1), none⟩, ⟨(.mov (.k .nils)), (some 2), none⟩, ⟨(.mov (.k (.int .i64 0))), (some 3), none⟩] false) (.seq (.seq (.region [⟨(.load (some 2) (.t 1)), (some 4), none⟩, ⟨(.call 95 [(.t 4)]), (some 5), none⟩, ⟨(.un .not (.t 5)), (some 6), none⟩] false) (.cond (.t 6) (.seq (.region [⟨(.mov (.k .nils)), (some 2), none⟩, ⟨(.mov (.k (.int .i64 1))), (some 3), none⟩] false) .ret) .skip)) (.seq (.region [⟨(.load (some 2) (.t 1)), (some 7), none⟩, ⟨(.call 97 [(.t 7)]), (some 8), none⟩, ⟨(.mov (.t 8)), (some 2), none⟩, ⟨(.mov (.k (.int .i64 0))), (some 3), none⟩] false) .ret)))
theorem has12 : Has cx 12 9 m12 [(.tmp 2), (.tmp 3)] :=
  ⟨⟨Try.f12, Try.f12.body.getD .skip, by kernel_rfl, by kernel_rfl, by kernel_rfl, by kernel_rfl, by kernel_rfl, by kernel_rfl⟩⟩
theorem evgf_LeastTrueRows (n b : Nat) (a1 : n ≤ 4) (a2 : b < R2 (R2 n)) (a3 : b < 65536) (L : List Nat) (hL : selm (enP n b 1 belT) idn (R2 n) = L) (e1 : Ev cx 95 [.agg [.int .i64 n, .int .i64 b]] [] (.bool true) []) : ∃ (w : V) (hp : Heap), Ev cx 12 [.agg [.int .i64 n, .int .i64 b]] [] (.tup [w, .int .i64 0]) hp ∧
    ((w = .nils ∧ hp = [] ∧ L = []) ∨ ∃ k : Nat, k ≤ 16 ∧ w = .sl 0 0 L.length ∧ hp = [⟨ints (L ++ List.replicate k 0), 1, 0, some 0, false⟩] ∧ L.length ≤ 16) := by
  obtain ⟨w, hp, e2, h⟩ := ev97 n b a1 a3 L hL
  refine ⟨w, hp, ?_, h⟩
  rcases h with ⟨rfl, rfl, hl⟩ | ⟨k, h1, rfl, rfl, h2⟩
  · refine has12.eev rfl rfl ?_
    unfold m12
    repeat' (first
      | (refine g_op ?_; first
        | refine ep_mov rfl ?_ | refine sp_loadN rfl rfl rfl rfl rfl ?_
        | refine ep_call0 rfl (by first | exact e1 | exact e2) rfl rfl ?_
        | refine sp_call rfl rfl rfl rfl (by first | exact e1 | exact e2) ⟨rfl, rfl, rfl, rfl⟩ rfl rfl rfl ?_
        | refine ep_not rfl ?_ | refine sp_box rfl rfl rfl rfl rfl ?_)
      | (refine g_ops ?_; first | refine eo_none ?_ | refine eo_nil ?_)
      | (refine g_code ?_; first | refine ec_seq ?_ | refine ec_region ?_ | refine ec_skip ?_ | refine ec_ret ?_ | refine ec_condT rfl ?_ | refine ec_condF rfl ?_ | refine ec_condTH rfl (by assumption) ?_ | refine ec_condFH rfl (by assumption) ?_)
      | refine ek_seqN ?_ | refine ek_seqR ?_)
    refine sfin (.inr rfl) (by rfl) (by rfl) (by exact ⟨rfl, rfl, rfl⟩) (by rfl) (by rfl) (by rfl) (by first | rfl | (simp; done) | (simp [ints, prs]; done))
  · refine has12.eev rfl rfl ?_
    unfold m12
    repeat' (first
      | (refine g_op ?_; first
        | refine ep_mov rfl ?_ | refine sp_loadN rfl rfl rfl rfl rfl ?_
        | refine ep_call0 rfl (by first | exact e1 | exact e2) rfl rfl ?_
        | refine sp_call rfl rfl rfl rfl (by first | exact e1 | exact e2) ⟨rfl, rfl, rfl, rfl⟩ rfl rfl rfl ?_
        | refine ep_not rfl ?_ | refine sp_box rfl rfl rfl rfl rfl ?_)
      | (refine g_ops ?_; first | refine eo_none ?_ | refine eo_nil ?_)
      | (refine g_code ?_; first | refine ec_seq ?_ | refine ec_region ?_ | refine ec_skip ?_ | refine ec_ret ?_ | refine ec_condT rfl ?_ | refine ec_condF rfl ?_ | refine ec_condTH rfl (by assumption) ?_ | refine ec_condFH rfl (by assumption) ?_)
      | refine ek_seqN ?_ | refine ek_seqR ?_)
    refine sfin (.inr rfl) (by rfl) (by rfl) (by exact ⟨rfl, rfl, rfl⟩) (by rfl) (by rfl) (by rfl) (by first | rfl | (simp; done) | (simp [ints, prs]; done))
theorem ev12_bad (p t : Int) (h1 : isFn p t = false) : Ev cx 12 [.agg [.int .i64 p, .int .i64 t]] [] (.tup [.nils, .int .i64 1]) [] := by
  have e1 := ev95 p t
  rw [h1] at e1
  refine has12.eev rfl rfl ?_
  unfold m12
  repeat' (first
    | (refine g_op ?_; first
      | refine ep_mov rfl ?_ | refine sp_loadN rfl rfl rfl rfl rfl ?_
      | refine ep_call0 rfl (by first | exact e1) rfl rfl ?_
      | refine sp_call rfl rfl rfl rfl (by first | exact e1) ⟨rfl, rfl, rfl, rfl⟩ rfl rfl rfl ?_
      | refine ep_not rfl ?_ | refine sp_box rfl rfl rfl rfl rfl ?_)
    | (refine g_ops ?_; first | refine eo_none ?_ | refine eo_nil ?_)
    | (refine g_code ?_; first | refine ec_seq ?_ | refine ec_region ?_ | refine ec_skip ?_ | refine ec_ret ?_ | refine ec_condT rfl ?_ | refine ec_condF rfl ?_ | refine ec_condTH rfl (by assumption) ?_ | refine ec_condFH rfl (by assumption) ?_)
    | refine ek_seqN ?_ | refine ek_seqR ?_)
  refine sfin (.inr rfl) (by rfl) (by rfl) (by exact ⟨rfl, rfl, rfl⟩) (by rfl) (by rfl) (by rfl) (by first | rfl | (simp; done) | (simp [ints, prs]; done))
-- impl.TransversalsOf$1$1
def m101 : MC := (.seq (.region [⟨(.mov (.k (.bool false))), (some 3), none⟩] false) (.seq (.region [⟨(.load none (.t 1)), (some 4), none⟩, ⟨(.mov (.t 0)), (some 5), none⟩, ⟨(.bin .and (.t 4) (.t 5)), (some 6), none⟩, ⟨(.bin .eql (.t 6) (.k (.int .i64 0))), (some 7), none⟩, ⟨(.mov (.t 7)), (some 3), none⟩] false) .ret))
theorem has101 : Has cx 101 8 m101 [(.tmp 3)] :=
  ⟨⟨Try.f101, Try.f101.body.getD .skip, by kernel_rfl, by kernel_rfl, by kernel_rfl, by kernel_rfl, by kernel_rfl, by kernel_rfl⟩⟩
theorem ev101 (r s : Nat) (hr : r < 65536) (hs : s < 65536) : Ev cx 101 [.int .i64 s, .ptr 0 0] [⟨[.int .i64 r], 1, 0, some 0, true⟩] (.bool (r &&& s == 0)) [⟨[.int .i64 r], 1, 0, some 0, true⟩] := by
  have hq := ieq0 (r &&& s)
  refine has101.eev rfl rfl ?_
  unfold m101
  repeat' (first
    | (refine g_op ?_; first
      | refine ep_mov rfl ?_ | refine ep_load1 rfl rfl rfl rfl ?_
      | refine ep_bin rfl rfl (by first | exact b_and (x := r) (y := s) (by omega) (by omega) | exact b_and (by omega) (by omega) | exact b_eql) ?_)
    | (refine g_ops ?_; first | refine eo_none ?_ | refine eo_nil ?_)
    | (refine g_code ?_; first | refine ec_seq ?_ | refine ec_region ?_ | refine ec_ret ?_)
    | refine ek_seqN ?_ | refine ek_seqR ?_)
  refine sfin (.inr rfl) (by rfl) (by rfl) (by exact ⟨rfl, rfl, rfl⟩) (by rfl) (by rfl) (by exact congrArg V.bool hq) (by first | rfl | (simp; done) | (simp [ints, prs]; done))
def trP (L : List Nat) (r : Nat) : Bool := allF (fun j => !(r &&& (L.getD j 0) == 0)) 0 L.length
-- impl.TransversalsOf$1
def m99 : MC := (.seq (.region [⟨(.box (.t 0)), (some 2), none⟩, ⟨(.mov (.k (.bool false))), (some 3), none⟩] false) (.seq (.region [⟨(.load none (.t 1)), (some 4), none⟩, ⟨(.mkfn 101 [(.t 2)]), (some 5), none⟩, ⟨(.call 100 [(.t 4), (.t 5)]), (some 6), none⟩, ⟨(.un .not (.t 6)), (some 7), none⟩, ⟨(.mov (.t 7)), (some 3), none⟩] false) .ret))
theorem has99 : Has cx 99 8 m99 [(.tmp 3)] :=
  ⟨⟨Try.f99, Try.f99.body.getD .skip, by kernel_rfl, by kernel_rfl, by kernel_rfl, by kernel_rfl, by kernel_rfl, by kernel_rfl⟩⟩
theorem lpix_tr (l : List Nat) (m r : Nat) (hm : m ≤ l.length) (hln : l.length ≤ 65536) (hl : ∀ j, j < m → l.getD j 0 < 65536) (hr : r < 65536) (o : Out) (ho : (match firstF (fun i => !(fun j => r &&& (l.getD j 0) == 0) i) 0 (m) with | none => (⟨.exit 0, [], [⟨ints l, 1, 0, some 0, false⟩, ⟨[.int .i64 r], 1, 1, some 0, true⟩]⟩ : Out) | some x => ⟨.ret, [(4, .int .i64 (x : Nat))], [⟨ints l, 1, 0, some 0, false⟩, ⟨[.int .i64 r], 1, 1, some 0, true⟩]⟩) = o) :
    LpS cx 19 2 m188_0 [(0, .sl 0 0 m), (1, .fn 101 [.ptr 1 0]), (7, .int .i64 (m : Nat)), (8, .int .i64 (0 : Nat))] [⟨ints l, 1, 0, some 0, false⟩, ⟨[.int .i64 r], 1, 1, some 0, true⟩] o.x o.e o.h := by
  refine lp_brk (m) (fun i => !(fun j => r &&& (l.getD j 0) == 0) i) (fun _ => ()) (fun i _ => [(0, .sl 0 0 m), (1, .fn 101 [.ptr 1 0]), (7, .int .i64 (m : Nat)), (8, .int .i64 (i : Nat))]) (fun i _ => [⟨ints l, 1, 0, some 0, false⟩, ⟨[.int .i64 r], 1, 1, some 0, true⟩]) (fun _ => ⟨.exit 0, [], [⟨ints l, 1, 0, some 0, false⟩, ⟨[.int .i64 r], 1, 1, some 0, true⟩]⟩) (fun i _ => ⟨.ret, [(4, .int .i64 (i : Nat))], [⟨ints l, 1, 0, some 0, false⟩, ⟨[.int .i64 r], 1, 1, some 0, true⟩]⟩) ?_ ?_ ?_ (m) 0 o (by omega) (fun h => by rw [← ho, firstF_none fun x h1 h2 => h x h1 (by omega)]) (fun x h1 h2 h3 h4 => by rw [← ho, firstF_some h1 (by omega) h3 h4])
  · intro i s hi hs hp
    have hlt : decide ((i : Int) < (m : Nat)) = true := decide_eq_true (by omega)
    have hp' : (!(fun j => r &&& (l.getD j 0) == 0) i) = true := hp
    refine ⟨(), rfl, ?_⟩
    have hgl := ints_get (l := l) (j := i) (by omega)
    have e0 := ev101 r (l.getD i 0) hr (hl i hi)
    have hq : (r &&& (l.getD i 0) == 0) = !((!(fun j => r &&& (l.getD j 0) == 0) i)) := by simp
    rw [hp'] at hq
    rw [hq] at e0
    unfold m188_0
    repeat' (first
      | refine ep_loadS rfl rfl rfl hgl ?_
      | (refine g_op ?_; first
        | refine ep_mov rfl ?_ | refine ep_load1 rfl rfl rfl rfl ?_
        | refine sp_callv rfl rfl rfl rfl rfl rfl (by first | exact e0) ⟨rfl, rfl, rfl, rfl⟩ rfl rfl rfl ?_
        | refine sp_callb rfl rfl rfl rfl rfl rfl (by first | exact e0) ⟨rfl, rfl, rfl, rfl⟩ rfl rfl rfl ?_
        | refine ep_bin rfl rfl (by first | exact b_add (by omega) (by omega) | exact b_lss) ?_ | refine sp_idx rfl rfl rfl (by omega) rfl ?_ | refine ep_loadS rfl rfl rfl (by first | exact ints_get (by omega) | exact zints_get (by omega) | exact fget (by omega) | assumption) ?_)
      | (refine g_ops ?_; first | refine eo_none ?_ | refine eo_nil ?_)
      | (refine g_code ?_; first | refine ec_seq ?_ | refine ec_region ?_ | refine ec_block ?_ | refine ec_skip ?_ | refine ec_exit ?_ | refine ec_ret ?_ | refine ec_condT rfl ?_ | refine ec_condF rfl ?_ | refine ec_condTH rfl (by assumption) ?_ | refine ec_condFH rfl (by assumption) ?_)
      | refine ek_seqN ?_ | refine ek_seqX ?_ | refine ek_seqR ?_ | refine ek_blkN ?_ | refine ek_blkR ?_ | refine ek_blkX ?_ | refine ek_blkY rfl ?_)
    exact rnd_on (by rfl) (scmp2 (by rfl) (by rfl) (by exact ⟨rfl, rfl, rfl⟩) (by rfl) (by first | rfl | (simp; done) | (simp [ints, prs]; done)) (by rfl) (by first | rfl | (simp; done) | (simp [ints, prs]; done)))
  · intro i s hi hs hp
    have hlt : decide ((i : Int) < (m : Nat)) = true := decide_eq_true (by omega)
    have hp' : (!(fun j => r &&& (l.getD j 0) == 0) i) = false := hp
    have hgl := ints_get (l := l) (j := i) (by omega)
    have e0 := ev101 r (l.getD i 0) hr (hl i hi)
    have hq : (r &&& (l.getD i 0) == 0) = !((!(fun j => r &&& (l.getD j 0) == 0) i)) := by simp
    rw [hp'] at hq
    rw [hq] at e0
    unfold m188_0
    repeat' (first
      | refine ep_loadS rfl rfl rfl hgl ?_
      | (refine g_op ?_; first
        | refine ep_mov rfl ?_ | refine ep_load1 rfl rfl rfl rfl ?_
        | refine sp_callv rfl rfl rfl rfl rfl rfl (by first | exact e0) ⟨rfl, rfl, rfl, rfl⟩ rfl rfl rfl ?_
        | refine sp_callb rfl rfl rfl rfl rfl rfl (by first | exact e0) ⟨rfl, rfl, rfl, rfl⟩ rfl rfl rfl ?_
        | refine ep_bin rfl rfl (by first | exact b_add (by omega) (by omega) | exact b_lss) ?_ | refine sp_idx rfl rfl rfl (by omega) rfl ?_ | refine ep_loadS rfl rfl rfl (by first | exact ints_get (by omega) | exact zints_get (by omega) | exact fget (by omega) | assumption) ?_)
      | (refine g_ops ?_; first | refine eo_none ?_ | refine eo_nil ?_)
      | (refine g_code ?_; first | refine ec_seq ?_ | refine ec_region ?_ | refine ec_block ?_ | refine ec_skip ?_ | refine ec_exit ?_ | refine ec_ret ?_ | refine ec_condT rfl ?_ | refine ec_condF rfl ?_ | refine ec_condTH rfl (by assumption) ?_ | refine ec_condFH rfl (by assumption) ?_)
      | refine ek_seqN ?_ | refine ek_seqX ?_ | refine ek_seqR ?_ | refine ek_blkN ?_ | refine ek_blkR ?_ | refine ek_blkX ?_ | refine ek_blkY rfl ?_)
    exact rnd_out (by rfl) (by simp) (scmp2 (by rfl) (by rfl) (by exact ⟨rfl, rfl, rfl⟩) (by rfl) (by first | rfl | (simp; done) | (simp [ints, prs]; done)) (by rfl) (by first | rfl | (simp; done) | (simp [ints, prs]; done)))
  · intro s hs
    have hlt : decide (((m : Nat) : Int) < (m : Nat)) = false := decide_eq_false (by omega)
    unfold m188_0
    repeat' (first
      | refine ep_loadS rfl rfl rfl hgl ?_
      | (refine g_op ?_; first
        | refine ep_mov rfl ?_ | refine ep_load1 rfl rfl rfl rfl ?_
        | refine sp_callv rfl rfl rfl rfl rfl rfl (by first | exact e0) ⟨rfl, rfl, rfl, rfl⟩ rfl rfl rfl ?_
        | refine sp_callb rfl rfl rfl rfl rfl rfl (by first | exact e0) ⟨rfl, rfl, rfl, rfl⟩ rfl rfl rfl ?_
        | refine ep_bin rfl rfl (by first | exact b_add (by omega) (by omega) | exact b_lss) ?_ | refine sp_idx rfl rfl rfl (by omega) rfl ?_ | refine ep_loadS rfl rfl rfl (by first | exact ints_get (by omega) | exact zints_get (by omega) | exact fget (by omega) | assumption) ?_)
      | (refine g_ops ?_; first | refine eo_none ?_ | refine eo_nil ?_)
      | (refine g_code ?_; first | refine ec_seq ?_ | refine ec_region ?_ | refine ec_block ?_ | refine ec_skip ?_ | refine ec_exit ?_ | refine ec_ret ?_ | refine ec_condT rfl ?_ | refine ec_condF rfl ?_ | refine ec_condTH rfl (by assumption) ?_ | refine ec_condFH rfl (by assumption) ?_)
      | refine ek_seqN ?_ | refine ek_seqX ?_ | refine ek_seqR ?_ | refine ek_blkN ?_ | refine ek_blkR ?_ | refine ek_blkX ?_ | refine ek_blkY rfl ?_)
    exact rnd_out (by rfl) (by simp) (scmp2 (by rfl) (by rfl) (by exact ⟨rfl, rfl, rfl⟩) (by rfl) (by first | rfl | (simp; done) | (simp [ints, prs]; done)) (by rfl) (by first | rfl | (simp; done) | (simp [ints, prs]; done)))
theorem evix_tr (l : List Nat) (m r : Nat) (hm : m ≤ l.length) (hln : l.length ≤ 65536) (hl : ∀ j, j < m → l.getD j 0 < 65536) (hr : r < 65536) : Ev cx 188 [.sl 0 0 m, .fn 101 [.ptr 1 0]] [⟨ints l, 1, 0, some 0, false⟩, ⟨[.int .i64 r], 1, 1, some 0, true⟩] (.int .i64 (match firstF (fun i => !(fun j => r &&& (l.getD j 0) == 0) i) 0 (m) with | none => -1 | some x => ((x : Nat) : Int))) [⟨ints l, 1, 0, some 0, false⟩, ⟨[.int .i64 r], 1, 1, some 0, true⟩] := by
  cases hs : firstF (fun i => !(fun j => r &&& (l.getD j 0) == 0) i) 0 (m) with
  | none =>
    have lp := lpix_tr l m r hm hln hl hr _ (by rw [hs])
    refine has188.eev rfl rfl ?_
    unfold m188
    repeat' (first
      | refine sc_loop lp rfl rfl ⟨rfl, rfl, rfl⟩ rfl rfl rfl ?_
      | (refine g_op ?_; first
        | refine ep_mov rfl ?_
        | refine ep_lenS rfl ?_ | refine ep_lenN rfl ?_ | refine ep_lenE rfl ?_)
      | (refine g_ops ?_; first | refine eo_none ?_ | refine eo_nil ?_)
      | (refine g_code ?_; first | refine ec_seq ?_ | refine ec_region ?_ | refine ec_block ?_ | refine ec_ret ?_)
      | refine ek_seqN ?_ | refine ek_seqX ?_ | refine ek_seqR ?_ | refine ek_blkN ?_ | refine ek_blkR ?_ | refine ek_blkX ?_ | refine ek_blkY rfl ?_)
    refine sfin (.inr rfl) (by rfl) (by rfl) (by exact ⟨rfl, rfl, rfl⟩) (by rfl) (by rfl) (by rfl) (by first | rfl | (simp; done) | (simp [ints, prs]; done))
  | some x =>
    have lp := lpix_tr l m r hm hln hl hr _ (by rw [hs])
    refine has188.eev rfl rfl ?_
    unfold m188
    repeat' (first
      | refine sc_loop lp rfl rfl ⟨rfl, rfl, rfl⟩ rfl rfl rfl ?_
      | (refine g_op ?_; first
        | refine ep_mov rfl ?_
        | refine ep_lenS rfl ?_ | refine ep_lenN rfl ?_ | refine ep_lenE rfl ?_)
      | (refine g_ops ?_; first | refine eo_none ?_ | refine eo_nil ?_)
      | (refine g_code ?_; first | refine ec_seq ?_ | refine ec_region ?_ | refine ec_block ?_ | refine ec_ret ?_)
      | refine ek_seqN ?_ | refine ek_seqX ?_ | refine ek_seqR ?_ | refine ek_blkN ?_ | refine ek_blkR ?_ | refine ek_blkX ?_ | refine ek_blkY rfl ?_)
    refine sfin (.inr rfl) (by rfl) (by rfl) (by exact ⟨rfl, rfl, rfl⟩) (by rfl) (by rfl) (by rfl) (by first | rfl | (simp; done) | (simp [ints, prs]; done))
theorem evcf_tr (l : List Nat) (m r : Nat) (hm : m ≤ l.length) (hln : l.length ≤ 65536) (hl : ∀ j, j < m → l.getD j 0 < 65536) (hr : r < 65536) : Ev cx 100 [.sl 0 0 m, .fn 101 [.ptr 1 0]] [⟨ints l, 1, 0, some 0, false⟩, ⟨[.int .i64 r], 1, 1, some 0, true⟩] (.bool (!allF (fun i => !(fun j => r &&& (l.getD j 0) == 0) i) 0 (m))) [⟨ints l, 1, 0, some 0, false⟩, ⟨[.int .i64 r], 1, 1, some 0, true⟩] := by
  have e1 := evix_tr l m r hm hln hl hr
  cases hs : firstF (fun i => !(fun j => r &&& (l.getD j 0) == 0) i) 0 (m) with
  | none =>
    rw [hs] at e1
    refine has100.eev rfl rfl ?_
    unfold m100
    repeat' (first
      | (refine g_op ?_; first
        | refine ep_mov rfl ?_
        | refine ep_call0 rfl (by first | exact e1) rfl rfl ?_
        | refine sp_call rfl rfl rfl rfl (by first | exact e1) ⟨rfl, rfl, rfl, rfl⟩ rfl rfl rfl ?_
        | refine ep_bin rfl rfl (by exact b_geq) ?_)
      | (refine g_ops ?_; first | refine eo_none ?_ | refine eo_nil ?_)
      | (refine g_code ?_; first | refine ec_seq ?_ | refine ec_region ?_ | refine ec_ret ?_)
      | refine ek_seqN ?_ | refine ek_seqR ?_)
    refine sfin (.inr rfl) (by rfl) (by rfl) (by exact ⟨rfl, rfl, rfl⟩) (by rfl) (by rfl) (by rw [firstF_allT hs]; rfl) (by first | rfl | (simp; done) | (simp [ints, prs]; done))
  | some x =>
    rw [hs] at e1
    have hge : decide (((x : Nat) : Int) ≥ 0) = true := decide_eq_true (by omega)
    refine has100.eev rfl rfl ?_
    unfold m100
    repeat' (first
      | (refine g_op ?_; first
        | refine ep_mov rfl ?_
        | refine ep_call0 rfl (by first | exact e1) rfl rfl ?_
        | refine sp_call rfl rfl rfl rfl (by first | exact e1) ⟨rfl, rfl, rfl, rfl⟩ rfl rfl rfl ?_
        | refine ep_bin rfl rfl (by exact b_geq) ?_)
      | (refine g_ops ?_; first | refine eo_none ?_ | refine eo_nil ?_)
      | (refine g_code ?_; first | refine ec_seq ?_ | refine ec_region ?_ | refine ec_ret ?_)
      | refine ek_seqN ?_ | refine ek_seqR ?_)
    refine sfin (.inr rfl) (by rfl) (by rfl) (by exact ⟨rfl, rfl, rfl⟩) (by rfl) (by rfl) (by rw [firstF_allF hs]; first | rfl | exact congrArg V.bool hge) (by first | rfl | (simp; done) | (simp [ints, prs]; done))

theorem ev99 (l : List Nat) (m r : Nat) (hm : m ≤ l.length) (hln : l.length ≤ 65536) (hl : ∀ j, j < m → l.getD j 0 < 65536) (hr : r < 65536) : Ev cx 99 [.int .i64 r, .ptr 0 0] [⟨[.sl 1 0 m], 1, 0, some 0, true⟩, ⟨ints l, 1, 1, some 0, false⟩] (.bool (allF (fun j => !(r &&& (l.getD j 0) == 0)) 0 m)) [⟨[.sl 1 0 m], 1, 0, some 0, true⟩, ⟨ints l, 1, 1, some 0, false⟩] := by
  have e1 := evcf_tr l m r hm hln hl hr
  refine has99.eev rfl rfl ?_
  unfold m99
  repeat' (first
    | (refine g_op ?_; first
      | refine ep_mov rfl ?_ | refine ep_load1 rfl rfl rfl rfl ?_
      | refine ep_call0 rfl (by first | exact e1) rfl rfl ?_
      | refine sp_call rfl rfl rfl rfl (by first | exact e1) ⟨rfl, rfl, rfl, rfl⟩ rfl rfl rfl ?_
      | refine ep_not rfl ?_ | refine sp_box rfl rfl rfl rfl rfl ?_ | refine ep_mkfn rfl ?_)
    | (refine g_ops ?_; first | refine eo_none ?_ | refine eo_nil ?_)
    | (refine g_code ?_; first | refine ec_seq ?_ | refine ec_region ?_ | refine ec_ret ?_)
    | refine ek_seqN ?_ | refine ek_seqR ?_)
  refine sfin (.inr rfl) (by rfl) (by rfl) (by exact ⟨rfl, rfl, rfl⟩) (by rfl) (by rfl) (by simp) (by first | rfl | (simp; done) | (simp [ints, prs]; done))
theorem lpix_trn (r : Nat) (o : Out) (ho : (match firstF (fun i => !(fun _ => false) i) 0 (0) with | none => (⟨.exit 0, [], [⟨[.int .i64 r], 1, 0, some 0, true⟩]⟩ : Out) | some x => ⟨.ret, [(4, .int .i64 (x : Nat))], [⟨[.int .i64 r], 1, 0, some 0, true⟩]⟩) = o) :
    LpS cx 19 1 m188_0 [(0, .nils), (1, .fn 101 [.ptr 0 0]), (7, .int .i64 (0 : Nat)), (8, .int .i64 (0 : Nat))] [⟨[.int .i64 r], 1, 0, some 0, true⟩] o.x o.e o.h := by
  refine lp_brk (0) (fun i => !(fun _ => false) i) (fun _ => ()) (fun i _ => [(0, .nils), (1, .fn 101 [.ptr 0 0]), (7, .int .i64 (0 : Nat)), (8, .int .i64 (i : Nat))]) (fun i _ => [⟨[.int .i64 r], 1, 0, some 0, true⟩]) (fun _ => ⟨.exit 0, [], [⟨[.int .i64 r], 1, 0, some 0, true⟩]⟩) (fun i _ => ⟨.ret, [(4, .int .i64 (i : Nat))], [⟨[.int .i64 r], 1, 0, some 0, true⟩]⟩) ?_ ?_ ?_ (0) 0 o (by omega) (fun h => by rw [← ho, firstF_none fun x h1 h2 => h x h1 (by omega)]) (fun x h1 h2 h3 h4 => by rw [← ho, firstF_some h1 (by omega) h3 h4])
  · intro i s hi hs hp
    exact absurd hi (by simp)
  · intro i s hi hs hp
    exact absurd hi (by simp)
  · intro s hs
    have hlt : decide (((0 : Nat) : Int) < (0 : Nat)) = false := decide_eq_false (by omega)
    unfold m188_0
    repeat' (first
      | (refine g_op ?_; first
        | refine ep_mov rfl ?_ | refine ep_load1 rfl rfl rfl rfl ?_
        | refine sp_callv rfl rfl rfl rfl rfl rfl (by first | exact e0) ⟨rfl, rfl, rfl, rfl⟩ rfl rfl rfl ?_
        | refine sp_callb rfl rfl rfl rfl rfl rfl (by first | exact e0) ⟨rfl, rfl, rfl, rfl⟩ rfl rfl rfl ?_
        | refine ep_bin rfl rfl (by first | exact b_add (by omega) (by omega) | exact b_lss) ?_ | refine sp_idx rfl rfl rfl (by omega) rfl ?_ | refine ep_loadS rfl rfl rfl (by first | exact ints_get (by omega) | exact zints_get (by omega) | exact fget (by omega) | assumption) ?_)
      | (refine g_ops ?_; first | refine eo_none ?_ | refine eo_nil ?_)
      | (refine g_code ?_; first | refine ec_seq ?_ | refine ec_region ?_ | refine ec_block ?_ | refine ec_skip ?_ | refine ec_exit ?_ | refine ec_ret ?_ | refine ec_condT rfl ?_ | refine ec_condF rfl ?_ | refine ec_condTH rfl (by assumption) ?_ | refine ec_condFH rfl (by assumption) ?_)
      | refine ek_seqN ?_ | refine ek_seqX ?_ | refine ek_seqR ?_ | refine ek_blkN ?_ | refine ek_blkR ?_ | refine ek_blkX ?_ | refine ek_blkY rfl ?_)
    exact rnd_out (by rfl) (by simp) (scmp2 (by rfl) (by rfl) (by exact ⟨rfl, rfl, rfl⟩) (by rfl) (by first | rfl | (simp; done) | (simp [ints, prs]; done)) (by rfl) (by first | rfl | (simp; done) | (simp [ints, prs]; done)))
theorem evix_trn (r : Nat) : Ev cx 188 [.nils, .fn 101 [.ptr 0 0]] [⟨[.int .i64 r], 1, 0, some 0, true⟩] (.int .i64 (match firstF (fun i => !(fun _ => false) i) 0 (0) with | none => -1 | some x => ((x : Nat) : Int))) [⟨[.int .i64 r], 1, 0, some 0, true⟩] := by
  cases hs : firstF (fun i => !(fun _ => false) i) 0 (0) with
  | none =>
    have lp := lpix_trn r _ (by rw [hs])
    refine has188.eev rfl rfl ?_
    unfold m188
    repeat' (first
      | refine sc_loop lp rfl rfl ⟨rfl, rfl, rfl⟩ rfl rfl rfl ?_
      | (refine g_op ?_; first
        | refine ep_mov rfl ?_
        | refine ep_lenS rfl ?_ | refine ep_lenN rfl ?_ | refine ep_lenE rfl ?_)
      | (refine g_ops ?_; first | refine eo_none ?_ | refine eo_nil ?_)
      | (refine g_code ?_; first | refine ec_seq ?_ | refine ec_region ?_ | refine ec_block ?_ | refine ec_ret ?_)
      | refine ek_seqN ?_ | refine ek_seqX ?_ | refine ek_seqR ?_ | refine ek_blkN ?_ | refine ek_blkR ?_ | refine ek_blkX ?_ | refine ek_blkY rfl ?_)
    refine sfin (.inr rfl) (by rfl) (by rfl) (by exact ⟨rfl, rfl, rfl⟩) (by rfl) (by rfl) (by rfl) (by first | rfl | (simp; done) | (simp [ints, prs]; done))
  | some x =>
    have lp := lpix_trn r _ (by rw [hs])
    refine has188.eev rfl rfl ?_
    unfold m188
    repeat' (first
      | refine sc_loop lp rfl rfl ⟨rfl, rfl, rfl⟩ rfl rfl rfl ?_
      | (refine g_op ?_; first
        | refine ep_mov rfl ?_
        | refine ep_lenS rfl ?_ | refine ep_lenN rfl ?_ | refine ep_lenE rfl ?_)
      | (refine g_ops ?_; first | refine eo_none ?_ | refine eo_nil ?_)
      | (refine g_code ?_; first | refine ec_seq ?_ | refine ec_region ?_ | refine ec_block ?_ | refine ec_ret ?_)
      | refine ek_seqN ?_ | refine ek_seqX ?_ | refine ek_seqR ?_ | refine ek_blkN ?_ | refine ek_blkR ?_ | refine ek_blkX ?_ | refine ek_blkY rfl ?_)
    refine sfin (.inr rfl) (by rfl) (by rfl) (by exact ⟨rfl, rfl, rfl⟩) (by rfl) (by rfl) (by rfl) (by first | rfl | (simp; done) | (simp [ints, prs]; done))
theorem evcf_trn (r : Nat) : Ev cx 100 [.nils, .fn 101 [.ptr 0 0]] [⟨[.int .i64 r], 1, 0, some 0, true⟩] (.bool (!allF (fun i => !(fun _ => false) i) 0 (0))) [⟨[.int .i64 r], 1, 0, some 0, true⟩] := by
  have e1 := evix_trn r
  cases hs : firstF (fun i => !(fun _ => false) i) 0 (0) with
  | none =>
    rw [hs] at e1
    refine has100.eev rfl rfl ?_
    unfold m100
    repeat' (first
      | (refine g_op ?_; first
        | refine ep_mov rfl ?_
        | refine ep_call0 rfl (by first | exact e1) rfl rfl ?_
        | refine sp_call rfl rfl rfl rfl (by first | exact e1) ⟨rfl, rfl, rfl, rfl⟩ rfl rfl rfl ?_
        | refine ep_bin rfl rfl (by exact b_geq) ?_)
      | (refine g_ops ?_; first | refine eo_none ?_ | refine eo_nil ?_)
      | (refine g_code ?_; first | refine ec_seq ?_ | refine ec_region ?_ | refine ec_ret ?_)
      | refine ek_seqN ?_ | refine ek_seqR ?_)
    refine sfin (.inr rfl) (by rfl) (by rfl) (by exact ⟨rfl, rfl, rfl⟩) (by rfl) (by rfl) (by rw [firstF_allT hs]; rfl) (by first | rfl | (simp; done) | (simp [ints, prs]; done))
  | some x =>
    rw [hs] at e1
    have hge : decide (((x : Nat) : Int) ≥ 0) = true := decide_eq_true (by omega)
    refine has100.eev rfl rfl ?_
    unfold m100
    repeat' (first
      | (refine g_op ?_; first
        | refine ep_mov rfl ?_
        | refine ep_call0 rfl (by first | exact e1) rfl rfl ?_
        | refine sp_call rfl rfl rfl rfl (by first | exact e1) ⟨rfl, rfl, rfl, rfl⟩ rfl rfl rfl ?_
        | refine ep_bin rfl rfl (by exact b_geq) ?_)
      | (refine g_ops ?_; first | refine eo_none ?_ | refine eo_nil ?_)
      | (refine g_code ?_; first | refine ec_seq ?_ | refine ec_region ?_ | refine ec_ret ?_)
      | refine ek_seqN ?_ | refine ek_seqR ?_)
    refine sfin (.inr rfl) (by rfl) (by rfl) (by exact ⟨rfl, rfl, rfl⟩) (by rfl) (by rfl) (by rw [firstF_allF hs]; first | rfl | exact congrArg V.bool hge) (by first | rfl | (simp; done) | (simp [ints, prs]; done))

theorem ev99_nils (r : Nat) : Ev cx 99 [.int .i64 r, .ptr 0 0] [⟨[.nils], 1, 0, some 0, true⟩] (.bool true) [⟨[.nils], 1, 0, some 0, true⟩] := by
  have e1 := evcf_trn r
  rw [show allF (fun i => !(fun _ => false) i) 0 0 = true from rfl] at e1
  refine has99.eev rfl rfl ?_
  unfold m99
  repeat' (first
    | (refine g_op ?_; first
      | refine ep_mov rfl ?_ | refine ep_load1 rfl rfl rfl rfl ?_
      | refine ep_call0 rfl (by first | exact e1) rfl rfl ?_
      | refine sp_call rfl rfl rfl rfl (by first | exact e1) ⟨rfl, rfl, rfl, rfl⟩ rfl rfl rfl ?_
      | refine ep_not rfl ?_ | refine sp_box rfl rfl rfl rfl rfl ?_ | refine ep_mkfn rfl ?_)
    | (refine g_ops ?_; first | refine eo_none ?_ | refine eo_nil ?_)
    | (refine g_code ?_; first | refine ec_seq ?_ | refine ec_region ?_ | refine ec_ret ?_)
    | refine ek_seqN ?_ | refine ek_seqR ?_)
  refine sfin (.inr rfl) (by rfl) (by rfl) (by exact ⟨rfl, rfl, rfl⟩) (by rfl) (by rfl) (by rfl) (by first | rfl | (simp; done) | (simp [ints, prs]; done))
theorem lp98_0_tr (fb fp n b : Nat) (pkp : Nat → Bool) (hn : n ≤ 4) (l : List Nat) (m : Nat) (hpk : ∀ r : Nat, r < 16 → Ev cx fp [.int .i64 r, .ptr 0 0] [⟨[.sl 1 0 m], 1, 0, some 0, true⟩, ⟨ints l, 1, 1, some 0, false⟩] (.bool (pkp r)) [⟨[.sl 1 0 m], 1, 0, some 0, true⟩, ⟨ints l, 1, 1, some 0, false⟩]) (o : Out) (ho : (match selm (pkp) (idn) (R2 n) with | [] => (⟨.exit 0, [(5, .ptr 2 0), (7, .ptr 3 0)], [⟨[.sl 1 0 m], 1, 0, some 0, true⟩, ⟨ints l, 1, 1, some 0, false⟩, ⟨[.fn fb []], 1, 2, some 0, true⟩, ⟨[.nils], 1, 3, some 0, true⟩]⟩ : Out) | x :: xs => ⟨.exit 0, [(5, .ptr 2 0), (7, .ptr 3 0)], [⟨[.sl 1 0 m], 1, 0, some 0, true⟩, ⟨ints l, 1, 1, some 0, false⟩, ⟨[.fn fb []], 1, 2, some 0, true⟩, ⟨[.sl 4 0 (x :: xs).length], 1, 3, some 0, true⟩, ⟨ints (x :: xs), 1, 4, some 0, false⟩]⟩) = o) :
    LpS cx 26 2 m98_0 [(1, .fn fp [.ptr 0 0]), (5, .ptr 2 0), (7, .ptr 3 0), (10, .int .i64 (R2 n : Nat)), (11, .int .i64 (0 : Nat))] [⟨[.sl 1 0 m], 1, 0, some 0, true⟩, ⟨ints l, 1, 1, some 0, false⟩, ⟨[.fn fb []], 1, 2, some 0, true⟩, ⟨[.nils], 1, 3, some 0, true⟩] o.x o.e o.h := by
  obtain ⟨h1, h2, h3, h4⟩ := shN hn
  subst ho
  refine lp_st (R2 n) (selm (pkp) (idn)) (fun i s => match s with | [] => [(1, .fn fp [.ptr 0 0]), (5, .ptr 2 0), (7, .ptr 3 0), (10, .int .i64 (R2 n : Nat)), (11, .int .i64 (i : Nat))] | x :: xs => [(1, .fn fp [.ptr 0 0]), (5, .ptr 2 0), (7, .ptr 3 0), (10, .int .i64 (R2 n : Nat)), (11, .int .i64 (i : Nat))]) (fun i s => match s with | [] => [⟨[.sl 1 0 m], 1, 0, some 0, true⟩, ⟨ints l, 1, 1, some 0, false⟩, ⟨[.fn fb []], 1, 2, some 0, true⟩, ⟨[.nils], 1, 3, some 0, true⟩] | x :: xs => [⟨[.sl 1 0 m], 1, 0, some 0, true⟩, ⟨ints l, 1, 1, some 0, false⟩, ⟨[.fn fb []], 1, 2, some 0, true⟩, ⟨[.sl 4 0 (x :: xs).length], 1, 3, some 0, true⟩, ⟨ints (x :: xs), 1, 4, some 0, false⟩]) (fun s => match s with | [] => ⟨.exit 0, [(5, .ptr 2 0), (7, .ptr 3 0)], [⟨[.sl 1 0 m], 1, 0, some 0, true⟩, ⟨ints l, 1, 1, some 0, false⟩, ⟨[.fn fb []], 1, 2, some 0, true⟩, ⟨[.nils], 1, 3, some 0, true⟩]⟩ | x :: xs => ⟨.exit 0, [(5, .ptr 2 0), (7, .ptr 3 0)], [⟨[.sl 1 0 m], 1, 0, some 0, true⟩, ⟨ints l, 1, 1, some 0, false⟩, ⟨[.fn fb []], 1, 2, some 0, true⟩, ⟨[.sl 4 0 (x :: xs).length], 1, 3, some 0, true⟩, ⟨ints (x :: xs), 1, 4, some 0, false⟩]⟩) ?_ ?_ (R2 n) 0 (by omega)
  · intro i s hi hs
    have hlt : decide ((i : Int) < (R2 n : Nat)) = true := decide_eq_true (by omega)
    have hle : decide ((i : Int) ≤ (R2 n : Nat) - 1) = true := decide_eq_true (by omega)
    have hlen : s.length ≤ 16 := by have := selm_len (pkp) (idn) i; rw [hs] at this; omega
    have e1 := hpk i (by omega)
    cases hp : (pkp) i with
    | true =>
      have hp' : ((pkp) i) = true := hp
      rw [hp'] at e1
      cases s with
      | nil =>
        refine ⟨[(idn) i], by rw [selm_t (p := pkp) hp, hs]; try rfl, ?_⟩
        unfold m98_0
        repeat' (first
          | (refine g_op ?_; first
            | refine ep_mov rfl ?_ | refine ep_load1 rfl rfl rfl rfl ?_
            | refine sp_callv rfl rfl rfl rfl rfl rfl (by first | exact e1) ⟨rfl, rfl, rfl, rfl⟩ rfl rfl rfl ?_
            | refine sp_callb rfl rfl rfl rfl rfl rfl (by first | exact e1) ⟨rfl, rfl, rfl, rfl⟩ rfl rfl rfl ?_
            | refine ep_bin rfl rfl (by first | exact b_add (by omega) (by omega) | exact b_lss) ?_ | refine sp_store rfl rfl rfl rfl rfl rfl rfl rfl rfl rfl ?_ | refine sp_bslice rfl rfl rfl rfl rfl ?_ | refine sp_push0 rfl (by first | exact .inl rfl | exact .inr rfl) rfl rfl rfl rfl rfl (by decide) rfl rfl rfl ?_
            | refine sp_push rfl rfl rfl rfl rfl rfl rfl (by first | exact ints_len _ | exact prs_len _ _ | exact zints_len _) (by omega) (Nat.zero_le _) rfl rfl rfl rfl rfl ?_)
          | (refine g_ops ?_; first | refine eo_none ?_ | refine eo_nil ?_)
          | (refine g_code ?_; first | refine ec_seq ?_ | refine ec_region ?_ | refine ec_block ?_ | refine ec_skip ?_ | refine ec_exit ?_ | refine ec_condT rfl ?_ | refine ec_condF rfl ?_ | refine ec_condTH rfl (by assumption) ?_ | refine ec_condFH rfl (by assumption) ?_)
          | refine ek_seqN ?_ | refine ek_seqX ?_ | refine ek_blkN ?_ | refine ek_blkR ?_ | refine ek_blkX ?_ | refine ek_blkY rfl ?_)
        exact rnd_on (by rfl) (scmp2 (by rfl) (by rfl) (by exact ⟨rfl, rfl, rfl⟩) (by rfl) (by first | rfl | (simp; done) | (simp [ints, prs]; done)) (by rfl) (by first | rfl | (simp; done) | (simp [ints, prs]; done)))
      | cons x xs =>
        refine ⟨(x :: xs) ++ [(idn) i], by rw [selm_t (p := pkp) hp, hs]; try rfl, ?_⟩
        unfold m98_0
        repeat' (first
          | (refine g_op ?_; first
            | refine ep_mov rfl ?_ | refine ep_load1 rfl rfl rfl rfl ?_
            | refine sp_callv rfl rfl rfl rfl rfl rfl (by first | exact e1) ⟨rfl, rfl, rfl, rfl⟩ rfl rfl rfl ?_
            | refine sp_callb rfl rfl rfl rfl rfl rfl (by first | exact e1) ⟨rfl, rfl, rfl, rfl⟩ rfl rfl rfl ?_
            | refine ep_bin rfl rfl (by first | exact b_add (by omega) (by omega) | exact b_lss) ?_ | refine sp_store rfl rfl rfl rfl rfl rfl rfl rfl rfl rfl ?_ | refine sp_bslice rfl rfl rfl rfl rfl ?_ | refine sp_push0 rfl (by first | exact .inl rfl | exact .inr rfl) rfl rfl rfl rfl rfl (by decide) rfl rfl rfl ?_
            | refine sp_push rfl rfl rfl rfl rfl rfl rfl (by first | exact ints_len _ | exact prs_len _ _ | exact zints_len _) (by omega) (Nat.zero_le _) rfl rfl rfl rfl rfl ?_)
          | (refine g_ops ?_; first | refine eo_none ?_ | refine eo_nil ?_)
          | (refine g_code ?_; first | refine ec_seq ?_ | refine ec_region ?_ | refine ec_block ?_ | refine ec_skip ?_ | refine ec_exit ?_ | refine ec_condT rfl ?_ | refine ec_condF rfl ?_ | refine ec_condTH rfl (by assumption) ?_ | refine ec_condFH rfl (by assumption) ?_)
          | refine ek_seqN ?_ | refine ek_seqX ?_ | refine ek_blkN ?_ | refine ek_blkR ?_ | refine ek_blkX ?_ | refine ek_blkY rfl ?_)
        exact rnd_on (by rfl) (scmp2 (by rfl) (by rfl) (by exact ⟨rfl, rfl, rfl⟩) (by rfl) (by first | rfl | (simp; done) | (simp [ints, prs]; done)) (by rfl) (by first | rfl | (simp; done) | (simp [ints, prs]; done)))
    | false =>
      have hp' : ((pkp) i) = false := hp
      rw [hp'] at e1
      cases s with
      | nil =>
        refine ⟨[], by rw [selm_f (p := pkp) hp, hs]; try rfl, ?_⟩
        unfold m98_0
        repeat' (first
          | (refine g_op ?_; first
            | refine ep_mov rfl ?_ | refine ep_load1 rfl rfl rfl rfl ?_
            | refine sp_callv rfl rfl rfl rfl rfl rfl (by first | exact e1) ⟨rfl, rfl, rfl, rfl⟩ rfl rfl rfl ?_
            | refine sp_callb rfl rfl rfl rfl rfl rfl (by first | exact e1) ⟨rfl, rfl, rfl, rfl⟩ rfl rfl rfl ?_
            | refine ep_bin rfl rfl (by first | exact b_add (by omega) (by omega) | exact b_lss) ?_ | refine sp_store rfl rfl rfl rfl rfl rfl rfl rfl rfl rfl ?_ | refine sp_bslice rfl rfl rfl rfl rfl ?_ | refine sp_push0 rfl (by first | exact .inl rfl | exact .inr rfl) rfl rfl rfl rfl rfl (by decide) rfl rfl rfl ?_
            | refine sp_push rfl rfl rfl rfl rfl rfl rfl (by first | exact ints_len _ | exact prs_len _ _ | exact zints_len _) (by omega) (Nat.zero_le _) rfl rfl rfl rfl rfl ?_)
          | (refine g_ops ?_; first | refine eo_none ?_ | refine eo_nil ?_)
          | (refine g_code ?_; first | refine ec_seq ?_ | refine ec_region ?_ | refine ec_block ?_ | refine ec_skip ?_ | refine ec_exit ?_ | refine ec_condT rfl ?_ | refine ec_condF rfl ?_ | refine ec_condTH rfl (by assumption) ?_ | refine ec_condFH rfl (by assumption) ?_)
          | refine ek_seqN ?_ | refine ek_seqX ?_ | refine ek_blkN ?_ | refine ek_blkR ?_ | refine ek_blkX ?_ | refine ek_blkY rfl ?_)
        exact rnd_on (by rfl) (scmp2 (by rfl) (by rfl) (by exact ⟨rfl, rfl, rfl⟩) (by rfl) (by first | rfl | (simp; done) | (simp [ints, prs]; done)) (by rfl) (by first | rfl | (simp; done) | (simp [ints, prs]; done)))
      | cons x xs =>
        refine ⟨x :: xs, by rw [selm_f (p := pkp) hp, hs]; try rfl, ?_⟩
        unfold m98_0
        repeat' (first
          | (refine g_op ?_; first
            | refine ep_mov rfl ?_ | refine ep_load1 rfl rfl rfl rfl ?_
            | refine sp_callv rfl rfl rfl rfl rfl rfl (by first | exact e1) ⟨rfl, rfl, rfl, rfl⟩ rfl rfl rfl ?_
            | refine sp_callb rfl rfl rfl rfl rfl rfl (by first | exact e1) ⟨rfl, rfl, rfl, rfl⟩ rfl rfl rfl ?_
            | refine ep_bin rfl rfl (by first | exact b_add (by omega) (by omega) | exact b_lss) ?_ | refine sp_store rfl rfl rfl rfl rfl rfl rfl rfl rfl rfl ?_ | refine sp_bslice rfl rfl rfl rfl rfl ?_ | refine sp_push0 rfl (by first | exact .inl rfl | exact .inr rfl) rfl rfl rfl rfl rfl (by decide) rfl rfl rfl ?_
            | refine sp_push rfl rfl rfl rfl rfl rfl rfl (by first | exact ints_len _ | exact prs_len _ _ | exact zints_len _) (by omega) (Nat.zero_le _) rfl rfl rfl rfl rfl ?_)
          | (refine g_ops ?_; first | refine eo_none ?_ | refine eo_nil ?_)
          | (refine g_code ?_; first | refine ec_seq ?_ | refine ec_region ?_ | refine ec_block ?_ | refine ec_skip ?_ | refine ec_exit ?_ | refine ec_condT rfl ?_ | refine ec_condF rfl ?_ | refine ec_condTH rfl (by assumption) ?_ | refine ec_condFH rfl (by assumption) ?_)
          | refine ek_seqN ?_ | refine ek_seqX ?_ | refine ek_blkN ?_ | refine ek_blkR ?_ | refine ek_blkX ?_ | refine ek_blkY rfl ?_)
        exact rnd_on (by rfl) (scmp2 (by rfl) (by rfl) (by exact ⟨rfl, rfl, rfl⟩) (by rfl) (by first | rfl | (simp; done) | (simp [ints, prs]; done)) (by rfl) (by first | rfl | (simp; done) | (simp [ints, prs]; done)))
  · intro s hs
    have hlt : decide (((R2 n : Nat) : Int) < (R2 n : Nat)) = false := decide_eq_false (by omega)
    have hle : decide (((R2 n : Nat) : Int) ≤ (R2 n : Nat) - 1) = false := decide_eq_false (by omega)
    cases s with
    | nil =>
      unfold m98_0
      repeat' (first
        | (refine g_op ?_; first
          | refine ep_mov rfl ?_ | refine ep_load1 rfl rfl rfl rfl ?_
          | refine ep_bin rfl rfl (by first | exact b_add (by omega) (by omega) | exact b_lss) ?_ | refine sp_store rfl rfl rfl rfl rfl rfl rfl rfl rfl rfl ?_ | refine sp_bslice rfl rfl rfl rfl rfl ?_ | refine sp_push0 rfl (by first | exact .inl rfl | exact .inr rfl) rfl rfl rfl rfl rfl (by decide) rfl rfl rfl ?_
          | refine sp_push rfl rfl rfl rfl rfl rfl rfl (by first | exact ints_len _ | exact prs_len _ _ | exact zints_len _) (by omega) (Nat.zero_le _) rfl rfl rfl rfl rfl ?_)
        | (refine g_ops ?_; first | refine eo_none ?_ | refine eo_nil ?_)
        | (refine g_code ?_; first | refine ec_seq ?_ | refine ec_region ?_ | refine ec_block ?_ | refine ec_skip ?_ | refine ec_exit ?_ | refine ec_condT rfl ?_ | refine ec_condF rfl ?_ | refine ec_condTH rfl (by assumption) ?_ | refine ec_condFH rfl (by assumption) ?_)
        | refine ek_seqN ?_ | refine ek_seqX ?_ | refine ek_blkN ?_ | refine ek_blkR ?_ | refine ek_blkX ?_ | refine ek_blkY rfl ?_)
      exact rnd_out (by rfl) (by simp) (scmp2 (by rfl) (by rfl) (by exact ⟨rfl, rfl, rfl⟩) (by rfl) (by first | rfl | (simp; done) | (simp [ints, prs]; done)) (by rfl) (by first | rfl | (simp; done) | (simp [ints, prs]; done)))
    | cons x xs =>
      unfold m98_0
      repeat' (first
        | (refine g_op ?_; first
          | refine ep_mov rfl ?_ | refine ep_load1 rfl rfl rfl rfl ?_
          | refine ep_bin rfl rfl (by first | exact b_add (by omega) (by omega) | exact b_lss) ?_ | refine sp_store rfl rfl rfl rfl rfl rfl rfl rfl rfl rfl ?_ | refine sp_bslice rfl rfl rfl rfl rfl ?_ | refine sp_push0 rfl (by first | exact .inl rfl | exact .inr rfl) rfl rfl rfl rfl rfl (by decide) rfl rfl rfl ?_
          | refine sp_push rfl rfl rfl rfl rfl rfl rfl (by first | exact ints_len _ | exact prs_len _ _ | exact zints_len _) (by omega) (Nat.zero_le _) rfl rfl rfl rfl rfl ?_)
        | (refine g_ops ?_; first | refine eo_none ?_ | refine eo_nil ?_)
        | (refine g_code ?_; first | refine ec_seq ?_ | refine ec_region ?_ | refine ec_block ?_ | refine ec_skip ?_ | refine ec_exit ?_ | refine ec_condT rfl ?_ | refine ec_condF rfl ?_ | refine ec_condTH rfl (by assumption) ?_ | refine ec_condFH rfl (by assumption) ?_)
        | refine ek_seqN ?_ | refine ek_seqX ?_ | refine ek_blkN ?_ | refine ek_blkR ?_ | refine ek_blkX ?_ | refine ek_blkY rfl ?_)
      exact rnd_out (by rfl) (by simp) (scmp2 (by rfl) (by rfl) (by exact ⟨rfl, rfl, rfl⟩) (by rfl) (by first | rfl | (simp; done) | (simp [ints, prs]; done)) (by rfl) (by first | rfl | (simp; done) | (simp [ints, prs]; done)))
theorem ends_nil_tr (fb fp n b : Nat) (pkp : Nat → Bool) (hn : n ≤ 4) (l : List Nat) (m : Nat) (hpk : ∀ r : Nat, r < 16 → Ev cx fp [.int .i64 r, .ptr 0 0] [⟨[.sl 1 0 m], 1, 0, some 0, true⟩, ⟨ints l, 1, 1, some 0, false⟩] (.bool (pkp r)) [⟨[.sl 1 0 m], 1, 0, some 0, true⟩, ⟨ints l, 1, 1, some 0, false⟩]) (hs : selm pkp idn (R2 n) = []) : Ev cx 98 [.agg [.int .i64 n, .int .i64 b], .fn fp [.ptr 0 0], .fn fb []] [⟨[.sl 1 0 m], 1, 0, some 0, true⟩, ⟨ints l, 1, 1, some 0, false⟩] .nils [⟨[.sl 1 0 m], 1, 0, some 0, true⟩, ⟨ints l, 1, 1, some 0, false⟩] := by
  have lp := lp98_0_tr fb fp n b pkp hn l m hpk _ (by rw [hs])
  refine has98.eev rfl rfl ?_
  unfold m98
  repeat' (first
    | refine sc_loop lp rfl rfl ⟨rfl, rfl, rfl⟩ rfl rfl rfl ?_
    | (refine g_op ?_; first
      | refine ep_mov rfl ?_ | refine ep_load1 rfl rfl rfl rfl ?_ | refine sp_loadN rfl rfl rfl rfl rfl ?_
      | refine ep_call0 rfl (by first | exact ev182 _ _ hn | exact evcl_nils | exact evdf_nils fb) rfl rfl ?_
      | refine sp_call rfl rfl rfl rfl (by first | exact ev182 _ _ hn | exact evcl_nils | exact evdf_nils fb) ⟨rfl, rfl, rfl, rfl⟩ rfl rfl rfl ?_
      | refine sp_box rfl rfl rfl rfl rfl ?_ | refine sp_alloc rfl rfl ?_ | refine ep_mkfn rfl ?_)
    | (refine g_ops ?_; first | refine eo_none ?_ | refine eo_nil ?_)
    | (refine g_code ?_; first | refine ec_seq ?_ | refine ec_region ?_ | refine ec_block ?_ | refine ec_ret ?_)
    | refine ek_seqN ?_ | refine ek_seqX ?_ | refine ek_seqR ?_ | refine ek_blkN ?_ | refine ek_blkR ?_ | refine ek_blkX ?_ | refine ek_blkY rfl ?_)
  refine sfin (.inr rfl) (by rfl) (by rfl) (by exact ⟨rfl, rfl, rfl⟩) (by rfl) (by rfl) (by rfl) (by first | rfl | (simp; done) | (simp [ints, prs]; done))
theorem ends_cons_tr (fb fp n b : Nat) (pkp : Nat → Bool) (hn : n ≤ 4) (l : List Nat) (m : Nat) (hpk : ∀ r : Nat, r < 16 → Ev cx fp [.int .i64 r, .ptr 0 0] [⟨[.sl 1 0 m], 1, 0, some 0, true⟩, ⟨ints l, 1, 1, some 0, false⟩] (.bool (pkp r)) [⟨[.sl 1 0 m], 1, 0, some 0, true⟩, ⟨ints l, 1, 1, some 0, false⟩]) (bel : Nat → Nat → Bool) (hbel : ∀ r s : Nat, r < 65536 → s < 65536 → Ev cx fb [.int .i64 r, .int .i64 s] [] (.bool (bel r s)) []) (x : Nat) (xs : List Nat) (hs : selm pkp idn (R2 n) = x :: xs) :
    Ev cx 98 [.agg [.int .i64 n, .int .i64 b], .fn fp [.ptr 0 0], .fn fb []] [⟨[.sl 1 0 m], 1, 0, some 0, true⟩, ⟨ints l, 1, 1, some 0, false⟩] (.sl 2 0 (endL (x :: xs) bel).length) [⟨[.sl 1 0 m], 1, 0, some 0, true⟩, ⟨ints l, 1, 1, some 0, false⟩, ⟨ints (endL (x :: xs) bel ++ List.replicate ((x :: xs).length - (endL (x :: xs) bel).length) 0), 1, 2, some 0, false⟩] := by
  obtain ⟨h1, h2, h3, h4⟩ := shN hn
  have hle := selm_len pkp idn (R2 n)
  have hlt : ∀ j, j < (x :: xs).length → (x :: xs).getD j 0 < 65536 := fun j hj => by
    have := (selm_lt (p := pkp) (n := R2 n) (j := j) (by rw [hs]; exact hj)).1
    rw [hs] at this; omega
  rw [hs] at hle
  have lp := lp98_0_tr fb fp n b pkp hn l m hpk _ (by rw [hs])
  have e2 := ev185 (x :: xs) (x :: xs).length rfl (by simp) (by omega)
  have e3 := evdf_ends fb bel hbel (x :: xs) (by omega) hlt (x :: xs) (by omega) hlt
  refine has98.eev rfl rfl ?_
  unfold m98
  repeat' (first
    | refine sc_loop lp rfl rfl ⟨rfl, rfl, rfl⟩ rfl rfl rfl ?_
    | (refine g_op ?_; first
      | refine ep_mov rfl ?_ | refine ep_load1 rfl rfl rfl rfl ?_ | refine sp_loadN rfl rfl rfl rfl rfl ?_
      | refine ep_call0 rfl (by first | exact ev182 _ _ hn | exact e2 | exact e3) rfl rfl ?_
      | refine sp_call rfl rfl rfl rfl (by first | exact ev182 _ _ hn | exact e2 | exact e3) ⟨rfl, rfl, rfl, rfl⟩ rfl rfl rfl ?_
      | refine sp_box rfl rfl rfl rfl rfl ?_ | refine sp_alloc rfl rfl ?_ | refine ep_mkfn rfl ?_)
    | (refine g_ops ?_; first | refine eo_none ?_ | refine eo_nil ?_)
    | (refine g_code ?_; first | refine ec_seq ?_ | refine ec_region ?_ | refine ec_block ?_ | refine ec_ret ?_)
    | refine ek_seqN ?_ | refine ek_seqX ?_ | refine ek_seqR ?_ | refine ek_blkN ?_ | refine ek_blkR ?_ | refine ek_blkX ?_ | refine ek_blkY rfl ?_)
  refine sfin (.inr rfl) (by rfl) (by rfl) (by exact ⟨rfl, rfl, rfl⟩) (by rfl) (by rfl) (by rfl) (by first | rfl | (simp; done) | (simp [ints, prs]; done))

theorem lp98_0_trn (fb fp n b : Nat) (pkp : Nat → Bool) (hn : n ≤ 4) (hpk : ∀ r : Nat, r < 16 → Ev cx fp [.int .i64 r, .ptr 0 0] [⟨[.nils], 1, 0, some 0, true⟩] (.bool (pkp r)) [⟨[.nils], 1, 0, some 0, true⟩]) (o : Out) (ho : (match selm (pkp) (idn) (R2 n) with | [] => (⟨.exit 0, [(5, .ptr 1 0), (7, .ptr 2 0)], [⟨[.nils], 1, 0, some 0, true⟩, ⟨[.fn fb []], 1, 1, some 0, true⟩, ⟨[.nils], 1, 2, some 0, true⟩]⟩ : Out) | x :: xs => ⟨.exit 0, [(5, .ptr 1 0), (7, .ptr 2 0)], [⟨[.nils], 1, 0, some 0, true⟩, ⟨[.fn fb []], 1, 1, some 0, true⟩, ⟨[.sl 3 0 (x :: xs).length], 1, 2, some 0, true⟩, ⟨ints (x :: xs), 1, 3, some 0, false⟩]⟩) = o) :
    LpS cx 26 1 m98_0 [(1, .fn fp [.ptr 0 0]), (5, .ptr 1 0), (7, .ptr 2 0), (10, .int .i64 (R2 n : Nat)), (11, .int .i64 (0 : Nat))] [⟨[.nils], 1, 0, some 0, true⟩, ⟨[.fn fb []], 1, 1, some 0, true⟩, ⟨[.nils], 1, 2, some 0, true⟩] o.x o.e o.h := by
  obtain ⟨h1, h2, h3, h4⟩ := shN hn
  subst ho
  refine lp_st (R2 n) (selm (pkp) (idn)) (fun i s => match s with | [] => [(1, .fn fp [.ptr 0 0]), (5, .ptr 1 0), (7, .ptr 2 0), (10, .int .i64 (R2 n : Nat)), (11, .int .i64 (i : Nat))] | x :: xs => [(1, .fn fp [.ptr 0 0]), (5, .ptr 1 0), (7, .ptr 2 0), (10, .int .i64 (R2 n : Nat)), (11, .int .i64 (i : Nat))]) (fun i s => match s with | [] => [⟨[.nils], 1, 0, some 0, true⟩, ⟨[.fn fb []], 1, 1, some 0, true⟩, ⟨[.nils], 1, 2, some 0, true⟩] | x :: xs => [⟨[.nils], 1, 0, some 0, true⟩, ⟨[.fn fb []], 1, 1, some 0, true⟩, ⟨[.sl 3 0 (x :: xs).length], 1, 2, some 0, true⟩, ⟨ints (x :: xs), 1, 3, some 0, false⟩]) (fun s => match s with | [] => ⟨.exit 0, [(5, .ptr 1 0), (7, .ptr 2 0)], [⟨[.nils], 1, 0, some 0, true⟩, ⟨[.fn fb []], 1, 1, some 0, true⟩, ⟨[.nils], 1, 2, some 0, true⟩]⟩ | x :: xs => ⟨.exit 0, [(5, .ptr 1 0), (7, .ptr 2 0)], [⟨[.nils], 1, 0, some 0, true⟩, ⟨[.fn fb []], 1, 1, some 0, true⟩, ⟨[.sl 3 0 (x :: xs).length], 1, 2, some 0, true⟩, ⟨ints (x :: xs), 1, 3, some 0, false⟩]⟩) ?_ ?_ (R2 n) 0 (by omega)
  · intro i s hi hs
    have hlt : decide ((i : Int) < (R2 n : Nat)) = true := decide_eq_true (by omega)
    have hle : decide ((i : Int) ≤ (R2 n : Nat) - 1) = true := decide_eq_true (by omega)
    have hlen : s.length ≤ 16 := by have := selm_len (pkp) (idn) i; rw [hs] at this; omega
    have e1 := hpk i (by omega)
    cases hp : (pkp) i with
    | true =>
      have hp' : ((pkp) i) = true := hp
      rw [hp'] at e1
      cases s with
      | nil =>
        refine ⟨[(idn) i], by rw [selm_t (p := pkp) hp, hs]; try rfl, ?_⟩
        unfold m98_0
        repeat' (first
          | (refine g_op ?_; first
            | refine ep_mov rfl ?_ | refine ep_load1 rfl rfl rfl rfl ?_
            | refine sp_callv rfl rfl rfl rfl rfl rfl (by first | exact e1) ⟨rfl, rfl, rfl, rfl⟩ rfl rfl rfl ?_
            | refine sp_callb rfl rfl rfl rfl rfl rfl (by first | exact e1) ⟨rfl, rfl, rfl, rfl⟩ rfl rfl rfl ?_
            | refine ep_bin rfl rfl (by first | exact b_add (by omega) (by omega) | exact b_lss) ?_ | refine sp_store rfl rfl rfl rfl rfl rfl rfl rfl rfl rfl ?_ | refine sp_bslice rfl rfl rfl rfl rfl ?_ | refine sp_push0 rfl (by first | exact .inl rfl | exact .inr rfl) rfl rfl rfl rfl rfl (by decide) rfl rfl rfl ?_
            | refine sp_push rfl rfl rfl rfl rfl rfl rfl (by first | exact ints_len _ | exact prs_len _ _ | exact zints_len _) (by omega) (Nat.zero_le _) rfl rfl rfl rfl rfl ?_)
          | (refine g_ops ?_; first | refine eo_none ?_ | refine eo_nil ?_)
          | (refine g_code ?_; first | refine ec_seq ?_ | refine ec_region ?_ | refine ec_block ?_ | refine ec_skip ?_ | refine ec_exit ?_ | refine ec_condT rfl ?_ | refine ec_condF rfl ?_ | refine ec_condTH rfl (by assumption) ?_ | refine ec_condFH rfl (by assumption) ?_)
          | refine ek_seqN ?_ | refine ek_seqX ?_ | refine ek_blkN ?_ | refine ek_blkR ?_ | refine ek_blkX ?_ | refine ek_blkY rfl ?_)
        exact rnd_on (by rfl) (scmp2 (by rfl) (by rfl) (by exact ⟨rfl, rfl, rfl⟩) (by rfl) (by first | rfl | (simp; done) | (simp [ints, prs]; done)) (by rfl) (by first | rfl | (simp; done) | (simp [ints, prs]; done)))
      | cons x xs =>
        refine ⟨(x :: xs) ++ [(idn) i], by rw [selm_t (p := pkp) hp, hs]; try rfl, ?_⟩
        unfold m98_0
        repeat' (first
          | (refine g_op ?_; first
            | refine ep_mov rfl ?_ | refine ep_load1 rfl rfl rfl rfl ?_
            | refine sp_callv rfl rfl rfl rfl rfl rfl (by first | exact e1) ⟨rfl, rfl, rfl, rfl⟩ rfl rfl rfl ?_
            | refine sp_callb rfl rfl rfl rfl rfl rfl (by first | exact e1) ⟨rfl, rfl, rfl, rfl⟩ rfl rfl rfl ?_
            | refine ep_bin rfl rfl (by first | exact b_add (by omega) (by omega) | exact b_lss) ?_ | refine sp_store rfl rfl rfl rfl rfl rfl rfl rfl rfl rfl ?_ | refine sp_bslice rfl rfl rfl rfl rfl ?_ | refine sp_push0 rfl (by first | exact .inl rfl | exact .inr rfl) rfl rfl rfl rfl rfl (by decide) rfl rfl rfl ?_
            | refine sp_push rfl rfl rfl rfl rfl rfl rfl (by first | exact ints_len _ | exact prs_len _ _ | exact zints_len _) (by omega) (Nat.zero_le _) rfl rfl rfl rfl rfl ?_)
          | (refine g_ops ?_; first | refine eo_none ?_ | refine eo_nil ?_)
          | (refine g_code ?_; first | refine ec_seq ?_ | refine ec_region ?_ | refine ec_block ?_ | refine ec_skip ?_ | refine ec_exit ?_ | refine ec_condT rfl ?_ | refine ec_condF rfl ?_ | refine ec_condTH rfl (by assumption) ?_ | refine ec_condFH rfl (by assumption) ?_)
          | refine ek_seqN ?_ | refine ek_seqX ?_ | refine ek_blkN ?_ | refine ek_blkR ?_ | refine ek_blkX ?_ | refine ek_blkY rfl ?_)
        exact rnd_on (by rfl) (scmp2 (by rfl) (by rfl) (by exact ⟨rfl, rfl, rfl⟩) (by rfl) (by first | rfl | (simp; done) | (simp [ints, prs]; done)) (by rfl) (by first | rfl | (simp; done) | (simp [ints, prs]; done)))
    | false =>
      have hp' : ((pkp) i) = false := hp
      rw [hp'] at e1
      cases s with
      | nil =>
        refine ⟨[], by rw [selm_f (p := pkp) hp, hs]; try rfl, ?_⟩
        unfold m98_0
        repeat' (first
          | (refine g_op ?_; first
            | refine ep_mov rfl ?_ | refine ep_load1 rfl rfl rfl rfl ?_
            | refine sp_callv rfl rfl rfl rfl rfl rfl (by first | exact e1) ⟨rfl, rfl, rfl, rfl⟩ rfl rfl rfl ?_
            | refine sp_callb rfl rfl rfl rfl rfl rfl (by first | exact e1) ⟨rfl, rfl, rfl, rfl⟩ rfl rfl rfl ?_
            | refine ep_bin rfl rfl (by first | exact b_add (by omega) (by omega) | exact b_lss) ?_ | refine sp_store rfl rfl rfl rfl rfl rfl rfl rfl rfl rfl ?_ | refine sp_bslice rfl rfl rfl rfl rfl ?_ | refine sp_push0 rfl (by first | exact .inl rfl | exact .inr rfl) rfl rfl rfl rfl rfl (by decide) rfl rfl rfl ?_
            | refine sp_push rfl rfl rfl rfl rfl rfl rfl (by first | exact ints_len _ | exact prs_len _ _ | exact zints_len _) (by omega) (Nat.zero_le _) rfl rfl rfl rfl rfl ?_)
          | (refine g_ops ?_; first | refine eo_none ?_ | refine eo_nil ?_)
          | (refine g_code ?_; first | refine ec_seq ?_ | refine ec_region ?_ | refine ec_block ?_ | refine ec_skip ?_ | refine ec_exit ?_ | refine ec_condT rfl ?_ | refine ec_condF rfl ?_ | refine ec_condTH rfl (by assumption) ?_ | refine ec_condFH rfl (by assumption) ?_)
          | refine ek_seqN ?_ | refine ek_seqX ?_ | refine ek_blkN ?_ | refine ek_blkR ?_ | refine ek_blkX ?_ | refine ek_blkY rfl ?_)
        exact rnd_on (by rfl) (scmp2 (by rfl) (by rfl) (by exact ⟨rfl, rfl, rfl⟩) (by rfl) (by first | rfl | (simp; done) | (simp [ints, prs]; done)) (by rfl) (by first | rfl | (simp; done) | (simp [ints, prs]; done)))
      | cons x xs =>
        refine ⟨x :: xs, by rw [selm_f (p := pkp) hp, hs]; try rfl, ?_⟩
        unfold m98_0
        repeat' (first
          | (refine g_op ?_; first
            | refine ep_mov rfl ?_ | refine ep_load1 rfl rfl rfl rfl ?_
            | refine sp_callv rfl rfl rfl rfl rfl rfl (by first | exact e1) ⟨rfl, rfl, rfl, rfl⟩ rfl rfl rfl ?_
            | refine sp_callb rfl rfl rfl rfl rfl rfl (by first | exact e1) ⟨rfl, rfl, rfl, rfl⟩ rfl rfl rfl ?_
            | refine ep_bin rfl rfl (by first | exact b_add (by omega) (by omega) | exact b_lss) ?_ | refine sp_store rfl rfl rfl rfl rfl rfl rfl rfl rfl rfl ?_ | refine sp_bslice rfl rfl rfl rfl rfl ?_ | refine sp_push0 rfl (by first | exact .inl rfl | exact .inr rfl) rfl rfl rfl rfl rfl (by decide) rfl rfl rfl ?_
            | refine sp_push rfl rfl rfl rfl rfl rfl rfl (by first | exact ints_len _ | exact prs_len _ _ | exact zints_len _) (by omega) (Nat.zero_le _) rfl rfl rfl rfl rfl ?_)
          | (refine g_ops ?_; first | refine eo_none ?_ | refine eo_nil ?_)
          | (refine g_code ?_; first | refine ec_seq ?_ | refine ec_region ?_ | refine ec_block ?_ | refine ec_skip ?_ | refine ec_exit ?_ | refine ec_condT rfl ?_ | refine ec_condF rfl ?_ | refine ec_condTH rfl (by assumption) ?_ | refine ec_condFH rfl (by assumption) ?_)
          | refine ek_seqN ?_ | refine ek_seqX ?_ | refine ek_blkN ?_ | refine ek_blkR ?_ | refine ek_blkX ?_ | refine ek_blkY rfl ?_)
        exact rnd_on (by rfl) (scmp2 (by rfl) (by rfl) (by exact ⟨rfl, rfl, rfl⟩) (by rfl) (by first | rfl | (simp; done) | (simp [ints, prs]; done)) (by rfl) (by first | rfl | (simp; done) | (simp [ints, prs]; done)))
  · intro s hs
    have hlt : decide (((R2 n : Nat) : Int) < (R2 n : Nat)) = false := decide_eq_false (by omega)
    have hle : decide (((R2 n : Nat) : Int) ≤ (R2 n : Nat) - 1) = false := decide_eq_false (by omega)
    cases s with
    | nil =>
      unfold m98_0
      repeat' (first
        | (refine g_op ?_; first
          | refine ep_mov rfl ?_ | refine ep_load1 rfl rfl rfl rfl ?_
          | refine ep_bin rfl rfl (by first | exact b_add (by omega) (by omega) | exact b_lss) ?_ | refine sp_store rfl rfl rfl rfl rfl rfl rfl rfl rfl rfl ?_ | refine sp_bslice rfl rfl rfl rfl rfl ?_ | refine sp_push0 rfl (by first | exact .inl rfl | exact .inr rfl) rfl rfl rfl rfl rfl (by decide) rfl rfl rfl ?_
          | refine sp_push rfl rfl rfl rfl rfl rfl rfl (by first | exact ints_len _ | exact prs_len _ _ | exact zints_len _) (by omega) (Nat.zero_le _) rfl rfl rfl rfl rfl ?_)
        | (refine g_ops ?_; first | refine eo_none ?_ | refine eo_nil ?_)
        | (refine g_code ?_; first | refine ec_seq ?_ | refine ec_region ?_ | refine ec_block ?_ | refine ec_skip ?_ | refine ec_exit ?_ | refine ec_condT rfl ?_ | refine ec_condF rfl ?_ | refine ec_condTH rfl (by assumption) ?_ | refine ec_condFH rfl (by assumption) ?_)
        | refine ek_seqN ?_ | refine ek_seqX ?_ | refine ek_blkN ?_ | refine ek_blkR ?_ | refine ek_blkX ?_ | refine ek_blkY rfl ?_)
      exact rnd_out (by rfl) (by simp) (scmp2 (by rfl) (by rfl) (by exact ⟨rfl, rfl, rfl⟩) (by rfl) (by first | rfl | (simp; done) | (simp [ints, prs]; done)) (by rfl) (by first | rfl | (simp; done) | (simp [ints, prs]; done)))
    | cons x xs =>
      unfold m98_0
      repeat' (first
        | (refine g_op ?_; first
          | refine ep_mov rfl ?_ | refine ep_load1 rfl rfl rfl rfl ?_
          | refine ep_bin rfl rfl (by first | exact b_add (by omega) (by omega) | exact b_lss) ?_ | refine sp_store rfl rfl rfl rfl rfl rfl rfl rfl rfl rfl ?_ | refine sp_bslice rfl rfl rfl rfl rfl ?_ | refine sp_push0 rfl (by first | exact .inl rfl | exact .inr rfl) rfl rfl rfl rfl rfl (by decide) rfl rfl rfl ?_
          | refine sp_push rfl rfl rfl rfl rfl rfl rfl (by first | exact ints_len _ | exact prs_len _ _ | exact zints_len _) (by omega) (Nat.zero_le _) rfl rfl rfl rfl rfl ?_)
        | (refine g_ops ?_; first | refine eo_none ?_ | refine eo_nil ?_)
        | (refine g_code ?_; first | refine ec_seq ?_ | refine ec_region ?_ | refine ec_block ?_ | refine ec_skip ?_ | refine ec_exit ?_ | refine ec_condT rfl ?_ | refine ec_condF rfl ?_ | refine ec_condTH rfl (by assumption) ?_ | refine ec_condFH rfl (by assumption) ?_)
        | refine ek_seqN ?_ | refine ek_seqX ?_ | refine ek_blkN ?_ | refine ek_blkR ?_ | refine ek_blkX ?_ | refine ek_blkY rfl ?_)
      exact rnd_out (by rfl) (by simp) (scmp2 (by rfl) (by rfl) (by exact ⟨rfl, rfl, rfl⟩) (by rfl) (by first | rfl | (simp; done) | (simp [ints, prs]; done)) (by rfl) (by first | rfl | (simp; done) | (simp [ints, prs]; done)))
theorem ends_nil_trn (fb fp n b : Nat) (pkp : Nat → Bool) (hn : n ≤ 4) (hpk : ∀ r : Nat, r < 16 → Ev cx fp [.int .i64 r, .ptr 0 0] [⟨[.nils], 1, 0, some 0, true⟩] (.bool (pkp r)) [⟨[.nils], 1, 0, some 0, true⟩]) (hs : selm pkp idn (R2 n) = []) : Ev cx 98 [.agg [.int .i64 n, .int .i64 b], .fn fp [.ptr 0 0], .fn fb []] [⟨[.nils], 1, 0, some 0, true⟩] .nils [⟨[.nils], 1, 0, some 0, true⟩] := by
  have lp := lp98_0_trn fb fp n b pkp hn hpk _ (by rw [hs])
  refine has98.eev rfl rfl ?_
  unfold m98
  repeat' (first
    | refine sc_loop lp rfl rfl ⟨rfl, rfl, rfl⟩ rfl rfl rfl ?_
    | (refine g_op ?_; first
      | refine ep_mov rfl ?_ | refine ep_load1 rfl rfl rfl rfl ?_ | refine sp_loadN rfl rfl rfl rfl rfl ?_
      | refine ep_call0 rfl (by first | exact ev182 _ _ hn | exact evcl_nils | exact evdf_nils fb) rfl rfl ?_
      | refine sp_call rfl rfl rfl rfl (by first | exact ev182 _ _ hn | exact evcl_nils | exact evdf_nils fb) ⟨rfl, rfl, rfl, rfl⟩ rfl rfl rfl ?_
      | refine sp_box rfl rfl rfl rfl rfl ?_ | refine sp_alloc rfl rfl ?_ | refine ep_mkfn rfl ?_)
    | (refine g_ops ?_; first | refine eo_none ?_ | refine eo_nil ?_)
    | (refine g_code ?_; first | refine ec_seq ?_ | refine ec_region ?_ | refine ec_block ?_ | refine ec_ret ?_)
    | refine ek_seqN ?_ | refine ek_seqX ?_ | refine ek_seqR ?_ | refine ek_blkN ?_ | refine ek_blkR ?_ | refine ek_blkX ?_ | refine ek_blkY rfl ?_)
  refine sfin (.inr rfl) (by rfl) (by rfl) (by exact ⟨rfl, rfl, rfl⟩) (by rfl) (by rfl) (by rfl) (by first | rfl | (simp; done) | (simp [ints, prs]; done))
theorem ends_cons_trn (fb fp n b : Nat) (pkp : Nat → Bool) (hn : n ≤ 4) (hpk : ∀ r : Nat, r < 16 → Ev cx fp [.int .i64 r, .ptr 0 0] [⟨[.nils], 1, 0, some 0, true⟩] (.bool (pkp r)) [⟨[.nils], 1, 0, some 0, true⟩]) (bel : Nat → Nat → Bool) (hbel : ∀ r s : Nat, r < 65536 → s < 65536 → Ev cx fb [.int .i64 r, .int .i64 s] [] (.bool (bel r s)) []) (x : Nat) (xs : List Nat) (hs : selm pkp idn (R2 n) = x :: xs) :
    Ev cx 98 [.agg [.int .i64 n, .int .i64 b], .fn fp [.ptr 0 0], .fn fb []] [⟨[.nils], 1, 0, some 0, true⟩] (.sl 1 0 (endL (x :: xs) bel).length) [⟨[.nils], 1, 0, some 0, true⟩, ⟨ints (endL (x :: xs) bel ++ List.replicate ((x :: xs).length - (endL (x :: xs) bel).length) 0), 1, 1, some 0, false⟩] := by
  obtain ⟨h1, h2, h3, h4⟩ := shN hn
  have hle := selm_len pkp idn (R2 n)
  have hlt : ∀ j, j < (x :: xs).length → (x :: xs).getD j 0 < 65536 := fun j hj => by
    have := (selm_lt (p := pkp) (n := R2 n) (j := j) (by rw [hs]; exact hj)).1
    rw [hs] at this; omega
  rw [hs] at hle
  have lp := lp98_0_trn fb fp n b pkp hn hpk _ (by rw [hs])
  have e2 := ev185 (x :: xs) (x :: xs).length rfl (by simp) (by omega)
  have e3 := evdf_ends fb bel hbel (x :: xs) (by omega) hlt (x :: xs) (by omega) hlt
  refine has98.eev rfl rfl ?_
  unfold m98
  repeat' (first
    | refine sc_loop lp rfl rfl ⟨rfl, rfl, rfl⟩ rfl rfl rfl ?_
    | (refine g_op ?_; first
      | refine ep_mov rfl ?_ | refine ep_load1 rfl rfl rfl rfl ?_ | refine sp_loadN rfl rfl rfl rfl rfl ?_
      | refine ep_call0 rfl (by first | exact ev182 _ _ hn | exact e2 | exact e3) rfl rfl ?_
      | refine sp_call rfl rfl rfl rfl (by first | exact ev182 _ _ hn | exact e2 | exact e3) ⟨rfl, rfl, rfl, rfl⟩ rfl rfl rfl ?_
      | refine sp_box rfl rfl rfl rfl rfl ?_ | refine sp_alloc rfl rfl ?_ | refine ep_mkfn rfl ?_)
    | (refine g_ops ?_; first | refine eo_none ?_ | refine eo_nil ?_)
    | (refine g_code ?_; first | refine ec_seq ?_ | refine ec_region ?_ | refine ec_block ?_ | refine ec_ret ?_)
    | refine ek_seqN ?_ | refine ek_seqX ?_ | refine ek_seqR ?_ | refine ek_blkN ?_ | refine ek_blkR ?_ | refine ek_blkX ?_ | refine ek_blkY rfl ?_)
  refine sfin (.inr rfl) (by rfl) (by rfl) (by exact ⟨rfl, rfl, rfl⟩) (by rfl) (by rfl) (by rfl) (by first | rfl | (simp; done) | (simp [ints, prs]; done))

theorem sel_t (P : Nat → Bool) (N : Nat) : selm (fun r => bt (pk (bn P) N) r == 1) idn N = selm P idn N := by
  refine selm_congr N fun r hr => ⟨?_, fun _ => rfl⟩
  rw [bt_pk (fun r _ => bn_le _ r) hr]
  unfold bn; cases P r <;> rfl
-- spec.TransversalsOf
def m10_1 : MC := (.seq (.seq (.region [⟨(.mov (.t 8)), (some 27), none⟩, ⟨(.mov (.t 4)), (some 28), none⟩, ⟨(.len (.t 28)), (some 29), none⟩, ⟨(.bin .lss (.t 27) (.t 29)), (some 30), none⟩] false) (.cond (.t 30) .skip (.exit 3))) (.seq (.block 4 (.seq (.region [⟨(.mov (.t 6)), (some 33), none⟩, ⟨(.mov (.t 4)), (some 34), none⟩, ⟨(.mov (.t 8)), (some 35), none⟩, ⟨(.indexAddr 1 (.t 34) (.t 35)), (some 36), none⟩, ⟨(.load none (.t 36)), (some 37), none⟩, ⟨(.bin .and (.t 33) (.t 37)), (some 38), none⟩, ⟨(.bin .eql (.t 38) (.k (.int .i64 0))), (some 39), none⟩] false) (.cond (.t 39) (.region [⟨(.mov (.k (.int .i64 0))), (some 7), none⟩] false) .skip))) (.region [⟨(.mov (.t 8)), (some 31), none⟩, ⟨(.bin .add (.t 31) (.k (.int .i64 1))), (some 32), none⟩, ⟨(.mov (.t 32)), (some 8), none⟩] false)))
def m10_0 : MC := (.seq (.seq (.region [⟨(.mov (.t 6)), (some 20), none⟩, ⟨(.fieldAddr 0 (.t 1)), (some 21), none⟩, ⟨(.load none (.t 21)), (some 22), none⟩, ⟨(.call 106 [(.t 22)]), (some 23), none⟩, ⟨(.bin .lss (.t 20) (.t 23)), (some 24), none⟩] false) (.cond (.t 24) .skip (.exit 1))) (.seq (.block 2 (.seq (.region [⟨(.mov (.k (.int .i64 1))), (some 7), none⟩] false) (.seq (.seq (.region [⟨(.mov (.k (.int .i64 0))), (some 8), none⟩] false) (.block 3 (.loop m10_1))) (.region [⟨(.mov (.t 5)), (some 40), none⟩, ⟨(.mov (.t 7)), (some 41), none⟩, ⟨(.bslice 1 [(.int .i64 0)] 1 [(0, (1, (.t 41)))]), (some 42), none⟩, ⟨(.append 1 8 (.t 40) (.t 42)), (some 43), none⟩, ⟨(.mov (.t 43)), (some 5), none⟩] false)))) (.region [⟨(.mov (.t 6)), (some 25), none⟩, ⟨(.bin .add (.t 25) (.k (.int .i64 1))), (some 26), none⟩, ⟨(.mov (.t 26)), (some 6), none⟩] false)))
def m10 : MC := (.seq (.region [⟨(.box (.t 0)), (some 1), none⟩, ⟨(.mov (.k .nils)), (some 2), none⟩, ⟨(.mov (.k (.int .i64 0))), (some 3), none⟩] false) (.seq (.block 0 (.seq (.region [⟨(.load (some 2) (.t 1)), (some 10), none⟩, ⟨(.call 103 [(.t 10)]), (some 11), none⟩, ⟨(.un .not (.t 11)), (some 12), none⟩, ⟨(.mov (.t 12)), (some 9), none⟩] false) (.cond (.t 9) (.seq (.region [⟨(.mov (.k .nils)), (some 2), none⟩, ⟨(.mov (.k (.int .i64 1))), (some 3), none⟩] false) .ret) (.seq (.region [⟨(.load (some 2) (.t 1)), (some 14), none⟩, ⟨(.call 104 [(.t 14)]), (some 15), none⟩, ⟨(.un .not (.t 15)), (some 16), none⟩, ⟨(.mov (.t 16)), (some 13), none⟩] false) (.cond (.t 13) (.seq (.region [⟨(.mov (.k .nils)), (some 2), none⟩, ⟨(.mov (.k (.int .i64 5))), (some 3), none⟩] false) .ret) .skip))))) (.seq (.region [⟨(.load (some 2) (.t 1)), (some 17), none⟩, ⟨(.call 105 [(.t 17), (.k (.int .i64 1)), (.k (.bool true))]), (some 18), none⟩, ⟨.empt, (some 19), none⟩, ⟨(.mov (.t 18)), (some 4), none⟩, ⟨(.mov (.t 19)), (some 5), none⟩] false) (.seq (.seq (.region [⟨(.mov (.k (.int .i64 0))), (some 6), none⟩] false) (.block 1 (.loop m10_0))) (.seq (.region [⟨(.fieldAddr 0 (.t 1)), (some 44), none⟩, ⟨(.load none (.t 44)), (some 45), none⟩, ⟨(.mov (.t 5)), (some 46), none⟩, ⟨(.call 107 [(.t 45), (.t 46)]), (some 47), none⟩, ⟨(.call 105 [(.t 47), (.k (.int .i64 1)), (.k (.bool true))]), (some 48), none⟩, ⟨(.mov (.t 48)), (some 2), none⟩, ⟨(.mov (.k (.int .i64 0))), (some 3), none⟩] false) .ret)))))
theorem has10 : Has cx 10 49 m10 [(.tmp 2), (.tmp 3)] :=
  ⟨⟨Try.f10, Try.f10.body.getD .skip, by kernel_rfl, by kernel_rfl, by kernel_rfl, by kernel_rfl, by kernel_rfl, by kernel_rfl⟩⟩
theorem lptv_ee (n b r : Nat) (hr : r < 65536) :
    LpS cx 49 0 m10_1 [(1, .ptr 0 0), (4, .emp), (5, .emp), (6, .int .i64 (r : Nat)), (7, .int .i64 ((if allF (fun j => !(r &&& (([] : List Nat).getD j 0) == 0)) 0 (0) = true then 1 else 0) : Nat)), (8, .int .i64 (0 : Nat))] [⟨[.int .i64 n, .int .i64 b], 1, 0, some 0, true⟩] (⟨.exit 3, [(1, .ptr 0 0), (4, .emp), (5, .emp), (6, .int .i64 (r : Nat)), (7, .int .i64 ((if allF (fun j => !(r &&& (([] : List Nat).getD j 0) == 0)) 0 (0) = true then 1 else 0) : Nat))], [⟨[.int .i64 n, .int .i64 b], 1, 0, some 0, true⟩]⟩ : Out).x (⟨.exit 3, [(1, .ptr 0 0), (4, .emp), (5, .emp), (6, .int .i64 (r : Nat)), (7, .int .i64 ((if allF (fun j => !(r &&& (([] : List Nat).getD j 0) == 0)) 0 (0) = true then 1 else 0) : Nat))], [⟨[.int .i64 n, .int .i64 b], 1, 0, some 0, true⟩]⟩ : Out).e (⟨.exit 3, [(1, .ptr 0 0), (4, .emp), (5, .emp), (6, .int .i64 (r : Nat)), (7, .int .i64 ((if allF (fun j => !(r &&& (([] : List Nat).getD j 0) == 0)) 0 (0) = true then 1 else 0) : Nat))], [⟨[.int .i64 n, .int .i64 b], 1, 0, some 0, true⟩]⟩ : Out).h := by
  refine lp_st (0) (fun _ => ()) (fun i _ => [(1, .ptr 0 0), (4, .emp), (5, .emp), (6, .int .i64 (r : Nat)), (7, .int .i64 ((if allF (fun j => !(r &&& (([] : List Nat).getD j 0) == 0)) 0 (i) = true then 1 else 0) : Nat)), (8, .int .i64 (i : Nat))]) (fun i _ => [⟨[.int .i64 n, .int .i64 b], 1, 0, some 0, true⟩]) (fun _ => (⟨.exit 3, [(1, .ptr 0 0), (4, .emp), (5, .emp), (6, .int .i64 (r : Nat)), (7, .int .i64 ((if allF (fun j => !(r &&& (([] : List Nat).getD j 0) == 0)) 0 (0) = true then 1 else 0) : Nat))], [⟨[.int .i64 n, .int .i64 b], 1, 0, some 0, true⟩]⟩ : Out)) ?_ ?_ (0) 0 (by omega)
  · intro i u_ hi hu_
    refine ⟨(), rfl, ?_⟩
    exact absurd hi (by simp)
  · intro u_ hu_
    have hlt : decide (((0 : Nat) : Int) < (0 : Nat)) = false := decide_eq_false (by omega)
    unfold m10_1
    repeat' (first
      | (refine g_op ?_; first
        | refine ep_mov rfl ?_ | refine ep_load1 rfl rfl rfl rfl ?_
        | refine ep_bin rfl rfl (by first | exact b_add (by omega) (by omega) | exact b_and (by omega) (by omega) | exact b_lss | exact b_eql) ?_ | refine ep_lenS rfl ?_ | refine ep_lenN rfl ?_ | refine ep_lenE rfl ?_
        | refine sp_idx rfl rfl rfl (by omega) rfl ?_ | refine ep_loadS rfl rfl rfl (by first | exact ints_get (by omega) | exact zints_get (by omega) | exact fget (by omega) | assumption) ?_)
      | (refine g_ops ?_; first | refine eo_none ?_ | refine eo_nil ?_)
      | (refine g_code ?_; first | refine ec_seq ?_ | refine ec_region ?_ | refine ec_block ?_ | refine ec_skip ?_ | refine ec_exit ?_ | refine ec_condT rfl ?_ | refine ec_condF rfl ?_ | refine ec_condTH rfl (by assumption) ?_ | refine ec_condFH rfl (by assumption) ?_)
      | refine ek_seqN ?_ | refine ek_seqX ?_ | refine ek_blkN ?_ | refine ek_blkR ?_ | refine ek_blkX ?_ | refine ek_blkY rfl ?_)
    exact rnd_out (by rfl) (by simp) (scmp2 (by rfl) (by rfl) (by exact ⟨rfl, rfl, rfl⟩) (by rfl) (by first | rfl | (simp; done) | (simp [ints, prs]; done)) (by rfl) (by first | rfl | (simp; done) | (simp [ints, prs]; done)))

theorem lptv_ec (n b r : Nat) (hr : r < 65536) (x : Nat) (xs : List Nat) :
    LpS cx 49 0 m10_1 [(1, .ptr 0 0), (4, .emp), (5, .sl 1 0 (x :: xs).length), (6, .int .i64 (r : Nat)), (7, .int .i64 ((if allF (fun j => !(r &&& (([] : List Nat).getD j 0) == 0)) 0 (0) = true then 1 else 0) : Nat)), (8, .int .i64 (0 : Nat))] [⟨[.int .i64 n, .int .i64 b], 1, 0, some 0, true⟩, ⟨ints (x :: xs), 1, 1, some 0, false⟩] (⟨.exit 3, [(1, .ptr 0 0), (4, .emp), (5, .sl 1 0 (x :: xs).length), (6, .int .i64 (r : Nat)), (7, .int .i64 ((if allF (fun j => !(r &&& (([] : List Nat).getD j 0) == 0)) 0 (0) = true then 1 else 0) : Nat))], [⟨[.int .i64 n, .int .i64 b], 1, 0, some 0, true⟩, ⟨ints (x :: xs), 1, 1, some 0, false⟩]⟩ : Out).x (⟨.exit 3, [(1, .ptr 0 0), (4, .emp), (5, .sl 1 0 (x :: xs).length), (6, .int .i64 (r : Nat)), (7, .int .i64 ((if allF (fun j => !(r &&& (([] : List Nat).getD j 0) == 0)) 0 (0) = true then 1 else 0) : Nat))], [⟨[.int .i64 n, .int .i64 b], 1, 0, some 0, true⟩, ⟨ints (x :: xs), 1, 1, some 0, false⟩]⟩ : Out).e (⟨.exit 3, [(1, .ptr 0 0), (4, .emp), (5, .sl 1 0 (x :: xs).length), (6, .int .i64 (r : Nat)), (7, .int .i64 ((if allF (fun j => !(r &&& (([] : List Nat).getD j 0) == 0)) 0 (0) = true then 1 else 0) : Nat))], [⟨[.int .i64 n, .int .i64 b], 1, 0, some 0, true⟩, ⟨ints (x :: xs), 1, 1, some 0, false⟩]⟩ : Out).h := by
  refine lp_st (0) (fun _ => ()) (fun i _ => [(1, .ptr 0 0), (4, .emp), (5, .sl 1 0 (x :: xs).length), (6, .int .i64 (r : Nat)), (7, .int .i64 ((if allF (fun j => !(r &&& (([] : List Nat).getD j 0) == 0)) 0 (i) = true then 1 else 0) : Nat)), (8, .int .i64 (i : Nat))]) (fun i _ => [⟨[.int .i64 n, .int .i64 b], 1, 0, some 0, true⟩, ⟨ints (x :: xs), 1, 1, some 0, false⟩]) (fun _ => (⟨.exit 3, [(1, .ptr 0 0), (4, .emp), (5, .sl 1 0 (x :: xs).length), (6, .int .i64 (r : Nat)), (7, .int .i64 ((if allF (fun j => !(r &&& (([] : List Nat).getD j 0) == 0)) 0 (0) = true then 1 else 0) : Nat))], [⟨[.int .i64 n, .int .i64 b], 1, 0, some 0, true⟩, ⟨ints (x :: xs), 1, 1, some 0, false⟩]⟩ : Out)) ?_ ?_ (0) 0 (by omega)
  · intro i u_ hi hu_
    refine ⟨(), rfl, ?_⟩
    exact absurd hi (by simp)
  · intro u_ hu_
    have hlt : decide (((0 : Nat) : Int) < (0 : Nat)) = false := decide_eq_false (by omega)
    unfold m10_1
    repeat' (first
      | (refine g_op ?_; first
        | refine ep_mov rfl ?_ | refine ep_load1 rfl rfl rfl rfl ?_
        | refine ep_bin rfl rfl (by first | exact b_add (by omega) (by omega) | exact b_and (by omega) (by omega) | exact b_lss | exact b_eql) ?_ | refine ep_lenS rfl ?_ | refine ep_lenN rfl ?_ | refine ep_lenE rfl ?_
        | refine sp_idx rfl rfl rfl (by omega) rfl ?_ | refine ep_loadS rfl rfl rfl (by first | exact ints_get (by omega) | exact zints_get (by omega) | exact fget (by omega) | assumption) ?_)
      | (refine g_ops ?_; first | refine eo_none ?_ | refine eo_nil ?_)
      | (refine g_code ?_; first | refine ec_seq ?_ | refine ec_region ?_ | refine ec_block ?_ | refine ec_skip ?_ | refine ec_exit ?_ | refine ec_condT rfl ?_ | refine ec_condF rfl ?_ | refine ec_condTH rfl (by assumption) ?_ | refine ec_condFH rfl (by assumption) ?_)
      | refine ek_seqN ?_ | refine ek_seqX ?_ | refine ek_blkN ?_ | refine ek_blkR ?_ | refine ek_blkX ?_ | refine ek_blkY rfl ?_)
    exact rnd_out (by rfl) (by simp) (scmp2 (by rfl) (by rfl) (by exact ⟨rfl, rfl, rfl⟩) (by rfl) (by first | rfl | (simp; done) | (simp [ints, prs]; done)) (by rfl) (by first | rfl | (simp; done) | (simp [ints, prs]; done)))

theorem lp10_0_e (n b : Nat) (hn : n ≤ 4) (o : Out) (ho : (match selm (fun _ => true) (bn (trP ([] : List Nat))) (R2 n) with | [] => (⟨.exit 1, [(1, .ptr 0 0), (5, .emp)], [⟨[.int .i64 n, .int .i64 b], 1, 0, some 0, true⟩]⟩ : Out) | x :: xs => ⟨.exit 1, [(1, .ptr 0 0), (5, .sl 1 0 (x :: xs).length)], [⟨[.int .i64 n, .int .i64 b], 1, 0, some 0, true⟩, ⟨ints (x :: xs), 1, 1, some 0, false⟩]⟩) = o) :
    LpS cx 49 0 m10_0 [(1, .ptr 0 0), (4, .emp), (5, .emp), (6, .int .i64 (0 : Nat))] [⟨[.int .i64 n, .int .i64 b], 1, 0, some 0, true⟩] o.x o.e o.h := by
  obtain ⟨h1, h2, h3, h4⟩ := shN hn
  subst ho
  refine lp_st (R2 n) (selm (fun _ => true) (bn (trP ([] : List Nat)))) (fun i s => match s with | [] => [(1, .ptr 0 0), (4, .emp), (5, .emp), (6, .int .i64 (i : Nat))] | x :: xs => [(1, .ptr 0 0), (4, .emp), (5, .sl 1 0 (x :: xs).length), (6, .int .i64 (i : Nat))]) (fun i s => match s with | [] => [⟨[.int .i64 n, .int .i64 b], 1, 0, some 0, true⟩] | x :: xs => [⟨[.int .i64 n, .int .i64 b], 1, 0, some 0, true⟩, ⟨ints (x :: xs), 1, 1, some 0, false⟩]) (fun s => match s with | [] => ⟨.exit 1, [(1, .ptr 0 0), (5, .emp)], [⟨[.int .i64 n, .int .i64 b], 1, 0, some 0, true⟩]⟩ | x :: xs => ⟨.exit 1, [(1, .ptr 0 0), (5, .sl 1 0 (x :: xs).length)], [⟨[.int .i64 n, .int .i64 b], 1, 0, some 0, true⟩, ⟨ints (x :: xs), 1, 1, some 0, false⟩]⟩) ?_ ?_ (R2 n) 0 (by omega)
  · intro i s hi hs
    have hlt : decide ((i : Int) < (R2 n : Nat)) = true := decide_eq_true (by omega)
    have hle : decide ((i : Int) ≤ (R2 n : Nat) - 1) = true := decide_eq_true (by omega)
    have hlen : s.length ≤ 16 := by have := selm_len (fun _ => true) (bn (trP ([] : List Nat))) i; rw [hs] at this; omega
    have hp : (fun _ => true) i = true := rfl
    have lpe := lptv_ee n b i (by omega)
    have lpc := fun (x : Nat) (xs : List Nat) => lptv_ec n b i (by omega) x xs
    rw [show (if allF (fun j => !(i &&& (([] : List Nat).getD j 0) == 0)) 0 0 = true then 1 else 0) = 1 from rfl] at lpe
    simp only [show (if allF (fun j => !(i &&& (([] : List Nat).getD j 0) == 0)) 0 0 = true then 1 else 0) = 1 from rfl] at lpc
    cases s with
    | nil =>
      refine ⟨[(bn (trP ([] : List Nat))) i], by rw [selm_t (p := fun _ => true) hp, hs]; try rfl, ?_⟩
      unfold m10_0
      repeat' (first
        | refine sc_loop lpe rfl rfl ⟨rfl, rfl, rfl⟩ rfl rfl rfl ?_
        | refine sc_loop (lpc _ _) rfl rfl ⟨rfl, rfl, rfl⟩ rfl rfl rfl ?_
        | (refine g_op ?_; first
          | refine ep_mov rfl ?_ | refine ep_load1 rfl rfl rfl rfl ?_ | refine ep_fieldAddr rfl ?_
          | refine ep_call0 rfl (by first | exact ev106 _ hn) rfl rfl ?_
          | refine sp_call rfl rfl rfl rfl (by first | exact ev106 _ hn) ⟨rfl, rfl, rfl, rfl⟩ rfl rfl rfl ?_
          | refine ep_bin rfl rfl (by first | exact b_add (by omega) (by omega) | exact b_lss) ?_ | refine sp_bslice rfl rfl rfl rfl rfl ?_ | refine sp_push0 rfl (by first | exact .inl rfl | exact .inr rfl) rfl rfl rfl rfl rfl (by decide) rfl rfl rfl ?_
          | refine sp_push rfl rfl rfl rfl rfl rfl rfl (by first | exact ints_len _ | exact prs_len _ _ | exact zints_len _) (by omega) (Nat.zero_le _) rfl rfl rfl rfl rfl ?_)
        | (refine g_ops ?_; first | refine eo_none ?_ | refine eo_nil ?_)
        | (refine g_code ?_; first | refine ec_seq ?_ | refine ec_region ?_ | refine ec_block ?_ | refine ec_skip ?_ | refine ec_exit ?_ | refine ec_condT rfl ?_ | refine ec_condF rfl ?_ | refine ec_condTH rfl (by assumption) ?_ | refine ec_condFH rfl (by assumption) ?_)
        | refine ek_seqN ?_ | refine ek_seqX ?_ | refine ek_seqR ?_ | refine ek_blkN ?_ | refine ek_blkR ?_ | refine ek_blkX ?_ | refine ek_blkY rfl ?_)
      exact rnd_on (by rfl) (scmp2 (by rfl) (by rfl) (by exact ⟨rfl, rfl, rfl⟩) (by rfl) (by first | rfl | (simp; done) | (simp [ints, prs, bn, trP, allF]; done)) (by rfl) (by first | rfl | (simp; done) | (simp [ints, prs, bn, trP, allF]; done)))
    | cons x xs =>
      refine ⟨(x :: xs) ++ [(bn (trP ([] : List Nat))) i], by rw [selm_t (p := fun _ => true) hp, hs]; try rfl, ?_⟩
      unfold m10_0
      repeat' (first
        | refine sc_loop lpe rfl rfl ⟨rfl, rfl, rfl⟩ rfl rfl rfl ?_
        | refine sc_loop (lpc _ _) rfl rfl ⟨rfl, rfl, rfl⟩ rfl rfl rfl ?_
        | (refine g_op ?_; first
          | refine ep_mov rfl ?_ | refine ep_load1 rfl rfl rfl rfl ?_ | refine ep_fieldAddr rfl ?_
          | refine ep_call0 rfl (by first | exact ev106 _ hn) rfl rfl ?_
          | refine sp_call rfl rfl rfl rfl (by first | exact ev106 _ hn) ⟨rfl, rfl, rfl, rfl⟩ rfl rfl rfl ?_
          | refine ep_bin rfl rfl (by first | exact b_add (by omega) (by omega) | exact b_lss) ?_ | refine sp_bslice rfl rfl rfl rfl rfl ?_ | refine sp_push0 rfl (by first | exact .inl rfl | exact .inr rfl) rfl rfl rfl rfl rfl (by decide) rfl rfl rfl ?_
          | refine sp_push rfl rfl rfl rfl rfl rfl rfl (by first | exact ints_len _ | exact prs_len _ _ | exact zints_len _) (by omega) (Nat.zero_le _) rfl rfl rfl rfl rfl ?_)
        | (refine g_ops ?_; first | refine eo_none ?_ | refine eo_nil ?_)
        | (refine g_code ?_; first | refine ec_seq ?_ | refine ec_region ?_ | refine ec_block ?_ | refine ec_skip ?_ | refine ec_exit ?_ | refine ec_condT rfl ?_ | refine ec_condF rfl ?_ | refine ec_condTH rfl (by assumption) ?_ | refine ec_condFH rfl (by assumption) ?_)
        | refine ek_seqN ?_ | refine ek_seqX ?_ | refine ek_seqR ?_ | refine ek_blkN ?_ | refine ek_blkR ?_ | refine ek_blkX ?_ | refine ek_blkY rfl ?_)
      exact rnd_on (by rfl) (scmp2 (by rfl) (by rfl) (by exact ⟨rfl, rfl, rfl⟩) (by rfl) (by first | rfl | (simp; done) | (simp [ints, prs, bn, trP, allF]; done)) (by rfl) (by first | rfl | (simp; done) | (simp [ints, prs, bn, trP, allF]; done)))
  · intro s hs
    have hlt : decide (((R2 n : Nat) : Int) < (R2 n : Nat)) = false := decide_eq_false (by omega)
    have hle : decide (((R2 n : Nat) : Int) ≤ (R2 n : Nat) - 1) = false := decide_eq_false (by omega)
    cases s with
    | nil =>
      unfold m10_0
      repeat' (first
        | (refine g_op ?_; first
          | refine ep_mov rfl ?_ | refine ep_load1 rfl rfl rfl rfl ?_ | refine ep_fieldAddr rfl ?_
          | refine ep_call0 rfl (by first | exact ev106 _ hn) rfl rfl ?_
          | refine sp_call rfl rfl rfl rfl (by first | exact ev106 _ hn) ⟨rfl, rfl, rfl, rfl⟩ rfl rfl rfl ?_
          | refine ep_bin rfl rfl (by first | exact b_add (by omega) (by omega) | exact b_lss) ?_ | refine sp_bslice rfl rfl rfl rfl rfl ?_ | refine sp_push0 rfl (by first | exact .inl rfl | exact .inr rfl) rfl rfl rfl rfl rfl (by decide) rfl rfl rfl ?_
          | refine sp_push rfl rfl rfl rfl rfl rfl rfl (by first | exact ints_len _ | exact prs_len _ _ | exact zints_len _) (by omega) (Nat.zero_le _) rfl rfl rfl rfl rfl ?_)
        | (refine g_ops ?_; first | refine eo_none ?_ | refine eo_nil ?_)
        | (refine g_code ?_; first | refine ec_seq ?_ | refine ec_region ?_ | refine ec_block ?_ | refine ec_skip ?_ | refine ec_exit ?_ | refine ec_condT rfl ?_ | refine ec_condF rfl ?_ | refine ec_condTH rfl (by assumption) ?_ | refine ec_condFH rfl (by assumption) ?_)
        | refine ek_seqN ?_ | refine ek_seqX ?_ | refine ek_seqR ?_ | refine ek_blkN ?_ | refine ek_blkR ?_ | refine ek_blkX ?_ | refine ek_blkY rfl ?_)
      exact rnd_out (by rfl) (by simp) (scmp2 (by rfl) (by rfl) (by exact ⟨rfl, rfl, rfl⟩) (by rfl) (by first | rfl | (simp; done) | (simp [ints, prs]; done)) (by rfl) (by first | rfl | (simp; done) | (simp [ints, prs]; done)))
    | cons x xs =>
      unfold m10_0
      repeat' (first
        | (refine g_op ?_; first
          | refine ep_mov rfl ?_ | refine ep_load1 rfl rfl rfl rfl ?_ | refine ep_fieldAddr rfl ?_
          | refine ep_call0 rfl (by first | exact ev106 _ hn) rfl rfl ?_
          | refine sp_call rfl rfl rfl rfl (by first | exact ev106 _ hn) ⟨rfl, rfl, rfl, rfl⟩ rfl rfl rfl ?_
          | refine ep_bin rfl rfl (by first | exact b_add (by omega) (by omega) | exact b_lss) ?_ | refine sp_bslice rfl rfl rfl rfl rfl ?_ | refine sp_push0 rfl (by first | exact .inl rfl | exact .inr rfl) rfl rfl rfl rfl rfl (by decide) rfl rfl rfl ?_
          | refine sp_push rfl rfl rfl rfl rfl rfl rfl (by first | exact ints_len _ | exact prs_len _ _ | exact zints_len _) (by omega) (Nat.zero_le _) rfl rfl rfl rfl rfl ?_)
        | (refine g_ops ?_; first | refine eo_none ?_ | refine eo_nil ?_)
        | (refine g_code ?_; first | refine ec_seq ?_ | refine ec_region ?_ | refine ec_block ?_ | refine ec_skip ?_ | refine ec_exit ?_ | refine ec_condT rfl ?_ | refine ec_condF rfl ?_ | refine ec_condTH rfl (by assumption) ?_ | refine ec_condFH rfl (by assumption) ?_)
        | refine ek_seqN ?_ | refine ek_seqX ?_ | refine ek_seqR ?_ | refine ek_blkN ?_ | refine ek_blkR ?_ | refine ek_blkX ?_ | refine ek_blkY rfl ?_)
      exact rnd_out (by rfl) (by simp) (scmp2 (by rfl) (by rfl) (by exact ⟨rfl, rfl, rfl⟩) (by rfl) (by first | rfl | (simp; done) | (simp [ints, prs]; done)) (by rfl) (by first | rfl | (simp; done) | (simp [ints, prs]; done)))

theorem lptv_ce (n b r : Nat) (hr : r < 65536) (y : Nat) (ys : List Nat) (hll : (y :: ys).length ≤ 16) (hl : ∀ j, j < (y :: ys).length → (y :: ys).getD j 0 < 65536) :
    LpS cx 49 0 m10_1 [(1, .ptr 0 0), (4, .sl 1 0 (y :: ys).length), (5, .emp), (6, .int .i64 (r : Nat)), (7, .int .i64 ((if allF (fun j => !(r &&& ((y :: ys).getD j 0) == 0)) 0 (0) = true then 1 else 0) : Nat)), (8, .int .i64 (0 : Nat))] [⟨[.int .i64 n, .int .i64 b], 1, 0, some 0, true⟩, ⟨ints (y :: ys), 1, 1, some 0, false⟩] (⟨.exit 3, [(1, .ptr 0 0), (4, .sl 1 0 (y :: ys).length), (5, .emp), (6, .int .i64 (r : Nat)), (7, .int .i64 ((if allF (fun j => !(r &&& ((y :: ys).getD j 0) == 0)) 0 ((y :: ys).length) = true then 1 else 0) : Nat))], [⟨[.int .i64 n, .int .i64 b], 1, 0, some 0, true⟩, ⟨ints (y :: ys), 1, 1, some 0, false⟩]⟩ : Out).x (⟨.exit 3, [(1, .ptr 0 0), (4, .sl 1 0 (y :: ys).length), (5, .emp), (6, .int .i64 (r : Nat)), (7, .int .i64 ((if allF (fun j => !(r &&& ((y :: ys).getD j 0) == 0)) 0 ((y :: ys).length) = true then 1 else 0) : Nat))], [⟨[.int .i64 n, .int .i64 b], 1, 0, some 0, true⟩, ⟨ints (y :: ys), 1, 1, some 0, false⟩]⟩ : Out).e (⟨.exit 3, [(1, .ptr 0 0), (4, .sl 1 0 (y :: ys).length), (5, .emp), (6, .int .i64 (r : Nat)), (7, .int .i64 ((if allF (fun j => !(r &&& ((y :: ys).getD j 0) == 0)) 0 ((y :: ys).length) = true then 1 else 0) : Nat))], [⟨[.int .i64 n, .int .i64 b], 1, 0, some 0, true⟩, ⟨ints (y :: ys), 1, 1, some 0, false⟩]⟩ : Out).h := by
  refine lp_st ((y :: ys).length) (fun _ => ()) (fun i _ => [(1, .ptr 0 0), (4, .sl 1 0 (y :: ys).length), (5, .emp), (6, .int .i64 (r : Nat)), (7, .int .i64 ((if allF (fun j => !(r &&& ((y :: ys).getD j 0) == 0)) 0 (i) = true then 1 else 0) : Nat)), (8, .int .i64 (i : Nat))]) (fun i _ => [⟨[.int .i64 n, .int .i64 b], 1, 0, some 0, true⟩, ⟨ints (y :: ys), 1, 1, some 0, false⟩]) (fun _ => (⟨.exit 3, [(1, .ptr 0 0), (4, .sl 1 0 (y :: ys).length), (5, .emp), (6, .int .i64 (r : Nat)), (7, .int .i64 ((if allF (fun j => !(r &&& ((y :: ys).getD j 0) == 0)) 0 ((y :: ys).length) = true then 1 else 0) : Nat))], [⟨[.int .i64 n, .int .i64 b], 1, 0, some 0, true⟩, ⟨ints (y :: ys), 1, 1, some 0, false⟩]⟩ : Out)) ?_ ?_ ((y :: ys).length) 0 (by omega)
  · intro i u_ hi hu_
    refine ⟨(), rfl, ?_⟩
    have hlt : decide ((i : Int) < ((y :: ys).length : Nat)) = true := decide_eq_true (by omega)
    have hgl := ints_get (l := y :: ys) (j := i) hi
    have hx := hl i hi
    have ba := b_and (x := r) (y := (y :: ys).getD i 0) (by omega) (by omega)
    have hq := ieq0 (r &&& (y :: ys).getD i 0)
    have hz := allF_s (fun j => !(r &&& ((y :: ys).getD j 0) == 0)) i
    cases hc : (r &&& (y :: ys).getD i 0 == 0)
    · rw [hc] at hq
      have hz2 : allF (fun j => !(r &&& ((y :: ys).getD j 0) == 0)) 0 (i + 1) = allF (fun j => !(r &&& ((y :: ys).getD j 0) == 0)) 0 i := by rw [hz, hc]; simp
      rw [hz2]
      unfold m10_1
      repeat' (first
        | refine ep_loadS rfl rfl rfl hgl ?_
        | (refine g_op ?_; first
          | refine ep_mov rfl ?_ | refine ep_load1 rfl rfl rfl rfl ?_
          | refine ep_bin rfl rfl (by first | exact ba | exact b_add (by omega) (by omega) | exact b_and (by omega) (by omega) | exact b_lss | exact b_eql) ?_ | refine ep_lenS rfl ?_ | refine ep_lenN rfl ?_
          | refine ep_lenE rfl ?_ | refine sp_idx rfl rfl rfl (by omega) rfl ?_ | refine ep_loadS rfl rfl rfl (by first | exact ints_get (by omega) | exact zints_get (by omega) | exact fget (by omega) | assumption) ?_)
        | (refine g_ops ?_; first | refine eo_none ?_ | refine eo_nil ?_)
        | (refine g_code ?_; first | refine ec_seq ?_ | refine ec_region ?_ | refine ec_block ?_ | refine ec_skip ?_ | refine ec_exit ?_ | refine ec_condT rfl ?_ | refine ec_condF rfl ?_ | refine ec_condTH rfl (by assumption) ?_ | refine ec_condFH rfl (by assumption) ?_)
        | refine ek_seqN ?_ | refine ek_seqX ?_ | refine ek_blkN ?_ | refine ek_blkR ?_ | refine ek_blkX ?_ | refine ek_blkY rfl ?_)
      exact rnd_on (by rfl) (scmp2 (by rfl) (by rfl) (by exact ⟨rfl, rfl, rfl⟩) (by rfl) (by first | rfl | (simp; done) | (simp [ints, prs]; done)) (by rfl) (by first | rfl | (simp; done) | (simp [ints, prs]; done)))
    rw [hc] at hq
    have hz2 : allF (fun j => !(r &&& ((y :: ys).getD j 0) == 0)) 0 (i + 1) = false := by rw [hz, hc]; simp
    rw [hz2]
    unfold m10_1
    repeat' (first
      | refine ep_loadS rfl rfl rfl hgl ?_
      | (refine g_op ?_; first
        | refine ep_mov rfl ?_ | refine ep_load1 rfl rfl rfl rfl ?_
        | refine ep_bin rfl rfl (by first | exact ba | exact b_add (by omega) (by omega) | exact b_and (by omega) (by omega) | exact b_lss | exact b_eql) ?_ | refine ep_lenS rfl ?_ | refine ep_lenN rfl ?_
        | refine ep_lenE rfl ?_ | refine sp_idx rfl rfl rfl (by omega) rfl ?_ | refine ep_loadS rfl rfl rfl (by first | exact ints_get (by omega) | exact zints_get (by omega) | exact fget (by omega) | assumption) ?_)
      | (refine g_ops ?_; first | refine eo_none ?_ | refine eo_nil ?_)
      | (refine g_code ?_; first | refine ec_seq ?_ | refine ec_region ?_ | refine ec_block ?_ | refine ec_skip ?_ | refine ec_exit ?_ | refine ec_condT rfl ?_ | refine ec_condF rfl ?_ | refine ec_condTH rfl (by assumption) ?_ | refine ec_condFH rfl (by assumption) ?_)
      | refine ek_seqN ?_ | refine ek_seqX ?_ | refine ek_blkN ?_ | refine ek_blkR ?_ | refine ek_blkX ?_ | refine ek_blkY rfl ?_)
    exact rnd_on (by rfl) (scmp2 (by rfl) (by rfl) (by exact ⟨rfl, rfl, rfl⟩) (by rfl) (by first | rfl | (simp; done) | (simp [ints, prs]; done)) (by rfl) (by first | rfl | (simp; done) | (simp [ints, prs]; done)))
  · intro u_ hu_
    have hlt : decide ((((y :: ys).length : Nat) : Int) < ((y :: ys).length : Nat)) = false := decide_eq_false (by omega)
    unfold m10_1
    repeat' (first
      | (refine g_op ?_; first
        | refine ep_mov rfl ?_ | refine ep_load1 rfl rfl rfl rfl ?_
        | refine ep_bin rfl rfl (by first | exact b_add (by omega) (by omega) | exact b_and (by omega) (by omega) | exact b_lss | exact b_eql) ?_ | refine ep_lenS rfl ?_ | refine ep_lenN rfl ?_ | refine ep_lenE rfl ?_
        | refine sp_idx rfl rfl rfl (by omega) rfl ?_ | refine ep_loadS rfl rfl rfl (by first | exact ints_get (by omega) | exact zints_get (by omega) | exact fget (by omega) | assumption) ?_)
      | (refine g_ops ?_; first | refine eo_none ?_ | refine eo_nil ?_)
      | (refine g_code ?_; first | refine ec_seq ?_ | refine ec_region ?_ | refine ec_block ?_ | refine ec_skip ?_ | refine ec_exit ?_ | refine ec_condT rfl ?_ | refine ec_condF rfl ?_ | refine ec_condTH rfl (by assumption) ?_ | refine ec_condFH rfl (by assumption) ?_)
      | refine ek_seqN ?_ | refine ek_seqX ?_ | refine ek_blkN ?_ | refine ek_blkR ?_ | refine ek_blkX ?_ | refine ek_blkY rfl ?_)
    exact rnd_out (by rfl) (by simp) (scmp2 (by rfl) (by rfl) (by exact ⟨rfl, rfl, rfl⟩) (by rfl) (by first | rfl | (simp; done) | (simp [ints, prs]; done)) (by rfl) (by first | rfl | (simp; done) | (simp [ints, prs]; done)))

theorem lptv_cc (n b r : Nat) (hr : r < 65536) (y : Nat) (ys : List Nat) (hll : (y :: ys).length ≤ 16) (hl : ∀ j, j < (y :: ys).length → (y :: ys).getD j 0 < 65536) (x : Nat) (xs : List Nat) :
    LpS cx 49 0 m10_1 [(1, .ptr 0 0), (4, .sl 1 0 (y :: ys).length), (5, .sl 2 0 (x :: xs).length), (6, .int .i64 (r : Nat)), (7, .int .i64 ((if allF (fun j => !(r &&& ((y :: ys).getD j 0) == 0)) 0 (0) = true then 1 else 0) : Nat)), (8, .int .i64 (0 : Nat))] [⟨[.int .i64 n, .int .i64 b], 1, 0, some 0, true⟩, ⟨ints (y :: ys), 1, 1, some 0, false⟩, ⟨ints (x :: xs), 1, 2, some 0, false⟩] (⟨.exit 3, [(1, .ptr 0 0), (4, .sl 1 0 (y :: ys).length), (5, .sl 2 0 (x :: xs).length), (6, .int .i64 (r : Nat)), (7, .int .i64 ((if allF (fun j => !(r &&& ((y :: ys).getD j 0) == 0)) 0 ((y :: ys).length) = true then 1 else 0) : Nat))], [⟨[.int .i64 n, .int .i64 b], 1, 0, some 0, true⟩, ⟨ints (y :: ys), 1, 1, some 0, false⟩, ⟨ints (x :: xs), 1, 2, some 0, false⟩]⟩ : Out).x (⟨.exit 3, [(1, .ptr 0 0), (4, .sl 1 0 (y :: ys).length), (5, .sl 2 0 (x :: xs).length), (6, .int .i64 (r : Nat)), (7, .int .i64 ((if allF (fun j => !(r &&& ((y :: ys).getD j 0) == 0)) 0 ((y :: ys).length) = true then 1 else 0) : Nat))], [⟨[.int .i64 n, .int .i64 b], 1, 0, some 0, true⟩, ⟨ints (y :: ys), 1, 1, some 0, false⟩, ⟨ints (x :: xs), 1, 2, some 0, false⟩]⟩ : Out).e (⟨.exit 3, [(1, .ptr 0 0), (4, .sl 1 0 (y :: ys).length), (5, .sl 2 0 (x :: xs).length), (6, .int .i64 (r : Nat)), (7, .int .i64 ((if allF (fun j => !(r &&& ((y :: ys).getD j 0) == 0)) 0 ((y :: ys).length) = true then 1 else 0) : Nat))], [⟨[.int .i64 n, .int .i64 b], 1, 0, some 0, true⟩, ⟨ints (y :: ys), 1, 1, some 0, false⟩, ⟨ints (x :: xs), 1, 2, some 0, false⟩]⟩ : Out).h := by
  refine lp_st ((y :: ys).length) (fun _ => ()) (fun i _ => [(1, .ptr 0 0), (4, .sl 1 0 (y :: ys).length), (5, .sl 2 0 (x :: xs).length), (6, .int .i64 (r : Nat)), (7, .int .i64 ((if allF (fun j => !(r &&& ((y :: ys).getD j 0) == 0)) 0 (i) = true then 1 else 0) : Nat)), (8, .int .i64 (i : Nat))]) (fun i _ => [⟨[.int .i64 n, .int .i64 b], 1, 0, some 0, true⟩, ⟨ints (y :: ys), 1, 1, some 0, false⟩, ⟨ints (x :: xs), 1, 2, some 0, false⟩]) (fun _ => (⟨.exit 3, [(1, .ptr 0 0), (4, .sl 1 0 (y :: ys).length), (5, .sl 2 0 (x :: xs).length), (6, .int .i64 (r : Nat)), (7, .int .i64 ((if allF (fun j => !(r &&& ((y :: ys).getD j 0) == 0)) 0 ((y :: ys).length) = true then 1 else 0) : Nat))], [⟨[.int .i64 n, .int .i64 b], 1, 0, some 0, true⟩, ⟨ints (y :: ys), 1, 1, some 0, false⟩, ⟨ints (x :: xs), 1, 2, some 0, false⟩]⟩ : Out)) ?_ ?_ ((y :: ys).length) 0 (by omega)
  · intro i u_ hi hu_
    refine ⟨(), rfl, ?_⟩
    have hlt : decide ((i : Int) < ((y :: ys).length : Nat)) = true := decide_eq_true (by omega)
    have hgl := ints_get (l := y :: ys) (j := i) hi
    have hx := hl i hi
    have ba := b_and (x := r) (y := (y :: ys).getD i 0) (by omega) (by omega)
    have hq := ieq0 (r &&& (y :: ys).getD i 0)
    have hz := allF_s (fun j => !(r &&& ((y :: ys).getD j 0) == 0)) i
    cases hc : (r &&& (y :: ys).getD i 0 == 0)
    · rw [hc] at hq
      have hz2 : allF (fun j => !(r &&& ((y :: ys).getD j 0) == 0)) 0 (i + 1) = allF (fun j => !(r &&& ((y :: ys).getD j 0) == 0)) 0 i := by rw [hz, hc]; simp
      rw [hz2]
      unfold m10_1
      repeat' (first
        | refine ep_loadS rfl rfl rfl hgl ?_
        | (refine g_op ?_; first
          | refine ep_mov rfl ?_ | refine ep_load1 rfl rfl rfl rfl ?_
          | refine ep_bin rfl rfl (by first | exact ba | exact b_add (by omega) (by omega) | exact b_and (by omega) (by omega) | exact b_lss | exact b_eql) ?_ | refine ep_lenS rfl ?_ | refine ep_lenN rfl ?_
          | refine ep_lenE rfl ?_ | refine sp_idx rfl rfl rfl (by omega) rfl ?_ | refine ep_loadS rfl rfl rfl (by first | exact ints_get (by omega) | exact zints_get (by omega) | exact fget (by omega) | assumption) ?_)
        | (refine g_ops ?_; first | refine eo_none ?_ | refine eo_nil ?_)
        | (refine g_code ?_; first | refine ec_seq ?_ | refine ec_region ?_ | refine ec_block ?_ | refine ec_skip ?_ | refine ec_exit ?_ | refine ec_condT rfl ?_ | refine ec_condF rfl ?_ | refine ec_condTH rfl (by assumption) ?_ | refine ec_condFH rfl (by assumption) ?_)
        | refine ek_seqN ?_ | refine ek_seqX ?_ | refine ek_blkN ?_ | refine ek_blkR ?_ | refine ek_blkX ?_ | refine ek_blkY rfl ?_)
      exact rnd_on (by rfl) (scmp2 (by rfl) (by rfl) (by exact ⟨rfl, rfl, rfl⟩) (by rfl) (by first | rfl | (simp; done) | (simp [ints, prs]; done)) (by rfl) (by first | rfl | (simp; done) | (simp [ints, prs]; done)))
    rw [hc] at hq
    have hz2 : allF (fun j => !(r &&& ((y :: ys).getD j 0) == 0)) 0 (i + 1) = false := by rw [hz, hc]; simp
    rw [hz2]
    unfold m10_1
    repeat' (first
      | refine ep_loadS rfl rfl rfl hgl ?_
      | (refine g_op ?_; first
        | refine ep_mov rfl ?_ | refine ep_load1 rfl rfl rfl rfl ?_
        | refine ep_bin rfl rfl (by first | exact ba | exact b_add (by omega) (by omega) | exact b_and (by omega) (by omega) | exact b_lss | exact b_eql) ?_ | refine ep_lenS rfl ?_ | refine ep_lenN rfl ?_
        | refine ep_lenE rfl ?_ | refine sp_idx rfl rfl rfl (by omega) rfl ?_ | refine ep_loadS rfl rfl rfl (by first | exact ints_get (by omega) | exact zints_get (by omega) | exact fget (by omega) | assumption) ?_)
      | (refine g_ops ?_; first | refine eo_none ?_ | refine eo_nil ?_)
      | (refine g_code ?_; first | refine ec_seq ?_ | refine ec_region ?_ | refine ec_block ?_ | refine ec_skip ?_ | refine ec_exit ?_ | refine ec_condT rfl ?_ | refine ec_condF rfl ?_ | refine ec_condTH rfl (by assumption) ?_ | refine ec_condFH rfl (by assumption) ?_)
      | refine ek_seqN ?_ | refine ek_seqX ?_ | refine ek_blkN ?_ | refine ek_blkR ?_ | refine ek_blkX ?_ | refine ek_blkY rfl ?_)
    exact rnd_on (by rfl) (scmp2 (by rfl) (by rfl) (by exact ⟨rfl, rfl, rfl⟩) (by rfl) (by first | rfl | (simp; done) | (simp [ints, prs]; done)) (by rfl) (by first | rfl | (simp; done) | (simp [ints, prs]; done)))
  · intro u_ hu_
    have hlt : decide ((((y :: ys).length : Nat) : Int) < ((y :: ys).length : Nat)) = false := decide_eq_false (by omega)
    unfold m10_1
    repeat' (first
      | (refine g_op ?_; first
        | refine ep_mov rfl ?_ | refine ep_load1 rfl rfl rfl rfl ?_
        | refine ep_bin rfl rfl (by first | exact b_add (by omega) (by omega) | exact b_and (by omega) (by omega) | exact b_lss | exact b_eql) ?_ | refine ep_lenS rfl ?_ | refine ep_lenN rfl ?_ | refine ep_lenE rfl ?_
        | refine sp_idx rfl rfl rfl (by omega) rfl ?_ | refine ep_loadS rfl rfl rfl (by first | exact ints_get (by omega) | exact zints_get (by omega) | exact fget (by omega) | assumption) ?_)
      | (refine g_ops ?_; first | refine eo_none ?_ | refine eo_nil ?_)
      | (refine g_code ?_; first | refine ec_seq ?_ | refine ec_region ?_ | refine ec_block ?_ | refine ec_skip ?_ | refine ec_exit ?_ | refine ec_condT rfl ?_ | refine ec_condF rfl ?_ | refine ec_condTH rfl (by assumption) ?_ | refine ec_condFH rfl (by assumption) ?_)
      | refine ek_seqN ?_ | refine ek_seqX ?_ | refine ek_blkN ?_ | refine ek_blkR ?_ | refine ek_blkX ?_ | refine ek_blkY rfl ?_)
    exact rnd_out (by rfl) (by simp) (scmp2 (by rfl) (by rfl) (by exact ⟨rfl, rfl, rfl⟩) (by rfl) (by first | rfl | (simp; done) | (simp [ints, prs]; done)) (by rfl) (by first | rfl | (simp; done) | (simp [ints, prs]; done)))

theorem lp10_0_c (n b : Nat) (hn : n ≤ 4) (y : Nat) (ys : List Nat) (hll : (y :: ys).length ≤ 16) (hl : ∀ j, j < (y :: ys).length → (y :: ys).getD j 0 < 65536) (o : Out) (ho : (match selm (fun _ => true) (bn (trP (y :: ys))) (R2 n) with | [] => (⟨.exit 1, [(1, .ptr 0 0), (5, .emp)], [⟨[.int .i64 n, .int .i64 b], 1, 0, some 0, true⟩]⟩ : Out) | x :: xs => ⟨.exit 1, [(1, .ptr 0 0), (5, .sl 1 0 (x :: xs).length)], [⟨[.int .i64 n, .int .i64 b], 1, 0, some 0, true⟩, ⟨ints (x :: xs), 1, 1, some 0, false⟩]⟩) = o) :
    LpS cx 49 0 m10_0 [(1, .ptr 0 0), (4, .sl 1 0 (y :: ys).length), (5, .emp), (6, .int .i64 (0 : Nat))] [⟨[.int .i64 n, .int .i64 b], 1, 0, some 0, true⟩, ⟨ints (y :: ys), 1, 1, some 0, false⟩] o.x o.e o.h := by
  obtain ⟨h1, h2, h3, h4⟩ := shN hn
  subst ho
  refine lp_st (R2 n) (selm (fun _ => true) (bn (trP (y :: ys)))) (fun i s => match s with | [] => [(1, .ptr 0 0), (4, .sl 1 0 (y :: ys).length), (5, .emp), (6, .int .i64 (i : Nat))] | x :: xs => [(1, .ptr 0 0), (4, .sl 1 0 (y :: ys).length), (5, .sl 2 0 (x :: xs).length), (6, .int .i64 (i : Nat))]) (fun i s => match s with | [] => [⟨[.int .i64 n, .int .i64 b], 1, 0, some 0, true⟩, ⟨ints (y :: ys), 1, 1, some 0, false⟩] | x :: xs => [⟨[.int .i64 n, .int .i64 b], 1, 0, some 0, true⟩, ⟨ints (y :: ys), 1, 1, some 0, false⟩, ⟨ints (x :: xs), 1, 2, some 0, false⟩]) (fun s => match s with | [] => ⟨.exit 1, [(1, .ptr 0 0), (5, .emp)], [⟨[.int .i64 n, .int .i64 b], 1, 0, some 0, true⟩]⟩ | x :: xs => ⟨.exit 1, [(1, .ptr 0 0), (5, .sl 1 0 (x :: xs).length)], [⟨[.int .i64 n, .int .i64 b], 1, 0, some 0, true⟩, ⟨ints (x :: xs), 1, 1, some 0, false⟩]⟩) ?_ ?_ (R2 n) 0 (by omega)
  · intro i s hi hs
    have hlt : decide ((i : Int) < (R2 n : Nat)) = true := decide_eq_true (by omega)
    have hle : decide ((i : Int) ≤ (R2 n : Nat) - 1) = true := decide_eq_true (by omega)
    have hlen : s.length ≤ 16 := by have := selm_len (fun _ => true) (bn (trP (y :: ys))) i; rw [hs] at this; omega
    have hp : (fun _ => true) i = true := rfl
    have lpe := lptv_ce n b i (by omega) y ys hll hl
    have lpc := fun (x : Nat) (xs : List Nat) => lptv_cc n b i (by omega) y ys hll hl x xs
    rw [show (if allF (fun j => !(i &&& ((y :: ys).getD j 0) == 0)) 0 0 = true then 1 else 0) = 1 from rfl] at lpe
    simp only [show (if allF (fun j => !(i &&& ((y :: ys).getD j 0) == 0)) 0 0 = true then 1 else 0) = 1 from rfl] at lpc
    rw [show (if allF (fun j => !(i &&& ((y :: ys).getD j 0) == 0)) 0 (y :: ys).length = true then 1 else 0) = bn (trP (y :: ys)) i from rfl] at lpe
    simp only [show (if allF (fun j => !(i &&& ((y :: ys).getD j 0) == 0)) 0 (y :: ys).length = true then 1 else 0) = bn (trP (y :: ys)) i from rfl] at lpc
    cases s with
    | nil =>
      refine ⟨[(bn (trP (y :: ys))) i], by rw [selm_t (p := fun _ => true) hp, hs]; try rfl, ?_⟩
      unfold m10_0
      repeat' (first
        | refine sc_loop lpe rfl rfl ⟨rfl, rfl, rfl⟩ rfl rfl rfl ?_
        | refine sc_loop (lpc _ _) rfl rfl ⟨rfl, rfl, rfl⟩ rfl rfl rfl ?_
        | (refine g_op ?_; first
          | refine ep_mov rfl ?_ | refine ep_load1 rfl rfl rfl rfl ?_ | refine ep_fieldAddr rfl ?_
          | refine ep_call0 rfl (by first | exact ev106 _ hn) rfl rfl ?_
          | refine sp_call rfl rfl rfl rfl (by first | exact ev106 _ hn) ⟨rfl, rfl, rfl, rfl⟩ rfl rfl rfl ?_
          | refine ep_bin rfl rfl (by first | exact b_add (by omega) (by omega) | exact b_lss) ?_ | refine sp_bslice rfl rfl rfl rfl rfl ?_ | refine sp_push0 rfl (by first | exact .inl rfl | exact .inr rfl) rfl rfl rfl rfl rfl (by decide) rfl rfl rfl ?_
          | refine sp_push rfl rfl rfl rfl rfl rfl rfl (by first | exact ints_len _ | exact prs_len _ _ | exact zints_len _) (by omega) (Nat.zero_le _) rfl rfl rfl rfl rfl ?_)
        | (refine g_ops ?_; first | refine eo_none ?_ | refine eo_nil ?_)
        | (refine g_code ?_; first | refine ec_seq ?_ | refine ec_region ?_ | refine ec_block ?_ | refine ec_skip ?_ | refine ec_exit ?_ | refine ec_condT rfl ?_ | refine ec_condF rfl ?_ | refine ec_condTH rfl (by assumption) ?_ | refine ec_condFH rfl (by assumption) ?_)
        | refine ek_seqN ?_ | refine ek_seqX ?_ | refine ek_seqR ?_ | refine ek_blkN ?_ | refine ek_blkR ?_ | refine ek_blkX ?_ | refine ek_blkY rfl ?_)
      exact rnd_on (by rfl) (scmp2 (by rfl) (by rfl) (by exact ⟨rfl, rfl, rfl⟩) (by rfl) (by first | rfl | (simp; done) | (simp [ints, prs]; done)) (by rfl) (by first | rfl | (simp; done) | (simp [ints, prs]; done)))
    | cons x xs =>
      refine ⟨(x :: xs) ++ [(bn (trP (y :: ys))) i], by rw [selm_t (p := fun _ => true) hp, hs]; try rfl, ?_⟩
      unfold m10_0
      repeat' (first
        | refine sc_loop lpe rfl rfl ⟨rfl, rfl, rfl⟩ rfl rfl rfl ?_
        | refine sc_loop (lpc _ _) rfl rfl ⟨rfl, rfl, rfl⟩ rfl rfl rfl ?_
        | (refine g_op ?_; first
          | refine ep_mov rfl ?_ | refine ep_load1 rfl rfl rfl rfl ?_ | refine ep_fieldAddr rfl ?_
          | refine ep_call0 rfl (by first | exact ev106 _ hn) rfl rfl ?_
          | refine sp_call rfl rfl rfl rfl (by first | exact ev106 _ hn) ⟨rfl, rfl, rfl, rfl⟩ rfl rfl rfl ?_
          | refine ep_bin rfl rfl (by first | exact b_add (by omega) (by omega) | exact b_lss) ?_ | refine sp_bslice rfl rfl rfl rfl rfl ?_ | refine sp_push0 rfl (by first | exact .inl rfl | exact .inr rfl) rfl rfl rfl rfl rfl (by decide) rfl rfl rfl ?_
          | refine sp_push rfl rfl rfl rfl rfl rfl rfl (by first | exact ints_len _ | exact prs_len _ _ | exact zints_len _) (by omega) (Nat.zero_le _) rfl rfl rfl rfl rfl ?_)
        | (refine g_ops ?_; first | refine eo_none ?_ | refine eo_nil ?_)
        | (refine g_code ?_; first | refine ec_seq ?_ | refine ec_region ?_ | refine ec_block ?_ | refine ec_skip ?_ | refine ec_exit ?_ | refine ec_condT rfl ?_ | refine ec_condF rfl ?_ | refine ec_condTH rfl (by assumption) ?_ | refine ec_condFH rfl (by assumption) ?_)
        | refine ek_seqN ?_ | refine ek_seqX ?_ | refine ek_seqR ?_ | refine ek_blkN ?_ | refine ek_blkR ?_ | refine ek_blkX ?_ | refine ek_blkY rfl ?_)
      exact rnd_on (by rfl) (scmp2 (by rfl) (by rfl) (by exact ⟨rfl, rfl, rfl⟩) (by rfl) (by first | rfl | (simp; done) | (simp [ints, prs]; done)) (by rfl) (by first | rfl | (simp; done) | (simp [ints, prs]; done)))
  · intro s hs
    have hlt : decide (((R2 n : Nat) : Int) < (R2 n : Nat)) = false := decide_eq_false (by omega)
    have hle : decide (((R2 n : Nat) : Int) ≤ (R2 n : Nat) - 1) = false := decide_eq_false (by omega)
    cases s with
    | nil =>
      unfold m10_0
      repeat' (first
        | (refine g_op ?_; first
          | refine ep_mov rfl ?_ | refine ep_load1 rfl rfl rfl rfl ?_ | refine ep_fieldAddr rfl ?_
          | refine ep_call0 rfl (by first | exact ev106 _ hn) rfl rfl ?_
          | refine sp_call rfl rfl rfl rfl (by first | exact ev106 _ hn) ⟨rfl, rfl, rfl, rfl⟩ rfl rfl rfl ?_
          | refine ep_bin rfl rfl (by first | exact b_add (by omega) (by omega) | exact b_lss) ?_ | refine sp_bslice rfl rfl rfl rfl rfl ?_ | refine sp_push0 rfl (by first | exact .inl rfl | exact .inr rfl) rfl rfl rfl rfl rfl (by decide) rfl rfl rfl ?_
          | refine sp_push rfl rfl rfl rfl rfl rfl rfl (by first | exact ints_len _ | exact prs_len _ _ | exact zints_len _) (by omega) (Nat.zero_le _) rfl rfl rfl rfl rfl ?_)
        | (refine g_ops ?_; first | refine eo_none ?_ | refine eo_nil ?_)
        | (refine g_code ?_; first | refine ec_seq ?_ | refine ec_region ?_ | refine ec_block ?_ | refine ec_skip ?_ | refine ec_exit ?_ | refine ec_condT rfl ?_ | refine ec_condF rfl ?_ | refine ec_condTH rfl (by assumption) ?_ | refine ec_condFH rfl (by assumption) ?_)
        | refine ek_seqN ?_ | refine ek_seqX ?_ | refine ek_seqR ?_ | refine ek_blkN ?_ | refine ek_blkR ?_ | refine ek_blkX ?_ | refine ek_blkY rfl ?_)
      exact rnd_out (by rfl) (by simp) (scmp2 (by rfl) (by rfl) (by exact ⟨rfl, rfl, rfl⟩) (by rfl) (by first | rfl | (simp; done) | (simp [ints, prs]; done)) (by rfl) (by first | rfl | (simp; done) | (simp [ints, prs]; done)))
    | cons x xs =>
      unfold m10_0
      repeat' (first
        | (refine g_op ?_; first
          | refine ep_mov rfl ?_ | refine ep_load1 rfl rfl rfl rfl ?_ | refine ep_fieldAddr rfl ?_
          | refine ep_call0 rfl (by first | exact ev106 _ hn) rfl rfl ?_
          | refine sp_call rfl rfl rfl rfl (by first | exact ev106 _ hn) ⟨rfl, rfl, rfl, rfl⟩ rfl rfl rfl ?_
          | refine ep_bin rfl rfl (by first | exact b_add (by omega) (by omega) | exact b_lss) ?_ | refine sp_bslice rfl rfl rfl rfl rfl ?_ | refine sp_push0 rfl (by first | exact .inl rfl | exact .inr rfl) rfl rfl rfl rfl rfl (by decide) rfl rfl rfl ?_
          | refine sp_push rfl rfl rfl rfl rfl rfl rfl (by first | exact ints_len _ | exact prs_len _ _ | exact zints_len _) (by omega) (Nat.zero_le _) rfl rfl rfl rfl rfl ?_)
        | (refine g_ops ?_; first | refine eo_none ?_ | refine eo_nil ?_)
        | (refine g_code ?_; first | refine ec_seq ?_ | refine ec_region ?_ | refine ec_block ?_ | refine ec_skip ?_ | refine ec_exit ?_ | refine ec_condT rfl ?_ | refine ec_condF rfl ?_ | refine ec_condTH rfl (by assumption) ?_ | refine ec_condFH rfl (by assumption) ?_)
        | refine ek_seqN ?_ | refine ek_seqX ?_ | refine ek_seqR ?_ | refine ek_blkN ?_ | refine ek_blkR ?_ | refine ek_blkX ?_ | refine ek_blkY rfl ?_)
      exact rnd_out (by rfl) (by simp) (scmp2 (by rfl) (by rfl) (by exact ⟨rfl, rfl, rfl⟩) (by rfl) (by first | rfl | (simp; done) | (simp [ints, prs]; done)) (by rfl) (by first | rfl | (simp; done) | (simp [ints, prs]; done)))

theorem ev10 (n b : Nat) (a1 : n ≤ 4) (a3 : b < 65536) (hmo : monoB n b = true) (L M : List Nat) (hL : selm (enP n b 1 belT) idn (R2 n) = L) (hM : selm (enP n (pk (bn (trP L)) (R2 n)) 1 belT) idn (R2 n) = M) (i2 : Ev cx 103 [.agg [.int .i64 n, .int .i64 b]] [] (.bool true) []) :
    Ev cx 10 [.agg [.int .i64 n, .int .i64 b]] [] (.tup [slV .emp 0 M, .int .i64 0]) (slH 0 1 ints M) := by
  obtain ⟨h1, h2, h3, h4⟩ := shN a1
  have e2 := ev104 n b a1 a3
  rw [hmo] at e2
  have e3 := ev105_t n b 1 a1 a3
  have hle := selm_len (enP n b 1 belT) idn (R2 n)
  have hlt := fun j hj => (selm_lt (p := enP n b 1 belT) (n := R2 n) (j := j) hj).1
  rw [hL] at e3 hle hlt
  cases L with
  | nil =>
    obtain ⟨k1, k2⟩ := selm_all (g := bn (trP ([] : List Nat))) (R2 n)
    have e5 := fun p => ev107 n p (selm (fun _ => true) (bn (trP ([] : List Nat))) (R2 n)) a1 (by omega) (fun r hr => by rw [k2 r hr]; exact bn_le _ r)
    rw [show pk (fun r => (selm (fun _ => true) (bn (trP ([] : List Nat))) (R2 n)).getD r 0) (R2 n) = pk (bn (trP ([] : List Nat))) (R2 n) from pk_congr fun r hr => k2 r hr] at e5
    have hpl := pk_lt (g := bn (trP ([] : List Nat))) (n := R2 n) fun r _ => bn_le _ r
    have e6 := ev105_t n (pk (bn (trP ([] : List Nat))) (R2 n)) 1 a1 (by omega)
    rw [hM] at e6
    cases hs : selm (fun _ => true) (bn (trP ([] : List Nat))) (R2 n) with
    | nil => rw [hs] at k1; simp at k1; omega
    | cons x xs =>
      rw [hs] at e5
      have lp := lp10_0_e n b a1 _ (by rw [hs])
      cases M with
      | nil =>
        refine has10.eev rfl rfl ?_
        unfold m10
        repeat' (first
          | refine sc_loop lp rfl rfl ⟨rfl, rfl, rfl⟩ rfl rfl rfl ?_
          | (refine g_op ?_; first
            | refine ep_mov rfl ?_ | refine ep_load1 rfl rfl rfl rfl ?_ | refine ep_fieldAddr rfl ?_ | refine sp_loadN rfl rfl rfl rfl rfl ?_
            | refine ep_call0 rfl (by first | exact i2 | exact e2 | exact e3 | exact e5 _ | exact e6) rfl rfl ?_
            | refine sp_call rfl rfl rfl rfl (by first | exact i2 | exact e2 | exact e3 | exact e5 _ | exact e6) ⟨rfl, rfl, rfl, rfl⟩ rfl rfl rfl ?_
            | refine ep_not rfl ?_ | refine sp_box rfl rfl rfl rfl rfl ?_ | refine ep_empt ?_)
          | (refine g_ops ?_; first | refine eo_none ?_ | refine eo_nil ?_)
          | (refine g_code ?_; first | refine ec_seq ?_ | refine ec_region ?_ | refine ec_block ?_ | refine ec_skip ?_ | refine ec_ret ?_ | refine ec_condT rfl ?_ | refine ec_condF rfl ?_ | refine ec_condTH rfl (by assumption) ?_ | refine ec_condFH rfl (by assumption) ?_)
          | refine ek_seqN ?_ | refine ek_seqX ?_ | refine ek_seqR ?_ | refine ek_blkN ?_ | refine ek_blkR ?_ | refine ek_blkX ?_ | refine ek_blkY rfl ?_)
        refine sfin (.inr rfl) (by rfl) (by rfl) (by exact ⟨rfl, rfl, rfl⟩) (by rfl) (by rfl) (by rfl) (by first | rfl | (simp; done) | (simp [ints, prs]; done))
      | cons z zs =>
        refine has10.eev rfl rfl ?_
        unfold m10
        repeat' (first
          | refine sc_loop lp rfl rfl ⟨rfl, rfl, rfl⟩ rfl rfl rfl ?_
          | (refine g_op ?_; first
            | refine ep_mov rfl ?_ | refine ep_load1 rfl rfl rfl rfl ?_ | refine ep_fieldAddr rfl ?_ | refine sp_loadN rfl rfl rfl rfl rfl ?_
            | refine ep_call0 rfl (by first | exact i2 | exact e2 | exact e3 | exact e5 _ | exact e6) rfl rfl ?_
            | refine sp_call rfl rfl rfl rfl (by first | exact i2 | exact e2 | exact e3 | exact e5 _ | exact e6) ⟨rfl, rfl, rfl, rfl⟩ rfl rfl rfl ?_
            | refine ep_not rfl ?_ | refine sp_box rfl rfl rfl rfl rfl ?_ | refine ep_empt ?_)
          | (refine g_ops ?_; first | refine eo_none ?_ | refine eo_nil ?_)
          | (refine g_code ?_; first | refine ec_seq ?_ | refine ec_region ?_ | refine ec_block ?_ | refine ec_skip ?_ | refine ec_ret ?_ | refine ec_condT rfl ?_ | refine ec_condF rfl ?_ | refine ec_condTH rfl (by assumption) ?_ | refine ec_condFH rfl (by assumption) ?_)
          | refine ek_seqN ?_ | refine ek_seqX ?_ | refine ek_seqR ?_ | refine ek_blkN ?_ | refine ek_blkR ?_ | refine ek_blkX ?_ | refine ek_blkY rfl ?_)
        refine sfin (.inr rfl) (by rfl) (by rfl) (by exact ⟨rfl, rfl, rfl⟩) (by rfl) (by rfl) (by rfl) (by first | rfl | (simp; done) | (simp [ints, prs]; done))
  | cons y ys =>
    have hlL : ∀ j, j < (y :: ys).length → (y :: ys).getD j 0 < 65536 := fun j hj => by have := hlt j hj; omega
    obtain ⟨k1, k2⟩ := selm_all (g := bn (trP (y :: ys))) (R2 n)
    have e5 := fun p => ev107 n p (selm (fun _ => true) (bn (trP (y :: ys))) (R2 n)) a1 (by omega) (fun r hr => by rw [k2 r hr]; exact bn_le _ r)
    rw [show pk (fun r => (selm (fun _ => true) (bn (trP (y :: ys))) (R2 n)).getD r 0) (R2 n) = pk (bn (trP (y :: ys))) (R2 n) from pk_congr fun r hr => k2 r hr] at e5
    have hpl := pk_lt (g := bn (trP (y :: ys))) (n := R2 n) fun r _ => bn_le _ r
    have e6 := ev105_t n (pk (bn (trP (y :: ys))) (R2 n)) 1 a1 (by omega)
    rw [hM] at e6
    cases hs : selm (fun _ => true) (bn (trP (y :: ys))) (R2 n) with
    | nil => rw [hs] at k1; simp at k1; omega
    | cons x xs =>
      rw [hs] at e5
      have lp := lp10_0_c n b a1 y ys (by omega) hlL _ (by rw [hs])
      cases M with
      | nil =>
        refine has10.eev rfl rfl ?_
        unfold m10
        repeat' (first
          | refine sc_loop lp rfl rfl ⟨rfl, rfl, rfl⟩ rfl rfl rfl ?_
          | (refine g_op ?_; first
            | refine ep_mov rfl ?_ | refine ep_load1 rfl rfl rfl rfl ?_ | refine ep_fieldAddr rfl ?_ | refine sp_loadN rfl rfl rfl rfl rfl ?_
            | refine ep_call0 rfl (by first | exact i2 | exact e2 | exact e3 | exact e5 _ | exact e6) rfl rfl ?_
            | refine sp_call rfl rfl rfl rfl (by first | exact i2 | exact e2 | exact e3 | exact e5 _ | exact e6) ⟨rfl, rfl, rfl, rfl⟩ rfl rfl rfl ?_
            | refine ep_not rfl ?_ | refine sp_box rfl rfl rfl rfl rfl ?_ | refine ep_empt ?_)
          | (refine g_ops ?_; first | refine eo_none ?_ | refine eo_nil ?_)
          | (refine g_code ?_; first | refine ec_seq ?_ | refine ec_region ?_ | refine ec_block ?_ | refine ec_skip ?_ | refine ec_ret ?_ | refine ec_condT rfl ?_ | refine ec_condF rfl ?_ | refine ec_condTH rfl (by assumption) ?_ | refine ec_condFH rfl (by assumption) ?_)
          | refine ek_seqN ?_ | refine ek_seqX ?_ | refine ek_seqR ?_ | refine ek_blkN ?_ | refine ek_blkR ?_ | refine ek_blkX ?_ | refine ek_blkY rfl ?_)
        refine sfin (.inr rfl) (by rfl) (by rfl) (by exact ⟨rfl, rfl, rfl⟩) (by rfl) (by rfl) (by rfl) (by first | rfl | (simp; done) | (simp [ints, prs]; done))
      | cons z zs =>
        refine has10.eev rfl rfl ?_
        unfold m10
        repeat' (first
          | refine sc_loop lp rfl rfl ⟨rfl, rfl, rfl⟩ rfl rfl rfl ?_
          | (refine g_op ?_; first
            | refine ep_mov rfl ?_ | refine ep_load1 rfl rfl rfl rfl ?_ | refine ep_fieldAddr rfl ?_ | refine sp_loadN rfl rfl rfl rfl rfl ?_
            | refine ep_call0 rfl (by first | exact i2 | exact e2 | exact e3 | exact e5 _ | exact e6) rfl rfl ?_
            | refine sp_call rfl rfl rfl rfl (by first | exact i2 | exact e2 | exact e3 | exact e5 _ | exact e6) ⟨rfl, rfl, rfl, rfl⟩ rfl rfl rfl ?_
            | refine ep_not rfl ?_ | refine sp_box rfl rfl rfl rfl rfl ?_ | refine ep_empt ?_)
          | (refine g_ops ?_; first | refine eo_none ?_ | refine eo_nil ?_)
          | (refine g_code ?_; first | refine ec_seq ?_ | refine ec_region ?_ | refine ec_block ?_ | refine ec_skip ?_ | refine ec_ret ?_ | refine ec_condT rfl ?_ | refine ec_condF rfl ?_ | refine ec_condTH rfl (by assumption) ?_ | refine ec_condFH rfl (by assumption) ?_)
          | refine ek_seqN ?_ | refine ek_seqX ?_ | refine ek_seqR ?_ | refine ek_blkN ?_ | refine ek_blkR ?_ | refine ek_blkX ?_ | refine ek_blkY rfl ?_)
        refine sfin (.inr rfl) (by rfl) (by rfl) (by exact ⟨rfl, rfl, rfl⟩) (by rfl) (by rfl) (by rfl) (by first | rfl | (simp; done) | (simp [ints, prs]; done))
theorem ev10_bad (p t : Int) (h1 : isFn p t = false) : Ev cx 10 [.agg [.int .i64 p, .int .i64 t]] [] (.tup [.nils, .int .i64 1]) [] := by
  have e1 := ev103 p t
  rw [h1] at e1
  refine has10.eev rfl rfl ?_
  unfold m10
  repeat' (first
    | (refine g_op ?_; first
      | refine ep_mov rfl ?_ | refine ep_load1 rfl rfl rfl rfl ?_ | refine ep_fieldAddr rfl ?_ | refine sp_loadN rfl rfl rfl rfl rfl ?_
      | refine ep_call0 rfl (by first | exact e1) rfl rfl ?_
      | refine sp_call rfl rfl rfl rfl (by first | exact e1) ⟨rfl, rfl, rfl, rfl⟩ rfl rfl rfl ?_
      | refine ep_not rfl ?_ | refine sp_box rfl rfl rfl rfl rfl ?_ | refine ep_empt ?_)
    | (refine g_ops ?_; first | refine eo_none ?_ | refine eo_nil ?_)
    | (refine g_code ?_; first | refine ec_seq ?_ | refine ec_region ?_ | refine ec_block ?_ | refine ec_skip ?_ | refine ec_ret ?_ | refine ec_condT rfl ?_ | refine ec_condF rfl ?_ | refine ec_condTH rfl (by assumption) ?_ | refine ec_condFH rfl (by assumption) ?_)
    | refine ek_seqN ?_ | refine ek_seqX ?_ | refine ek_seqR ?_ | refine ek_blkN ?_ | refine ek_blkR ?_ | refine ek_blkX ?_ | refine ek_blkY rfl ?_)
  refine sfin (.inr rfl) (by rfl) (by rfl) (by exact ⟨rfl, rfl, rfl⟩) (by rfl) (by rfl) (by rfl) (by first | rfl | (simp; done) | (simp [ints, prs]; done))
theorem ev10_non (n b : Nat) (a1 : n ≤ 4) (a3 : b < 65536) (hmo : monoB n b = false) (i2 : Ev cx 103 [.agg [.int .i64 n, .int .i64 b]] [] (.bool true) []) : Ev cx 10 [.agg [.int .i64 n, .int .i64 b]] [] (.tup [.nils, .int .i64 5]) [] := by
  have e2 := ev104 n b a1 a3
  rw [hmo] at e2
  refine has10.eev rfl rfl ?_
  unfold m10
  repeat' (first
    | (refine g_op ?_; first
      | refine ep_mov rfl ?_ | refine ep_load1 rfl rfl rfl rfl ?_ | refine ep_fieldAddr rfl ?_ | refine sp_loadN rfl rfl rfl rfl rfl ?_
      | refine ep_call0 rfl (by first | exact i2 | exact e2) rfl rfl ?_
      | refine sp_call rfl rfl rfl rfl (by first | exact i2 | exact e2) ⟨rfl, rfl, rfl, rfl⟩ rfl rfl rfl ?_
      | refine ep_not rfl ?_ | refine sp_box rfl rfl rfl rfl rfl ?_ | refine ep_empt ?_)
    | (refine g_ops ?_; first | refine eo_none ?_ | refine eo_nil ?_)
    | (refine g_code ?_; first | refine ec_seq ?_ | refine ec_region ?_ | refine ec_block ?_ | refine ec_skip ?_ | refine ec_ret ?_ | refine ec_condT rfl ?_ | refine ec_condF rfl ?_ | refine ec_condTH rfl (by assumption) ?_ | refine ec_condFH rfl (by assumption) ?_)
    | refine ek_seqN ?_ | refine ek_seqX ?_ | refine ek_seqR ?_ | refine ek_blkN ?_ | refine ek_blkR ?_ | refine ek_blkX ?_ | refine ek_blkY rfl ?_)
  refine sfin (.inr rfl) (by rfl) (by rfl) (by exact ⟨rfl, rfl, rfl⟩) (by rfl) (by rfl) (by rfl) (by first | rfl | (simp; done) | (simp [ints, prs]; done))

end Go.Proofs.Ytokoboflpaklaaa
