/- What each function that the statement reaches returns. -/
import Derived.Test.YtdmpajkcpdjfbaaFnExactTransversalsOfTA
set_option linter.unusedVariables false
set_option linter.unusedSimpArgs false
set_option maxRecDepth 100000
set_option maxHeartbeats 4000000
namespace Go.Proofs.Ytdmpajkcpdjfbaa
open Go Go.Proofs.Ytdmpajkcpdjfbaa.Mi
attribute [local irreducible] code opsK opsDK gopK opK seqK blockK callK binV
attribute [local irreducible] R2 bt
-- (impl.Func).leastTrue$1
def m103 : MC := (.seq (.region [⟨(.mov (.k (.bool false))), (some 3), none⟩] false) (.seq (.region [⟨(.load (some 2) (.t 1)), (some 4), none⟩, ⟨(.mov (.t 0)), (some 5), none⟩, ⟨(.call 104 [(.t 4), (.t 5)]), (some 6), none⟩, ⟨(.bin .eql (.t 6) (.k (.int .i64 1))), (some 7), none⟩, ⟨(.mov (.t 7)), (some 3), none⟩] false) .ret))
theorem has103 : Has cx 103 8 m103 [(.tmp 3)] :=
  ⟨⟨Try.f103, Try.f103.body.getD .skip, by kernel_rfl, by kernel_rfl, by kernel_rfl, by kernel_rfl, by kernel_rfl, by kernel_rfl⟩⟩
theorem ev103 (n b r : Nat) (hb : b < 65536) (hr : r < 16) : Ev cx 103 [.int .i64 r, .ptr 0 0] [⟨[.int .i64 n, .int .i64 b], 1, 0, some 0, true⟩] (.bool (bt b r == 1)) [⟨[.int .i64 n, .int .i64 b], 1, 0, some 0, true⟩] := by
  have e1 := ev104 n b r (by omega) (by omega)
  refine has103.eev rfl rfl ?_
  unfold m103
  repeat' (first
    | (refine g_op ?_; first
      | refine ep_mov rfl ?_ | refine sp_loadN rfl rfl rfl rfl rfl ?_
      | refine ep_call0 rfl (by first | exact e1) rfl rfl ?_
      | refine sp_call rfl rfl rfl rfl (by first | exact e1) ⟨rfl, rfl, rfl, rfl⟩ rfl rfl rfl ?_
      | refine ep_bin rfl rfl (by first | exact b_add (by omega) (by omega) | exact b_sub (by omega) (by omega) | exact b_and (by omega) (by omega) | exact b_or (by omega) (by omega) | exact b_shr (by omega) | exact b_shl (by omega) (by omega) | exact b_lss | exact b_leq | exact b_gtr | exact b_geq | exact b_eql | exact b_neq) ?_)
    | (refine g_ops ?_; first | refine eo_none ?_ | refine eo_nil ?_)
    | (refine g_code ?_; first | refine ec_seq ?_ | refine ec_region ?_ | refine ec_ret ?_)
    | refine ek_seqN ?_ | refine ek_seqR ?_)
  refine sfin (.inr rfl) (by rfl) (by rfl) (by exact ⟨rfl, rfl, rfl⟩) (by rfl) (by rfl) (by exact congrArg V.bool (ieq1 (bt b r))) (by first | rfl | (simp; done) | (simp [ints, prs]; done))
theorem allFz (p : Nat → Bool) (i : Nat) : allF p i 0 = true := rfl
theorem ite_preT {P : Nat → Bool} {n : Nat} (A : Bool → Out) : (if allF (fun j => allF P 0 j) 0 n = true then A (allF P 0 n) else A false) = A (allF P 0 n) := by
  cases h : allF (fun j => allF P 0 j) 0 n
  · have : allF P 0 n = false := by
      cases hh : allF P 0 n
      · rfl
      · have : allF (fun j => allF P 0 j) 0 n = true := by
          rw [allF_iff]; intro j _ hj
          rw [allF_iff] at hh ⊢
          intro k h1 h2; exact hh k h1 (by omega)
        rw [this] at h; simp at h
    rw [this]; rfl
  · rfl
theorem ite_pre2 {E : Bool} {Q : Nat → Bool} {n : Nat} (A : Bool → Out) : (if allF (fun j => E && allF Q 0 j) 0 n = true then A (E && allF Q 0 n) else A false) = A (E && allF Q 0 n) := by
  cases E with
  | false => 
    cases allF (fun j => false && allF Q 0 j) 0 n <;> rfl
  | true =>
    have := ite_preT (P := Q) (n := n) A
    simp only [Bool.true_and]; exact this
def enQ (b v r : Nat) (bel : Nat → Nat → Bool) (s : Nat) : Bool := s == r || (bt b s != v || !bel r s)
def enP (n b v : Nat) (bel : Nat → Nat → Bool) (r : Nat) : Bool := (((bt b r : Nat) : Int) == (v : Nat)) && allF (enQ b v r bel) 0 (R2 n)
-- spec.l07Ends
def m54_1 : MC := (.seq (.seq (.region [⟨(.mov (.t 11)), (some 27), none⟩, ⟨(.mov (.t 8)), (some 28), none⟩, ⟨(.bin .lss (.t 27) (.t 28)), (some 29), none⟩, ⟨(.mov (.t 29)), (some 30), none⟩, ⟨(.mov (.t 10)), (some 31), (some (30, true))⟩, ⟨(.pick (.t 30) (.t 31) (.k (.bool false))), (some 32), none⟩] false) (.cond (.t 32) .skip (.exit 2))) (.seq (.block 3 (.seq (.region [⟨(.mov (.t 11)), (some 35), none⟩, ⟨(.mov (.t 9)), (some 36), none⟩, ⟨(.call 99 [(.t 35), (.t 36)]), (some 37), none⟩, ⟨(.mov (.t 37)), (some 12), none⟩] false) (.seq (.seq (.region [⟨(.mov (.t 2)), (some 38), none⟩] false) (.cond (.t 38) (.region [⟨(.mov (.t 9)), (some 39), none⟩, ⟨(.mov (.t 11)), (some 40), none⟩, ⟨(.call 99 [(.t 39), (.t 40)]), (some 41), none⟩, ⟨(.mov (.t 41)), (some 12), none⟩] false) .skip)) (.region [⟨(.mov (.t 11)), (some 42), none⟩, ⟨(.mov (.t 9)), (some 43), none⟩, ⟨(.bin .eql (.t 42) (.t 43)), (some 44), none⟩, ⟨(.mov (.t 44)), (some 45), none⟩, ⟨(.load (some 2) (.t 3)), (some 46), (some (45, false))⟩, ⟨(.mov (.t 11)), (some 47), (some (45, false))⟩, ⟨(.call 57 [(.t 46), (.t 47)]), (some 48), (some (45, false))⟩, ⟨(.mov (.t 1)), (some 49), (some (45, false))⟩, ⟨(.bin .neq (.t 48) (.t 49)), (some 50), (some (45, false))⟩, ⟨(.pick (.t 45) (.k (.bool true)) (.t 50)), (some 51), none⟩, ⟨(.mov (.t 51)), (some 52), none⟩, ⟨(.mov (.t 12)), (some 53), (some (52, false))⟩, ⟨(.un .not (.t 53)), (some 54), (some (52, false))⟩, ⟨(.pick (.t 52) (.k (.bool true)) (.t 54)), (some 55), none⟩, ⟨(.mov (.t 55)), (some 10), none⟩] false)))) (.region [⟨(.mov (.t 11)), (some 33), none⟩, ⟨(.bin .add (.t 33) (.k (.int .i64 1))), (some 34), none⟩, ⟨(.mov (.t 34)), (some 11), none⟩] false)))
def m54_0 : MC := (.seq (.seq (.region [⟨(.mov (.t 9)), (some 17), none⟩, ⟨(.mov (.t 8)), (some 18), none⟩, ⟨(.bin .lss (.t 17) (.t 18)), (some 19), none⟩] false) (.cond (.t 19) .skip (.exit 0))) (.seq (.block 1 (.seq (.region [⟨(.load (some 2) (.t 3)), (some 22), none⟩, ⟨(.mov (.t 9)), (some 23), none⟩, ⟨(.call 57 [(.t 22), (.t 23)]), (some 24), none⟩, ⟨(.mov (.t 1)), (some 25), none⟩, ⟨(.bin .eql (.t 24) (.t 25)), (some 26), none⟩, ⟨(.mov (.t 26)), (some 10), none⟩] false) (.seq (.seq (.region [⟨(.mov (.k (.int .i64 0))), (some 11), none⟩] false) (.block 2 (.loop m54_1))) (.seq (.region [⟨(.mov (.t 10)), (some 56), none⟩] false) (.cond (.t 56) (.region [⟨(.mov (.t 7)), (some 57), none⟩, ⟨(.mov (.t 9)), (some 58), none⟩, ⟨(.bslice 1 [(.int .i64 0)] 1 [(0, (1, (.t 58)))]), (some 59), none⟩, ⟨(.append 1 8 (.t 57) (.t 59)), (some 60), none⟩, ⟨(.mov (.t 60)), (some 7), none⟩] false) .skip))))) (.region [⟨(.mov (.t 9)), (some 20), none⟩, ⟨(.bin .add (.t 20) (.k (.int .i64 1))), (some 21), none⟩, ⟨(.mov (.t 21)), (some 9), none⟩] false)))
def m54 : MC := (.seq (.region [⟨(.box (.t 0)), (some 3), none⟩, ⟨(.mov (.k .nils)), (some 6), none⟩] false) (.seq (.region [⟨.empt, (some 13), none⟩, ⟨(.fieldAddr 0 (.t 3)), (some 14), none⟩, ⟨(.load none (.t 14)), (some 15), none⟩, ⟨(.call 58 [(.t 15)]), (some 16), none⟩, ⟨(.mov (.t 13)), (some 7), none⟩, ⟨(.mov (.t 16)), (some 8), none⟩] false) (.seq (.seq (.region [⟨(.mov (.k (.int .i64 0))), (some 9), none⟩] false) (.block 0 (.loop m54_0))) (.seq (.region [⟨(.mov (.t 7)), (some 61), none⟩, ⟨(.mov (.t 61)), (some 6), none⟩] false) .ret))))
theorem has54 : Has cx 54 62 m54 [(.tmp 6)] :=
  ⟨⟨Try.f54, Try.f54.body.getD .skip, by kernel_rfl, by kernel_rfl, by kernel_rfl, by kernel_rfl, by kernel_rfl, by kernel_rfl⟩⟩
theorem lpen_f_e (n b v r : Nat) (hn : n ≤ 4) (hb : b < 65536) (hr : r < R2 n) (o : Out) (ho : (if allF (fun j => (((bt b r : Nat) : Int) == (v : Nat)) && allF (enQ b v r (fun r s => s &&& r == r)) 0 j) 0 (R2 n) = true then (⟨.exit 2, [(1, .int .i64 (v : Nat)), (2, .bool false), (3, .ptr 0 0), (7, .emp), (8, .int .i64 (R2 n : Nat)), (9, .int .i64 (r : Nat)), (10, .bool ((((bt b r : Nat) : Int) == (v : Nat)) && allF (enQ b v r (fun r s => s &&& r == r)) 0 (R2 n)))], [⟨[.int .i64 n, .int .i64 b], 1, 0, some 0, true⟩]⟩ : Out) else ⟨.exit 2, [(1, .int .i64 (v : Nat)), (2, .bool false), (3, .ptr 0 0), (7, .emp), (8, .int .i64 (R2 n : Nat)), (9, .int .i64 (r : Nat)), (10, .bool false)], [⟨[.int .i64 n, .int .i64 b], 1, 0, some 0, true⟩]⟩) = o) :
    LpS cx 62 0 m54_1 [(1, .int .i64 (v : Nat)), (2, .bool false), (3, .ptr 0 0), (7, .emp), (8, .int .i64 (R2 n : Nat)), (9, .int .i64 (r : Nat)), (10, .bool ((((bt b r : Nat) : Int) == (v : Nat)) && allF (enQ b v r (fun r s => s &&& r == r)) 0 (0))), (11, .int .i64 (0 : Nat))] [⟨[.int .i64 n, .int .i64 b], 1, 0, some 0, true⟩] o.x o.e o.h := by
  obtain ⟨h1, h2, h3, h4⟩ := shN hn
  refine lp_all (R2 n) (fun j => (((bt b r : Nat) : Int) == (v : Nat)) && allF (enQ b v r (fun r s => s &&& r == r)) 0 j) (fun i => [(1, .int .i64 (v : Nat)), (2, .bool false), (3, .ptr 0 0), (7, .emp), (8, .int .i64 (R2 n : Nat)), (9, .int .i64 (r : Nat)), (10, .bool ((((bt b r : Nat) : Int) == (v : Nat)) && allF (enQ b v r (fun r s => s &&& r == r)) 0 (i))), (11, .int .i64 (i : Nat))]) (fun i => [⟨[.int .i64 n, .int .i64 b], 1, 0, some 0, true⟩]) _ _ ?_ ?_ ?_ (R2 n) 0 o (by omega) ho
  · intro i hi hp
    have hlt : decide ((i : Int) < (R2 n : Nat)) = true := decide_eq_true (by omega)
    have hp' : ((((bt b r : Nat) : Int) == (v : Nat)) && allF (enQ b v r (fun r s => s &&& r == r)) 0 i) = true := hp
    have e1 := ev99 i r (by omega) (by omega)
    have e2 := ev99 r i (by omega) (by omega)
    have e3 := ev57 n b i (by omega) (by omega)
    have hA := ((Bool.and_eq_true _ _).mp hp').2
    have hE := ((Bool.and_eq_true _ _).mp hp').1
    have hz : ((((bt b r : Nat) : Int) == (v : Nat)) && allF (enQ b v r (fun r s => s &&& r == r)) 0 (i + 1)) = enQ b v r (fun r s => s &&& r == r) i := by rw [allF_s, hA, hE, Bool.true_and, Bool.true_and]
    rw [hz, hp']
    have w1 := ieq i r
    have w2 := ine (bt b i) v
    have hQ : enQ b v r (fun r s => s &&& r == r) i = (i == r || (bt b i != v || !(i &&& r == r))) := rfl
    rw [hQ]
    cases c1 : (i == r)
    · rw [c1] at w1
      cases c2 : (bt b i != v)
      · rw [c2] at w2
        unfold m54_1
        repeat' (first
          | (refine g_op ?_; first
            | refine ep_mov rfl ?_ | refine sp_loadN rfl rfl rfl rfl rfl ?_
            | refine ep_call0 rfl (by first | exact e1 | exact e2 | exact e3) rfl rfl ?_
            | refine sp_call rfl rfl rfl rfl (by first | exact e1 | exact e2 | exact e3) ⟨rfl, rfl, rfl, rfl⟩ rfl rfl rfl ?_
            | refine ep_bin rfl rfl (by first | exact b_add (by omega) (by omega) | exact b_sub (by omega) (by omega) | exact b_and (by omega) (by omega) | exact b_or (by omega) (by omega) | exact b_shr (by omega) | exact b_shl (by omega) (by omega) | exact b_lss | exact b_leq | exact b_gtr | exact b_geq | exact b_eql | exact b_neq) ?_
            | refine ep_pickT rfl rfl ?_ | refine ep_pickF rfl rfl ?_ | refine ep_pickTH rfl (by assumption) rfl ?_ | refine ep_pickFH rfl (by assumption) rfl ?_ | refine ep_not rfl ?_)
          | (refine g_ops ?_; first | refine eo_none ?_ | refine eo_nil ?_ | refine eo_yes rfl ?_ | refine eo_no rfl ?_ | refine eo_und rfl ?_ | refine eo_yesH rfl (by assumption) ?_ | refine eo_noH rfl (by assumption) ?_)
          | (refine g_code ?_; first | refine ec_seq ?_ | refine ec_region ?_ | refine ec_block ?_ | refine ec_skip ?_ | refine ec_exit ?_ | refine ec_condT rfl ?_ | refine ec_condF rfl ?_ | refine ec_condTH rfl (by assumption) ?_ | refine ec_condFH rfl (by assumption) ?_)
          | refine ek_seqN ?_ | refine ek_seqX ?_ | refine ek_blkN ?_ | refine ek_blkR ?_ | refine ek_blkX ?_ | refine ek_blkY rfl ?_)
        exact rnd_on (by rfl) (scmp2 (by rfl) (by rfl) (by exact ⟨rfl, rfl, rfl⟩) (by rfl) (by first | rfl | (simp; done) | (simp [ints, prs]; done)) (by rfl) (by first | rfl | (simp; done) | (simp [ints, prs]; done)))
      · rw [c2] at w2
        unfold m54_1
        repeat' (first
          | (refine g_op ?_; first
            | refine ep_mov rfl ?_ | refine sp_loadN rfl rfl rfl rfl rfl ?_
            | refine ep_call0 rfl (by first | exact e1 | exact e2 | exact e3) rfl rfl ?_
            | refine sp_call rfl rfl rfl rfl (by first | exact e1 | exact e2 | exact e3) ⟨rfl, rfl, rfl, rfl⟩ rfl rfl rfl ?_
            | refine ep_bin rfl rfl (by first | exact b_add (by omega) (by omega) | exact b_sub (by omega) (by omega) | exact b_and (by omega) (by omega) | exact b_or (by omega) (by omega) | exact b_shr (by omega) | exact b_shl (by omega) (by omega) | exact b_lss | exact b_leq | exact b_gtr | exact b_geq | exact b_eql | exact b_neq) ?_
            | refine ep_pickT rfl rfl ?_ | refine ep_pickF rfl rfl ?_ | refine ep_pickTH rfl (by assumption) rfl ?_ | refine ep_pickFH rfl (by assumption) rfl ?_ | refine ep_not rfl ?_)
          | (refine g_ops ?_; first | refine eo_none ?_ | refine eo_nil ?_ | refine eo_yes rfl ?_ | refine eo_no rfl ?_ | refine eo_und rfl ?_ | refine eo_yesH rfl (by assumption) ?_ | refine eo_noH rfl (by assumption) ?_)
          | (refine g_code ?_; first | refine ec_seq ?_ | refine ec_region ?_ | refine ec_block ?_ | refine ec_skip ?_ | refine ec_exit ?_ | refine ec_condT rfl ?_ | refine ec_condF rfl ?_ | refine ec_condTH rfl (by assumption) ?_ | refine ec_condFH rfl (by assumption) ?_)
          | refine ek_seqN ?_ | refine ek_seqX ?_ | refine ek_blkN ?_ | refine ek_blkR ?_ | refine ek_blkX ?_ | refine ek_blkY rfl ?_)
        exact rnd_on (by rfl) (scmp2 (by rfl) (by rfl) (by exact ⟨rfl, rfl, rfl⟩) (by rfl) (by first | rfl | (simp; done) | (simp [ints, prs]; done)) (by rfl) (by first | rfl | (simp; done) | (simp [ints, prs]; done)))
    rw [c1] at w1
    unfold m54_1
    repeat' (first
      | (refine g_op ?_; first
        | refine ep_mov rfl ?_ | refine sp_loadN rfl rfl rfl rfl rfl ?_
        | refine ep_call0 rfl (by first | exact e1 | exact e2 | exact e3) rfl rfl ?_
        | refine sp_call rfl rfl rfl rfl (by first | exact e1 | exact e2 | exact e3) ⟨rfl, rfl, rfl, rfl⟩ rfl rfl rfl ?_
        | refine ep_bin rfl rfl (by first | exact b_add (by omega) (by omega) | exact b_sub (by omega) (by omega) | exact b_and (by omega) (by omega) | exact b_or (by omega) (by omega) | exact b_shr (by omega) | exact b_shl (by omega) (by omega) | exact b_lss | exact b_leq | exact b_gtr | exact b_geq | exact b_eql | exact b_neq) ?_
        | refine ep_pickT rfl rfl ?_ | refine ep_pickF rfl rfl ?_ | refine ep_pickTH rfl (by assumption) rfl ?_ | refine ep_pickFH rfl (by assumption) rfl ?_ | refine ep_not rfl ?_)
      | (refine g_ops ?_; first | refine eo_none ?_ | refine eo_nil ?_ | refine eo_yes rfl ?_ | refine eo_no rfl ?_ | refine eo_und rfl ?_ | refine eo_yesH rfl (by assumption) ?_ | refine eo_noH rfl (by assumption) ?_)
      | (refine g_code ?_; first | refine ec_seq ?_ | refine ec_region ?_ | refine ec_block ?_ | refine ec_skip ?_ | refine ec_exit ?_ | refine ec_condT rfl ?_ | refine ec_condF rfl ?_ | refine ec_condTH rfl (by assumption) ?_ | refine ec_condFH rfl (by assumption) ?_)
      | refine ek_seqN ?_ | refine ek_seqX ?_ | refine ek_blkN ?_ | refine ek_blkR ?_ | refine ek_blkX ?_ | refine ek_blkY rfl ?_)
    exact rnd_on (by rfl) (scmp2 (by rfl) (by rfl) (by exact ⟨rfl, rfl, rfl⟩) (by rfl) (by first | rfl | (simp; done) | (simp [ints, prs]; done)) (by rfl) (by first | rfl | (simp; done) | (simp [ints, prs]; done)))
  · intro i hi hp
    have hlt : decide ((i : Int) < (R2 n : Nat)) = true := decide_eq_true (by omega)
    have hp' : ((((bt b r : Nat) : Int) == (v : Nat)) && allF (enQ b v r (fun r s => s &&& r == r)) 0 i) = false := hp
    have e1 := ev99 i r (by omega) (by omega)
    have e2 := ev99 r i (by omega) (by omega)
    have e3 := ev57 n b i (by omega) (by omega)
    rw [hp']
    unfold m54_1
    repeat' (first
      | (refine g_op ?_; first
        | refine ep_mov rfl ?_ | refine sp_loadN rfl rfl rfl rfl rfl ?_
        | refine ep_call0 rfl (by first | exact e1 | exact e2 | exact e3) rfl rfl ?_
        | refine sp_call rfl rfl rfl rfl (by first | exact e1 | exact e2 | exact e3) ⟨rfl, rfl, rfl, rfl⟩ rfl rfl rfl ?_
        | refine ep_bin rfl rfl (by first | exact b_add (by omega) (by omega) | exact b_sub (by omega) (by omega) | exact b_and (by omega) (by omega) | exact b_or (by omega) (by omega) | exact b_shr (by omega) | exact b_shl (by omega) (by omega) | exact b_lss | exact b_leq | exact b_gtr | exact b_geq | exact b_eql | exact b_neq) ?_
        | refine ep_pickT rfl rfl ?_ | refine ep_pickF rfl rfl ?_ | refine ep_pickTH rfl (by assumption) rfl ?_ | refine ep_pickFH rfl (by assumption) rfl ?_ | refine ep_not rfl ?_)
      | (refine g_ops ?_; first | refine eo_none ?_ | refine eo_nil ?_ | refine eo_yes rfl ?_ | refine eo_no rfl ?_ | refine eo_und rfl ?_ | refine eo_yesH rfl (by assumption) ?_ | refine eo_noH rfl (by assumption) ?_)
      | (refine g_code ?_; first | refine ec_seq ?_ | refine ec_region ?_ | refine ec_block ?_ | refine ec_skip ?_ | refine ec_exit ?_ | refine ec_condT rfl ?_ | refine ec_condF rfl ?_ | refine ec_condTH rfl (by assumption) ?_ | refine ec_condFH rfl (by assumption) ?_)
      | refine ek_seqN ?_ | refine ek_seqX ?_ | refine ek_blkN ?_ | refine ek_blkR ?_ | refine ek_blkX ?_ | refine ek_blkY rfl ?_)
    exact rnd_out (by rfl) (by simp) (scmp2 (by rfl) (by rfl) (by exact ⟨rfl, rfl, rfl⟩) (by rfl) (by first | rfl | (simp; done) | (simp [ints, prs]; done)) (by rfl) (by first | rfl | (simp; done) | (simp [ints, prs]; done)))
  · have hlt : decide (((R2 n : Nat) : Int) < (R2 n : Nat)) = false := decide_eq_false (by omega)
    unfold m54_1
    repeat' (first
      | (refine g_op ?_; first
        | refine ep_mov rfl ?_ | refine sp_loadN rfl rfl rfl rfl rfl ?_
        | refine ep_bin rfl rfl (by first | exact b_add (by omega) (by omega) | exact b_sub (by omega) (by omega) | exact b_and (by omega) (by omega) | exact b_or (by omega) (by omega) | exact b_shr (by omega) | exact b_shl (by omega) (by omega) | exact b_lss | exact b_leq | exact b_gtr | exact b_geq | exact b_eql | exact b_neq) ?_
        | refine ep_pickT rfl rfl ?_ | refine ep_pickF rfl rfl ?_ | refine ep_pickTH rfl (by assumption) rfl ?_ | refine ep_pickFH rfl (by assumption) rfl ?_ | refine ep_not rfl ?_)
      | (refine g_ops ?_; first | refine eo_none ?_ | refine eo_nil ?_ | refine eo_yes rfl ?_ | refine eo_no rfl ?_ | refine eo_und rfl ?_ | refine eo_yesH rfl (by assumption) ?_ | refine eo_noH rfl (by assumption) ?_)
      | (refine g_code ?_; first | refine ec_seq ?_ | refine ec_region ?_ | refine ec_block ?_ | refine ec_skip ?_ | refine ec_exit ?_ | refine ec_condT rfl ?_ | refine ec_condF rfl ?_ | refine ec_condTH rfl (by assumption) ?_ | refine ec_condFH rfl (by assumption) ?_)
      | refine ek_seqN ?_ | refine ek_seqX ?_ | refine ek_blkN ?_ | refine ek_blkR ?_ | refine ek_blkX ?_ | refine ek_blkY rfl ?_)
    exact rnd_out (by rfl) (by simp) (scmp2 (by rfl) (by rfl) (by exact ⟨rfl, rfl, rfl⟩) (by rfl) (by first | rfl | (simp; done) | (simp [ints, prs]; done)) (by rfl) (by first | rfl | (simp; done) | (simp [ints, prs]; done)))

theorem lpen_f_c (n b v r : Nat) (hn : n ≤ 4) (hb : b < 65536) (hr : r < R2 n) (x : Nat) (xs : List Nat) (o : Out) (ho : (if allF (fun j => (((bt b r : Nat) : Int) == (v : Nat)) && allF (enQ b v r (fun r s => s &&& r == r)) 0 j) 0 (R2 n) = true then (⟨.exit 2, [(1, .int .i64 (v : Nat)), (2, .bool false), (3, .ptr 0 0), (7, .sl 1 0 (x :: xs).length), (8, .int .i64 (R2 n : Nat)), (9, .int .i64 (r : Nat)), (10, .bool ((((bt b r : Nat) : Int) == (v : Nat)) && allF (enQ b v r (fun r s => s &&& r == r)) 0 (R2 n)))], [⟨[.int .i64 n, .int .i64 b], 1, 0, some 0, true⟩, ⟨ints (x :: xs), 1, 1, some 0, false⟩]⟩ : Out) else ⟨.exit 2, [(1, .int .i64 (v : Nat)), (2, .bool false), (3, .ptr 0 0), (7, .sl 1 0 (x :: xs).length), (8, .int .i64 (R2 n : Nat)), (9, .int .i64 (r : Nat)), (10, .bool false)], [⟨[.int .i64 n, .int .i64 b], 1, 0, some 0, true⟩, ⟨ints (x :: xs), 1, 1, some 0, false⟩]⟩) = o) :
    LpS cx 62 0 m54_1 [(1, .int .i64 (v : Nat)), (2, .bool false), (3, .ptr 0 0), (7, .sl 1 0 (x :: xs).length), (8, .int .i64 (R2 n : Nat)), (9, .int .i64 (r : Nat)), (10, .bool ((((bt b r : Nat) : Int) == (v : Nat)) && allF (enQ b v r (fun r s => s &&& r == r)) 0 (0))), (11, .int .i64 (0 : Nat))] [⟨[.int .i64 n, .int .i64 b], 1, 0, some 0, true⟩, ⟨ints (x :: xs), 1, 1, some 0, false⟩] o.x o.e o.h := by
  obtain ⟨h1, h2, h3, h4⟩ := shN hn
  refine lp_all (R2 n) (fun j => (((bt b r : Nat) : Int) == (v : Nat)) && allF (enQ b v r (fun r s => s &&& r == r)) 0 j) (fun i => [(1, .int .i64 (v : Nat)), (2, .bool false), (3, .ptr 0 0), (7, .sl 1 0 (x :: xs).length), (8, .int .i64 (R2 n : Nat)), (9, .int .i64 (r : Nat)), (10, .bool ((((bt b r : Nat) : Int) == (v : Nat)) && allF (enQ b v r (fun r s => s &&& r == r)) 0 (i))), (11, .int .i64 (i : Nat))]) (fun i => [⟨[.int .i64 n, .int .i64 b], 1, 0, some 0, true⟩, ⟨ints (x :: xs), 1, 1, some 0, false⟩]) _ _ ?_ ?_ ?_ (R2 n) 0 o (by omega) ho
  · intro i hi hp
    have hlt : decide ((i : Int) < (R2 n : Nat)) = true := decide_eq_true (by omega)
    have hp' : ((((bt b r : Nat) : Int) == (v : Nat)) && allF (enQ b v r (fun r s => s &&& r == r)) 0 i) = true := hp
    have e1 := ev99 i r (by omega) (by omega)
    have e2 := ev99 r i (by omega) (by omega)
    have e3 := ev57 n b i (by omega) (by omega)
    have hA := ((Bool.and_eq_true _ _).mp hp').2
    have hE := ((Bool.and_eq_true _ _).mp hp').1
    have hz : ((((bt b r : Nat) : Int) == (v : Nat)) && allF (enQ b v r (fun r s => s &&& r == r)) 0 (i + 1)) = enQ b v r (fun r s => s &&& r == r) i := by rw [allF_s, hA, hE, Bool.true_and, Bool.true_and]
    rw [hz, hp']
    have w1 := ieq i r
    have w2 := ine (bt b i) v
    have hQ : enQ b v r (fun r s => s &&& r == r) i = (i == r || (bt b i != v || !(i &&& r == r))) := rfl
    rw [hQ]
    cases c1 : (i == r)
    · rw [c1] at w1
      cases c2 : (bt b i != v)
      · rw [c2] at w2
        unfold m54_1
        repeat' (first
          | (refine g_op ?_; first
            | refine ep_mov rfl ?_ | refine sp_loadN rfl rfl rfl rfl rfl ?_
            | refine ep_call0 rfl (by first | exact e1 | exact e2 | exact e3) rfl rfl ?_
            | refine sp_call rfl rfl rfl rfl (by first | exact e1 | exact e2 | exact e3) ⟨rfl, rfl, rfl, rfl⟩ rfl rfl rfl ?_
            | refine ep_bin rfl rfl (by first | exact b_add (by omega) (by omega) | exact b_sub (by omega) (by omega) | exact b_and (by omega) (by omega) | exact b_or (by omega) (by omega) | exact b_shr (by omega) | exact b_shl (by omega) (by omega) | exact b_lss | exact b_leq | exact b_gtr | exact b_geq | exact b_eql | exact b_neq) ?_
            | refine ep_pickT rfl rfl ?_ | refine ep_pickF rfl rfl ?_ | refine ep_pickTH rfl (by assumption) rfl ?_ | refine ep_pickFH rfl (by assumption) rfl ?_ | refine ep_not rfl ?_)
          | (refine g_ops ?_; first | refine eo_none ?_ | refine eo_nil ?_ | refine eo_yes rfl ?_ | refine eo_no rfl ?_ | refine eo_und rfl ?_ | refine eo_yesH rfl (by assumption) ?_ | refine eo_noH rfl (by assumption) ?_)
          | (refine g_code ?_; first | refine ec_seq ?_ | refine ec_region ?_ | refine ec_block ?_ | refine ec_skip ?_ | refine ec_exit ?_ | refine ec_condT rfl ?_ | refine ec_condF rfl ?_ | refine ec_condTH rfl (by assumption) ?_ | refine ec_condFH rfl (by assumption) ?_)
          | refine ek_seqN ?_ | refine ek_seqX ?_ | refine ek_blkN ?_ | refine ek_blkR ?_ | refine ek_blkX ?_ | refine ek_blkY rfl ?_)
        exact rnd_on (by rfl) (scmp2 (by rfl) (by rfl) (by exact ⟨rfl, rfl, rfl⟩) (by rfl) (by first | rfl | (simp; done) | (simp [ints, prs]; done)) (by rfl) (by first | rfl | (simp; done) | (simp [ints, prs]; done)))
      · rw [c2] at w2
        unfold m54_1
        repeat' (first
          | (refine g_op ?_; first
            | refine ep_mov rfl ?_ | refine sp_loadN rfl rfl rfl rfl rfl ?_
            | refine ep_call0 rfl (by first | exact e1 | exact e2 | exact e3) rfl rfl ?_
            | refine sp_call rfl rfl rfl rfl (by first | exact e1 | exact e2 | exact e3) ⟨rfl, rfl, rfl, rfl⟩ rfl rfl rfl ?_
            | refine ep_bin rfl rfl (by first | exact b_add (by omega) (by omega) | exact b_sub (by omega) (by omega) | exact b_and (by omega) (by omega) | exact b_or (by omega) (by omega) | exact b_shr (by omega) | exact b_shl (by omega) (by omega) | exact b_lss | exact b_leq | exact b_gtr | exact b_geq | exact b_eql | exact b_neq) ?_
            | refine ep_pickT rfl rfl ?_ | refine ep_pickF rfl rfl ?_ | refine ep_pickTH rfl (by assumption) rfl ?_ | refine ep_pickFH rfl (by assumption) rfl ?_ | refine ep_not rfl ?_)
          | (refine g_ops ?_; first | refine eo_none ?_ | refine eo_nil ?_ | refine eo_yes rfl ?_ | refine eo_no rfl ?_ | refine eo_und rfl ?_ | refine eo_yesH rfl (by assumption) ?_ | refine eo_noH rfl (by assumption) ?_)
          | (refine g_code ?_; first | refine ec_seq ?_ | refine ec_region ?_ | refine ec_block ?_ | refine ec_skip ?_ | refine ec_exit ?_ | refine ec_condT rfl ?_ | refine ec_condF rfl ?_ | refine ec_condTH rfl (by assumption) ?_ | refine ec_condFH rfl (by assumption) ?_)
          | refine ek_seqN ?_ | refine ek_seqX ?_ | refine ek_blkN ?_ | refine ek_blkR ?_ | refine ek_blkX ?_ | refine ek_blkY rfl ?_)
        exact rnd_on (by rfl) (scmp2 (by rfl) (by rfl) (by exact ⟨rfl, rfl, rfl⟩) (by rfl) (by first | rfl | (simp; done) | (simp [ints, prs]; done)) (by rfl) (by first | rfl | (simp; done) | (simp [ints, prs]; done)))
    rw [c1] at w1
    unfold m54_1
    repeat' (first
      | (refine g_op ?_; first
        | refine ep_mov rfl ?_ | refine sp_loadN rfl rfl rfl rfl rfl ?_
        | refine ep_call0 rfl (by first | exact e1 | exact e2 | exact e3) rfl rfl ?_
        | refine sp_call rfl rfl rfl rfl (by first | exact e1 | exact e2 | exact e3) ⟨rfl, rfl, rfl, rfl⟩ rfl rfl rfl ?_
        | refine ep_bin rfl rfl (by first | exact b_add (by omega) (by omega) | exact b_sub (by omega) (by omega) | exact b_and (by omega) (by omega) | exact b_or (by omega) (by omega) | exact b_shr (by omega) | exact b_shl (by omega) (by omega) | exact b_lss | exact b_leq | exact b_gtr | exact b_geq | exact b_eql | exact b_neq) ?_
        | refine ep_pickT rfl rfl ?_ | refine ep_pickF rfl rfl ?_ | refine ep_pickTH rfl (by assumption) rfl ?_ | refine ep_pickFH rfl (by assumption) rfl ?_ | refine ep_not rfl ?_)
      | (refine g_ops ?_; first | refine eo_none ?_ | refine eo_nil ?_ | refine eo_yes rfl ?_ | refine eo_no rfl ?_ | refine eo_und rfl ?_ | refine eo_yesH rfl (by assumption) ?_ | refine eo_noH rfl (by assumption) ?_)
      | (refine g_code ?_; first | refine ec_seq ?_ | refine ec_region ?_ | refine ec_block ?_ | refine ec_skip ?_ | refine ec_exit ?_ | refine ec_condT rfl ?_ | refine ec_condF rfl ?_ | refine ec_condTH rfl (by assumption) ?_ | refine ec_condFH rfl (by assumption) ?_)
      | refine ek_seqN ?_ | refine ek_seqX ?_ | refine ek_blkN ?_ | refine ek_blkR ?_ | refine ek_blkX ?_ | refine ek_blkY rfl ?_)
    exact rnd_on (by rfl) (scmp2 (by rfl) (by rfl) (by exact ⟨rfl, rfl, rfl⟩) (by rfl) (by first | rfl | (simp; done) | (simp [ints, prs]; done)) (by rfl) (by first | rfl | (simp; done) | (simp [ints, prs]; done)))
  · intro i hi hp
    have hlt : decide ((i : Int) < (R2 n : Nat)) = true := decide_eq_true (by omega)
    have hp' : ((((bt b r : Nat) : Int) == (v : Nat)) && allF (enQ b v r (fun r s => s &&& r == r)) 0 i) = false := hp
    have e1 := ev99 i r (by omega) (by omega)
    have e2 := ev99 r i (by omega) (by omega)
    have e3 := ev57 n b i (by omega) (by omega)
    rw [hp']
    unfold m54_1
    repeat' (first
      | (refine g_op ?_; first
        | refine ep_mov rfl ?_ | refine sp_loadN rfl rfl rfl rfl rfl ?_
        | refine ep_call0 rfl (by first | exact e1 | exact e2 | exact e3) rfl rfl ?_
        | refine sp_call rfl rfl rfl rfl (by first | exact e1 | exact e2 | exact e3) ⟨rfl, rfl, rfl, rfl⟩ rfl rfl rfl ?_
        | refine ep_bin rfl rfl (by first | exact b_add (by omega) (by omega) | exact b_sub (by omega) (by omega) | exact b_and (by omega) (by omega) | exact b_or (by omega) (by omega) | exact b_shr (by omega) | exact b_shl (by omega) (by omega) | exact b_lss | exact b_leq | exact b_gtr | exact b_geq | exact b_eql | exact b_neq) ?_
        | refine ep_pickT rfl rfl ?_ | refine ep_pickF rfl rfl ?_ | refine ep_pickTH rfl (by assumption) rfl ?_ | refine ep_pickFH rfl (by assumption) rfl ?_ | refine ep_not rfl ?_)
      | (refine g_ops ?_; first | refine eo_none ?_ | refine eo_nil ?_ | refine eo_yes rfl ?_ | refine eo_no rfl ?_ | refine eo_und rfl ?_ | refine eo_yesH rfl (by assumption) ?_ | refine eo_noH rfl (by assumption) ?_)
      | (refine g_code ?_; first | refine ec_seq ?_ | refine ec_region ?_ | refine ec_block ?_ | refine ec_skip ?_ | refine ec_exit ?_ | refine ec_condT rfl ?_ | refine ec_condF rfl ?_ | refine ec_condTH rfl (by assumption) ?_ | refine ec_condFH rfl (by assumption) ?_)
      | refine ek_seqN ?_ | refine ek_seqX ?_ | refine ek_blkN ?_ | refine ek_blkR ?_ | refine ek_blkX ?_ | refine ek_blkY rfl ?_)
    exact rnd_out (by rfl) (by simp) (scmp2 (by rfl) (by rfl) (by exact ⟨rfl, rfl, rfl⟩) (by rfl) (by first | rfl | (simp; done) | (simp [ints, prs]; done)) (by rfl) (by first | rfl | (simp; done) | (simp [ints, prs]; done)))
  · have hlt : decide (((R2 n : Nat) : Int) < (R2 n : Nat)) = false := decide_eq_false (by omega)
    unfold m54_1
    repeat' (first
      | (refine g_op ?_; first
        | refine ep_mov rfl ?_ | refine sp_loadN rfl rfl rfl rfl rfl ?_
        | refine ep_bin rfl rfl (by first | exact b_add (by omega) (by omega) | exact b_sub (by omega) (by omega) | exact b_and (by omega) (by omega) | exact b_or (by omega) (by omega) | exact b_shr (by omega) | exact b_shl (by omega) (by omega) | exact b_lss | exact b_leq | exact b_gtr | exact b_geq | exact b_eql | exact b_neq) ?_
        | refine ep_pickT rfl rfl ?_ | refine ep_pickF rfl rfl ?_ | refine ep_pickTH rfl (by assumption) rfl ?_ | refine ep_pickFH rfl (by assumption) rfl ?_ | refine ep_not rfl ?_)
      | (refine g_ops ?_; first | refine eo_none ?_ | refine eo_nil ?_ | refine eo_yes rfl ?_ | refine eo_no rfl ?_ | refine eo_und rfl ?_ | refine eo_yesH rfl (by assumption) ?_ | refine eo_noH rfl (by assumption) ?_)
      | (refine g_code ?_; first | refine ec_seq ?_ | refine ec_region ?_ | refine ec_block ?_ | refine ec_skip ?_ | refine ec_exit ?_ | refine ec_condT rfl ?_ | refine ec_condF rfl ?_ | refine ec_condTH rfl (by assumption) ?_ | refine ec_condFH rfl (by assumption) ?_)
      | refine ek_seqN ?_ | refine ek_seqX ?_ | refine ek_blkN ?_ | refine ek_blkR ?_ | refine ek_blkX ?_ | refine ek_blkY rfl ?_)
    exact rnd_out (by rfl) (by simp) (scmp2 (by rfl) (by rfl) (by exact ⟨rfl, rfl, rfl⟩) (by rfl) (by first | rfl | (simp; done) | (simp [ints, prs]; done)) (by rfl) (by first | rfl | (simp; done) | (simp [ints, prs]; done)))

theorem lp54_0_f (n b v : Nat) (hn : n ≤ 4) (hb : b < 65536) (o : Out) (ho : (match selm (enP n b v (fun r s => s &&& r == r)) (idn) (R2 n) with | [] => (⟨.exit 0, [(7, .emp)], []⟩ : Out) | x :: xs => ⟨.exit 0, [(7, .sl 0 0 (x :: xs).length)], [⟨ints (x :: xs), 1, 0, some 0, false⟩]⟩) = o) :
    LpS cx 62 0 m54_0 [(1, .int .i64 (v : Nat)), (2, .bool false), (3, .ptr 0 0), (7, .emp), (8, .int .i64 (R2 n : Nat)), (9, .int .i64 (0 : Nat))] [⟨[.int .i64 n, .int .i64 b], 1, 0, some 0, true⟩] o.x o.e o.h := by
  obtain ⟨h1, h2, h3, h4⟩ := shN hn
  subst ho
  refine lp_st (R2 n) (selm (enP n b v (fun r s => s &&& r == r)) (idn)) (fun i s => match s with | [] => [(1, .int .i64 (v : Nat)), (2, .bool false), (3, .ptr 0 0), (7, .emp), (8, .int .i64 (R2 n : Nat)), (9, .int .i64 (i : Nat))] | x :: xs => [(1, .int .i64 (v : Nat)), (2, .bool false), (3, .ptr 0 0), (7, .sl 1 0 (x :: xs).length), (8, .int .i64 (R2 n : Nat)), (9, .int .i64 (i : Nat))]) (fun i s => match s with | [] => [⟨[.int .i64 n, .int .i64 b], 1, 0, some 0, true⟩] | x :: xs => [⟨[.int .i64 n, .int .i64 b], 1, 0, some 0, true⟩, ⟨ints (x :: xs), 1, 1, some 0, false⟩]) (fun s => match s with | [] => ⟨.exit 0, [(7, .emp)], []⟩ | x :: xs => ⟨.exit 0, [(7, .sl 0 0 (x :: xs).length)], [⟨ints (x :: xs), 1, 0, some 0, false⟩]⟩) ?_ ?_ (R2 n) 0 (by omega)
  · intro i s hi hs
    have hlt : decide ((i : Int) < (R2 n : Nat)) = true := decide_eq_true (by omega)
    have hle : decide ((i : Int) ≤ (R2 n : Nat) - 1) = true := decide_eq_true (by omega)
    have hlen : s.length ≤ 16 := by have := selm_len (enP n b v (fun r s => s &&& r == r)) (idn) i; rw [hs] at this; omega
    cases hp : (enP n b v (fun r s => s &&& r == r)) i with
    | true =>
      have hp' : ((enP n b v (fun r s => s &&& r == r)) i) = true := hp
      have lpe := lpen_f_e n b v i hn hb hi _ (ite_pre2 (E := (((bt b i : Nat) : Int) == (v : Nat))) (Q := enQ b v i (fun r s => s &&& r == r)) (n := R2 n) (fun b_ => (⟨.exit 2, [(1, .int .i64 (v : Nat)), (2, .bool false), (3, .ptr 0 0), (7, .emp), (8, .int .i64 (R2 n : Nat)), (9, .int .i64 (i : Nat)), (10, .bool b_)], [⟨[.int .i64 n, .int .i64 b], 1, 0, some 0, true⟩]⟩ : Out)))
      have lpc := fun (x : Nat) (xs : List Nat) => lpen_f_c n b v i hn hb hi x xs _ (ite_pre2 (E := (((bt b i : Nat) : Int) == (v : Nat))) (Q := enQ b v i (fun r s => s &&& r == r)) (n := R2 n) (fun b_ => (⟨.exit 2, [(1, .int .i64 (v : Nat)), (2, .bool false), (3, .ptr 0 0), (7, .sl 1 0 (x :: xs).length), (8, .int .i64 (R2 n : Nat)), (9, .int .i64 (i : Nat)), (10, .bool b_)], [⟨[.int .i64 n, .int .i64 b], 1, 0, some 0, true⟩, ⟨ints (x :: xs), 1, 1, some 0, false⟩]⟩ : Out)))
      have hq : ((((bt b i : Nat) : Int) == (v : Nat)) && allF (enQ b v i (fun r s => s &&& r == r)) 0 (R2 n)) = true := hp'
      simp only [hq] at lpe lpc
      simp only [allFz, Bool.and_true] at lpe lpc
      have e3 := ev57 n b i (by omega) (by omega)
      cases s with
      | nil =>
        refine ⟨[(idn) i], by rw [selm_t (p := enP n b v (fun r s => s &&& r == r)) hp, hs]; try rfl, ?_⟩
        unfold m54_0
        repeat' (first
          | refine sc_loop lpe rfl rfl ⟨rfl, rfl, rfl⟩ rfl rfl rfl ?_
          | refine sc_loop (lpc _ _) rfl rfl ⟨rfl, rfl, rfl⟩ rfl rfl rfl ?_
          | (refine g_op ?_; first
            | refine ep_mov rfl ?_ | refine sp_loadN rfl rfl rfl rfl rfl ?_
            | refine ep_call0 rfl (by first | exact e3) rfl rfl ?_
            | refine sp_call rfl rfl rfl rfl (by first | exact e3) ⟨rfl, rfl, rfl, rfl⟩ rfl rfl rfl ?_
            | refine ep_bin rfl rfl (by first | exact b_add (by omega) (by omega) | exact b_sub (by omega) (by omega) | exact b_and (by omega) (by omega) | exact b_or (by omega) (by omega) | exact b_shr (by omega) | exact b_shl (by omega) (by omega) | exact b_lss | exact b_leq | exact b_gtr | exact b_geq | exact b_eql | exact b_neq) ?_
            | refine sp_bslice rfl rfl rfl rfl rfl ?_ | refine sp_push0 rfl (by first | exact .inl rfl | exact .inr rfl) rfl rfl rfl rfl rfl (by decide) rfl rfl rfl ?_ | refine sp_push rfl rfl rfl rfl rfl rfl rfl (by first | exact ints_len _ | exact prs_len _ _ | exact zints_len _) (by omega) (Nat.zero_le _) rfl rfl rfl rfl rfl ?_)
          | (refine g_ops ?_; first | refine eo_none ?_ | refine eo_nil ?_)
          | (refine g_code ?_; first | refine ec_seq ?_ | refine ec_region ?_ | refine ec_block ?_ | refine ec_skip ?_ | refine ec_exit ?_ | refine ec_condT rfl ?_ | refine ec_condF rfl ?_ | refine ec_condTH rfl (by assumption) ?_ | refine ec_condFH rfl (by assumption) ?_)
          | refine ek_seqN ?_ | refine ek_seqX ?_ | refine ek_seqR ?_ | refine ek_blkN ?_ | refine ek_blkR ?_ | refine ek_blkX ?_ | refine ek_blkY rfl ?_)
        exact rnd_on (by rfl) (scmp2 (by rfl) (by rfl) (by exact ⟨rfl, rfl, rfl⟩) (by rfl) (by first | rfl | (simp; done) | (simp [ints, prs]; done)) (by rfl) (by first | rfl | (simp; done) | (simp [ints, prs]; done)))
      | cons x xs =>
        refine ⟨(x :: xs) ++ [(idn) i], by rw [selm_t (p := enP n b v (fun r s => s &&& r == r)) hp, hs]; try rfl, ?_⟩
        unfold m54_0
        repeat' (first
          | refine sc_loop lpe rfl rfl ⟨rfl, rfl, rfl⟩ rfl rfl rfl ?_
          | refine sc_loop (lpc _ _) rfl rfl ⟨rfl, rfl, rfl⟩ rfl rfl rfl ?_
          | (refine g_op ?_; first
            | refine ep_mov rfl ?_ | refine sp_loadN rfl rfl rfl rfl rfl ?_
            | refine ep_call0 rfl (by first | exact e3) rfl rfl ?_
            | refine sp_call rfl rfl rfl rfl (by first | exact e3) ⟨rfl, rfl, rfl, rfl⟩ rfl rfl rfl ?_
            | refine ep_bin rfl rfl (by first | exact b_add (by omega) (by omega) | exact b_sub (by omega) (by omega) | exact b_and (by omega) (by omega) | exact b_or (by omega) (by omega) | exact b_shr (by omega) | exact b_shl (by omega) (by omega) | exact b_lss | exact b_leq | exact b_gtr | exact b_geq | exact b_eql | exact b_neq) ?_
            | refine sp_bslice rfl rfl rfl rfl rfl ?_ | refine sp_push0 rfl (by first | exact .inl rfl | exact .inr rfl) rfl rfl rfl rfl rfl (by decide) rfl rfl rfl ?_ | refine sp_push rfl rfl rfl rfl rfl rfl rfl (by first | exact ints_len _ | exact prs_len _ _ | exact zints_len _) (by omega) (Nat.zero_le _) rfl rfl rfl rfl rfl ?_)
          | (refine g_ops ?_; first | refine eo_none ?_ | refine eo_nil ?_)
          | (refine g_code ?_; first | refine ec_seq ?_ | refine ec_region ?_ | refine ec_block ?_ | refine ec_skip ?_ | refine ec_exit ?_ | refine ec_condT rfl ?_ | refine ec_condF rfl ?_ | refine ec_condTH rfl (by assumption) ?_ | refine ec_condFH rfl (by assumption) ?_)
          | refine ek_seqN ?_ | refine ek_seqX ?_ | refine ek_seqR ?_ | refine ek_blkN ?_ | refine ek_blkR ?_ | refine ek_blkX ?_ | refine ek_blkY rfl ?_)
        exact rnd_on (by rfl) (scmp2 (by rfl) (by rfl) (by exact ⟨rfl, rfl, rfl⟩) (by rfl) (by first | rfl | (simp; done) | (simp [ints, prs]; done)) (by rfl) (by first | rfl | (simp; done) | (simp [ints, prs]; done)))
    | false =>
      have hp' : ((enP n b v (fun r s => s &&& r == r)) i) = false := hp
      have lpe := lpen_f_e n b v i hn hb hi _ (ite_pre2 (E := (((bt b i : Nat) : Int) == (v : Nat))) (Q := enQ b v i (fun r s => s &&& r == r)) (n := R2 n) (fun b_ => (⟨.exit 2, [(1, .int .i64 (v : Nat)), (2, .bool false), (3, .ptr 0 0), (7, .emp), (8, .int .i64 (R2 n : Nat)), (9, .int .i64 (i : Nat)), (10, .bool b_)], [⟨[.int .i64 n, .int .i64 b], 1, 0, some 0, true⟩]⟩ : Out)))
      have lpc := fun (x : Nat) (xs : List Nat) => lpen_f_c n b v i hn hb hi x xs _ (ite_pre2 (E := (((bt b i : Nat) : Int) == (v : Nat))) (Q := enQ b v i (fun r s => s &&& r == r)) (n := R2 n) (fun b_ => (⟨.exit 2, [(1, .int .i64 (v : Nat)), (2, .bool false), (3, .ptr 0 0), (7, .sl 1 0 (x :: xs).length), (8, .int .i64 (R2 n : Nat)), (9, .int .i64 (i : Nat)), (10, .bool b_)], [⟨[.int .i64 n, .int .i64 b], 1, 0, some 0, true⟩, ⟨ints (x :: xs), 1, 1, some 0, false⟩]⟩ : Out)))
      have hq : ((((bt b i : Nat) : Int) == (v : Nat)) && allF (enQ b v i (fun r s => s &&& r == r)) 0 (R2 n)) = false := hp'
      simp only [hq] at lpe lpc
      simp only [allFz, Bool.and_true] at lpe lpc
      have e3 := ev57 n b i (by omega) (by omega)
      cases s with
      | nil =>
        refine ⟨[], by rw [selm_f (p := enP n b v (fun r s => s &&& r == r)) hp, hs]; try rfl, ?_⟩
        unfold m54_0
        repeat' (first
          | refine sc_loop lpe rfl rfl ⟨rfl, rfl, rfl⟩ rfl rfl rfl ?_
          | refine sc_loop (lpc _ _) rfl rfl ⟨rfl, rfl, rfl⟩ rfl rfl rfl ?_
          | (refine g_op ?_; first
            | refine ep_mov rfl ?_ | refine sp_loadN rfl rfl rfl rfl rfl ?_
            | refine ep_call0 rfl (by first | exact e3) rfl rfl ?_
            | refine sp_call rfl rfl rfl rfl (by first | exact e3) ⟨rfl, rfl, rfl, rfl⟩ rfl rfl rfl ?_
            | refine ep_bin rfl rfl (by first | exact b_add (by omega) (by omega) | exact b_sub (by omega) (by omega) | exact b_and (by omega) (by omega) | exact b_or (by omega) (by omega) | exact b_shr (by omega) | exact b_shl (by omega) (by omega) | exact b_lss | exact b_leq | exact b_gtr | exact b_geq | exact b_eql | exact b_neq) ?_
            | refine sp_bslice rfl rfl rfl rfl rfl ?_ | refine sp_push0 rfl (by first | exact .inl rfl | exact .inr rfl) rfl rfl rfl rfl rfl (by decide) rfl rfl rfl ?_ | refine sp_push rfl rfl rfl rfl rfl rfl rfl (by first | exact ints_len _ | exact prs_len _ _ | exact zints_len _) (by omega) (Nat.zero_le _) rfl rfl rfl rfl rfl ?_)
          | (refine g_ops ?_; first | refine eo_none ?_ | refine eo_nil ?_)
          | (refine g_code ?_; first | refine ec_seq ?_ | refine ec_region ?_ | refine ec_block ?_ | refine ec_skip ?_ | refine ec_exit ?_ | refine ec_condT rfl ?_ | refine ec_condF rfl ?_ | refine ec_condTH rfl (by assumption) ?_ | refine ec_condFH rfl (by assumption) ?_)
          | refine ek_seqN ?_ | refine ek_seqX ?_ | refine ek_seqR ?_ | refine ek_blkN ?_ | refine ek_blkR ?_ | refine ek_blkX ?_ | refine ek_blkY rfl ?_)
        exact rnd_on (by rfl) (scmp2 (by rfl) (by rfl) (by exact ⟨rfl, rfl, rfl⟩) (by rfl) (by first | rfl | (simp; done) | (simp [ints, prs]; done)) (by rfl) (by first | rfl | (simp; done) | (simp [ints, prs]; done)))
      | cons x xs =>
        refine ⟨x :: xs, by rw [selm_f (p := enP n b v (fun r s => s &&& r == r)) hp, hs]; try rfl, ?_⟩
        unfold m54_0
        repeat' (first
          | refine sc_loop lpe rfl rfl ⟨rfl, rfl, rfl⟩ rfl rfl rfl ?_
          | refine sc_loop (lpc _ _) rfl rfl ⟨rfl, rfl, rfl⟩ rfl rfl rfl ?_
          | (refine g_op ?_; first
            | refine ep_mov rfl ?_ | refine sp_loadN rfl rfl rfl rfl rfl ?_
            | refine ep_call0 rfl (by first | exact e3) rfl rfl ?_
            | refine sp_call rfl rfl rfl rfl (by first | exact e3) ⟨rfl, rfl, rfl, rfl⟩ rfl rfl rfl ?_
            | refine ep_bin rfl rfl (by first | exact b_add (by omega) (by omega) | exact b_sub (by omega) (by omega) | exact b_and (by omega) (by omega) | exact b_or (by omega) (by omega) | exact b_shr (by omega) | exact b_shl (by omega) (by omega) | exact b_lss | exact b_leq | exact b_gtr | exact b_geq | exact b_eql | exact b_neq) ?_
            | refine sp_bslice rfl rfl rfl rfl rfl ?_ | refine sp_push0 rfl (by first | exact .inl rfl | exact .inr rfl) rfl rfl rfl rfl rfl (by decide) rfl rfl rfl ?_ | refine sp_push rfl rfl rfl rfl rfl rfl rfl (by first | exact ints_len _ | exact prs_len _ _ | exact zints_len _) (by omega) (Nat.zero_le _) rfl rfl rfl rfl rfl ?_)
          | (refine g_ops ?_; first | refine eo_none ?_ | refine eo_nil ?_)
          | (refine g_code ?_; first | refine ec_seq ?_ | refine ec_region ?_ | refine ec_block ?_ | refine ec_skip ?_ | refine ec_exit ?_ | refine ec_condT rfl ?_ | refine ec_condF rfl ?_ | refine ec_condTH rfl (by assumption) ?_ | refine ec_condFH rfl (by assumption) ?_)
          | refine ek_seqN ?_ | refine ek_seqX ?_ | refine ek_seqR ?_ | refine ek_blkN ?_ | refine ek_blkR ?_ | refine ek_blkX ?_ | refine ek_blkY rfl ?_)
        exact rnd_on (by rfl) (scmp2 (by rfl) (by rfl) (by exact ⟨rfl, rfl, rfl⟩) (by rfl) (by first | rfl | (simp; done) | (simp [ints, prs]; done)) (by rfl) (by first | rfl | (simp; done) | (simp [ints, prs]; done)))
  · intro s hs
    have hlt : decide (((R2 n : Nat) : Int) < (R2 n : Nat)) = false := decide_eq_false (by omega)
    have hle : decide (((R2 n : Nat) : Int) ≤ (R2 n : Nat) - 1) = false := decide_eq_false (by omega)
    cases s with
    | nil =>
      unfold m54_0
      repeat' (first
        | (refine g_op ?_; first
          | refine ep_mov rfl ?_ | refine sp_loadN rfl rfl rfl rfl rfl ?_
          | refine ep_bin rfl rfl (by first | exact b_add (by omega) (by omega) | exact b_sub (by omega) (by omega) | exact b_and (by omega) (by omega) | exact b_or (by omega) (by omega) | exact b_shr (by omega) | exact b_shl (by omega) (by omega) | exact b_lss | exact b_leq | exact b_gtr | exact b_geq | exact b_eql | exact b_neq) ?_
          | refine sp_bslice rfl rfl rfl rfl rfl ?_ | refine sp_push0 rfl (by first | exact .inl rfl | exact .inr rfl) rfl rfl rfl rfl rfl (by decide) rfl rfl rfl ?_ | refine sp_push rfl rfl rfl rfl rfl rfl rfl (by first | exact ints_len _ | exact prs_len _ _ | exact zints_len _) (by omega) (Nat.zero_le _) rfl rfl rfl rfl rfl ?_)
        | (refine g_ops ?_; first | refine eo_none ?_ | refine eo_nil ?_)
        | (refine g_code ?_; first | refine ec_seq ?_ | refine ec_region ?_ | refine ec_block ?_ | refine ec_skip ?_ | refine ec_exit ?_ | refine ec_condT rfl ?_ | refine ec_condF rfl ?_ | refine ec_condTH rfl (by assumption) ?_ | refine ec_condFH rfl (by assumption) ?_)
        | refine ek_seqN ?_ | refine ek_seqX ?_ | refine ek_seqR ?_ | refine ek_blkN ?_ | refine ek_blkR ?_ | refine ek_blkX ?_ | refine ek_blkY rfl ?_)
      exact rnd_out (by rfl) (by simp) (scmp2 (by rfl) (by rfl) (by exact ⟨rfl, rfl, rfl⟩) (by rfl) (by first | rfl | (simp; done) | (simp [ints, prs]; done)) (by rfl) (by first | rfl | (simp; done) | (simp [ints, prs]; done)))
    | cons x xs =>
      unfold m54_0
      repeat' (first
        | (refine g_op ?_; first
          | refine ep_mov rfl ?_ | refine sp_loadN rfl rfl rfl rfl rfl ?_
          | refine ep_bin rfl rfl (by first | exact b_add (by omega) (by omega) | exact b_sub (by omega) (by omega) | exact b_and (by omega) (by omega) | exact b_or (by omega) (by omega) | exact b_shr (by omega) | exact b_shl (by omega) (by omega) | exact b_lss | exact b_leq | exact b_gtr | exact b_geq | exact b_eql | exact b_neq) ?_
          | refine sp_bslice rfl rfl rfl rfl rfl ?_ | refine sp_push0 rfl (by first | exact .inl rfl | exact .inr rfl) rfl rfl rfl rfl rfl (by decide) rfl rfl rfl ?_ | refine sp_push rfl rfl rfl rfl rfl rfl rfl (by first | exact ints_len _ | exact prs_len _ _ | exact zints_len _) (by omega) (Nat.zero_le _) rfl rfl rfl rfl rfl ?_)
        | (refine g_ops ?_; first | refine eo_none ?_ | refine eo_nil ?_)
        | (refine g_code ?_; first | refine ec_seq ?_ | refine ec_region ?_ | refine ec_block ?_ | refine ec_skip ?_ | refine ec_exit ?_ | refine ec_condT rfl ?_ | refine ec_condF rfl ?_ | refine ec_condTH rfl (by assumption) ?_ | refine ec_condFH rfl (by assumption) ?_)
        | refine ek_seqN ?_ | refine ek_seqX ?_ | refine ek_seqR ?_ | refine ek_blkN ?_ | refine ek_blkR ?_ | refine ek_blkX ?_ | refine ek_blkY rfl ?_)
      exact rnd_out (by rfl) (by simp) (scmp2 (by rfl) (by rfl) (by exact ⟨rfl, rfl, rfl⟩) (by rfl) (by first | rfl | (simp; done) | (simp [ints, prs]; done)) (by rfl) (by first | rfl | (simp; done) | (simp [ints, prs]; done)))

theorem ev54_f (n b v : Nat) (hn : n ≤ 4) (hb : b < 65536) : Ev cx 54 [.agg [.int .i64 n, .int .i64 b], .int .i64 v, .bool false] [] (slV .emp 0 (selm (enP n b v (fun r s => s &&& r == r)) idn (R2 n))) (slH 0 1 ints (selm (enP n b v (fun r s => s &&& r == r)) idn (R2 n))) := by
  have e1 := ev58 n hn
  cases hs : selm (enP n b v (fun r s => s &&& r == r)) idn (R2 n) with
  | nil =>
    have lp := lp54_0_f n b v hn hb _ (by rw [hs])
    refine has54.eev rfl rfl ?_
    unfold m54
    repeat' (first
      | refine sc_loop lp rfl rfl ⟨rfl, rfl, rfl⟩ rfl rfl rfl ?_
      | (refine g_op ?_; first
        | refine ep_mov rfl ?_ | refine ep_load1 rfl rfl rfl rfl ?_ | refine ep_fieldAddr rfl ?_
        | refine ep_call0 rfl (by first | exact e1) rfl rfl ?_
        | refine sp_call rfl rfl rfl rfl (by first | exact e1) ⟨rfl, rfl, rfl, rfl⟩ rfl rfl rfl ?_
        | refine sp_box rfl rfl rfl rfl rfl ?_ | refine ep_empt ?_)
      | (refine g_ops ?_; first | refine eo_none ?_ | refine eo_nil ?_)
      | (refine g_code ?_; first | refine ec_seq ?_ | refine ec_region ?_ | refine ec_block ?_ | refine ec_ret ?_)
      | refine ek_seqN ?_ | refine ek_seqX ?_ | refine ek_seqR ?_ | refine ek_blkN ?_ | refine ek_blkR ?_ | refine ek_blkX ?_ | refine ek_blkY rfl ?_)
    refine sfin (.inr rfl) (by rfl) (by rfl) (by exact ⟨rfl, rfl, rfl⟩) (by rfl) (by rfl) (by rfl) (by first | rfl | (simp; done) | (simp [ints, prs]; done))
  | cons x xs =>
    have lp := lp54_0_f n b v hn hb _ (by rw [hs])
    refine has54.eev rfl rfl ?_
    unfold m54
    repeat' (first
      | refine sc_loop lp rfl rfl ⟨rfl, rfl, rfl⟩ rfl rfl rfl ?_
      | (refine g_op ?_; first
        | refine ep_mov rfl ?_ | refine ep_load1 rfl rfl rfl rfl ?_ | refine ep_fieldAddr rfl ?_
        | refine ep_call0 rfl (by first | exact e1) rfl rfl ?_
        | refine sp_call rfl rfl rfl rfl (by first | exact e1) ⟨rfl, rfl, rfl, rfl⟩ rfl rfl rfl ?_
        | refine sp_box rfl rfl rfl rfl rfl ?_ | refine ep_empt ?_)
      | (refine g_ops ?_; first | refine eo_none ?_ | refine eo_nil ?_)
      | (refine g_code ?_; first | refine ec_seq ?_ | refine ec_region ?_ | refine ec_block ?_ | refine ec_ret ?_)
      | refine ek_seqN ?_ | refine ek_seqX ?_ | refine ek_seqR ?_ | refine ek_blkN ?_ | refine ek_blkR ?_ | refine ek_blkX ?_ | refine ek_blkY rfl ?_)
    refine sfin (.inr rfl) (by rfl) (by rfl) (by exact ⟨rfl, rfl, rfl⟩) (by rfl) (by rfl) (by rfl) (by first | rfl | (simp; done) | (simp [ints, prs]; done))
theorem lpen_t_e (n b v r : Nat) (hn : n ≤ 4) (hb : b < 65536) (hr : r < R2 n) (o : Out) (ho : (if allF (fun j => (((bt b r : Nat) : Int) == (v : Nat)) && allF (enQ b v r (fun r s => r &&& s == s)) 0 j) 0 (R2 n) = true then (⟨.exit 2, [(1, .int .i64 (v : Nat)), (2, .bool true), (3, .ptr 0 0), (7, .emp), (8, .int .i64 (R2 n : Nat)), (9, .int .i64 (r : Nat)), (10, .bool ((((bt b r : Nat) : Int) == (v : Nat)) && allF (enQ b v r (fun r s => r &&& s == s)) 0 (R2 n)))], [⟨[.int .i64 n, .int .i64 b], 1, 0, some 0, true⟩]⟩ : Out) else ⟨.exit 2, [(1, .int .i64 (v : Nat)), (2, .bool true), (3, .ptr 0 0), (7, .emp), (8, .int .i64 (R2 n : Nat)), (9, .int .i64 (r : Nat)), (10, .bool false)], [⟨[.int .i64 n, .int .i64 b], 1, 0, some 0, true⟩]⟩) = o) :
    LpS cx 62 0 m54_1 [(1, .int .i64 (v : Nat)), (2, .bool true), (3, .ptr 0 0), (7, .emp), (8, .int .i64 (R2 n : Nat)), (9, .int .i64 (r : Nat)), (10, .bool ((((bt b r : Nat) : Int) == (v : Nat)) && allF (enQ b v r (fun r s => r &&& s == s)) 0 (0))), (11, .int .i64 (0 : Nat))] [⟨[.int .i64 n, .int .i64 b], 1, 0, some 0, true⟩] o.x o.e o.h := by
  obtain ⟨h1, h2, h3, h4⟩ := shN hn
  refine lp_all (R2 n) (fun j => (((bt b r : Nat) : Int) == (v : Nat)) && allF (enQ b v r (fun r s => r &&& s == s)) 0 j) (fun i => [(1, .int .i64 (v : Nat)), (2, .bool true), (3, .ptr 0 0), (7, .emp), (8, .int .i64 (R2 n : Nat)), (9, .int .i64 (r : Nat)), (10, .bool ((((bt b r : Nat) : Int) == (v : Nat)) && allF (enQ b v r (fun r s => r &&& s == s)) 0 (i))), (11, .int .i64 (i : Nat))]) (fun i => [⟨[.int .i64 n, .int .i64 b], 1, 0, some 0, true⟩]) _ _ ?_ ?_ ?_ (R2 n) 0 o (by omega) ho
  · intro i hi hp
    have hlt : decide ((i : Int) < (R2 n : Nat)) = true := decide_eq_true (by omega)
    have hp' : ((((bt b r : Nat) : Int) == (v : Nat)) && allF (enQ b v r (fun r s => r &&& s == s)) 0 i) = true := hp
    have e1 := ev99 i r (by omega) (by omega)
    have e2 := ev99 r i (by omega) (by omega)
    have e3 := ev57 n b i (by omega) (by omega)
    have hA := ((Bool.and_eq_true _ _).mp hp').2
    have hE := ((Bool.and_eq_true _ _).mp hp').1
    have hz : ((((bt b r : Nat) : Int) == (v : Nat)) && allF (enQ b v r (fun r s => r &&& s == s)) 0 (i + 1)) = enQ b v r (fun r s => r &&& s == s) i := by rw [allF_s, hA, hE, Bool.true_and, Bool.true_and]
    rw [hz, hp']
    have w1 := ieq i r
    have w2 := ine (bt b i) v
    have hQ : enQ b v r (fun r s => r &&& s == s) i = (i == r || (bt b i != v || !(r &&& i == i))) := rfl
    rw [hQ]
    cases c1 : (i == r)
    · rw [c1] at w1
      cases c2 : (bt b i != v)
      · rw [c2] at w2
        unfold m54_1
        repeat' (first
          | (refine g_op ?_; first
            | refine ep_mov rfl ?_ | refine sp_loadN rfl rfl rfl rfl rfl ?_
            | refine ep_call0 rfl (by first | exact e1 | exact e2 | exact e3) rfl rfl ?_
            | refine sp_call rfl rfl rfl rfl (by first | exact e1 | exact e2 | exact e3) ⟨rfl, rfl, rfl, rfl⟩ rfl rfl rfl ?_
            | refine ep_bin rfl rfl (by first | exact b_add (by omega) (by omega) | exact b_sub (by omega) (by omega) | exact b_and (by omega) (by omega) | exact b_or (by omega) (by omega) | exact b_shr (by omega) | exact b_shl (by omega) (by omega) | exact b_lss | exact b_leq | exact b_gtr | exact b_geq | exact b_eql | exact b_neq) ?_
            | refine ep_pickT rfl rfl ?_ | refine ep_pickF rfl rfl ?_ | refine ep_pickTH rfl (by assumption) rfl ?_ | refine ep_pickFH rfl (by assumption) rfl ?_ | refine ep_not rfl ?_)
          | (refine g_ops ?_; first | refine eo_none ?_ | refine eo_nil ?_ | refine eo_yes rfl ?_ | refine eo_no rfl ?_ | refine eo_und rfl ?_ | refine eo_yesH rfl (by assumption) ?_ | refine eo_noH rfl (by assumption) ?_)
          | (refine g_code ?_; first | refine ec_seq ?_ | refine ec_region ?_ | refine ec_block ?_ | refine ec_skip ?_ | refine ec_exit ?_ | refine ec_condT rfl ?_ | refine ec_condF rfl ?_ | refine ec_condTH rfl (by assumption) ?_ | refine ec_condFH rfl (by assumption) ?_)
          | refine ek_seqN ?_ | refine ek_seqX ?_ | refine ek_blkN ?_ | refine ek_blkR ?_ | refine ek_blkX ?_ | refine ek_blkY rfl ?_)
        exact rnd_on (by rfl) (scmp2 (by rfl) (by rfl) (by exact ⟨rfl, rfl, rfl⟩) (by rfl) (by first | rfl | (simp; done) | (simp [ints, prs]; done)) (by rfl) (by first | rfl | (simp; done) | (simp [ints, prs]; done)))
      · rw [c2] at w2
        unfold m54_1
        repeat' (first
          | (refine g_op ?_; first
            | refine ep_mov rfl ?_ | refine sp_loadN rfl rfl rfl rfl rfl ?_
            | refine ep_call0 rfl (by first | exact e1 | exact e2 | exact e3) rfl rfl ?_
            | refine sp_call rfl rfl rfl rfl (by first | exact e1 | exact e2 | exact e3) ⟨rfl, rfl, rfl, rfl⟩ rfl rfl rfl ?_
            | refine ep_bin rfl rfl (by first | exact b_add (by omega) (by omega) | exact b_sub (by omega) (by omega) | exact b_and (by omega) (by omega) | exact b_or (by omega) (by omega) | exact b_shr (by omega) | exact b_shl (by omega) (by omega) | exact b_lss | exact b_leq | exact b_gtr | exact b_geq | exact b_eql | exact b_neq) ?_
            | refine ep_pickT rfl rfl ?_ | refine ep_pickF rfl rfl ?_ | refine ep_pickTH rfl (by assumption) rfl ?_ | refine ep_pickFH rfl (by assumption) rfl ?_ | refine ep_not rfl ?_)
          | (refine g_ops ?_; first | refine eo_none ?_ | refine eo_nil ?_ | refine eo_yes rfl ?_ | refine eo_no rfl ?_ | refine eo_und rfl ?_ | refine eo_yesH rfl (by assumption) ?_ | refine eo_noH rfl (by assumption) ?_)
          | (refine g_code ?_; first | refine ec_seq ?_ | refine ec_region ?_ | refine ec_block ?_ | refine ec_skip ?_ | refine ec_exit ?_ | refine ec_condT rfl ?_ | refine ec_condF rfl ?_ | refine ec_condTH rfl (by assumption) ?_ | refine ec_condFH rfl (by assumption) ?_)
          | refine ek_seqN ?_ | refine ek_seqX ?_ | refine ek_blkN ?_ | refine ek_blkR ?_ | refine ek_blkX ?_ | refine ek_blkY rfl ?_)
        exact rnd_on (by rfl) (scmp2 (by rfl) (by rfl) (by exact ⟨rfl, rfl, rfl⟩) (by rfl) (by first | rfl | (simp; done) | (simp [ints, prs]; done)) (by rfl) (by first | rfl | (simp; done) | (simp [ints, prs]; done)))
    rw [c1] at w1
    unfold m54_1
    repeat' (first
      | (refine g_op ?_; first
        | refine ep_mov rfl ?_ | refine sp_loadN rfl rfl rfl rfl rfl ?_
        | refine ep_call0 rfl (by first | exact e1 | exact e2 | exact e3) rfl rfl ?_
        | refine sp_call rfl rfl rfl rfl (by first | exact e1 | exact e2 | exact e3) ⟨rfl, rfl, rfl, rfl⟩ rfl rfl rfl ?_
        | refine ep_bin rfl rfl (by first | exact b_add (by omega) (by omega) | exact b_sub (by omega) (by omega) | exact b_and (by omega) (by omega) | exact b_or (by omega) (by omega) | exact b_shr (by omega) | exact b_shl (by omega) (by omega) | exact b_lss | exact b_leq | exact b_gtr | exact b_geq | exact b_eql | exact b_neq) ?_
        | refine ep_pickT rfl rfl ?_ | refine ep_pickF rfl rfl ?_ | refine ep_pickTH rfl (by assumption) rfl ?_ | refine ep_pickFH rfl (by assumption) rfl ?_ | refine ep_not rfl ?_)
      | (refine g_ops ?_; first | refine eo_none ?_ | refine eo_nil ?_ | refine eo_yes rfl ?_ | refine eo_no rfl ?_ | refine eo_und rfl ?_ | refine eo_yesH rfl (by assumption) ?_ | refine eo_noH rfl (by assumption) ?_)
      | (refine g_code ?_; first | refine ec_seq ?_ | refine ec_region ?_ | refine ec_block ?_ | refine ec_skip ?_ | refine ec_exit ?_ | refine ec_condT rfl ?_ | refine ec_condF rfl ?_ | refine ec_condTH rfl (by assumption) ?_ | refine ec_condFH rfl (by assumption) ?_)
      | refine ek_seqN ?_ | refine ek_seqX ?_ | refine ek_blkN ?_ | refine ek_blkR ?_ | refine ek_blkX ?_ | refine ek_blkY rfl ?_)
    exact rnd_on (by rfl) (scmp2 (by rfl) (by rfl) (by exact ⟨rfl, rfl, rfl⟩) (by rfl) (by first | rfl | (simp; done) | (simp [ints, prs]; done)) (by rfl) (by first | rfl | (simp; done) | (simp [ints, prs]; done)))
  · intro i hi hp
    have hlt : decide ((i : Int) < (R2 n : Nat)) = true := decide_eq_true (by omega)
    have hp' : ((((bt b r : Nat) : Int) == (v : Nat)) && allF (enQ b v r (fun r s => r &&& s == s)) 0 i) = false := hp
    have e1 := ev99 i r (by omega) (by omega)
    have e2 := ev99 r i (by omega) (by omega)
    have e3 := ev57 n b i (by omega) (by omega)
    rw [hp']
    unfold m54_1
    repeat' (first
      | (refine g_op ?_; first
        | refine ep_mov rfl ?_ | refine sp_loadN rfl rfl rfl rfl rfl ?_
        | refine ep_call0 rfl (by first | exact e1 | exact e2 | exact e3) rfl rfl ?_
        | refine sp_call rfl rfl rfl rfl (by first | exact e1 | exact e2 | exact e3) ⟨rfl, rfl, rfl, rfl⟩ rfl rfl rfl ?_
        | refine ep_bin rfl rfl (by first | exact b_add (by omega) (by omega) | exact b_sub (by omega) (by omega) | exact b_and (by omega) (by omega) | exact b_or (by omega) (by omega) | exact b_shr (by omega) | exact b_shl (by omega) (by omega) | exact b_lss | exact b_leq | exact b_gtr | exact b_geq | exact b_eql | exact b_neq) ?_
        | refine ep_pickT rfl rfl ?_ | refine ep_pickF rfl rfl ?_ | refine ep_pickTH rfl (by assumption) rfl ?_ | refine ep_pickFH rfl (by assumption) rfl ?_ | refine ep_not rfl ?_)
      | (refine g_ops ?_; first | refine eo_none ?_ | refine eo_nil ?_ | refine eo_yes rfl ?_ | refine eo_no rfl ?_ | refine eo_und rfl ?_ | refine eo_yesH rfl (by assumption) ?_ | refine eo_noH rfl (by assumption) ?_)
      | (refine g_code ?_; first | refine ec_seq ?_ | refine ec_region ?_ | refine ec_block ?_ | refine ec_skip ?_ | refine ec_exit ?_ | refine ec_condT rfl ?_ | refine ec_condF rfl ?_ | refine ec_condTH rfl (by assumption) ?_ | refine ec_condFH rfl (by assumption) ?_)
      | refine ek_seqN ?_ | refine ek_seqX ?_ | refine ek_blkN ?_ | refine ek_blkR ?_ | refine ek_blkX ?_ | refine ek_blkY rfl ?_)
    exact rnd_out (by rfl) (by simp) (scmp2 (by rfl) (by rfl) (by exact ⟨rfl, rfl, rfl⟩) (by rfl) (by first | rfl | (simp; done) | (simp [ints, prs]; done)) (by rfl) (by first | rfl | (simp; done) | (simp [ints, prs]; done)))
  · have hlt : decide (((R2 n : Nat) : Int) < (R2 n : Nat)) = false := decide_eq_false (by omega)
    unfold m54_1
    repeat' (first
      | (refine g_op ?_; first
        | refine ep_mov rfl ?_ | refine sp_loadN rfl rfl rfl rfl rfl ?_
        | refine ep_bin rfl rfl (by first | exact b_add (by omega) (by omega) | exact b_sub (by omega) (by omega) | exact b_and (by omega) (by omega) | exact b_or (by omega) (by omega) | exact b_shr (by omega) | exact b_shl (by omega) (by omega) | exact b_lss | exact b_leq | exact b_gtr | exact b_geq | exact b_eql | exact b_neq) ?_
        | refine ep_pickT rfl rfl ?_ | refine ep_pickF rfl rfl ?_ | refine ep_pickTH rfl (by assumption) rfl ?_ | refine ep_pickFH rfl (by assumption) rfl ?_ | refine ep_not rfl ?_)
      | (refine g_ops ?_; first | refine eo_none ?_ | refine eo_nil ?_ | refine eo_yes rfl ?_ | refine eo_no rfl ?_ | refine eo_und rfl ?_ | refine eo_yesH rfl (by assumption) ?_ | refine eo_noH rfl (by assumption) ?_)
      | (refine g_code ?_; first | refine ec_seq ?_ | refine ec_region ?_ | refine ec_block ?_ | refine ec_skip ?_ | refine ec_exit ?_ | refine ec_condT rfl ?_ | refine ec_condF rfl ?_ | refine ec_condTH rfl (by assumption) ?_ | refine ec_condFH rfl (by assumption) ?_)
      | refine ek_seqN ?_ | refine ek_seqX ?_ | refine ek_blkN ?_ | refine ek_blkR ?_ | refine ek_blkX ?_ | refine ek_blkY rfl ?_)
    exact rnd_out (by rfl) (by simp) (scmp2 (by rfl) (by rfl) (by exact ⟨rfl, rfl, rfl⟩) (by rfl) (by first | rfl | (simp; done) | (simp [ints, prs]; done)) (by rfl) (by first | rfl | (simp; done) | (simp [ints, prs]; done)))

theorem lpen_t_c (n b v r : Nat) (hn : n ≤ 4) (hb : b < 65536) (hr : r < R2 n) (x : Nat) (xs : List Nat) (o : Out) (ho : (if allF (fun j => (((bt b r : Nat) : Int) == (v : Nat)) && allF (enQ b v r (fun r s => r &&& s == s)) 0 j) 0 (R2 n) = true then (⟨.exit 2, [(1, .int .i64 (v : Nat)), (2, .bool true), (3, .ptr 0 0), (7, .sl 1 0 (x :: xs).length), (8, .int .i64 (R2 n : Nat)), (9, .int .i64 (r : Nat)), (10, .bool ((((bt b r : Nat) : Int) == (v : Nat)) && allF (enQ b v r (fun r s => r &&& s == s)) 0 (R2 n)))], [⟨[.int .i64 n, .int .i64 b], 1, 0, some 0, true⟩, ⟨ints (x :: xs), 1, 1, some 0, false⟩]⟩ : Out) else ⟨.exit 2, [(1, .int .i64 (v : Nat)), (2, .bool true), (3, .ptr 0 0), (7, .sl 1 0 (x :: xs).length), (8, .int .i64 (R2 n : Nat)), (9, .int .i64 (r : Nat)), (10, .bool false)], [⟨[.int .i64 n, .int .i64 b], 1, 0, some 0, true⟩, ⟨ints (x :: xs), 1, 1, some 0, false⟩]⟩) = o) :
    LpS cx 62 0 m54_1 [(1, .int .i64 (v : Nat)), (2, .bool true), (3, .ptr 0 0), (7, .sl 1 0 (x :: xs).length), (8, .int .i64 (R2 n : Nat)), (9, .int .i64 (r : Nat)), (10, .bool ((((bt b r : Nat) : Int) == (v : Nat)) && allF (enQ b v r (fun r s => r &&& s == s)) 0 (0))), (11, .int .i64 (0 : Nat))] [⟨[.int .i64 n, .int .i64 b], 1, 0, some 0, true⟩, ⟨ints (x :: xs), 1, 1, some 0, false⟩] o.x o.e o.h := by
  obtain ⟨h1, h2, h3, h4⟩ := shN hn
  refine lp_all (R2 n) (fun j => (((bt b r : Nat) : Int) == (v : Nat)) && allF (enQ b v r (fun r s => r &&& s == s)) 0 j) (fun i => [(1, .int .i64 (v : Nat)), (2, .bool true), (3, .ptr 0 0), (7, .sl 1 0 (x :: xs).length), (8, .int .i64 (R2 n : Nat)), (9, .int .i64 (r : Nat)), (10, .bool ((((bt b r : Nat) : Int) == (v : Nat)) && allF (enQ b v r (fun r s => r &&& s == s)) 0 (i))), (11, .int .i64 (i : Nat))]) (fun i => [⟨[.int .i64 n, .int .i64 b], 1, 0, some 0, true⟩, ⟨ints (x :: xs), 1, 1, some 0, false⟩]) _ _ ?_ ?_ ?_ (R2 n) 0 o (by omega) ho
  · intro i hi hp
    have hlt : decide ((i : Int) < (R2 n : Nat)) = true := decide_eq_true (by omega)
    have hp' : ((((bt b r : Nat) : Int) == (v : Nat)) && allF (enQ b v r (fun r s => r &&& s == s)) 0 i) = true := hp
    have e1 := ev99 i r (by omega) (by omega)
    have e2 := ev99 r i (by omega) (by omega)
    have e3 := ev57 n b i (by omega) (by omega)
    have hA := ((Bool.and_eq_true _ _).mp hp').2
    have hE := ((Bool.and_eq_true _ _).mp hp').1
    have hz : ((((bt b r : Nat) : Int) == (v : Nat)) && allF (enQ b v r (fun r s => r &&& s == s)) 0 (i + 1)) = enQ b v r (fun r s => r &&& s == s) i := by rw [allF_s, hA, hE, Bool.true_and, Bool.true_and]
    rw [hz, hp']
    have w1 := ieq i r
    have w2 := ine (bt b i) v
    have hQ : enQ b v r (fun r s => r &&& s == s) i = (i == r || (bt b i != v || !(r &&& i == i))) := rfl
    rw [hQ]
    cases c1 : (i == r)
    · rw [c1] at w1
      cases c2 : (bt b i != v)
      · rw [c2] at w2
        unfold m54_1
        repeat' (first
          | (refine g_op ?_; first
            | refine ep_mov rfl ?_ | refine sp_loadN rfl rfl rfl rfl rfl ?_
            | refine ep_call0 rfl (by first | exact e1 | exact e2 | exact e3) rfl rfl ?_
            | refine sp_call rfl rfl rfl rfl (by first | exact e1 | exact e2 | exact e3) ⟨rfl, rfl, rfl, rfl⟩ rfl rfl rfl ?_
            | refine ep_bin rfl rfl (by first | exact b_add (by omega) (by omega) | exact b_sub (by omega) (by omega) | exact b_and (by omega) (by omega) | exact b_or (by omega) (by omega) | exact b_shr (by omega) | exact b_shl (by omega) (by omega) | exact b_lss | exact b_leq | exact b_gtr | exact b_geq | exact b_eql | exact b_neq) ?_
            | refine ep_pickT rfl rfl ?_ | refine ep_pickF rfl rfl ?_ | refine ep_pickTH rfl (by assumption) rfl ?_ | refine ep_pickFH rfl (by assumption) rfl ?_ | refine ep_not rfl ?_)
          | (refine g_ops ?_; first | refine eo_none ?_ | refine eo_nil ?_ | refine eo_yes rfl ?_ | refine eo_no rfl ?_ | refine eo_und rfl ?_ | refine eo_yesH rfl (by assumption) ?_ | refine eo_noH rfl (by assumption) ?_)
          | (refine g_code ?_; first | refine ec_seq ?_ | refine ec_region ?_ | refine ec_block ?_ | refine ec_skip ?_ | refine ec_exit ?_ | refine ec_condT rfl ?_ | refine ec_condF rfl ?_ | refine ec_condTH rfl (by assumption) ?_ | refine ec_condFH rfl (by assumption) ?_)
          | refine ek_seqN ?_ | refine ek_seqX ?_ | refine ek_blkN ?_ | refine ek_blkR ?_ | refine ek_blkX ?_ | refine ek_blkY rfl ?_)
        exact rnd_on (by rfl) (scmp2 (by rfl) (by rfl) (by exact ⟨rfl, rfl, rfl⟩) (by rfl) (by first | rfl | (simp; done) | (simp [ints, prs]; done)) (by rfl) (by first | rfl | (simp; done) | (simp [ints, prs]; done)))
      · rw [c2] at w2
        unfold m54_1
        repeat' (first
          | (refine g_op ?_; first
            | refine ep_mov rfl ?_ | refine sp_loadN rfl rfl rfl rfl rfl ?_
            | refine ep_call0 rfl (by first | exact e1 | exact e2 | exact e3) rfl rfl ?_
            | refine sp_call rfl rfl rfl rfl (by first | exact e1 | exact e2 | exact e3) ⟨rfl, rfl, rfl, rfl⟩ rfl rfl rfl ?_
            | refine ep_bin rfl rfl (by first | exact b_add (by omega) (by omega) | exact b_sub (by omega) (by omega) | exact b_and (by omega) (by omega) | exact b_or (by omega) (by omega) | exact b_shr (by omega) | exact b_shl (by omega) (by omega) | exact b_lss | exact b_leq | exact b_gtr | exact b_geq | exact b_eql | exact b_neq) ?_
            | refine ep_pickT rfl rfl ?_ | refine ep_pickF rfl rfl ?_ | refine ep_pickTH rfl (by assumption) rfl ?_ | refine ep_pickFH rfl (by assumption) rfl ?_ | refine ep_not rfl ?_)
          | (refine g_ops ?_; first | refine eo_none ?_ | refine eo_nil ?_ | refine eo_yes rfl ?_ | refine eo_no rfl ?_ | refine eo_und rfl ?_ | refine eo_yesH rfl (by assumption) ?_ | refine eo_noH rfl (by assumption) ?_)
          | (refine g_code ?_; first | refine ec_seq ?_ | refine ec_region ?_ | refine ec_block ?_ | refine ec_skip ?_ | refine ec_exit ?_ | refine ec_condT rfl ?_ | refine ec_condF rfl ?_ | refine ec_condTH rfl (by assumption) ?_ | refine ec_condFH rfl (by assumption) ?_)
          | refine ek_seqN ?_ | refine ek_seqX ?_ | refine ek_blkN ?_ | refine ek_blkR ?_ | refine ek_blkX ?_ | refine ek_blkY rfl ?_)
        exact rnd_on (by rfl) (scmp2 (by rfl) (by rfl) (by exact ⟨rfl, rfl, rfl⟩) (by rfl) (by first | rfl | (simp; done) | (simp [ints, prs]; done)) (by rfl) (by first | rfl | (simp; done) | (simp [ints, prs]; done)))
    rw [c1] at w1
    unfold m54_1
    repeat' (first
      | (refine g_op ?_; first
        | refine ep_mov rfl ?_ | refine sp_loadN rfl rfl rfl rfl rfl ?_
        | refine ep_call0 rfl (by first | exact e1 | exact e2 | exact e3) rfl rfl ?_
        | refine sp_call rfl rfl rfl rfl (by first | exact e1 | exact e2 | exact e3) ⟨rfl, rfl, rfl, rfl⟩ rfl rfl rfl ?_
        | refine ep_bin rfl rfl (by first | exact b_add (by omega) (by omega) | exact b_sub (by omega) (by omega) | exact b_and (by omega) (by omega) | exact b_or (by omega) (by omega) | exact b_shr (by omega) | exact b_shl (by omega) (by omega) | exact b_lss | exact b_leq | exact b_gtr | exact b_geq | exact b_eql | exact b_neq) ?_
        | refine ep_pickT rfl rfl ?_ | refine ep_pickF rfl rfl ?_ | refine ep_pickTH rfl (by assumption) rfl ?_ | refine ep_pickFH rfl (by assumption) rfl ?_ | refine ep_not rfl ?_)
      | (refine g_ops ?_; first | refine eo_none ?_ | refine eo_nil ?_ | refine eo_yes rfl ?_ | refine eo_no rfl ?_ | refine eo_und rfl ?_ | refine eo_yesH rfl (by assumption) ?_ | refine eo_noH rfl (by assumption) ?_)
      | (refine g_code ?_; first | refine ec_seq ?_ | refine ec_region ?_ | refine ec_block ?_ | refine ec_skip ?_ | refine ec_exit ?_ | refine ec_condT rfl ?_ | refine ec_condF rfl ?_ | refine ec_condTH rfl (by assumption) ?_ | refine ec_condFH rfl (by assumption) ?_)
      | refine ek_seqN ?_ | refine ek_seqX ?_ | refine ek_blkN ?_ | refine ek_blkR ?_ | refine ek_blkX ?_ | refine ek_blkY rfl ?_)
    exact rnd_on (by rfl) (scmp2 (by rfl) (by rfl) (by exact ⟨rfl, rfl, rfl⟩) (by rfl) (by first | rfl | (simp; done) | (simp [ints, prs]; done)) (by rfl) (by first | rfl | (simp; done) | (simp [ints, prs]; done)))
  · intro i hi hp
    have hlt : decide ((i : Int) < (R2 n : Nat)) = true := decide_eq_true (by omega)
    have hp' : ((((bt b r : Nat) : Int) == (v : Nat)) && allF (enQ b v r (fun r s => r &&& s == s)) 0 i) = false := hp
    have e1 := ev99 i r (by omega) (by omega)
    have e2 := ev99 r i (by omega) (by omega)
    have e3 := ev57 n b i (by omega) (by omega)
    rw [hp']
    unfold m54_1
    repeat' (first
      | (refine g_op ?_; first
        | refine ep_mov rfl ?_ | refine sp_loadN rfl rfl rfl rfl rfl ?_
        | refine ep_call0 rfl (by first | exact e1 | exact e2 | exact e3) rfl rfl ?_
        | refine sp_call rfl rfl rfl rfl (by first | exact e1 | exact e2 | exact e3) ⟨rfl, rfl, rfl, rfl⟩ rfl rfl rfl ?_
        | refine ep_bin rfl rfl (by first | exact b_add (by omega) (by omega) | exact b_sub (by omega) (by omega) | exact b_and (by omega) (by omega) | exact b_or (by omega) (by omega) | exact b_shr (by omega) | exact b_shl (by omega) (by omega) | exact b_lss | exact b_leq | exact b_gtr | exact b_geq | exact b_eql | exact b_neq) ?_
        | refine ep_pickT rfl rfl ?_ | refine ep_pickF rfl rfl ?_ | refine ep_pickTH rfl (by assumption) rfl ?_ | refine ep_pickFH rfl (by assumption) rfl ?_ | refine ep_not rfl ?_)
      | (refine g_ops ?_; first | refine eo_none ?_ | refine eo_nil ?_ | refine eo_yes rfl ?_ | refine eo_no rfl ?_ | refine eo_und rfl ?_ | refine eo_yesH rfl (by assumption) ?_ | refine eo_noH rfl (by assumption) ?_)
      | (refine g_code ?_; first | refine ec_seq ?_ | refine ec_region ?_ | refine ec_block ?_ | refine ec_skip ?_ | refine ec_exit ?_ | refine ec_condT rfl ?_ | refine ec_condF rfl ?_ | refine ec_condTH rfl (by assumption) ?_ | refine ec_condFH rfl (by assumption) ?_)
      | refine ek_seqN ?_ | refine ek_seqX ?_ | refine ek_blkN ?_ | refine ek_blkR ?_ | refine ek_blkX ?_ | refine ek_blkY rfl ?_)
    exact rnd_out (by rfl) (by simp) (scmp2 (by rfl) (by rfl) (by exact ⟨rfl, rfl, rfl⟩) (by rfl) (by first | rfl | (simp; done) | (simp [ints, prs]; done)) (by rfl) (by first | rfl | (simp; done) | (simp [ints, prs]; done)))
  · have hlt : decide (((R2 n : Nat) : Int) < (R2 n : Nat)) = false := decide_eq_false (by omega)
    unfold m54_1
    repeat' (first
      | (refine g_op ?_; first
        | refine ep_mov rfl ?_ | refine sp_loadN rfl rfl rfl rfl rfl ?_
        | refine ep_bin rfl rfl (by first | exact b_add (by omega) (by omega) | exact b_sub (by omega) (by omega) | exact b_and (by omega) (by omega) | exact b_or (by omega) (by omega) | exact b_shr (by omega) | exact b_shl (by omega) (by omega) | exact b_lss | exact b_leq | exact b_gtr | exact b_geq | exact b_eql | exact b_neq) ?_
        | refine ep_pickT rfl rfl ?_ | refine ep_pickF rfl rfl ?_ | refine ep_pickTH rfl (by assumption) rfl ?_ | refine ep_pickFH rfl (by assumption) rfl ?_ | refine ep_not rfl ?_)
      | (refine g_ops ?_; first | refine eo_none ?_ | refine eo_nil ?_ | refine eo_yes rfl ?_ | refine eo_no rfl ?_ | refine eo_und rfl ?_ | refine eo_yesH rfl (by assumption) ?_ | refine eo_noH rfl (by assumption) ?_)
      | (refine g_code ?_; first | refine ec_seq ?_ | refine ec_region ?_ | refine ec_block ?_ | refine ec_skip ?_ | refine ec_exit ?_ | refine ec_condT rfl ?_ | refine ec_condF rfl ?_ | refine ec_condTH rfl (by assumption) ?_ | refine ec_condFH rfl (by assumption) ?_)
      | refine ek_seqN ?_ | refine ek_seqX ?_ | refine ek_blkN ?_ | refine ek_blkR ?_ | refine ek_blkX ?_ | refine ek_blkY rfl ?_)
    exact rnd_out (by rfl) (by simp) (scmp2 (by rfl) (by rfl) (by exact ⟨rfl, rfl, rfl⟩) (by rfl) (by first | rfl | (simp; done) | (simp [ints, prs]; done)) (by rfl) (by first | rfl | (simp; done) | (simp [ints, prs]; done)))

theorem lp54_0_t (n b v : Nat) (hn : n ≤ 4) (hb : b < 65536) (o : Out) (ho : (match selm (enP n b v (fun r s => r &&& s == s)) (idn) (R2 n) with | [] => (⟨.exit 0, [(7, .emp)], []⟩ : Out) | x :: xs => ⟨.exit 0, [(7, .sl 0 0 (x :: xs).length)], [⟨ints (x :: xs), 1, 0, some 0, false⟩]⟩) = o) :
    LpS cx 62 0 m54_0 [(1, .int .i64 (v : Nat)), (2, .bool true), (3, .ptr 0 0), (7, .emp), (8, .int .i64 (R2 n : Nat)), (9, .int .i64 (0 : Nat))] [⟨[.int .i64 n, .int .i64 b], 1, 0, some 0, true⟩] o.x o.e o.h := by
  obtain ⟨h1, h2, h3, h4⟩ := shN hn
  subst ho
  refine lp_st (R2 n) (selm (enP n b v (fun r s => r &&& s == s)) (idn)) (fun i s => match s with | [] => [(1, .int .i64 (v : Nat)), (2, .bool true), (3, .ptr 0 0), (7, .emp), (8, .int .i64 (R2 n : Nat)), (9, .int .i64 (i : Nat))] | x :: xs => [(1, .int .i64 (v : Nat)), (2, .bool true), (3, .ptr 0 0), (7, .sl 1 0 (x :: xs).length), (8, .int .i64 (R2 n : Nat)), (9, .int .i64 (i : Nat))]) (fun i s => match s with | [] => [⟨[.int .i64 n, .int .i64 b], 1, 0, some 0, true⟩] | x :: xs => [⟨[.int .i64 n, .int .i64 b], 1, 0, some 0, true⟩, ⟨ints (x :: xs), 1, 1, some 0, false⟩]) (fun s => match s with | [] => ⟨.exit 0, [(7, .emp)], []⟩ | x :: xs => ⟨.exit 0, [(7, .sl 0 0 (x :: xs).length)], [⟨ints (x :: xs), 1, 0, some 0, false⟩]⟩) ?_ ?_ (R2 n) 0 (by omega)
  · intro i s hi hs
    have hlt : decide ((i : Int) < (R2 n : Nat)) = true := decide_eq_true (by omega)
    have hle : decide ((i : Int) ≤ (R2 n : Nat) - 1) = true := decide_eq_true (by omega)
    have hlen : s.length ≤ 16 := by have := selm_len (enP n b v (fun r s => r &&& s == s)) (idn) i; rw [hs] at this; omega
    cases hp : (enP n b v (fun r s => r &&& s == s)) i with
    | true =>
      have hp' : ((enP n b v (fun r s => r &&& s == s)) i) = true := hp
      have lpe := lpen_t_e n b v i hn hb hi _ (ite_pre2 (E := (((bt b i : Nat) : Int) == (v : Nat))) (Q := enQ b v i (fun r s => r &&& s == s)) (n := R2 n) (fun b_ => (⟨.exit 2, [(1, .int .i64 (v : Nat)), (2, .bool true), (3, .ptr 0 0), (7, .emp), (8, .int .i64 (R2 n : Nat)), (9, .int .i64 (i : Nat)), (10, .bool b_)], [⟨[.int .i64 n, .int .i64 b], 1, 0, some 0, true⟩]⟩ : Out)))
      have lpc := fun (x : Nat) (xs : List Nat) => lpen_t_c n b v i hn hb hi x xs _ (ite_pre2 (E := (((bt b i : Nat) : Int) == (v : Nat))) (Q := enQ b v i (fun r s => r &&& s == s)) (n := R2 n) (fun b_ => (⟨.exit 2, [(1, .int .i64 (v : Nat)), (2, .bool true), (3, .ptr 0 0), (7, .sl 1 0 (x :: xs).length), (8, .int .i64 (R2 n : Nat)), (9, .int .i64 (i : Nat)), (10, .bool b_)], [⟨[.int .i64 n, .int .i64 b], 1, 0, some 0, true⟩, ⟨ints (x :: xs), 1, 1, some 0, false⟩]⟩ : Out)))
      have hq : ((((bt b i : Nat) : Int) == (v : Nat)) && allF (enQ b v i (fun r s => r &&& s == s)) 0 (R2 n)) = true := hp'
      simp only [hq] at lpe lpc
      simp only [allFz, Bool.and_true] at lpe lpc
      have e3 := ev57 n b i (by omega) (by omega)
      cases s with
      | nil =>
        refine ⟨[(idn) i], by rw [selm_t (p := enP n b v (fun r s => r &&& s == s)) hp, hs]; try rfl, ?_⟩
        unfold m54_0
        repeat' (first
          | refine sc_loop lpe rfl rfl ⟨rfl, rfl, rfl⟩ rfl rfl rfl ?_
          | refine sc_loop (lpc _ _) rfl rfl ⟨rfl, rfl, rfl⟩ rfl rfl rfl ?_
          | (refine g_op ?_; first
            | refine ep_mov rfl ?_ | refine sp_loadN rfl rfl rfl rfl rfl ?_
            | refine ep_call0 rfl (by first | exact e3) rfl rfl ?_
            | refine sp_call rfl rfl rfl rfl (by first | exact e3) ⟨rfl, rfl, rfl, rfl⟩ rfl rfl rfl ?_
            | refine ep_bin rfl rfl (by first | exact b_add (by omega) (by omega) | exact b_sub (by omega) (by omega) | exact b_and (by omega) (by omega) | exact b_or (by omega) (by omega) | exact b_shr (by omega) | exact b_shl (by omega) (by omega) | exact b_lss | exact b_leq | exact b_gtr | exact b_geq | exact b_eql | exact b_neq) ?_
            | refine sp_bslice rfl rfl rfl rfl rfl ?_ | refine sp_push0 rfl (by first | exact .inl rfl | exact .inr rfl) rfl rfl rfl rfl rfl (by decide) rfl rfl rfl ?_ | refine sp_push rfl rfl rfl rfl rfl rfl rfl (by first | exact ints_len _ | exact prs_len _ _ | exact zints_len _) (by omega) (Nat.zero_le _) rfl rfl rfl rfl rfl ?_)
          | (refine g_ops ?_; first | refine eo_none ?_ | refine eo_nil ?_)
          | (refine g_code ?_; first | refine ec_seq ?_ | refine ec_region ?_ | refine ec_block ?_ | refine ec_skip ?_ | refine ec_exit ?_ | refine ec_condT rfl ?_ | refine ec_condF rfl ?_ | refine ec_condTH rfl (by assumption) ?_ | refine ec_condFH rfl (by assumption) ?_)
          | refine ek_seqN ?_ | refine ek_seqX ?_ | refine ek_seqR ?_ | refine ek_blkN ?_ | refine ek_blkR ?_ | refine ek_blkX ?_ | refine ek_blkY rfl ?_)
        exact rnd_on (by rfl) (scmp2 (by rfl) (by rfl) (by exact ⟨rfl, rfl, rfl⟩) (by rfl) (by first | rfl | (simp; done) | (simp [ints, prs]; done)) (by rfl) (by first | rfl | (simp; done) | (simp [ints, prs]; done)))
      | cons x xs =>
        refine ⟨(x :: xs) ++ [(idn) i], by rw [selm_t (p := enP n b v (fun r s => r &&& s == s)) hp, hs]; try rfl, ?_⟩
        unfold m54_0
        repeat' (first
          | refine sc_loop lpe rfl rfl ⟨rfl, rfl, rfl⟩ rfl rfl rfl ?_
          | refine sc_loop (lpc _ _) rfl rfl ⟨rfl, rfl, rfl⟩ rfl rfl rfl ?_
          | (refine g_op ?_; first
            | refine ep_mov rfl ?_ | refine sp_loadN rfl rfl rfl rfl rfl ?_
            | refine ep_call0 rfl (by first | exact e3) rfl rfl ?_
            | refine sp_call rfl rfl rfl rfl (by first | exact e3) ⟨rfl, rfl, rfl, rfl⟩ rfl rfl rfl ?_
            | refine ep_bin rfl rfl (by first | exact b_add (by omega) (by omega) | exact b_sub (by omega) (by omega) | exact b_and (by omega) (by omega) | exact b_or (by omega) (by omega) | exact b_shr (by omega) | exact b_shl (by omega) (by omega) | exact b_lss | exact b_leq | exact b_gtr | exact b_geq | exact b_eql | exact b_neq) ?_
            | refine sp_bslice rfl rfl rfl rfl rfl ?_ | refine sp_push0 rfl (by first | exact .inl rfl | exact .inr rfl) rfl rfl rfl rfl rfl (by decide) rfl rfl rfl ?_ | refine sp_push rfl rfl rfl rfl rfl rfl rfl (by first | exact ints_len _ | exact prs_len _ _ | exact zints_len _) (by omega) (Nat.zero_le _) rfl rfl rfl rfl rfl ?_)
          | (refine g_ops ?_; first | refine eo_none ?_ | refine eo_nil ?_)
          | (refine g_code ?_; first | refine ec_seq ?_ | refine ec_region ?_ | refine ec_block ?_ | refine ec_skip ?_ | refine ec_exit ?_ | refine ec_condT rfl ?_ | refine ec_condF rfl ?_ | refine ec_condTH rfl (by assumption) ?_ | refine ec_condFH rfl (by assumption) ?_)
          | refine ek_seqN ?_ | refine ek_seqX ?_ | refine ek_seqR ?_ | refine ek_blkN ?_ | refine ek_blkR ?_ | refine ek_blkX ?_ | refine ek_blkY rfl ?_)
        exact rnd_on (by rfl) (scmp2 (by rfl) (by rfl) (by exact ⟨rfl, rfl, rfl⟩) (by rfl) (by first | rfl | (simp; done) | (simp [ints, prs]; done)) (by rfl) (by first | rfl | (simp; done) | (simp [ints, prs]; done)))
    | false =>
      have hp' : ((enP n b v (fun r s => r &&& s == s)) i) = false := hp
      have lpe := lpen_t_e n b v i hn hb hi _ (ite_pre2 (E := (((bt b i : Nat) : Int) == (v : Nat))) (Q := enQ b v i (fun r s => r &&& s == s)) (n := R2 n) (fun b_ => (⟨.exit 2, [(1, .int .i64 (v : Nat)), (2, .bool true), (3, .ptr 0 0), (7, .emp), (8, .int .i64 (R2 n : Nat)), (9, .int .i64 (i : Nat)), (10, .bool b_)], [⟨[.int .i64 n, .int .i64 b], 1, 0, some 0, true⟩]⟩ : Out)))
      have lpc := fun (x : Nat) (xs : List Nat) => lpen_t_c n b v i hn hb hi x xs _ (ite_pre2 (E := (((bt b i : Nat) : Int) == (v : Nat))) (Q := enQ b v i (fun r s => r &&& s == s)) (n := R2 n) (fun b_ => (⟨.exit 2, [(1, .int .i64 (v : Nat)), (2, .bool true), (3, .ptr 0 0), (7, .sl 1 0 (x :: xs).length), (8, .int .i64 (R2 n : Nat)), (9, .int .i64 (i : Nat)), (10, .bool b_)], [⟨[.int .i64 n, .int .i64 b], 1, 0, some 0, true⟩, ⟨ints (x :: xs), 1, 1, some 0, false⟩]⟩ : Out)))
      have hq : ((((bt b i : Nat) : Int) == (v : Nat)) && allF (enQ b v i (fun r s => r &&& s == s)) 0 (R2 n)) = false := hp'
      simp only [hq] at lpe lpc
      simp only [allFz, Bool.and_true] at lpe lpc
      have e3 := ev57 n b i (by omega) (by omega)
      cases s with
      | nil =>
        refine ⟨[], by rw [selm_f (p := enP n b v (fun r s => r &&& s == s)) hp, hs]; try rfl, ?_⟩
        unfold m54_0
        repeat' (first
          | refine sc_loop lpe rfl rfl ⟨rfl, rfl, rfl⟩ rfl rfl rfl ?_
          | refine sc_loop (lpc _ _) rfl rfl ⟨rfl, rfl, rfl⟩ rfl rfl rfl ?_
          | (refine g_op ?_; first
            | refine ep_mov rfl ?_ | refine sp_loadN rfl rfl rfl rfl rfl ?_
            | refine ep_call0 rfl (by first | exact e3) rfl rfl ?_
            | refine sp_call rfl rfl rfl rfl (by first | exact e3) ⟨rfl, rfl, rfl, rfl⟩ rfl rfl rfl ?_
            | refine ep_bin rfl rfl (by first | exact b_add (by omega) (by omega) | exact b_sub (by omega) (by omega) | exact b_and (by omega) (by omega) | exact b_or (by omega) (by omega) | exact b_shr (by omega) | exact b_shl (by omega) (by omega) | exact b_lss | exact b_leq | exact b_gtr | exact b_geq | exact b_eql | exact b_neq) ?_
            | refine sp_bslice rfl rfl rfl rfl rfl ?_ | refine sp_push0 rfl (by first | exact .inl rfl | exact .inr rfl) rfl rfl rfl rfl rfl (by decide) rfl rfl rfl ?_ | refine sp_push rfl rfl rfl rfl rfl rfl rfl (by first | exact ints_len _ | exact prs_len _ _ | exact zints_len _) (by omega) (Nat.zero_le _) rfl rfl rfl rfl rfl ?_)
          | (refine g_ops ?_; first | refine eo_none ?_ | refine eo_nil ?_)
          | (refine g_code ?_; first | refine ec_seq ?_ | refine ec_region ?_ | refine ec_block ?_ | refine ec_skip ?_ | refine ec_exit ?_ | refine ec_condT rfl ?_ | refine ec_condF rfl ?_ | refine ec_condTH rfl (by assumption) ?_ | refine ec_condFH rfl (by assumption) ?_)
          | refine ek_seqN ?_ | refine ek_seqX ?_ | refine ek_seqR ?_ | refine ek_blkN ?_ | refine ek_blkR ?_ | refine ek_blkX ?_ | refine ek_blkY rfl ?_)
        exact rnd_on (by rfl) (scmp2 (by rfl) (by rfl) (by exact ⟨rfl, rfl, rfl⟩) (by rfl) (by first | rfl | (simp; done) | (simp [ints, prs]; done)) (by rfl) (by first | rfl | (simp; done) | (simp [ints, prs]; done)))
      | cons x xs =>
        refine ⟨x :: xs, by rw [selm_f (p := enP n b v (fun r s => r &&& s == s)) hp, hs]; try rfl, ?_⟩
        unfold m54_0
        repeat' (first
          | refine sc_loop lpe rfl rfl ⟨rfl, rfl, rfl⟩ rfl rfl rfl ?_
          | refine sc_loop (lpc _ _) rfl rfl ⟨rfl, rfl, rfl⟩ rfl rfl rfl ?_
          | (refine g_op ?_; first
            | refine ep_mov rfl ?_ | refine sp_loadN rfl rfl rfl rfl rfl ?_
            | refine ep_call0 rfl (by first | exact e3) rfl rfl ?_
            | refine sp_call rfl rfl rfl rfl (by first | exact e3) ⟨rfl, rfl, rfl, rfl⟩ rfl rfl rfl ?_
            | refine ep_bin rfl rfl (by first | exact b_add (by omega) (by omega) | exact b_sub (by omega) (by omega) | exact b_and (by omega) (by omega) | exact b_or (by omega) (by omega) | exact b_shr (by omega) | exact b_shl (by omega) (by omega) | exact b_lss | exact b_leq | exact b_gtr | exact b_geq | exact b_eql | exact b_neq) ?_
            | refine sp_bslice rfl rfl rfl rfl rfl ?_ | refine sp_push0 rfl (by first | exact .inl rfl | exact .inr rfl) rfl rfl rfl rfl rfl (by decide) rfl rfl rfl ?_ | refine sp_push rfl rfl rfl rfl rfl rfl rfl (by first | exact ints_len _ | exact prs_len _ _ | exact zints_len _) (by omega) (Nat.zero_le _) rfl rfl rfl rfl rfl ?_)
          | (refine g_ops ?_; first | refine eo_none ?_ | refine eo_nil ?_)
          | (refine g_code ?_; first | refine ec_seq ?_ | refine ec_region ?_ | refine ec_block ?_ | refine ec_skip ?_ | refine ec_exit ?_ | refine ec_condT rfl ?_ | refine ec_condF rfl ?_ | refine ec_condTH rfl (by assumption) ?_ | refine ec_condFH rfl (by assumption) ?_)
          | refine ek_seqN ?_ | refine ek_seqX ?_ | refine ek_seqR ?_ | refine ek_blkN ?_ | refine ek_blkR ?_ | refine ek_blkX ?_ | refine ek_blkY rfl ?_)
        exact rnd_on (by rfl) (scmp2 (by rfl) (by rfl) (by exact ⟨rfl, rfl, rfl⟩) (by rfl) (by first | rfl | (simp; done) | (simp [ints, prs]; done)) (by rfl) (by first | rfl | (simp; done) | (simp [ints, prs]; done)))
  · intro s hs
    have hlt : decide (((R2 n : Nat) : Int) < (R2 n : Nat)) = false := decide_eq_false (by omega)
    have hle : decide (((R2 n : Nat) : Int) ≤ (R2 n : Nat) - 1) = false := decide_eq_false (by omega)
    cases s with
    | nil =>
      unfold m54_0
      repeat' (first
        | (refine g_op ?_; first
          | refine ep_mov rfl ?_ | refine sp_loadN rfl rfl rfl rfl rfl ?_
          | refine ep_bin rfl rfl (by first | exact b_add (by omega) (by omega) | exact b_sub (by omega) (by omega) | exact b_and (by omega) (by omega) | exact b_or (by omega) (by omega) | exact b_shr (by omega) | exact b_shl (by omega) (by omega) | exact b_lss | exact b_leq | exact b_gtr | exact b_geq | exact b_eql | exact b_neq) ?_
          | refine sp_bslice rfl rfl rfl rfl rfl ?_ | refine sp_push0 rfl (by first | exact .inl rfl | exact .inr rfl) rfl rfl rfl rfl rfl (by decide) rfl rfl rfl ?_ | refine sp_push rfl rfl rfl rfl rfl rfl rfl (by first | exact ints_len _ | exact prs_len _ _ | exact zints_len _) (by omega) (Nat.zero_le _) rfl rfl rfl rfl rfl ?_)
        | (refine g_ops ?_; first | refine eo_none ?_ | refine eo_nil ?_)
        | (refine g_code ?_; first | refine ec_seq ?_ | refine ec_region ?_ | refine ec_block ?_ | refine ec_skip ?_ | refine ec_exit ?_ | refine ec_condT rfl ?_ | refine ec_condF rfl ?_ | refine ec_condTH rfl (by assumption) ?_ | refine ec_condFH rfl (by assumption) ?_)
        | refine ek_seqN ?_ | refine ek_seqX ?_ | refine ek_seqR ?_ | refine ek_blkN ?_ | refine ek_blkR ?_ | refine ek_blkX ?_ | refine ek_blkY rfl ?_)
      exact rnd_out (by rfl) (by simp) (scmp2 (by rfl) (by rfl) (by exact ⟨rfl, rfl, rfl⟩) (by rfl) (by first | rfl | (simp; done) | (simp [ints, prs]; done)) (by rfl) (by first | rfl | (simp; done) | (simp [ints, prs]; done)))
    | cons x xs =>
      unfold m54_0
      repeat' (first
        | (refine g_op ?_; first
          | refine ep_mov rfl ?_ | refine sp_loadN rfl rfl rfl rfl rfl ?_
          | refine ep_bin rfl rfl (by first | exact b_add (by omega) (by omega) | exact b_sub (by omega) (by omega) | exact b_and (by omega) (by omega) | exact b_or (by omega) (by omega) | exact b_shr (by omega) | exact b_shl (by omega) (by omega) | exact b_lss | exact b_leq | exact b_gtr | exact b_geq | exact b_eql | exact b_neq) ?_
          | refine sp_bslice rfl rfl rfl rfl rfl ?_ | refine sp_push0 rfl (by first | exact .inl rfl | exact .inr rfl) rfl rfl rfl rfl rfl (by decide) rfl rfl rfl ?_ | refine sp_push rfl rfl rfl rfl rfl rfl rfl (by first | exact ints_len _ | exact prs_len _ _ | exact zints_len _) (by omega) (Nat.zero_le _) rfl rfl rfl rfl rfl ?_)
        | (refine g_ops ?_; first | refine eo_none ?_ | refine eo_nil ?_)
        | (refine g_code ?_; first | refine ec_seq ?_ | refine ec_region ?_ | refine ec_block ?_ | refine ec_skip ?_ | refine ec_exit ?_ | refine ec_condT rfl ?_ | refine ec_condF rfl ?_ | refine ec_condTH rfl (by assumption) ?_ | refine ec_condFH rfl (by assumption) ?_)
        | refine ek_seqN ?_ | refine ek_seqX ?_ | refine ek_seqR ?_ | refine ek_blkN ?_ | refine ek_blkR ?_ | refine ek_blkX ?_ | refine ek_blkY rfl ?_)
      exact rnd_out (by rfl) (by simp) (scmp2 (by rfl) (by rfl) (by exact ⟨rfl, rfl, rfl⟩) (by rfl) (by first | rfl | (simp; done) | (simp [ints, prs]; done)) (by rfl) (by first | rfl | (simp; done) | (simp [ints, prs]; done)))

theorem ev54_t (n b v : Nat) (hn : n ≤ 4) (hb : b < 65536) : Ev cx 54 [.agg [.int .i64 n, .int .i64 b], .int .i64 v, .bool true] [] (slV .emp 0 (selm (enP n b v (fun r s => r &&& s == s)) idn (R2 n))) (slH 0 1 ints (selm (enP n b v (fun r s => r &&& s == s)) idn (R2 n))) := by
  have e1 := ev58 n hn
  cases hs : selm (enP n b v (fun r s => r &&& s == s)) idn (R2 n) with
  | nil =>
    have lp := lp54_0_t n b v hn hb _ (by rw [hs])
    refine has54.eev rfl rfl ?_
    unfold m54
    repeat' (first
      | refine sc_loop lp rfl rfl ⟨rfl, rfl, rfl⟩ rfl rfl rfl ?_
      | (refine g_op ?_; first
        | refine ep_mov rfl ?_ | refine ep_load1 rfl rfl rfl rfl ?_ | refine ep_fieldAddr rfl ?_
        | refine ep_call0 rfl (by first | exact e1) rfl rfl ?_
        | refine sp_call rfl rfl rfl rfl (by first | exact e1) ⟨rfl, rfl, rfl, rfl⟩ rfl rfl rfl ?_
        | refine sp_box rfl rfl rfl rfl rfl ?_ | refine ep_empt ?_)
      | (refine g_ops ?_; first | refine eo_none ?_ | refine eo_nil ?_)
      | (refine g_code ?_; first | refine ec_seq ?_ | refine ec_region ?_ | refine ec_block ?_ | refine ec_ret ?_)
      | refine ek_seqN ?_ | refine ek_seqX ?_ | refine ek_seqR ?_ | refine ek_blkN ?_ | refine ek_blkR ?_ | refine ek_blkX ?_ | refine ek_blkY rfl ?_)
    refine sfin (.inr rfl) (by rfl) (by rfl) (by exact ⟨rfl, rfl, rfl⟩) (by rfl) (by rfl) (by rfl) (by first | rfl | (simp; done) | (simp [ints, prs]; done))
  | cons x xs =>
    have lp := lp54_0_t n b v hn hb _ (by rw [hs])
    refine has54.eev rfl rfl ?_
    unfold m54
    repeat' (first
      | refine sc_loop lp rfl rfl ⟨rfl, rfl, rfl⟩ rfl rfl rfl ?_
      | (refine g_op ?_; first
        | refine ep_mov rfl ?_ | refine ep_load1 rfl rfl rfl rfl ?_ | refine ep_fieldAddr rfl ?_
        | refine ep_call0 rfl (by first | exact e1) rfl rfl ?_
        | refine sp_call rfl rfl rfl rfl (by first | exact e1) ⟨rfl, rfl, rfl, rfl⟩ rfl rfl rfl ?_
        | refine sp_box rfl rfl rfl rfl rfl ?_ | refine ep_empt ?_)
      | (refine g_ops ?_; first | refine eo_none ?_ | refine eo_nil ?_)
      | (refine g_code ?_; first | refine ec_seq ?_ | refine ec_region ?_ | refine ec_block ?_ | refine ec_ret ?_)
      | refine ek_seqN ?_ | refine ek_seqX ?_ | refine ek_seqR ?_ | refine ek_blkN ?_ | refine ek_blkR ?_ | refine ek_blkX ?_ | refine ek_blkY rfl ?_)
    refine sfin (.inr rfl) (by rfl) (by rfl) (by exact ⟨rfl, rfl, rfl⟩) (by rfl) (by rfl) (by rfl) (by first | rfl | (simp; done) | (simp [ints, prs]; done))
theorem end_eq (n b v : Nat) (bel : Nat → Nat → Bool) (rs : List Nat) (hs : selm (fun r => bt b r == v) idn (R2 n) = rs) : endL rs bel = selm (enP n b v bel) idn (R2 n) := by
  have e : ∀ p : Nat → Bool, selm p idn (R2 n) = (List.range (R2 n)).filter p := fun p => by unfold selm; exact List.map_id' _
  have hmem : ∀ s, s ∈ rs ↔ s < R2 n ∧ bt b s = v := by
    intro s; rw [← hs, e, List.mem_filter, List.mem_range, beq_iff_eq]
  unfold endL kpt
  rw [List.take_length]
  have key : rs.filter (fun x => !delQ rs bel x) = ((List.range (R2 n)).filter (fun r => bt b r == v)).filter (fun x => !delQ rs bel x) := by rw [← e, hs]
  rw [key, e, List.filter_filter]
  apply List.filter_congr
  intro r hr
  rw [List.mem_range] at hr
  unfold enP
  rw [ieq, Bool.and_comm]
  cases hv : (bt b r == v)
  · rfl
  rw [Bool.true_and, Bool.true_and]
  rw [Bool.eq_iff_iff, delQ, Bool.not_not, allF_iff, allF_iff]
  constructor
  · intro h s _ hsn
    unfold enQ
    cases c1 : (s == r)
    · cases c2 : (bt b s != v)
      · have hm : s ∈ rs := (hmem s).mpr ⟨by omega, by simpa [bne] using c2⟩
        obtain ⟨j, hj, rfl⟩ := List.getElem_of_mem hm
        have := h j (Nat.zero_le _) (by omega)
        rw [List.getD_eq_getElem?_getD, List.getElem?_eq_getElem hj, Option.getD_some] at this
        rw [show (rs[j] != r) = true by simp only [bne, c1]; rfl, Bool.true_and] at this
        rw [this]; rfl
      · rfl
    · rfl
  · intro h j _ hj
    have hj : j < rs.length := by omega
    rw [List.getD_eq_getElem?_getD, List.getElem?_eq_getElem hj, Option.getD_some]
    obtain ⟨m1, m2⟩ := (hmem rs[j]).mp (List.getElem_mem hj)
    have := h rs[j] (Nat.zero_le _) (by omega)
    unfold enQ at this
    rw [m2] at this
    revert this
    cases c1 : (rs[j] == r) <;> simp [bne, c1]
def enL (p t : Int) (v : Nat) (bel : Nat → Nat → Bool) : List Nat := if isFn p t = true then selm (enP p.toNat t.toNat v bel) idn (R2 p.toNat) else []
def enC (p t : Int) : Int := if isFn p t = true then 0 else 1
abbrev belF : Nat → Nat → Bool := fun r s => s &&& r == r
abbrev belT : Nat → Nat → Bool := fun r s => r &&& s == s
-- (impl.Func).leastTrue
def m56 : MC := (.seq (.region [⟨(.box (.t 0)), (some 1), none⟩, ⟨(.mov (.k .nils)), (some 2), none⟩] false) (.seq (.region [⟨(.load (some 2) (.t 1)), (some 3), none⟩, ⟨(.mkfn 103 [(.t 1)]), (some 4), none⟩, ⟨(.call 64 [(.t 3), (.t 4), (.k (.fn 68 []))]), (some 5), none⟩, ⟨(.mov (.t 5)), (some 2), none⟩] false) .ret))
theorem has56 : Has cx 56 6 m56 [(.tmp 2)] :=
  ⟨⟨Try.f56, Try.f56.body.getD .skip, by kernel_rfl, by kernel_rfl, by kernel_rfl, by kernel_rfl, by kernel_rfl, by kernel_rfl⟩⟩
theorem ev56 (n b : Nat) (a1 : n ≤ 4) (a3 : b < 65536) (L : List Nat) (hL : selm (enP n b 1 belT) idn (R2 n) = L) : ∃ (w : V) (hp : Heap), Ev cx 56 [.agg [.int .i64 n, .int .i64 b]] [] w hp ∧
    ((w = .nils ∧ hp = [] ∧ L = []) ∨ ∃ k : Nat, k ≤ 16 ∧ w = .sl 0 0 L.length ∧ hp = [⟨ints (L ++ List.replicate k 0), 1, 0, some 0, false⟩] ∧ L.length ≤ 16) := by
  obtain ⟨h1, h2, h3, h4⟩ := shN a1
  have en := end_eq n b 1 belT
  have hle := selm_len (fun r => bt b r == 1) idn (R2 n)
  cases hs : selm (fun r => bt b r == 1) idn (R2 n) with
  | nil =>
    have e2 := ends_nil 68 103 n b (fun r => bt b r == 1) a1 (fun r hr => ev103 n b r a3 hr) hs
    have hE := en [] hs
    rw [hL] at hE
    refine ⟨.nils, [], ?_, .inl ⟨rfl, rfl, hE.symm⟩⟩
    refine has56.eev rfl rfl ?_
    unfold m56
    repeat' (first
      | (refine g_op ?_; first
        | refine ep_mov rfl ?_ | refine sp_loadN rfl rfl rfl rfl rfl ?_
        | refine ep_call0 rfl (by first | exact e2) rfl rfl ?_
        | refine sp_call rfl rfl rfl rfl (by first | exact e2) ⟨rfl, rfl, rfl, rfl⟩ rfl rfl rfl ?_
        | refine sp_box rfl rfl rfl rfl rfl ?_ | refine ep_mkfn rfl ?_)
      | (refine g_ops ?_; first | refine eo_none ?_ | refine eo_nil ?_)
      | (refine g_code ?_; first | refine ec_seq ?_ | refine ec_region ?_ | refine ec_ret ?_)
      | refine ek_seqN ?_ | refine ek_seqR ?_)
    refine sfin (.inr rfl) (by rfl) (by rfl) (by exact ⟨rfl, rfl, rfl⟩) (by rfl) (by rfl) (by rfl) (by first | rfl | (simp; done) | (simp [ints, prs]; done))
  | cons x xs =>
    have e2 := ends_cons 68 103 n b (fun r => bt b r == 1) a1 (fun r hr => ev103 n b r a3 hr) belT (fun r s hr hs => ev68 r s hr hs) x xs hs
    have hE := en (x :: xs) hs
    rw [hL] at hE
    rw [hE] at e2
    rw [hs] at hle
    have hkl := kpt_len (delQ (x :: xs) belT) (x :: xs) (x :: xs).length
    rw [show kpt (delQ (x :: xs) belT) (x :: xs) (x :: xs).length = L from hE] at hkl
    refine ⟨_, _, ?_, .inr ⟨(x :: xs).length - L.length, by omega, rfl, rfl, by omega⟩⟩
    refine has56.eev rfl rfl ?_
    unfold m56
    repeat' (first
      | (refine g_op ?_; first
        | refine ep_mov rfl ?_ | refine sp_loadN rfl rfl rfl rfl rfl ?_
        | refine ep_call0 rfl (by first | exact e2) rfl rfl ?_
        | refine sp_call rfl rfl rfl rfl (by first | exact e2) ⟨rfl, rfl, rfl, rfl⟩ rfl rfl rfl ?_
        | refine sp_box rfl rfl rfl rfl rfl ?_ | refine ep_mkfn rfl ?_)
      | (refine g_ops ?_; first | refine eo_none ?_ | refine eo_nil ?_)
      | (refine g_code ?_; first | refine ec_seq ?_ | refine ec_region ?_ | refine ec_ret ?_)
      | refine ek_seqN ?_ | refine ek_seqR ?_)
    refine sfin (.inr rfl) (by rfl) (by rfl) (by exact ⟨rfl, rfl, rfl⟩) (by rfl) (by rfl) (by rfl) (by first | rfl | (simp; done) | (simp [ints, prs]; done))
theorem lp20_0_ge (n : Nat) (c : List V) (hn : n ≤ 1048576) (hl : n ≤ c.length) :
    LpS cx 19 1 m20_0 [(0, .sl 0 0 n), (1, .int .i64 ((0) + 1 : Nat)), (5, .int .i64 (0 : Nat))] [⟨mkc c (0), 1, 0, some 0, false⟩] (⟨.exit 0, [(1, .int .i64 ((n) + 1 : Nat))], [⟨mkc c (n), 1, 0, some 0, false⟩]⟩ : Out).x (⟨.exit 0, [(1, .int .i64 ((n) + 1 : Nat))], [⟨mkc c (n), 1, 0, some 0, false⟩]⟩ : Out).e (⟨.exit 0, [(1, .int .i64 ((n) + 1 : Nat))], [⟨mkc c (n), 1, 0, some 0, false⟩]⟩ : Out).h := by
  refine lp_st (n) (fun _ => ()) (fun i _ => [(0, .sl 0 0 n), (1, .int .i64 ((i) + 1 : Nat)), (5, .int .i64 (i : Nat))]) (fun i _ => [⟨mkc c (i), 1, 0, some 0, false⟩]) (fun _ => (⟨.exit 0, [(1, .int .i64 ((n) + 1 : Nat))], [⟨mkc c (n), 1, 0, some 0, false⟩]⟩ : Out)) ?_ ?_ (n) 0 (by omega)
  · intro i u_ hi hu_
    refine ⟨(), rfl, ?_⟩
    have hlt : decide ((i : Int) < (n : Nat)) = true := decide_eq_true (by omega)
    have b1 : binV .add (.int .i64 (i + 1 : Nat)) (.int .i64 1) = some (.int .i64 ((i + 1) + 1 : Nat)) := b_addN (b := 1) (by omega)
    have l1 := mkc_len (c := c) (i := i) (by omega)
    unfold m20_0
    repeat' (first
      | refine sp_storeS rfl rfl rfl rfl rfl rfl rfl (Nat.zero_le _) (by omega) (mkc_set1 (by omega)) rfl ?_
      | (refine g_op ?_; first
        | refine ep_mov rfl ?_
        | refine ep_bin rfl rfl (by first | exact b1 | exact b_add (by omega) (by omega) | exact b_sub (by omega) (by omega) | exact b_and (by omega) (by omega) | exact b_or (by omega) (by omega) | exact b_shr (by omega) | exact b_shl (by omega) (by omega) | exact b_lss | exact b_leq | exact b_gtr | exact b_geq | exact b_eql | exact b_neq) ?_
        | refine sp_store rfl rfl rfl rfl rfl rfl rfl rfl rfl rfl ?_ | refine ep_lenS rfl ?_ | refine ep_lenN rfl ?_ | refine ep_lenE rfl ?_ | refine sp_idx rfl rfl rfl (by omega) rfl ?_)
      | (refine g_ops ?_; first | refine eo_none ?_ | refine eo_nil ?_)
      | (refine g_code ?_; first | refine ec_seq ?_ | refine ec_region ?_ | refine ec_block ?_ | refine ec_skip ?_ | refine ec_exit ?_ | refine ec_condT rfl ?_ | refine ec_condF rfl ?_ | refine ec_condTH rfl (by assumption) ?_ | refine ec_condFH rfl (by assumption) ?_)
      | refine ek_seqN ?_ | refine ek_seqX ?_ | refine ek_blkN ?_ | refine ek_blkR ?_ | refine ek_blkX ?_ | refine ek_blkY rfl ?_)
    exact rnd_on (by rfl) (scmp2 (by rfl) (by rfl) (by exact ⟨rfl, rfl, rfl⟩) (by rfl) (by first | rfl | (simp; done) | (simp [ints, prs]; done)) (by rfl) (by first | rfl | (simp; done) | (simp [ints, prs]; done)))
  · intro u_ hu_
    have hlt : decide (((n : Nat) : Int) < (n : Nat)) = false := decide_eq_false (by omega)
    unfold m20_0
    repeat' (first
      | (refine g_op ?_; first
        | refine ep_mov rfl ?_
        | refine ep_bin rfl rfl (by first | exact b_add (by omega) (by omega) | exact b_sub (by omega) (by omega) | exact b_and (by omega) (by omega) | exact b_or (by omega) (by omega) | exact b_shr (by omega) | exact b_shl (by omega) (by omega) | exact b_lss | exact b_leq | exact b_gtr | exact b_geq | exact b_eql | exact b_neq) ?_
        | refine sp_store rfl rfl rfl rfl rfl rfl rfl rfl rfl rfl ?_ | refine ep_lenS rfl ?_ | refine ep_lenN rfl ?_ | refine ep_lenE rfl ?_ | refine sp_idx rfl rfl rfl (by omega) rfl ?_)
      | (refine g_ops ?_; first | refine eo_none ?_ | refine eo_nil ?_)
      | (refine g_code ?_; first | refine ec_seq ?_ | refine ec_region ?_ | refine ec_block ?_ | refine ec_skip ?_ | refine ec_exit ?_ | refine ec_condT rfl ?_ | refine ec_condF rfl ?_ | refine ec_condTH rfl (by assumption) ?_ | refine ec_condFH rfl (by assumption) ?_)
      | refine ek_seqN ?_ | refine ek_seqX ?_ | refine ek_blkN ?_ | refine ek_blkR ?_ | refine ek_blkX ?_ | refine ek_blkY rfl ?_)
    exact rnd_out (by rfl) (by simp) (scmp2 (by rfl) (by rfl) (by exact ⟨rfl, rfl, rfl⟩) (by rfl) (by first | rfl | (simp; done) | (simp [ints, prs]; done)) (by rfl) (by first | rfl | (simp; done) | (simp [ints, prs]; done)))

theorem evmark_ge (n : Nat) (c : List V) (hn : n ≤ 1048576) (hl : n ≤ c.length) : Ev cx 20 [.sl 0 0 n, .int .i64 1] [⟨c, 1, 0, some 0, false⟩] (.int .i64 (n + 1 : Nat)) [⟨mkc c n, 1, 0, some 0, false⟩] := by
  have lp := lp20_0_ge n c hn hl
  rw [mkc_0] at lp
  refine has20.eev rfl rfl ?_
  unfold m20
  repeat' (first
    | refine sc_loop lp rfl rfl ⟨rfl, rfl, rfl⟩ rfl rfl rfl ?_
    | (refine g_op ?_; first
      | refine ep_mov rfl ?_)
    | (refine g_ops ?_; first | refine eo_none ?_ | refine eo_nil ?_)
    | (refine g_code ?_; first | refine ec_seq ?_ | refine ec_region ?_ | refine ec_block ?_ | refine ec_ret ?_)
    | refine ek_seqN ?_ | refine ek_seqX ?_ | refine ek_seqR ?_ | refine ek_blkN ?_ | refine ek_blkR ?_ | refine ek_blkX ?_ | refine ek_blkY rfl ?_)
  refine sfin (.inr rfl) (by rfl) (by rfl) (by exact ⟨rfl, rfl, rfl⟩) (by rfl) (by rfl) (by rfl) (by first | rfl | (simp; done) | (simp [ints, prs]; done))
theorem lp19_0_s0 (c : List V) :
    LpS cx 26 1 m19_0 [(0, .sl 0 0 0), (1, .emp), (5, .int .i64 (0 : Nat))] [⟨c, 1, 0, some 0, false⟩] (⟨.exit 0, [], [⟨c, 1, 0, some 0, false⟩]⟩ : Out).x (⟨.exit 0, [], [⟨c, 1, 0, some 0, false⟩]⟩ : Out).e (⟨.exit 0, [], [⟨c, 1, 0, some 0, false⟩]⟩ : Out).h := by
  refine lp_st (0) (fun _ => ()) (fun i _ => [(0, .sl 0 0 0), (1, .emp), (5, .int .i64 (i : Nat))]) (fun i _ => [⟨c, 1, 0, some 0, false⟩]) (fun _ => (⟨.exit 0, [], [⟨c, 1, 0, some 0, false⟩]⟩ : Out)) ?_ ?_ (0) 0 (by omega)
  · intro i u_ hi hu_
    refine ⟨(), rfl, ?_⟩
    exact absurd hi (by simp)
  · intro u_ hu_
    have hlt : decide (((0 : Nat) : Int) < (0 : Nat)) = false := decide_eq_false (by omega)
    unfold m19_0
    repeat' (first
      | (refine g_op ?_; first
        | refine ep_mov rfl ?_ | refine ep_load1 rfl rfl rfl rfl ?_
        | refine ep_bin rfl rfl (by first | exact b_add (by omega) (by omega) | exact b_sub (by omega) (by omega) | exact b_and (by omega) (by omega) | exact b_or (by omega) (by omega) | exact b_shr (by omega) | exact b_shl (by omega) (by omega) | exact b_lss | exact b_leq | exact b_gtr | exact b_geq | exact b_eql | exact b_neq) ?_
        | refine ep_lenS rfl ?_ | refine ep_lenN rfl ?_ | refine ep_lenE rfl ?_ | refine sp_idx rfl rfl rfl (by omega) rfl ?_ | refine ep_loadS rfl rfl rfl (by first | exact ints_get (by omega) | exact zints_get (by omega) | exact fget (by omega) | assumption) ?_)
      | (refine g_ops ?_; first | refine eo_none ?_ | refine eo_nil ?_)
      | (refine g_dops ?_; first | refine ed_none ?_ | refine ed_nil ?_)
      | refine ed_same rfl ?_ | refine ed_one rfl rfl rfl rfl ?_ | refine ed_two rfl rfl rfl rfl rfl rfl rfl ?_ | refine ed_write rfl rfl ?_
      | (refine g_code ?_; first | refine ec_seq ?_ | refine ec_region ?_ | refine ec_draw ?_ | refine ec_block ?_ | refine ec_skip ?_ | refine ec_exit ?_ | refine ec_ret ?_ | refine ec_condT rfl ?_ | refine ec_condF rfl ?_ | refine ec_condTH rfl (by assumption) ?_ | refine ec_condFH rfl (by assumption) ?_)
      | refine ek_seqN ?_ | refine ek_seqX ?_ | refine ek_seqR ?_ | refine ek_blkN ?_ | refine ek_blkR ?_ | refine ek_blkX ?_ | refine ek_blkY rfl ?_)
    exact rnd_out (by rfl) (by simp) (scmp2 (by rfl) (by rfl) (by exact ⟨rfl, rfl, rfl⟩) (by rfl) (by first | rfl | (simp; done) | (simp [ints, prs]; done)) (by rfl) (by first | rfl | (simp; done) | (simp [ints, prs]; done)))

theorem eveq_s0 (c : List V) : Ev cx 19 [.sl 0 0 0, .emp] [⟨c, 1, 0, some 0, false⟩] (.bool true) [⟨c, 1, 0, some 0, false⟩] := by
  have lp := lp19_0_s0 c
  refine has19.eev rfl rfl ?_
  unfold m19
  repeat' (first
    | refine sc_loop lp rfl rfl ⟨rfl, rfl, rfl⟩ rfl rfl rfl ?_
    | (refine g_op ?_; first
      | refine ep_mov rfl ?_
      | refine ep_bin rfl rfl (by first | exact b_add (by omega) (by omega) | exact b_sub (by omega) (by omega) | exact b_and (by omega) (by omega) | exact b_or (by omega) (by omega) | exact b_shr (by omega) | exact b_shl (by omega) (by omega) | exact b_lss | exact b_leq | exact b_gtr | exact b_geq | exact b_eql | exact b_neq) ?_
      | refine ep_lenS rfl ?_ | refine ep_lenN rfl ?_ | refine ep_lenE rfl ?_)
    | (refine g_ops ?_; first | refine eo_none ?_ | refine eo_nil ?_)
    | (refine g_code ?_; first | refine ec_seq ?_ | refine ec_region ?_ | refine ec_block ?_ | refine ec_skip ?_ | refine ec_ret ?_ | refine ec_condT rfl ?_ | refine ec_condF rfl ?_ | refine ec_condTH rfl (by assumption) ?_ | refine ec_condFH rfl (by assumption) ?_)
    | refine ek_seqN ?_ | refine ek_seqX ?_ | refine ek_seqR ?_ | refine ek_blkN ?_ | refine ek_blkR ?_ | refine ek_blkX ?_ | refine ek_blkY rfl ?_)
  refine sfin (.inr rfl) (by rfl) (by rfl) (by exact ⟨rfl, rfl, rfl⟩) (by rfl) (by rfl) (by rfl) (by first | rfl | (simp; done) | (simp [ints, prs]; done))
theorem ints_app {L : List Nat} {k j : Nat} (h : j < L.length) : (ints (L ++ List.replicate k 0))[0 + j * 1]? = some (.int .i64 (L.getD j 0 : Nat)) := by
  rw [ints_get (by rw [List.length_append]; omega), List.getD_eq_getElem?_getD, List.getElem?_append_left h, List.getD_eq_getElem?_getD]
-- impl.TransversalsOf$1$1
def m67 : MC := (.seq (.region [⟨(.mov (.k (.bool false))), (some 3), none⟩] false) (.seq (.region [⟨(.load none (.t 1)), (some 4), none⟩, ⟨(.mov (.t 0)), (some 5), none⟩, ⟨(.bin .and (.t 4) (.t 5)), (some 6), none⟩, ⟨(.bin .eql (.t 6) (.k (.int .i64 0))), (some 7), none⟩, ⟨(.mov (.t 7)), (some 3), none⟩] false) .ret))
theorem has67 : Has cx 67 8 m67 [(.tmp 3)] :=
  ⟨⟨Try.f67, Try.f67.body.getD .skip, by kernel_rfl, by kernel_rfl, by kernel_rfl, by kernel_rfl, by kernel_rfl, by kernel_rfl⟩⟩
theorem ev67 (r s : Nat) (hr : r < 65536) (hs : s < 65536) : Ev cx 67 [.int .i64 s, .ptr 0 0] [⟨[.int .i64 r], 1, 0, some 0, true⟩] (.bool (r &&& s == 0)) [⟨[.int .i64 r], 1, 0, some 0, true⟩] := by
  have hq := ieq0 (r &&& s)
  refine has67.eev rfl rfl ?_
  unfold m67
  repeat' (first
    | (refine g_op ?_; first
      | refine ep_mov rfl ?_ | refine ep_load1 rfl rfl rfl rfl ?_
      | refine ep_bin rfl rfl (by first | exact b_and (x := r) (y := s) (by omega) (by omega) | exact b_add (by omega) (by omega) | exact b_sub (by omega) (by omega) | exact b_and (by omega) (by omega) | exact b_or (by omega) (by omega) | exact b_shr (by omega) | exact b_shl (by omega) (by omega) | exact b_lss | exact b_leq | exact b_gtr | exact b_geq | exact b_eql | exact b_neq) ?_)
    | (refine g_ops ?_; first | refine eo_none ?_ | refine eo_nil ?_)
    | (refine g_code ?_; first | refine ec_seq ?_ | refine ec_region ?_ | refine ec_ret ?_)
    | refine ek_seqN ?_ | refine ek_seqR ?_)
  refine sfin (.inr rfl) (by rfl) (by rfl) (by exact ⟨rfl, rfl, rfl⟩) (by rfl) (by rfl) (by exact congrArg V.bool hq) (by first | rfl | (simp; done) | (simp [ints, prs]; done))
def trP (L : List Nat) (r : Nat) : Bool := allF (fun j => !(r &&& (L.getD j 0) == 0)) 0 L.length
-- impl.TransversalsOf$1
def m65 : MC := (.seq (.region [⟨(.box (.t 0)), (some 2), none⟩, ⟨(.mov (.k (.bool false))), (some 3), none⟩] false) (.seq (.region [⟨(.load none (.t 1)), (some 4), none⟩, ⟨(.mkfn 67 [(.t 2)]), (some 5), none⟩, ⟨(.call 66 [(.t 4), (.t 5)]), (some 6), none⟩, ⟨(.un .not (.t 6)), (some 7), none⟩, ⟨(.mov (.t 7)), (some 3), none⟩] false) .ret))
theorem has65 : Has cx 65 8 m65 [(.tmp 3)] :=
  ⟨⟨Try.f65, Try.f65.body.getD .skip, by kernel_rfl, by kernel_rfl, by kernel_rfl, by kernel_rfl, by kernel_rfl, by kernel_rfl⟩⟩
theorem lpix_tr (l : List Nat) (m r : Nat) (hm : m ≤ l.length) (hln : l.length ≤ 65536) (hl : ∀ j, j < m → l.getD j 0 < 65536) (hr : r < 65536) (o : Out) (ho : (match firstF (fun i => !(fun j => r &&& (l.getD j 0) == 0) i) 0 (m) with | none => (⟨.exit 0, [], [⟨ints l, 1, 0, some 0, false⟩, ⟨[.int .i64 r], 1, 1, some 0, true⟩]⟩ : Out) | some x => ⟨.ret, [(4, .int .i64 (x : Nat))], [⟨ints l, 1, 0, some 0, false⟩, ⟨[.int .i64 r], 1, 1, some 0, true⟩]⟩) = o) :
    LpS cx 19 2 m112_0 [(0, .sl 0 0 m), (1, .fn 67 [.ptr 1 0]), (7, .int .i64 (m : Nat)), (8, .int .i64 (0 : Nat))] [⟨ints l, 1, 0, some 0, false⟩, ⟨[.int .i64 r], 1, 1, some 0, true⟩] o.x o.e o.h := by
  refine lp_brk (m) (fun i => !(fun j => r &&& (l.getD j 0) == 0) i) (fun _ => ()) (fun i _ => [(0, .sl 0 0 m), (1, .fn 67 [.ptr 1 0]), (7, .int .i64 (m : Nat)), (8, .int .i64 (i : Nat))]) (fun i _ => [⟨ints l, 1, 0, some 0, false⟩, ⟨[.int .i64 r], 1, 1, some 0, true⟩]) (fun _ => ⟨.exit 0, [], [⟨ints l, 1, 0, some 0, false⟩, ⟨[.int .i64 r], 1, 1, some 0, true⟩]⟩) (fun i _ => ⟨.ret, [(4, .int .i64 (i : Nat))], [⟨ints l, 1, 0, some 0, false⟩, ⟨[.int .i64 r], 1, 1, some 0, true⟩]⟩) ?_ ?_ ?_ (m) 0 o (by omega) (fun h => by rw [← ho, firstF_none fun x h1 h2 => h x h1 (by omega)]) (fun x h1 h2 h3 h4 => by rw [← ho, firstF_some h1 (by omega) h3 h4])
  · intro i s hi hs hp
    have hlt : decide ((i : Int) < (m : Nat)) = true := decide_eq_true (by omega)
    have hp' : (!(fun j => r &&& (l.getD j 0) == 0) i) = true := hp
    refine ⟨(), rfl, ?_⟩
    have hgl := ints_get (l := l) (j := i) (by omega)
    have e0 := ev67 r (l.getD i 0) hr (hl i hi)
    have hq : (r &&& (l.getD i 0) == 0) = !((!(fun j => r &&& (l.getD j 0) == 0) i)) := by simp
    rw [hp'] at hq
    rw [hq] at e0
    unfold m112_0
    repeat' (first
      | refine ep_loadS rfl rfl rfl hgl ?_
      | (refine g_op ?_; first
        | refine ep_mov rfl ?_ | refine ep_load1 rfl rfl rfl rfl ?_
        | refine sp_callv rfl rfl rfl rfl rfl rfl (by first | exact e0) ⟨rfl, rfl, rfl, rfl⟩ rfl rfl rfl ?_
        | refine sp_callb rfl rfl rfl rfl rfl rfl (by first | exact e0) ⟨rfl, rfl, rfl, rfl⟩ rfl rfl rfl ?_
        | refine ep_bin rfl rfl (by first | exact b_add (by omega) (by omega) | exact b_sub (by omega) (by omega) | exact b_and (by omega) (by omega) | exact b_or (by omega) (by omega) | exact b_shr (by omega) | exact b_shl (by omega) (by omega) | exact b_lss | exact b_leq | exact b_gtr | exact b_geq | exact b_eql | exact b_neq) ?_
        | refine sp_idx rfl rfl rfl (by omega) rfl ?_ | refine ep_loadS rfl rfl rfl (by first | exact ints_get (by omega) | exact zints_get (by omega) | exact fget (by omega) | assumption) ?_)
      | (refine g_ops ?_; first | refine eo_none ?_ | refine eo_nil ?_)
      | (refine g_code ?_; first | refine ec_seq ?_ | refine ec_region ?_ | refine ec_block ?_ | refine ec_skip ?_ | refine ec_exit ?_ | refine ec_ret ?_ | refine ec_condT rfl ?_ | refine ec_condF rfl ?_ | refine ec_condTH rfl (by assumption) ?_ | refine ec_condFH rfl (by assumption) ?_)
      | refine ek_seqN ?_ | refine ek_seqX ?_ | refine ek_seqR ?_ | refine ek_blkN ?_ | refine ek_blkR ?_ | refine ek_blkX ?_ | refine ek_blkY rfl ?_)
    exact rnd_on (by rfl) (scmp2 (by rfl) (by rfl) (by exact ⟨rfl, rfl, rfl⟩) (by rfl) (by first | rfl | (simp; done) | (simp [ints, prs]; done)) (by rfl) (by first | rfl | (simp; done) | (simp [ints, prs]; done)))
  · intro i s hi hs hp
    have hlt : decide ((i : Int) < (m : Nat)) = true := decide_eq_true (by omega)
    have hp' : (!(fun j => r &&& (l.getD j 0) == 0) i) = false := hp
    have hgl := ints_get (l := l) (j := i) (by omega)
    have e0 := ev67 r (l.getD i 0) hr (hl i hi)
    have hq : (r &&& (l.getD i 0) == 0) = !((!(fun j => r &&& (l.getD j 0) == 0) i)) := by simp
    rw [hp'] at hq
    rw [hq] at e0
    unfold m112_0
    repeat' (first
      | refine ep_loadS rfl rfl rfl hgl ?_
      | (refine g_op ?_; first
        | refine ep_mov rfl ?_ | refine ep_load1 rfl rfl rfl rfl ?_
        | refine sp_callv rfl rfl rfl rfl rfl rfl (by first | exact e0) ⟨rfl, rfl, rfl, rfl⟩ rfl rfl rfl ?_
        | refine sp_callb rfl rfl rfl rfl rfl rfl (by first | exact e0) ⟨rfl, rfl, rfl, rfl⟩ rfl rfl rfl ?_
        | refine ep_bin rfl rfl (by first | exact b_add (by omega) (by omega) | exact b_sub (by omega) (by omega) | exact b_and (by omega) (by omega) | exact b_or (by omega) (by omega) | exact b_shr (by omega) | exact b_shl (by omega) (by omega) | exact b_lss | exact b_leq | exact b_gtr | exact b_geq | exact b_eql | exact b_neq) ?_
        | refine sp_idx rfl rfl rfl (by omega) rfl ?_ | refine ep_loadS rfl rfl rfl (by first | exact ints_get (by omega) | exact zints_get (by omega) | exact fget (by omega) | assumption) ?_)
      | (refine g_ops ?_; first | refine eo_none ?_ | refine eo_nil ?_)
      | (refine g_code ?_; first | refine ec_seq ?_ | refine ec_region ?_ | refine ec_block ?_ | refine ec_skip ?_ | refine ec_exit ?_ | refine ec_ret ?_ | refine ec_condT rfl ?_ | refine ec_condF rfl ?_ | refine ec_condTH rfl (by assumption) ?_ | refine ec_condFH rfl (by assumption) ?_)
      | refine ek_seqN ?_ | refine ek_seqX ?_ | refine ek_seqR ?_ | refine ek_blkN ?_ | refine ek_blkR ?_ | refine ek_blkX ?_ | refine ek_blkY rfl ?_)
    exact rnd_out (by rfl) (by simp) (scmp2 (by rfl) (by rfl) (by exact ⟨rfl, rfl, rfl⟩) (by rfl) (by first | rfl | (simp; done) | (simp [ints, prs]; done)) (by rfl) (by first | rfl | (simp; done) | (simp [ints, prs]; done)))
  · intro s hs
    have hlt : decide (((m : Nat) : Int) < (m : Nat)) = false := decide_eq_false (by omega)
    unfold m112_0
    repeat' (first
      | refine ep_loadS rfl rfl rfl hgl ?_
      | (refine g_op ?_; first
        | refine ep_mov rfl ?_ | refine ep_load1 rfl rfl rfl rfl ?_
        | refine sp_callv rfl rfl rfl rfl rfl rfl (by first | exact e0) ⟨rfl, rfl, rfl, rfl⟩ rfl rfl rfl ?_
        | refine sp_callb rfl rfl rfl rfl rfl rfl (by first | exact e0) ⟨rfl, rfl, rfl, rfl⟩ rfl rfl rfl ?_
        | refine ep_bin rfl rfl (by first | exact b_add (by omega) (by omega) | exact b_sub (by omega) (by omega) | exact b_and (by omega) (by omega) | exact b_or (by omega) (by omega) | exact b_shr (by omega) | exact b_shl (by omega) (by omega) | exact b_lss | exact b_leq | exact b_gtr | exact b_geq | exact b_eql | exact b_neq) ?_
        | refine sp_idx rfl rfl rfl (by omega) rfl ?_ | refine ep_loadS rfl rfl rfl (by first | exact ints_get (by omega) | exact zints_get (by omega) | exact fget (by omega) | assumption) ?_)
      | (refine g_ops ?_; first | refine eo_none ?_ | refine eo_nil ?_)
      | (refine g_code ?_; first | refine ec_seq ?_ | refine ec_region ?_ | refine ec_block ?_ | refine ec_skip ?_ | refine ec_exit ?_ | refine ec_ret ?_ | refine ec_condT rfl ?_ | refine ec_condF rfl ?_ | refine ec_condTH rfl (by assumption) ?_ | refine ec_condFH rfl (by assumption) ?_)
      | refine ek_seqN ?_ | refine ek_seqX ?_ | refine ek_seqR ?_ | refine ek_blkN ?_ | refine ek_blkR ?_ | refine ek_blkX ?_ | refine ek_blkY rfl ?_)
    exact rnd_out (by rfl) (by simp) (scmp2 (by rfl) (by rfl) (by exact ⟨rfl, rfl, rfl⟩) (by rfl) (by first | rfl | (simp; done) | (simp [ints, prs]; done)) (by rfl) (by first | rfl | (simp; done) | (simp [ints, prs]; done)))
theorem evix_tr (l : List Nat) (m r : Nat) (hm : m ≤ l.length) (hln : l.length ≤ 65536) (hl : ∀ j, j < m → l.getD j 0 < 65536) (hr : r < 65536) : Ev cx 112 [.sl 0 0 m, .fn 67 [.ptr 1 0]] [⟨ints l, 1, 0, some 0, false⟩, ⟨[.int .i64 r], 1, 1, some 0, true⟩] (.int .i64 (match firstF (fun i => !(fun j => r &&& (l.getD j 0) == 0) i) 0 (m) with | none => -1 | some x => ((x : Nat) : Int))) [⟨ints l, 1, 0, some 0, false⟩, ⟨[.int .i64 r], 1, 1, some 0, true⟩] := by
  cases hs : firstF (fun i => !(fun j => r &&& (l.getD j 0) == 0) i) 0 (m) with
  | none =>
    have lp := lpix_tr l m r hm hln hl hr _ (by rw [hs])
    refine has112.eev rfl rfl ?_
    unfold m112
    repeat' (first
      | refine sc_loop lp rfl rfl ⟨rfl, rfl, rfl⟩ rfl rfl rfl ?_
      | (refine g_op ?_; first
        | refine ep_mov rfl ?_
        | refine ep_lenS rfl ?_ | refine ep_lenN rfl ?_ | refine ep_lenE rfl ?_)
      | (refine g_ops ?_; first | refine eo_none ?_ | refine eo_nil ?_)
      | (refine g_code ?_; first | refine ec_seq ?_ | refine ec_region ?_ | refine ec_block ?_ | refine ec_ret ?_)
      | refine ek_seqN ?_ | refine ek_seqX ?_ | refine ek_seqR ?_ | refine ek_blkN ?_ | refine ek_blkR ?_ | refine ek_blkX ?_ | refine ek_blkY rfl ?_)
    refine sfin (.inr rfl) (by rfl) (by rfl) (by exact ⟨rfl, rfl, rfl⟩) (by rfl) (by rfl) (by rfl) (by first | rfl | (simp; done) | (simp [ints, prs]; done))
  | some x =>
    have lp := lpix_tr l m r hm hln hl hr _ (by rw [hs])
    refine has112.eev rfl rfl ?_
    unfold m112
    repeat' (first
      | refine sc_loop lp rfl rfl ⟨rfl, rfl, rfl⟩ rfl rfl rfl ?_
      | (refine g_op ?_; first
        | refine ep_mov rfl ?_
        | refine ep_lenS rfl ?_ | refine ep_lenN rfl ?_ | refine ep_lenE rfl ?_)
      | (refine g_ops ?_; first | refine eo_none ?_ | refine eo_nil ?_)
      | (refine g_code ?_; first | refine ec_seq ?_ | refine ec_region ?_ | refine ec_block ?_ | refine ec_ret ?_)
      | refine ek_seqN ?_ | refine ek_seqX ?_ | refine ek_seqR ?_ | refine ek_blkN ?_ | refine ek_blkR ?_ | refine ek_blkX ?_ | refine ek_blkY rfl ?_)
    refine sfin (.inr rfl) (by rfl) (by rfl) (by exact ⟨rfl, rfl, rfl⟩) (by rfl) (by rfl) (by rfl) (by first | rfl | (simp; done) | (simp [ints, prs]; done))
theorem evcf_tr (l : List Nat) (m r : Nat) (hm : m ≤ l.length) (hln : l.length ≤ 65536) (hl : ∀ j, j < m → l.getD j 0 < 65536) (hr : r < 65536) : Ev cx 66 [.sl 0 0 m, .fn 67 [.ptr 1 0]] [⟨ints l, 1, 0, some 0, false⟩, ⟨[.int .i64 r], 1, 1, some 0, true⟩] (.bool (!allF (fun i => !(fun j => r &&& (l.getD j 0) == 0) i) 0 (m))) [⟨ints l, 1, 0, some 0, false⟩, ⟨[.int .i64 r], 1, 1, some 0, true⟩] := by
  have e1 := evix_tr l m r hm hln hl hr
  cases hs : firstF (fun i => !(fun j => r &&& (l.getD j 0) == 0) i) 0 (m) with
  | none =>
    rw [hs] at e1
    refine has66.eev rfl rfl ?_
    unfold m66
    repeat' (first
      | (refine g_op ?_; first
        | refine ep_mov rfl ?_
        | refine ep_call0 rfl (by first | exact e1) rfl rfl ?_
        | refine sp_call rfl rfl rfl rfl (by first | exact e1) ⟨rfl, rfl, rfl, rfl⟩ rfl rfl rfl ?_
        | refine ep_bin rfl rfl (by first | exact b_add (by omega) (by omega) | exact b_sub (by omega) (by omega) | exact b_and (by omega) (by omega) | exact b_or (by omega) (by omega) | exact b_shr (by omega) | exact b_shl (by omega) (by omega) | exact b_lss | exact b_leq | exact b_gtr | exact b_geq | exact b_eql | exact b_neq) ?_)
      | (refine g_ops ?_; first | refine eo_none ?_ | refine eo_nil ?_)
      | (refine g_code ?_; first | refine ec_seq ?_ | refine ec_region ?_ | refine ec_ret ?_)
      | refine ek_seqN ?_ | refine ek_seqR ?_)
    refine sfin (.inr rfl) (by rfl) (by rfl) (by exact ⟨rfl, rfl, rfl⟩) (by rfl) (by rfl) (by rw [firstF_allT hs]; rfl) (by first | rfl | (simp; done) | (simp [ints, prs]; done))
  | some x =>
    rw [hs] at e1
    have hge : decide (((x : Nat) : Int) ≥ 0) = true := decide_eq_true (by omega)
    refine has66.eev rfl rfl ?_
    unfold m66
    repeat' (first
      | (refine g_op ?_; first
        | refine ep_mov rfl ?_
        | refine ep_call0 rfl (by first | exact e1) rfl rfl ?_
        | refine sp_call rfl rfl rfl rfl (by first | exact e1) ⟨rfl, rfl, rfl, rfl⟩ rfl rfl rfl ?_
        | refine ep_bin rfl rfl (by first | exact b_add (by omega) (by omega) | exact b_sub (by omega) (by omega) | exact b_and (by omega) (by omega) | exact b_or (by omega) (by omega) | exact b_shr (by omega) | exact b_shl (by omega) (by omega) | exact b_lss | exact b_leq | exact b_gtr | exact b_geq | exact b_eql | exact b_neq) ?_)
      | (refine g_ops ?_; first | refine eo_none ?_ | refine eo_nil ?_)
      | (refine g_code ?_; first | refine ec_seq ?_ | refine ec_region ?_ | refine ec_ret ?_)
      | refine ek_seqN ?_ | refine ek_seqR ?_)
    refine sfin (.inr rfl) (by rfl) (by rfl) (by exact ⟨rfl, rfl, rfl⟩) (by rfl) (by rfl) (by rw [firstF_allF hs]; first | rfl | exact congrArg V.bool hge) (by first | rfl | (simp; done) | (simp [ints, prs]; done))

theorem ev65 (l : List Nat) (m r : Nat) (hm : m ≤ l.length) (hln : l.length ≤ 65536) (hl : ∀ j, j < m → l.getD j 0 < 65536) (hr : r < 65536) : Ev cx 65 [.int .i64 r, .ptr 0 0] [⟨[.sl 1 0 m], 1, 0, some 0, true⟩, ⟨ints l, 1, 1, some 0, false⟩] (.bool (allF (fun j => !(r &&& (l.getD j 0) == 0)) 0 m)) [⟨[.sl 1 0 m], 1, 0, some 0, true⟩, ⟨ints l, 1, 1, some 0, false⟩] := by
  have e1 := evcf_tr l m r hm hln hl hr
  refine has65.eev rfl rfl ?_
  unfold m65
  repeat' (first
    | (refine g_op ?_; first
      | refine ep_mov rfl ?_ | refine ep_load1 rfl rfl rfl rfl ?_
      | refine ep_call0 rfl (by first | exact e1) rfl rfl ?_
      | refine sp_call rfl rfl rfl rfl (by first | exact e1) ⟨rfl, rfl, rfl, rfl⟩ rfl rfl rfl ?_
      | refine ep_not rfl ?_ | refine sp_box rfl rfl rfl rfl rfl ?_ | refine ep_mkfn rfl ?_)
    | (refine g_ops ?_; first | refine eo_none ?_ | refine eo_nil ?_)
    | (refine g_code ?_; first | refine ec_seq ?_ | refine ec_region ?_ | refine ec_ret ?_)
    | refine ek_seqN ?_ | refine ek_seqR ?_)
  refine sfin (.inr rfl) (by rfl) (by rfl) (by exact ⟨rfl, rfl, rfl⟩) (by rfl) (by rfl) (by simp) (by first | rfl | (simp; done) | (simp [ints, prs]; done))
theorem lpix_trn (r : Nat) (o : Out) (ho : (match firstF (fun i => !(fun _ => false) i) 0 (0) with | none => (⟨.exit 0, [], [⟨[.int .i64 r], 1, 0, some 0, true⟩]⟩ : Out) | some x => ⟨.ret, [(4, .int .i64 (x : Nat))], [⟨[.int .i64 r], 1, 0, some 0, true⟩]⟩) = o) :
    LpS cx 19 1 m112_0 [(0, .nils), (1, .fn 67 [.ptr 0 0]), (7, .int .i64 (0 : Nat)), (8, .int .i64 (0 : Nat))] [⟨[.int .i64 r], 1, 0, some 0, true⟩] o.x o.e o.h := by
  refine lp_brk (0) (fun i => !(fun _ => false) i) (fun _ => ()) (fun i _ => [(0, .nils), (1, .fn 67 [.ptr 0 0]), (7, .int .i64 (0 : Nat)), (8, .int .i64 (i : Nat))]) (fun i _ => [⟨[.int .i64 r], 1, 0, some 0, true⟩]) (fun _ => ⟨.exit 0, [], [⟨[.int .i64 r], 1, 0, some 0, true⟩]⟩) (fun i _ => ⟨.ret, [(4, .int .i64 (i : Nat))], [⟨[.int .i64 r], 1, 0, some 0, true⟩]⟩) ?_ ?_ ?_ (0) 0 o (by omega) (fun h => by rw [← ho, firstF_none fun x h1 h2 => h x h1 (by omega)]) (fun x h1 h2 h3 h4 => by rw [← ho, firstF_some h1 (by omega) h3 h4])
  · intro i s hi hs hp
    exact absurd hi (by simp)
  · intro i s hi hs hp
    exact absurd hi (by simp)
  · intro s hs
    have hlt : decide (((0 : Nat) : Int) < (0 : Nat)) = false := decide_eq_false (by omega)
    unfold m112_0
    repeat' (first
      | (refine g_op ?_; first
        | refine ep_mov rfl ?_ | refine ep_load1 rfl rfl rfl rfl ?_
        | refine sp_callv rfl rfl rfl rfl rfl rfl (by first | exact e0) ⟨rfl, rfl, rfl, rfl⟩ rfl rfl rfl ?_
        | refine sp_callb rfl rfl rfl rfl rfl rfl (by first | exact e0) ⟨rfl, rfl, rfl, rfl⟩ rfl rfl rfl ?_
        | refine ep_bin rfl rfl (by first | exact b_add (by omega) (by omega) | exact b_sub (by omega) (by omega) | exact b_and (by omega) (by omega) | exact b_or (by omega) (by omega) | exact b_shr (by omega) | exact b_shl (by omega) (by omega) | exact b_lss | exact b_leq | exact b_gtr | exact b_geq | exact b_eql | exact b_neq) ?_
        | refine sp_idx rfl rfl rfl (by omega) rfl ?_ | refine ep_loadS rfl rfl rfl (by first | exact ints_get (by omega) | exact zints_get (by omega) | exact fget (by omega) | assumption) ?_)
      | (refine g_ops ?_; first | refine eo_none ?_ | refine eo_nil ?_)
      | (refine g_code ?_; first | refine ec_seq ?_ | refine ec_region ?_ | refine ec_block ?_ | refine ec_skip ?_ | refine ec_exit ?_ | refine ec_ret ?_ | refine ec_condT rfl ?_ | refine ec_condF rfl ?_ | refine ec_condTH rfl (by assumption) ?_ | refine ec_condFH rfl (by assumption) ?_)
      | refine ek_seqN ?_ | refine ek_seqX ?_ | refine ek_seqR ?_ | refine ek_blkN ?_ | refine ek_blkR ?_ | refine ek_blkX ?_ | refine ek_blkY rfl ?_)
    exact rnd_out (by rfl) (by simp) (scmp2 (by rfl) (by rfl) (by exact ⟨rfl, rfl, rfl⟩) (by rfl) (by first | rfl | (simp; done) | (simp [ints, prs]; done)) (by rfl) (by first | rfl | (simp; done) | (simp [ints, prs]; done)))
theorem evix_trn (r : Nat) : Ev cx 112 [.nils, .fn 67 [.ptr 0 0]] [⟨[.int .i64 r], 1, 0, some 0, true⟩] (.int .i64 (match firstF (fun i => !(fun _ => false) i) 0 (0) with | none => -1 | some x => ((x : Nat) : Int))) [⟨[.int .i64 r], 1, 0, some 0, true⟩] := by
  cases hs : firstF (fun i => !(fun _ => false) i) 0 (0) with
  | none =>
    have lp := lpix_trn r _ (by rw [hs])
    refine has112.eev rfl rfl ?_
    unfold m112
    repeat' (first
      | refine sc_loop lp rfl rfl ⟨rfl, rfl, rfl⟩ rfl rfl rfl ?_
      | (refine g_op ?_; first
        | refine ep_mov rfl ?_
        | refine ep_lenS rfl ?_ | refine ep_lenN rfl ?_ | refine ep_lenE rfl ?_)
      | (refine g_ops ?_; first | refine eo_none ?_ | refine eo_nil ?_)
      | (refine g_code ?_; first | refine ec_seq ?_ | refine ec_region ?_ | refine ec_block ?_ | refine ec_ret ?_)
      | refine ek_seqN ?_ | refine ek_seqX ?_ | refine ek_seqR ?_ | refine ek_blkN ?_ | refine ek_blkR ?_ | refine ek_blkX ?_ | refine ek_blkY rfl ?_)
    refine sfin (.inr rfl) (by rfl) (by rfl) (by exact ⟨rfl, rfl, rfl⟩) (by rfl) (by rfl) (by rfl) (by first | rfl | (simp; done) | (simp [ints, prs]; done))
  | some x =>
    have lp := lpix_trn r _ (by rw [hs])
    refine has112.eev rfl rfl ?_
    unfold m112
    repeat' (first
      | refine sc_loop lp rfl rfl ⟨rfl, rfl, rfl⟩ rfl rfl rfl ?_
      | (refine g_op ?_; first
        | refine ep_mov rfl ?_
        | refine ep_lenS rfl ?_ | refine ep_lenN rfl ?_ | refine ep_lenE rfl ?_)
      | (refine g_ops ?_; first | refine eo_none ?_ | refine eo_nil ?_)
      | (refine g_code ?_; first | refine ec_seq ?_ | refine ec_region ?_ | refine ec_block ?_ | refine ec_ret ?_)
      | refine ek_seqN ?_ | refine ek_seqX ?_ | refine ek_seqR ?_ | refine ek_blkN ?_ | refine ek_blkR ?_ | refine ek_blkX ?_ | refine ek_blkY rfl ?_)
    refine sfin (.inr rfl) (by rfl) (by rfl) (by exact ⟨rfl, rfl, rfl⟩) (by rfl) (by rfl) (by rfl) (by first | rfl | (simp; done) | (simp [ints, prs]; done))
theorem evcf_trn (r : Nat) : Ev cx 66 [.nils, .fn 67 [.ptr 0 0]] [⟨[.int .i64 r], 1, 0, some 0, true⟩] (.bool (!allF (fun i => !(fun _ => false) i) 0 (0))) [⟨[.int .i64 r], 1, 0, some 0, true⟩] := by
  have e1 := evix_trn r
  cases hs : firstF (fun i => !(fun _ => false) i) 0 (0) with
  | none =>
    rw [hs] at e1
    refine has66.eev rfl rfl ?_
    unfold m66
    repeat' (first
      | (refine g_op ?_; first
        | refine ep_mov rfl ?_
        | refine ep_call0 rfl (by first | exact e1) rfl rfl ?_
        | refine sp_call rfl rfl rfl rfl (by first | exact e1) ⟨rfl, rfl, rfl, rfl⟩ rfl rfl rfl ?_
        | refine ep_bin rfl rfl (by first | exact b_add (by omega) (by omega) | exact b_sub (by omega) (by omega) | exact b_and (by omega) (by omega) | exact b_or (by omega) (by omega) | exact b_shr (by omega) | exact b_shl (by omega) (by omega) | exact b_lss | exact b_leq | exact b_gtr | exact b_geq | exact b_eql | exact b_neq) ?_)
      | (refine g_ops ?_; first | refine eo_none ?_ | refine eo_nil ?_)
      | (refine g_code ?_; first | refine ec_seq ?_ | refine ec_region ?_ | refine ec_ret ?_)
      | refine ek_seqN ?_ | refine ek_seqR ?_)
    refine sfin (.inr rfl) (by rfl) (by rfl) (by exact ⟨rfl, rfl, rfl⟩) (by rfl) (by rfl) (by rw [firstF_allT hs]; rfl) (by first | rfl | (simp; done) | (simp [ints, prs]; done))
  | some x =>
    rw [hs] at e1
    have hge : decide (((x : Nat) : Int) ≥ 0) = true := decide_eq_true (by omega)
    refine has66.eev rfl rfl ?_
    unfold m66
    repeat' (first
      | (refine g_op ?_; first
        | refine ep_mov rfl ?_
        | refine ep_call0 rfl (by first | exact e1) rfl rfl ?_
        | refine sp_call rfl rfl rfl rfl (by first | exact e1) ⟨rfl, rfl, rfl, rfl⟩ rfl rfl rfl ?_
        | refine ep_bin rfl rfl (by first | exact b_add (by omega) (by omega) | exact b_sub (by omega) (by omega) | exact b_and (by omega) (by omega) | exact b_or (by omega) (by omega) | exact b_shr (by omega) | exact b_shl (by omega) (by omega) | exact b_lss | exact b_leq | exact b_gtr | exact b_geq | exact b_eql | exact b_neq) ?_)
      | (refine g_ops ?_; first | refine eo_none ?_ | refine eo_nil ?_)
      | (refine g_code ?_; first | refine ec_seq ?_ | refine ec_region ?_ | refine ec_ret ?_)
      | refine ek_seqN ?_ | refine ek_seqR ?_)
    refine sfin (.inr rfl) (by rfl) (by rfl) (by exact ⟨rfl, rfl, rfl⟩) (by rfl) (by rfl) (by rw [firstF_allF hs]; first | rfl | exact congrArg V.bool hge) (by first | rfl | (simp; done) | (simp [ints, prs]; done))

theorem ev65_nils (r : Nat) : Ev cx 65 [.int .i64 r, .ptr 0 0] [⟨[.nils], 1, 0, some 0, true⟩] (.bool true) [⟨[.nils], 1, 0, some 0, true⟩] := by
  have e1 := evcf_trn r
  rw [show allF (fun i => !(fun _ => false) i) 0 0 = true from rfl] at e1
  refine has65.eev rfl rfl ?_
  unfold m65
  repeat' (first
    | (refine g_op ?_; first
      | refine ep_mov rfl ?_ | refine ep_load1 rfl rfl rfl rfl ?_
      | refine ep_call0 rfl (by first | exact e1) rfl rfl ?_
      | refine sp_call rfl rfl rfl rfl (by first | exact e1) ⟨rfl, rfl, rfl, rfl⟩ rfl rfl rfl ?_
      | refine ep_not rfl ?_ | refine sp_box rfl rfl rfl rfl rfl ?_ | refine ep_mkfn rfl ?_)
    | (refine g_ops ?_; first | refine eo_none ?_ | refine eo_nil ?_)
    | (refine g_code ?_; first | refine ec_seq ?_ | refine ec_region ?_ | refine ec_ret ?_)
    | refine ek_seqN ?_ | refine ek_seqR ?_)
  refine sfin (.inr rfl) (by rfl) (by rfl) (by exact ⟨rfl, rfl, rfl⟩) (by rfl) (by rfl) (by rfl) (by first | rfl | (simp; done) | (simp [ints, prs]; done))
theorem lp64_0_tr (fb fp n b : Nat) (pkp : Nat → Bool) (hn : n ≤ 4) (l : List Nat) (m : Nat) (hpk : ∀ r : Nat, r < 16 → Ev cx fp [.int .i64 r, .ptr 0 0] [⟨[.sl 1 0 m], 1, 0, some 0, true⟩, ⟨ints l, 1, 1, some 0, false⟩] (.bool (pkp r)) [⟨[.sl 1 0 m], 1, 0, some 0, true⟩, ⟨ints l, 1, 1, some 0, false⟩]) (o : Out) (ho : (match selm (pkp) (idn) (R2 n) with | [] => (⟨.exit 0, [(5, .ptr 2 0), (7, .ptr 3 0)], [⟨[.sl 1 0 m], 1, 0, some 0, true⟩, ⟨ints l, 1, 1, some 0, false⟩, ⟨[.fn fb []], 1, 2, some 0, true⟩, ⟨[.nils], 1, 3, some 0, true⟩]⟩ : Out) | x :: xs => ⟨.exit 0, [(5, .ptr 2 0), (7, .ptr 3 0)], [⟨[.sl 1 0 m], 1, 0, some 0, true⟩, ⟨ints l, 1, 1, some 0, false⟩, ⟨[.fn fb []], 1, 2, some 0, true⟩, ⟨[.sl 4 0 (x :: xs).length], 1, 3, some 0, true⟩, ⟨ints (x :: xs), 1, 4, some 0, false⟩]⟩) = o) :
    LpS cx 26 2 m64_0 [(1, .fn fp [.ptr 0 0]), (5, .ptr 2 0), (7, .ptr 3 0), (10, .int .i64 (R2 n : Nat)), (11, .int .i64 (0 : Nat))] [⟨[.sl 1 0 m], 1, 0, some 0, true⟩, ⟨ints l, 1, 1, some 0, false⟩, ⟨[.fn fb []], 1, 2, some 0, true⟩, ⟨[.nils], 1, 3, some 0, true⟩] o.x o.e o.h := by
  obtain ⟨h1, h2, h3, h4⟩ := shN hn
  subst ho
  refine lp_st (R2 n) (selm (pkp) (idn)) (fun i s => match s with | [] => [(1, .fn fp [.ptr 0 0]), (5, .ptr 2 0), (7, .ptr 3 0), (10, .int .i64 (R2 n : Nat)), (11, .int .i64 (i : Nat))] | x :: xs => [(1, .fn fp [.ptr 0 0]), (5, .ptr 2 0), (7, .ptr 3 0), (10, .int .i64 (R2 n : Nat)), (11, .int .i64 (i : Nat))]) (fun i s => match s with | [] => [⟨[.sl 1 0 m], 1, 0, some 0, true⟩, ⟨ints l, 1, 1, some 0, false⟩, ⟨[.fn fb []], 1, 2, some 0, true⟩, ⟨[.nils], 1, 3, some 0, true⟩] | x :: xs => [⟨[.sl 1 0 m], 1, 0, some 0, true⟩, ⟨ints l, 1, 1, some 0, false⟩, ⟨[.fn fb []], 1, 2, some 0, true⟩, ⟨[.sl 4 0 (x :: xs).length], 1, 3, some 0, true⟩, ⟨ints (x :: xs), 1, 4, some 0, false⟩]) (fun s => match s with | [] => ⟨.exit 0, [(5, .ptr 2 0), (7, .ptr 3 0)], [⟨[.sl 1 0 m], 1, 0, some 0, true⟩, ⟨ints l, 1, 1, some 0, false⟩, ⟨[.fn fb []], 1, 2, some 0, true⟩, ⟨[.nils], 1, 3, some 0, true⟩]⟩ | x :: xs => ⟨.exit 0, [(5, .ptr 2 0), (7, .ptr 3 0)], [⟨[.sl 1 0 m], 1, 0, some 0, true⟩, ⟨ints l, 1, 1, some 0, false⟩, ⟨[.fn fb []], 1, 2, some 0, true⟩, ⟨[.sl 4 0 (x :: xs).length], 1, 3, some 0, true⟩, ⟨ints (x :: xs), 1, 4, some 0, false⟩]⟩) ?_ ?_ (R2 n) 0 (by omega)
  · intro i s hi hs
    have hlt : decide ((i : Int) < (R2 n : Nat)) = true := decide_eq_true (by omega)
    have hle : decide ((i : Int) ≤ (R2 n : Nat) - 1) = true := decide_eq_true (by omega)
    have hlen : s.length ≤ 16 := by have := selm_len (pkp) (idn) i; rw [hs] at this; omega
    have e1 := hpk i (by omega)
    cases hp : (pkp) i with
    | true =>
      have hp' : ((pkp) i) = true := hp
      rw [hp'] at e1
      cases s with
      | nil =>
        refine ⟨[(idn) i], by rw [selm_t (p := pkp) hp, hs]; try rfl, ?_⟩
        unfold m64_0
        repeat' (first
          | (refine g_op ?_; first
            | refine ep_mov rfl ?_ | refine ep_load1 rfl rfl rfl rfl ?_
            | refine sp_callv rfl rfl rfl rfl rfl rfl (by first | exact e1) ⟨rfl, rfl, rfl, rfl⟩ rfl rfl rfl ?_
            | refine sp_callb rfl rfl rfl rfl rfl rfl (by first | exact e1) ⟨rfl, rfl, rfl, rfl⟩ rfl rfl rfl ?_
            | refine ep_bin rfl rfl (by first | exact b_add (by omega) (by omega) | exact b_sub (by omega) (by omega) | exact b_and (by omega) (by omega) | exact b_or (by omega) (by omega) | exact b_shr (by omega) | exact b_shl (by omega) (by omega) | exact b_lss | exact b_leq | exact b_gtr | exact b_geq | exact b_eql | exact b_neq) ?_
            | refine sp_store rfl rfl rfl rfl rfl rfl rfl rfl rfl rfl ?_ | refine sp_bslice rfl rfl rfl rfl rfl ?_ | refine sp_push0 rfl (by first | exact .inl rfl | exact .inr rfl) rfl rfl rfl rfl rfl (by decide) rfl rfl rfl ?_
            | refine sp_push rfl rfl rfl rfl rfl rfl rfl (by first | exact ints_len _ | exact prs_len _ _ | exact zints_len _) (by omega) (Nat.zero_le _) rfl rfl rfl rfl rfl ?_)
          | (refine g_ops ?_; first | refine eo_none ?_ | refine eo_nil ?_)
          | (refine g_code ?_; first | refine ec_seq ?_ | refine ec_region ?_ | refine ec_block ?_ | refine ec_skip ?_ | refine ec_exit ?_ | refine ec_condT rfl ?_ | refine ec_condF rfl ?_ | refine ec_condTH rfl (by assumption) ?_ | refine ec_condFH rfl (by assumption) ?_)
          | refine ek_seqN ?_ | refine ek_seqX ?_ | refine ek_blkN ?_ | refine ek_blkR ?_ | refine ek_blkX ?_ | refine ek_blkY rfl ?_)
        exact rnd_on (by rfl) (scmp2 (by rfl) (by rfl) (by exact ⟨rfl, rfl, rfl⟩) (by rfl) (by first | rfl | (simp; done) | (simp [ints, prs]; done)) (by rfl) (by first | rfl | (simp; done) | (simp [ints, prs]; done)))
      | cons x xs =>
        refine ⟨(x :: xs) ++ [(idn) i], by rw [selm_t (p := pkp) hp, hs]; try rfl, ?_⟩
        unfold m64_0
        repeat' (first
          | (refine g_op ?_; first
            | refine ep_mov rfl ?_ | refine ep_load1 rfl rfl rfl rfl ?_
            | refine sp_callv rfl rfl rfl rfl rfl rfl (by first | exact e1) ⟨rfl, rfl, rfl, rfl⟩ rfl rfl rfl ?_
            | refine sp_callb rfl rfl rfl rfl rfl rfl (by first | exact e1) ⟨rfl, rfl, rfl, rfl⟩ rfl rfl rfl ?_
            | refine ep_bin rfl rfl (by first | exact b_add (by omega) (by omega) | exact b_sub (by omega) (by omega) | exact b_and (by omega) (by omega) | exact b_or (by omega) (by omega) | exact b_shr (by omega) | exact b_shl (by omega) (by omega) | exact b_lss | exact b_leq | exact b_gtr | exact b_geq | exact b_eql | exact b_neq) ?_
            | refine sp_store rfl rfl rfl rfl rfl rfl rfl rfl rfl rfl ?_ | refine sp_bslice rfl rfl rfl rfl rfl ?_ | refine sp_push0 rfl (by first | exact .inl rfl | exact .inr rfl) rfl rfl rfl rfl rfl (by decide) rfl rfl rfl ?_
            | refine sp_push rfl rfl rfl rfl rfl rfl rfl (by first | exact ints_len _ | exact prs_len _ _ | exact zints_len _) (by omega) (Nat.zero_le _) rfl rfl rfl rfl rfl ?_)
          | (refine g_ops ?_; first | refine eo_none ?_ | refine eo_nil ?_)
          | (refine g_code ?_; first | refine ec_seq ?_ | refine ec_region ?_ | refine ec_block ?_ | refine ec_skip ?_ | refine ec_exit ?_ | refine ec_condT rfl ?_ | refine ec_condF rfl ?_ | refine ec_condTH rfl (by assumption) ?_ | refine ec_condFH rfl (by assumption) ?_)
          | refine ek_seqN ?_ | refine ek_seqX ?_ | refine ek_blkN ?_ | refine ek_blkR ?_ | refine ek_blkX ?_ | refine ek_blkY rfl ?_)
        exact rnd_on (by rfl) (scmp2 (by rfl) (by rfl) (by exact ⟨rfl, rfl, rfl⟩) (by rfl) (by first | rfl | (simp; done) | (simp [ints, prs]; done)) (by rfl) (by first | rfl | (simp; done) | (simp [ints, prs]; done)))
    | false =>
      have hp' : ((pkp) i) = false := hp
      rw [hp'] at e1
      cases s with
      | nil =>
        refine ⟨[], by rw [selm_f (p := pkp) hp, hs]; try rfl, ?_⟩
        unfold m64_0
        repeat' (first
          | (refine g_op ?_; first
            | refine ep_mov rfl ?_ | refine ep_load1 rfl rfl rfl rfl ?_
            | refine sp_callv rfl rfl rfl rfl rfl rfl (by first | exact e1) ⟨rfl, rfl, rfl, rfl⟩ rfl rfl rfl ?_
            | refine sp_callb rfl rfl rfl rfl rfl rfl (by first | exact e1) ⟨rfl, rfl, rfl, rfl⟩ rfl rfl rfl ?_
            | refine ep_bin rfl rfl (by first | exact b_add (by omega) (by omega) | exact b_sub (by omega) (by omega) | exact b_and (by omega) (by omega) | exact b_or (by omega) (by omega) | exact b_shr (by omega) | exact b_shl (by omega) (by omega) | exact b_lss | exact b_leq | exact b_gtr | exact b_geq | exact b_eql | exact b_neq) ?_
            | refine sp_store rfl rfl rfl rfl rfl rfl rfl rfl rfl rfl ?_ | refine sp_bslice rfl rfl rfl rfl rfl ?_ | refine sp_push0 rfl (by first | exact .inl rfl | exact .inr rfl) rfl rfl rfl rfl rfl (by decide) rfl rfl rfl ?_
            | refine sp_push rfl rfl rfl rfl rfl rfl rfl (by first | exact ints_len _ | exact prs_len _ _ | exact zints_len _) (by omega) (Nat.zero_le _) rfl rfl rfl rfl rfl ?_)
          | (refine g_ops ?_; first | refine eo_none ?_ | refine eo_nil ?_)
          | (refine g_code ?_; first | refine ec_seq ?_ | refine ec_region ?_ | refine ec_block ?_ | refine ec_skip ?_ | refine ec_exit ?_ | refine ec_condT rfl ?_ | refine ec_condF rfl ?_ | refine ec_condTH rfl (by assumption) ?_ | refine ec_condFH rfl (by assumption) ?_)
          | refine ek_seqN ?_ | refine ek_seqX ?_ | refine ek_blkN ?_ | refine ek_blkR ?_ | refine ek_blkX ?_ | refine ek_blkY rfl ?_)
        exact rnd_on (by rfl) (scmp2 (by rfl) (by rfl) (by exact ⟨rfl, rfl, rfl⟩) (by rfl) (by first | rfl | (simp; done) | (simp [ints, prs]; done)) (by rfl) (by first | rfl | (simp; done) | (simp [ints, prs]; done)))
      | cons x xs =>
        refine ⟨x :: xs, by rw [selm_f (p := pkp) hp, hs]; try rfl, ?_⟩
        unfold m64_0
        repeat' (first
          | (refine g_op ?_; first
            | refine ep_mov rfl ?_ | refine ep_load1 rfl rfl rfl rfl ?_
            | refine sp_callv rfl rfl rfl rfl rfl rfl (by first | exact e1) ⟨rfl, rfl, rfl, rfl⟩ rfl rfl rfl ?_
            | refine sp_callb rfl rfl rfl rfl rfl rfl (by first | exact e1) ⟨rfl, rfl, rfl, rfl⟩ rfl rfl rfl ?_
            | refine ep_bin rfl rfl (by first | exact b_add (by omega) (by omega) | exact b_sub (by omega) (by omega) | exact b_and (by omega) (by omega) | exact b_or (by omega) (by omega) | exact b_shr (by omega) | exact b_shl (by omega) (by omega) | exact b_lss | exact b_leq | exact b_gtr | exact b_geq | exact b_eql | exact b_neq) ?_
            | refine sp_store rfl rfl rfl rfl rfl rfl rfl rfl rfl rfl ?_ | refine sp_bslice rfl rfl rfl rfl rfl ?_ | refine sp_push0 rfl (by first | exact .inl rfl | exact .inr rfl) rfl rfl rfl rfl rfl (by decide) rfl rfl rfl ?_
            | refine sp_push rfl rfl rfl rfl rfl rfl rfl (by first | exact ints_len _ | exact prs_len _ _ | exact zints_len _) (by omega) (Nat.zero_le _) rfl rfl rfl rfl rfl ?_)
          | (refine g_ops ?_; first | refine eo_none ?_ | refine eo_nil ?_)
          | (refine g_code ?_; first | refine ec_seq ?_ | refine ec_region ?_ | refine ec_block ?_ | refine ec_skip ?_ | refine ec_exit ?_ | refine ec_condT rfl ?_ | refine ec_condF rfl ?_ | refine ec_condTH rfl (by assumption) ?_ | refine ec_condFH rfl (by assumption) ?_)
          | refine ek_seqN ?_ | refine ek_seqX ?_ | refine ek_blkN ?_ | refine ek_blkR ?_ | refine ek_blkX ?_ | refine ek_blkY rfl ?_)
        exact rnd_on (by rfl) (scmp2 (by rfl) (by rfl) (by exact ⟨rfl, rfl, rfl⟩) (by rfl) (by first | rfl | (simp; done) | (simp [ints, prs]; done)) (by rfl) (by first | rfl | (simp; done) | (simp [ints, prs]; done)))
  · intro s hs
    have hlt : decide (((R2 n : Nat) : Int) < (R2 n : Nat)) = false := decide_eq_false (by omega)
    have hle : decide (((R2 n : Nat) : Int) ≤ (R2 n : Nat) - 1) = false := decide_eq_false (by omega)
    cases s with
    | nil =>
      unfold m64_0
      repeat' (first
        | (refine g_op ?_; first
          | refine ep_mov rfl ?_ | refine ep_load1 rfl rfl rfl rfl ?_
          | refine ep_bin rfl rfl (by first | exact b_add (by omega) (by omega) | exact b_sub (by omega) (by omega) | exact b_and (by omega) (by omega) | exact b_or (by omega) (by omega) | exact b_shr (by omega) | exact b_shl (by omega) (by omega) | exact b_lss | exact b_leq | exact b_gtr | exact b_geq | exact b_eql | exact b_neq) ?_
          | refine sp_store rfl rfl rfl rfl rfl rfl rfl rfl rfl rfl ?_ | refine sp_bslice rfl rfl rfl rfl rfl ?_ | refine sp_push0 rfl (by first | exact .inl rfl | exact .inr rfl) rfl rfl rfl rfl rfl (by decide) rfl rfl rfl ?_
          | refine sp_push rfl rfl rfl rfl rfl rfl rfl (by first | exact ints_len _ | exact prs_len _ _ | exact zints_len _) (by omega) (Nat.zero_le _) rfl rfl rfl rfl rfl ?_)
        | (refine g_ops ?_; first | refine eo_none ?_ | refine eo_nil ?_)
        | (refine g_code ?_; first | refine ec_seq ?_ | refine ec_region ?_ | refine ec_block ?_ | refine ec_skip ?_ | refine ec_exit ?_ | refine ec_condT rfl ?_ | refine ec_condF rfl ?_ | refine ec_condTH rfl (by assumption) ?_ | refine ec_condFH rfl (by assumption) ?_)
        | refine ek_seqN ?_ | refine ek_seqX ?_ | refine ek_blkN ?_ | refine ek_blkR ?_ | refine ek_blkX ?_ | refine ek_blkY rfl ?_)
      exact rnd_out (by rfl) (by simp) (scmp2 (by rfl) (by rfl) (by exact ⟨rfl, rfl, rfl⟩) (by rfl) (by first | rfl | (simp; done) | (simp [ints, prs]; done)) (by rfl) (by first | rfl | (simp; done) | (simp [ints, prs]; done)))
    | cons x xs =>
      unfold m64_0
      repeat' (first
        | (refine g_op ?_; first
          | refine ep_mov rfl ?_ | refine ep_load1 rfl rfl rfl rfl ?_
          | refine ep_bin rfl rfl (by first | exact b_add (by omega) (by omega) | exact b_sub (by omega) (by omega) | exact b_and (by omega) (by omega) | exact b_or (by omega) (by omega) | exact b_shr (by omega) | exact b_shl (by omega) (by omega) | exact b_lss | exact b_leq | exact b_gtr | exact b_geq | exact b_eql | exact b_neq) ?_
          | refine sp_store rfl rfl rfl rfl rfl rfl rfl rfl rfl rfl ?_ | refine sp_bslice rfl rfl rfl rfl rfl ?_ | refine sp_push0 rfl (by first | exact .inl rfl | exact .inr rfl) rfl rfl rfl rfl rfl (by decide) rfl rfl rfl ?_
          | refine sp_push rfl rfl rfl rfl rfl rfl rfl (by first | exact ints_len _ | exact prs_len _ _ | exact zints_len _) (by omega) (Nat.zero_le _) rfl rfl rfl rfl rfl ?_)
        | (refine g_ops ?_; first | refine eo_none ?_ | refine eo_nil ?_)
        | (refine g_code ?_; first | refine ec_seq ?_ | refine ec_region ?_ | refine ec_block ?_ | refine ec_skip ?_ | refine ec_exit ?_ | refine ec_condT rfl ?_ | refine ec_condF rfl ?_ | refine ec_condTH rfl (by assumption) ?_ | refine ec_condFH rfl (by assumption) ?_)
        | refine ek_seqN ?_ | refine ek_seqX ?_ | refine ek_blkN ?_ | refine ek_blkR ?_ | refine ek_blkX ?_ | refine ek_blkY rfl ?_)
      exact rnd_out (by rfl) (by simp) (scmp2 (by rfl) (by rfl) (by exact ⟨rfl, rfl, rfl⟩) (by rfl) (by first | rfl | (simp; done) | (simp [ints, prs]; done)) (by rfl) (by first | rfl | (simp; done) | (simp [ints, prs]; done)))
theorem ends_nil_tr (fb fp n b : Nat) (pkp : Nat → Bool) (hn : n ≤ 4) (l : List Nat) (m : Nat) (hpk : ∀ r : Nat, r < 16 → Ev cx fp [.int .i64 r, .ptr 0 0] [⟨[.sl 1 0 m], 1, 0, some 0, true⟩, ⟨ints l, 1, 1, some 0, false⟩] (.bool (pkp r)) [⟨[.sl 1 0 m], 1, 0, some 0, true⟩, ⟨ints l, 1, 1, some 0, false⟩]) (hs : selm pkp idn (R2 n) = []) : Ev cx 64 [.agg [.int .i64 n, .int .i64 b], .fn fp [.ptr 0 0], .fn fb []] [⟨[.sl 1 0 m], 1, 0, some 0, true⟩, ⟨ints l, 1, 1, some 0, false⟩] .nils [⟨[.sl 1 0 m], 1, 0, some 0, true⟩, ⟨ints l, 1, 1, some 0, false⟩] := by
  have lp := lp64_0_tr fb fp n b pkp hn l m hpk _ (by rw [hs])
  refine has64.eev rfl rfl ?_
  unfold m64
  repeat' (first
    | refine sc_loop lp rfl rfl ⟨rfl, rfl, rfl⟩ rfl rfl rfl ?_
    | (refine g_op ?_; first
      | refine ep_mov rfl ?_ | refine ep_load1 rfl rfl rfl rfl ?_ | refine sp_loadN rfl rfl rfl rfl rfl ?_
      | refine ep_call0 rfl (by first | exact ev106 _ _ hn | exact evcl_nils | exact evdf_nils fb) rfl rfl ?_
      | refine sp_call rfl rfl rfl rfl (by first | exact ev106 _ _ hn | exact evcl_nils | exact evdf_nils fb) ⟨rfl, rfl, rfl, rfl⟩ rfl rfl rfl ?_
      | refine sp_box rfl rfl rfl rfl rfl ?_ | refine sp_alloc rfl rfl ?_ | refine ep_mkfn rfl ?_)
    | (refine g_ops ?_; first | refine eo_none ?_ | refine eo_nil ?_)
    | (refine g_code ?_; first | refine ec_seq ?_ | refine ec_region ?_ | refine ec_block ?_ | refine ec_ret ?_)
    | refine ek_seqN ?_ | refine ek_seqX ?_ | refine ek_seqR ?_ | refine ek_blkN ?_ | refine ek_blkR ?_ | refine ek_blkX ?_ | refine ek_blkY rfl ?_)
  refine sfin (.inr rfl) (by rfl) (by rfl) (by exact ⟨rfl, rfl, rfl⟩) (by rfl) (by rfl) (by rfl) (by first | rfl | (simp; done) | (simp [ints, prs]; done))
theorem ends_cons_tr (fb fp n b : Nat) (pkp : Nat → Bool) (hn : n ≤ 4) (l : List Nat) (m : Nat) (hpk : ∀ r : Nat, r < 16 → Ev cx fp [.int .i64 r, .ptr 0 0] [⟨[.sl 1 0 m], 1, 0, some 0, true⟩, ⟨ints l, 1, 1, some 0, false⟩] (.bool (pkp r)) [⟨[.sl 1 0 m], 1, 0, some 0, true⟩, ⟨ints l, 1, 1, some 0, false⟩]) (bel : Nat → Nat → Bool) (hbel : ∀ r s : Nat, r < 65536 → s < 65536 → Ev cx fb [.int .i64 r, .int .i64 s] [] (.bool (bel r s)) []) (x : Nat) (xs : List Nat) (hs : selm pkp idn (R2 n) = x :: xs) :
    Ev cx 64 [.agg [.int .i64 n, .int .i64 b], .fn fp [.ptr 0 0], .fn fb []] [⟨[.sl 1 0 m], 1, 0, some 0, true⟩, ⟨ints l, 1, 1, some 0, false⟩] (.sl 2 0 (endL (x :: xs) bel).length) [⟨[.sl 1 0 m], 1, 0, some 0, true⟩, ⟨ints l, 1, 1, some 0, false⟩, ⟨ints (endL (x :: xs) bel ++ List.replicate ((x :: xs).length - (endL (x :: xs) bel).length) 0), 1, 2, some 0, false⟩] := by
  obtain ⟨h1, h2, h3, h4⟩ := shN hn
  have hle := selm_len pkp idn (R2 n)
  have hlt : ∀ j, j < (x :: xs).length → (x :: xs).getD j 0 < 65536 := fun j hj => by
    have := (selm_lt (p := pkp) (n := R2 n) (j := j) (by rw [hs]; exact hj)).1
    rw [hs] at this; omega
  rw [hs] at hle
  have lp := lp64_0_tr fb fp n b pkp hn l m hpk _ (by rw [hs])
  have e2 := ev109 (x :: xs) (x :: xs).length rfl (by simp) (by omega)
  have e3 := evdf_ends fb bel hbel (x :: xs) (by omega) hlt (x :: xs) (by omega) hlt
  refine has64.eev rfl rfl ?_
  unfold m64
  repeat' (first
    | refine sc_loop lp rfl rfl ⟨rfl, rfl, rfl⟩ rfl rfl rfl ?_
    | (refine g_op ?_; first
      | refine ep_mov rfl ?_ | refine ep_load1 rfl rfl rfl rfl ?_ | refine sp_loadN rfl rfl rfl rfl rfl ?_
      | refine ep_call0 rfl (by first | exact ev106 _ _ hn | exact e2 | exact e3) rfl rfl ?_
      | refine sp_call rfl rfl rfl rfl (by first | exact ev106 _ _ hn | exact e2 | exact e3) ⟨rfl, rfl, rfl, rfl⟩ rfl rfl rfl ?_
      | refine sp_box rfl rfl rfl rfl rfl ?_ | refine sp_alloc rfl rfl ?_ | refine ep_mkfn rfl ?_)
    | (refine g_ops ?_; first | refine eo_none ?_ | refine eo_nil ?_)
    | (refine g_code ?_; first | refine ec_seq ?_ | refine ec_region ?_ | refine ec_block ?_ | refine ec_ret ?_)
    | refine ek_seqN ?_ | refine ek_seqX ?_ | refine ek_seqR ?_ | refine ek_blkN ?_ | refine ek_blkR ?_ | refine ek_blkX ?_ | refine ek_blkY rfl ?_)
  refine sfin (.inr rfl) (by rfl) (by rfl) (by exact ⟨rfl, rfl, rfl⟩) (by rfl) (by rfl) (by rfl) (by first | rfl | (simp; done) | (simp [ints, prs]; done))

theorem lp64_0_trn (fb fp n b : Nat) (pkp : Nat → Bool) (hn : n ≤ 4) (hpk : ∀ r : Nat, r < 16 → Ev cx fp [.int .i64 r, .ptr 0 0] [⟨[.nils], 1, 0, some 0, true⟩] (.bool (pkp r)) [⟨[.nils], 1, 0, some 0, true⟩]) (o : Out) (ho : (match selm (pkp) (idn) (R2 n) with | [] => (⟨.exit 0, [(5, .ptr 1 0), (7, .ptr 2 0)], [⟨[.nils], 1, 0, some 0, true⟩, ⟨[.fn fb []], 1, 1, some 0, true⟩, ⟨[.nils], 1, 2, some 0, true⟩]⟩ : Out) | x :: xs => ⟨.exit 0, [(5, .ptr 1 0), (7, .ptr 2 0)], [⟨[.nils], 1, 0, some 0, true⟩, ⟨[.fn fb []], 1, 1, some 0, true⟩, ⟨[.sl 3 0 (x :: xs).length], 1, 2, some 0, true⟩, ⟨ints (x :: xs), 1, 3, some 0, false⟩]⟩) = o) :
    LpS cx 26 1 m64_0 [(1, .fn fp [.ptr 0 0]), (5, .ptr 1 0), (7, .ptr 2 0), (10, .int .i64 (R2 n : Nat)), (11, .int .i64 (0 : Nat))] [⟨[.nils], 1, 0, some 0, true⟩, ⟨[.fn fb []], 1, 1, some 0, true⟩, ⟨[.nils], 1, 2, some 0, true⟩] o.x o.e o.h := by
  obtain ⟨h1, h2, h3, h4⟩ := shN hn
  subst ho
  refine lp_st (R2 n) (selm (pkp) (idn)) (fun i s => match s with | [] => [(1, .fn fp [.ptr 0 0]), (5, .ptr 1 0), (7, .ptr 2 0), (10, .int .i64 (R2 n : Nat)), (11, .int .i64 (i : Nat))] | x :: xs => [(1, .fn fp [.ptr 0 0]), (5, .ptr 1 0), (7, .ptr 2 0), (10, .int .i64 (R2 n : Nat)), (11, .int .i64 (i : Nat))]) (fun i s => match s with | [] => [⟨[.nils], 1, 0, some 0, true⟩, ⟨[.fn fb []], 1, 1, some 0, true⟩, ⟨[.nils], 1, 2, some 0, true⟩] | x :: xs => [⟨[.nils], 1, 0, some 0, true⟩, ⟨[.fn fb []], 1, 1, some 0, true⟩, ⟨[.sl 3 0 (x :: xs).length], 1, 2, some 0, true⟩, ⟨ints (x :: xs), 1, 3, some 0, false⟩]) (fun s => match s with | [] => ⟨.exit 0, [(5, .ptr 1 0), (7, .ptr 2 0)], [⟨[.nils], 1, 0, some 0, true⟩, ⟨[.fn fb []], 1, 1, some 0, true⟩, ⟨[.nils], 1, 2, some 0, true⟩]⟩ | x :: xs => ⟨.exit 0, [(5, .ptr 1 0), (7, .ptr 2 0)], [⟨[.nils], 1, 0, some 0, true⟩, ⟨[.fn fb []], 1, 1, some 0, true⟩, ⟨[.sl 3 0 (x :: xs).length], 1, 2, some 0, true⟩, ⟨ints (x :: xs), 1, 3, some 0, false⟩]⟩) ?_ ?_ (R2 n) 0 (by omega)
  · intro i s hi hs
    have hlt : decide ((i : Int) < (R2 n : Nat)) = true := decide_eq_true (by omega)
    have hle : decide ((i : Int) ≤ (R2 n : Nat) - 1) = true := decide_eq_true (by omega)
    have hlen : s.length ≤ 16 := by have := selm_len (pkp) (idn) i; rw [hs] at this; omega
    have e1 := hpk i (by omega)
    cases hp : (pkp) i with
    | true =>
      have hp' : ((pkp) i) = true := hp
      rw [hp'] at e1
      cases s with
      | nil =>
        refine ⟨[(idn) i], by rw [selm_t (p := pkp) hp, hs]; try rfl, ?_⟩
        unfold m64_0
        repeat' (first
          | (refine g_op ?_; first
            | refine ep_mov rfl ?_ | refine ep_load1 rfl rfl rfl rfl ?_
            | refine sp_callv rfl rfl rfl rfl rfl rfl (by first | exact e1) ⟨rfl, rfl, rfl, rfl⟩ rfl rfl rfl ?_
            | refine sp_callb rfl rfl rfl rfl rfl rfl (by first | exact e1) ⟨rfl, rfl, rfl, rfl⟩ rfl rfl rfl ?_
            | refine ep_bin rfl rfl (by first | exact b_add (by omega) (by omega) | exact b_sub (by omega) (by omega) | exact b_and (by omega) (by omega) | exact b_or (by omega) (by omega) | exact b_shr (by omega) | exact b_shl (by omega) (by omega) | exact b_lss | exact b_leq | exact b_gtr | exact b_geq | exact b_eql | exact b_neq) ?_
            | refine sp_store rfl rfl rfl rfl rfl rfl rfl rfl rfl rfl ?_ | refine sp_bslice rfl rfl rfl rfl rfl ?_ | refine sp_push0 rfl (by first | exact .inl rfl | exact .inr rfl) rfl rfl rfl rfl rfl (by decide) rfl rfl rfl ?_
            | refine sp_push rfl rfl rfl rfl rfl rfl rfl (by first | exact ints_len _ | exact prs_len _ _ | exact zints_len _) (by omega) (Nat.zero_le _) rfl rfl rfl rfl rfl ?_)
          | (refine g_ops ?_; first | refine eo_none ?_ | refine eo_nil ?_)
          | (refine g_code ?_; first | refine ec_seq ?_ | refine ec_region ?_ | refine ec_block ?_ | refine ec_skip ?_ | refine ec_exit ?_ | refine ec_condT rfl ?_ | refine ec_condF rfl ?_ | refine ec_condTH rfl (by assumption) ?_ | refine ec_condFH rfl (by assumption) ?_)
          | refine ek_seqN ?_ | refine ek_seqX ?_ | refine ek_blkN ?_ | refine ek_blkR ?_ | refine ek_blkX ?_ | refine ek_blkY rfl ?_)
        exact rnd_on (by rfl) (scmp2 (by rfl) (by rfl) (by exact ⟨rfl, rfl, rfl⟩) (by rfl) (by first | rfl | (simp; done) | (simp [ints, prs]; done)) (by rfl) (by first | rfl | (simp; done) | (simp [ints, prs]; done)))
      | cons x xs =>
        refine ⟨(x :: xs) ++ [(idn) i], by rw [selm_t (p := pkp) hp, hs]; try rfl, ?_⟩
        unfold m64_0
        repeat' (first
          | (refine g_op ?_; first
            | refine ep_mov rfl ?_ | refine ep_load1 rfl rfl rfl rfl ?_
            | refine sp_callv rfl rfl rfl rfl rfl rfl (by first | exact e1) ⟨rfl, rfl, rfl, rfl⟩ rfl rfl rfl ?_
            | refine sp_callb rfl rfl rfl rfl rfl rfl (by first | exact e1) ⟨rfl, rfl, rfl, rfl⟩ rfl rfl rfl ?_
            | refine ep_bin rfl rfl (by first | exact b_add (by omega) (by omega) | exact b_sub (by omega) (by omega) | exact b_and (by omega) (by omega) | exact b_or (by omega) (by omega) | exact b_shr (by omega) | exact b_shl (by omega) (by omega) | exact b_lss | exact b_leq | exact b_gtr | exact b_geq | exact b_eql | exact b_neq) ?_
            | refine sp_store rfl rfl rfl rfl rfl rfl rfl rfl rfl rfl ?_ | refine sp_bslice rfl rfl rfl rfl rfl ?_ | refine sp_push0 rfl (by first | exact .inl rfl | exact .inr rfl) rfl rfl rfl rfl rfl (by decide) rfl rfl rfl ?_
            | refine sp_push rfl rfl rfl rfl rfl rfl rfl (by first | exact ints_len _ | exact prs_len _ _ | exact zints_len _) (by omega) (Nat.zero_le _) rfl rfl rfl rfl rfl ?_)
          | (refine g_ops ?_; first | refine eo_none ?_ | refine eo_nil ?_)
          | (refine g_code ?_; first | refine ec_seq ?_ | refine ec_region ?_ | refine ec_block ?_ | refine ec_skip ?_ | refine ec_exit ?_ | refine ec_condT rfl ?_ | refine ec_condF rfl ?_ | refine ec_condTH rfl (by assumption) ?_ | refine ec_condFH rfl (by assumption) ?_)
          | refine ek_seqN ?_ | refine ek_seqX ?_ | refine ek_blkN ?_ | refine ek_blkR ?_ | refine ek_blkX ?_ | refine ek_blkY rfl ?_)
        exact rnd_on (by rfl) (scmp2 (by rfl) (by rfl) (by exact ⟨rfl, rfl, rfl⟩) (by rfl) (by first | rfl | (simp; done) | (simp [ints, prs]; done)) (by rfl) (by first | rfl | (simp; done) | (simp [ints, prs]; done)))
    | false =>
      have hp' : ((pkp) i) = false := hp
      rw [hp'] at e1
      cases s with
      | nil =>
        refine ⟨[], by rw [selm_f (p := pkp) hp, hs]; try rfl, ?_⟩
        unfold m64_0
        repeat' (first
          | (refine g_op ?_; first
            | refine ep_mov rfl ?_ | refine ep_load1 rfl rfl rfl rfl ?_
            | refine sp_callv rfl rfl rfl rfl rfl rfl (by first | exact e1) ⟨rfl, rfl, rfl, rfl⟩ rfl rfl rfl ?_
            | refine sp_callb rfl rfl rfl rfl rfl rfl (by first | exact e1) ⟨rfl, rfl, rfl, rfl⟩ rfl rfl rfl ?_
            | refine ep_bin rfl rfl (by first | exact b_add (by omega) (by omega) | exact b_sub (by omega) (by omega) | exact b_and (by omega) (by omega) | exact b_or (by omega) (by omega) | exact b_shr (by omega) | exact b_shl (by omega) (by omega) | exact b_lss | exact b_leq | exact b_gtr | exact b_geq | exact b_eql | exact b_neq) ?_
            | refine sp_store rfl rfl rfl rfl rfl rfl rfl rfl rfl rfl ?_ | refine sp_bslice rfl rfl rfl rfl rfl ?_ | refine sp_push0 rfl (by first | exact .inl rfl | exact .inr rfl) rfl rfl rfl rfl rfl (by decide) rfl rfl rfl ?_
            | refine sp_push rfl rfl rfl rfl rfl rfl rfl (by first | exact ints_len _ | exact prs_len _ _ | exact zints_len _) (by omega) (Nat.zero_le _) rfl rfl rfl rfl rfl ?_)
          | (refine g_ops ?_; first | refine eo_none ?_ | refine eo_nil ?_)
          | (refine g_code ?_; first | refine ec_seq ?_ | refine ec_region ?_ | refine ec_block ?_ | refine ec_skip ?_ | refine ec_exit ?_ | refine ec_condT rfl ?_ | refine ec_condF rfl ?_ | refine ec_condTH rfl (by assumption) ?_ | refine ec_condFH rfl (by assumption) ?_)
          | refine ek_seqN ?_ | refine ek_seqX ?_ | refine ek_blkN ?_ | refine ek_blkR ?_ | refine ek_blkX ?_ | refine ek_blkY rfl ?_)
        exact rnd_on (by rfl) (scmp2 (by rfl) (by rfl) (by exact ⟨rfl, rfl, rfl⟩) (by rfl) (by first | rfl | (simp; done) | (simp [ints, prs]; done)) (by rfl) (by first | rfl | (simp; done) | (simp [ints, prs]; done)))
      | cons x xs =>
        refine ⟨x :: xs, by rw [selm_f (p := pkp) hp, hs]; try rfl, ?_⟩
        unfold m64_0
        repeat' (first
          | (refine g_op ?_; first
            | refine ep_mov rfl ?_ | refine ep_load1 rfl rfl rfl rfl ?_
            | refine sp_callv rfl rfl rfl rfl rfl rfl (by first | exact e1) ⟨rfl, rfl, rfl, rfl⟩ rfl rfl rfl ?_
            | refine sp_callb rfl rfl rfl rfl rfl rfl (by first | exact e1) ⟨rfl, rfl, rfl, rfl⟩ rfl rfl rfl ?_
            | refine ep_bin rfl rfl (by first | exact b_add (by omega) (by omega) | exact b_sub (by omega) (by omega) | exact b_and (by omega) (by omega) | exact b_or (by omega) (by omega) | exact b_shr (by omega) | exact b_shl (by omega) (by omega) | exact b_lss | exact b_leq | exact b_gtr | exact b_geq | exact b_eql | exact b_neq) ?_
            | refine sp_store rfl rfl rfl rfl rfl rfl rfl rfl rfl rfl ?_ | refine sp_bslice rfl rfl rfl rfl rfl ?_ | refine sp_push0 rfl (by first | exact .inl rfl | exact .inr rfl) rfl rfl rfl rfl rfl (by decide) rfl rfl rfl ?_
            | refine sp_push rfl rfl rfl rfl rfl rfl rfl (by first | exact ints_len _ | exact prs_len _ _ | exact zints_len _) (by omega) (Nat.zero_le _) rfl rfl rfl rfl rfl ?_)
          | (refine g_ops ?_; first | refine eo_none ?_ | refine eo_nil ?_)
          | (refine g_code ?_; first | refine ec_seq ?_ | refine ec_region ?_ | refine ec_block ?_ | refine ec_skip ?_ | refine ec_exit ?_ | refine ec_condT rfl ?_ | refine ec_condF rfl ?_ | refine ec_condTH rfl (by assumption) ?_ | refine ec_condFH rfl (by assumption) ?_)
          | refine ek_seqN ?_ | refine ek_seqX ?_ | refine ek_blkN ?_ | refine ek_blkR ?_ | refine ek_blkX ?_ | refine ek_blkY rfl ?_)
        exact rnd_on (by rfl) (scmp2 (by rfl) (by rfl) (by exact ⟨rfl, rfl, rfl⟩) (by rfl) (by first | rfl | (simp; done) | (simp [ints, prs]; done)) (by rfl) (by first | rfl | (simp; done) | (simp [ints, prs]; done)))
  · intro s hs
    have hlt : decide (((R2 n : Nat) : Int) < (R2 n : Nat)) = false := decide_eq_false (by omega)
    have hle : decide (((R2 n : Nat) : Int) ≤ (R2 n : Nat) - 1) = false := decide_eq_false (by omega)
    cases s with
    | nil =>
      unfold m64_0
      repeat' (first
        | (refine g_op ?_; first
          | refine ep_mov rfl ?_ | refine ep_load1 rfl rfl rfl rfl ?_
          | refine ep_bin rfl rfl (by first | exact b_add (by omega) (by omega) | exact b_sub (by omega) (by omega) | exact b_and (by omega) (by omega) | exact b_or (by omega) (by omega) | exact b_shr (by omega) | exact b_shl (by omega) (by omega) | exact b_lss | exact b_leq | exact b_gtr | exact b_geq | exact b_eql | exact b_neq) ?_
          | refine sp_store rfl rfl rfl rfl rfl rfl rfl rfl rfl rfl ?_ | refine sp_bslice rfl rfl rfl rfl rfl ?_ | refine sp_push0 rfl (by first | exact .inl rfl | exact .inr rfl) rfl rfl rfl rfl rfl (by decide) rfl rfl rfl ?_
          | refine sp_push rfl rfl rfl rfl rfl rfl rfl (by first | exact ints_len _ | exact prs_len _ _ | exact zints_len _) (by omega) (Nat.zero_le _) rfl rfl rfl rfl rfl ?_)
        | (refine g_ops ?_; first | refine eo_none ?_ | refine eo_nil ?_)
        | (refine g_code ?_; first | refine ec_seq ?_ | refine ec_region ?_ | refine ec_block ?_ | refine ec_skip ?_ | refine ec_exit ?_ | refine ec_condT rfl ?_ | refine ec_condF rfl ?_ | refine ec_condTH rfl (by assumption) ?_ | refine ec_condFH rfl (by assumption) ?_)
        | refine ek_seqN ?_ | refine ek_seqX ?_ | refine ek_blkN ?_ | refine ek_blkR ?_ | refine ek_blkX ?_ | refine ek_blkY rfl ?_)
      exact rnd_out (by rfl) (by simp) (scmp2 (by rfl) (by rfl) (by exact ⟨rfl, rfl, rfl⟩) (by rfl) (by first | rfl | (simp; done) | (simp [ints, prs]; done)) (by rfl) (by first | rfl | (simp; done) | (simp [ints, prs]; done)))
    | cons x xs =>
      unfold m64_0
      repeat' (first
        | (refine g_op ?_; first
          | refine ep_mov rfl ?_ | refine ep_load1 rfl rfl rfl rfl ?_
          | refine ep_bin rfl rfl (by first | exact b_add (by omega) (by omega) | exact b_sub (by omega) (by omega) | exact b_and (by omega) (by omega) | exact b_or (by omega) (by omega) | exact b_shr (by omega) | exact b_shl (by omega) (by omega) | exact b_lss | exact b_leq | exact b_gtr | exact b_geq | exact b_eql | exact b_neq) ?_
          | refine sp_store rfl rfl rfl rfl rfl rfl rfl rfl rfl rfl ?_ | refine sp_bslice rfl rfl rfl rfl rfl ?_ | refine sp_push0 rfl (by first | exact .inl rfl | exact .inr rfl) rfl rfl rfl rfl rfl (by decide) rfl rfl rfl ?_
          | refine sp_push rfl rfl rfl rfl rfl rfl rfl (by first | exact ints_len _ | exact prs_len _ _ | exact zints_len _) (by omega) (Nat.zero_le _) rfl rfl rfl rfl rfl ?_)
        | (refine g_ops ?_; first | refine eo_none ?_ | refine eo_nil ?_)
        | (refine g_code ?_; first | refine ec_seq ?_ | refine ec_region ?_ | refine ec_block ?_ | refine ec_skip ?_ | refine ec_exit ?_ | refine ec_condT rfl ?_ | refine ec_condF rfl ?_ | refine ec_condTH rfl (by assumption) ?_ | refine ec_condFH rfl (by assumption) ?_)
        | refine ek_seqN ?_ | refine ek_seqX ?_ | refine ek_blkN ?_ | refine ek_blkR ?_ | refine ek_blkX ?_ | refine ek_blkY rfl ?_)
      exact rnd_out (by rfl) (by simp) (scmp2 (by rfl) (by rfl) (by exact ⟨rfl, rfl, rfl⟩) (by rfl) (by first | rfl | (simp; done) | (simp [ints, prs]; done)) (by rfl) (by first | rfl | (simp; done) | (simp [ints, prs]; done)))
theorem ends_nil_trn (fb fp n b : Nat) (pkp : Nat → Bool) (hn : n ≤ 4) (hpk : ∀ r : Nat, r < 16 → Ev cx fp [.int .i64 r, .ptr 0 0] [⟨[.nils], 1, 0, some 0, true⟩] (.bool (pkp r)) [⟨[.nils], 1, 0, some 0, true⟩]) (hs : selm pkp idn (R2 n) = []) : Ev cx 64 [.agg [.int .i64 n, .int .i64 b], .fn fp [.ptr 0 0], .fn fb []] [⟨[.nils], 1, 0, some 0, true⟩] .nils [⟨[.nils], 1, 0, some 0, true⟩] := by
  have lp := lp64_0_trn fb fp n b pkp hn hpk _ (by rw [hs])
  refine has64.eev rfl rfl ?_
  unfold m64
  repeat' (first
    | refine sc_loop lp rfl rfl ⟨rfl, rfl, rfl⟩ rfl rfl rfl ?_
    | (refine g_op ?_; first
      | refine ep_mov rfl ?_ | refine ep_load1 rfl rfl rfl rfl ?_ | refine sp_loadN rfl rfl rfl rfl rfl ?_
      | refine ep_call0 rfl (by first | exact ev106 _ _ hn | exact evcl_nils | exact evdf_nils fb) rfl rfl ?_
      | refine sp_call rfl rfl rfl rfl (by first | exact ev106 _ _ hn | exact evcl_nils | exact evdf_nils fb) ⟨rfl, rfl, rfl, rfl⟩ rfl rfl rfl ?_
      | refine sp_box rfl rfl rfl rfl rfl ?_ | refine sp_alloc rfl rfl ?_ | refine ep_mkfn rfl ?_)
    | (refine g_ops ?_; first | refine eo_none ?_ | refine eo_nil ?_)
    | (refine g_code ?_; first | refine ec_seq ?_ | refine ec_region ?_ | refine ec_block ?_ | refine ec_ret ?_)
    | refine ek_seqN ?_ | refine ek_seqX ?_ | refine ek_seqR ?_ | refine ek_blkN ?_ | refine ek_blkR ?_ | refine ek_blkX ?_ | refine ek_blkY rfl ?_)
  refine sfin (.inr rfl) (by rfl) (by rfl) (by exact ⟨rfl, rfl, rfl⟩) (by rfl) (by rfl) (by rfl) (by first | rfl | (simp; done) | (simp [ints, prs]; done))
theorem ends_cons_trn (fb fp n b : Nat) (pkp : Nat → Bool) (hn : n ≤ 4) (hpk : ∀ r : Nat, r < 16 → Ev cx fp [.int .i64 r, .ptr 0 0] [⟨[.nils], 1, 0, some 0, true⟩] (.bool (pkp r)) [⟨[.nils], 1, 0, some 0, true⟩]) (bel : Nat → Nat → Bool) (hbel : ∀ r s : Nat, r < 65536 → s < 65536 → Ev cx fb [.int .i64 r, .int .i64 s] [] (.bool (bel r s)) []) (x : Nat) (xs : List Nat) (hs : selm pkp idn (R2 n) = x :: xs) :
    Ev cx 64 [.agg [.int .i64 n, .int .i64 b], .fn fp [.ptr 0 0], .fn fb []] [⟨[.nils], 1, 0, some 0, true⟩] (.sl 1 0 (endL (x :: xs) bel).length) [⟨[.nils], 1, 0, some 0, true⟩, ⟨ints (endL (x :: xs) bel ++ List.replicate ((x :: xs).length - (endL (x :: xs) bel).length) 0), 1, 1, some 0, false⟩] := by
  obtain ⟨h1, h2, h3, h4⟩ := shN hn
  have hle := selm_len pkp idn (R2 n)
  have hlt : ∀ j, j < (x :: xs).length → (x :: xs).getD j 0 < 65536 := fun j hj => by
    have := (selm_lt (p := pkp) (n := R2 n) (j := j) (by rw [hs]; exact hj)).1
    rw [hs] at this; omega
  rw [hs] at hle
  have lp := lp64_0_trn fb fp n b pkp hn hpk _ (by rw [hs])
  have e2 := ev109 (x :: xs) (x :: xs).length rfl (by simp) (by omega)
  have e3 := evdf_ends fb bel hbel (x :: xs) (by omega) hlt (x :: xs) (by omega) hlt
  refine has64.eev rfl rfl ?_
  unfold m64
  repeat' (first
    | refine sc_loop lp rfl rfl ⟨rfl, rfl, rfl⟩ rfl rfl rfl ?_
    | (refine g_op ?_; first
      | refine ep_mov rfl ?_ | refine ep_load1 rfl rfl rfl rfl ?_ | refine sp_loadN rfl rfl rfl rfl rfl ?_
      | refine ep_call0 rfl (by first | exact ev106 _ _ hn | exact e2 | exact e3) rfl rfl ?_
      | refine sp_call rfl rfl rfl rfl (by first | exact ev106 _ _ hn | exact e2 | exact e3) ⟨rfl, rfl, rfl, rfl⟩ rfl rfl rfl ?_
      | refine sp_box rfl rfl rfl rfl rfl ?_ | refine sp_alloc rfl rfl ?_ | refine ep_mkfn rfl ?_)
    | (refine g_ops ?_; first | refine eo_none ?_ | refine eo_nil ?_)
    | (refine g_code ?_; first | refine ec_seq ?_ | refine ec_region ?_ | refine ec_block ?_ | refine ec_ret ?_)
    | refine ek_seqN ?_ | refine ek_seqX ?_ | refine ek_seqR ?_ | refine ek_blkN ?_ | refine ek_blkR ?_ | refine ek_blkX ?_ | refine ek_blkY rfl ?_)
  refine sfin (.inr rfl) (by rfl) (by rfl) (by exact ⟨rfl, rfl, rfl⟩) (by rfl) (by rfl) (by rfl) (by first | rfl | (simp; done) | (simp [ints, prs]; done))

theorem sel_t (P : Nat → Bool) (N : Nat) : selm (fun r => bt (pk (bn P) N) r == 1) idn N = selm P idn N := by
  refine selm_congr N fun r hr => ⟨?_, fun _ => rfl⟩
  rw [bt_pk (fun r _ => bn_le _ r) hr]
  unfold bn; cases P r <;> rfl
-- spec.TransversalsOf
def m24_1 : MC := (.seq (.seq (.region [⟨(.mov (.t 8)), (some 27), none⟩, ⟨(.mov (.t 4)), (some 28), none⟩, ⟨(.len (.t 28)), (some 29), none⟩, ⟨(.bin .lss (.t 27) (.t 29)), (some 30), none⟩] false) (.cond (.t 30) .skip (.exit 3))) (.seq (.block 4 (.seq (.region [⟨(.mov (.t 6)), (some 33), none⟩, ⟨(.mov (.t 4)), (some 34), none⟩, ⟨(.mov (.t 8)), (some 35), none⟩, ⟨(.indexAddr 1 (.t 34) (.t 35)), (some 36), none⟩, ⟨(.load none (.t 36)), (some 37), none⟩, ⟨(.bin .and (.t 33) (.t 37)), (some 38), none⟩, ⟨(.bin .eql (.t 38) (.k (.int .i64 0))), (some 39), none⟩] false) (.cond (.t 39) (.region [⟨(.mov (.k (.int .i64 0))), (some 7), none⟩] false) .skip))) (.region [⟨(.mov (.t 8)), (some 31), none⟩, ⟨(.bin .add (.t 31) (.k (.int .i64 1))), (some 32), none⟩, ⟨(.mov (.t 32)), (some 8), none⟩] false)))
def m24_0 : MC := (.seq (.seq (.region [⟨(.mov (.t 6)), (some 20), none⟩, ⟨(.fieldAddr 0 (.t 1)), (some 21), none⟩, ⟨(.load none (.t 21)), (some 22), none⟩, ⟨(.call 58 [(.t 22)]), (some 23), none⟩, ⟨(.bin .lss (.t 20) (.t 23)), (some 24), none⟩] false) (.cond (.t 24) .skip (.exit 1))) (.seq (.block 2 (.seq (.region [⟨(.mov (.k (.int .i64 1))), (some 7), none⟩] false) (.seq (.seq (.region [⟨(.mov (.k (.int .i64 0))), (some 8), none⟩] false) (.block 3 (.loop m24_1))) (.region [⟨(.mov (.t 5)), (some 40), none⟩, ⟨(.mov (.t 7)), (some 41), none⟩, ⟨(.bslice 1 [(.int .i64 0)] 1 [(0, (1, (.t 41)))]), (some 42), none⟩, ⟨(.append 1 8 (.t 40) (.t 42)), (some 43), none⟩, ⟨(.mov (.t 43)), (some 5), none⟩] false)))) (.region [⟨(.mov (.t 6)), (some 25), none⟩, ⟨(.bin .add (.t 25) (.k (.int .i64 1))), (some 26), none⟩, ⟨(.mov (.t 26)), (some 6), none⟩] false)))
def m24 : MC := (.seq (.region [⟨(.box (.t 0)), (some 1), none⟩, ⟨(.mov (.k .nils)), (some 2), none⟩, ⟨(.mov (.k (.int .i64 0))), (some 3), none⟩] false) (.seq (.block 0 (.seq (.region [⟨(.load (some 2) (.t 1)), (some 10), none⟩, ⟨(.call 53 [(.t 10)]), (some 11), none⟩, ⟨(.un .not (.t 11)), (some 12), none⟩, ⟨(.mov (.t 12)), (some 9), none⟩] false) (.cond (.t 9) (.seq (.region [⟨(.mov (.k .nils)), (some 2), none⟩, ⟨(.mov (.k (.int .i64 1))), (some 3), none⟩] false) .ret) (.seq (.region [⟨(.load (some 2) (.t 1)), (some 14), none⟩, ⟨(.call 61 [(.t 14)]), (some 15), none⟩, ⟨(.un .not (.t 15)), (some 16), none⟩, ⟨(.mov (.t 16)), (some 13), none⟩] false) (.cond (.t 13) (.seq (.region [⟨(.mov (.k .nils)), (some 2), none⟩, ⟨(.mov (.k (.int .i64 5))), (some 3), none⟩] false) .ret) .skip))))) (.seq (.region [⟨(.load (some 2) (.t 1)), (some 17), none⟩, ⟨(.call 54 [(.t 17), (.k (.int .i64 1)), (.k (.bool true))]), (some 18), none⟩, ⟨.empt, (some 19), none⟩, ⟨(.mov (.t 18)), (some 4), none⟩, ⟨(.mov (.t 19)), (some 5), none⟩] false) (.seq (.seq (.region [⟨(.mov (.k (.int .i64 0))), (some 6), none⟩] false) (.block 1 (.loop m24_0))) (.seq (.region [⟨(.fieldAddr 0 (.t 1)), (some 44), none⟩, ⟨(.load none (.t 44)), (some 45), none⟩, ⟨(.mov (.t 5)), (some 46), none⟩, ⟨(.call 62 [(.t 45), (.t 46)]), (some 47), none⟩, ⟨(.call 54 [(.t 47), (.k (.int .i64 1)), (.k (.bool true))]), (some 48), none⟩, ⟨(.mov (.t 48)), (some 2), none⟩, ⟨(.mov (.k (.int .i64 0))), (some 3), none⟩] false) .ret)))))
theorem has24 : Has cx 24 49 m24 [(.tmp 2), (.tmp 3)] :=
  ⟨⟨Try.f24, Try.f24.body.getD .skip, by kernel_rfl, by kernel_rfl, by kernel_rfl, by kernel_rfl, by kernel_rfl, by kernel_rfl⟩⟩
theorem lptv_ee (n b r : Nat) (hr : r < 65536) :
    LpS cx 49 0 m24_1 [(1, .ptr 0 0), (4, .emp), (5, .emp), (6, .int .i64 (r : Nat)), (7, .int .i64 ((if allF (fun j => !(r &&& (([] : List Nat).getD j 0) == 0)) 0 (0) = true then 1 else 0) : Nat)), (8, .int .i64 (0 : Nat))] [⟨[.int .i64 n, .int .i64 b], 1, 0, some 0, true⟩] (⟨.exit 3, [(1, .ptr 0 0), (4, .emp), (5, .emp), (6, .int .i64 (r : Nat)), (7, .int .i64 ((if allF (fun j => !(r &&& (([] : List Nat).getD j 0) == 0)) 0 (0) = true then 1 else 0) : Nat))], [⟨[.int .i64 n, .int .i64 b], 1, 0, some 0, true⟩]⟩ : Out).x (⟨.exit 3, [(1, .ptr 0 0), (4, .emp), (5, .emp), (6, .int .i64 (r : Nat)), (7, .int .i64 ((if allF (fun j => !(r &&& (([] : List Nat).getD j 0) == 0)) 0 (0) = true then 1 else 0) : Nat))], [⟨[.int .i64 n, .int .i64 b], 1, 0, some 0, true⟩]⟩ : Out).e (⟨.exit 3, [(1, .ptr 0 0), (4, .emp), (5, .emp), (6, .int .i64 (r : Nat)), (7, .int .i64 ((if allF (fun j => !(r &&& (([] : List Nat).getD j 0) == 0)) 0 (0) = true then 1 else 0) : Nat))], [⟨[.int .i64 n, .int .i64 b], 1, 0, some 0, true⟩]⟩ : Out).h := by
  refine lp_st (0) (fun _ => ()) (fun i _ => [(1, .ptr 0 0), (4, .emp), (5, .emp), (6, .int .i64 (r : Nat)), (7, .int .i64 ((if allF (fun j => !(r &&& (([] : List Nat).getD j 0) == 0)) 0 (i) = true then 1 else 0) : Nat)), (8, .int .i64 (i : Nat))]) (fun i _ => [⟨[.int .i64 n, .int .i64 b], 1, 0, some 0, true⟩]) (fun _ => (⟨.exit 3, [(1, .ptr 0 0), (4, .emp), (5, .emp), (6, .int .i64 (r : Nat)), (7, .int .i64 ((if allF (fun j => !(r &&& (([] : List Nat).getD j 0) == 0)) 0 (0) = true then 1 else 0) : Nat))], [⟨[.int .i64 n, .int .i64 b], 1, 0, some 0, true⟩]⟩ : Out)) ?_ ?_ (0) 0 (by omega)
  · intro i u_ hi hu_
    refine ⟨(), rfl, ?_⟩
    exact absurd hi (by simp)
  · intro u_ hu_
    have hlt : decide (((0 : Nat) : Int) < (0 : Nat)) = false := decide_eq_false (by omega)
    unfold m24_1
    repeat' (first
      | (refine g_op ?_; first
        | refine ep_mov rfl ?_ | refine ep_load1 rfl rfl rfl rfl ?_
        | refine ep_bin rfl rfl (by first | exact b_add (by omega) (by omega) | exact b_sub (by omega) (by omega) | exact b_and (by omega) (by omega) | exact b_or (by omega) (by omega) | exact b_shr (by omega) | exact b_shl (by omega) (by omega) | exact b_lss | exact b_leq | exact b_gtr | exact b_geq | exact b_eql | exact b_neq) ?_
        | refine ep_lenS rfl ?_ | refine ep_lenN rfl ?_ | refine ep_lenE rfl ?_ | refine sp_idx rfl rfl rfl (by omega) rfl ?_ | refine ep_loadS rfl rfl rfl (by first | exact ints_get (by omega) | exact zints_get (by omega) | exact fget (by omega) | assumption) ?_)
      | (refine g_ops ?_; first | refine eo_none ?_ | refine eo_nil ?_)
      | (refine g_code ?_; first | refine ec_seq ?_ | refine ec_region ?_ | refine ec_block ?_ | refine ec_skip ?_ | refine ec_exit ?_ | refine ec_condT rfl ?_ | refine ec_condF rfl ?_ | refine ec_condTH rfl (by assumption) ?_ | refine ec_condFH rfl (by assumption) ?_)
      | refine ek_seqN ?_ | refine ek_seqX ?_ | refine ek_blkN ?_ | refine ek_blkR ?_ | refine ek_blkX ?_ | refine ek_blkY rfl ?_)
    exact rnd_out (by rfl) (by simp) (scmp2 (by rfl) (by rfl) (by exact ⟨rfl, rfl, rfl⟩) (by rfl) (by first | rfl | (simp; done) | (simp [ints, prs]; done)) (by rfl) (by first | rfl | (simp; done) | (simp [ints, prs]; done)))

theorem lptv_ec (n b r : Nat) (hr : r < 65536) (x : Nat) (xs : List Nat) :
    LpS cx 49 0 m24_1 [(1, .ptr 0 0), (4, .emp), (5, .sl 1 0 (x :: xs).length), (6, .int .i64 (r : Nat)), (7, .int .i64 ((if allF (fun j => !(r &&& (([] : List Nat).getD j 0) == 0)) 0 (0) = true then 1 else 0) : Nat)), (8, .int .i64 (0 : Nat))] [⟨[.int .i64 n, .int .i64 b], 1, 0, some 0, true⟩, ⟨ints (x :: xs), 1, 1, some 0, false⟩] (⟨.exit 3, [(1, .ptr 0 0), (4, .emp), (5, .sl 1 0 (x :: xs).length), (6, .int .i64 (r : Nat)), (7, .int .i64 ((if allF (fun j => !(r &&& (([] : List Nat).getD j 0) == 0)) 0 (0) = true then 1 else 0) : Nat))], [⟨[.int .i64 n, .int .i64 b], 1, 0, some 0, true⟩, ⟨ints (x :: xs), 1, 1, some 0, false⟩]⟩ : Out).x (⟨.exit 3, [(1, .ptr 0 0), (4, .emp), (5, .sl 1 0 (x :: xs).length), (6, .int .i64 (r : Nat)), (7, .int .i64 ((if allF (fun j => !(r &&& (([] : List Nat).getD j 0) == 0)) 0 (0) = true then 1 else 0) : Nat))], [⟨[.int .i64 n, .int .i64 b], 1, 0, some 0, true⟩, ⟨ints (x :: xs), 1, 1, some 0, false⟩]⟩ : Out).e (⟨.exit 3, [(1, .ptr 0 0), (4, .emp), (5, .sl 1 0 (x :: xs).length), (6, .int .i64 (r : Nat)), (7, .int .i64 ((if allF (fun j => !(r &&& (([] : List Nat).getD j 0) == 0)) 0 (0) = true then 1 else 0) : Nat))], [⟨[.int .i64 n, .int .i64 b], 1, 0, some 0, true⟩, ⟨ints (x :: xs), 1, 1, some 0, false⟩]⟩ : Out).h := by
  refine lp_st (0) (fun _ => ()) (fun i _ => [(1, .ptr 0 0), (4, .emp), (5, .sl 1 0 (x :: xs).length), (6, .int .i64 (r : Nat)), (7, .int .i64 ((if allF (fun j => !(r &&& (([] : List Nat).getD j 0) == 0)) 0 (i) = true then 1 else 0) : Nat)), (8, .int .i64 (i : Nat))]) (fun i _ => [⟨[.int .i64 n, .int .i64 b], 1, 0, some 0, true⟩, ⟨ints (x :: xs), 1, 1, some 0, false⟩]) (fun _ => (⟨.exit 3, [(1, .ptr 0 0), (4, .emp), (5, .sl 1 0 (x :: xs).length), (6, .int .i64 (r : Nat)), (7, .int .i64 ((if allF (fun j => !(r &&& (([] : List Nat).getD j 0) == 0)) 0 (0) = true then 1 else 0) : Nat))], [⟨[.int .i64 n, .int .i64 b], 1, 0, some 0, true⟩, ⟨ints (x :: xs), 1, 1, some 0, false⟩]⟩ : Out)) ?_ ?_ (0) 0 (by omega)
  · intro i u_ hi hu_
    refine ⟨(), rfl, ?_⟩
    exact absurd hi (by simp)
  · intro u_ hu_
    have hlt : decide (((0 : Nat) : Int) < (0 : Nat)) = false := decide_eq_false (by omega)
    unfold m24_1
    repeat' (first
      | (refine g_op ?_; first
        | refine ep_mov rfl ?_ | refine ep_load1 rfl rfl rfl rfl ?_
        | refine ep_bin rfl rfl (by first | exact b_add (by omega) (by omega) | exact b_sub (by omega) (by omega) | exact b_and (by omega) (by omega) | exact b_or (by omega) (by omega) | exact b_shr (by omega) | exact b_shl (by omega) (by omega) | exact b_lss | exact b_leq | exact b_gtr | exact b_geq | exact b_eql | exact b_neq) ?_
        | refine ep_lenS rfl ?_ | refine ep_lenN rfl ?_ | refine ep_lenE rfl ?_ | refine sp_idx rfl rfl rfl (by omega) rfl ?_ | refine ep_loadS rfl rfl rfl (by first | exact ints_get (by omega) | exact zints_get (by omega) | exact fget (by omega) | assumption) ?_)
      | (refine g_ops ?_; first | refine eo_none ?_ | refine eo_nil ?_)
      | (refine g_code ?_; first | refine ec_seq ?_ | refine ec_region ?_ | refine ec_block ?_ | refine ec_skip ?_ | refine ec_exit ?_ | refine ec_condT rfl ?_ | refine ec_condF rfl ?_ | refine ec_condTH rfl (by assumption) ?_ | refine ec_condFH rfl (by assumption) ?_)
      | refine ek_seqN ?_ | refine ek_seqX ?_ | refine ek_blkN ?_ | refine ek_blkR ?_ | refine ek_blkX ?_ | refine ek_blkY rfl ?_)
    exact rnd_out (by rfl) (by simp) (scmp2 (by rfl) (by rfl) (by exact ⟨rfl, rfl, rfl⟩) (by rfl) (by first | rfl | (simp; done) | (simp [ints, prs]; done)) (by rfl) (by first | rfl | (simp; done) | (simp [ints, prs]; done)))

theorem lp24_0_e (n b : Nat) (hn : n ≤ 4) (o : Out) (ho : (match selm (fun _ => true) (bn (trP ([] : List Nat))) (R2 n) with | [] => (⟨.exit 1, [(1, .ptr 0 0), (5, .emp)], [⟨[.int .i64 n, .int .i64 b], 1, 0, some 0, true⟩]⟩ : Out) | x :: xs => ⟨.exit 1, [(1, .ptr 0 0), (5, .sl 1 0 (x :: xs).length)], [⟨[.int .i64 n, .int .i64 b], 1, 0, some 0, true⟩, ⟨ints (x :: xs), 1, 1, some 0, false⟩]⟩) = o) :
    LpS cx 49 0 m24_0 [(1, .ptr 0 0), (4, .emp), (5, .emp), (6, .int .i64 (0 : Nat))] [⟨[.int .i64 n, .int .i64 b], 1, 0, some 0, true⟩] o.x o.e o.h := by
  obtain ⟨h1, h2, h3, h4⟩ := shN hn
  subst ho
  refine lp_st (R2 n) (selm (fun _ => true) (bn (trP ([] : List Nat)))) (fun i s => match s with | [] => [(1, .ptr 0 0), (4, .emp), (5, .emp), (6, .int .i64 (i : Nat))] | x :: xs => [(1, .ptr 0 0), (4, .emp), (5, .sl 1 0 (x :: xs).length), (6, .int .i64 (i : Nat))]) (fun i s => match s with | [] => [⟨[.int .i64 n, .int .i64 b], 1, 0, some 0, true⟩] | x :: xs => [⟨[.int .i64 n, .int .i64 b], 1, 0, some 0, true⟩, ⟨ints (x :: xs), 1, 1, some 0, false⟩]) (fun s => match s with | [] => ⟨.exit 1, [(1, .ptr 0 0), (5, .emp)], [⟨[.int .i64 n, .int .i64 b], 1, 0, some 0, true⟩]⟩ | x :: xs => ⟨.exit 1, [(1, .ptr 0 0), (5, .sl 1 0 (x :: xs).length)], [⟨[.int .i64 n, .int .i64 b], 1, 0, some 0, true⟩, ⟨ints (x :: xs), 1, 1, some 0, false⟩]⟩) ?_ ?_ (R2 n) 0 (by omega)
  · intro i s hi hs
    have hlt : decide ((i : Int) < (R2 n : Nat)) = true := decide_eq_true (by omega)
    have hle : decide ((i : Int) ≤ (R2 n : Nat) - 1) = true := decide_eq_true (by omega)
    have hlen : s.length ≤ 16 := by have := selm_len (fun _ => true) (bn (trP ([] : List Nat))) i; rw [hs] at this; omega
    have hp : (fun _ => true) i = true := rfl
    have lpe := lptv_ee n b i (by omega)
    have lpc := fun (x : Nat) (xs : List Nat) => lptv_ec n b i (by omega) x xs
    rw [show (if allF (fun j => !(i &&& (([] : List Nat).getD j 0) == 0)) 0 0 = true then 1 else 0) = 1 from rfl] at lpe
    simp only [show (if allF (fun j => !(i &&& (([] : List Nat).getD j 0) == 0)) 0 0 = true then 1 else 0) = 1 from rfl] at lpc
    cases s with
    | nil =>
      refine ⟨[(bn (trP ([] : List Nat))) i], by rw [selm_t (p := fun _ => true) hp, hs]; try rfl, ?_⟩
      unfold m24_0
      repeat' (first
        | refine sc_loop lpe rfl rfl ⟨rfl, rfl, rfl⟩ rfl rfl rfl ?_
        | refine sc_loop (lpc _ _) rfl rfl ⟨rfl, rfl, rfl⟩ rfl rfl rfl ?_
        | (refine g_op ?_; first
          | refine ep_mov rfl ?_ | refine ep_load1 rfl rfl rfl rfl ?_ | refine ep_fieldAddr rfl ?_
          | refine ep_call0 rfl (by first | exact ev58 _ hn) rfl rfl ?_
          | refine sp_call rfl rfl rfl rfl (by first | exact ev58 _ hn) ⟨rfl, rfl, rfl, rfl⟩ rfl rfl rfl ?_
          | refine ep_bin rfl rfl (by first | exact b_add (by omega) (by omega) | exact b_sub (by omega) (by omega) | exact b_and (by omega) (by omega) | exact b_or (by omega) (by omega) | exact b_shr (by omega) | exact b_shl (by omega) (by omega) | exact b_lss | exact b_leq | exact b_gtr | exact b_geq | exact b_eql | exact b_neq) ?_
          | refine sp_bslice rfl rfl rfl rfl rfl ?_ | refine sp_push0 rfl (by first | exact .inl rfl | exact .inr rfl) rfl rfl rfl rfl rfl (by decide) rfl rfl rfl ?_ | refine sp_push rfl rfl rfl rfl rfl rfl rfl (by first | exact ints_len _ | exact prs_len _ _ | exact zints_len _) (by omega) (Nat.zero_le _) rfl rfl rfl rfl rfl ?_)
        | (refine g_ops ?_; first | refine eo_none ?_ | refine eo_nil ?_)
        | (refine g_code ?_; first | refine ec_seq ?_ | refine ec_region ?_ | refine ec_block ?_ | refine ec_skip ?_ | refine ec_exit ?_ | refine ec_condT rfl ?_ | refine ec_condF rfl ?_ | refine ec_condTH rfl (by assumption) ?_ | refine ec_condFH rfl (by assumption) ?_)
        | refine ek_seqN ?_ | refine ek_seqX ?_ | refine ek_seqR ?_ | refine ek_blkN ?_ | refine ek_blkR ?_ | refine ek_blkX ?_ | refine ek_blkY rfl ?_)
      exact rnd_on (by rfl) (scmp2 (by rfl) (by rfl) (by exact ⟨rfl, rfl, rfl⟩) (by rfl) (by first | rfl | (simp; done) | (simp [ints, prs, bn, trP, allF]; done)) (by rfl) (by first | rfl | (simp; done) | (simp [ints, prs, bn, trP, allF]; done)))
    | cons x xs =>
      refine ⟨(x :: xs) ++ [(bn (trP ([] : List Nat))) i], by rw [selm_t (p := fun _ => true) hp, hs]; try rfl, ?_⟩
      unfold m24_0
      repeat' (first
        | refine sc_loop lpe rfl rfl ⟨rfl, rfl, rfl⟩ rfl rfl rfl ?_
        | refine sc_loop (lpc _ _) rfl rfl ⟨rfl, rfl, rfl⟩ rfl rfl rfl ?_
        | (refine g_op ?_; first
          | refine ep_mov rfl ?_ | refine ep_load1 rfl rfl rfl rfl ?_ | refine ep_fieldAddr rfl ?_
          | refine ep_call0 rfl (by first | exact ev58 _ hn) rfl rfl ?_
          | refine sp_call rfl rfl rfl rfl (by first | exact ev58 _ hn) ⟨rfl, rfl, rfl, rfl⟩ rfl rfl rfl ?_
          | refine ep_bin rfl rfl (by first | exact b_add (by omega) (by omega) | exact b_sub (by omega) (by omega) | exact b_and (by omega) (by omega) | exact b_or (by omega) (by omega) | exact b_shr (by omega) | exact b_shl (by omega) (by omega) | exact b_lss | exact b_leq | exact b_gtr | exact b_geq | exact b_eql | exact b_neq) ?_
          | refine sp_bslice rfl rfl rfl rfl rfl ?_ | refine sp_push0 rfl (by first | exact .inl rfl | exact .inr rfl) rfl rfl rfl rfl rfl (by decide) rfl rfl rfl ?_ | refine sp_push rfl rfl rfl rfl rfl rfl rfl (by first | exact ints_len _ | exact prs_len _ _ | exact zints_len _) (by omega) (Nat.zero_le _) rfl rfl rfl rfl rfl ?_)
        | (refine g_ops ?_; first | refine eo_none ?_ | refine eo_nil ?_)
        | (refine g_code ?_; first | refine ec_seq ?_ | refine ec_region ?_ | refine ec_block ?_ | refine ec_skip ?_ | refine ec_exit ?_ | refine ec_condT rfl ?_ | refine ec_condF rfl ?_ | refine ec_condTH rfl (by assumption) ?_ | refine ec_condFH rfl (by assumption) ?_)
        | refine ek_seqN ?_ | refine ek_seqX ?_ | refine ek_seqR ?_ | refine ek_blkN ?_ | refine ek_blkR ?_ | refine ek_blkX ?_ | refine ek_blkY rfl ?_)
      exact rnd_on (by rfl) (scmp2 (by rfl) (by rfl) (by exact ⟨rfl, rfl, rfl⟩) (by rfl) (by first | rfl | (simp; done) | (simp [ints, prs, bn, trP, allF]; done)) (by rfl) (by first | rfl | (simp; done) | (simp [ints, prs, bn, trP, allF]; done)))
  · intro s hs
    have hlt : decide (((R2 n : Nat) : Int) < (R2 n : Nat)) = false := decide_eq_false (by omega)
    have hle : decide (((R2 n : Nat) : Int) ≤ (R2 n : Nat) - 1) = false := decide_eq_false (by omega)
    cases s with
    | nil =>
      unfold m24_0
      repeat' (first
        | (refine g_op ?_; first
          | refine ep_mov rfl ?_ | refine ep_load1 rfl rfl rfl rfl ?_ | refine ep_fieldAddr rfl ?_
          | refine ep_call0 rfl (by first | exact ev58 _ hn) rfl rfl ?_
          | refine sp_call rfl rfl rfl rfl (by first | exact ev58 _ hn) ⟨rfl, rfl, rfl, rfl⟩ rfl rfl rfl ?_
          | refine ep_bin rfl rfl (by first | exact b_add (by omega) (by omega) | exact b_sub (by omega) (by omega) | exact b_and (by omega) (by omega) | exact b_or (by omega) (by omega) | exact b_shr (by omega) | exact b_shl (by omega) (by omega) | exact b_lss | exact b_leq | exact b_gtr | exact b_geq | exact b_eql | exact b_neq) ?_
          | refine sp_bslice rfl rfl rfl rfl rfl ?_ | refine sp_push0 rfl (by first | exact .inl rfl | exact .inr rfl) rfl rfl rfl rfl rfl (by decide) rfl rfl rfl ?_ | refine sp_push rfl rfl rfl rfl rfl rfl rfl (by first | exact ints_len _ | exact prs_len _ _ | exact zints_len _) (by omega) (Nat.zero_le _) rfl rfl rfl rfl rfl ?_)
        | (refine g_ops ?_; first | refine eo_none ?_ | refine eo_nil ?_)
        | (refine g_code ?_; first | refine ec_seq ?_ | refine ec_region ?_ | refine ec_block ?_ | refine ec_skip ?_ | refine ec_exit ?_ | refine ec_condT rfl ?_ | refine ec_condF rfl ?_ | refine ec_condTH rfl (by assumption) ?_ | refine ec_condFH rfl (by assumption) ?_)
        | refine ek_seqN ?_ | refine ek_seqX ?_ | refine ek_seqR ?_ | refine ek_blkN ?_ | refine ek_blkR ?_ | refine ek_blkX ?_ | refine ek_blkY rfl ?_)
      exact rnd_out (by rfl) (by simp) (scmp2 (by rfl) (by rfl) (by exact ⟨rfl, rfl, rfl⟩) (by rfl) (by first | rfl | (simp; done) | (simp [ints, prs]; done)) (by rfl) (by first | rfl | (simp; done) | (simp [ints, prs]; done)))
    | cons x xs =>
      unfold m24_0
      repeat' (first
        | (refine g_op ?_; first
          | refine ep_mov rfl ?_ | refine ep_load1 rfl rfl rfl rfl ?_ | refine ep_fieldAddr rfl ?_
          | refine ep_call0 rfl (by first | exact ev58 _ hn) rfl rfl ?_
          | refine sp_call rfl rfl rfl rfl (by first | exact ev58 _ hn) ⟨rfl, rfl, rfl, rfl⟩ rfl rfl rfl ?_
          | refine ep_bin rfl rfl (by first | exact b_add (by omega) (by omega) | exact b_sub (by omega) (by omega) | exact b_and (by omega) (by omega) | exact b_or (by omega) (by omega) | exact b_shr (by omega) | exact b_shl (by omega) (by omega) | exact b_lss | exact b_leq | exact b_gtr | exact b_geq | exact b_eql | exact b_neq) ?_
          | refine sp_bslice rfl rfl rfl rfl rfl ?_ | refine sp_push0 rfl (by first | exact .inl rfl | exact .inr rfl) rfl rfl rfl rfl rfl (by decide) rfl rfl rfl ?_ | refine sp_push rfl rfl rfl rfl rfl rfl rfl (by first | exact ints_len _ | exact prs_len _ _ | exact zints_len _) (by omega) (Nat.zero_le _) rfl rfl rfl rfl rfl ?_)
        | (refine g_ops ?_; first | refine eo_none ?_ | refine eo_nil ?_)
        | (refine g_code ?_; first | refine ec_seq ?_ | refine ec_region ?_ | refine ec_block ?_ | refine ec_skip ?_ | refine ec_exit ?_ | refine ec_condT rfl ?_ | refine ec_condF rfl ?_ | refine ec_condTH rfl (by assumption) ?_ | refine ec_condFH rfl (by assumption) ?_)
        | refine ek_seqN ?_ | refine ek_seqX ?_ | refine ek_seqR ?_ | refine ek_blkN ?_ | refine ek_blkR ?_ | refine ek_blkX ?_ | refine ek_blkY rfl ?_)
      exact rnd_out (by rfl) (by simp) (scmp2 (by rfl) (by rfl) (by exact ⟨rfl, rfl, rfl⟩) (by rfl) (by first | rfl | (simp; done) | (simp [ints, prs]; done)) (by rfl) (by first | rfl | (simp; done) | (simp [ints, prs]; done)))

theorem lptv_ce (n b r : Nat) (hr : r < 65536) (y : Nat) (ys : List Nat) (hll : (y :: ys).length ≤ 16) (hl : ∀ j, j < (y :: ys).length → (y :: ys).getD j 0 < 65536) :
    LpS cx 49 0 m24_1 [(1, .ptr 0 0), (4, .sl 1 0 (y :: ys).length), (5, .emp), (6, .int .i64 (r : Nat)), (7, .int .i64 ((if allF (fun j => !(r &&& ((y :: ys).getD j 0) == 0)) 0 (0) = true then 1 else 0) : Nat)), (8, .int .i64 (0 : Nat))] [⟨[.int .i64 n, .int .i64 b], 1, 0, some 0, true⟩, ⟨ints (y :: ys), 1, 1, some 0, false⟩] (⟨.exit 3, [(1, .ptr 0 0), (4, .sl 1 0 (y :: ys).length), (5, .emp), (6, .int .i64 (r : Nat)), (7, .int .i64 ((if allF (fun j => !(r &&& ((y :: ys).getD j 0) == 0)) 0 ((y :: ys).length) = true then 1 else 0) : Nat))], [⟨[.int .i64 n, .int .i64 b], 1, 0, some 0, true⟩, ⟨ints (y :: ys), 1, 1, some 0, false⟩]⟩ : Out).x (⟨.exit 3, [(1, .ptr 0 0), (4, .sl 1 0 (y :: ys).length), (5, .emp), (6, .int .i64 (r : Nat)), (7, .int .i64 ((if allF (fun j => !(r &&& ((y :: ys).getD j 0) == 0)) 0 ((y :: ys).length) = true then 1 else 0) : Nat))], [⟨[.int .i64 n, .int .i64 b], 1, 0, some 0, true⟩, ⟨ints (y :: ys), 1, 1, some 0, false⟩]⟩ : Out).e (⟨.exit 3, [(1, .ptr 0 0), (4, .sl 1 0 (y :: ys).length), (5, .emp), (6, .int .i64 (r : Nat)), (7, .int .i64 ((if allF (fun j => !(r &&& ((y :: ys).getD j 0) == 0)) 0 ((y :: ys).length) = true then 1 else 0) : Nat))], [⟨[.int .i64 n, .int .i64 b], 1, 0, some 0, true⟩, ⟨ints (y :: ys), 1, 1, some 0, false⟩]⟩ : Out).h := by
  refine lp_st ((y :: ys).length) (fun _ => ()) (fun i _ => [(1, .ptr 0 0), (4, .sl 1 0 (y :: ys).length), (5, .emp), (6, .int .i64 (r : Nat)), (7, .int .i64 ((if allF (fun j => !(r &&& ((y :: ys).getD j 0) == 0)) 0 (i) = true then 1 else 0) : Nat)), (8, .int .i64 (i : Nat))]) (fun i _ => [⟨[.int .i64 n, .int .i64 b], 1, 0, some 0, true⟩, ⟨ints (y :: ys), 1, 1, some 0, false⟩]) (fun _ => (⟨.exit 3, [(1, .ptr 0 0), (4, .sl 1 0 (y :: ys).length), (5, .emp), (6, .int .i64 (r : Nat)), (7, .int .i64 ((if allF (fun j => !(r &&& ((y :: ys).getD j 0) == 0)) 0 ((y :: ys).length) = true then 1 else 0) : Nat))], [⟨[.int .i64 n, .int .i64 b], 1, 0, some 0, true⟩, ⟨ints (y :: ys), 1, 1, some 0, false⟩]⟩ : Out)) ?_ ?_ ((y :: ys).length) 0 (by omega)
  · intro i u_ hi hu_
    refine ⟨(), rfl, ?_⟩
    have hlt : decide ((i : Int) < ((y :: ys).length : Nat)) = true := decide_eq_true (by omega)
    have hgl := ints_get (l := y :: ys) (j := i) hi
    have hx := hl i hi
    have ba := b_and (x := r) (y := (y :: ys).getD i 0) (by omega) (by omega)
    have hq := ieq0 (r &&& (y :: ys).getD i 0)
    have hz := allF_s (fun j => !(r &&& ((y :: ys).getD j 0) == 0)) i
    cases hc : (r &&& (y :: ys).getD i 0 == 0)
    · rw [hc] at hq
      have hz2 : allF (fun j => !(r &&& ((y :: ys).getD j 0) == 0)) 0 (i + 1) = allF (fun j => !(r &&& ((y :: ys).getD j 0) == 0)) 0 i := by rw [hz, hc]; simp
      rw [hz2]
      unfold m24_1
      repeat' (first
        | refine ep_loadS rfl rfl rfl hgl ?_
        | (refine g_op ?_; first
          | refine ep_mov rfl ?_ | refine ep_load1 rfl rfl rfl rfl ?_
          | refine ep_bin rfl rfl (by first | exact ba | exact b_add (by omega) (by omega) | exact b_sub (by omega) (by omega) | exact b_and (by omega) (by omega) | exact b_or (by omega) (by omega) | exact b_shr (by omega) | exact b_shl (by omega) (by omega) | exact b_lss | exact b_leq | exact b_gtr | exact b_geq | exact b_eql | exact b_neq) ?_
          | refine ep_lenS rfl ?_ | refine ep_lenN rfl ?_ | refine ep_lenE rfl ?_ | refine sp_idx rfl rfl rfl (by omega) rfl ?_ | refine ep_loadS rfl rfl rfl (by first | exact ints_get (by omega) | exact zints_get (by omega) | exact fget (by omega) | assumption) ?_)
        | (refine g_ops ?_; first | refine eo_none ?_ | refine eo_nil ?_)
        | (refine g_code ?_; first | refine ec_seq ?_ | refine ec_region ?_ | refine ec_block ?_ | refine ec_skip ?_ | refine ec_exit ?_ | refine ec_condT rfl ?_ | refine ec_condF rfl ?_ | refine ec_condTH rfl (by assumption) ?_ | refine ec_condFH rfl (by assumption) ?_)
        | refine ek_seqN ?_ | refine ek_seqX ?_ | refine ek_blkN ?_ | refine ek_blkR ?_ | refine ek_blkX ?_ | refine ek_blkY rfl ?_)
      exact rnd_on (by rfl) (scmp2 (by rfl) (by rfl) (by exact ⟨rfl, rfl, rfl⟩) (by rfl) (by first | rfl | (simp; done) | (simp [ints, prs]; done)) (by rfl) (by first | rfl | (simp; done) | (simp [ints, prs]; done)))
    rw [hc] at hq
    have hz2 : allF (fun j => !(r &&& ((y :: ys).getD j 0) == 0)) 0 (i + 1) = false := by rw [hz, hc]; simp
    rw [hz2]
    unfold m24_1
    repeat' (first
      | refine ep_loadS rfl rfl rfl hgl ?_
      | (refine g_op ?_; first
        | refine ep_mov rfl ?_ | refine ep_load1 rfl rfl rfl rfl ?_
        | refine ep_bin rfl rfl (by first | exact ba | exact b_add (by omega) (by omega) | exact b_sub (by omega) (by omega) | exact b_and (by omega) (by omega) | exact b_or (by omega) (by omega) | exact b_shr (by omega) | exact b_shl (by omega) (by omega) | exact b_lss | exact b_leq | exact b_gtr | exact b_geq | exact b_eql | exact b_neq) ?_
        | refine ep_lenS rfl ?_ | refine ep_lenN rfl ?_ | refine ep_lenE rfl ?_ | refine sp_idx rfl rfl rfl (by omega) rfl ?_ | refine ep_loadS rfl rfl rfl (by first | exact ints_get (by omega) | exact zints_get (by omega) | exact fget (by omega) | assumption) ?_)
      | (refine g_ops ?_; first | refine eo_none ?_ | refine eo_nil ?_)
      | (refine g_code ?_; first | refine ec_seq ?_ | refine ec_region ?_ | refine ec_block ?_ | refine ec_skip ?_ | refine ec_exit ?_ | refine ec_condT rfl ?_ | refine ec_condF rfl ?_ | refine ec_condTH rfl (by assumption) ?_ | refine ec_condFH rfl (by assumption) ?_)
      | refine ek_seqN ?_ | refine ek_seqX ?_ | refine ek_blkN ?_ | refine ek_blkR ?_ | refine ek_blkX ?_ | refine ek_blkY rfl ?_)
    exact rnd_on (by rfl) (scmp2 (by rfl) (by rfl) (by exact ⟨rfl, rfl, rfl⟩) (by rfl) (by first | rfl | (simp; done) | (simp [ints, prs]; done)) (by rfl) (by first | rfl | (simp; done) | (simp [ints, prs]; done)))
  · intro u_ hu_
    have hlt : decide ((((y :: ys).length : Nat) : Int) < ((y :: ys).length : Nat)) = false := decide_eq_false (by omega)
    unfold m24_1
    repeat' (first
      | (refine g_op ?_; first
        | refine ep_mov rfl ?_ | refine ep_load1 rfl rfl rfl rfl ?_
        | refine ep_bin rfl rfl (by first | exact b_add (by omega) (by omega) | exact b_sub (by omega) (by omega) | exact b_and (by omega) (by omega) | exact b_or (by omega) (by omega) | exact b_shr (by omega) | exact b_shl (by omega) (by omega) | exact b_lss | exact b_leq | exact b_gtr | exact b_geq | exact b_eql | exact b_neq) ?_
        | refine ep_lenS rfl ?_ | refine ep_lenN rfl ?_ | refine ep_lenE rfl ?_ | refine sp_idx rfl rfl rfl (by omega) rfl ?_ | refine ep_loadS rfl rfl rfl (by first | exact ints_get (by omega) | exact zints_get (by omega) | exact fget (by omega) | assumption) ?_)
      | (refine g_ops ?_; first | refine eo_none ?_ | refine eo_nil ?_)
      | (refine g_code ?_; first | refine ec_seq ?_ | refine ec_region ?_ | refine ec_block ?_ | refine ec_skip ?_ | refine ec_exit ?_ | refine ec_condT rfl ?_ | refine ec_condF rfl ?_ | refine ec_condTH rfl (by assumption) ?_ | refine ec_condFH rfl (by assumption) ?_)
      | refine ek_seqN ?_ | refine ek_seqX ?_ | refine ek_blkN ?_ | refine ek_blkR ?_ | refine ek_blkX ?_ | refine ek_blkY rfl ?_)
    exact rnd_out (by rfl) (by simp) (scmp2 (by rfl) (by rfl) (by exact ⟨rfl, rfl, rfl⟩) (by rfl) (by first | rfl | (simp; done) | (simp [ints, prs]; done)) (by rfl) (by first | rfl | (simp; done) | (simp [ints, prs]; done)))

theorem lptv_cc (n b r : Nat) (hr : r < 65536) (y : Nat) (ys : List Nat) (hll : (y :: ys).length ≤ 16) (hl : ∀ j, j < (y :: ys).length → (y :: ys).getD j 0 < 65536) (x : Nat) (xs : List Nat) :
    LpS cx 49 0 m24_1 [(1, .ptr 0 0), (4, .sl 1 0 (y :: ys).length), (5, .sl 2 0 (x :: xs).length), (6, .int .i64 (r : Nat)), (7, .int .i64 ((if allF (fun j => !(r &&& ((y :: ys).getD j 0) == 0)) 0 (0) = true then 1 else 0) : Nat)), (8, .int .i64 (0 : Nat))] [⟨[.int .i64 n, .int .i64 b], 1, 0, some 0, true⟩, ⟨ints (y :: ys), 1, 1, some 0, false⟩, ⟨ints (x :: xs), 1, 2, some 0, false⟩] (⟨.exit 3, [(1, .ptr 0 0), (4, .sl 1 0 (y :: ys).length), (5, .sl 2 0 (x :: xs).length), (6, .int .i64 (r : Nat)), (7, .int .i64 ((if allF (fun j => !(r &&& ((y :: ys).getD j 0) == 0)) 0 ((y :: ys).length) = true then 1 else 0) : Nat))], [⟨[.int .i64 n, .int .i64 b], 1, 0, some 0, true⟩, ⟨ints (y :: ys), 1, 1, some 0, false⟩, ⟨ints (x :: xs), 1, 2, some 0, false⟩]⟩ : Out).x (⟨.exit 3, [(1, .ptr 0 0), (4, .sl 1 0 (y :: ys).length), (5, .sl 2 0 (x :: xs).length), (6, .int .i64 (r : Nat)), (7, .int .i64 ((if allF (fun j => !(r &&& ((y :: ys).getD j 0) == 0)) 0 ((y :: ys).length) = true then 1 else 0) : Nat))], [⟨[.int .i64 n, .int .i64 b], 1, 0, some 0, true⟩, ⟨ints (y :: ys), 1, 1, some 0, false⟩, ⟨ints (x :: xs), 1, 2, some 0, false⟩]⟩ : Out).e (⟨.exit 3, [(1, .ptr 0 0), (4, .sl 1 0 (y :: ys).length), (5, .sl 2 0 (x :: xs).length), (6, .int .i64 (r : Nat)), (7, .int .i64 ((if allF (fun j => !(r &&& ((y :: ys).getD j 0) == 0)) 0 ((y :: ys).length) = true then 1 else 0) : Nat))], [⟨[.int .i64 n, .int .i64 b], 1, 0, some 0, true⟩, ⟨ints (y :: ys), 1, 1, some 0, false⟩, ⟨ints (x :: xs), 1, 2, some 0, false⟩]⟩ : Out).h := by
  refine lp_st ((y :: ys).length) (fun _ => ()) (fun i _ => [(1, .ptr 0 0), (4, .sl 1 0 (y :: ys).length), (5, .sl 2 0 (x :: xs).length), (6, .int .i64 (r : Nat)), (7, .int .i64 ((if allF (fun j => !(r &&& ((y :: ys).getD j 0) == 0)) 0 (i) = true then 1 else 0) : Nat)), (8, .int .i64 (i : Nat))]) (fun i _ => [⟨[.int .i64 n, .int .i64 b], 1, 0, some 0, true⟩, ⟨ints (y :: ys), 1, 1, some 0, false⟩, ⟨ints (x :: xs), 1, 2, some 0, false⟩]) (fun _ => (⟨.exit 3, [(1, .ptr 0 0), (4, .sl 1 0 (y :: ys).length), (5, .sl 2 0 (x :: xs).length), (6, .int .i64 (r : Nat)), (7, .int .i64 ((if allF (fun j => !(r &&& ((y :: ys).getD j 0) == 0)) 0 ((y :: ys).length) = true then 1 else 0) : Nat))], [⟨[.int .i64 n, .int .i64 b], 1, 0, some 0, true⟩, ⟨ints (y :: ys), 1, 1, some 0, false⟩, ⟨ints (x :: xs), 1, 2, some 0, false⟩]⟩ : Out)) ?_ ?_ ((y :: ys).length) 0 (by omega)
  · intro i u_ hi hu_
    refine ⟨(), rfl, ?_⟩
    have hlt : decide ((i : Int) < ((y :: ys).length : Nat)) = true := decide_eq_true (by omega)
    have hgl := ints_get (l := y :: ys) (j := i) hi
    have hx := hl i hi
    have ba := b_and (x := r) (y := (y :: ys).getD i 0) (by omega) (by omega)
    have hq := ieq0 (r &&& (y :: ys).getD i 0)
    have hz := allF_s (fun j => !(r &&& ((y :: ys).getD j 0) == 0)) i
    cases hc : (r &&& (y :: ys).getD i 0 == 0)
    · rw [hc] at hq
      have hz2 : allF (fun j => !(r &&& ((y :: ys).getD j 0) == 0)) 0 (i + 1) = allF (fun j => !(r &&& ((y :: ys).getD j 0) == 0)) 0 i := by rw [hz, hc]; simp
      rw [hz2]
      unfold m24_1
      repeat' (first
        | refine ep_loadS rfl rfl rfl hgl ?_
        | (refine g_op ?_; first
          | refine ep_mov rfl ?_ | refine ep_load1 rfl rfl rfl rfl ?_
          | refine ep_bin rfl rfl (by first | exact ba | exact b_add (by omega) (by omega) | exact b_sub (by omega) (by omega) | exact b_and (by omega) (by omega) | exact b_or (by omega) (by omega) | exact b_shr (by omega) | exact b_shl (by omega) (by omega) | exact b_lss | exact b_leq | exact b_gtr | exact b_geq | exact b_eql | exact b_neq) ?_
          | refine ep_lenS rfl ?_ | refine ep_lenN rfl ?_ | refine ep_lenE rfl ?_ | refine sp_idx rfl rfl rfl (by omega) rfl ?_ | refine ep_loadS rfl rfl rfl (by first | exact ints_get (by omega) | exact zints_get (by omega) | exact fget (by omega) | assumption) ?_)
        | (refine g_ops ?_; first | refine eo_none ?_ | refine eo_nil ?_)
        | (refine g_code ?_; first | refine ec_seq ?_ | refine ec_region ?_ | refine ec_block ?_ | refine ec_skip ?_ | refine ec_exit ?_ | refine ec_condT rfl ?_ | refine ec_condF rfl ?_ | refine ec_condTH rfl (by assumption) ?_ | refine ec_condFH rfl (by assumption) ?_)
        | refine ek_seqN ?_ | refine ek_seqX ?_ | refine ek_blkN ?_ | refine ek_blkR ?_ | refine ek_blkX ?_ | refine ek_blkY rfl ?_)
      exact rnd_on (by rfl) (scmp2 (by rfl) (by rfl) (by exact ⟨rfl, rfl, rfl⟩) (by rfl) (by first | rfl | (simp; done) | (simp [ints, prs]; done)) (by rfl) (by first | rfl | (simp; done) | (simp [ints, prs]; done)))
    rw [hc] at hq
    have hz2 : allF (fun j => !(r &&& ((y :: ys).getD j 0) == 0)) 0 (i + 1) = false := by rw [hz, hc]; simp
    rw [hz2]
    unfold m24_1
    repeat' (first
      | refine ep_loadS rfl rfl rfl hgl ?_
      | (refine g_op ?_; first
        | refine ep_mov rfl ?_ | refine ep_load1 rfl rfl rfl rfl ?_
        | refine ep_bin rfl rfl (by first | exact ba | exact b_add (by omega) (by omega) | exact b_sub (by omega) (by omega) | exact b_and (by omega) (by omega) | exact b_or (by omega) (by omega) | exact b_shr (by omega) | exact b_shl (by omega) (by omega) | exact b_lss | exact b_leq | exact b_gtr | exact b_geq | exact b_eql | exact b_neq) ?_
        | refine ep_lenS rfl ?_ | refine ep_lenN rfl ?_ | refine ep_lenE rfl ?_ | refine sp_idx rfl rfl rfl (by omega) rfl ?_ | refine ep_loadS rfl rfl rfl (by first | exact ints_get (by omega) | exact zints_get (by omega) | exact fget (by omega) | assumption) ?_)
      | (refine g_ops ?_; first | refine eo_none ?_ | refine eo_nil ?_)
      | (refine g_code ?_; first | refine ec_seq ?_ | refine ec_region ?_ | refine ec_block ?_ | refine ec_skip ?_ | refine ec_exit ?_ | refine ec_condT rfl ?_ | refine ec_condF rfl ?_ | refine ec_condTH rfl (by assumption) ?_ | refine ec_condFH rfl (by assumption) ?_)
      | refine ek_seqN ?_ | refine ek_seqX ?_ | refine ek_blkN ?_ | refine ek_blkR ?_ | refine ek_blkX ?_ | refine ek_blkY rfl ?_)
    exact rnd_on (by rfl) (scmp2 (by rfl) (by rfl) (by exact ⟨rfl, rfl, rfl⟩) (by rfl) (by first | rfl | (simp; done) | (simp [ints, prs]; done)) (by rfl) (by first | rfl | (simp; done) | (simp [ints, prs]; done)))
  · intro u_ hu_
    have hlt : decide ((((y :: ys).length : Nat) : Int) < ((y :: ys).length : Nat)) = false := decide_eq_false (by omega)
    unfold m24_1
    repeat' (first
      | (refine g_op ?_; first
        | refine ep_mov rfl ?_ | refine ep_load1 rfl rfl rfl rfl ?_
        | refine ep_bin rfl rfl (by first | exact b_add (by omega) (by omega) | exact b_sub (by omega) (by omega) | exact b_and (by omega) (by omega) | exact b_or (by omega) (by omega) | exact b_shr (by omega) | exact b_shl (by omega) (by omega) | exact b_lss | exact b_leq | exact b_gtr | exact b_geq | exact b_eql | exact b_neq) ?_
        | refine ep_lenS rfl ?_ | refine ep_lenN rfl ?_ | refine ep_lenE rfl ?_ | refine sp_idx rfl rfl rfl (by omega) rfl ?_ | refine ep_loadS rfl rfl rfl (by first | exact ints_get (by omega) | exact zints_get (by omega) | exact fget (by omega) | assumption) ?_)
      | (refine g_ops ?_; first | refine eo_none ?_ | refine eo_nil ?_)
      | (refine g_code ?_; first | refine ec_seq ?_ | refine ec_region ?_ | refine ec_block ?_ | refine ec_skip ?_ | refine ec_exit ?_ | refine ec_condT rfl ?_ | refine ec_condF rfl ?_ | refine ec_condTH rfl (by assumption) ?_ | refine ec_condFH rfl (by assumption) ?_)
      | refine ek_seqN ?_ | refine ek_seqX ?_ | refine ek_blkN ?_ | refine ek_blkR ?_ | refine ek_blkX ?_ | refine ek_blkY rfl ?_)
    exact rnd_out (by rfl) (by simp) (scmp2 (by rfl) (by rfl) (by exact ⟨rfl, rfl, rfl⟩) (by rfl) (by first | rfl | (simp; done) | (simp [ints, prs]; done)) (by rfl) (by first | rfl | (simp; done) | (simp [ints, prs]; done)))

theorem lp24_0_c (n b : Nat) (hn : n ≤ 4) (y : Nat) (ys : List Nat) (hll : (y :: ys).length ≤ 16) (hl : ∀ j, j < (y :: ys).length → (y :: ys).getD j 0 < 65536) (o : Out) (ho : (match selm (fun _ => true) (bn (trP (y :: ys))) (R2 n) with | [] => (⟨.exit 1, [(1, .ptr 0 0), (5, .emp)], [⟨[.int .i64 n, .int .i64 b], 1, 0, some 0, true⟩]⟩ : Out) | x :: xs => ⟨.exit 1, [(1, .ptr 0 0), (5, .sl 1 0 (x :: xs).length)], [⟨[.int .i64 n, .int .i64 b], 1, 0, some 0, true⟩, ⟨ints (x :: xs), 1, 1, some 0, false⟩]⟩) = o) :
    LpS cx 49 0 m24_0 [(1, .ptr 0 0), (4, .sl 1 0 (y :: ys).length), (5, .emp), (6, .int .i64 (0 : Nat))] [⟨[.int .i64 n, .int .i64 b], 1, 0, some 0, true⟩, ⟨ints (y :: ys), 1, 1, some 0, false⟩] o.x o.e o.h := by
  obtain ⟨h1, h2, h3, h4⟩ := shN hn
  subst ho
  refine lp_st (R2 n) (selm (fun _ => true) (bn (trP (y :: ys)))) (fun i s => match s with | [] => [(1, .ptr 0 0), (4, .sl 1 0 (y :: ys).length), (5, .emp), (6, .int .i64 (i : Nat))] | x :: xs => [(1, .ptr 0 0), (4, .sl 1 0 (y :: ys).length), (5, .sl 2 0 (x :: xs).length), (6, .int .i64 (i : Nat))]) (fun i s => match s with | [] => [⟨[.int .i64 n, .int .i64 b], 1, 0, some 0, true⟩, ⟨ints (y :: ys), 1, 1, some 0, false⟩] | x :: xs => [⟨[.int .i64 n, .int .i64 b], 1, 0, some 0, true⟩, ⟨ints (y :: ys), 1, 1, some 0, false⟩, ⟨ints (x :: xs), 1, 2, some 0, false⟩]) (fun s => match s with | [] => ⟨.exit 1, [(1, .ptr 0 0), (5, .emp)], [⟨[.int .i64 n, .int .i64 b], 1, 0, some 0, true⟩]⟩ | x :: xs => ⟨.exit 1, [(1, .ptr 0 0), (5, .sl 1 0 (x :: xs).length)], [⟨[.int .i64 n, .int .i64 b], 1, 0, some 0, true⟩, ⟨ints (x :: xs), 1, 1, some 0, false⟩]⟩) ?_ ?_ (R2 n) 0 (by omega)
  · intro i s hi hs
    have hlt : decide ((i : Int) < (R2 n : Nat)) = true := decide_eq_true (by omega)
    have hle : decide ((i : Int) ≤ (R2 n : Nat) - 1) = true := decide_eq_true (by omega)
    have hlen : s.length ≤ 16 := by have := selm_len (fun _ => true) (bn (trP (y :: ys))) i; rw [hs] at this; omega
    have hp : (fun _ => true) i = true := rfl
    have lpe := lptv_ce n b i (by omega) y ys hll hl
    have lpc := fun (x : Nat) (xs : List Nat) => lptv_cc n b i (by omega) y ys hll hl x xs
    rw [show (if allF (fun j => !(i &&& ((y :: ys).getD j 0) == 0)) 0 0 = true then 1 else 0) = 1 from rfl] at lpe
    simp only [show (if allF (fun j => !(i &&& ((y :: ys).getD j 0) == 0)) 0 0 = true then 1 else 0) = 1 from rfl] at lpc
    rw [show (if allF (fun j => !(i &&& ((y :: ys).getD j 0) == 0)) 0 (y :: ys).length = true then 1 else 0) = bn (trP (y :: ys)) i from rfl] at lpe
    simp only [show (if allF (fun j => !(i &&& ((y :: ys).getD j 0) == 0)) 0 (y :: ys).length = true then 1 else 0) = bn (trP (y :: ys)) i from rfl] at lpc
    cases s with
    | nil =>
      refine ⟨[(bn (trP (y :: ys))) i], by rw [selm_t (p := fun _ => true) hp, hs]; try rfl, ?_⟩
      unfold m24_0
      repeat' (first
        | refine sc_loop lpe rfl rfl ⟨rfl, rfl, rfl⟩ rfl rfl rfl ?_
        | refine sc_loop (lpc _ _) rfl rfl ⟨rfl, rfl, rfl⟩ rfl rfl rfl ?_
        | (refine g_op ?_; first
          | refine ep_mov rfl ?_ | refine ep_load1 rfl rfl rfl rfl ?_ | refine ep_fieldAddr rfl ?_
          | refine ep_call0 rfl (by first | exact ev58 _ hn) rfl rfl ?_
          | refine sp_call rfl rfl rfl rfl (by first | exact ev58 _ hn) ⟨rfl, rfl, rfl, rfl⟩ rfl rfl rfl ?_
          | refine ep_bin rfl rfl (by first | exact b_add (by omega) (by omega) | exact b_sub (by omega) (by omega) | exact b_and (by omega) (by omega) | exact b_or (by omega) (by omega) | exact b_shr (by omega) | exact b_shl (by omega) (by omega) | exact b_lss | exact b_leq | exact b_gtr | exact b_geq | exact b_eql | exact b_neq) ?_
          | refine sp_bslice rfl rfl rfl rfl rfl ?_ | refine sp_push0 rfl (by first | exact .inl rfl | exact .inr rfl) rfl rfl rfl rfl rfl (by decide) rfl rfl rfl ?_ | refine sp_push rfl rfl rfl rfl rfl rfl rfl (by first | exact ints_len _ | exact prs_len _ _ | exact zints_len _) (by omega) (Nat.zero_le _) rfl rfl rfl rfl rfl ?_)
        | (refine g_ops ?_; first | refine eo_none ?_ | refine eo_nil ?_)
        | (refine g_code ?_; first | refine ec_seq ?_ | refine ec_region ?_ | refine ec_block ?_ | refine ec_skip ?_ | refine ec_exit ?_ | refine ec_condT rfl ?_ | refine ec_condF rfl ?_ | refine ec_condTH rfl (by assumption) ?_ | refine ec_condFH rfl (by assumption) ?_)
        | refine ek_seqN ?_ | refine ek_seqX ?_ | refine ek_seqR ?_ | refine ek_blkN ?_ | refine ek_blkR ?_ | refine ek_blkX ?_ | refine ek_blkY rfl ?_)
      exact rnd_on (by rfl) (scmp2 (by rfl) (by rfl) (by exact ⟨rfl, rfl, rfl⟩) (by rfl) (by first | rfl | (simp; done) | (simp [ints, prs]; done)) (by rfl) (by first | rfl | (simp; done) | (simp [ints, prs]; done)))
    | cons x xs =>
      refine ⟨(x :: xs) ++ [(bn (trP (y :: ys))) i], by rw [selm_t (p := fun _ => true) hp, hs]; try rfl, ?_⟩
      unfold m24_0
      repeat' (first
        | refine sc_loop lpe rfl rfl ⟨rfl, rfl, rfl⟩ rfl rfl rfl ?_
        | refine sc_loop (lpc _ _) rfl rfl ⟨rfl, rfl, rfl⟩ rfl rfl rfl ?_
        | (refine g_op ?_; first
          | refine ep_mov rfl ?_ | refine ep_load1 rfl rfl rfl rfl ?_ | refine ep_fieldAddr rfl ?_
          | refine ep_call0 rfl (by first | exact ev58 _ hn) rfl rfl ?_
          | refine sp_call rfl rfl rfl rfl (by first | exact ev58 _ hn) ⟨rfl, rfl, rfl, rfl⟩ rfl rfl rfl ?_
          | refine ep_bin rfl rfl (by first | exact b_add (by omega) (by omega) | exact b_sub (by omega) (by omega) | exact b_and (by omega) (by omega) | exact b_or (by omega) (by omega) | exact b_shr (by omega) | exact b_shl (by omega) (by omega) | exact b_lss | exact b_leq | exact b_gtr | exact b_geq | exact b_eql | exact b_neq) ?_
          | refine sp_bslice rfl rfl rfl rfl rfl ?_ | refine sp_push0 rfl (by first | exact .inl rfl | exact .inr rfl) rfl rfl rfl rfl rfl (by decide) rfl rfl rfl ?_ | refine sp_push rfl rfl rfl rfl rfl rfl rfl (by first | exact ints_len _ | exact prs_len _ _ | exact zints_len _) (by omega) (Nat.zero_le _) rfl rfl rfl rfl rfl ?_)
        | (refine g_ops ?_; first | refine eo_none ?_ | refine eo_nil ?_)
        | (refine g_code ?_; first | refine ec_seq ?_ | refine ec_region ?_ | refine ec_block ?_ | refine ec_skip ?_ | refine ec_exit ?_ | refine ec_condT rfl ?_ | refine ec_condF rfl ?_ | refine ec_condTH rfl (by assumption) ?_ | refine ec_condFH rfl (by assumption) ?_)
        | refine ek_seqN ?_ | refine ek_seqX ?_ | refine ek_seqR ?_ | refine ek_blkN ?_ | refine ek_blkR ?_ | refine ek_blkX ?_ | refine ek_blkY rfl ?_)
      exact rnd_on (by rfl) (scmp2 (by rfl) (by rfl) (by exact ⟨rfl, rfl, rfl⟩) (by rfl) (by first | rfl | (simp; done) | (simp [ints, prs]; done)) (by rfl) (by first | rfl | (simp; done) | (simp [ints, prs]; done)))
  · intro s hs
    have hlt : decide (((R2 n : Nat) : Int) < (R2 n : Nat)) = false := decide_eq_false (by omega)
    have hle : decide (((R2 n : Nat) : Int) ≤ (R2 n : Nat) - 1) = false := decide_eq_false (by omega)
    cases s with
    | nil =>
      unfold m24_0
      repeat' (first
        | (refine g_op ?_; first
          | refine ep_mov rfl ?_ | refine ep_load1 rfl rfl rfl rfl ?_ | refine ep_fieldAddr rfl ?_
          | refine ep_call0 rfl (by first | exact ev58 _ hn) rfl rfl ?_
          | refine sp_call rfl rfl rfl rfl (by first | exact ev58 _ hn) ⟨rfl, rfl, rfl, rfl⟩ rfl rfl rfl ?_
          | refine ep_bin rfl rfl (by first | exact b_add (by omega) (by omega) | exact b_sub (by omega) (by omega) | exact b_and (by omega) (by omega) | exact b_or (by omega) (by omega) | exact b_shr (by omega) | exact b_shl (by omega) (by omega) | exact b_lss | exact b_leq | exact b_gtr | exact b_geq | exact b_eql | exact b_neq) ?_
          | refine sp_bslice rfl rfl rfl rfl rfl ?_ | refine sp_push0 rfl (by first | exact .inl rfl | exact .inr rfl) rfl rfl rfl rfl rfl (by decide) rfl rfl rfl ?_ | refine sp_push rfl rfl rfl rfl rfl rfl rfl (by first | exact ints_len _ | exact prs_len _ _ | exact zints_len _) (by omega) (Nat.zero_le _) rfl rfl rfl rfl rfl ?_)
        | (refine g_ops ?_; first | refine eo_none ?_ | refine eo_nil ?_)
        | (refine g_code ?_; first | refine ec_seq ?_ | refine ec_region ?_ | refine ec_block ?_ | refine ec_skip ?_ | refine ec_exit ?_ | refine ec_condT rfl ?_ | refine ec_condF rfl ?_ | refine ec_condTH rfl (by assumption) ?_ | refine ec_condFH rfl (by assumption) ?_)
        | refine ek_seqN ?_ | refine ek_seqX ?_ | refine ek_seqR ?_ | refine ek_blkN ?_ | refine ek_blkR ?_ | refine ek_blkX ?_ | refine ek_blkY rfl ?_)
      exact rnd_out (by rfl) (by simp) (scmp2 (by rfl) (by rfl) (by exact ⟨rfl, rfl, rfl⟩) (by rfl) (by first | rfl | (simp; done) | (simp [ints, prs]; done)) (by rfl) (by first | rfl | (simp; done) | (simp [ints, prs]; done)))
    | cons x xs =>
      unfold m24_0
      repeat' (first
        | (refine g_op ?_; first
          | refine ep_mov rfl ?_ | refine ep_load1 rfl rfl rfl rfl ?_ | refine ep_fieldAddr rfl ?_
          | refine ep_call0 rfl (by first | exact ev58 _ hn) rfl rfl ?_
          | refine sp_call rfl rfl rfl rfl (by first | exact ev58 _ hn) ⟨rfl, rfl, rfl, rfl⟩ rfl rfl rfl ?_
          | refine ep_bin rfl rfl (by first | exact b_add (by omega) (by omega) | exact b_sub (by omega) (by omega) | exact b_and (by omega) (by omega) | exact b_or (by omega) (by omega) | exact b_shr (by omega) | exact b_shl (by omega) (by omega) | exact b_lss | exact b_leq | exact b_gtr | exact b_geq | exact b_eql | exact b_neq) ?_
          | refine sp_bslice rfl rfl rfl rfl rfl ?_ | refine sp_push0 rfl (by first | exact .inl rfl | exact .inr rfl) rfl rfl rfl rfl rfl (by decide) rfl rfl rfl ?_ | refine sp_push rfl rfl rfl rfl rfl rfl rfl (by first | exact ints_len _ | exact prs_len _ _ | exact zints_len _) (by omega) (Nat.zero_le _) rfl rfl rfl rfl rfl ?_)
        | (refine g_ops ?_; first | refine eo_none ?_ | refine eo_nil ?_)
        | (refine g_code ?_; first | refine ec_seq ?_ | refine ec_region ?_ | refine ec_block ?_ | refine ec_skip ?_ | refine ec_exit ?_ | refine ec_condT rfl ?_ | refine ec_condF rfl ?_ | refine ec_condTH rfl (by assumption) ?_ | refine ec_condFH rfl (by assumption) ?_)
        | refine ek_seqN ?_ | refine ek_seqX ?_ | refine ek_seqR ?_ | refine ek_blkN ?_ | refine ek_blkR ?_ | refine ek_blkX ?_ | refine ek_blkY rfl ?_)
      exact rnd_out (by rfl) (by simp) (scmp2 (by rfl) (by rfl) (by exact ⟨rfl, rfl, rfl⟩) (by rfl) (by first | rfl | (simp; done) | (simp [ints, prs]; done)) (by rfl) (by first | rfl | (simp; done) | (simp [ints, prs]; done)))

theorem ev24 (n b : Nat) (a1 : n ≤ 4) (a3 : b < 65536) (hmo : monoB n b = true) (L M : List Nat) (hL : selm (enP n b 1 belT) idn (R2 n) = L) (hM : selm (enP n (pk (bn (trP L)) (R2 n)) 1 belT) idn (R2 n) = M) (i2 : Ev cx 53 [.agg [.int .i64 n, .int .i64 b]] [] (.bool true) []) :
    Ev cx 24 [.agg [.int .i64 n, .int .i64 b]] [] (.tup [slV .emp 0 M, .int .i64 0]) (slH 0 1 ints M) := by
  obtain ⟨h1, h2, h3, h4⟩ := shN a1
  have e2 := ev61 n b a1 a3
  rw [hmo] at e2
  have e3 := ev54_t n b 1 a1 a3
  have hle := selm_len (enP n b 1 belT) idn (R2 n)
  have hlt := fun j hj => (selm_lt (p := enP n b 1 belT) (n := R2 n) (j := j) hj).1
  rw [hL] at e3 hle hlt
  cases L with
  | nil =>
    obtain ⟨k1, k2⟩ := selm_all (g := bn (trP ([] : List Nat))) (R2 n)
    have e5 := fun p => ev62 n p (selm (fun _ => true) (bn (trP ([] : List Nat))) (R2 n)) a1 (by omega) (fun r hr => by rw [k2 r hr]; exact bn_le _ r)
    rw [show pk (fun r => (selm (fun _ => true) (bn (trP ([] : List Nat))) (R2 n)).getD r 0) (R2 n) = pk (bn (trP ([] : List Nat))) (R2 n) from pk_congr fun r hr => k2 r hr] at e5
    have hpl := pk_lt (g := bn (trP ([] : List Nat))) (n := R2 n) fun r _ => bn_le _ r
    have e6 := ev54_t n (pk (bn (trP ([] : List Nat))) (R2 n)) 1 a1 (by omega)
    rw [hM] at e6
    cases hs : selm (fun _ => true) (bn (trP ([] : List Nat))) (R2 n) with
    | nil => rw [hs] at k1; simp at k1; omega
    | cons x xs =>
      rw [hs] at e5
      have lp := lp24_0_e n b a1 _ (by rw [hs])
      cases M with
      | nil =>
        refine has24.eev rfl rfl ?_
        unfold m24
        repeat' (first
          | refine sc_loop lp rfl rfl ⟨rfl, rfl, rfl⟩ rfl rfl rfl ?_
          | (refine g_op ?_; first
            | refine ep_mov rfl ?_ | refine ep_load1 rfl rfl rfl rfl ?_ | refine ep_fieldAddr rfl ?_ | refine sp_loadN rfl rfl rfl rfl rfl ?_
            | refine ep_call0 rfl (by first | exact i2 | exact e2 | exact e3 | exact e5 _ | exact e6) rfl rfl ?_
            | refine sp_call rfl rfl rfl rfl (by first | exact i2 | exact e2 | exact e3 | exact e5 _ | exact e6) ⟨rfl, rfl, rfl, rfl⟩ rfl rfl rfl ?_
            | refine ep_not rfl ?_ | refine sp_box rfl rfl rfl rfl rfl ?_ | refine ep_empt ?_)
          | (refine g_ops ?_; first | refine eo_none ?_ | refine eo_nil ?_)
          | (refine g_code ?_; first | refine ec_seq ?_ | refine ec_region ?_ | refine ec_block ?_ | refine ec_skip ?_ | refine ec_ret ?_ | refine ec_condT rfl ?_ | refine ec_condF rfl ?_ | refine ec_condTH rfl (by assumption) ?_ | refine ec_condFH rfl (by assumption) ?_)
          | refine ek_seqN ?_ | refine ek_seqX ?_ | refine ek_seqR ?_ | refine ek_blkN ?_ | refine ek_blkR ?_ | refine ek_blkX ?_ | refine ek_blkY rfl ?_)
        refine sfin (.inr rfl) (by rfl) (by rfl) (by exact ⟨rfl, rfl, rfl⟩) (by rfl) (by rfl) (by rfl) (by first | rfl | (simp; done) | (simp [ints, prs]; done))
      | cons z zs =>
        refine has24.eev rfl rfl ?_
        unfold m24
        repeat' (first
          | refine sc_loop lp rfl rfl ⟨rfl, rfl, rfl⟩ rfl rfl rfl ?_
          | (refine g_op ?_; first
            | refine ep_mov rfl ?_ | refine ep_load1 rfl rfl rfl rfl ?_ | refine ep_fieldAddr rfl ?_ | refine sp_loadN rfl rfl rfl rfl rfl ?_
            | refine ep_call0 rfl (by first | exact i2 | exact e2 | exact e3 | exact e5 _ | exact e6) rfl rfl ?_
            | refine sp_call rfl rfl rfl rfl (by first | exact i2 | exact e2 | exact e3 | exact e5 _ | exact e6) ⟨rfl, rfl, rfl, rfl⟩ rfl rfl rfl ?_
            | refine ep_not rfl ?_ | refine sp_box rfl rfl rfl rfl rfl ?_ | refine ep_empt ?_)
          | (refine g_ops ?_; first | refine eo_none ?_ | refine eo_nil ?_)
          | (refine g_code ?_; first | refine ec_seq ?_ | refine ec_region ?_ | refine ec_block ?_ | refine ec_skip ?_ | refine ec_ret ?_ | refine ec_condT rfl ?_ | refine ec_condF rfl ?_ | refine ec_condTH rfl (by assumption) ?_ | refine ec_condFH rfl (by assumption) ?_)
          | refine ek_seqN ?_ | refine ek_seqX ?_ | refine ek_seqR ?_ | refine ek_blkN ?_ | refine ek_blkR ?_ | refine ek_blkX ?_ | refine ek_blkY rfl ?_)
        refine sfin (.inr rfl) (by rfl) (by rfl) (by exact ⟨rfl, rfl, rfl⟩) (by rfl) (by rfl) (by rfl) (by first | rfl | (simp; done) | (simp [ints, prs]; done))
  | cons y ys =>
    have hlL : ∀ j, j < (y :: ys).length → (y :: ys).getD j 0 < 65536 := fun j hj => by have := hlt j hj; omega
    obtain ⟨k1, k2⟩ := selm_all (g := bn (trP (y :: ys))) (R2 n)
    have e5 := fun p => ev62 n p (selm (fun _ => true) (bn (trP (y :: ys))) (R2 n)) a1 (by omega) (fun r hr => by rw [k2 r hr]; exact bn_le _ r)
    rw [show pk (fun r => (selm (fun _ => true) (bn (trP (y :: ys))) (R2 n)).getD r 0) (R2 n) = pk (bn (trP (y :: ys))) (R2 n) from pk_congr fun r hr => k2 r hr] at e5
    have hpl := pk_lt (g := bn (trP (y :: ys))) (n := R2 n) fun r _ => bn_le _ r
    have e6 := ev54_t n (pk (bn (trP (y :: ys))) (R2 n)) 1 a1 (by omega)
    rw [hM] at e6
    cases hs : selm (fun _ => true) (bn (trP (y :: ys))) (R2 n) with
    | nil => rw [hs] at k1; simp at k1; omega
    | cons x xs =>
      rw [hs] at e5
      have lp := lp24_0_c n b a1 y ys (by omega) hlL _ (by rw [hs])
      cases M with
      | nil =>
        refine has24.eev rfl rfl ?_
        unfold m24
        repeat' (first
          | refine sc_loop lp rfl rfl ⟨rfl, rfl, rfl⟩ rfl rfl rfl ?_
          | (refine g_op ?_; first
            | refine ep_mov rfl ?_ | refine ep_load1 rfl rfl rfl rfl ?_ | refine ep_fieldAddr rfl ?_ | refine sp_loadN rfl rfl rfl rfl rfl ?_
            | refine ep_call0 rfl (by first | exact i2 | exact e2 | exact e3 | exact e5 _ | exact e6) rfl rfl ?_
            | refine sp_call rfl rfl rfl rfl (by first | exact i2 | exact e2 | exact e3 | exact e5 _ | exact e6) ⟨rfl, rfl, rfl, rfl⟩ rfl rfl rfl ?_
            | refine ep_not rfl ?_ | refine sp_box rfl rfl rfl rfl rfl ?_ | refine ep_empt ?_)
          | (refine g_ops ?_; first | refine eo_none ?_ | refine eo_nil ?_)
          | (refine g_code ?_; first | refine ec_seq ?_ | refine ec_region ?_ | refine ec_block ?_ | refine ec_skip ?_ | refine ec_ret ?_ | refine ec_condT rfl ?_ | refine ec_condF rfl ?_ | refine ec_condTH rfl (by assumption) ?_ | refine ec_condFH rfl (by assumption) ?_)
          | refine ek_seqN ?_ | refine ek_seqX ?_ | refine ek_seqR ?_ | refine ek_blkN ?_ | refine ek_blkR ?_ | refine ek_blkX ?_ | refine ek_blkY rfl ?_)
        refine sfin (.inr rfl) (by rfl) (by rfl) (by exact ⟨rfl, rfl, rfl⟩) (by rfl) (by rfl) (by rfl) (by first | rfl | (simp; done) | (simp [ints, prs]; done))
      | cons z zs =>
        refine has24.eev rfl rfl ?_
        unfold m24
        repeat' (first
          | refine sc_loop lp rfl rfl ⟨rfl, rfl, rfl⟩ rfl rfl rfl ?_
          | (refine g_op ?_; first
            | refine ep_mov rfl ?_ | refine ep_load1 rfl rfl rfl rfl ?_ | refine ep_fieldAddr rfl ?_ | refine sp_loadN rfl rfl rfl rfl rfl ?_
            | refine ep_call0 rfl (by first | exact i2 | exact e2 | exact e3 | exact e5 _ | exact e6) rfl rfl ?_
            | refine sp_call rfl rfl rfl rfl (by first | exact i2 | exact e2 | exact e3 | exact e5 _ | exact e6) ⟨rfl, rfl, rfl, rfl⟩ rfl rfl rfl ?_
            | refine ep_not rfl ?_ | refine sp_box rfl rfl rfl rfl rfl ?_ | refine ep_empt ?_)
          | (refine g_ops ?_; first | refine eo_none ?_ | refine eo_nil ?_)
          | (refine g_code ?_; first | refine ec_seq ?_ | refine ec_region ?_ | refine ec_block ?_ | refine ec_skip ?_ | refine ec_ret ?_ | refine ec_condT rfl ?_ | refine ec_condF rfl ?_ | refine ec_condTH rfl (by assumption) ?_ | refine ec_condFH rfl (by assumption) ?_)
          | refine ek_seqN ?_ | refine ek_seqX ?_ | refine ek_seqR ?_ | refine ek_blkN ?_ | refine ek_blkR ?_ | refine ek_blkX ?_ | refine ek_blkY rfl ?_)
        refine sfin (.inr rfl) (by rfl) (by rfl) (by exact ⟨rfl, rfl, rfl⟩) (by rfl) (by rfl) (by rfl) (by first | rfl | (simp; done) | (simp [ints, prs]; done))
theorem ev24_bad (p t : Int) (h1 : isFn p t = false) : Ev cx 24 [.agg [.int .i64 p, .int .i64 t]] [] (.tup [.nils, .int .i64 1]) [] := by
  have e1 := ev53 p t
  rw [h1] at e1
  refine has24.eev rfl rfl ?_
  unfold m24
  repeat' (first
    | (refine g_op ?_; first
      | refine ep_mov rfl ?_ | refine ep_load1 rfl rfl rfl rfl ?_ | refine ep_fieldAddr rfl ?_ | refine sp_loadN rfl rfl rfl rfl rfl ?_
      | refine ep_call0 rfl (by first | exact e1) rfl rfl ?_
      | refine sp_call rfl rfl rfl rfl (by first | exact e1) ⟨rfl, rfl, rfl, rfl⟩ rfl rfl rfl ?_
      | refine ep_not rfl ?_ | refine sp_box rfl rfl rfl rfl rfl ?_ | refine ep_empt ?_)
    | (refine g_ops ?_; first | refine eo_none ?_ | refine eo_nil ?_)
    | (refine g_code ?_; first | refine ec_seq ?_ | refine ec_region ?_ | refine ec_block ?_ | refine ec_skip ?_ | refine ec_ret ?_ | refine ec_condT rfl ?_ | refine ec_condF rfl ?_ | refine ec_condTH rfl (by assumption) ?_ | refine ec_condFH rfl (by assumption) ?_)
    | refine ek_seqN ?_ | refine ek_seqX ?_ | refine ek_seqR ?_ | refine ek_blkN ?_ | refine ek_blkR ?_ | refine ek_blkX ?_ | refine ek_blkY rfl ?_)
  refine sfin (.inr rfl) (by rfl) (by rfl) (by exact ⟨rfl, rfl, rfl⟩) (by rfl) (by rfl) (by rfl) (by first | rfl | (simp; done) | (simp [ints, prs]; done))
theorem ev24_non (n b : Nat) (a1 : n ≤ 4) (a3 : b < 65536) (hmo : monoB n b = false) (i2 : Ev cx 53 [.agg [.int .i64 n, .int .i64 b]] [] (.bool true) []) : Ev cx 24 [.agg [.int .i64 n, .int .i64 b]] [] (.tup [.nils, .int .i64 5]) [] := by
  have e2 := ev61 n b a1 a3
  rw [hmo] at e2
  refine has24.eev rfl rfl ?_
  unfold m24
  repeat' (first
    | (refine g_op ?_; first
      | refine ep_mov rfl ?_ | refine ep_load1 rfl rfl rfl rfl ?_ | refine ep_fieldAddr rfl ?_ | refine sp_loadN rfl rfl rfl rfl rfl ?_
      | refine ep_call0 rfl (by first | exact i2 | exact e2) rfl rfl ?_
      | refine sp_call rfl rfl rfl rfl (by first | exact i2 | exact e2) ⟨rfl, rfl, rfl, rfl⟩ rfl rfl rfl ?_
      | refine ep_not rfl ?_ | refine sp_box rfl rfl rfl rfl rfl ?_ | refine ep_empt ?_)
    | (refine g_ops ?_; first | refine eo_none ?_ | refine eo_nil ?_)
    | (refine g_code ?_; first | refine ec_seq ?_ | refine ec_region ?_ | refine ec_block ?_ | refine ec_skip ?_ | refine ec_ret ?_ | refine ec_condT rfl ?_ | refine ec_condF rfl ?_ | refine ec_condTH rfl (by assumption) ?_ | refine ec_condFH rfl (by assumption) ?_)
    | refine ek_seqN ?_ | refine ek_seqX ?_ | refine ek_seqR ?_ | refine ek_blkN ?_ | refine ek_blkR ?_ | refine ek_blkX ?_ | refine ek_blkY rfl ?_)
  refine sfin (.inr rfl) (by rfl) (by rfl) (by exact ⟨rfl, rfl, rfl⟩) (by rfl) (by rfl) (by rfl) (by first | rfl | (simp; done) | (simp [ints, prs]; done))
-- impl.TransversalsOf
def m25 : MC := (.seq (.region [⟨(.box (.t 0)), (some 1), none⟩, ⟨(.mov (.k .nils)), (some 2), none⟩, ⟨(.mov (.k (.int .i64 0))), (some 3), none⟩] false) (.seq (.block 0 (.seq (.region [⟨(.load (some 2) (.t 1)), (some 6), none⟩, ⟨(.call 55 [(.t 6)]), (some 7), none⟩, ⟨(.un .not (.t 7)), (some 8), none⟩, ⟨(.mov (.t 8)), (some 5), none⟩] false) (.cond (.t 5) (.seq (.region [⟨(.mov (.k .nils)), (some 2), none⟩, ⟨(.mov (.k (.int .i64 1))), (some 3), none⟩] false) .ret) (.seq (.region [⟨(.load (some 2) (.t 1)), (some 10), none⟩, ⟨(.call 63 [(.t 10)]), (some 11), none⟩, ⟨(.un .not (.t 11)), (some 12), none⟩, ⟨(.mov (.t 12)), (some 9), none⟩] false) (.cond (.t 9) (.seq (.region [⟨(.mov (.k .nils)), (some 2), none⟩, ⟨(.mov (.k (.int .i64 5))), (some 3), none⟩] false) .ret) .skip))))) (.seq (.region [⟨(.load (some 2) (.t 1)), (some 13), none⟩, ⟨(.call 56 [(.t 13)]), (some 14), none⟩, ⟨(.alloc [.nils]), (some 4), none⟩, ⟨(.store 1 (.t 4) (.t 14)), none, none⟩] false) (.seq (.region [⟨(.load (some 2) (.t 1)), (some 15), none⟩, ⟨(.mkfn 65 [(.t 4)]), (some 16), none⟩, ⟨(.call 64 [(.t 15), (.t 16), (.k (.fn 68 []))]), (some 17), none⟩, ⟨(.mov (.t 17)), (some 2), none⟩, ⟨(.mov (.k (.int .i64 0))), (some 3), none⟩] false) .ret))))
theorem has25 : Has cx 25 18 m25 [(.tmp 2), (.tmp 3)] :=
  ⟨⟨Try.f25, Try.f25.body.getD .skip, by kernel_rfl, by kernel_rfl, by kernel_rfl, by kernel_rfl, by kernel_rfl, by kernel_rfl⟩⟩
theorem evgf_TransversalsOf (n b : Nat) (a1 : n ≤ 4) (a3 : b < 65536) (hmo : monoB n b = true) (L M : List Nat) (hL : selm (enP n b 1 belT) idn (R2 n) = L) (hM : selm (enP n (pk (bn (trP L)) (R2 n)) 1 belT) idn (R2 n) = M) (i1 : Ev cx 55 [.agg [.int .i64 n, .int .i64 b]] [] (.bool true) []) :
    ∃ (w : V) (hp : Heap), Ev cx 25 [.agg [.int .i64 n, .int .i64 b]] [] (.tup [w, .int .i64 0]) hp ∧
    ((w = .nils ∧ hp = [] ∧ M = []) ∨ ∃ k : Nat, k ≤ 16 ∧ w = .sl 0 0 M.length ∧ hp = [⟨ints (M ++ List.replicate k 0), 1, 0, some 0, false⟩] ∧ M.length ≤ 16) := by
  obtain ⟨h1, h2, h3, h4⟩ := shN a1
  obtain ⟨w0, hp0, e2, hw⟩ := ev56 n b a1 a3 L hL
  have e3 := ev63 n b a1 a3
  rw [hmo] at e3
  have hlt := fun j hj => (selm_lt (p := enP n b 1 belT) (n := R2 n) (j := j) hj).1
  rw [hL] at hlt
  have en := end_eq n (pk (bn (trP L)) (R2 n)) 1 belT
  rw [sel_t, hM] at en
  have hle := selm_len (trP L) idn (R2 n)
  rcases hw with ⟨rfl, rfl, rfl⟩ | ⟨k, hk, rfl, rfl, hl⟩
  · have hpk : ∀ r : Nat, r < 16 → Ev cx 65 [.int .i64 r, .ptr 0 0] [⟨[.nils], 1, 0, some 0, true⟩] (.bool (trP [] r)) [⟨[.nils], 1, 0, some 0, true⟩] := fun r _ => ev65_nils r
    cases hs : selm (trP []) idn (R2 n) with
    | nil =>
      have e4 := ends_nil_trn 68 65 n b (trP []) a1 hpk hs
      refine ⟨.nils, [], ?_, .inl ⟨rfl, rfl, (en [] hs).symm⟩⟩
      refine has25.eev rfl rfl ?_
      unfold m25
      repeat' (first
        | (refine g_op ?_; first
          | refine ep_mov rfl ?_ | refine sp_loadN rfl rfl rfl rfl rfl ?_
          | refine ep_call0 rfl (by first | exact i1 | exact e2 | exact e3 | exact e4) rfl rfl ?_
          | refine sp_call rfl rfl rfl rfl (by first | exact i1 | exact e2 | exact e3 | exact e4) ⟨rfl, rfl, rfl, rfl⟩ rfl rfl rfl ?_
          | refine sp_store rfl rfl rfl rfl rfl rfl rfl rfl rfl rfl ?_ | refine ep_not rfl ?_ | refine sp_box rfl rfl rfl rfl rfl ?_ | refine sp_alloc rfl rfl ?_ | refine ep_mkfn rfl ?_)
        | (refine g_ops ?_; first | refine eo_none ?_ | refine eo_nil ?_)
        | (refine g_code ?_; first | refine ec_seq ?_ | refine ec_region ?_ | refine ec_block ?_ | refine ec_skip ?_ | refine ec_ret ?_ | refine ec_condT rfl ?_ | refine ec_condF rfl ?_ | refine ec_condTH rfl (by assumption) ?_ | refine ec_condFH rfl (by assumption) ?_)
        | refine ek_seqN ?_ | refine ek_seqR ?_ | refine ek_blkN ?_ | refine ek_blkR ?_ | refine ek_blkX ?_ | refine ek_blkY rfl ?_)
      refine sfin (.inr rfl) (by rfl) (by rfl) (by exact ⟨rfl, rfl, rfl⟩) (by rfl) (by rfl) (by rfl) (by first | rfl | (simp; done) | (simp [ints, prs]; done))
    | cons x xs =>
      have e4 := ends_cons_trn 68 65 n b (trP []) a1 hpk belT (fun r s hr hs => ev68 r s hr hs) x xs hs
      have hE := en (x :: xs) hs
      rw [hE] at e4
      rw [hs] at hle
      have hkl := kpt_len (delQ (x :: xs) belT) (x :: xs) (x :: xs).length
      rw [show kpt (delQ (x :: xs) belT) (x :: xs) (x :: xs).length = M from hE] at hkl
      refine ⟨_, _, ?_, .inr ⟨(x :: xs).length - M.length, by omega, rfl, rfl, by omega⟩⟩
      refine has25.eev rfl rfl ?_
      unfold m25
      repeat' (first
        | (refine g_op ?_; first
          | refine ep_mov rfl ?_ | refine sp_loadN rfl rfl rfl rfl rfl ?_
          | refine ep_call0 rfl (by first | exact i1 | exact e2 | exact e3 | exact e4) rfl rfl ?_
          | refine sp_call rfl rfl rfl rfl (by first | exact i1 | exact e2 | exact e3 | exact e4) ⟨rfl, rfl, rfl, rfl⟩ rfl rfl rfl ?_
          | refine sp_store rfl rfl rfl rfl rfl rfl rfl rfl rfl rfl ?_ | refine ep_not rfl ?_ | refine sp_box rfl rfl rfl rfl rfl ?_ | refine sp_alloc rfl rfl ?_ | refine ep_mkfn rfl ?_)
        | (refine g_ops ?_; first | refine eo_none ?_ | refine eo_nil ?_)
        | (refine g_code ?_; first | refine ec_seq ?_ | refine ec_region ?_ | refine ec_block ?_ | refine ec_skip ?_ | refine ec_ret ?_ | refine ec_condT rfl ?_ | refine ec_condF rfl ?_ | refine ec_condTH rfl (by assumption) ?_ | refine ec_condFH rfl (by assumption) ?_)
        | refine ek_seqN ?_ | refine ek_seqR ?_ | refine ek_blkN ?_ | refine ek_blkR ?_ | refine ek_blkX ?_ | refine ek_blkY rfl ?_)
      refine sfin (.inr rfl) (by rfl) (by rfl) (by exact ⟨rfl, rfl, rfl⟩) (by rfl) (by rfl) (by rfl) (by first | rfl | (simp; done) | (simp [ints, prs]; done))
  · have hpk : ∀ r : Nat, r < 16 → Ev cx 65 [.int .i64 r, .ptr 0 0] [⟨[.sl 1 0 L.length], 1, 0, some 0, true⟩, ⟨ints (L ++ List.replicate k 0), 1, 1, some 0, false⟩] (.bool (trP L r)) [⟨[.sl 1 0 L.length], 1, 0, some 0, true⟩, ⟨ints (L ++ List.replicate k 0), 1, 1, some 0, false⟩] := fun r hr => by
      have hg : ∀ j, j < L.length → (L ++ List.replicate k 0).getD j 0 = L.getD j 0 := fun j hj => by
        rw [List.getD_eq_getElem?_getD, List.getElem?_append_left hj, List.getD_eq_getElem?_getD]
      have e := ev65 (L ++ List.replicate k 0) L.length r (by rw [List.length_append]; omega) (by rw [List.length_append, List.length_replicate]; omega) (fun j hj => by rw [hg j hj]; have := hlt j hj; omega) (by omega)
      have hc : allF (fun j => !(r &&& ((L ++ List.replicate k 0).getD j 0) == 0)) 0 L.length = trP L r := by
        unfold trP
        rw [Bool.eq_iff_iff, allF_iff, allF_iff]
        constructor
        · intro h j h1 h2; have := h j h1 h2; rwa [hg j (by omega)] at this
        · intro h j h1 h2; have := h j h1 h2; rwa [hg j (by omega)]
      rwa [hc] at e
    cases hs : selm (trP L) idn (R2 n) with
    | nil =>
      have e4 := ends_nil_tr 68 65 n b (trP L) a1 (L ++ List.replicate k 0) L.length hpk hs
      refine ⟨.nils, [], ?_, .inl ⟨rfl, rfl, (en [] hs).symm⟩⟩
      refine has25.eev rfl rfl ?_
      unfold m25
      repeat' (first
        | (refine g_op ?_; first
          | refine ep_mov rfl ?_ | refine sp_loadN rfl rfl rfl rfl rfl ?_
          | refine ep_call0 rfl (by first | exact i1 | exact e2 | exact e3 | exact e4) rfl rfl ?_
          | refine sp_call rfl rfl rfl rfl (by first | exact i1 | exact e2 | exact e3 | exact e4) ⟨rfl, rfl, rfl, rfl⟩ rfl rfl rfl ?_
          | refine sp_store rfl rfl rfl rfl rfl rfl rfl rfl rfl rfl ?_ | refine ep_not rfl ?_ | refine sp_box rfl rfl rfl rfl rfl ?_ | refine sp_alloc rfl rfl ?_ | refine ep_mkfn rfl ?_)
        | (refine g_ops ?_; first | refine eo_none ?_ | refine eo_nil ?_)
        | (refine g_code ?_; first | refine ec_seq ?_ | refine ec_region ?_ | refine ec_block ?_ | refine ec_skip ?_ | refine ec_ret ?_ | refine ec_condT rfl ?_ | refine ec_condF rfl ?_ | refine ec_condTH rfl (by assumption) ?_ | refine ec_condFH rfl (by assumption) ?_)
        | refine ek_seqN ?_ | refine ek_seqR ?_ | refine ek_blkN ?_ | refine ek_blkR ?_ | refine ek_blkX ?_ | refine ek_blkY rfl ?_)
      refine sfin (.inr rfl) (by rfl) (by rfl) (by exact ⟨rfl, rfl, rfl⟩) (by rfl) (by rfl) (by rfl) (by first | rfl | (simp; done) | (simp [ints, prs]; done))
    | cons x xs =>
      have e4 := ends_cons_tr 68 65 n b (trP L) a1 (L ++ List.replicate k 0) L.length hpk belT (fun r s hr hs => ev68 r s hr hs) x xs hs
      have hE := en (x :: xs) hs
      rw [hE] at e4
      rw [hs] at hle
      have hkl := kpt_len (delQ (x :: xs) belT) (x :: xs) (x :: xs).length
      rw [show kpt (delQ (x :: xs) belT) (x :: xs) (x :: xs).length = M from hE] at hkl
      refine ⟨_, _, ?_, .inr ⟨(x :: xs).length - M.length, by omega, rfl, rfl, by omega⟩⟩
      refine has25.eev rfl rfl ?_
      unfold m25
      repeat' (first
        | (refine g_op ?_; first
          | refine ep_mov rfl ?_ | refine sp_loadN rfl rfl rfl rfl rfl ?_
          | refine ep_call0 rfl (by first | exact i1 | exact e2 | exact e3 | exact e4) rfl rfl ?_
          | refine sp_call rfl rfl rfl rfl (by first | exact i1 | exact e2 | exact e3 | exact e4) ⟨rfl, rfl, rfl, rfl⟩ rfl rfl rfl ?_
          | refine sp_store rfl rfl rfl rfl rfl rfl rfl rfl rfl rfl ?_ | refine ep_not rfl ?_ | refine sp_box rfl rfl rfl rfl rfl ?_ | refine sp_alloc rfl rfl ?_ | refine ep_mkfn rfl ?_)
        | (refine g_ops ?_; first | refine eo_none ?_ | refine eo_nil ?_)
        | (refine g_code ?_; first | refine ec_seq ?_ | refine ec_region ?_ | refine ec_block ?_ | refine ec_skip ?_ | refine ec_ret ?_ | refine ec_condT rfl ?_ | refine ec_condF rfl ?_ | refine ec_condTH rfl (by assumption) ?_ | refine ec_condFH rfl (by assumption) ?_)
        | refine ek_seqN ?_ | refine ek_seqR ?_ | refine ek_blkN ?_ | refine ek_blkR ?_ | refine ek_blkX ?_ | refine ek_blkY rfl ?_)
      refine sfin (.inr rfl) (by rfl) (by rfl) (by exact ⟨rfl, rfl, rfl⟩) (by rfl) (by rfl) (by rfl) (by first | rfl | (simp; done) | (simp [ints, prs]; done))
theorem ev25_bad (p t : Int) (h1 : isFn p t = false) : Ev cx 25 [.agg [.int .i64 p, .int .i64 t]] [] (.tup [.nils, .int .i64 1]) [] := by
  have e1 := ev55 p t
  rw [h1] at e1
  refine has25.eev rfl rfl ?_
  unfold m25
  repeat' (first
    | (refine g_op ?_; first
      | refine ep_mov rfl ?_ | refine sp_loadN rfl rfl rfl rfl rfl ?_
      | refine ep_call0 rfl (by first | exact e1) rfl rfl ?_
      | refine sp_call rfl rfl rfl rfl (by first | exact e1) ⟨rfl, rfl, rfl, rfl⟩ rfl rfl rfl ?_
      | refine sp_store rfl rfl rfl rfl rfl rfl rfl rfl rfl rfl ?_ | refine ep_not rfl ?_ | refine sp_box rfl rfl rfl rfl rfl ?_ | refine sp_alloc rfl rfl ?_ | refine ep_mkfn rfl ?_)
    | (refine g_ops ?_; first | refine eo_none ?_ | refine eo_nil ?_)
    | (refine g_code ?_; first | refine ec_seq ?_ | refine ec_region ?_ | refine ec_block ?_ | refine ec_skip ?_ | refine ec_ret ?_ | refine ec_condT rfl ?_ | refine ec_condF rfl ?_ | refine ec_condTH rfl (by assumption) ?_ | refine ec_condFH rfl (by assumption) ?_)
    | refine ek_seqN ?_ | refine ek_seqR ?_ | refine ek_blkN ?_ | refine ek_blkR ?_ | refine ek_blkX ?_ | refine ek_blkY rfl ?_)
  refine sfin (.inr rfl) (by rfl) (by rfl) (by exact ⟨rfl, rfl, rfl⟩) (by rfl) (by rfl) (by rfl) (by first | rfl | (simp; done) | (simp [ints, prs]; done))
theorem ev25_non (n b : Nat) (a1 : n ≤ 4) (a3 : b < 65536) (hmo : monoB n b = false) (i1 : Ev cx 55 [.agg [.int .i64 n, .int .i64 b]] [] (.bool true) []) : Ev cx 25 [.agg [.int .i64 n, .int .i64 b]] [] (.tup [.nils, .int .i64 5]) [] := by
  have e2 := ev63 n b a1 a3
  rw [hmo] at e2
  refine has25.eev rfl rfl ?_
  unfold m25
  repeat' (first
    | (refine g_op ?_; first
      | refine ep_mov rfl ?_ | refine sp_loadN rfl rfl rfl rfl rfl ?_
      | refine ep_call0 rfl (by first | exact i1 | exact e2) rfl rfl ?_
      | refine sp_call rfl rfl rfl rfl (by first | exact i1 | exact e2) ⟨rfl, rfl, rfl, rfl⟩ rfl rfl rfl ?_
      | refine sp_store rfl rfl rfl rfl rfl rfl rfl rfl rfl rfl ?_ | refine ep_not rfl ?_ | refine sp_box rfl rfl rfl rfl rfl ?_ | refine sp_alloc rfl rfl ?_ | refine ep_mkfn rfl ?_)
    | (refine g_ops ?_; first | refine eo_none ?_ | refine eo_nil ?_)
    | (refine g_code ?_; first | refine ec_seq ?_ | refine ec_region ?_ | refine ec_block ?_ | refine ec_skip ?_ | refine ec_ret ?_ | refine ec_condT rfl ?_ | refine ec_condF rfl ?_ | refine ec_condTH rfl (by assumption) ?_ | refine ec_condFH rfl (by assumption) ?_)
    | refine ek_seqN ?_ | refine ek_seqR ?_ | refine ek_blkN ?_ | refine ek_blkR ?_ | refine ek_blkX ?_ | refine ek_blkY rfl ?_)
  refine sfin (.inr rfl) (by rfl) (by rfl) (by exact ⟨rfl, rfl, rfl⟩) (by rfl) (by rfl) (by rfl) (by first | rfl | (simp; done) | (simp [ints, prs]; done))
-- laws.FnExactTransversalsOf
def m5 : MC := (.seq (.region [⟨(.box (.t 0)), (some 1), none⟩, ⟨(.mov (.k (.bool false))), (some 2), none⟩] false) (.seq (.region [⟨(.load (some 2) (.t 1)), (some 12), none⟩, ⟨(.call 17 [(.t 12)]), (some 13), none⟩, ⟨(.call 24 [(.t 13)]), (some 14), none⟩, ⟨(.mov (.t 14)), (some 11), none⟩, ⟨(.extract (.t 11) 0), (some 15), none⟩, ⟨(.extract (.t 11) 1), (some 16), none⟩, ⟨(.mov (.t 15)), (some 3), none⟩, ⟨(.mov (.t 16)), (some 4), none⟩] false) (.seq (.region [⟨(.load (some 2) (.t 1)), (some 18), none⟩, ⟨(.call 17 [(.t 18)]), (some 19), none⟩, ⟨(.call 25 [(.t 19)]), (some 20), none⟩, ⟨(.mov (.t 20)), (some 17), none⟩, ⟨(.extract (.t 17) 0), (some 21), none⟩, ⟨(.extract (.t 17) 1), (some 22), none⟩, ⟨(.mov (.t 21)), (some 5), none⟩, ⟨(.mov (.t 22)), (some 6), none⟩] false) (.seq (.seq (.region [⟨(.mov (.t 5)), (some 23), none⟩, ⟨(.mov (.t 3)), (some 24), none⟩, ⟨(.call 19 [(.t 23), (.t 24)]), (some 25), none⟩, ⟨(.un .not (.t 25)), (some 26), none⟩, ⟨(.mov (.t 26)), (some 27), none⟩, ⟨(.mov (.t 6)), (some 28), (some (27, false))⟩, ⟨(.mov (.t 4)), (some 29), (some (27, false))⟩, ⟨(.bin .neq (.t 28) (.t 29)), (some 30), (some (27, false))⟩, ⟨(.pick (.t 27) (.k (.bool true)) (.t 30)), (some 31), none⟩] false) (.cond (.t 31) (.seq (.region [⟨(.mov (.k (.bool false))), (some 2), none⟩] false) .ret) .skip)) (.seq (.region [⟨(.mov (.k (.int .i64 1))), (some 7), none⟩] false) (.seq (.region [⟨(.mov (.t 5)), (some 32), none⟩, ⟨(.mov (.t 7)), (some 33), none⟩, ⟨(.call 20 [(.t 32), (.t 33)]), (some 34), none⟩, ⟨(.mov (.t 34)), (some 7), none⟩] false) (.seq (.region [⟨(.mov (.k (.int .i64 1))), (some 8), none⟩] false) (.seq (.region [⟨(.mov (.t 5)), (some 35), none⟩, ⟨(.mov (.t 8)), (some 36), none⟩, ⟨(.call 21 [(.t 35), (.t 36)]), (some 37), none⟩, ⟨(.mov (.t 37)), (some 8), none⟩] false) (.seq (.seq (.region [⟨(.mov (.t 8)), (some 38), none⟩, ⟨(.bin .lss (.t 38) (.k (.int .i64 0))), (some 39), none⟩] false) (.cond (.t 39) (.seq (.region [⟨(.mov (.k (.bool false))), (some 2), none⟩] false) .ret) .skip)) (.seq (.seq (.region [⟨(.mov (.t 8)), (some 40), none⟩, ⟨(.mov (.t 7)), (some 41), none⟩, ⟨(.bin .neq (.t 40) (.t 41)), (some 42), none⟩] false) (.cond (.t 42) (.seq (.region [⟨(.mov (.k (.bool false))), (some 2), none⟩] false) .ret) .skip)) (.seq (.region [⟨(.load (some 2) (.t 1)), (some 44), none⟩, ⟨(.call 17 [(.t 44)]), (some 45), none⟩, ⟨(.call 25 [(.t 45)]), (some 46), none⟩, ⟨(.mov (.t 46)), (some 43), none⟩, ⟨(.extract (.t 43) 0), (some 47), none⟩, ⟨(.extract (.t 43) 1), (some 48), none⟩, ⟨(.mov (.t 47)), (some 9), none⟩, ⟨(.mov (.t 48)), (some 10), none⟩] false) (.seq (.seq (.region [⟨(.mov (.t 9)), (some 49), none⟩, ⟨(.mov (.t 3)), (some 50), none⟩, ⟨(.call 19 [(.t 49), (.t 50)]), (some 51), none⟩, ⟨(.un .not (.t 51)), (some 52), none⟩, ⟨(.mov (.t 52)), (some 53), none⟩, ⟨(.mov (.t 10)), (some 54), (some (53, false))⟩, ⟨(.mov (.t 4)), (some 55), (some (53, false))⟩, ⟨(.bin .neq (.t 54) (.t 55)), (some 56), (some (53, false))⟩, ⟨(.pick (.t 53) (.k (.bool true)) (.t 56)), (some 57), none⟩] false) (.cond (.t 57) (.seq (.region [⟨(.mov (.k (.bool false))), (some 2), none⟩] false) .ret) .skip)) (.seq (.region [⟨(.mov (.k (.int .i64 1))), (some 8), none⟩] false) (.seq (.region [⟨(.mov (.t 5)), (some 58), none⟩, ⟨(.mov (.t 8)), (some 59), none⟩, ⟨(.call 21 [(.t 58), (.t 59)]), (some 60), none⟩, ⟨(.mov (.t 60)), (some 8), none⟩] false) (.seq (.seq (.region [⟨(.mov (.t 8)), (some 61), none⟩, ⟨(.bin .lss (.t 61) (.k (.int .i64 0))), (some 62), none⟩] false) (.cond (.t 62) (.seq (.region [⟨(.mov (.k (.bool false))), (some 2), none⟩] false) .ret) .skip)) (.seq (.seq (.region [⟨(.mov (.t 8)), (some 63), none⟩, ⟨(.mov (.t 7)), (some 64), none⟩, ⟨(.bin .neq (.t 63) (.t 64)), (some 65), none⟩] false) (.cond (.t 65) (.seq (.region [⟨(.mov (.k (.bool false))), (some 2), none⟩] false) .ret) .skip)) (.seq (.region [⟨(.mov (.k (.bool true))), (some 2), none⟩] false) .ret)))))))))))))))))
theorem has5 : Has cx 5 66 m5 [(.tmp 2)] :=
  ⟨⟨Try.f5, Try.f5.body.getD .skip, by kernel_rfl, by kernel_rfl, by kernel_rfl, by kernel_rfl, by kernel_rfl, by kernel_rfl⟩⟩
theorem ev5 (p t : Int) : Ev cx 5 [.agg [.int .i64 p, .int .i64 t]] [] (.bool true) [] := by
  cases h1 : isFn p t
  · refine has5.eev rfl rfl ?_
    unfold m5
    repeat' (first
      | (refine g_op ?_; first
        | refine ep_mov rfl ?_ | refine sp_loadN rfl rfl rfl rfl rfl ?_
        | refine ep_call0 rfl (by first | exact ev24_bad p t h1 | exact ev17 _ _ | exact ev25_bad p t h1 | exact ev19_nils_nils | exact ev20_nils | exact ev21_nils) rfl rfl ?_
        | refine sp_call rfl rfl rfl rfl (by first | exact ev24_bad p t h1 | exact ev17 _ _ | exact ev25_bad p t h1 | exact ev19_nils_nils | exact ev20_nils | exact ev21_nils) ⟨rfl, rfl, rfl, rfl⟩ rfl rfl rfl ?_
        | refine ep_bin rfl rfl (by first | exact b_add (by omega) (by omega) | exact b_sub (by omega) (by omega) | exact b_and (by omega) (by omega) | exact b_or (by omega) (by omega) | exact b_shr (by omega) | exact b_shl (by omega) (by omega) | exact b_lss | exact b_leq | exact b_gtr | exact b_geq | exact b_eql | exact b_neq) ?_
        | refine ep_pickT rfl rfl ?_ | refine ep_pickF rfl rfl ?_ | refine ep_pickTH rfl (by assumption) rfl ?_ | refine ep_pickFH rfl (by assumption) rfl ?_ | refine ep_extract rfl rfl ?_ | refine ep_not rfl ?_
        | refine sp_box rfl rfl rfl rfl rfl ?_)
      | (refine g_ops ?_; first | refine eo_none ?_ | refine eo_nil ?_ | refine eo_yes rfl ?_ | refine eo_no rfl ?_ | refine eo_und rfl ?_ | refine eo_yesH rfl (by assumption) ?_ | refine eo_noH rfl (by assumption) ?_)
      | (refine g_code ?_; first | refine ec_seq ?_ | refine ec_region ?_ | refine ec_skip ?_ | refine ec_ret ?_ | refine ec_condT rfl ?_ | refine ec_condF rfl ?_ | refine ec_condTH rfl (by assumption) ?_ | refine ec_condFH rfl (by assumption) ?_)
      | refine ek_seqN ?_ | refine ek_seqR ?_)
    refine sfin (.inr rfl) (by rfl) (by rfl) (by exact ⟨rfl, rfl, rfl⟩) (by rfl) (by rfl) (by rfl) (by first | rfl | (simp; done) | (simp [ints, prs]; done))
  have i1 := ev55 p t
  have i2 := ev53 p t
  rw [h1] at i1 i2
  obtain ⟨n, b, rfl, rfl, a1, a2, a3⟩ := isFn_nat h1
  cases hmo : monoB n b
  · refine has5.eev rfl rfl ?_
    unfold m5
    repeat' (first
      | (refine g_op ?_; first
        | refine ep_mov rfl ?_ | refine sp_loadN rfl rfl rfl rfl rfl ?_
        | refine ep_call0 rfl (by first | exact ev24_non n b a1 a3 hmo i2 | exact ev17 _ _ | exact ev25_non n b a1 a3 hmo i1 | exact ev19_nils_nils | exact ev20_nils | exact ev21_nils) rfl rfl ?_
        | refine sp_call rfl rfl rfl rfl (by first | exact ev24_non n b a1 a3 hmo i2 | exact ev17 _ _ | exact ev25_non n b a1 a3 hmo i1 | exact ev19_nils_nils | exact ev20_nils | exact ev21_nils) ⟨rfl, rfl, rfl, rfl⟩ rfl rfl rfl ?_
        | refine ep_bin rfl rfl (by first | exact b_add (by omega) (by omega) | exact b_sub (by omega) (by omega) | exact b_and (by omega) (by omega) | exact b_or (by omega) (by omega) | exact b_shr (by omega) | exact b_shl (by omega) (by omega) | exact b_lss | exact b_leq | exact b_gtr | exact b_geq | exact b_eql | exact b_neq) ?_
        | refine ep_pickT rfl rfl ?_ | refine ep_pickF rfl rfl ?_ | refine ep_pickTH rfl (by assumption) rfl ?_ | refine ep_pickFH rfl (by assumption) rfl ?_ | refine ep_extract rfl rfl ?_ | refine ep_not rfl ?_
        | refine sp_box rfl rfl rfl rfl rfl ?_)
      | (refine g_ops ?_; first | refine eo_none ?_ | refine eo_nil ?_ | refine eo_yes rfl ?_ | refine eo_no rfl ?_ | refine eo_und rfl ?_ | refine eo_yesH rfl (by assumption) ?_ | refine eo_noH rfl (by assumption) ?_)
      | (refine g_code ?_; first | refine ec_seq ?_ | refine ec_region ?_ | refine ec_skip ?_ | refine ec_ret ?_ | refine ec_condT rfl ?_ | refine ec_condF rfl ?_ | refine ec_condTH rfl (by assumption) ?_ | refine ec_condFH rfl (by assumption) ?_)
      | refine ek_seqN ?_ | refine ek_seqR ?_)
    refine sfin (.inr rfl) (by rfl) (by rfl) (by exact ⟨rfl, rfl, rfl⟩) (by rfl) (by rfl) (by rfl) (by first | rfl | (simp; done) | (simp [ints, prs]; done))
  obtain ⟨M, hM⟩ : ∃ M, selm (enP n (pk (bn (trP (selm (enP n b 1 belT) idn (R2 n)))) (R2 n)) 1 belT) idn (R2 n) = M := ⟨_, rfl⟩
  have e1 := ev24 n b a1 a3 hmo _ M rfl hM i2
  obtain ⟨w, hp, e2, hw⟩ := evgf_TransversalsOf n b a1 a3 hmo _ M rfl hM i1
  clear hM
  rcases hw with ⟨rfl, rfl, rfl⟩ | ⟨k, hk, rfl, rfl, hl⟩
  · refine has5.eev rfl rfl ?_
    unfold m5
    repeat' (first
      | (refine g_op ?_; first
        | refine ep_mov rfl ?_ | refine sp_loadN rfl rfl rfl rfl rfl ?_
        | refine ep_call0 rfl (by first | exact e1 | exact ev17 _ _ | exact e2 | exact ev19_nils_emp | exact ev20_nils | exact ev21_nils) rfl rfl ?_
        | refine sp_call rfl rfl rfl rfl (by first | exact e1 | exact ev17 _ _ | exact e2 | exact ev19_nils_emp | exact ev20_nils | exact ev21_nils) ⟨rfl, rfl, rfl, rfl⟩ rfl rfl rfl ?_
        | refine ep_bin rfl rfl (by first | exact b_add (by omega) (by omega) | exact b_sub (by omega) (by omega) | exact b_and (by omega) (by omega) | exact b_or (by omega) (by omega) | exact b_shr (by omega) | exact b_shl (by omega) (by omega) | exact b_lss | exact b_leq | exact b_gtr | exact b_geq | exact b_eql | exact b_neq) ?_
        | refine ep_pickT rfl rfl ?_ | refine ep_pickF rfl rfl ?_ | refine ep_pickTH rfl (by assumption) rfl ?_ | refine ep_pickFH rfl (by assumption) rfl ?_ | refine ep_extract rfl rfl ?_ | refine ep_not rfl ?_
        | refine sp_box rfl rfl rfl rfl rfl ?_)
      | (refine g_ops ?_; first | refine eo_none ?_ | refine eo_nil ?_ | refine eo_yes rfl ?_ | refine eo_no rfl ?_ | refine eo_und rfl ?_ | refine eo_yesH rfl (by assumption) ?_ | refine eo_noH rfl (by assumption) ?_)
      | (refine g_code ?_; first | refine ec_seq ?_ | refine ec_region ?_ | refine ec_skip ?_ | refine ec_ret ?_ | refine ec_condT rfl ?_ | refine ec_condF rfl ?_ | refine ec_condTH rfl (by assumption) ?_ | refine ec_condFH rfl (by assumption) ?_)
      | refine ek_seqN ?_ | refine ek_seqR ?_)
    refine sfin (.inr rfl) (by rfl) (by rfl) (by exact ⟨rfl, rfl, rfl⟩) (by rfl) (by rfl) (by rfl) (by first | rfl | (simp; done) | (simp [ints, prs]; done))
  · have e4 := evmark_ge M.length (ints (M ++ List.replicate k 0)) (by omega) (by rw [ints_len, List.length_append]; omega)
    have e5 := ev21 M.length (ints (M ++ List.replicate k 0)) (by omega)
    have q1 : decide (((M.length + 1 : Nat) : Int) < 0) = false := decide_eq_false (by omega)
    have q2 : (((M.length + 1 : Nat) : Int) != (M.length + 1 : Nat)) = false := by simp
    cases M with
    | nil =>
      refine has5.eev rfl rfl ?_
      unfold m5
      repeat' (first
        | (refine g_op ?_; first
          | refine ep_mov rfl ?_ | refine sp_loadN rfl rfl rfl rfl rfl ?_
          | refine ep_call0 rfl (by first | exact e1 | exact ev17 _ _ | exact e2 | exact eveq_s0 _ | exact e4 | exact e5) rfl rfl ?_
          | refine sp_call rfl rfl rfl rfl (by first | exact e1 | exact ev17 _ _ | exact e2 | exact eveq_s0 _ | exact e4 | exact e5) ⟨rfl, rfl, rfl, rfl⟩ rfl rfl rfl ?_
          | refine ep_bin rfl rfl (by first | exact b_add (by omega) (by omega) | exact b_sub (by omega) (by omega) | exact b_and (by omega) (by omega) | exact b_or (by omega) (by omega) | exact b_shr (by omega) | exact b_shl (by omega) (by omega) | exact b_lss | exact b_leq | exact b_gtr | exact b_geq | exact b_eql | exact b_neq) ?_
          | refine ep_pickT rfl rfl ?_ | refine ep_pickF rfl rfl ?_ | refine ep_pickTH rfl (by assumption) rfl ?_ | refine ep_pickFH rfl (by assumption) rfl ?_ | refine ep_extract rfl rfl ?_ | refine ep_not rfl ?_
          | refine sp_box rfl rfl rfl rfl rfl ?_)
        | (refine g_ops ?_; first | refine eo_none ?_ | refine eo_nil ?_ | refine eo_yes rfl ?_ | refine eo_no rfl ?_ | refine eo_und rfl ?_ | refine eo_yesH rfl (by assumption) ?_ | refine eo_noH rfl (by assumption) ?_)
        | (refine g_code ?_; first | refine ec_seq ?_ | refine ec_region ?_ | refine ec_skip ?_ | refine ec_ret ?_ | refine ec_condT rfl ?_ | refine ec_condF rfl ?_ | refine ec_condTH rfl (by assumption) ?_ | refine ec_condFH rfl (by assumption) ?_)
        | refine ek_seqN ?_ | refine ek_seqR ?_)
      refine sfin (.inr rfl) (by rfl) (by rfl) (by exact ⟨rfl, rfl, rfl⟩) (by rfl) (by rfl) (by rfl) (by first | rfl | (simp; done) | (simp [ints, prs]; done))
    | cons x xs =>
      have e3 := ev19 (x :: xs).length (ints ((x :: xs) ++ List.replicate k 0)) (ints (x :: xs)) (fun j => (((x :: xs).getD j 0 : Nat) : Int)) (some 0) (some 0) (by omega) (fun j hj => ints_app hj) (fun j hj => ints_get hj)
      refine has5.eev rfl rfl ?_
      unfold m5
      repeat' (first
        | (refine g_op ?_; first
          | refine ep_mov rfl ?_ | refine sp_loadN rfl rfl rfl rfl rfl ?_
          | refine ep_call0 rfl (by first | exact e1 | exact ev17 _ _ | exact e2 | exact e3 | exact e4 | exact e5) rfl rfl ?_
          | refine sp_call rfl rfl rfl rfl (by first | exact e1 | exact ev17 _ _ | exact e2 | exact e3 | exact e4 | exact e5) ⟨rfl, rfl, rfl, rfl⟩ rfl rfl rfl ?_
          | refine ep_bin rfl rfl (by first | exact b_add (by omega) (by omega) | exact b_sub (by omega) (by omega) | exact b_and (by omega) (by omega) | exact b_or (by omega) (by omega) | exact b_shr (by omega) | exact b_shl (by omega) (by omega) | exact b_lss | exact b_leq | exact b_gtr | exact b_geq | exact b_eql | exact b_neq) ?_
          | refine ep_pickT rfl rfl ?_ | refine ep_pickF rfl rfl ?_ | refine ep_pickTH rfl (by assumption) rfl ?_ | refine ep_pickFH rfl (by assumption) rfl ?_ | refine ep_extract rfl rfl ?_ | refine ep_not rfl ?_
          | refine sp_box rfl rfl rfl rfl rfl ?_)
        | (refine g_ops ?_; first | refine eo_none ?_ | refine eo_nil ?_ | refine eo_yes rfl ?_ | refine eo_no rfl ?_ | refine eo_und rfl ?_ | refine eo_yesH rfl (by assumption) ?_ | refine eo_noH rfl (by assumption) ?_)
        | (refine g_code ?_; first | refine ec_seq ?_ | refine ec_region ?_ | refine ec_skip ?_ | refine ec_ret ?_ | refine ec_condT rfl ?_ | refine ec_condF rfl ?_ | refine ec_condTH rfl (by assumption) ?_ | refine ec_condFH rfl (by assumption) ?_)
        | refine ek_seqN ?_ | refine ek_seqR ?_)
      refine sfin (.inr rfl) (by rfl) (by rfl) (by exact ⟨rfl, rfl, rfl⟩) (by rfl) (by rfl) (by rfl) (by first | rfl | (simp; done) | (simp [ints, prs]; done))


end Go.Proofs.Ytdmpajkcpdjfbaa
