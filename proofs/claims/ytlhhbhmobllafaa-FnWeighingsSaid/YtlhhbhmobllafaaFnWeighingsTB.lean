/- What each function that the statement reaches returns. -/
import Derived.Test.YtlhhbhmobllafaaFnWeighingsTA
set_option linter.unusedVariables false
set_option linter.unusedSimpArgs false
set_option maxRecDepth 100000
set_option maxHeartbeats 4000000
namespace Go.Proofs.Ytlhhbhmobllafaa
open Go Go.Proofs.Ytlhhbhmobllafaa.Mi
attribute [local irreducible] code opsK opsDK gopK opK seqK blockK callK binV
attribute [local irreducible] R2 bt
-- (impl.Func).levels
def m51_0 : MC := (.seq (.region [⟨(.bin .lss (.t 14) (.t 13)), (some 15), none⟩] false) (.seq (.cond (.t 15) .skip (.exit 0)) (.seq (.block 1 (.seq (.region [⟨(.mov (.t 14)), (some 16), none⟩, ⟨(.mov (.t 16)), (some 5), none⟩] false) (.seq (.region [⟨(.mov (.t 5)), (some 17), none⟩, ⟨(.call 57 [(.t 17)]), (some 18), none⟩, ⟨(.mov (.t 18)), (some 6), none⟩] false) (.seq (.seq (.region [⟨(.mov (.t 4)), (some 19), none⟩, ⟨(.mov (.t 6)), (some 20), none⟩, ⟨(.indexAddr 1 (.t 19) (.t 20)), (some 21), none⟩, ⟨(.load none (.t 21)), (some 22), none⟩, ⟨(.bin .geq (.t 22) (.k (.int .i64 0))), (some 23), none⟩, ⟨(.mov (.t 23)), (some 24), none⟩, ⟨(.mov (.t 4)), (some 25), (some (24, true))⟩, ⟨(.mov (.t 6)), (some 26), (some (24, true))⟩, ⟨(.indexAddr 1 (.t 25) (.t 26)), (some 27), (some (24, true))⟩, ⟨(.load none (.t 27)), (some 28), (some (24, true))⟩, ⟨(.load (some 2) (.t 1)), (some 29), (some (24, true))⟩, ⟨(.mov (.t 5)), (some 30), (some (24, true))⟩, ⟨(.call 73 [(.t 29), (.t 30)]), (some 31), (some (24, true))⟩, ⟨(.bin .neq (.t 28) (.t 31)), (some 32), (some (24, true))⟩, ⟨(.pick (.t 24) (.t 32) (.k (.bool false))), (some 33), none⟩] true) (.cond (.t 33) (.seq (.region [⟨(.mov (.k .nils)), (some 2), none⟩, ⟨(.mov (.k (.bool false))), (some 3), none⟩] false) .ret) .skip)) (.region [⟨(.mov (.t 4)), (some 34), none⟩, ⟨(.mov (.t 6)), (some 35), none⟩, ⟨(.load (some 2) (.t 1)), (some 36), none⟩, ⟨(.mov (.t 5)), (some 37), none⟩, ⟨(.call 73 [(.t 36), (.t 37)]), (some 38), none⟩, ⟨(.indexAddr 1 (.t 34) (.t 35)), (some 39), none⟩, ⟨(.store 1 (.t 39) (.t 38)), none, none⟩] false))))) (.region [⟨(.bin .add (.t 14) (.k (.int .i64 1))), (some 40), none⟩, ⟨(.mov (.t 40)), (some 14), none⟩] false))))
def m51 : MC := (.seq (.region [⟨(.box (.t 0)), (some 1), none⟩, ⟨(.mov (.k .nils)), (some 2), none⟩, ⟨(.mov (.k (.bool false))), (some 3), none⟩] false) (.seq (.region [⟨(.bslice 1 [(.int .i64 0)] 1 [(0, (1, (.k (.int .i64 (-1)))))]), (some 7), none⟩, ⟨(.fieldAddr 0 (.t 1)), (some 8), none⟩, ⟨(.load none (.t 8)), (some 9), none⟩, ⟨(.bin .add (.t 9) (.k (.int .i64 1))), (some 10), none⟩, ⟨(.call 82 [(.t 7), (.t 10)]), (some 11), none⟩, ⟨(.mov (.t 11)), (some 4), none⟩] false) (.seq (.seq (.region [⟨(.load (some 2) (.t 1)), (some 12), none⟩, ⟨(.call 71 [(.t 12)]), (some 13), none⟩, ⟨(.mov (.k (.int .i64 0))), (some 14), none⟩] false) (.block 0 (.loop m51_0))) (.seq (.region [⟨(.mov (.t 4)), (some 41), none⟩, ⟨(.mov (.t 41)), (some 2), none⟩, ⟨(.mov (.k (.bool true))), (some 3), none⟩] false) .ret))))
theorem has51 : Has cx 51 42 m51 [(.tmp 2), (.tmp 3)] :=
  ⟨⟨Try.f51, Try.f51.body.getD .skip, by kernel_rfl, by kernel_rfl, by kernel_rfl, by kernel_rfl, by kernel_rfl, by kernel_rfl⟩⟩
theorem lplv (n b : Nat) (hn : n ≤ 4) (hb : b < 65536) (o : Out) (ho : (if allF (lvP b) 0 (R2 n) = true then (⟨.exit 0, [(4, .sl 0 0 (n + 1))], [⟨zints (levL n b (R2 n)), 1, 0, some 0, false⟩]⟩ : Out) else ⟨.ret, [(2, .nils), (3, .bool false)], []⟩) = o) :
    LpS cx 42 0 m51_0 [(1, .ptr 0 0), (4, .sl 1 0 (n + 1)), (13, .int .i64 (R2 n : Nat)), (14, .int .i64 (0 : Nat))] [⟨[.int .i64 n, .int .i64 b], 1, 0, some 0, true⟩, ⟨zints (levL n b (0)), 1, 1, some 0, false⟩] o.x o.e o.h := by
  refine lp_all (R2 n) (lvP b) (fun i => [(1, .ptr 0 0), (4, .sl 1 0 (n + 1)), (13, .int .i64 (R2 n : Nat)), (14, .int .i64 (i : Nat))]) (fun i => [⟨[.int .i64 n, .int .i64 b], 1, 0, some 0, true⟩, ⟨zints (levL n b (i)), 1, 1, some 0, false⟩]) _ _ ?_ ?_ ?_ (R2 n) 0 o (by omega) ho
  · intro i hi hp
    have hlt : decide ((i : Int) < (R2 n : Nat)) = true := decide_eq_true (by omega)
    have hp' : ((lvP b) i) = true := hp
    obtain ⟨h1, h2, h3, h4⟩ := shN hn
    obtain ⟨f1, f2⟩ := lvF i (by omega)
    have hpn := pop_nn hn hi
    have hll := levL_len n b i
    have hzl := zints_len (levL n b i)
    have hget := zints_get (l := levL n b i) (j := pop i 16) (by omega)
    rw [levL_at hpn] at hget
    have hb1 := bt_le b i
    have e1 := ev57 i (by omega) (swar16 i (by omega))
    have hset := zints_set (D := levL n b i) (b := pop i 16) (d := ((bt b i : Nat) : Int)) (by omega)
    rw [levL_s hn hi hp] at hset
    have hv : bt b i = bt b (R2 (pop i 16) - 1) := by simpa [lvP] using hp
    rcases Nat.lt_or_ge (R2 (pop i 16) - 1) i with hs | hs
    · rw [if_pos hs] at hget
      have q1 : decide (((bt b (R2 (pop i 16) - 1) : Nat) : Int) ≥ 0) = true := decide_eq_true (by omega)
      have q2 : (((bt b (R2 (pop i 16) - 1) : Nat) : Int) != ((bt b i : Nat) : Int)) = false := by rw [hv]; simp
      unfold m51_0
      repeat' (first
        | refine ep_loadS rfl rfl rfl hget ?_
        | refine sp_storeS rfl rfl rfl rfl rfl rfl rfl (Nat.zero_le _) (by omega) hset rfl ?_
        | (refine g_op ?_; first
          | refine ep_mov rfl ?_ | refine ep_load1 rfl rfl rfl rfl ?_ | refine sp_loadN rfl rfl rfl rfl rfl ?_
          | refine ep_call0 rfl (by first | exact e1 | exact ev73 n b i (by omega) (by omega)) rfl rfl ?_
          | refine sp_call rfl rfl rfl rfl (by first | exact e1 | exact ev73 n b i (by omega) (by omega)) ⟨rfl, rfl, rfl, rfl⟩ rfl rfl rfl ?_
          | refine ep_bin rfl rfl (by first | exact b_add (by omega) (by omega) | exact b_lss | exact b_geq | exact b_neq) ?_ | refine ep_pickT rfl rfl ?_ | refine ep_pickF rfl rfl ?_ | refine ep_pickTH rfl (by assumption) rfl ?_
          | refine ep_pickFH rfl (by assumption) rfl ?_ | refine sp_store rfl rfl rfl rfl rfl rfl rfl rfl rfl rfl ?_ | refine sp_idx rfl rfl rfl (by omega) rfl ?_ | refine ep_loadS rfl rfl rfl (by first | exact ints_get (by omega) | exact zints_get (by omega) | exact fget (by omega) | assumption) ?_
          | refine ep_loadSN rfl rfl rfl (by first | exact prs_get (by omega) | exact fns_get (by omega)) ?_)
        | (refine g_ops ?_; first | refine eo_none ?_ | refine eo_nil ?_ | refine eo_yes rfl ?_ | refine eo_no rfl ?_ | refine eo_und rfl ?_ | refine eo_yesH rfl (by assumption) ?_ | refine eo_noH rfl (by assumption) ?_)
        | (refine g_dops ?_; first | refine ed_none ?_ | refine ed_nil ?_ | refine ed_yes rfl ?_ | refine ed_no rfl ?_ | refine ed_und rfl ?_ | refine ed_yesH rfl (by assumption) ?_ | refine ed_noH rfl (by assumption) ?_)
        | refine ed_same rfl ?_ | refine ed_one rfl rfl rfl rfl ?_ | refine ed_two rfl rfl rfl rfl rfl rfl rfl ?_ | refine ed_write rfl rfl ?_
        | (refine g_code ?_; first | refine ec_seq ?_ | refine ec_region ?_ | refine ec_draw ?_ | refine ec_block ?_ | refine ec_skip ?_ | refine ec_exit ?_ | refine ec_ret ?_ | refine ec_condT rfl ?_ | refine ec_condF rfl ?_ | refine ec_condTH rfl (by assumption) ?_ | refine ec_condFH rfl (by assumption) ?_)
        | refine ek_seqN ?_ | refine ek_seqX ?_ | refine ek_seqR ?_ | refine ek_blkN ?_ | refine ek_blkR ?_ | refine ek_blkX ?_ | refine ek_blkY rfl ?_)
      exact rnd_on (by rfl) (scmp2 (by rfl) (by rfl) (by exact ⟨rfl, rfl, rfl⟩) (by rfl) (by first | rfl | (simp; done) | (simp [ints, prs]; done)) (by rfl) (by first | rfl | (simp; done) | (simp [ints, prs]; done)))
    · rw [if_neg (by omega)] at hget
      have q1 : decide ((-1 : Int) ≥ 0) = false := by decide
      unfold m51_0
      repeat' (first
        | refine ep_loadS rfl rfl rfl hget ?_
        | refine sp_storeS rfl rfl rfl rfl rfl rfl rfl (Nat.zero_le _) (by omega) hset rfl ?_
        | (refine g_op ?_; first
          | refine ep_mov rfl ?_ | refine ep_load1 rfl rfl rfl rfl ?_ | refine sp_loadN rfl rfl rfl rfl rfl ?_
          | refine ep_call0 rfl (by first | exact e1 | exact ev73 n b i (by omega) (by omega)) rfl rfl ?_
          | refine sp_call rfl rfl rfl rfl (by first | exact e1 | exact ev73 n b i (by omega) (by omega)) ⟨rfl, rfl, rfl, rfl⟩ rfl rfl rfl ?_
          | refine ep_bin rfl rfl (by first | exact b_add (by omega) (by omega) | exact b_lss | exact b_geq | exact b_neq) ?_ | refine ep_pickT rfl rfl ?_ | refine ep_pickF rfl rfl ?_ | refine ep_pickTH rfl (by assumption) rfl ?_
          | refine ep_pickFH rfl (by assumption) rfl ?_ | refine sp_store rfl rfl rfl rfl rfl rfl rfl rfl rfl rfl ?_ | refine sp_idx rfl rfl rfl (by omega) rfl ?_ | refine ep_loadS rfl rfl rfl (by first | exact ints_get (by omega) | exact zints_get (by omega) | exact fget (by omega) | assumption) ?_
          | refine ep_loadSN rfl rfl rfl (by first | exact prs_get (by omega) | exact fns_get (by omega)) ?_)
        | (refine g_ops ?_; first | refine eo_none ?_ | refine eo_nil ?_ | refine eo_yes rfl ?_ | refine eo_no rfl ?_ | refine eo_und rfl ?_ | refine eo_yesH rfl (by assumption) ?_ | refine eo_noH rfl (by assumption) ?_)
        | (refine g_dops ?_; first | refine ed_none ?_ | refine ed_nil ?_ | refine ed_yes rfl ?_ | refine ed_no rfl ?_ | refine ed_und rfl ?_ | refine ed_yesH rfl (by assumption) ?_ | refine ed_noH rfl (by assumption) ?_)
        | refine ed_same rfl ?_ | refine ed_one rfl rfl rfl rfl ?_ | refine ed_two rfl rfl rfl rfl rfl rfl rfl ?_ | refine ed_write rfl rfl ?_
        | (refine g_code ?_; first | refine ec_seq ?_ | refine ec_region ?_ | refine ec_draw ?_ | refine ec_block ?_ | refine ec_skip ?_ | refine ec_exit ?_ | refine ec_ret ?_ | refine ec_condT rfl ?_ | refine ec_condF rfl ?_ | refine ec_condTH rfl (by assumption) ?_ | refine ec_condFH rfl (by assumption) ?_)
        | refine ek_seqN ?_ | refine ek_seqX ?_ | refine ek_seqR ?_ | refine ek_blkN ?_ | refine ek_blkR ?_ | refine ek_blkX ?_ | refine ek_blkY rfl ?_)
      exact rnd_on (by rfl) (scmp2 (by rfl) (by rfl) (by exact ⟨rfl, rfl, rfl⟩) (by rfl) (by first | rfl | (simp; done) | (simp [ints, prs]; done)) (by rfl) (by first | rfl | (simp; done) | (simp [ints, prs]; done)))
  · intro i hi hp
    have hlt : decide ((i : Int) < (R2 n : Nat)) = true := decide_eq_true (by omega)
    have hp' : ((lvP b) i) = false := hp
    obtain ⟨h1, h2, h3, h4⟩ := shN hn
    obtain ⟨f1, f2⟩ := lvF i (by omega)
    have hpn := pop_nn hn hi
    have hll := levL_len n b i
    have hzl := zints_len (levL n b i)
    have hget := zints_get (l := levL n b i) (j := pop i 16) (by omega)
    rw [levL_at hpn] at hget
    have hb1 := bt_le b i
    have e1 := ev57 i (by omega) (swar16 i (by omega))
    have hv : bt b i ≠ bt b (R2 (pop i 16) - 1) := by simpa [lvP] using hp
    have hs : R2 (pop i 16) - 1 < i := by
      rcases Nat.lt_or_ge (R2 (pop i 16) - 1) i with h | h
      · exact h
      · have : R2 (pop i 16) - 1 = i := by omega
        exact absurd (by rw [this]) hv
    rw [if_pos hs] at hget
    have q1 : decide (((bt b (R2 (pop i 16) - 1) : Nat) : Int) ≥ 0) = true := decide_eq_true (by omega)
    have q2 : (((bt b (R2 (pop i 16) - 1) : Nat) : Int) != ((bt b i : Nat) : Int)) = true := by simp; omega
    unfold m51_0
    repeat' (first
      | refine ep_loadS rfl rfl rfl hget ?_
      | refine sp_storeS rfl rfl rfl rfl rfl rfl rfl (Nat.zero_le _) (by omega) hset rfl ?_
      | (refine g_op ?_; first
        | refine ep_mov rfl ?_ | refine ep_load1 rfl rfl rfl rfl ?_ | refine sp_loadN rfl rfl rfl rfl rfl ?_
        | refine ep_call0 rfl (by first | exact e1 | exact ev73 n b i (by omega) (by omega)) rfl rfl ?_
        | refine sp_call rfl rfl rfl rfl (by first | exact e1 | exact ev73 n b i (by omega) (by omega)) ⟨rfl, rfl, rfl, rfl⟩ rfl rfl rfl ?_
        | refine ep_bin rfl rfl (by first | exact b_add (by omega) (by omega) | exact b_lss | exact b_geq | exact b_neq) ?_ | refine ep_pickT rfl rfl ?_ | refine ep_pickF rfl rfl ?_ | refine ep_pickTH rfl (by assumption) rfl ?_
        | refine ep_pickFH rfl (by assumption) rfl ?_ | refine sp_store rfl rfl rfl rfl rfl rfl rfl rfl rfl rfl ?_ | refine sp_idx rfl rfl rfl (by omega) rfl ?_ | refine ep_loadS rfl rfl rfl (by first | exact ints_get (by omega) | exact zints_get (by omega) | exact fget (by omega) | assumption) ?_
        | refine ep_loadSN rfl rfl rfl (by first | exact prs_get (by omega) | exact fns_get (by omega)) ?_)
      | (refine g_ops ?_; first | refine eo_none ?_ | refine eo_nil ?_ | refine eo_yes rfl ?_ | refine eo_no rfl ?_ | refine eo_und rfl ?_ | refine eo_yesH rfl (by assumption) ?_ | refine eo_noH rfl (by assumption) ?_)
      | (refine g_dops ?_; first | refine ed_none ?_ | refine ed_nil ?_ | refine ed_yes rfl ?_ | refine ed_no rfl ?_ | refine ed_und rfl ?_ | refine ed_yesH rfl (by assumption) ?_ | refine ed_noH rfl (by assumption) ?_)
      | refine ed_same rfl ?_ | refine ed_one rfl rfl rfl rfl ?_ | refine ed_two rfl rfl rfl rfl rfl rfl rfl ?_ | refine ed_write rfl rfl ?_
      | (refine g_code ?_; first | refine ec_seq ?_ | refine ec_region ?_ | refine ec_draw ?_ | refine ec_block ?_ | refine ec_skip ?_ | refine ec_exit ?_ | refine ec_ret ?_ | refine ec_condT rfl ?_ | refine ec_condF rfl ?_ | refine ec_condTH rfl (by assumption) ?_ | refine ec_condFH rfl (by assumption) ?_)
      | refine ek_seqN ?_ | refine ek_seqX ?_ | refine ek_seqR ?_ | refine ek_blkN ?_ | refine ek_blkR ?_ | refine ek_blkX ?_ | refine ek_blkY rfl ?_)
    exact rnd_out (by rfl) (by simp) (scmp2 (by rfl) (by rfl) (by exact ⟨rfl, rfl, rfl⟩) (by rfl) (by first | rfl | (simp; done) | (simp [ints, prs]; done)) (by rfl) (by first | rfl | (simp; done) | (simp [ints, prs]; done)))
  · have hlt : decide (((R2 n : Nat) : Int) < (R2 n : Nat)) = false := decide_eq_false (by omega)
    unfold m51_0
    repeat' (first
      | (refine g_op ?_; first
        | refine ep_mov rfl ?_ | refine ep_load1 rfl rfl rfl rfl ?_ | refine sp_loadN rfl rfl rfl rfl rfl ?_
        | refine ep_bin rfl rfl (by first | exact b_add (by omega) (by omega) | exact b_lss | exact b_geq | exact b_neq) ?_ | refine ep_pickT rfl rfl ?_ | refine ep_pickF rfl rfl ?_ | refine ep_pickTH rfl (by assumption) rfl ?_
        | refine ep_pickFH rfl (by assumption) rfl ?_ | refine sp_store rfl rfl rfl rfl rfl rfl rfl rfl rfl rfl ?_ | refine sp_idx rfl rfl rfl (by omega) rfl ?_ | refine ep_loadS rfl rfl rfl (by first | exact ints_get (by omega) | exact zints_get (by omega) | exact fget (by omega) | assumption) ?_
        | refine ep_loadSN rfl rfl rfl (by first | exact prs_get (by omega) | exact fns_get (by omega)) ?_)
      | (refine g_ops ?_; first | refine eo_none ?_ | refine eo_nil ?_ | refine eo_yes rfl ?_ | refine eo_no rfl ?_ | refine eo_und rfl ?_ | refine eo_yesH rfl (by assumption) ?_ | refine eo_noH rfl (by assumption) ?_)
      | (refine g_dops ?_; first | refine ed_none ?_ | refine ed_nil ?_ | refine ed_yes rfl ?_ | refine ed_no rfl ?_ | refine ed_und rfl ?_ | refine ed_yesH rfl (by assumption) ?_ | refine ed_noH rfl (by assumption) ?_)
      | refine ed_same rfl ?_ | refine ed_one rfl rfl rfl rfl ?_ | refine ed_two rfl rfl rfl rfl rfl rfl rfl ?_ | refine ed_write rfl rfl ?_
      | (refine g_code ?_; first | refine ec_seq ?_ | refine ec_region ?_ | refine ec_draw ?_ | refine ec_block ?_ | refine ec_skip ?_ | refine ec_exit ?_ | refine ec_ret ?_ | refine ec_condT rfl ?_ | refine ec_condF rfl ?_ | refine ec_condTH rfl (by assumption) ?_ | refine ec_condFH rfl (by assumption) ?_)
      | refine ek_seqN ?_ | refine ek_seqX ?_ | refine ek_seqR ?_ | refine ek_blkN ?_ | refine ek_blkR ?_ | refine ek_blkX ?_ | refine ek_blkY rfl ?_)
    exact rnd_out (by rfl) (by simp) (scmp2 (by rfl) (by rfl) (by exact ⟨rfl, rfl, rfl⟩) (by rfl) (by first | rfl | (simp; done) | (simp [ints, prs]; done)) (by rfl) (by first | rfl | (simp; done) | (simp [ints, prs]; done)))

theorem ev51 (n b : Nat) (hn : n ≤ 4) (hb : b < 65536) : Ev cx 51 [.agg [.int .i64 n, .int .i64 b]] [] (if allF (lvP b) 0 (R2 n) = true then .tup [.sl 0 0 (n + 1), .bool true] else .tup [.nils, .bool false]) (if allF (lvP b) 0 (R2 n) = true then [⟨zints (levL n b (R2 n)), 1, 0, some 0, false⟩] else []) := by
  have e1 := evrep5 (n + 1) (-1) (by omega) (by omega)
  rw [← levL_0 n b] at e1
  have hadd := b_addN (a := n) (b := 1) (by omega)
  cases hs : allF (lvP b) 0 (R2 n)
  · have lp := lplv n b hn hb _ (if_neg (by rw [hs]; simp))
    rw [if_neg (by simp), if_neg (by simp)]
    refine has51.eev rfl rfl ?_
    unfold m51
    repeat' (first
      | refine sc_loop lp rfl rfl ⟨rfl, rfl, rfl⟩ rfl rfl rfl ?_
      | (refine g_op ?_; first
        | refine ep_mov rfl ?_ | refine ep_load1 rfl rfl rfl rfl ?_ | refine ep_fieldAddr rfl ?_ | refine sp_loadN rfl rfl rfl rfl rfl ?_
        | refine ep_call0 rfl (by first | exact e1 | exact ev71 _ _ hn) rfl rfl ?_
        | refine sp_call rfl rfl rfl rfl (by first | exact e1 | exact ev71 _ _ hn) ⟨rfl, rfl, rfl, rfl⟩ rfl rfl rfl ?_
        | refine ep_bin rfl rfl (by first | exact hadd | exact b_add (by omega) (by omega)) ?_ | refine sp_box rfl rfl rfl rfl rfl ?_ | refine sp_bslice rfl rfl rfl rfl rfl ?_)
      | (refine g_ops ?_; first | refine eo_none ?_ | refine eo_nil ?_)
      | (refine g_code ?_; first | refine ec_seq ?_ | refine ec_region ?_ | refine ec_block ?_ | refine ec_ret ?_)
      | refine ek_seqN ?_ | refine ek_seqX ?_ | refine ek_seqR ?_ | refine ek_blkN ?_ | refine ek_blkR ?_ | refine ek_blkX ?_ | refine ek_blkY rfl ?_)
    refine sfin (.inr rfl) (by rfl) (by rfl) (by exact ⟨rfl, rfl, rfl⟩) (by rfl) (by rfl) (by rfl) (by first | rfl | (simp; done) | (simp [ints, prs]; done))
  · have lp := lplv n b hn hb _ (if_pos hs)
    rw [if_pos rfl, if_pos rfl]
    refine has51.eev rfl rfl ?_
    unfold m51
    repeat' (first
      | refine sc_loop lp rfl rfl ⟨rfl, rfl, rfl⟩ rfl rfl rfl ?_
      | (refine g_op ?_; first
        | refine ep_mov rfl ?_ | refine ep_load1 rfl rfl rfl rfl ?_ | refine ep_fieldAddr rfl ?_ | refine sp_loadN rfl rfl rfl rfl rfl ?_
        | refine ep_call0 rfl (by first | exact e1 | exact ev71 _ _ hn) rfl rfl ?_
        | refine sp_call rfl rfl rfl rfl (by first | exact e1 | exact ev71 _ _ hn) ⟨rfl, rfl, rfl, rfl⟩ rfl rfl rfl ?_
        | refine ep_bin rfl rfl (by first | exact hadd | exact b_add (by omega) (by omega)) ?_ | refine sp_box rfl rfl rfl rfl rfl ?_ | refine sp_bslice rfl rfl rfl rfl rfl ?_)
      | (refine g_ops ?_; first | refine eo_none ?_ | refine eo_nil ?_)
      | (refine g_code ?_; first | refine ec_seq ?_ | refine ec_region ?_ | refine ec_block ?_ | refine ec_ret ?_)
      | refine ek_seqN ?_ | refine ek_seqX ?_ | refine ek_seqR ?_ | refine ek_blkN ?_ | refine ek_blkR ?_ | refine ek_blkX ?_ | refine ek_blkY rfl ?_)
    refine sfin (.inr rfl) (by rfl) (by rfl) (by exact ⟨rfl, rfl, rfl⟩) (by rfl) (by rfl) (by rfl) (by first | rfl | (simp; done) | (simp [ints, prs]; done))
-- impl.LevelsOf
def m18 : MC := (.seq (.region [⟨(.box (.t 0)), (some 1), none⟩, ⟨(.mov (.k .nils)), (some 2), none⟩, ⟨(.mov (.k (.int .i64 0))), (some 3), none⟩] false) (.seq (.seq (.region [⟨(.load (some 2) (.t 1)), (some 6), none⟩, ⟨(.call 27 [(.t 6)]), (some 7), none⟩, ⟨(.un .not (.t 7)), (some 8), none⟩] false) (.cond (.t 8) (.seq (.region [⟨(.mov (.k .nils)), (some 2), none⟩, ⟨(.mov (.k (.int .i64 1))), (some 3), none⟩] false) .ret) .skip)) (.seq (.region [⟨(.load (some 2) (.t 1)), (some 10), none⟩, ⟨(.call 51 [(.t 10)]), (some 11), none⟩, ⟨(.mov (.t 11)), (some 9), none⟩, ⟨(.extract (.t 9) 0), (some 12), none⟩, ⟨(.extract (.t 9) 1), (some 13), none⟩, ⟨(.mov (.t 12)), (some 4), none⟩, ⟨(.mov (.t 13)), (some 5), none⟩] false) (.seq (.seq (.region [⟨(.mov (.t 5)), (some 14), none⟩, ⟨(.un .not (.t 14)), (some 15), none⟩] false) (.cond (.t 15) (.seq (.region [⟨(.mov (.k .nils)), (some 2), none⟩, ⟨(.mov (.k (.int .i64 5))), (some 3), none⟩] false) .ret) .skip)) (.seq (.region [⟨(.mov (.t 4)), (some 16), none⟩, ⟨(.mov (.t 16)), (some 2), none⟩, ⟨(.mov (.k (.int .i64 0))), (some 3), none⟩] false) .ret)))))
theorem has18 : Has cx 18 17 m18 [(.tmp 2), (.tmp 3)] :=
  ⟨⟨Try.f18, Try.f18.body.getD .skip, by kernel_rfl, by kernel_rfl, by kernel_rfl, by kernel_rfl, by kernel_rfl, by kernel_rfl⟩⟩
theorem ev18_bad (p t : Int) (h1 : isFn p t = false) : Ev cx 18 [.agg [.int .i64 p, .int .i64 t]] [] (.tup [.nils, .int .i64 1]) [] := by
  have e1 := ev27 p t
  rw [h1] at e1
  refine has18.eev rfl rfl ?_
  unfold m18
  repeat' (first
    | (refine g_op ?_; first
      | refine ep_mov rfl ?_ | refine sp_loadN rfl rfl rfl rfl rfl ?_
      | refine ep_call0 rfl (by first | exact e1) rfl rfl ?_
      | refine sp_call rfl rfl rfl rfl (by first | exact e1) ⟨rfl, rfl, rfl, rfl⟩ rfl rfl rfl ?_
      | refine ep_extract rfl rfl ?_ | refine ep_not rfl ?_ | refine sp_box rfl rfl rfl rfl rfl ?_)
    | (refine g_ops ?_; first | refine eo_none ?_ | refine eo_nil ?_)
    | (refine g_code ?_; first | refine ec_seq ?_ | refine ec_region ?_ | refine ec_skip ?_ | refine ec_ret ?_ | refine ec_condT rfl ?_ | refine ec_condF rfl ?_ | refine ec_condTH rfl (by assumption) ?_ | refine ec_condFH rfl (by assumption) ?_)
    | refine ek_seqN ?_ | refine ek_seqR ?_)
  refine sfin (.inr rfl) (by rfl) (by rfl) (by exact ⟨rfl, rfl, rfl⟩) (by rfl) (by rfl) (by rfl) (by first | rfl | (simp; done) | (simp [ints, prs]; done))
theorem ev18_no (n b : Nat) (h1 : isFn n b = true) (hn : n ≤ 4) (hb : b < 65536) (hs : allF (lvP b) 0 (R2 n) = false) : Ev cx 18 [.agg [.int .i64 n, .int .i64 b]] [] (.tup [.nils, .int .i64 5]) [] := by
  have e1 := ev27 n b
  have e2 := ev51 n b hn hb
  rw [h1] at e1
  rw [hs, if_neg (by simp), if_neg (by simp)] at e2
  refine has18.eev rfl rfl ?_
  unfold m18
  repeat' (first
    | (refine g_op ?_; first
      | refine ep_mov rfl ?_ | refine sp_loadN rfl rfl rfl rfl rfl ?_
      | refine ep_call0 rfl (by first | exact e1 | exact e2) rfl rfl ?_
      | refine sp_call rfl rfl rfl rfl (by first | exact e1 | exact e2) ⟨rfl, rfl, rfl, rfl⟩ rfl rfl rfl ?_
      | refine ep_extract rfl rfl ?_ | refine ep_not rfl ?_ | refine sp_box rfl rfl rfl rfl rfl ?_)
    | (refine g_ops ?_; first | refine eo_none ?_ | refine eo_nil ?_)
    | (refine g_code ?_; first | refine ec_seq ?_ | refine ec_region ?_ | refine ec_skip ?_ | refine ec_ret ?_ | refine ec_condT rfl ?_ | refine ec_condF rfl ?_ | refine ec_condTH rfl (by assumption) ?_ | refine ec_condFH rfl (by assumption) ?_)
    | refine ek_seqN ?_ | refine ek_seqR ?_)
  refine sfin (.inr rfl) (by rfl) (by rfl) (by exact ⟨rfl, rfl, rfl⟩) (by rfl) (by rfl) (by rfl) (by first | rfl | (simp; done) | (simp [ints, prs]; done))
theorem ev18_ok (n b x : Nat) (xs : List Nat) (h1 : isFn n b = true) (hn : n ≤ 4) (hb : b < 65536) (hs : allF (lvP b) 0 (R2 n) = true) (hL : selm (fun _ => true) (lvH b) (n + 1) = x :: xs) : Ev cx 18 [.agg [.int .i64 n, .int .i64 b]] [] (.tup [.sl 0 0 (x :: xs).length, .int .i64 0]) [⟨ints (x :: xs), 1, 0, some 0, false⟩] := by
  have e1 := ev27 n b
  have e2 := ev51 n b hn hb
  have sa := (selm_all (g := lvH b) (n + 1)).1
  rw [h1] at e1
  rw [hs, if_pos rfl, if_pos rfl, levL_n, hL] at e2
  rw [hL] at sa
  rw [← sa] at e2
  refine has18.eev rfl rfl ?_
  unfold m18
  repeat' (first
    | (refine g_op ?_; first
      | refine ep_mov rfl ?_ | refine sp_loadN rfl rfl rfl rfl rfl ?_
      | refine ep_call0 rfl (by first | exact e1 | exact e2) rfl rfl ?_
      | refine sp_call rfl rfl rfl rfl (by first | exact e1 | exact e2) ⟨rfl, rfl, rfl, rfl⟩ rfl rfl rfl ?_
      | refine ep_extract rfl rfl ?_ | refine ep_not rfl ?_ | refine sp_box rfl rfl rfl rfl rfl ?_)
    | (refine g_ops ?_; first | refine eo_none ?_ | refine eo_nil ?_)
    | (refine g_code ?_; first | refine ec_seq ?_ | refine ec_region ?_ | refine ec_skip ?_ | refine ec_ret ?_ | refine ec_condT rfl ?_ | refine ec_condF rfl ?_ | refine ec_condTH rfl (by assumption) ?_ | refine ec_condFH rfl (by assumption) ?_)
    | refine ek_seqN ?_ | refine ek_seqR ?_)
  refine sfin (.inr rfl) (by rfl) (by rfl) (by exact ⟨rfl, rfl, rfl⟩) (by rfl) (by rfl) (by rfl) (by first | rfl | (simp; done) | (simp [ints, prs]; done))
-- spec.LevelsOf
def m19_0 : MC := (.seq (.seq (.region [⟨(.mov (.t 5)), (some 11), none⟩, ⟨(.fieldAddr 0 (.t 1)), (some 12), none⟩, ⟨(.load none (.t 12)), (some 13), none⟩, ⟨(.bin .leq (.t 11) (.t 13)), (some 14), none⟩] false) (.cond (.t 14) .skip (.exit 0))) (.seq (.block 1 (.region [⟨(.mov (.t 4)), (some 17), none⟩, ⟨(.load (some 2) (.t 1)), (some 18), none⟩, ⟨(.mov (.t 5)), (some 19), none⟩, ⟨(.call 53 [(.t 19)]), (some 20), none⟩, ⟨(.bin .sub (.t 20) (.k (.int .i64 1))), (some 21), none⟩, ⟨(.callw 52 [(.t 18), (.t 21)]), (some 22), none⟩, ⟨(.bslice 1 [(.int .i64 0)] 1 [(0, (1, (.t 22)))]), (some 23), none⟩, ⟨(.append 1 8 (.t 17) (.t 23)), (some 24), none⟩, ⟨(.mov (.t 24)), (some 4), none⟩] true)) (.region [⟨(.mov (.t 5)), (some 15), none⟩, ⟨(.bin .add (.t 15) (.k (.int .i64 1))), (some 16), none⟩, ⟨(.mov (.t 16)), (some 5), none⟩] false)))
def m19_1 : MC := (.seq (.seq (.region [⟨(.mov (.t 6)), (some 25), none⟩, ⟨(.fieldAddr 0 (.t 1)), (some 26), none⟩, ⟨(.load none (.t 26)), (some 27), none⟩, ⟨(.call 53 [(.t 27)]), (some 28), none⟩, ⟨(.bin .lss (.t 25) (.t 28)), (some 29), none⟩] false) (.cond (.t 29) .skip (.exit 2))) (.seq (.block 3 (.seq (.region [⟨(.load (some 2) (.t 1)), (some 32), none⟩, ⟨(.mov (.t 6)), (some 33), none⟩, ⟨(.call 52 [(.t 32), (.t 33)]), (some 34), none⟩, ⟨(.mov (.t 4)), (some 35), none⟩, ⟨(.mov (.t 6)), (some 36), none⟩, ⟨(.call 54 [(.t 36)]), (some 37), none⟩, ⟨(.indexAddr 1 (.t 35) (.t 37)), (some 38), none⟩, ⟨(.load none (.t 38)), (some 39), none⟩, ⟨(.bin .neq (.t 34) (.t 39)), (some 40), none⟩] false) (.cond (.t 40) (.seq (.region [⟨(.mov (.k .nils)), (some 2), none⟩, ⟨(.mov (.k (.int .i64 5))), (some 3), none⟩] false) .ret) .skip))) (.region [⟨(.mov (.t 6)), (some 30), none⟩, ⟨(.bin .add (.t 30) (.k (.int .i64 1))), (some 31), none⟩, ⟨(.mov (.t 31)), (some 6), none⟩] false)))
def m19 : MC := (.seq (.region [⟨(.box (.t 0)), (some 1), none⟩, ⟨(.mov (.k .nils)), (some 2), none⟩, ⟨(.mov (.k (.int .i64 0))), (some 3), none⟩] false) (.seq (.seq (.region [⟨(.load (some 2) (.t 1)), (some 7), none⟩, ⟨(.call 29 [(.t 7)]), (some 8), none⟩, ⟨(.un .not (.t 8)), (some 9), none⟩] false) (.cond (.t 9) (.seq (.region [⟨(.mov (.k .nils)), (some 2), none⟩, ⟨(.mov (.k (.int .i64 1))), (some 3), none⟩] false) .ret) .skip)) (.seq (.region [⟨.empt, (some 10), none⟩, ⟨(.mov (.t 10)), (some 4), none⟩] false) (.seq (.seq (.region [⟨(.mov (.k (.int .i64 0))), (some 5), none⟩] false) (.block 0 (.loop m19_0))) (.seq (.seq (.region [⟨(.mov (.k (.int .i64 0))), (some 6), none⟩] false) (.block 2 (.loop m19_1))) (.seq (.region [⟨(.mov (.t 4)), (some 41), none⟩, ⟨(.mov (.t 41)), (some 2), none⟩, ⟨(.mov (.k (.int .i64 0))), (some 3), none⟩] false) .ret))))))
theorem has19 : Has cx 19 42 m19 [(.tmp 2), (.tmp 3)] :=
  ⟨⟨Try.f19, Try.f19.body.getD .skip, by kernel_rfl, by kernel_rfl, by kernel_rfl, by kernel_rfl, by kernel_rfl, by kernel_rfl⟩⟩
theorem lp19_0 (n b : Nat) (hn : n ≤ 4) (hb : b < 65536) (o : Out) (ho : (match selm (fun _ => true) (lvH b) (n + 1) with | [] => (⟨.exit 0, [(1, .ptr 0 0), (4, .emp)], [⟨[.int .i64 n, .int .i64 b], 1, 0, some 0, true⟩]⟩ : Out) | x :: xs => ⟨.exit 0, [(1, .ptr 0 0), (4, .sl 1 0 (x :: xs).length)], [⟨[.int .i64 n, .int .i64 b], 1, 0, some 0, true⟩, ⟨ints (x :: xs), 1, 1, some 0, false⟩]⟩) = o) :
    LpS cx 42 0 m19_0 [(1, .ptr 0 0), (4, .emp), (5, .int .i64 (0 : Nat))] [⟨[.int .i64 n, .int .i64 b], 1, 0, some 0, true⟩] o.x o.e o.h := by
  subst ho
  refine lp_st (n + 1) (selm (fun _ => true) (lvH b)) (fun i s => match s with | [] => [(1, .ptr 0 0), (4, .emp), (5, .int .i64 (i : Nat))] | x :: xs => [(1, .ptr 0 0), (4, .sl 1 0 (x :: xs).length), (5, .int .i64 (i : Nat))]) (fun i s => match s with | [] => [⟨[.int .i64 n, .int .i64 b], 1, 0, some 0, true⟩] | x :: xs => [⟨[.int .i64 n, .int .i64 b], 1, 0, some 0, true⟩, ⟨ints (x :: xs), 1, 1, some 0, false⟩]) (fun s => match s with | [] => ⟨.exit 0, [(1, .ptr 0 0), (4, .emp)], [⟨[.int .i64 n, .int .i64 b], 1, 0, some 0, true⟩]⟩ | x :: xs => ⟨.exit 0, [(1, .ptr 0 0), (4, .sl 1 0 (x :: xs).length)], [⟨[.int .i64 n, .int .i64 b], 1, 0, some 0, true⟩, ⟨ints (x :: xs), 1, 1, some 0, false⟩]⟩) ?_ ?_ (n + 1) 0 (by omega)
  · intro i s hi hs
    have hlt : decide ((i : Int) < (n + 1 : Nat)) = true := decide_eq_true (by omega)
    have hle : decide ((i : Int) ≤ (n + 1 : Nat) - 1) = true := decide_eq_true (by omega)
    have hlen : s.length ≤ 65536 := by have := selm_len (fun _ => true) (lvH b) i; rw [hs] at this; omega
    have r1 := R2_mono (i := i) (n := n) (by omega)
    have r2 := R2_pos i
    have h16 := (shN hn).1
    have hle2 : decide ((i : Int) ≤ (n : Nat)) = true := decide_eq_true (by omega)
    have hsub := b_sub1 (a := R2 i) (by omega) (by omega)
    have hp : (fun _ => true) i = true := rfl
    cases s with
    | nil =>
      refine ⟨[(lvH b) i], by rw [selm_t (p := fun _ => true) hp, hs]; try rfl, ?_⟩
      unfold m19_0
      repeat' (first
        | (refine g_op ?_; first
          | refine ep_mov rfl ?_ | refine ep_load1 rfl rfl rfl rfl ?_ | refine ep_fieldAddr rfl ?_ | refine sp_loadN rfl rfl rfl rfl rfl ?_
          | refine ep_call0 rfl (by first | exact ev53 i (by omega) | exact ev52 n b (R2 i - 1) (by omega) (by omega)) rfl rfl ?_
          | refine sp_call rfl rfl rfl rfl (by first | exact ev53 i (by omega) | exact ev52 n b (R2 i - 1) (by omega) (by omega)) ⟨rfl, rfl, rfl, rfl⟩ rfl rfl rfl ?_
          | refine ep_callw0 rfl (by first | exact ev53 i (by omega) | exact ev52 n b (R2 i - 1) (by omega) (by omega)) rfl rfl ?_
          | refine sp_callw rfl rfl rfl rfl (by first | exact ev53 i (by omega) | exact ev52 n b (R2 i - 1) (by omega) (by omega)) ⟨rfl, rfl, rfl, rfl⟩ rfl rfl rfl (by first | exact WrP_refl _ _ | (repeat' (first | exact rfl | exact True.intro | refine And.intro ?_ ?_))) ?_
          | refine ep_bin rfl rfl (by first | exact hsub | exact b_add (by omega) (by omega) | exact b_sub (by omega) (by omega) | exact b_leq) ?_ | refine sp_bslice rfl rfl rfl rfl rfl ?_ | refine sp_push0 rfl (by first | exact .inl rfl | exact .inr rfl) rfl rfl rfl rfl rfl (by decide) rfl rfl rfl ?_
          | refine sp_push rfl rfl rfl rfl rfl rfl rfl (by first | exact ints_len _ | exact prs_len _ _ | exact zints_len _) (by omega) (Nat.zero_le _) rfl rfl rfl rfl rfl ?_)
        | (refine g_ops ?_; first | refine eo_none ?_ | refine eo_nil ?_)
        | (refine g_dops ?_; first | refine ed_none ?_ | refine ed_nil ?_)
        | refine ed_same rfl ?_ | refine ed_one rfl rfl rfl rfl ?_ | refine ed_two rfl rfl rfl rfl rfl rfl rfl ?_ | refine ed_write rfl rfl ?_
        | (refine g_code ?_; first | refine ec_seq ?_ | refine ec_region ?_ | refine ec_draw ?_ | refine ec_block ?_ | refine ec_skip ?_ | refine ec_exit ?_ | refine ec_condT rfl ?_ | refine ec_condF rfl ?_ | refine ec_condTH rfl (by assumption) ?_ | refine ec_condFH rfl (by assumption) ?_)
        | refine ek_seqN ?_ | refine ek_seqX ?_ | refine ek_blkN ?_ | refine ek_blkR ?_ | refine ek_blkX ?_ | refine ek_blkY rfl ?_)
      exact rnd_on (by rfl) (scmp2 (by rfl) (by rfl) (by exact ⟨rfl, rfl, rfl⟩) (by rfl) (by first | rfl | (simp; done) | (simp [ints, prs, lvH]; done)) (by rfl) (by first | rfl | (simp; done) | (simp [ints, prs, lvH]; done)))
    | cons x xs =>
      refine ⟨(x :: xs) ++ [(lvH b) i], by rw [selm_t (p := fun _ => true) hp, hs]; try rfl, ?_⟩
      unfold m19_0
      repeat' (first
        | (refine g_op ?_; first
          | refine ep_mov rfl ?_ | refine ep_load1 rfl rfl rfl rfl ?_ | refine ep_fieldAddr rfl ?_ | refine sp_loadN rfl rfl rfl rfl rfl ?_
          | refine ep_call0 rfl (by first | exact ev53 i (by omega) | exact ev52 n b (R2 i - 1) (by omega) (by omega)) rfl rfl ?_
          | refine sp_call rfl rfl rfl rfl (by first | exact ev53 i (by omega) | exact ev52 n b (R2 i - 1) (by omega) (by omega)) ⟨rfl, rfl, rfl, rfl⟩ rfl rfl rfl ?_
          | refine ep_callw0 rfl (by first | exact ev53 i (by omega) | exact ev52 n b (R2 i - 1) (by omega) (by omega)) rfl rfl ?_
          | refine sp_callw rfl rfl rfl rfl (by first | exact ev53 i (by omega) | exact ev52 n b (R2 i - 1) (by omega) (by omega)) ⟨rfl, rfl, rfl, rfl⟩ rfl rfl rfl (by first | exact WrP_refl _ _ | (repeat' (first | exact rfl | exact True.intro | refine And.intro ?_ ?_))) ?_
          | refine ep_bin rfl rfl (by first | exact hsub | exact b_add (by omega) (by omega) | exact b_sub (by omega) (by omega) | exact b_leq) ?_ | refine sp_bslice rfl rfl rfl rfl rfl ?_ | refine sp_push0 rfl (by first | exact .inl rfl | exact .inr rfl) rfl rfl rfl rfl rfl (by decide) rfl rfl rfl ?_
          | refine sp_push rfl rfl rfl rfl rfl rfl rfl (by first | exact ints_len _ | exact prs_len _ _ | exact zints_len _) (by omega) (Nat.zero_le _) rfl rfl rfl rfl rfl ?_)
        | (refine g_ops ?_; first | refine eo_none ?_ | refine eo_nil ?_)
        | (refine g_dops ?_; first | refine ed_none ?_ | refine ed_nil ?_)
        | refine ed_same rfl ?_ | refine ed_one rfl rfl rfl rfl ?_ | refine ed_two rfl rfl rfl rfl rfl rfl rfl ?_ | refine ed_write rfl rfl ?_
        | (refine g_code ?_; first | refine ec_seq ?_ | refine ec_region ?_ | refine ec_draw ?_ | refine ec_block ?_ | refine ec_skip ?_ | refine ec_exit ?_ | refine ec_condT rfl ?_ | refine ec_condF rfl ?_ | refine ec_condTH rfl (by assumption) ?_ | refine ec_condFH rfl (by assumption) ?_)
        | refine ek_seqN ?_ | refine ek_seqX ?_ | refine ek_blkN ?_ | refine ek_blkR ?_ | refine ek_blkX ?_ | refine ek_blkY rfl ?_)
      exact rnd_on (by rfl) (scmp2 (by rfl) (by rfl) (by exact ⟨rfl, rfl, rfl⟩) (by rfl) (by first | rfl | (simp; done) | (simp [ints, prs, lvH]; done)) (by rfl) (by first | rfl | (simp; done) | (simp [ints, prs, lvH]; done)))
  · intro s hs
    have hlt : decide (((n + 1 : Nat) : Int) < (n + 1 : Nat)) = false := decide_eq_false (by omega)
    have hle : decide (((n + 1 : Nat) : Int) ≤ (n + 1 : Nat) - 1) = false := decide_eq_false (by omega)
    have hle2 : decide (((n + 1 : Nat) : Int) ≤ (n : Nat)) = false := decide_eq_false (by omega)
    cases s with
    | nil =>
      unfold m19_0
      repeat' (first
        | (refine g_op ?_; first
          | refine ep_mov rfl ?_ | refine ep_load1 rfl rfl rfl rfl ?_ | refine ep_fieldAddr rfl ?_ | refine sp_loadN rfl rfl rfl rfl rfl ?_
          | refine ep_bin rfl rfl (by first | exact b_add (by omega) (by omega) | exact b_sub (by omega) (by omega) | exact b_leq) ?_ | refine sp_bslice rfl rfl rfl rfl rfl ?_ | refine sp_push0 rfl (by first | exact .inl rfl | exact .inr rfl) rfl rfl rfl rfl rfl (by decide) rfl rfl rfl ?_
          | refine sp_push rfl rfl rfl rfl rfl rfl rfl (by first | exact ints_len _ | exact prs_len _ _ | exact zints_len _) (by omega) (Nat.zero_le _) rfl rfl rfl rfl rfl ?_)
        | (refine g_ops ?_; first | refine eo_none ?_ | refine eo_nil ?_)
        | (refine g_dops ?_; first | refine ed_none ?_ | refine ed_nil ?_)
        | refine ed_same rfl ?_ | refine ed_one rfl rfl rfl rfl ?_ | refine ed_two rfl rfl rfl rfl rfl rfl rfl ?_ | refine ed_write rfl rfl ?_
        | (refine g_code ?_; first | refine ec_seq ?_ | refine ec_region ?_ | refine ec_draw ?_ | refine ec_block ?_ | refine ec_skip ?_ | refine ec_exit ?_ | refine ec_condT rfl ?_ | refine ec_condF rfl ?_ | refine ec_condTH rfl (by assumption) ?_ | refine ec_condFH rfl (by assumption) ?_)
        | refine ek_seqN ?_ | refine ek_seqX ?_ | refine ek_blkN ?_ | refine ek_blkR ?_ | refine ek_blkX ?_ | refine ek_blkY rfl ?_)
      exact rnd_out (by rfl) (by simp) (scmp2 (by rfl) (by rfl) (by exact ⟨rfl, rfl, rfl⟩) (by rfl) (by first | rfl | (simp; done) | (simp [ints, prs]; done)) (by rfl) (by first | rfl | (simp; done) | (simp [ints, prs]; done)))
    | cons x xs =>
      unfold m19_0
      repeat' (first
        | (refine g_op ?_; first
          | refine ep_mov rfl ?_ | refine ep_load1 rfl rfl rfl rfl ?_ | refine ep_fieldAddr rfl ?_ | refine sp_loadN rfl rfl rfl rfl rfl ?_
          | refine ep_bin rfl rfl (by first | exact b_add (by omega) (by omega) | exact b_sub (by omega) (by omega) | exact b_leq) ?_ | refine sp_bslice rfl rfl rfl rfl rfl ?_ | refine sp_push0 rfl (by first | exact .inl rfl | exact .inr rfl) rfl rfl rfl rfl rfl (by decide) rfl rfl rfl ?_
          | refine sp_push rfl rfl rfl rfl rfl rfl rfl (by first | exact ints_len _ | exact prs_len _ _ | exact zints_len _) (by omega) (Nat.zero_le _) rfl rfl rfl rfl rfl ?_)
        | (refine g_ops ?_; first | refine eo_none ?_ | refine eo_nil ?_)
        | (refine g_dops ?_; first | refine ed_none ?_ | refine ed_nil ?_)
        | refine ed_same rfl ?_ | refine ed_one rfl rfl rfl rfl ?_ | refine ed_two rfl rfl rfl rfl rfl rfl rfl ?_ | refine ed_write rfl rfl ?_
        | (refine g_code ?_; first | refine ec_seq ?_ | refine ec_region ?_ | refine ec_draw ?_ | refine ec_block ?_ | refine ec_skip ?_ | refine ec_exit ?_ | refine ec_condT rfl ?_ | refine ec_condF rfl ?_ | refine ec_condTH rfl (by assumption) ?_ | refine ec_condFH rfl (by assumption) ?_)
        | refine ek_seqN ?_ | refine ek_seqX ?_ | refine ek_blkN ?_ | refine ek_blkR ?_ | refine ek_blkX ?_ | refine ek_blkY rfl ?_)
      exact rnd_out (by rfl) (by simp) (scmp2 (by rfl) (by rfl) (by exact ⟨rfl, rfl, rfl⟩) (by rfl) (by first | rfl | (simp; done) | (simp [ints, prs]; done)) (by rfl) (by first | rfl | (simp; done) | (simp [ints, prs]; done)))

theorem lpsl1 (n b x : Nat) (xs : List Nat) (hn : n ≤ 4) (hb : b < 65536) (hL : selm (fun _ => true) (lvH b) (n + 1) = x :: xs) (o : Out) (ho : (if allF (lvP b) 0 (R2 n) = true then (⟨.exit 2, [(4, .sl 0 0 (x :: xs).length)], [⟨ints (x :: xs), 1, 0, some 0, false⟩]⟩ : Out) else ⟨.ret, [(2, .nils), (3, .int .i64 5)], []⟩) = o) :
    LpS cx 42 0 m19_1 [(1, .ptr 0 0), (4, .sl 1 0 (x :: xs).length), (6, .int .i64 (0 : Nat))] [⟨[.int .i64 n, .int .i64 b], 1, 0, some 0, true⟩, ⟨ints (x :: xs), 1, 1, some 0, false⟩] o.x o.e o.h := by
  refine lp_all (R2 n) (lvP b) (fun i => [(1, .ptr 0 0), (4, .sl 1 0 (x :: xs).length), (6, .int .i64 (i : Nat))]) (fun i => [⟨[.int .i64 n, .int .i64 b], 1, 0, some 0, true⟩, ⟨ints (x :: xs), 1, 1, some 0, false⟩]) _ _ ?_ ?_ ?_ (R2 n) 0 o (by omega) ho
  · intro i hi hp
    have hlt : decide ((i : Int) < (R2 n : Nat)) = true := decide_eq_true (by omega)
    have hp' : ((lvP b) i) = true := hp
    obtain ⟨h1, h2, h3, h4⟩ := shN hn
    have hpn := pop_nn hn hi
    have sa := selm_all (g := lvH b) (n + 1)
    rw [hL] at sa
    have hget := ints_get (l := x :: xs) (j := pop i 16) (by omega)
    rw [sa.2 _ (by omega)] at hget
    have hv : bt b i = bt b (R2 (pop i 16) - 1) := by simpa [lvP] using hp
    have q2 : (((bt b i : Nat) : Int) != ((lvH b (pop i 16) : Nat) : Int)) = false := by rw [lvH, hv]; simp
    unfold m19_1
    repeat' (first
      | refine ep_loadS rfl rfl rfl hget ?_
      | (refine g_op ?_; first
        | refine ep_mov rfl ?_ | refine ep_load1 rfl rfl rfl rfl ?_ | refine ep_fieldAddr rfl ?_ | refine sp_loadN rfl rfl rfl rfl rfl ?_
        | refine ep_call0 rfl (by first | exact ev53 n hn | exact ev52 n b i (by omega) (by omega) | exact ev54 i (by omega)) rfl rfl ?_
        | refine sp_call rfl rfl rfl rfl (by first | exact ev53 n hn | exact ev52 n b i (by omega) (by omega) | exact ev54 i (by omega)) ⟨rfl, rfl, rfl, rfl⟩ rfl rfl rfl ?_
        | refine ep_bin rfl rfl (by first | exact b_add (by omega) (by omega) | exact b_lss | exact b_neq) ?_ | refine sp_idx rfl rfl rfl (by omega) rfl ?_ | refine ep_loadS rfl rfl rfl (by first | exact ints_get (by omega) | exact zints_get (by omega) | exact fget (by omega) | assumption) ?_
        | refine ep_loadSN rfl rfl rfl (by first | exact prs_get (by omega) | exact fns_get (by omega)) ?_)
      | (refine g_ops ?_; first | refine eo_none ?_ | refine eo_nil ?_)
      | (refine g_code ?_; first | refine ec_seq ?_ | refine ec_region ?_ | refine ec_block ?_ | refine ec_skip ?_ | refine ec_exit ?_ | refine ec_ret ?_ | refine ec_condT rfl ?_ | refine ec_condF rfl ?_ | refine ec_condTH rfl (by assumption) ?_ | refine ec_condFH rfl (by assumption) ?_)
      | refine ek_seqN ?_ | refine ek_seqX ?_ | refine ek_seqR ?_ | refine ek_blkN ?_ | refine ek_blkR ?_ | refine ek_blkX ?_ | refine ek_blkY rfl ?_)
    exact rnd_on (by rfl) (scmp2 (by rfl) (by rfl) (by exact ⟨rfl, rfl, rfl⟩) (by rfl) (by first | rfl | (simp; done) | (simp [ints, prs]; done)) (by rfl) (by first | rfl | (simp; done) | (simp [ints, prs]; done)))
  · intro i hi hp
    have hlt : decide ((i : Int) < (R2 n : Nat)) = true := decide_eq_true (by omega)
    have hp' : ((lvP b) i) = false := hp
    obtain ⟨h1, h2, h3, h4⟩ := shN hn
    have hpn := pop_nn hn hi
    have sa := selm_all (g := lvH b) (n + 1)
    rw [hL] at sa
    have hget := ints_get (l := x :: xs) (j := pop i 16) (by omega)
    rw [sa.2 _ (by omega)] at hget
    have hv : bt b i ≠ bt b (R2 (pop i 16) - 1) := by simpa [lvP] using hp
    have q2 : (((bt b i : Nat) : Int) != ((lvH b (pop i 16) : Nat) : Int)) = true := by rw [lvH]; simp; omega
    unfold m19_1
    repeat' (first
      | refine ep_loadS rfl rfl rfl hget ?_
      | (refine g_op ?_; first
        | refine ep_mov rfl ?_ | refine ep_load1 rfl rfl rfl rfl ?_ | refine ep_fieldAddr rfl ?_ | refine sp_loadN rfl rfl rfl rfl rfl ?_
        | refine ep_call0 rfl (by first | exact ev53 n hn | exact ev52 n b i (by omega) (by omega) | exact ev54 i (by omega)) rfl rfl ?_
        | refine sp_call rfl rfl rfl rfl (by first | exact ev53 n hn | exact ev52 n b i (by omega) (by omega) | exact ev54 i (by omega)) ⟨rfl, rfl, rfl, rfl⟩ rfl rfl rfl ?_
        | refine ep_bin rfl rfl (by first | exact b_add (by omega) (by omega) | exact b_lss | exact b_neq) ?_ | refine sp_idx rfl rfl rfl (by omega) rfl ?_ | refine ep_loadS rfl rfl rfl (by first | exact ints_get (by omega) | exact zints_get (by omega) | exact fget (by omega) | assumption) ?_
        | refine ep_loadSN rfl rfl rfl (by first | exact prs_get (by omega) | exact fns_get (by omega)) ?_)
      | (refine g_ops ?_; first | refine eo_none ?_ | refine eo_nil ?_)
      | (refine g_code ?_; first | refine ec_seq ?_ | refine ec_region ?_ | refine ec_block ?_ | refine ec_skip ?_ | refine ec_exit ?_ | refine ec_ret ?_ | refine ec_condT rfl ?_ | refine ec_condF rfl ?_ | refine ec_condTH rfl (by assumption) ?_ | refine ec_condFH rfl (by assumption) ?_)
      | refine ek_seqN ?_ | refine ek_seqX ?_ | refine ek_seqR ?_ | refine ek_blkN ?_ | refine ek_blkR ?_ | refine ek_blkX ?_ | refine ek_blkY rfl ?_)
    exact rnd_out (by rfl) (by simp) (scmp2 (by rfl) (by rfl) (by exact ⟨rfl, rfl, rfl⟩) (by rfl) (by first | rfl | (simp; done) | (simp [ints, prs]; done)) (by rfl) (by first | rfl | (simp; done) | (simp [ints, prs]; done)))
  · have hlt : decide (((R2 n : Nat) : Int) < (R2 n : Nat)) = false := decide_eq_false (by omega)
    have h16 := (shN hn).1
    unfold m19_1
    repeat' (first
      | (refine g_op ?_; first
        | refine ep_mov rfl ?_ | refine ep_load1 rfl rfl rfl rfl ?_ | refine ep_fieldAddr rfl ?_ | refine sp_loadN rfl rfl rfl rfl rfl ?_
        | refine ep_call0 rfl (by first | exact ev53 n hn) rfl rfl ?_
        | refine sp_call rfl rfl rfl rfl (by first | exact ev53 n hn) ⟨rfl, rfl, rfl, rfl⟩ rfl rfl rfl ?_
        | refine ep_bin rfl rfl (by first | exact b_add (by omega) (by omega) | exact b_lss | exact b_neq) ?_ | refine sp_idx rfl rfl rfl (by omega) rfl ?_ | refine ep_loadS rfl rfl rfl (by first | exact ints_get (by omega) | exact zints_get (by omega) | exact fget (by omega) | assumption) ?_
        | refine ep_loadSN rfl rfl rfl (by first | exact prs_get (by omega) | exact fns_get (by omega)) ?_)
      | (refine g_ops ?_; first | refine eo_none ?_ | refine eo_nil ?_)
      | (refine g_code ?_; first | refine ec_seq ?_ | refine ec_region ?_ | refine ec_block ?_ | refine ec_skip ?_ | refine ec_exit ?_ | refine ec_ret ?_ | refine ec_condT rfl ?_ | refine ec_condF rfl ?_ | refine ec_condTH rfl (by assumption) ?_ | refine ec_condFH rfl (by assumption) ?_)
      | refine ek_seqN ?_ | refine ek_seqX ?_ | refine ek_seqR ?_ | refine ek_blkN ?_ | refine ek_blkR ?_ | refine ek_blkX ?_ | refine ek_blkY rfl ?_)
    exact rnd_out (by rfl) (by simp) (scmp2 (by rfl) (by rfl) (by exact ⟨rfl, rfl, rfl⟩) (by rfl) (by first | rfl | (simp; done) | (simp [ints, prs]; done)) (by rfl) (by first | rfl | (simp; done) | (simp [ints, prs]; done)))

theorem ev19_bad (p t : Int) (h1 : isFn p t = false) : Ev cx 19 [.agg [.int .i64 p, .int .i64 t]] [] (.tup [.nils, .int .i64 1]) [] := by
  have e1 := ev29 p t
  rw [h1] at e1
  refine has19.eev rfl rfl ?_
  unfold m19
  repeat' (first
    | (refine g_op ?_; first
      | refine ep_mov rfl ?_ | refine sp_loadN rfl rfl rfl rfl rfl ?_
      | refine ep_call0 rfl (by first | exact e1) rfl rfl ?_
      | refine sp_call rfl rfl rfl rfl (by first | exact e1) ⟨rfl, rfl, rfl, rfl⟩ rfl rfl rfl ?_
      | refine ep_not rfl ?_ | refine sp_box rfl rfl rfl rfl rfl ?_ | refine ep_empt ?_)
    | (refine g_ops ?_; first | refine eo_none ?_ | refine eo_nil ?_)
    | (refine g_code ?_; first | refine ec_seq ?_ | refine ec_region ?_ | refine ec_block ?_ | refine ec_skip ?_ | refine ec_ret ?_ | refine ec_condT rfl ?_ | refine ec_condF rfl ?_ | refine ec_condTH rfl (by assumption) ?_ | refine ec_condFH rfl (by assumption) ?_)
    | refine ek_seqN ?_ | refine ek_seqX ?_ | refine ek_seqR ?_ | refine ek_blkN ?_ | refine ek_blkR ?_ | refine ek_blkX ?_ | refine ek_blkY rfl ?_)
  refine sfin (.inr rfl) (by rfl) (by rfl) (by exact ⟨rfl, rfl, rfl⟩) (by rfl) (by rfl) (by rfl) (by first | rfl | (simp; done) | (simp [ints, prs]; done))
theorem ev19_no (n b : Nat) (h1 : isFn n b = true) (hn : n ≤ 4) (hb : b < 65536) (hs : allF (lvP b) 0 (R2 n) = false) : Ev cx 19 [.agg [.int .i64 n, .int .i64 b]] [] (.tup [.nils, .int .i64 5]) [] := by
  have e1 := ev29 n b
  rw [h1] at e1
  have sa := (selm_all (g := lvH b) (n + 1)).1
  cases hL : selm (fun _ => true) (lvH b) (n + 1) with
  | nil => rw [hL] at sa; simp at sa
  | cons x xs =>
    have lp0 := lp19_0 n b hn hb _ (by rw [hL])
    have lp1 := lpsl1 n b x xs hn hb hL _ (if_neg (by rw [hs]; simp))
    refine has19.eev rfl rfl ?_
    unfold m19
    repeat' (first
      | refine sc_loop lp0 rfl rfl ⟨rfl, rfl, rfl⟩ rfl rfl rfl ?_
      | refine sc_loop lp1 rfl rfl ⟨rfl, rfl, rfl⟩ rfl rfl rfl ?_
      | (refine g_op ?_; first
        | refine ep_mov rfl ?_ | refine sp_loadN rfl rfl rfl rfl rfl ?_
        | refine ep_call0 rfl (by first | exact e1) rfl rfl ?_
        | refine sp_call rfl rfl rfl rfl (by first | exact e1) ⟨rfl, rfl, rfl, rfl⟩ rfl rfl rfl ?_
        | refine ep_not rfl ?_ | refine sp_box rfl rfl rfl rfl rfl ?_ | refine ep_empt ?_)
      | (refine g_ops ?_; first | refine eo_none ?_ | refine eo_nil ?_)
      | (refine g_code ?_; first | refine ec_seq ?_ | refine ec_region ?_ | refine ec_block ?_ | refine ec_skip ?_ | refine ec_ret ?_ | refine ec_condT rfl ?_ | refine ec_condF rfl ?_ | refine ec_condTH rfl (by assumption) ?_ | refine ec_condFH rfl (by assumption) ?_)
      | refine ek_seqN ?_ | refine ek_seqX ?_ | refine ek_seqR ?_ | refine ek_blkN ?_ | refine ek_blkR ?_ | refine ek_blkX ?_ | refine ek_blkY rfl ?_)
    refine sfin (.inr rfl) (by rfl) (by rfl) (by exact ⟨rfl, rfl, rfl⟩) (by rfl) (by rfl) (by rfl) (by first | rfl | (simp; done) | (simp [ints, prs]; done))

theorem ev19_ok (n b x : Nat) (xs : List Nat) (h1 : isFn n b = true) (hn : n ≤ 4) (hb : b < 65536) (hs : allF (lvP b) 0 (R2 n) = true) (hL : selm (fun _ => true) (lvH b) (n + 1) = x :: xs) : Ev cx 19 [.agg [.int .i64 n, .int .i64 b]] [] (.tup [.sl 0 0 (x :: xs).length, .int .i64 0]) [⟨ints (x :: xs), 1, 0, some 0, false⟩] := by
  have e1 := ev29 n b
  rw [h1] at e1
  have sa := (selm_all (g := lvH b) (n + 1)).1
  have lp0 := lp19_0 n b hn hb _ (by rw [hL])
  have lp1 := lpsl1 n b x xs hn hb hL _ (if_pos hs)
  refine has19.eev rfl rfl ?_
  unfold m19
  repeat' (first
    | refine sc_loop lp0 rfl rfl ⟨rfl, rfl, rfl⟩ rfl rfl rfl ?_
    | refine sc_loop lp1 rfl rfl ⟨rfl, rfl, rfl⟩ rfl rfl rfl ?_
    | (refine g_op ?_; first
      | refine ep_mov rfl ?_ | refine sp_loadN rfl rfl rfl rfl rfl ?_
      | refine ep_call0 rfl (by first | exact e1) rfl rfl ?_
      | refine sp_call rfl rfl rfl rfl (by first | exact e1) ⟨rfl, rfl, rfl, rfl⟩ rfl rfl rfl ?_
      | refine ep_not rfl ?_ | refine sp_box rfl rfl rfl rfl rfl ?_ | refine ep_empt ?_)
    | (refine g_ops ?_; first | refine eo_none ?_ | refine eo_nil ?_)
    | (refine g_code ?_; first | refine ec_seq ?_ | refine ec_region ?_ | refine ec_block ?_ | refine ec_skip ?_ | refine ec_ret ?_ | refine ec_condT rfl ?_ | refine ec_condF rfl ?_ | refine ec_condTH rfl (by assumption) ?_ | refine ec_condFH rfl (by assumption) ?_)
    | refine ek_seqN ?_ | refine ek_seqX ?_ | refine ek_seqR ?_ | refine ek_blkN ?_ | refine ek_blkR ?_ | refine ek_blkX ?_ | refine ek_blkY rfl ?_)
  refine sfin (.inr rfl) (by rfl) (by rfl) (by exact ⟨rfl, rfl, rfl⟩) (by rfl) (by rfl) (by rfl) (by first | rfl | (simp; done) | (simp [ints, prs]; done))

section
open Go.RowKit
theorem cell_blk {w : World} {b i : Nat} {cs : Array Value} {t : TypeId} {v : Value} (h : w.heap[b]? = some (.cells cs t (0, 0))) (hv : cs[i]? = some v) : w.cell? ⟨b, i, none⟩ = some v := by simp [World.cell?, h, hv]
theorem free_blk {w : World} {b : Nat} {cs : Array Value} {t : TypeId} (i : Nat) (h : w.heap[b]? = some (.cells cs t (0, 0))) : w.frozen? ⟨b, i, none⟩ = false := by simp [World.frozen?, h]
theorem blk_fr' {w w' : World} {b : Nat} {o : Obj} {row : Option Nat} (h : w.heap[b]? = some o) (hg : w.grownBy w' row) (hr : some b ≠ row) : w'.heap[b]? = some o := by
  have hb : b < w.heap.size := (Array.getElem?_eq_some_iff.mp h).1
  rw [hg.block b hb hr]; exact h
theorem blk_alloc {w : World} {b : Nat} {o : Obj} (x : Obj) (h : w.heap[b]? = some o) : (w.alloc x).heap[b]? = some o := blk_fr' h (World.grownBy_alloc w x none) (by simp)
theorem blk_new (w : World) (o : Obj) : (w.alloc o).heap[w.heap.size]? = some o := by
  show (w.heap.push o)[w.heap.size]? = some o
  rw [Array.getElem?_push, if_pos rfl]
theorem own_shape {w : World} {b : Nat} {e : TypeId} {sz : Nat} {v : Value} {n : Nat} {xs : List Value} (h : w.ownsRow b e sz v n xs) : ∃ o c, v = .slice o n c := by
  rcases h.2 with ⟨rfl, rfl⟩ | ⟨g, cap, cur, rfl, _⟩
  · exact ⟨_, _, rfl⟩
  · exact ⟨_, _, rfl⟩
theorem own_ge {w : World} {b : Nat} {e : TypeId} {sz : Nat} {v : Value} {n : Nat} {xs : List Value} (h : w.ownsRow b e sz v n xs) {k : Nat} (hk : v.ownBlock = some k) : b ≤ k ∧ k < w.heap.size := by
  rcases h.2 with ⟨rfl, rfl⟩ | ⟨g, cap, cur, rfl, hg, hh, _⟩
  · simp [Value.ownBlock] at hk
  · simp only [Value.ownBlock, Option.some.injEq] at hk
    subst hk; exact ⟨hg, lt_of_block hh⟩
theorem set_size (w : World) (a : Addr) (u : Value) : (w.setCell a u).heap.size = w.heap.size := by simp [World.setCell]
theorem two_set1 {w : World} {b : Nat} {x y u : Value} {t : TypeId} (h : w.heap[b]? = some (.cells #[x, y] t (0, 0))) : (w.setCell ⟨b, 1, none⟩ u).heap[b]? = some (.cells #[x, u] t (0, 0)) := by
  have hlt := lt_of_block h
  have h' : w.heap[b] = .cells #[x, y] t (0, 0) := by simpa [Array.getElem?_eq_getElem hlt] using h
  show (w.heap.modify b _)[b]? = _
  rw [Array.getElem?_eq_getElem (by simpa using hlt), Array.getElem_modify_self, h']
  rfl
theorem two_set0 {w : World} {b : Nat} {x y u : Value} {t : TypeId} (h : w.heap[b]? = some (.cells #[x, y] t (0, 0))) : (w.setCell ⟨b, 0, none⟩ u).heap[b]? = some (.cells #[u, y] t (0, 0)) := by
  have hlt := lt_of_block h
  have h' : w.heap[b] = .cells #[x, y] t (0, 0) := by simpa [Array.getElem?_eq_getElem hlt] using h
  show (w.heap.modify b _)[b]? = _
  rw [Array.getElem?_eq_getElem (by simpa using hlt), Array.getElem_modify_self, h']
  rfl
theorem below_grown {w w' : World} (h : Below w.heap.size w w') : w.grownBy w' none := ⟨h.os, h.tape, h.output, h.size, fun k hk _ => h.block k hk⟩
theorem Try.info2 : (Try.prog.info? 2).map (fun i => (i.zero, i.size, i.bytes)) = some (some (.int .i64 0), 1, 8) := by kernel_rfl
theorem one_cell {w : World} {b : Nat} {x : Value} {t : TypeId} (h : w.heap[b]? = some (.cells #[x] t (0, 0))) : ∀ j u, [x][j]? = some u → w.cell? (Addr.add ⟨b, 0, none⟩ j) = some u := by
  intro j u hj
  match j, hj with
  | 0, hj => simp at hj; subst hj; simp [Addr.add]; exact cell_blk h rfl
theorem ownsRow_mono {w : World} {b b' : Nat} {e : TypeId} {sz : Nat} {v : Value} {n : Nat} {xs : List Value} (h : w.ownsRow b e sz v n xs) (hb : b' ≤ b) : w.ownsRow b' e sz v n xs := by
  obtain ⟨h1, h2⟩ := h
  refine ⟨h1, ?_⟩
  rcases h2 with h2 | ⟨g, cap, cur, hv, hg, r⟩
  · exact .inl h2
  · exact .inr ⟨g, cap, cur, hv, by omega, r⟩
def zvL (l : List Int) : List Value := l.map (Value.int .i64)
end

section
open Go.RowKit Go.IntWalk
theorem cell_frw {w w' : World} {a : Addr} {v : Value} {row : Option Nat} (h : w.cell? a = some v) (hg : w.grownBy w' row) (hr : some a.block ≠ row) : w'.cell? a = some v := hg.cell h hr
theorem inv00w {ρ : Nat → Nat} (W : World) : Inv ρ (Rcall mp0 [] W) mp0 (fun i => i < ([] : Heap).length) [] W :=
  ⟨fun i b hi => absurd hi (by simp), fun i hi => absurd hi (by simp), fun i j bi bj hi => absurd hi (by simp), fun i b p hi => absurd hi (by simp), fun i b hi => absurd hi (by simp), fun i b hi => absurd hi (by simp), fun r hr o => .inl hr,
    fun i b hi => absurd hi (by simp), fun i b hi => absurd hi (by simp)⟩
theorem Ev.grownW {C : Cx} {f : Nat} {args : List V} {vs : List Value} {x : Int} (h : Ev C f args [] (.int .i64 x) []) (hv : VRL C.ρ mp0 args vs) (hid : V.idsL args = []) (W : World) :
    Calls C.P (C.ρ f) vs.toArray W fun e w' => e = .returned (.int .i64 x) ∧ W.grownBy w' none := by
  refine (h.2 mp0 W vs (inv00w W) hv (by rw [hid]; simp)).mono fun e w' he => ?_
  obtain ⟨u, m', rfl, hq⟩ := he
  have hu := hq.rel
  simp only [VR] at hu
  subst hu
  refine ⟨rfl, hq.keep.os, hq.keep.tape, hq.keep.output, hq.keep.size, fun k hk _ => same_eq (hq.keep.blk k hk) fun o ho => ?_⟩
  rcases ho with ho | ⟨i, b, p, hb, _⟩
  · omega
  · simp at hb
/-- A slice that reads as l. -/
def RdL (w : World) (v : Value) (l : List Int) : Prop := (v = .slice none 0 0 ∧ l = []) ∨ ∃ g cp, v = .slice (some ⟨g, 0, none⟩) l.length cp ∧ ∀ i, i < l.length → w.cell? ⟨g, i, none⟩ = some (.int .i64 (l.getD i 0))
theorem RdL.kept {w w' : World} {v : Value} {l : List Int} (h : RdL w v l) (hg : w.grownBy w' none) : RdL w' v l := by
  rcases h with h | ⟨g, cp, h1, h2⟩
  · exact .inl h
  · exact .inr ⟨g, cp, h1, fun i hi => cell_frw (h2 i hi) hg (by simp)⟩
theorem grown_trans {a b c : World} (h1 : a.grownBy b none) (h2 : b.grownBy c none) : a.grownBy c none :=
  ⟨h2.os.trans h1.os, h2.tape.trans h1.tape, h2.output.trans h1.output, Nat.le_trans h1.size h2.size, fun k hk _ => (h2.block k (Nat.lt_of_lt_of_le hk h1.size) (by simp)).trans (h1.block k hk (by simp))⟩
theorem grown_refl (a : World) : a.grownBy a none := ⟨rfl, rfl, rfl, Nat.le_refl _, fun _ _ _ => rfl⟩
def wsK (l : List Int) (r : Nat) : Nat → Int
  | 0 => 0
  | k + 1 => wsK l r k + l.getD k 0 * (bt r k : Nat)
def W4 (l : List Int) : Prop := l.length ≤ 4 ∧ ∀ i, -4 ≤ l.getD i 0 ∧ l.getD i 0 ≤ 4
theorem mul_bt {x : Int} {r k : Nat} : x * (bt r k : Nat) = if bt r k = 1 then x else 0 := by
  have := bt_le r k
  rcases (show bt r k = 0 ∨ bt r k = 1 by omega) with h | h <;> simp [h]
theorem wsK_le {l : List Int} (h : W4 l) (r : Nat) : ∀ k : Nat, -(4 * (k : Int)) ≤ wsK l r k ∧ wsK l r k ≤ 4 * (k : Int)
  | 0 => by simp [wsK]
  | k + 1 => by
    have h1 := wsK_le h r k
    have h2 := h.2 k
    rw [wsK, mul_bt]
    split <;> omega
theorem bit_any (r i : Nat) (hr : r < 16) (hi : i ≤ 4) (w : World) : Calls Try.prog 72 #[.int .i64 r, .int .i64 i] w fun e w' => e = .returned (.int .i64 (bt r i : Nat)) ∧ w.grownBy w' none :=
  Ev.grownW (vs := [.int .i64 r, .int .i64 i]) (ev72 r i (by omega) (by omega)) (by simp only [VR, VRL]; exact ⟨_, _, rfl, rfl, _, _, rfl, rfl, rfl⟩) (by simp [V.idsL, V.ids]) w
theorem weigh_any (v : Value) (l : List Int) (r : Nat) (hl : W4 l) (hr : r < 16) (w : World) (hv : RdL w v l) : Calls Try.prog 85 #[v, .int .i64 r] w fun e w' => e = .returned (.int .i64 (wsK l r l.length)) ∧ w.grownBy w' none := by
  have hl4 := hl.1
  rcases hv with ⟨rfl, rfl⟩ | ⟨g, cp, rfl, hc⟩
  · go_enter Try.func85, Try.ntmps85
    go_wp2_with fail
    go_loopw [5, 10] (fun s i wr => s = .int .i64 0 ∧ i = .int .i64 0 ∧ wr = w) (fun _ i _ => 0)
    case atStart => exact ⟨rfl, rfl, rfl⟩
    case round =>
      obtain ⟨rfl, rfl, rfl⟩ := hrel
      go_wp2_with fail
      go_ret
      exact ⟨rfl, grown_refl _⟩
  · generalize hln : l.length = n at *
    go_enter Try.func85, Try.ntmps85
    go_wp2_with fail
    go_loopw [5, 10] (fun s i wr => ∃ k : Nat, i = .int .i64 k ∧ k ≤ n ∧ s = .int .i64 (wsK l r k) ∧ w.grownBy wr none) (fun _ i _ => n - (intOf i).toNat)
    case atStart => exact ⟨0, rfl, Nat.zero_le _, rfl, grown_refl _⟩
    case round =>
      obtain ⟨k, rfl, hk, rfl, hgr⟩ := hrel
      have hb1 := wsK_le hl r k
      by_cases hkn : k < n
      · have hck := cell_frw (hc k hkn) hgr (by simp)
        have hb2 := hl.2 k
        have hb3 := bt_le r k
        have hw : wsK l r (k + 1) = wsK l r k + l.getD k 0 * (bt r k : Nat) := rfl
        have hq : -4 ≤ l.getD k 0 * (bt r k : Nat) ∧ l.getD k 0 * (bt r k : Nat) ≤ 4 := by rw [mul_bt]; split <;> omega
        generalize l.getD k 0 = x at *
        go_wp2_with (first
          | (go_at_call 72; refine (bit_any r k hr (by omega) _).mono ?_; rintro e w1 ⟨rfl, hg1⟩)
          | fail)
        go_roundw
        case rel => exact ⟨k + 1, by go_num, by omega, by rw [hw], grown_trans hgr hg1⟩
        case measure => simp [intOf]; omega
      · obtain rfl : k = n := by omega
        go_wp2_with fail
        go_ret
        exact ⟨rfl, hgr⟩
def hiK (l : List Int) (b : Nat) : Nat → Int
  | 0 => 20
  | k + 1 => if bt b k = 1 then min (hiK l b k) (wsK l k l.length) else hiK l b k
def loK (l : List Int) (b : Nat) : Nat → Int
  | 0 => -20
  | k + 1 => if bt b k = 1 then loK l b k else max (loK l b k) (wsK l k l.length + 1)
theorem hi_le {l : List Int} (h : W4 l) (b : Nat) : ∀ k : Nat, -16 ≤ hiK l b k ∧ hiK l b k ≤ 20
  | 0 => by simp [hiK]
  | k + 1 => by
    have h1 := hi_le h b k
    have h2 := wsK_le h k l.length
    have h3 := h.1
    rw [hiK]
    split <;> omega
theorem lo_le {l : List Int} (h : W4 l) (b : Nat) : ∀ k : Nat, -20 ≤ loK l b k ∧ loK l b k ≤ 17
  | 0 => by simp [loK]
  | k + 1 => by
    have h1 := lo_le h b k
    have h2 := wsK_le h k l.length
    have h3 := h.1
    rw [loK]
    split <;> omega
theorem rows_anyw (n : Nat) (b : Int) (hn : n ≤ 4) (W : World) : Calls Try.prog 71 #[.agg #[.int .i64 n, .int .i64 b]] W fun e w' => e = .returned (.int .i64 (R2 n : Nat)) ∧ W.grownBy w' none :=
  Ev.grownW (vs := [.agg #[.int .i64 n, .int .i64 b]]) (ev71 n b hn) (by simp only [VR, VRL]; exact ⟨_, _, rfl, ⟨#[.int .i64 n, .int .i64 b], rfl, _, _, rfl, rfl, _, _, rfl, rfl, rfl⟩, rfl⟩) (by simp [V.idsL, V.ids]) W
theorem at_anyw (n : Int) (b r : Nat) (hb : b < 9223372036854775808) (hr : r ≤ 64) (W : World) : Calls Try.prog 73 #[.agg #[.int .i64 n, .int .i64 b], .int .i64 r] W fun e w' => e = .returned (.int .i64 (bt b r : Nat)) ∧ W.grownBy w' none :=
  Ev.grownW (vs := [.agg #[.int .i64 n, .int .i64 b], .int .i64 r]) (ev73 n b r hb hr) (by simp only [VR, VRL]; exact ⟨_, _, rfl, ⟨#[.int .i64 n, .int .i64 b], rfl, _, _, rfl, rfl, _, _, rfl, rfl, rfl⟩, _, _, rfl, rfl, rfl⟩) (by simp [V.idsL, V.ids]) W
theorem level_any (n b : Nat) (v : Value) (l : List Int) (hl : W4 l) (hn : n ≤ 4) (hb : b < 65536) (w : World) (hv : RdL w v l) : Calls Try.prog 66 #[.agg #[.int .i64 n, .int .i64 b], v] w fun e w' => e = .returned (.tuple #[.int .i64 (hiK l b (R2 n)), .bool (decide (loK l b (R2 n) ≤ hiK l b (R2 n)))]) ∧ w.grownBy w' none := by
  obtain ⟨h16, h2, h3, h4⟩ := shN hn
  have hX := blk_new w (.cells #[.int .i64 (n : Int), .int .i64 (b : Int)] 25 (0, 0))
  have hX0 := cell_blk (i := 0) (v := .int .i64 (n : Int)) hX rfl
  have hX1 := cell_blk (i := 1) (v := .int .i64 (b : Int)) hX rfl
  have hv0 := hv.kept (World.grownBy_alloc w (.cells #[.int .i64 (n : Int), .int .i64 (b : Int)] 25 (0, 0)) none)
  generalize hR : R2 n = R at *
  go_enter Try.func66, Try.ntmps66
  go_wp2_with (first
    | (go_at_call 71; refine (rows_anyw n b hn _).mono ?_; rw [hR]; rintro e w1 ⟨rfl, hg1⟩; have hd0 := cell_frw hX0 hg1 (by simp); have hd1 := cell_frw hX1 hg1 (by simp))
    | fail)
  have hv1 := hv0.kept hg1
  have hg0 := grown_trans (World.grownBy_alloc w (.cells #[.int .i64 (n : Int), .int .i64 (b : Int)] 25 (0, 0)) none) hg1
  go_loopw [6, 7, 12] (fun lo hi i wr => ∃ k : Nat, i = .int .i64 k ∧ k ≤ R ∧ lo = .int .i64 (loK l b k) ∧ hi = .int .i64 (hiK l b k) ∧ w1.grownBy wr none) (fun _ _ i _ => R - (intOf i).toNat)
  case atStart => exact ⟨0, rfl, Nat.zero_le _, rfl, rfl, grown_refl _⟩
  case round =>
    obtain ⟨k, rfl, hk, rfl, rfl, hgr⟩ := hrel
    have hd0' := cell_frw hd0 hgr (by simp)
    have hd1' := cell_frw hd1 hgr (by simp)
    have hvr := hv1.kept hgr
    have hb1 := hi_le hl b k
    have hb2 := lo_le hl b k
    have hb3 := wsK_le hl k l.length
    have hb4 := hl.1
    by_cases hkn : k < R
    · have hb5 := bt_le b k
      by_cases hbt : bt b k = 1
      · have hq : ((bt b k : Nat) : Int) = 1 := by omega
        have hH : hiK l b (k + 1) = min (hiK l b k) (wsK l k l.length) := if_pos hbt
        have hL : loK l b (k + 1) = loK l b k := if_pos hbt
        go_wp2_with (first
          | (go_at_call 85; refine (weigh_any v l k hl (by omega) _ hvr).mono ?_; rintro e w2 ⟨rfl, hg2⟩; have hf0 := cell_frw hd0' hg2 (by simp); have hf1 := cell_frw hd1' hg2 (by simp))
          | (go_at_call 73; refine (at_anyw n b k (by omega) (by omega) _).mono ?_; rintro e w3 ⟨rfl, hg3⟩)
          | fail)
        go_roundw
        case rel => exact ⟨k + 1, by go_num, by omega, by rw [hL], by rw [hH], grown_trans (grown_trans hgr hg2) hg3⟩
        case measure => simp [intOf]; omega
      · have hq : ¬ ((bt b k : Nat) : Int) = 1 := by omega
        have hH : hiK l b (k + 1) = hiK l b k := if_neg hbt
        have hL : loK l b (k + 1) = max (loK l b k) (wsK l k l.length + 1) := if_neg hbt
        go_wp2_with (first
          | (go_at_call 85; refine (weigh_any v l k hl (by omega) _ hvr).mono ?_; rintro e w2 ⟨rfl, hg2⟩; have hf0 := cell_frw hd0' hg2 (by simp); have hf1 := cell_frw hd1' hg2 (by simp))
          | (go_at_call 73; refine (at_anyw n b k (by omega) (by omega) _).mono ?_; rintro e w3 ⟨rfl, hg3⟩)
          | fail)
        go_roundw
        case rel => exact ⟨k + 1, by go_num, by omega, by rw [hL], by rw [hH], grown_trans (grown_trans hgr hg2) hg3⟩
        case measure => simp [intOf]; omega
    · obtain rfl : k = R := by omega
      go_wp2_with fail
      go_ret2
      exact ⟨rfl, grown_trans hg0 hgr⟩
end
section
open Go.RowKit Go.IntWalk
theorem bits_andw {x y : Nat} (h1 : x < 9223372036854775808) (h2 : y < 9223372036854775808) : bits .and .i64 (x : Nat) (y : Nat) = ((x &&& y : Nat) : Int) := by
  have : x &&& y < 9223372036854775808 := Nat.lt_of_le_of_lt Nat.and_le_left h1
  show IntKind.wrap .i64 ((BitVec.ofInt IntKind.i64.bits (x : Int) &&& BitVec.ofInt IntKind.i64.bits (y : Int)).toNat : Int) = _
  rw [andB (lt64 h1) (lt64 h2), wrapN this]
theorem hbit_w (r k : Nat) (hr : r < 16) : bits .and .i64 ((r : Int) / 2 ^ k) 1 = ((bt r k : Nat) : Int) := by
  have e : ((r : Int) / 2 ^ k) = ((r >>> k : Nat) : Int) := by rw [Nat.shiftRight_eq_div_pow]; simp
  rw [e]
  have h := bits_andw (x := r >>> k) (y := 1) (Nat.lt_of_le_of_lt (Nat.shiftRight_le r k) (by omega)) (by omega)
  rw [show bt r k = r >>> k &&& 1 by with_unfolding_all rfl]
  exact h
theorem sum_any (v : Value) (l : List Int) (r : Nat) (hl : W4 l) (hr : r < 16) (w : World) (hv : RdL w v l ∨ ∃ a, v = .slice (some a) 0 0 ∧ l = []) : Calls Try.prog 62 #[v, .int .i64 r] w fun e w' => e = .returned (.int .i64 (wsK l r l.length)) ∧ w' = w := by
  have hl4 := hl.1
  have hnil : ∀ o cp, v = .slice o 0 cp → l = [] → Calls Try.prog 62 #[v, .int .i64 r] w fun e w' => e = .returned (.int .i64 (wsK l r l.length)) ∧ w' = w := by
    rintro o cp rfl rfl
    go_enter Try.func62, Try.ntmps62
    go_wp2_with fail
    go_loopw [5, 6] (fun s i wr => s = .int .i64 0 ∧ i = .int .i64 0 ∧ wr = w) (fun _ i _ => 0)
    case atStart => exact ⟨rfl, rfl, rfl⟩
    case round =>
      obtain ⟨rfl, rfl, rfl⟩ := hrel
      go_wp2_with fail
      go_ret
      exact ⟨rfl, rfl⟩
  rcases hv with (⟨h1, h2⟩ | ⟨g, cp, rfl, hc⟩) | ⟨a, h1, h2⟩
  · exact hnil _ _ h1 h2
  · clear hnil
    generalize hln : l.length = n at *
    go_enter Try.func62, Try.ntmps62
    go_wp2_with fail
    go_loopw [5, 6] (fun s i wr => ∃ k : Nat, i = .int .i64 k ∧ k ≤ n ∧ s = .int .i64 (wsK l r k) ∧ wr = w) (fun _ i _ => n - (intOf i).toNat)
    case atStart => exact ⟨0, rfl, Nat.zero_le _, rfl, rfl⟩
    case round =>
      obtain ⟨k, rfl, hk, rfl, rfl⟩ := hrel
      have hb1 := wsK_le hl r k
      by_cases hkn : k < n
      · have hck := hc k hkn
        have hb2 := hl.2 k
        have hw : wsK l r (k + 1) = wsK l r k + l.getD k 0 * (bt r k : Nat) := rfl
        have hq : -4 ≤ l.getD k 0 * (bt r k : Nat) ∧ l.getD k 0 * (bt r k : Nat) ≤ 4 := by rw [mul_bt]; split <;> omega
        clear hc
        have hbt := hbit_w r k hr
        generalize l.getD k 0 = x at *
        go_wp2_with fail
        go_roundw
        case rel => exact ⟨k + 1, by go_num, by omega, by rw [hw], by first | rfl | trivial⟩
        case measure => simp [intOf]; (try omega)
      · obtain rfl : k = n := by omega
        go_wp2_with fail
        go_ret
        exact ⟨rfl, rfl⟩
  · exact hnil _ _ h1 h2
def moK (l : List Int) (b : Nat) : Nat → Int
  | 0 => -100
  | k + 1 => if bt b k = 1 then moK l b k else max (moK l b k) (wsK l k l.length)
theorem mo_le {l : List Int} (h : W4 l) (b : Nat) : ∀ k : Nat, -100 ≤ moK l b k ∧ moK l b k ≤ 16
  | 0 => by simp [moK]
  | k + 1 => by
    have h1 := mo_le h b k
    have h2 := wsK_le h k l.length
    have h3 := h.1
    rw [moK]
    split <;> omega
/-- Both sides tell weighings alike. -/
theorem mo_lo {l : List Int} (h : W4 l) (b : Nat) : ∀ k : Nat, loK l b k = max (-20) (moK l b k + 1)
  | 0 => by show (-20 : Int) = max (-20) (-100 + 1); decide
  | k + 1 => by
    have h1 := mo_lo h b k
    rw [loK, moK]
    split
    · exact h1
    · rw [h1]; omega
theorem okW {l : List Int} (h : W4 l) (b k : Nat) : decide (moK l b k < hiK l b k) = decide (loK l b k ≤ hiK l b k) := by
  have h1 := mo_lo h b k
  have h2 := hi_le h b k
  rw [Bool.eq_iff_iff]
  simp only [decide_eq_true_eq]
  omega
theorem srows_anyw (n : Nat) (hn : n ≤ 4) (W : World) : Calls Try.prog 53 #[.int .i64 n] W fun e w' => e = .returned (.int .i64 (R2 n : Nat)) ∧ W.grownBy w' none :=
  Ev.grownW (vs := [.int .i64 n]) (ev53 n hn) (by simp only [VR, VRL]; exact ⟨_, _, rfl, rfl, rfl⟩) (by simp [V.idsL, V.ids]) W
theorem sat_anyw (n : Int) (b r : Nat) (hb : b < 9223372036854775808) (hr : r ≤ 64) (W : World) : Calls Try.prog 52 #[.agg #[.int .i64 n, .int .i64 b], .int .i64 r] W fun e w' => e = .returned (.int .i64 (bt b r : Nat)) ∧ W.grownBy w' none :=
  Ev.grownW (vs := [.agg #[.int .i64 n, .int .i64 b], .int .i64 r]) (ev52 n b r hb hr) (by simp only [VR, VRL]; exact ⟨_, _, rfl, ⟨#[.int .i64 n, .int .i64 b], rfl, _, _, rfl, rfl, _, _, rfl, rfl, rfl⟩, _, _, rfl, rfl, rfl⟩) (by simp [V.idsL, V.ids]) W
def RdE (w : World) (v : Value) (l : List Int) : Prop := RdL w v l ∨ ∃ a, v = .slice (some a) 0 0 ∧ l = []
theorem RdE.kept {w w' : World} {v : Value} {l : List Int} (h : RdE w v l) (hg : w.grownBy w' none) : RdE w' v l := by
  rcases h with h | h
  · exact .inl (h.kept hg)
  · exact .inr h
theorem weighed_any (n b : Nat) (v : Value) (l : List Int) (hl : W4 l) (hn : n ≤ 4) (hb : b < 65536) (w : World) (hv : RdE w v l) : Calls Try.prog 68 #[.agg #[.int .i64 n, .int .i64 b], v] w fun e w' => e = .returned (.tuple #[.int .i64 (hiK l b (R2 n)), .bool (decide (loK l b (R2 n) ≤ hiK l b (R2 n)))]) ∧ w.grownBy w' none := by
  rw [← okW hl]
  obtain ⟨h16, h2, h3, h4⟩ := shN hn
  have hX := blk_new w (.cells #[.int .i64 (n : Int), .int .i64 (b : Int)] 25 (0, 0))
  have hX0 := cell_blk (i := 0) (v := .int .i64 (n : Int)) hX rfl
  have hX1 := cell_blk (i := 1) (v := .int .i64 (b : Int)) hX rfl
  have hv0 := hv.kept (World.grownBy_alloc w (.cells #[.int .i64 (n : Int), .int .i64 (b : Int)] 25 (0, 0)) none)
  have hg0 := World.grownBy_alloc w (.cells #[.int .i64 (n : Int), .int .i64 (b : Int)] 25 (0, 0)) none
  generalize hR : R2 n = R at *
  go_enter Try.func68, Try.ntmps68
  go_wp2_with fail
  generalize w.alloc (.cells #[.int .i64 (n : Int), .int .i64 (b : Int)] 25 (0, 0)) = w1 at *
  go_loopw [6, 7, 8] (fun hi mo i wr => ∃ k : Nat, i = .int .i64 k ∧ k ≤ R ∧ mo = .int .i64 (moK l b k) ∧ hi = .int .i64 (hiK l b k) ∧ w1.grownBy wr none) (fun _ _ i _ => R - (intOf i).toNat)
  case atStart => exact ⟨0, rfl, Nat.zero_le _, rfl, rfl, grown_refl _⟩
  case round =>
    obtain ⟨k, rfl, hk, rfl, rfl, hgr⟩ := hrel
    have hd0' := cell_frw hX0 hgr (by simp)
    have hd1' := cell_frw hX1 hgr (by simp)
    have hvr := hv0.kept hgr
    have hb1 := hi_le hl b k
    have hb2 := mo_le hl b k
    have hb3 := wsK_le hl k l.length
    have hb4 := hl.1
    by_cases hkn : k < R
    · have hb5 := bt_le b k
      by_cases hbt : bt b k = 1
      · have hq : ((bt b k : Nat) : Int) = 1 := by omega
        have hH : hiK l b (k + 1) = min (hiK l b k) (wsK l k l.length) := if_pos hbt
        have hL : moK l b (k + 1) = moK l b k := if_pos hbt
        go_wp2_with (first
          | (go_at_call 53; refine (srows_anyw n hn _).mono ?_; rw [hR]; rintro e w2 ⟨rfl, hg2⟩; have hf0 := cell_frw hd0' hg2 (by simp); have hf1 := cell_frw hd1' hg2 (by simp); have hvr2 := hvr.kept hg2)
          | (go_at_call 62; refine (sum_any v l k hl (by omega) _ hvr2).mono ?_; rintro e w4 ⟨rfl, hw4⟩; subst hw4)
          | (go_at_call 52; refine (sat_anyw n b k (by omega) (by omega) _).mono ?_; rintro e w3 ⟨rfl, hg3⟩)
          | fail)
        go_roundw
        case rel => exact ⟨k + 1, by go_num, by omega, by rw [hL], by rw [hH], grown_trans (grown_trans hgr hg2) hg3⟩
        case measure => simp [intOf]; omega
      · have hq : ¬ ((bt b k : Nat) : Int) = 1 := by omega
        have hH : hiK l b (k + 1) = hiK l b k := if_neg hbt
        have hL : moK l b (k + 1) = max (moK l b k) (wsK l k l.length) := if_neg hbt
        go_wp2_with (first
          | (go_at_call 53; refine (srows_anyw n hn _).mono ?_; rw [hR]; rintro e w2 ⟨rfl, hg2⟩; have hf0 := cell_frw hd0' hg2 (by simp); have hf1 := cell_frw hd1' hg2 (by simp); have hvr2 := hvr.kept hg2)
          | (go_at_call 62; refine (sum_any v l k hl (by omega) _ hvr2).mono ?_; rintro e w4 ⟨rfl, hw4⟩; subst hw4)
          | (go_at_call 52; refine (sat_anyw n b k (by omega) (by omega) _).mono ?_; rintro e w3 ⟨rfl, hg3⟩)
          | fail)
        go_roundw
        case rel => exact ⟨k + 1, by go_num, by omega, by rw [hL], by rw [hH], grown_trans (grown_trans hgr hg2) hg3⟩
        case measure => simp [intOf]; omega
    · obtain rfl : k = R := by omega
      go_wp2_with (first
        | (go_at_call 53; refine (srows_anyw n hn _).mono ?_; rw [hR]; rintro e w2 ⟨rfl, hg2⟩)
        | fail)
      go_ret2
      exact ⟨rfl, grown_trans hg0 (grown_trans hgr hg2)⟩
end
section
open Go.RowKit Go.IntWalk
theorem zvL_len (l : List Int) : (zvL l).length = l.length := by simp [zvL]
theorem add0 (g j : Nat) : Addr.add ⟨g, 0, none⟩ j = ⟨g, j, none⟩ := by
  cases j <;> simp [Addr.add]
theorem own_cells {w : World} {b : Nat} {e : TypeId} {g cap n : Nat} {xs : List Value} (h : w.ownsRow b e 1 (.slice (some ⟨g, 0, none⟩) n cap) n xs) : ∀ j u, xs[j]? = some u → w.cell? (Addr.add ⟨g, 0, none⟩ j) = some u := by
  intro j u hj
  rcases h.2 with ⟨h1, _⟩ | ⟨g', cap', cur, hv, hg, hh, h1, h2, h3, h4⟩
  · simp at h1
  · simp only [Value.slice.injEq, Option.some.injEq, Addr.mk.injEq] at hv
    obtain ⟨⟨rfl, _⟩, _, rfl⟩ := hv
    subst h4
    rw [List.getElem?_take] at hj
    split at hj
    · rw [Array.getElem?_toList] at hj
      rw [add0]; exact cell_blk (i := j) hh hj
    · simp at hj
theorem own_rd {w : World} {b : Nat} {v : Value} {l : List Int} (h : w.ownsRow b 2 1 v l.length (zvL l)) : RdL w v l := by
  rcases h.2 with ⟨h1, h2⟩ | ⟨g, cap, cur, rfl, hg, hh, h1, h2, h3, h4⟩
  · exact .inl ⟨h1, List.eq_nil_of_length_eq_zero h2⟩
  · refine .inr ⟨g, cap, rfl, fun i hi => ?_⟩
    have := own_cells h i (.int .i64 (l.getD i 0)) (by simp [zvL, List.getD_eq_getElem?_getD, List.getElem?_eq_getElem hi])
    rwa [add0] at this
theorem own_below {w w' : World} {b e n sz : Nat} {v : Value} {xs : List Value} {B : Nat} (h : w.ownsRow b e sz v n xs) (hb : Below B w w') (hB : ∀ g, v.ownBlock = some g → g < B) : w'.ownsRow b e sz v n xs := by
  obtain ⟨h1, h2⟩ := h
  refine ⟨h1, ?_⟩
  rcases h2 with h2 | ⟨g, cap, cur, rfl, hg, hh, r⟩
  · exact .inl h2
  · exact .inr ⟨g, cap, cur, rfl, hg, by rw [hb.block g (hB g rfl)]; exact hh, r⟩
theorem own_ty {w : World} {b e b' e' n n' sz sz' : Nat} {v v' : Value} {xs xs' : List Value} (h : w.ownsRow b e sz v n xs) (h' : w.ownsRow b' e' sz' v' n' xs') (hne : e ≠ e') : v.ownBlock = none ∨ v.ownBlock ≠ v'.ownBlock := by
  rcases h.2 with ⟨rfl, _⟩ | ⟨g, cap, cur, rfl, hg, hh, _⟩
  · exact .inl rfl
  · refine .inr fun he => ?_
    rcases h'.2 with ⟨rfl, _⟩ | ⟨g', cap', cur', rfl, hg', hh', _⟩
    · simp [Value.ownBlock] at he
    · simp only [Value.ownBlock, Option.some.injEq] at he
      subst he
      rw [hh] at hh'
      simp only [Option.some.injEq, Obj.cells.injEq] at hh'
      exact hne hh'.2.1
theorem clone_any (v : Value) (l : List Int) (b : Nat) (hl : l.length ≤ 4) (w : World) (h : w.ownsRow b 2 1 v l.length (zvL l)) : Calls Try.prog 84 #[v] w fun e w' => ∃ v', e = .returned v' ∧ w'.ownsRow w.heap.size 2 1 v' l.length (zvL l) ∧ w.grownBy w' none := by
  obtain ⟨i0, hi, hz0, hz1, hz2⟩ := info_parts Try.info2
  have hu27 := fun (W : World) (a : Option Addr) (l c : Nat) => Lib.run_eql_slice_nil (P := Try.prog) W 27 2 a l c 0 0 Try.underlying27
  rcases h.2 with ⟨rfl, h2⟩ | ⟨g, cap, cur, rfl, hg, hh, h1, h2, h3, h4⟩
  · go_enter Try.func84, Try.ntmps84
    go_wp2_with fail
    go_ret
    obtain rfl := List.eq_nil_of_length_eq_zero h2
    exact ⟨_, rfl, World.ownsRow_nil _ _ _ _, grown_refl _⟩
  · have ho : (w.alloc (.cells #[] 2 (0, 0))).ownsRow w.heap.size 2 1 (.slice (some ⟨w.heap.size, 0, none⟩) 0 0) 0 [] := ⟨rfl, .inr ⟨w.heap.size, 0, #[], rfl, Nat.le_refl _, blk_new _ _, Nat.le_refl _, Nat.zero_le _, rfl, rfl⟩⟩
    have hc := own_cells (h.alloc (.cells #[] 2 (0, 0)))
    go_enter Try.func84, Try.ntmps84
    go_wp2_with (first
      | (at_builtin; refine wpList_append_own _ rfl (.tmp 5) (.tmp 6) 27 rfl w.heap.size 2 i0 _ 1 8 Try.underlying27 hi hz0 hz1 hz2 rfl (by decide) _ _ _ rfl ho ⟨g, 0, none⟩ l.length cap (zvL l) rfl (by rw [zvL_len]; omega) hc (by intro u hu; simp only [zvL, List.mem_map] at hu; obtain ⟨_, _, rfl⟩ := hu; rfl) (by unfold maxLen; omega) (by omega) (by simp) ?_; intro v' w3 hown' hgrow _)
      | fail)
    go_ret
    refine ⟨_, rfl, by simpa using hown', ?_⟩
    exact below_grown (((Below.refl _ _).alloc (Nat.le_refl _) _).grown hgrow (by simp) (fun j hj => (own_ge ho hj).1))
def RowsL (w : World) (b : Nat) (z : Value → Prop) (vs : List Value) (ls : List (List Int)) : Prop :=
  vs.length = ls.length ∧ ∀ i, i < ls.length → w.ownsRow b 2 1 (vs.getD i undef) (ls.getD i []).length (zvL (ls.getD i [])) ∧ (ls.getD i [] = [] → z (vs.getD i undef))
theorem RowsL.kept {w w' : World} {b : Nat} {z : Value → Prop} {vs : List Value} {ls : List (List Int)} {row : Option Nat} (h : RowsL w b z vs ls) (hg : w.grownBy w' row)
    (hr : ∀ i, i < ls.length → (vs.getD i undef).ownBlock = none ∨ (vs.getD i undef).ownBlock ≠ row) : RowsL w' b z vs ls :=
  ⟨h.1, fun i hi => ⟨(h.2 i hi).1.kept hg (hr i hi), (h.2 i hi).2⟩⟩
theorem RowsL.below {w w' : World} {b B : Nat} {z : Value → Prop} {vs : List Value} {ls : List (List Int)} (h : RowsL w b z vs ls) (hb : Below B w w') (hB : w.heap.size ≤ B) : RowsL w' b z vs ls :=
  ⟨h.1, fun i hi => ⟨own_below (h.2 i hi).1 hb fun g hg => Nat.lt_of_lt_of_le (own_ge (h.2 i hi).1 hg).2 hB, (h.2 i hi).2⟩⟩
theorem RowsL.outer {w w' : World} {b b' n : Nat} {z : Value → Prop} {vs : List Value} {ls : List (List Int)} {V : Value} {xs : List Value} (h : RowsL w b z vs ls) (hV : w.ownsRow b' 27 1 V n xs) (hg : w.grownBy w' V.ownBlock) : RowsL w' b z vs ls :=
  h.kept hg fun i hi => own_ty (h.2 i hi).1 hV (by decide)
theorem RowsL.snoc {w : World} {b : Nat} {z : Value → Prop} {vs : List Value} {ls : List (List Int)} {v : Value} {l : List Int} (h : RowsL w b z vs ls) (hv : w.ownsRow b 2 1 v l.length (zvL l)) (hz : l = [] → z v) : RowsL w b z (vs ++ [v]) (ls ++ [l]) := by
  refine ⟨by simp [h.1], fun i hi => ?_⟩
  have h1 := h.1
  by_cases e : i < ls.length
  · rw [show (vs ++ [v]).getD i undef = vs.getD i undef by rw [List.getD_eq_getElem?_getD, List.getD_eq_getElem?_getD, List.getElem?_append_left (by omega)],
      show (ls ++ [l]).getD i [] = ls.getD i [] by rw [List.getD_eq_getElem?_getD, List.getD_eq_getElem?_getD, List.getElem?_append_left (by omega)]]
    exact h.2 i e
  · have e2 : i = ls.length := by simp at hi; omega
    subst e2
    rw [show (vs ++ [v]).getD ls.length undef = v by rw [← h1, List.getD_eq_getElem?_getD, List.getElem?_append_right (Nat.le_refl _)]; simp,
      show (ls ++ [l]).getD ls.length [] = l by rw [List.getD_eq_getElem?_getD, List.getElem?_append_right (Nat.le_refl _)]; simp]
    exact ⟨hv, hz⟩
theorem RowsL.base {w : World} {b b' : Nat} {z : Value → Prop} {vs : List Value} {ls : List (List Int)} (h : RowsL w b z vs ls) (hb : b' ≤ b) : RowsL w b' z vs ls :=
  ⟨h.1, fun i hi => ⟨ownsRow_mono (h.2 i hi).1 hb, (h.2 i hi).2⟩⟩
theorem RowsL.nil (w : World) (b : Nat) (z : Value → Prop) : RowsL w b z [] [] := ⟨rfl, fun i hi => absurd hi (by simp)⟩
theorem out_cell {w : World} {b : Nat} {e : TypeId} {g cp n : Nat} {xs : List Value} (h : w.ownsRow b e 1 (.slice (some ⟨g, 0, none⟩) n cp) n xs) {i : Nat} (hi : i < n) : w.cell? ⟨g, i, none⟩ = some (xs.getD i undef) := by
  have hl := h.1
  have := own_cells h i (xs.getD i undef) (by rw [List.getD_eq_getElem?_getD, List.getElem?_eq_getElem (by omega)]; rfl)
  rwa [add0] at this
theorem own_some {w : World} {b e sz n : Nat} {v : Value} {xs : List Value} (h : w.ownsRow b e sz v n xs) (hn : 0 < n) : ∃ g cp, v = .slice (some ⟨g, 0, none⟩) n cp := by
  rcases h.2 with ⟨rfl, h2⟩ | ⟨g, cap, cur, rfl, _⟩
  · omega
  · exact ⟨_, _, rfl⟩
/-- All lists of n weights, in order. -/
def nine (l : List Int) : Nat → List (List Int)
  | 0 => []
  | k + 1 => nine l k ++ [l ++ [(k : Int) - 4]]
def L9K (L : List (List Int)) : Nat → List (List Int)
  | 0 => []
  | k + 1 => L9K L k ++ nine (L.getD k []) 9
def L9 : Nat → List (List Int)
  | 0 => [[]]
  | k + 1 => L9K (L9 k) (L9 k).length
theorem nine_len (l : List Int) : ∀ k, (nine l k).length = k
  | 0 => rfl
  | k + 1 => by rw [nine, List.length_append, nine_len l k]; rfl
theorem L9K_len (L : List (List Int)) : ∀ k, (L9K L k).length = 9 * k
  | 0 => rfl
  | k + 1 => by rw [L9K, List.length_append, L9K_len L k, nine_len]; omega
theorem L9_len : ∀ k, (L9 k).length = 9 ^ k
  | 0 => rfl
  | k + 1 => by rw [L9, L9K_len, L9_len k, Nat.pow_succ]; omega
theorem L9_4 {n : Nat} (h : n ≤ 4) : (L9 n).length ≤ 6561 := by
  rw [L9_len]; exact Nat.le_trans (Nat.pow_le_pow_right (by omega) h) (by decide)
theorem nine_mem {l x : List Int} : ∀ {k : Nat}, k ≤ 9 → x ∈ nine l k → ∃ y : Int, -4 ≤ y ∧ y ≤ 4 ∧ x = l ++ [y]
  | 0, _, h => by simp [nine] at h
  | k + 1, hk, h => by
    rw [nine, List.mem_append] at h
    rcases h with h | h
    · exact nine_mem (by omega) h
    · simp at h; exact ⟨_, by omega, by omega, h⟩
theorem L9K_mem {L : List (List Int)} {x : List Int} : ∀ {k : Nat}, k ≤ L.length → x ∈ L9K L k → ∃ l ∈ L, ∃ y : Int, -4 ≤ y ∧ y ≤ 4 ∧ x = l ++ [y]
  | 0, _, h => by simp [L9K] at h
  | k + 1, hk, h => by
    rw [L9K, List.mem_append] at h
    rcases h with h | h
    · exact L9K_mem (by omega) h
    · obtain ⟨y, h1, h2, h3⟩ := nine_mem (Nat.le_refl _) h
      exact ⟨L.getD k [], by rw [List.getD_eq_getElem?_getD, List.getElem?_eq_getElem (by omega)]; exact List.getElem_mem _, y, h1, h2, h3⟩
theorem L9_mem : ∀ {k : Nat} {l : List Int}, l ∈ L9 k → l.length = k ∧ ∀ x ∈ l, -4 ≤ x ∧ x ≤ 4
  | 0, l, h => by simp [L9] at h; subst h; simp
  | k + 1, l, h => by
    rw [L9] at h
    obtain ⟨l', h1, y, h2, h3, rfl⟩ := L9K_mem (Nat.le_refl _) h
    obtain ⟨h4, h5⟩ := L9_mem h1
    refine ⟨by simp [h4], fun x hx => ?_⟩
    rcases List.mem_append.mp hx with h | h
    · exact h5 x h
    · simp at h; subst h; exact ⟨h2, h3⟩
theorem W4_of {l : List Int} {k : Nat} (hk : k ≤ 4) (h : l.length = k ∧ ∀ x ∈ l, -4 ≤ x ∧ x ≤ 4) : W4 l := by
  refine ⟨by omega, fun i => ?_⟩
  rw [List.getD_eq_getElem?_getD]
  cases hi : l[i]? with
  | none => simp
  | some x => exact h.2 x (List.mem_of_getElem? hi)
theorem L9_get {k j : Nat} (hk : k ≤ 4) (h : j < (L9 k).length) : ((L9 k).getD j []).length = k ∧ W4 ((L9 k).getD j []) := by
  have hm : (L9 k).getD j [] ∈ L9 k := by rw [List.getD_eq_getElem?_getD, List.getElem?_eq_getElem h]; exact List.getElem_mem _
  exact ⟨(L9_mem hm).1, W4_of hk (L9_mem hm)⟩
theorem Try.info27 : (Try.prog.info? 27).map (fun i => (i.zero, i.size, i.bytes)) = some (some (.slice none 0 0), 1, 24) := by kernel_rfl
abbrev zNil : Value → Prop := fun v => v = .slice none 0 0
theorem wl_mid {w0 wr w2 w3 : World} {k c1 n : Nat} {o1 : Option Addr} {xs us : List Value} {W : Value} {ls : List (List Int)} {X : Obj} (hg1 : wr.grownBy w2 none) (hv1 : w2.ownsRow wr.heap.size 2 1 (.slice o1 k c1) k xs) (hg2 : (w2.alloc X).grownBy w3 (Value.ownBlock (.slice o1 k c1)))
    (hW : wr.ownsRow w0.heap.size 27 1 W n us) (hU : RowsL wr w0.heap.size zNil us ls) : Below wr.heap.size wr w3 ∧ w3.ownsRow w0.heap.size 27 1 W n us ∧ RowsL w3 w0.heap.size zNil us ls ∧ wr.heap.size ≤ w3.heap.size := by
  have hb : Below wr.heap.size wr w3 := (((Below.refl _ _).grown hg1 (Nat.le_refl _) (fun k hk => by cases hk)).alloc hg1.size _).grown hg2 (by have := hg1.size; simp; omega) (fun j hj => (own_ge hv1 hj).1)
  exact ⟨hb, own_below hW hb fun g hg => (own_ge hW hg).2, hU.below hb (Nat.le_refl _), hb.size⟩
theorem wl_end {w0 wr w3 w4 : World} {k c2 n : Nat} {o2 : Option Addr} {us : List Value} {W V4 : Value} {ls : List (List Int)} {l : List Int} {x : Int} {X : Obj} (hbx : Below w0.heap.size w0 wr) (hlk : l.length = k)
    (hst : Below wr.heap.size wr w3 ∧ w3.ownsRow w0.heap.size 27 1 W n us ∧ RowsL w3 w0.heap.size zNil us ls ∧ wr.heap.size ≤ w3.heap.size) (hv2 : w3.ownsRow wr.heap.size 2 1 (.slice o2 (k + 1) c2) (k + 1) (zvL l ++ [.int .i64 x]))
    (hv4 : w4.ownsRow w0.heap.size 27 1 V4 (n + 1) (us ++ [.slice o2 (k + 1) c2])) (hg4 : (w3.alloc X).grownBy w4 W.ownBlock) (hn : n = ls.length) :
    w4.ownsRow w0.heap.size 27 1 V4 (ls ++ [l ++ [x]]).length (us ++ [.slice o2 (k + 1) c2]) ∧ RowsL w4 w0.heap.size zNil (us ++ [.slice o2 (k + 1) c2]) (ls ++ [l ++ [x]]) ∧ Below w0.heap.size w0 w4 := by
  have hs1 := hbx.size
  have hs2 := hst.2.2.2
  have hU1 := (hst.2.2.1.kept (World.grownBy_alloc w3 X none) (fun i hi => by cases (us.getD i undef).ownBlock <;> simp)).outer (hst.2.1.alloc X) hg4
  have hv3 := (hv2.alloc X).kept hg4 (own_ty (hv2.alloc X) (hst.2.1.alloc X) (by decide))
  refine ⟨by rw [List.length_append, ← hn]; exact hv4, hU1.snoc ?_ (fun h => absurd h (by simp)), ?_⟩
  · refine ownsRow_mono ?_ (show w0.heap.size ≤ wr.heap.size from hs1)
    rw [show (l ++ [x]).length = k + 1 by simp [hlk], show zvL (l ++ [x]) = zvL l ++ [.int .i64 x] by simp [zvL]]
    exact hv3
  · exact ((hbx.trans (hst.1.mono hs1)).alloc (by omega) _).grown hg4 (by simp; omega) (fun j hj => (own_ge hst.2.1 hj).1)
theorem lists_any (n : Nat) (hn : n ≤ 4) (w : World) : Calls Try.prog 65 #[.int .i64 n] w fun e w' => ∃ V vs, e = .returned V ∧ w'.ownsRow w.heap.size 27 1 V (L9 n).length vs ∧ RowsL w' w.heap.size zNil vs (L9 n) ∧ w.grownBy w' none := by
  obtain ⟨i0, hi, hz0, hz1, hz2⟩ := info_parts Try.info2
  obtain ⟨j0, hj, hy0, hy1, hy2⟩ := info_parts Try.info27
  have hstart : RowsL (w.alloc (.cells #[.slice none 0 0] 27 (0, 0))) w.heap.size zNil [.slice none 0 0] (L9 0) := (RowsL.nil _ _ _).snoc (World.ownsRow_nil _ _ _ _) (fun _ => rfl)
  have hout : (w.alloc (.cells #[.slice none 0 0] 27 (0, 0))).ownsRow w.heap.size 27 1 (.slice (some ⟨w.heap.size, 0, none⟩) 1 1) 1 [.slice none 0 0] := ⟨rfl, .inr ⟨w.heap.size, 1, #[.slice none 0 0], rfl, Nat.le_refl _, blk_new _ _, Nat.le_refl _, by decide, rfl, rfl⟩⟩
  go_enter Try.func65, Try.ntmps65
  go_wp2_with fail
  go_loopw [3, 10] (fun V i wr => ∃ (k : Nat) (vs : List Value), i = .int .i64 k ∧ k ≤ n ∧ wr.ownsRow w.heap.size 27 1 V (L9 k).length vs ∧ RowsL wr w.heap.size zNil vs (L9 k) ∧ w.grownBy wr none) (fun _ i _ => n - (intOf i).toNat)
  case atStart => exact ⟨0, _, rfl, Nat.zero_le _, hout, hstart, World.grownBy_alloc _ _ _⟩
  case round =>
    obtain ⟨k, vs, rfl, hk, hV, hR, hgr⟩ := hrel
    by_cases hkn : k < n
    · have hL4 := L9_4 (n := k) (by omega)
      have hLp : 0 < (L9 k).length := by rw [L9_len]; exact Nat.pow_pos (by omega)
      obtain ⟨g, cp, rfl⟩ := own_some hV hLp
      generalize hN : (L9 k).length = N at *
      go_wp2_with fail
      obtain ⟨w0, rfl⟩ : ∃ w0 : World, w0 = wr := ⟨_, rfl⟩
      go_loopw [4, 14] (fun W i wq => ∃ (j : Nat) (us : List Value), i = .int .i64 j ∧ j ≤ N ∧ wq.ownsRow w0.heap.size 27 1 W (L9K (L9 k) j).length us ∧ RowsL wq w0.heap.size zNil us (L9K (L9 k) j) ∧ Below w0.heap.size w0 wq) (fun _ i _ => N - (intOf i).toNat)
      case atStart => exact ⟨0, [], rfl, Nat.zero_le _, World.ownsRow_nil _ _ _ _, RowsL.nil _ _ _, Below.refl _ _⟩
      case round =>
        obtain ⟨j, us, rfl, hj', hW, hU, hbq⟩ := hrel
        by_cases hjN : j < N
        · have hVq := own_below hV hbq fun g hg => (own_ge hV hg).2
          have hRq := hR.below hbq (Nat.le_refl _)
          have hcj := out_cell hVq hjN
          have hl4 := L9_get (k := k) (j := j) (by omega) (by omega)
          have hvj := hR.2 j (by omega)
          generalize vs.getD j undef = v at *
          obtain ⟨l, hl⟩ : ∃ l, l = (L9 k).getD j [] := ⟨_, rfl⟩
          rw [← hl] at hl4 hvj
          have hstep : L9K (L9 k) (j + 1) = L9K (L9 k) j ++ nine l 9 := by rw [hl]; rfl
          clear hl
          have hlk : l.length = k := hl4.1
          obtain ⟨ov, cv, rfl⟩ := own_shape hvj.1
          have hvq := hvj.1
          rw [hlk] at hvq
          clear hvj hl4
          have hlen0 := L9K_len (L9 k) j
          go_wp2_with fail
          go_loopw [4, 7] (fun W x wx => ∃ (m : Nat) (us : List Value), x = .int .i64 ((m : Int) - 4) ∧ m ≤ 9 ∧ wx.ownsRow w0.heap.size 27 1 W (L9K (L9 k) j ++ nine l m).length us ∧ RowsL wx w0.heap.size zNil us (L9K (L9 k) j ++ nine l m) ∧ Below w0.heap.size w0 wx) (fun _ x _ => 9 - (intOf x + 4).toNat)
          case atStart => exact ⟨0, us, rfl, Nat.zero_le _, by simpa [nine] using hW, by simpa [nine] using hU, hbq⟩
          case round =>
            obtain ⟨m, us, rfl, hm, hW, hU, hbx⟩ := hrel
            have hWl : (L9K (L9 k) j ++ nine l m).length = 9 * j + m := by rw [List.length_append, L9K_len, nine_len]
            rw [hWl] at hW
            by_cases hm9 : m < 9
            · have hvx := own_below hvq hbx fun g hg => (own_ge hvq hg).2
              go_wp2_with (first
                | (go_at_call 84; refine (clone_any _ l _ (by omega) _ (by rw [hlk]; exact hvx)).mono ?_; rintro e w2 ⟨v1, rfl, hv1, hg1⟩; rw [hlk] at hv1; obtain ⟨o1, c1, rfl⟩ := own_shape hv1)
                | (at_builtin; (refine wpList_append_own _ rfl (.tmp 24) (.tmp 26) 27 rfl wr.heap.size 2 i0 _ 1 8 Try.underlying27 hi hz0 hz1 hz2 rfl (by decide) _ _ _ rfl (hv1.alloc _) ⟨w2.heap.size, 0, none⟩ 1 1 [.int .i64 ((m : Int) - 4)] rfl rfl (one_cell (blk_new _ _)) (by intro u hu; simp at hu; subst hu; rfl) (by unfold maxLen; omega) (by omega) (by have := hg1.size; simp; omega) ?_; intro v2 w3 hv2 hg2 _; obtain ⟨o2, c2, rfl⟩ := own_shape hv2; have hst := wl_mid hg1 hv1 hg2 hW hU))
                | (at_builtin; (refine wpList_append_own _ rfl (.tmp 22) (.tmp 28) 76 rfl w0.heap.size 27 j0 _ 1 24 Try.underlying76 hj hy0 hy1 hy2 rfl (by decide) _ _ _ rfl (hst.2.1.alloc _) ⟨w3.heap.size, 0, none⟩ 1 1 [.slice o2 (k + 1) c2] rfl rfl (one_cell (blk_new _ _)) (by intro u hu; simp at hu; subst hu; rfl) (by unfold maxLen; omega) (by omega) (by have := hst.2.2.2; have := hbx.size; simp; omega) ?_; intro v4 w4 hv4 hg4 _))
                | fail)
              have hfin := wl_end hbx hlk hst hv2 hv4 hg4 hWl.symm
              rw [List.append_assoc] at hfin
              go_roundw
              case rel => exact ⟨m + 1, _, by go_num, by omega, hfin.1, hfin.2.1, hfin.2.2⟩
              case measure => simp [intOf]; omega
            · obtain rfl : m = 9 := by omega
              go_wp2_with fail
              go_roundw
              case rel => exact ⟨j + 1, us, by go_num, by omega, by rw [hstep, hWl]; exact hW, by rw [hstep]; exact hU, hbx⟩
              case measure => simp [intOf]; omega
        · obtain rfl : j = N := by omega
          go_wp2_with fail
          go_roundw
          case rel => exact ⟨k + 1, us, by go_num, by omega, by rw [show L9 (k + 1) = L9K (L9 k) j by rw [L9, hN]]; exact ownsRow_mono hW hgr.size, by rw [show L9 (k + 1) = L9K (L9 k) j by rw [L9, hN]]; exact hU.base hgr.size, below_grown ((Below.refl _ _).grown hgr (Nat.le_refl _) (fun k hk => by cases hk) |>.trans (hbq.mono hgr.size))⟩
          case measure => simp [intOf]; omega
    · obtain rfl : k = n := by omega
      go_wp2_with fail
      go_ret
      exact ⟨_, _, rfl, hV, hR, hgr⟩
end
section
open Go.RowKit Go.IntWalk
def nrK (l : List Int) : Nat → Int
  | 0 => 0
  | k + 1 => nrK l k + max (l.getD k 0) (-(l.getD k 0))
def nrm (l : List Int) : Int := nrK l l.length
theorem nrK_le {l : List Int} (h : W4 l) : ∀ k : Nat, 0 ≤ nrK l k ∧ nrK l k ≤ 4 * (k : Int)
  | 0 => by simp [nrK]
  | k + 1 => by
    have h1 := nrK_le h k
    have h2 := h.2 k
    rw [nrK]; omega
theorem nrm_nn (l : List Int) : 0 ≤ nrm l := by
  have h : ∀ k : Nat, 0 ≤ nrK l k := by
    intro k
    induction k with
    | zero => simp [nrK]
    | succ k ih => rw [nrK]; omega
  exact h _
def okL (b R : Nat) (l : List Int) : Bool := decide (loK l b R ≤ hiK l b R)
/-- The list that stands best behind k lists. -/
def pick (b R : Nat) (L : List (List Int)) : Nat → Option (List Int)
  | 0 => none
  | k + 1 => match pick b R L k with
    | none => if okL b R (L.getD k []) = true then some (L.getD k []) else none
    | some l0 => if nrm l0 ≤ nrm (L.getD k []) then some l0 else if okL b R (L.getD k []) = true then some (L.getD k []) else some l0
def stW (w : World) (b0 n b R : Nat) (B t s : Value) : Option (List Int) → Prop
  | none => B = .slice none 0 0 ∧ t = .int .i64 0 ∧ s = .int .i64 (-1)
  | some l => w.ownsRow b0 2 1 B l.length (zvL l) ∧ (l = [] → B = .slice none 0 0) ∧ l.length = n ∧ t = .int .i64 (hiK l b R) ∧ s = .int .i64 (nrm l)
def resW (w : World) (b0 n b R : Nat) (B t ok : Value) : Option (List Int) → Prop
  | none => B = .slice none 0 0 ∧ t = .int .i64 0 ∧ ok = .bool false
  | some l => w.ownsRow b0 2 1 B l.length (zvL l) ∧ (l = [] → B = .slice none 0 0) ∧ l.length = n ∧ t = .int .i64 (hiK l b R) ∧ ok = .bool true

theorem weighing_zero (b : Nat) (hb : b < 65536) (w : World) : Calls Try.prog 28 #[.agg #[.int .i64 (0 : Nat), .int .i64 b]] w fun e w' => ∃ B t ok, e = .returned (.tuple #[B, t, ok]) ∧ resW w' w.heap.size 0 b (R2 0) B t ok (pick b (R2 0) (L9 0) (L9 0).length) ∧ w.grownBy w' none := by
  have hX := blk_new w (.cells #[.int .i64 (0 : Nat), .int .i64 (b : Int)] 25 (0, 0))
  have hX0 := cell_blk (i := 0) (v := .int .i64 (0 : Nat)) hX rfl
  have hX1 := cell_blk (i := 1) (v := .int .i64 (b : Int)) hX rfl
  have hg0 := World.grownBy_alloc w (.cells #[.int .i64 (0 : Nat), .int .i64 (b : Int)] 25 (0, 0)) none
  have hL4 := L9_4 (n := 0) (by omega)
  have hLp : 0 < (L9 0).length := by rw [L9_len]; exact Nat.pow_pos (by omega)
  generalize hR2 : R2 0 = R
  generalize hLL : L9 0 = L at *
  generalize hN : L.length = N at *
  go_enter Try.func28, Try.ntmps28
  go_wp2_with (first
    | (go_at_call 65; refine (lists_any 0 (by omega) _).mono ?_; rw [hLL, hN]; rintro e w2 ⟨V, vs, rfl, hV, hRs, hg2⟩; obtain ⟨g, cp, rfl⟩ := own_some hV hLp)
    | fail)
  have d0 := cell_frw hX0 hg2 (by simp)
  have d1 := cell_frw hX1 hg2 (by simp)
  have hs0 := hg0.size
  have hg02 := grown_trans hg0 hg2
  generalize (w.alloc (.cells #[.int .i64 (0 : Nat), .int .i64 (b : Int)] 25 (0, 0))).heap.size = b0 at *
  go_loopw [5, 6, 7, 19] (fun B t s i wr => ∃ k : Nat, i = .int .i64 k ∧ k ≤ N ∧ stW w2 b0 0 b R B t s (pick b R L k) ∧ w2.grownBy wr none) (fun _ _ _ i _ => N - (intOf i).toNat)
  case atStart => exact ⟨0, rfl, Nat.zero_le _, ⟨rfl, rfl, rfl⟩, grown_refl _⟩
  case round =>
    obtain ⟨k, rfl, hk, hst, hgr⟩ := hrel
    by_cases hkN : k < N
    · have hck := cell_frw (out_cell hV hkN) hgr (by simp)
      have hrow := hRs.2 k (by omega)
      have hl4 := L9_get (k := 0) (j := k) (by omega) (by rw [hLL]; omega)
      rw [hLL] at hl4
      generalize vs.getD k undef = v at *
      obtain ⟨l, hl⟩ : ∃ l, L.getD k [] = l := ⟨_, rfl⟩
      rw [hl] at hrow hl4
      obtain ⟨hlk, hW4⟩ := hl4
      obtain ⟨hown, hownz⟩ := hrow
      rw [hlk] at hown
      have hrd := (own_rd (by rw [hlk]; exact hown)).kept hgr
      have hpn : pick b R L k = none → pick b R L (k + 1) = if okL b R l = true then some l else none := fun ho => by rw [pick, ho, hl]
      have hps : ∀ l0, pick b R L k = some l0 → pick b R L (k + 1) = if nrm l0 ≤ nrm l then some l0 else if okL b R l = true then some l else some l0 := fun l0 ho => by rw [pick, ho, hl]
      have hnrl : nrm l = nrK l 0 := by rw [nrm, hlk]
      clear hl
      obtain ⟨rfl, rfl⟩ : v = .slice none 0 0 ∧ l = [] := by
        have hz := List.eq_nil_of_length_eq_zero hlk
        exact ⟨hownz hz, hz⟩
      go_wp2_with fail
      obtain ⟨w3, rfl⟩ : ∃ w3 : World, w3 = wr := ⟨_, rfl⟩
      go_loopw [10, 25] (fun s i wq => ∃ i' : Nat, i = .int .i64 i' ∧ i' ≤ 0 ∧ s = .int .i64 (nrK ([] : List Int) i') ∧ w3.grownBy wq none) (fun _ i _ => 0 - (intOf i).toNat)
      case atStart => exact ⟨0, rfl, Nat.zero_le _, rfl, grown_refl _⟩
      case round =>
        obtain ⟨i, rfl, hin', rfl, hgi⟩ := hrel
        by_cases hin : i < 0
        · omega
        · obtain rfl : i = 0 := by omega
          have hnr := nrK_le hW4 0
          have he0 := cell_frw d0 (grown_trans hgr hgi) (by simp)
          have he1 := cell_frw d1 (grown_trans hgr hgi) (by simp)
          have hrdw := hrd.kept hgi
          cases ho : pick b R L k with
          | none =>
            have hpk := hpn ho
            rw [ho] at hst
            obtain ⟨rfl, rfl, rfl⟩ := hst
            cases hok : okL b R ([] : List Int)
            all_goals
              rw [hok] at hpk
              go_wp2_with (first
                | (go_at_call 66; refine (level_any 0 b _ ([] : List Int) hW4 (by omega) hb _ hrdw).mono ?_; rw [hR2, show decide (loK ([] : List Int) b R ≤ hiK ([] : List Int) b R) = _ from hok]; rintro e w5 ⟨rfl, hg5⟩)
                | fail)
              go_roundw
              case rel => exact ⟨k + 1, by go_num, by omega, by rw [hpk]; first | exact ⟨rfl, rfl, rfl⟩ | exact ⟨by rw [hlk]; exact hown, (by first | exact hownz | exact fun _ => rfl), hlk, rfl, by rw [hnrl]⟩, grown_trans (grown_trans hgr hgi) hg5⟩
              case measure => simp [intOf]; omega
          | some l0 =>
            have hpk := hps l0 ho
            rw [ho] at hst
            obtain ⟨hB, hBz, hlw, rfl, rfl⟩ := hst
            have hn0 := nrm_nn l0
            rw [hnrl] at hpk
            by_cases hcmp : nrm l0 ≤ nrK ([] : List Int) 0
            · rw [if_pos hcmp] at hpk
              go_wp2_with fail
              go_roundw
              case rel => exact ⟨k + 1, by go_num, by omega, by rw [hpk]; exact ⟨hB, hBz, hlw, rfl, rfl⟩, grown_trans hgr hgi⟩
              case measure => simp [intOf]; omega
            · rw [if_neg hcmp] at hpk
              cases hok : okL b R ([] : List Int)
              all_goals
                rw [hok] at hpk
                go_wp2_with (first
                  | (go_at_call 66; refine (level_any 0 b _ ([] : List Int) hW4 (by omega) hb _ hrdw).mono ?_; rw [hR2, show decide (loK ([] : List Int) b R ≤ hiK ([] : List Int) b R) = _ from hok]; rintro e w5 ⟨rfl, hg5⟩)
                  | fail)
                go_roundw
                case rel => exact ⟨k + 1, by go_num, by omega, by rw [hpk]; first | exact ⟨hB, hBz, hlw, rfl, rfl⟩ | exact ⟨by rw [hlk]; exact hown, (by first | exact hownz | exact fun _ => rfl), hlk, rfl, by rw [hnrl]⟩, grown_trans (grown_trans hgr hgi) hg5⟩
                case measure => simp [intOf]; omega
    · obtain rfl : k = N := by omega
      cases ho : pick b R L k with
      | none =>
        rw [ho] at hst
        obtain ⟨rfl, rfl, rfl⟩ := hst
        go_wp2_with fail
        go_ret3
        exact ⟨_, _, _, rfl, by rw [ho]; exact ⟨rfl, rfl, rfl⟩, grown_trans hg02 hgr⟩
      | some l0 =>
        rw [ho] at hst
        obtain ⟨hB, hBz, hlw, rfl, rfl⟩ := hst
        have hn0 := nrm_nn l0
        obtain ⟨oB, cB, rfl⟩ := own_shape hB
        go_wp2_with fail
        go_ret3
        refine ⟨_, _, _, rfl, by rw [ho]; exact ⟨ownsRow_mono (hB.kept hgr (by cases Value.ownBlock (.slice oB l0.length cB) <;> simp)) (by omega), hBz, hlw, rfl, rfl⟩, grown_trans hg02 hgr⟩

theorem weighing_pos (n b : Nat) (hn : n ≤ 4) (hn1 : 1 ≤ n) (hb : b < 65536) (w : World) : Calls Try.prog 28 #[.agg #[.int .i64 (n : Nat), .int .i64 b]] w fun e w' => ∃ B t ok, e = .returned (.tuple #[B, t, ok]) ∧ resW w' w.heap.size n b (R2 n) B t ok (pick b (R2 n) (L9 n) (L9 n).length) ∧ w.grownBy w' none := by
  have hX := blk_new w (.cells #[.int .i64 (n : Nat), .int .i64 (b : Int)] 25 (0, 0))
  have hX0 := cell_blk (i := 0) (v := .int .i64 (n : Nat)) hX rfl
  have hX1 := cell_blk (i := 1) (v := .int .i64 (b : Int)) hX rfl
  have hg0 := World.grownBy_alloc w (.cells #[.int .i64 (n : Nat), .int .i64 (b : Int)] 25 (0, 0)) none
  have hL4 := L9_4 (n := n) (by omega)
  have hLp : 0 < (L9 n).length := by rw [L9_len]; exact Nat.pow_pos (by omega)
  generalize hR2 : R2 n = R
  generalize hLL : L9 n = L at *
  generalize hN : L.length = N at *
  go_enter Try.func28, Try.ntmps28
  go_wp2_with (first
    | (go_at_call 65; refine (lists_any n (by omega) _).mono ?_; rw [hLL, hN]; rintro e w2 ⟨V, vs, rfl, hV, hRs, hg2⟩; obtain ⟨g, cp, rfl⟩ := own_some hV hLp)
    | fail)
  have d0 := cell_frw hX0 hg2 (by simp)
  have d1 := cell_frw hX1 hg2 (by simp)
  have hs0 := hg0.size
  have hg02 := grown_trans hg0 hg2
  generalize (w.alloc (.cells #[.int .i64 (n : Nat), .int .i64 (b : Int)] 25 (0, 0))).heap.size = b0 at *
  go_loopw [5, 6, 7, 19] (fun B t s i wr => ∃ k : Nat, i = .int .i64 k ∧ k ≤ N ∧ stW w2 b0 n b R B t s (pick b R L k) ∧ w2.grownBy wr none) (fun _ _ _ i _ => N - (intOf i).toNat)
  case atStart => exact ⟨0, rfl, Nat.zero_le _, ⟨rfl, rfl, rfl⟩, grown_refl _⟩
  case round =>
    obtain ⟨k, rfl, hk, hst, hgr⟩ := hrel
    by_cases hkN : k < N
    · have hck := cell_frw (out_cell hV hkN) hgr (by simp)
      have hrow := hRs.2 k (by omega)
      have hl4 := L9_get (k := n) (j := k) (by omega) (by rw [hLL]; omega)
      rw [hLL] at hl4
      generalize vs.getD k undef = v at *
      obtain ⟨l, hl⟩ : ∃ l, L.getD k [] = l := ⟨_, rfl⟩
      rw [hl] at hrow hl4
      obtain ⟨hlk, hW4⟩ := hl4
      obtain ⟨hown, hownz⟩ := hrow
      rw [hlk] at hown
      have hrd := (own_rd (by rw [hlk]; exact hown)).kept hgr
      have hpn : pick b R L k = none → pick b R L (k + 1) = if okL b R l = true then some l else none := fun ho => by rw [pick, ho, hl]
      have hps : ∀ l0, pick b R L k = some l0 → pick b R L (k + 1) = if nrm l0 ≤ nrm l then some l0 else if okL b R l = true then some l else some l0 := fun l0 ho => by rw [pick, ho, hl]
      have hnrl : nrm l = nrK l n := by rw [nrm, hlk]
      clear hl
      obtain ⟨g2, cp2, rfl, hcell⟩ : ∃ g2 cp2, v = .slice (some ⟨g2, 0, none⟩) n cp2 ∧ ∀ i, i < n → wr.cell? ⟨g2, i, none⟩ = some (.int .i64 (l.getD i 0)) := by
        rcases hrd with ⟨_, hl0⟩ | ⟨g2, cp2, h1, h2⟩
        · rw [hl0] at hlk; simp at hlk; omega
        · exact ⟨g2, cp2, by rw [h1, hlk], by rw [← hlk]; exact h2⟩
      go_wp2_with fail
      obtain ⟨w3, rfl⟩ : ∃ w3 : World, w3 = wr := ⟨_, rfl⟩
      go_loopw [10, 25] (fun s i wq => ∃ i' : Nat, i = .int .i64 i' ∧ i' ≤ n ∧ s = .int .i64 (nrK l i') ∧ w3.grownBy wq none) (fun _ i _ => n - (intOf i).toNat)
      case atStart => exact ⟨0, rfl, Nat.zero_le _, rfl, grown_refl _⟩
      case round =>
        obtain ⟨i, rfl, hin', rfl, hgi⟩ := hrel
        by_cases hin : i < n
        · have hck := cell_frw (hcell i hin) hgi (by simp)
          have hb2 := hW4.2 i
          have hw : nrK l (i + 1) = nrK l i + max (l.getD i 0) (-(l.getD i 0)) := rfl
          have hn1 := nrK_le hW4 i
          clear hcell
          generalize l.getD i 0 = x at *
          go_wp2_with fail
          go_roundw
          case rel => exact ⟨i + 1, by go_num, by omega, by rw [hw], hgi⟩
          case measure => simp [intOf]; omega
        · obtain rfl : i = n := by omega
          have hnr := nrK_le hW4 i
          have he0 := cell_frw d0 (grown_trans hgr hgi) (by simp)
          have he1 := cell_frw d1 (grown_trans hgr hgi) (by simp)
          have hrdw := hrd.kept hgi
          cases ho : pick b R L k with
          | none =>
            have hpk := hpn ho
            rw [ho] at hst
            obtain ⟨rfl, rfl, rfl⟩ := hst
            cases hok : okL b R l
            all_goals
              rw [hok] at hpk
              go_wp2_with (first
                | (go_at_call 66; refine (level_any i b _ l hW4 (by omega) hb _ hrdw).mono ?_; rw [hR2, show decide (loK l b R ≤ hiK l b R) = _ from hok]; rintro e w5 ⟨rfl, hg5⟩)
                | fail)
              go_roundw
              case rel => exact ⟨k + 1, by go_num, by omega, by rw [hpk]; first | exact ⟨rfl, rfl, rfl⟩ | exact ⟨by rw [hlk]; exact hown, (by first | exact hownz | exact fun _ => rfl), hlk, rfl, by rw [hnrl]⟩, grown_trans (grown_trans hgr hgi) hg5⟩
              case measure => simp [intOf]; omega
          | some l0 =>
            have hpk := hps l0 ho
            rw [ho] at hst
            obtain ⟨hB, hBz, hlw, rfl, rfl⟩ := hst
            have hn0 := nrm_nn l0
            rw [hnrl] at hpk
            by_cases hcmp : nrm l0 ≤ nrK l i
            · rw [if_pos hcmp] at hpk
              go_wp2_with fail
              go_roundw
              case rel => exact ⟨k + 1, by go_num, by omega, by rw [hpk]; exact ⟨hB, hBz, hlw, rfl, rfl⟩, grown_trans hgr hgi⟩
              case measure => simp [intOf]; omega
            · rw [if_neg hcmp] at hpk
              cases hok : okL b R l
              all_goals
                rw [hok] at hpk
                go_wp2_with (first
                  | (go_at_call 66; refine (level_any i b _ l hW4 (by omega) hb _ hrdw).mono ?_; rw [hR2, show decide (loK l b R ≤ hiK l b R) = _ from hok]; rintro e w5 ⟨rfl, hg5⟩)
                  | fail)
                go_roundw
                case rel => exact ⟨k + 1, by go_num, by omega, by rw [hpk]; first | exact ⟨hB, hBz, hlw, rfl, rfl⟩ | exact ⟨by rw [hlk]; exact hown, (by first | exact hownz | exact fun _ => rfl), hlk, rfl, by rw [hnrl]⟩, grown_trans (grown_trans hgr hgi) hg5⟩
                case measure => simp [intOf]; omega
    · obtain rfl : k = N := by omega
      cases ho : pick b R L k with
      | none =>
        rw [ho] at hst
        obtain ⟨rfl, rfl, rfl⟩ := hst
        go_wp2_with fail
        go_ret3
        exact ⟨_, _, _, rfl, by rw [ho]; exact ⟨rfl, rfl, rfl⟩, grown_trans hg02 hgr⟩
      | some l0 =>
        rw [ho] at hst
        obtain ⟨hB, hBz, hlw, rfl, rfl⟩ := hst
        have hn0 := nrm_nn l0
        obtain ⟨oB, cB, rfl⟩ := own_shape hB
        go_wp2_with fail
        go_ret3
        refine ⟨_, _, _, rfl, by rw [ho]; exact ⟨ownsRow_mono (hB.kept hgr (by cases Value.ownBlock (.slice oB l0.length cB) <;> simp)) (by omega), hBz, hlw, rfl, rfl⟩, grown_trans hg02 hgr⟩

end
section
open Go.RowKit Go.IntWalk Go.Maps
def consK (x : Int) (L : List (List Int)) : Nat → List (List Int)
  | 0 => []
  | i + 1 => consK x L i ++ [x :: L.getD i []]
def slK (f : Nat → List (List Int)) (size : Nat) : Nat → List (List Int)
  | 0 => []
  | m + 1 => slK f size m ++ (if ((m : Int) - 4).natAbs ≤ size then consK ((m : Int) - 4) (f (size - ((m : Int) - 4).natAbs)) (f (size - ((m : Int) - 4).natAbs)).length else [])
/-- The lists of n weights of a size, in order. -/
def SL : Nat → Nat → List (List Int)
  | 0, size => if size = 0 then [[]] else []
  | n + 1, size => slK (SL n) size 9
theorem consK_len (x : Int) (L : List (List Int)) : ∀ i, (consK x L i).length = i
  | 0 => rfl
  | i + 1 => by rw [consK, List.length_append, consK_len x L i]; rfl
theorem slK_len {f : Nat → List (List Int)} {b : Nat} (h : ∀ s, (f s).length ≤ b) (size : Nat) : ∀ m, (slK f size m).length ≤ m * b
  | 0 => by simp [slK]
  | m + 1 => by
    have h1 := slK_len h size m
    have h2 := h (size - ((m : Int) - 4).natAbs)
    rw [slK, List.length_append, Nat.add_mul]
    split
    · rw [consK_len]; omega
    · simp; omega
theorem SL_len : ∀ (n size : Nat), (SL n size).length ≤ 9 ^ n
  | 0, size => by rw [SL]; split <;> simp
  | n + 1, size => by
    have := slK_len (fun s => SL_len n s) size 9
    rw [SL, Nat.pow_succ]; omega
theorem SL_4 {n : Nat} (hn : n ≤ 4) (size : Nat) : (SL n size).length ≤ 6561 := Nat.le_trans (SL_len n size) (Nat.le_trans (Nat.pow_le_pow_right (by omega) hn) (by decide))
abbrev zSome : Value → Prop := fun v => ∃ a, v = .slice (some a) 0 0
theorem consK_mem {x : Int} {L : List (List Int)} {l : List Int} : ∀ {i : Nat}, i ≤ L.length → l ∈ consK x L i → ∃ l' ∈ L, l = x :: l'
  | 0, _, h => by simp [consK] at h
  | i + 1, hi, h => by
    rw [consK, List.mem_append] at h
    rcases h with h | h
    · exact consK_mem (by omega) h
    · simp only [List.mem_singleton] at h
      exact ⟨L.getD i [], by rw [List.getD_eq_getElem?_getD, List.getElem?_eq_getElem (by omega)]; exact List.getElem_mem _, h⟩
theorem slK_mem {f : Nat → List (List Int)} {size : Nat} {l : List Int} : ∀ {m : Nat}, l ∈ slK f size m → ∃ j, j < m ∧ ((j : Int) - 4).natAbs ≤ size ∧ ∃ l' ∈ f (size - ((j : Int) - 4).natAbs), l = ((j : Int) - 4) :: l'
  | 0, h => by simp [slK] at h
  | m + 1, h => by
    rw [slK, List.mem_append] at h
    rcases h with h | h
    · obtain ⟨j, h1, h2⟩ := slK_mem h
      exact ⟨j, by omega, h2⟩
    · split at h
      · rename_i hs
        obtain ⟨l', h1, h2⟩ := consK_mem (Nat.le_refl _) h
        exact ⟨m, by omega, hs, l', h1, h2⟩
      · simp at h
theorem SL_mem : ∀ {n size : Nat} {l : List Int}, l ∈ SL n size → l.length = n ∧ ∀ x ∈ l, -4 ≤ x ∧ x ≤ 4
  | 0, size, l, h => by
    rw [SL] at h
    split at h
    · simp at h; subst h; simp
    · simp at h
  | n + 1, size, l, h => by
    rw [SL] at h
    obtain ⟨j, h1, _, l', h2, rfl⟩ := slK_mem h
    obtain ⟨h4, h5⟩ := SL_mem h2
    refine ⟨by simp [h4], fun x hx => ?_⟩
    rcases List.mem_cons.mp hx with rfl | h
    · omega
    · exact h5 x h
theorem SL_get {n size j : Nat} (hn : n ≤ 4) (h : j < (SL n size).length) : ((SL n size).getD j []).length = n ∧ W4 ((SL n size).getD j []) := by
  have hm : (SL n size).getD j [] ∈ SL n size := by rw [List.getD_eq_getElem?_getD, List.getElem?_eq_getElem h]; exact List.getElem_mem _
  exact ⟨(SL_mem hm).1, W4_of hn (SL_mem hm)⟩
theorem wl_midG {w0 wr w2 w3 : World} {b0 k c1 n : Nat} {z : Value → Prop} {o1 : Option Addr} {xs us : List Value} {W : Value} {ls : List (List Int)} {X : Obj} (hv1 : (wr.alloc X).ownsRow wr.heap.size 2 1 (.slice o1 k c1) k xs) (hg2 : (wr.alloc X).grownBy w3 (Value.ownBlock (.slice o1 k c1)))
    (hW : wr.ownsRow b0 27 1 W n us) (hU : RowsL wr b0 z us ls) : Below wr.heap.size wr w3 ∧ w3.ownsRow b0 27 1 W n us ∧ RowsL w3 b0 z us ls ∧ wr.heap.size + 1 ≤ w3.heap.size := by
  have hb : Below wr.heap.size wr w3 := ((Below.refl _ _).alloc (Nat.le_refl _) _).grown hg2 (by simp) (fun j hj => (own_ge hv1 hj).1)
  exact ⟨hb, own_below hW hb fun g hg => (own_ge hW hg).2, hU.below hb (Nat.le_refl _), by have := hg2.size; simpa using this⟩
theorem wl_endG {w0 wr w3 w4 : World} {b0 k c2 n : Nat} {z : Value → Prop} {o2 : Option Addr} {us : List Value} {W V4 : Value} {ls : List (List Int)} {nl : List Int} {X : Obj} (hbx : Below b0 w0 wr) (hb0 : b0 ≤ wr.heap.size) (hlk : nl.length = k) (hnn : nl ≠ [])
    (hst : Below wr.heap.size wr w3 ∧ w3.ownsRow b0 27 1 W n us ∧ RowsL w3 b0 z us ls ∧ wr.heap.size + 1 ≤ w3.heap.size) (hv2 : w3.ownsRow wr.heap.size 2 1 (.slice o2 k c2) k (zvL nl))
    (hv4 : w4.ownsRow b0 27 1 V4 (n + 1) (us ++ [.slice o2 k c2])) (hg4 : (w3.alloc X).grownBy w4 W.ownBlock) (hn : n = ls.length) :
    w4.ownsRow b0 27 1 V4 (ls ++ [nl]).length (us ++ [.slice o2 k c2]) ∧ RowsL w4 b0 z (us ++ [.slice o2 k c2]) (ls ++ [nl]) ∧ Below b0 w0 w4 := by
  have hs2 := hst.2.2.2
  have hU1 := (hst.2.2.1.kept (World.grownBy_alloc w3 X none) (fun i hi => by cases (us.getD i undef).ownBlock <;> simp)).outer (hst.2.1.alloc X) hg4
  have hv3 := (hv2.alloc X).kept hg4 (own_ty (hv2.alloc X) (hst.2.1.alloc X) (by decide))
  refine ⟨by rw [List.length_append, ← hn]; exact hv4, hU1.snoc ?_ (fun h => absurd h hnn), ?_⟩
  · rw [hlk]; exact ownsRow_mono hv3 hb0
  · exact ((hbx.trans (hst.1.mono hb0)).alloc (by omega) _).grown hg4 (by simp; omega) (fun j hj => (own_ge hst.2.1 hj).1)
theorem slists_any : ∀ (n size : Nat) (w : World), n ≤ 4 → size ≤ 16 → Calls Try.prog 67 #[.int .i64 n, .int .i64 size] w fun e w' => ∃ V vs, e = .returned V ∧ w'.ownsRow w.heap.size 27 1 V (SL n size).length vs ∧ RowsL w' w.heap.size zSome vs (SL n size) ∧ w.grownBy w' none := by
  intro n
  induction n with
  | zero =>
    intro size w _ hs
    by_cases h0 : size = 0
    · subst h0
      go_enter Try.func67, Try.ntmps67
      go_wp2_with fail
      go_ret
      have hE := blk_new w (.cells #[] 2 (0, 0))
      have hO := blk_new (w.alloc (.cells #[] 2 (0, 0))) (.cells #[.slice (some ⟨w.heap.size, 0, none⟩) 0 0] 27 (0, 0))
      rw [show (w.alloc (.cells #[] 2 (0, 0))).heap.size = w.heap.size + 1 by simp] at hO
      refine ⟨_, [.slice (some ⟨w.heap.size, 0, none⟩) 0 0], rfl, ⟨rfl, .inr ⟨w.heap.size + 1, 1, _, rfl, by omega, hO, Nat.le_refl _, by decide, rfl, rfl⟩⟩, ?_, below_grown (((Below.refl _ _).alloc (Nat.le_refl _) _).alloc (by simp) _)⟩
      exact (RowsL.nil _ _ _).snoc (l := []) ⟨rfl, .inr ⟨w.heap.size, 0, #[], rfl, Nat.le_refl _, blk_alloc _ hE, Nat.le_refl _, Nat.zero_le _, rfl, rfl⟩⟩ (fun _ => ⟨_, rfl⟩)
    · rw [show SL 0 size = [] by rw [SL, if_neg h0]]
      go_enter Try.func67, Try.ntmps67
      go_wp2_with fail
      go_ret
      exact ⟨_, [], rfl, ⟨rfl, .inr ⟨w.heap.size, 0, #[], rfl, Nat.le_refl _, blk_new _ _, Nat.le_refl _, Nat.zero_le _, rfl, rfl⟩⟩, RowsL.nil _ _ _, World.grownBy_alloc _ _ _⟩
  | succ n ih =>
    intro size w hn hs
    obtain ⟨i0, hi, hz0, hz1, hz2⟩ := info_parts Try.info2
    obtain ⟨j0, hj, hy0, hy1, hy2⟩ := info_parts Try.info27
    go_enter Try.func67, Try.ntmps67
    go_wp2_with fail
    go_loopw [5, 6] (fun V x wr => ∃ (m : Nat) (us : List Value), x = .int .i64 ((m : Int) - 4) ∧ m ≤ 9 ∧ wr.ownsRow w.heap.size 27 1 V (slK (SL n) size m).length us ∧ RowsL wr w.heap.size zSome us (slK (SL n) size m) ∧ w.grownBy wr none) (fun _ x _ => 9 - (intOf x + 4).toNat)
    case atStart => exact ⟨0, [], rfl, Nat.zero_le _, ⟨rfl, .inr ⟨w.heap.size, 0, #[], rfl, Nat.le_refl _, blk_new _ _, Nat.le_refl _, Nat.zero_le _, rfl, rfl⟩⟩, RowsL.nil _ _ _, World.grownBy_alloc _ _ _⟩
    case round =>
      obtain ⟨m, us, rfl, hm, hW, hU, hgr⟩ := hrel
      have hlen := slK_len (fun s => SL_4 (n := n) (by omega) s) size m
      by_cases hm9 : m < 9
      · obtain ⟨A, hA⟩ : ∃ A, A = ((m : Int) - 4).natAbs := ⟨_, rfl⟩
        have hAx : max ((m : Int) - 4) (-((m : Int) - 4)) = (A : Int) := by omega
        by_cases hAs : A ≤ size
        · have hst : slK (SL n) size (m + 1) = slK (SL n) size m ++ consK ((m : Int) - 4) (SL n (size - A)) (SL n (size - A)).length := by rw [slK, ← hA, if_pos hAs]
          have hM6 := SL_4 (n := n) (by omega) (size - A)
          obtain ⟨M, hM⟩ : ∃ M, (SL n (size - A)).length = M := ⟨_, rfl⟩
          rw [hM] at hst hM6
          have hAn : (size : Int) - (A : Int) = ((size - A : Nat) : Int) := by omega
          clear hA
          go_wp2_with (first
            | (go_at_call 67; refine (ih (size - A) _ (by omega) (by omega)).mono ?_; rw [hM]; rintro e w2 ⟨V8, vs8, rfl, hV8, hR8, hg2⟩; obtain ⟨o8, c8, rfl⟩ := own_shape hV8)
            | fail)
          have hs2 := hg2.size
          have hs1 := hgr.size
          have hb2 : Below w.heap.size w w2 := ((Below.refl _ _).grown hgr (Nat.le_refl _) (fun k hk => by cases hk)).grown hg2 hs1 (fun k hk => by cases hk)
          have hW2 := hW.kept hg2 (by cases u5.ownBlock <;> simp)
          have hU2 := hU.kept hg2 (fun i hi => by cases (us.getD i undef).ownBlock <;> simp)
          have hne2 : Value.ownBlock (.slice o8 M c8) = none ∨ u5.ownBlock ≠ Value.ownBlock (.slice o8 M c8) := by
            cases h8 : Value.ownBlock (.slice o8 M c8) with
            | none => exact .inl rfl
            | some g => exact .inr fun he => by have := (own_ge hV8 h8).1; have := (own_ge hW he).2; omega
          have hlenS := hlen
          generalize slK (SL n) size m = S0 at *
          obtain ⟨wv, rfl⟩ : ∃ wv : World, wv = wr := ⟨_, rfl⟩
          go_loopw [5, 9] (fun V i wq => ∃ (i' : Nat) (us : List Value), i = .int .i64 i' ∧ i' ≤ M ∧ wq.ownsRow w.heap.size 27 1 V (S0 ++ consK ((m : Int) - 4) (SL n (size - A)) i').length us ∧ RowsL wq w.heap.size zSome us (S0 ++ consK ((m : Int) - 4) (SL n (size - A)) i') ∧ Below w.heap.size w wq ∧ wq.ownsRow wv.heap.size 27 1 (.slice o8 M c8) M vs8 ∧ RowsL wq wv.heap.size zSome vs8 (SL n (size - A)) ∧ (Value.ownBlock (.slice o8 M c8) = none ∨ V.ownBlock ≠ Value.ownBlock (.slice o8 M c8)) ∧ w2.heap.size ≤ wq.heap.size) (fun _ i _ => M - (intOf i).toNat)
          case atStart => exact ⟨0, us, rfl, Nat.zero_le _, by simpa [consK] using hW2, by simpa [consK] using hU2, hb2, hV8, hR8, hne2, Nat.le_refl _⟩
          case round =>
            obtain ⟨i, us, rfl, hiM, hV, hU, hbq, h8, hR8, hne, hsq⟩ := hrel
            have hVl : (S0 ++ consK ((m : Int) - 4) (SL n (size - A)) i).length = S0.length + i := by rw [List.length_append, consK_len]
            by_cases hin : i < M
            · obtain ⟨g8, cp8, hsh⟩ := own_some h8 (by omega)
              simp only [Value.slice.injEq] at hsh
              obtain ⟨rfl, _, rfl⟩ := hsh
              have hck := out_cell h8 hin
              have hrow := hR8.2 i (by omega)
              have hl4 := SL_get (n := n) (size := size - A) (j := i) (by omega) (by omega)
              generalize vs8.getD i undef = v at *
              obtain ⟨l, hl⟩ : ∃ l, (SL n (size - A)).getD i [] = l := ⟨_, rfl⟩
              rw [hl] at hrow hl4
              have hst2 : consK ((m : Int) - 4) (SL n (size - A)) (i + 1) = consK ((m : Int) - 4) (SL n (size - A)) i ++ [((m : Int) - 4) :: l] := by rw [consK, hl]
              clear hl
              obtain ⟨hlk, hW4⟩ := hl4
              obtain ⟨hown, hownz⟩ := hrow
              obtain ⟨gv, cv, rfl⟩ : ∃ gv cv, v = .slice (some ⟨gv, 0, none⟩) n cv := by
                rw [hlk] at hown
                rcases hown.2 with ⟨h1, h2⟩ | ⟨g, cap, cur, h1, _⟩
                · obtain ⟨a, ha⟩ := hownz (List.eq_nil_of_length_eq_zero (by omega))
                  rw [h1] at ha; simp at ha
                · exact ⟨g, cap, h1⟩
              rw [hlk] at hown
              have hcs := own_cells (hown.alloc (.cells #[.int .i64 ((m : Int) - 4)] 2 (0, 0)))
              have ho1 : (wr.alloc (.cells #[.int .i64 ((m : Int) - 4)] 2 (0, 0))).ownsRow wr.heap.size 2 1 (.slice (some ⟨wr.heap.size, 0, none⟩) 1 1) 1 [.int .i64 ((m : Int) - 4)] := ⟨rfl, .inr ⟨wr.heap.size, 1, _, rfl, Nat.le_refl _, blk_new _ _, Nat.le_refl _, by decide, rfl, rfl⟩⟩
              have hbs : w.heap.size ≤ wr.heap.size := hbq.size
              have hcka := cell_frw hck (World.grownBy_alloc wr (.cells #[.int .i64 ((m : Int) - 4)] 2 (0, 0)) none) (by simp)
              rw [hVl] at hV
              go_wp2_with (first
                | (at_builtin; (refine wpList_append_own _ rfl (.tmp 42) (.tmp 46) 27 rfl wr.heap.size 2 i0 _ 1 8 Try.underlying27 hi hz0 hz1 hz2 rfl (by decide) _ _ _ rfl ho1 ⟨gv, 0, none⟩ n cv (zvL l) rfl (by rw [zvL_len]; omega) hcs (by intro u hu; simp only [zvL, List.mem_map] at hu; obtain ⟨_, _, rfl⟩ := hu; rfl) (by unfold maxLen; omega) (by omega) (by simp) ?_; intro v2 w3 hv2 hg3 _; obtain ⟨o2, c2, rfl⟩ := own_shape hv2; have hmid := wl_midG (w0 := w) (w2 := w) ho1 hg3 hV hU))
                | (at_builtin; (refine wpList_append_own_at _ rfl (.tmp 40) (.tmp 48) 76 rfl w.heap.size 27 j0 _ 1 24 Try.underlying76 hj hy0 hy1 hy2 rfl (by decide) _ _ _ rfl (hmid.2.1.alloc _) ⟨w3.heap.size, 0, none⟩ 1 1 [.slice o2 (1 + n) c2] rfl rfl (one_cell (blk_new _ _)) (by intro u hu; simp at hu; subst hu; rfl) (by unfold maxLen; omega) (by omega) (by have := hmid.2.2.2; simp; omega) ?_; intro v4 w4 hv4 hg4 _ hat))
                | fail)
              have hfin := wl_endG (nl := ((m : Int) - 4) :: l) hbq hbs (by simp [hlk]; omega) (by simp) hmid hv2 hv4 hg4 hVl.symm
              rw [List.append_assoc, ← hst2] at hfin
              have hg8 : g8 < wr.heap.size := (own_ge h8 rfl).2
              have hne' : Value.ownBlock (.slice (some ⟨g8, 0, none⟩) M c8) = none ∨ Value.ownBlock (.slice (some ⟨g8, 0, none⟩) M c8) ≠ u5.ownBlock := hne.imp id Ne.symm
              have h8' := (((own_below h8 hmid.1 fun g hg => (own_ge h8 hg).2)).alloc (.cells #[.slice o2 (1 + n) c2] 27 (0, 0))).kept hg4 hne'
              have hR8' := ((hR8.below hmid.1 (Nat.le_refl _)).kept (World.grownBy_alloc w3 (.cells #[.slice o2 (1 + n) c2] 27 (0, 0)) none) (fun i hi => by cases (vs8.getD i undef).ownBlock <;> simp)).outer (hmid.2.1.alloc _) hg4
              have hs3 := hmid.2.2.2
              have hs4 : w3.heap.size + 1 ≤ w4.heap.size := by have := hg4.size; simpa using this
              have hne4 : Value.ownBlock (.slice (some ⟨g8, 0, none⟩) M c8) = none ∨ v4.ownBlock ≠ Value.ownBlock (.slice (some ⟨g8, 0, none⟩) M c8) := by
                rcases hat with h | h
                · rw [h]; exact hne
                · right; rw [h]; simp only [Value.ownBlock, ne_eq, Option.some.injEq]; simp; omega
              go_roundw
              case rel => exact ⟨i + 1, _, by go_num, by omega, hfin.1, hfin.2.1, hfin.2.2, h8', hR8', hne4, by omega⟩
              case measure => simp [intOf]; omega
            · obtain rfl : i = M := by omega
              go_wp2_with fail
              go_roundw
              case rel =>
                (repeat apply Exists.intro)
                refine ⟨⟨m + 1, us, ?_, by omega, by rw [hst]; exact hV, by rw [hst]; exact hU, below_grown hbq⟩, rfl⟩
                go_num
              case measure => simp [intOf]; omega
        · have hst : slK (SL n) size (m + 1) = slK (SL n) size m := by rw [slK, ← hA, if_neg hAs, List.append_nil]
          clear hA
          go_wp2_with fail
          go_roundw
          case rel => exact ⟨m + 1, us, by go_num, by omega, by rw [hst]; exact hW, by rw [hst]; exact hU, hgr⟩
          case measure => simp [intOf]; omega
      · obtain rfl : m = 9 := by omega
        go_wp2_with fail
        go_ret
        exact ⟨_, _, rfl, hW, hU, hgr⟩
end
section
open Go.RowKit Go.IntWalk
/-- The first list that is a weighing. -/
def fnd (b R : Nat) (L : List (List Int)) : Nat → Option (List Int)
  | 0 => none
  | k + 1 => match fnd b R L k with
    | some l => some l
    | none => if okL b R (L.getD k []) = true then some (L.getD k []) else none
def fz (b R n : Nat) : Nat → Option (List Int)
  | 0 => none
  | s + 1 => match fz b R n s with
    | some l => some l
    | none => fnd b R (SL n s) (SL n s).length
theorem fnd_up {b R : Nat} {L : List (List Int)} {l : List Int} {k : Nat} (h : fnd b R L k = some l) : ∀ j, fnd b R L (k + j) = some l
  | 0 => h
  | j + 1 => by rw [← Nat.add_assoc, fnd, fnd_up h j]
theorem fz_up {b R n : Nat} {l : List Int} {k : Nat} (h : fz b R n k = some l) : ∀ j, fz b R n (k + j) = some l
  | 0 => h
  | j + 1 => by rw [← Nat.add_assoc, fz, fz_up h j]
def resS (w : World) (b0 n b R : Nat) (B t ok : Value) : Option (List Int) → Prop
  | none => B = .slice none 0 0 ∧ t = .int .i64 0 ∧ ok = .bool false
  | some l => w.ownsRow b0 2 1 B l.length (zvL l) ∧ (l = [] → zSome B) ∧ l.length = n ∧ t = .int .i64 (hiK l b R) ∧ ok = .bool true
theorem drew_grown (w : World) : w.grownBy w.drew none := ⟨rfl, rfl, rfl, Nat.le_refl _, fun _ _ _ => rfl⟩
theorem sweigh_any (n b : Nat) (hn : n ≤ 4) (hb : b < 65536) (w : World) : Calls Try.prog 30 #[.agg #[.int .i64 n, .int .i64 b]] w fun e w' => ∃ B t ok, e = .returned (.tuple #[B, t, ok]) ∧ resS w' w.heap.size n b (R2 n) B t ok (fz b (R2 n) n (4 * n + 1)) ∧ w.grownBy w' none := by
  have hX := blk_new w (.cells #[.int .i64 (n : Int), .int .i64 (b : Int)] 25 (0, 0))
  have hX0 := cell_blk (i := 0) (v := .int .i64 (n : Int)) hX rfl
  have hX1 := cell_blk (i := 1) (v := .int .i64 (b : Int)) hX rfl
  have hg0 := World.grownBy_alloc w (.cells #[.int .i64 (n : Int), .int .i64 (b : Int)] 25 (0, 0)) none
  generalize hR2 : R2 n = R
  go_enter Try.func30, Try.ntmps30
  go_wp2_with fail
  generalize w.alloc (.cells #[.int .i64 (n : Int), .int .i64 (b : Int)] 25 (0, 0)) = w1 at *
  go_loopw [5] (fun t wr => ∃ s : Nat, t = .int .i64 s ∧ s ≤ 4 * n + 1 ∧ fz b R n s = none ∧ w1.grownBy wr none) (fun t _ => 4 * n + 1 - (intOf t).toNat)
  case atStart => exact ⟨0, rfl, Nat.zero_le _, rfl, grown_refl _⟩
  case round =>
    obtain ⟨s, rfl, hs, hfz, hgr⟩ := hrel
    have d0 := cell_frw hX0 hgr (by simp)
    have d1 := cell_frw hX1 hgr (by simp)
    by_cases hs4 : s < 4 * n + 1
    · have hM6 := SL_4 hn s
      have hfs : fz b R n (s + 1) = fnd b R (SL n s) (SL n s).length := by rw [fz, hfz]
      obtain ⟨M, hM⟩ : ∃ M, (SL n s).length = M := ⟨_, rfl⟩
      rw [hM] at hM6 hfs
      go_wp2_with (first
        | (go_at_call 67; refine (slists_any n s _ hn (by omega)).mono ?_; rw [hM]; rintro e w2 ⟨V, vs, rfl, hV, hRs, hg2⟩; obtain ⟨oV, cV, rfl⟩ := own_shape hV)
        | fail)
      have e0 := cell_frw d0 hg2 (by simp)
      have e1 := cell_frw d1 hg2 (by simp)
      have hg12 := grown_trans hgr hg2
      obtain ⟨wv, rfl⟩ : ∃ wv : World, wv = wr := ⟨_, rfl⟩
      have hsv := hgr.size
      go_loopw [7] (fun i wq => ∃ i' : Nat, i = .int .i64 i' ∧ i' ≤ M ∧ fnd b R (SL n s) i' = none ∧ w2.grownBy wq none) (fun i _ => M - (intOf i).toNat)
      case atStart => exact ⟨0, rfl, Nat.zero_le _, rfl, grown_refl _⟩
      case round =>
        obtain ⟨i, rfl, hiM, hfi, hgq⟩ := hrel
        by_cases hin : i < M
        · obtain ⟨g8, cp8, hsh⟩ := own_some hV (by omega)
          simp only [Value.slice.injEq] at hsh
          obtain ⟨rfl, _, rfl⟩ := hsh
          have hck := cell_frw (out_cell hV hin) hgq (by simp)
          have hrow := hRs.2 i (by omega)
          have hl4 := SL_get (n := n) (size := s) (j := i) (by omega) (by omega)
          have hfn : fnd b R (SL n s) (i + 1) = if okL b R ((SL n s).getD i []) = true then some ((SL n s).getD i []) else none := by rw [fnd, hfi]
          generalize vs.getD i undef = v at *
          generalize (SL n s).getD i [] = l at *
          obtain ⟨hlk, hW4⟩ := hl4
          obtain ⟨hown, hownz⟩ := hrow
          rw [hlk] at hown
          have hrd : RdE wr.drew v l := .inl (((own_rd (by rw [hlk]; exact hown)).kept hgq).kept (drew_grown _))
          have f0 := cell_frw e0 hgq (by simp)
          have f1 := cell_frw e1 hgq (by simp)
          obtain ⟨ov, cv, rfl⟩ := own_shape hown
          cases hok : okL b R l
          · rw [hok] at hfn
            go_wp2_with fail
            go_region_with (go_at_call 68; refine (weighed_any n b (.slice ov n cv) l hW4 hn hb wr.drew hrd).mono ?_; rw [hR2, show decide (loK l b R ≤ hiK l b R) = _ from hok]; rintro e w5 ⟨rfl, hg5⟩)
            all_goals
              go_wp2_with fail
              go_roundw
              case rel => exact ⟨i + 1, by go_num, by omega, by rw [hfn]; rfl, grown_trans (grown_trans hgq (drew_grown _)) hg5⟩
              case measure => simp [intOf]; omega
          · rw [hok] at hfn
            have hfn' : fnd b R (SL n s) (i + 1) = some l := by rw [hfn]; rfl
            clear hfn
            go_wp2_with fail
            go_region_with (go_at_call 68; refine (weighed_any n b (.slice ov n cv) l hW4 hn hb wr.drew hrd).mono ?_; rw [hR2, show decide (loK l b R ≤ hiK l b R) = _ from hok]; rintro e w5 ⟨rfl, hg5⟩; have hck5 := cell_frw (cell_frw hck (drew_grown _) (by simp)) hg5 (by simp))
            all_goals
              go_wp2_with fail
              go_ret3
              have hres : fz b R n (4 * n + 1) = some l := by
                have h1 := fnd_up hfn' (M - (i + 1))
                rw [show i + 1 + (M - (i + 1)) = M by omega, ← hfs] at h1
                have h2 := fz_up h1 (4 * n + 1 - (s + 1))
                rwa [show s + 1 + (4 * n + 1 - (s + 1)) = 4 * n + 1 by omega] at h2
              have hown5 := ((hown.kept hgq (by cases Value.ownBlock (.slice ov n cv) <;> simp)).kept (drew_grown _) (by cases Value.ownBlock (.slice ov n cv) <;> simp)).kept hg5 (by cases Value.ownBlock (.slice ov n cv) <;> simp)
              exact ⟨_, _, _, rfl, by rw [hres]; exact ⟨by rw [hlk]; exact ownsRow_mono hown5 (Nat.le_trans hg0.size hsv), hownz, hlk, rfl, rfl⟩, grown_trans hg0 (grown_trans (grown_trans hg12 (grown_trans hgq (drew_grown _))) hg5)⟩
        · obtain rfl : i = M := by omega
          go_wp2_with fail
          go_roundw
          case rel => exact ⟨s + 1, by go_num, by omega, by rw [hfs]; exact hfi, grown_trans hg12 hgq⟩
          case measure => simp [intOf]; omega
    · obtain rfl : s = 4 * n + 1 := by omega
      go_wp2_with fail
      go_ret3
      exact ⟨_, _, _, rfl, by rw [hfz]; exact ⟨rfl, rfl, rfl⟩, grown_trans hg0 hgr⟩
end
def mv (m : Nat) : Int := (m : Int) - 4
def C9 : Nat → List (List Int)
  | 0 => [[]]
  | n + 1 => (List.range 9).flatMap fun m => (C9 n).map fun l => mv m :: l
theorem flatMap_cg {α β : Type} {f g : α → List β} : ∀ {L : List α}, (∀ x ∈ L, f x = g x) → L.flatMap f = L.flatMap g
  | [], _ => rfl
  | x :: xs, h => by rw [List.flatMap_cons, List.flatMap_cons, h x (by simp), flatMap_cg fun y hy => h y (by simp [hy])]
theorem nine_map (l : List Int) : ∀ k, nine l k = (List.range k).map fun m => l ++ [mv m]
  | 0 => rfl
  | k + 1 => by rw [nine, nine_map l k, List.range_succ, List.map_append]; rfl
theorem take_getD {α : Type} {L : List α} {d : α} {k : Nat} (h : k < L.length) : L.take (k + 1) = L.take k ++ [L.getD k d] := by
  rw [List.take_succ_eq_append_getElem h, List.getD_eq_getElem?_getD, List.getElem?_eq_getElem h]; rfl
theorem L9K_flat (L : List (List Int)) : ∀ k, k ≤ L.length → L9K L k = (L.take k).flatMap fun l => (List.range 9).map fun m => l ++ [mv m]
  | 0, _ => by simp [L9K]
  | k + 1, h => by
    rw [L9K, L9K_flat L k (by omega), take_getD (d := []) (by omega), List.flatMap_append, nine_map]
    simp
theorem L9_s (n : Nat) : L9 (n + 1) = (L9 n).flatMap fun l => (List.range 9).map fun m => l ++ [mv m] := by
  rw [L9, L9K_flat _ _ (Nat.le_refl _), List.take_of_length_le (Nat.le_refl _)]
theorem C9_snoc : ∀ n, C9 (n + 1) = (C9 n).flatMap fun l => (List.range 9).map fun m => l ++ [mv m]
  | 0 => by
    show (List.range 9).flatMap (fun m => [[mv m]]) = _
    rw [C9]; simp [List.flatMap_singleton']
    rfl
  | n + 1 => by
    rw [C9]
    conv => rhs; rw [C9]
    rw [List.flatMap_assoc]
    refine flatMap_cg fun m _ => ?_
    rw [C9_snoc n, List.map_flatMap, List.flatMap_map]
    refine flatMap_cg fun l _ => ?_
    rw [List.map_map]; rfl
theorem L9_C9 : ∀ n, L9 n = C9 n
  | 0 => rfl
  | n + 1 => by rw [L9_s, L9_C9 n, C9_snoc]
theorem nrK_cons (x : Int) (l : List Int) : ∀ k, nrK (x :: l) (k + 1) = max x (-x) + nrK l k
  | 0 => by simp [nrK]
  | k + 1 => by
    rw [nrK, nrK_cons x l k, nrK, List.getD_cons_succ, Int.add_assoc]
theorem nrm_cons (x : Int) (l : List Int) : nrm (x :: l) = max x (-x) + nrm l := by
  rw [nrm, nrm, List.length_cons, nrK_cons]
theorem consK_map (x : Int) (L : List (List Int)) : ∀ k, k ≤ L.length → consK x L k = (L.take k).map fun l => x :: l
  | 0, _ => by simp [consK]
  | k + 1, h => by rw [consK, consK_map x L k (by omega), take_getD (d := []) (by omega), List.map_append]; rfl
theorem slK_flat (f : Nat → List (List Int)) (size : Nat) : ∀ m, slK f size m = (List.range m).flatMap fun j => if (mv j).natAbs ≤ size then (f (size - (mv j).natAbs)).map fun l => mv j :: l else []
  | 0 => rfl
  | m + 1 => by
    rw [slK, slK_flat f size m, List.range_succ, List.flatMap_append, consK_map _ _ _ (Nat.le_refl _), List.take_of_length_le (Nat.le_refl _)]
    simp only [List.flatMap_cons, List.flatMap_nil, List.append_nil]
    rfl
theorem SL_filter : ∀ (n s : Nat), SL n s = (C9 n).filter fun l => nrm l == (s : Int)
  | 0, s => by
    rw [SL, C9]
    by_cases h : s = 0
    · subst h; rfl
    · rw [if_neg h, List.filter_cons_of_neg]
      · rfl
      · show ¬ ((0 : Int) == (s : Int)) = true
        simp only [beq_iff_eq]; omega
  | n + 1, s => by
    rw [SL, slK_flat, C9, List.filter_flatMap]
    refine flatMap_cg fun j _ => ?_
    rw [List.filter_map]
    by_cases h : (mv j).natAbs ≤ s
    · rw [if_pos h, SL_filter n]
      congr 1
      refine List.filter_congr fun l _ => ?_
      simp only [Function.comp, nrm_cons]
      rw [Bool.eq_iff_iff]
      simp only [beq_iff_eq]
      omega
    · rw [if_neg h]
      symm
      rw [List.map_eq_nil_iff, List.filter_eq_nil_iff]
      intro l _
      have := nrm_nn l
      simp only [Function.comp, nrm_cons, beq_iff_eq]
      omega
theorem fnd_find (b R : Nat) (L : List (List Int)) : ∀ k, k ≤ L.length → fnd b R L k = (L.take k).find? (okL b R)
  | 0, _ => by simp [fnd]
  | k + 1, h => by
    rw [fnd, fnd_find b R L k (by omega), take_getD (d := []) (by omega), List.find?_append]
    cases (L.take k).find? (okL b R) with
    | some l => rfl
    | none =>
      simp only [Option.none_or, List.find?_cons, List.find?_nil]
      cases okL b R (L.getD k []) <;> rfl
theorem pick_inv (b R : Nat) (L : List (List Int)) : ∀ k, k ≤ L.length → (pick b R L k = none ∧ ∀ x ∈ L.take k, okL b R x = false) ∨ ∃ l, pick b R L k = some l ∧ (∀ x ∈ L.take k, okL b R x = true → nrm l ≤ nrm x) ∧ (L.take k).find? (fun x => nrm x == nrm l && okL b R x) = some l
  | 0, _ => .inl ⟨rfl, by simp⟩
  | k + 1, h => by
    rw [take_getD (d := []) (by omega)]
    generalize hy : L.getD k [] = y
    have hp := pick_inv b R L k (by omega)
    rcases hp with ⟨h1, h2⟩ | ⟨l, h1, h2, h3⟩
    · have e : pick b R L (k + 1) = if okL b R y = true then some y else none := by rw [pick, h1, hy]
      cases hok : okL b R y
      · left
        refine ⟨by rw [e, hok]; rfl, fun x hx => ?_⟩
        rcases List.mem_append.mp hx with h | h
        · exact h2 x h
        · simp at h; subst h; exact hok
      · right
        refine ⟨y, by rw [e, hok]; rfl, fun x hx hx2 => ?_, ?_⟩
        · rcases List.mem_append.mp hx with h | h
          · rw [h2 x h] at hx2; simp at hx2
          · simp at h; subst h; exact Int.le_refl _
        · rw [List.find?_append, List.find?_eq_none.mpr (fun x hx => by rw [h2 x hx]; simp), Option.none_or]
          simp [hok]
    · have e : pick b R L (k + 1) = if nrm l ≤ nrm y then some l else if okL b R y = true then some y else some l := by rw [pick, h1, hy]
      right
      by_cases hc : nrm l ≤ nrm y
      · refine ⟨l, by rw [e, if_pos hc], fun x hx hx2 => ?_, by rw [List.find?_append, h3]; rfl⟩
        rcases List.mem_append.mp hx with h | h
        · exact h2 x h hx2
        · simp at h; subst h; exact hc
      · cases hok : okL b R y
        · refine ⟨l, by rw [e, if_neg hc, hok]; rfl, fun x hx hx2 => ?_, by rw [List.find?_append, h3]; rfl⟩
          rcases List.mem_append.mp hx with h | h
          · exact h2 x h hx2
          · simp at h; subst h; rw [hok] at hx2; simp at hx2
        · refine ⟨y, by rw [e, if_neg hc, hok]; rfl, fun x hx hx2 => ?_, ?_⟩
          · rcases List.mem_append.mp hx with h | h
            · have := h2 x h hx2; omega
            · simp at h; subst h; exact Int.le_refl _
          · rw [List.find?_append, List.find?_eq_none.mpr (fun x hx => ?_), Option.none_or]
            · simp [hok]
            · intro hb2
              simp only [Bool.and_eq_true, beq_iff_eq] at hb2
              have := h2 x hx hb2.2; omega
theorem fz_none {b R n : Nat} : ∀ {k : Nat}, (∀ s, s < k → fnd b R (SL n s) (SL n s).length = none) → fz b R n k = none
  | 0, _ => rfl
  | k + 1, h => by rw [fz, fz_none fun s hs => h s (by omega)]; exact h k (by omega)
theorem find_filter {α : Type} (p q : α → Bool) : ∀ L : List α, (L.filter p).find? q = L.find? (fun x => p x && q x)
  | [] => rfl
  | x :: xs => by
    rw [List.find?_cons]
    cases hp : p x
    · rw [List.filter_cons_of_neg (by rw [hp]; simp), find_filter p q xs]; rfl
    · rw [List.filter_cons_of_pos hp, List.find?_cons, find_filter p q xs]; simp
/-- Both sides find the same weighing. -/
theorem pick_fz (b R n : Nat) (hn : n ≤ 4) : pick b R (L9 n) (L9 n).length = fz b R n (4 * n + 1) := by
  have hS : ∀ s, fnd b R (SL n s) (SL n s).length = (L9 n).find? (fun x => nrm x == (s : Int) && okL b R x) := fun s => by
    rw [fnd_find _ _ _ _ (Nat.le_refl _), List.take_of_length_le (Nat.le_refl _), SL_filter, find_filter, L9_C9]
  have hp := pick_inv b R (L9 n) _ (Nat.le_refl _)
  rw [List.take_of_length_le (Nat.le_refl _)] at hp
  rcases hp with ⟨h1, h2⟩ | ⟨l, h1, h2, h3⟩
  · rw [h1, fz_none fun s _ => ?_]
    rw [hS, List.find?_eq_none]
    intro x hx; rw [h2 x hx]; simp
  · rw [h1]
    have hl := List.mem_of_find?_eq_some h3
    have hW := L9_mem hl
    obtain ⟨m, hm⟩ := Int.eq_ofNat_of_zero_le (nrm_nn l)
    have hm4 : m ≤ 4 * n := by
      have h4 := (nrK_le (W4_of hn hW) l.length).2
      rw [hW.1] at h4
      have : nrm l = nrK l n := by rw [nrm, hW.1]
      omega
    have e1 : fz b R n (m + 1) = some l := by
      rw [fz, fz_none fun s hs => ?_]
      · show fnd b R (SL n m) (SL n m).length = some l
        rw [hS, ← hm]; exact h3
      · rw [hS, List.find?_eq_none]
        intro x hx hb2
        simp only [Bool.and_eq_true, beq_iff_eq] at hb2
        have := h2 x hx hb2.2; omega
    have e2 := fz_up e1 (4 * n - m)
    rw [show m + 1 + (4 * n - m) = 4 * n + 1 by omega] at e2
    exact e2.symm

theorem zints_ids : ∀ L : List Int, V.idsL (zints L) = []
  | [] => rfl
  | x :: xs => by
    show V.idsL (.int .i64 x :: zints xs) = []
    simp only [V.idsL, V.ids, List.nil_append]
    exact zints_ids xs
theorem vals_zints {L : List Int} {cur : Array Value} (h : cur.toList.take L.length = zvL L) {m : Mp} {ρ : Nat → Nat} : ∀ (j : Nat) (v : V), (zints L)[j]? = some v → ∃ u, cur[j]? = some u ∧ VR ρ m v u := by
  intro j v hv
  have hj : j < L.length := by
    have := (List.getElem?_eq_some_iff.mp hv).1
    rwa [zints_len, Nat.mul_one] at this
  have e : (cur.toList.take L.length)[j]? = (zvL L)[j]? := by rw [h]
  rw [List.getElem?_take, if_pos hj] at e
  have e2 : v = .int .i64 (L.getD j 0) := by
    have := zints_get (l := L) (j := j) hj
    rw [show 0 + j * 1 = j by omega] at this
    rw [this] at hv; exact (Option.some.inj hv).symm
  subst e2
  refine ⟨.int .i64 (L.getD j 0), ?_, by simp only [VR]⟩
  rw [← Array.getElem?_toList, e]
  simp [zvL, List.getElem?_map, List.getD_eq_getElem?_getD, List.getElem?_eq_getElem hj]
def slZ (z : V) (l : List Int) : V := match l with | [] => z | x :: xs => .sl 0 0 (x :: xs).length
def slZH (l : List Int) : List Blk := match l with | [] => [] | x :: xs => [⟨zints (x :: xs), 1, 0, some 0, false⟩]
/-- A function that returns a list of numbers of its own making, a number and a truth value. -/
theorem Ev.ofRow3 {C : Cx} {f : Nat} {args : List V} {vs : List Value} {t : Int} {ok : Bool} {L : List Int} {e0 : TypeId} {z : V}
    (hf : ∃ fn, C.P.funcs[C.ρ f]? = some fn ∧ (fn.name == "runtime.NumGoroutine") = false ∧ fn.body.isNone = false)
    (hv : ∀ (m : Mp) (us : List Value), VRL C.ρ m args us → us = vs)
    (h : ∀ W : World, Calls C.P (C.ρ f) vs.toArray W fun e w' => ∃ v, e = .returned (.tuple #[v, .int .i64 t, .bool ok]) ∧ w'.ownsRow W.heap.size e0 1 v L.length (zvL L) ∧ (L = [] → ∀ m : Mp, VR C.ρ m z v) ∧ RowKit.Below W.heap.size W w')
    (hzi : L = [] → z.ids = []) : Ev C f args [] (.tup [slZ z L, .int .i64 t, .bool ok]) (slZH L) := by
  refine ⟨hf, fun m W us hI hr hi => ?_⟩
  obtain rfl := hv m us hr
  refine (h W).mono fun e w' he => ?_
  obtain ⟨v, rfl, hown, hnil, hb⟩ := he
  cases L with
  | nil =>
    refine ⟨_, m, rfl, ?_, by simp [V.ids, V.idsL, slZ, hzi rfl], ?_, ?_, fun i _ => ⟨rfl, rfl, rfl⟩, Nat.le_refl _, fun i b _ hb => absurd hb (by simp [slZH]), fun i b b' hb => absurd hb (by simp)⟩
    · simp only [VR, VRL]
      exact ⟨_, rfl, v, _, rfl, hnil rfl m, _, _, rfl, rfl, _, _, rfl, rfl, rfl⟩
    · exact ⟨fun i b hi => absurd hi (by simp [slZH]), fun i hi => absurd hi (by simp [slZH]), fun i j bi bj hi => absurd hi (by simp [slZH]), fun i b p hi => absurd hi (by simp [slZH]), fun i b hi => absurd hi (by simp [slZH]), fun i b hi => absurd hi (by simp [slZH]), fun r hr o => .inl (Nat.le_trans hb.size hr),
        fun i b hi => absurd hi (by simp [slZH]), fun i b hi => absurd hi (by simp [slZH])⟩
    · exact ⟨hb.os, hb.tape, hb.output, hb.size, fun r hr => .inl (hb.block r hr).symm⟩
  | cons y ys =>
    generalize hL : y :: ys = L at *
    have hLne : L ≠ [] := by rw [← hL]; simp
    have eV : slZ z L = .sl 0 0 L.length := by rw [← hL]; rfl
    have eH : slZH L = [⟨zints L, 1, 0, some 0, false⟩] := by rw [← hL]; rfl
    rw [eV, eH]
    obtain ⟨_, h2⟩ := hown
    rcases h2 with ⟨_, h2⟩ | ⟨g, cap, cur, rfl, hg, hh, hc1, hc2, hc3, hc4⟩
    · exact absurd (List.eq_nil_of_length_eq_zero h2) hLne
    · rw [Nat.mul_one] at hc3 hc4
      have one : ∀ (i : Nat) (b : Blk), i < 1 → [(⟨zints L, 1, 0, some 0, false⟩ : Blk)][i]? = some b → i = 0 ∧ b = ⟨zints L, 1, 0, some 0, false⟩ := fun i b hi hb => by
        obtain rfl : i = 0 := by omega
        simp at hb; exact ⟨rfl, hb.symm⟩
      have hatom : (zints L).all V.atom = true := by simp [zints, V.atom]
      refine ⟨_, ⟨fun _ => g, fun _ => cur.size, fun _ => 1⟩, rfl, ?_, ?_, ?_, ?_, fun i hi => absurd hi (by simp), by simp, ?_, fun i b b' hb => absurd hb (by simp)⟩
      · simp only [VR, VRL]
        exact ⟨_, rfl, _, _, rfl, .inl ⟨cap, rfl, hc1, by omega⟩, _, _, rfl, rfl, _, _, rfl, rfl, rfl⟩
      · intro i hi
        simp [V.ids, V.idsL] at hi
        subst hi; simp
      · refine ⟨?_, ?_, ?_, ?_, ?_, ?_, ?_, ?_, ?_⟩
        · intro i b hi hb
          obtain ⟨rfl, rfl⟩ := one i b hi hb
          exact ⟨cur, e0, (0, 0), hh, rfl, rfl, by rw [zints_len]; omega, vals_zints hc4, fun _ => rfl⟩
        · intro i hi
          obtain rfl : i = 0 := by simp at hi; omega
          exact ⟨_, rfl⟩
        · intro i j bi bj hi hj hbi hbj _
          obtain ⟨_, rfl⟩ := one i bi hi hbi
          obtain ⟨_, rfl⟩ := one j bj hj hbj
          rfl
        · intro i b p hi hb hp o ho
          exact .inl hg
        · intro i b hi hb _
          obtain ⟨rfl, rfl⟩ := one i b hi hb
          exact zints_ids L
        · intro i b hi hb j hj
          obtain ⟨rfl, rfl⟩ := one i b hi hb
          rw [zints_ids L] at hj; simp at hj
        · exact fun r hr o => .inl (Nat.le_trans hb.size hr)
        · intro i b hi hb
          obtain ⟨rfl, rfl⟩ := one i b hi hb
          simp
        · intro i b hi hb _
          obtain ⟨rfl, rfl⟩ := one i b hi hb
          exact hatom
      · exact ⟨hb.os, hb.tape, hb.output, hb.size, fun r hr => .inl (hb.block r hr).symm⟩
      · intro i b _ hb
        have hi : i < 1 := by
          have := (List.getElem?_eq_some_iff.mp hb).1; simpa using this
        obtain ⟨rfl, rfl⟩ := one i b hi hb
        rfl
def wRes (n b : Nat) : Option (List Int) := fz b (R2 n) n (4 * n + 1)
def thB (n b : Nat) : Bool := (wRes n b).isSome
def wT (n b : Nat) : Int := match wRes n b with | some l => hiK l b (R2 n) | none => 0
theorem fnd_mem {b R : Nat} {L : List (List Int)} {l : List Int} : ∀ {k : Nat}, fnd b R L k = some l → k ≤ L.length → l ∈ L
  | 0, h, _ => by simp [fnd] at h
  | k + 1, h, hk => by
    rw [fnd] at h
    cases h1 : fnd b R L k with
    | some l' => rw [h1] at h; exact fnd_mem (by rw [h1]; exact h) (by omega)
    | none =>
      rw [h1] at h
      simp only at h
      split at h
      · simp only [Option.some.injEq] at h; subst h
        rw [List.getD_eq_getElem?_getD, List.getElem?_eq_getElem (by omega)]; exact List.getElem_mem _
      · simp at h
theorem fz_len {b R n : Nat} {l : List Int} : ∀ {k : Nat}, fz b R n k = some l → l.length = n
  | 0, h => by simp [fz] at h
  | k + 1, h => by
    rw [fz] at h
    cases h1 : fz b R n k with
    | some l' => rw [h1] at h; exact fz_len (by rw [h1]; exact h)
    | none => rw [h1] at h; exact (SL_mem (fnd_mem h (Nat.le_refl _))).1
theorem wRes_len {n b : Nat} {l : List Int} (h : wRes n b = some l) : l.length = n := fz_len h
theorem vr_agg (n b : Nat) (m : Mp) (us : List Value) (h : VRL cx.ρ m [.agg [.int .i64 n, .int .i64 b]] us) : us = [.agg #[.int .i64 n, .int .i64 b]] := by
  simp only [VR, VRL] at h
  obtain ⟨u, us', rfl, ⟨xs, rfl, u1, _, e1, rfl, u2, _, e2, rfl, e3⟩, rfl⟩ := h
  obtain rfl : xs = #[.int .i64 n, .int .i64 b] := by rw [← Array.toArray_toList (xs := xs), e1, e2, e3]
  rfl
-- (impl.Func).weighing
def m28_1 : MC := (.seq (.region [⟨(.bin .lss (.t 25) (.t 24)), (some 26), none⟩] false) (.seq (.cond (.t 26) .skip (.exit 2)) (.seq (.block 3 (.seq (.region [⟨(.indexAddr 1 (.t 23) (.t 25)), (some 27), none⟩, ⟨(.load none (.t 27)), (some 28), none⟩, ⟨(.mov (.t 28)), (some 12), none⟩] false) (.region [⟨(.mov (.t 10)), (some 29), none⟩, ⟨(.mov (.t 12)), (some 30), none⟩, ⟨(.mov (.t 12)), (some 31), none⟩, ⟨(.un .neg (.t 31)), (some 32), none⟩, ⟨(.mm true [(.t 30), (.t 32)]), (some 33), none⟩, ⟨(.bin .add (.t 29) (.t 33)), (some 34), none⟩, ⟨(.mov (.t 34)), (some 10), none⟩] false))) (.region [⟨(.bin .add (.t 25) (.k (.int .i64 1))), (some 35), none⟩, ⟨(.mov (.t 35)), (some 25), none⟩] false))))
def m28_0 : MC := (.seq (.region [⟨(.bin .lss (.t 19) (.t 18)), (some 20), none⟩] false) (.seq (.cond (.t 20) .skip (.exit 0)) (.seq (.block 1 (.seq (.region [⟨(.indexAddr 1 (.t 17) (.t 19)), (some 21), none⟩, ⟨(.load none (.t 21)), (some 22), none⟩, ⟨(.mov (.t 22)), (some 9), none⟩] false) (.seq (.region [⟨(.mov (.k (.int .i64 0))), (some 10), none⟩] false) (.seq (.seq (.region [⟨(.mov (.t 9)), (some 23), none⟩, ⟨(.len (.t 23)), (some 24), none⟩, ⟨(.mov (.k (.int .i64 0))), (some 25), none⟩] false) (.block 2 (.loop m28_1))) (.seq (.seq (.region [⟨(.mov (.t 7)), (some 36), none⟩, ⟨(.bin .geq (.t 36) (.k (.int .i64 0))), (some 37), none⟩, ⟨(.mov (.t 37)), (some 38), none⟩, ⟨(.mov (.t 10)), (some 39), (some (38, true))⟩, ⟨(.mov (.t 7)), (some 40), (some (38, true))⟩, ⟨(.bin .geq (.t 39) (.t 40)), (some 41), (some (38, true))⟩, ⟨(.pick (.t 38) (.t 41) (.k (.bool false))), (some 42), none⟩] false) (.cond (.t 42) (.exit 1) .skip)) (.seq (.region [⟨(.load (some 2) (.t 1)), (some 44), none⟩, ⟨(.mov (.t 9)), (some 45), none⟩, ⟨(.call 66 [(.t 44), (.t 45)]), (some 46), none⟩, ⟨(.mov (.t 46)), (some 43), none⟩, ⟨(.extract (.t 43) 0), (some 47), none⟩, ⟨(.extract (.t 43) 1), (some 48), none⟩, ⟨(.mov (.t 47)), (some 13), none⟩, ⟨(.mov (.t 48)), (some 14), none⟩] false) (.seq (.region [⟨(.mov (.t 14)), (some 49), none⟩] false) (.cond (.t 49) (.region [⟨(.mov (.t 9)), (some 50), none⟩, ⟨(.mov (.t 13)), (some 51), none⟩, ⟨(.mov (.t 10)), (some 52), none⟩, ⟨(.mov (.t 50)), (some 5), none⟩, ⟨(.mov (.t 51)), (some 6), none⟩, ⟨(.mov (.t 52)), (some 7), none⟩] false) .skip)))))))) (.region [⟨(.bin .add (.t 19) (.k (.int .i64 1))), (some 53), none⟩, ⟨(.mov (.t 53)), (some 19), none⟩] false))))
def m28 : MC := (.seq (.region [⟨(.box (.t 0)), (some 1), none⟩, ⟨(.mov (.k .nils)), (some 2), none⟩, ⟨(.mov (.k (.int .i64 0))), (some 3), none⟩, ⟨(.mov (.k (.bool false))), (some 4), none⟩] false) (.seq (.region [⟨(.mov (.k .nils)), (some 5), none⟩] false) (.seq (.region [⟨(.mov (.k (.int .i64 0))), (some 6), none⟩, ⟨(.mov (.k (.int .i64 (-1)))), (some 7), none⟩] false) (.seq (.seq (.region [⟨(.fieldAddr 0 (.t 1)), (some 15), none⟩, ⟨(.load none (.t 15)), (some 16), none⟩, ⟨(.call 65 [(.t 16)]), (some 17), none⟩, ⟨(.len (.t 17)), (some 18), none⟩, ⟨(.mov (.k (.int .i64 0))), (some 19), none⟩] false) (.block 0 (.loop m28_0))) (.seq (.region [⟨(.mov (.t 5)), (some 54), none⟩, ⟨(.mov (.t 6)), (some 55), none⟩, ⟨(.mov (.t 7)), (some 56), none⟩, ⟨(.bin .geq (.t 56) (.k (.int .i64 0))), (some 57), none⟩, ⟨(.mov (.t 54)), (some 2), none⟩, ⟨(.mov (.t 55)), (some 3), none⟩, ⟨(.mov (.t 57)), (some 4), none⟩] false) .ret)))))
theorem has28 : Has cx 28 58 m28 [(.tmp 2), (.tmp 3), (.tmp 4)] :=
  ⟨⟨Try.f28, Try.f28.body.getD .skip, by kernel_rfl, by kernel_rfl, by kernel_rfl, by kernel_rfl, by kernel_rfl, by kernel_rfl⟩⟩
theorem wgh_any (n b : Nat) (hn : n ≤ 4) (hb : b < 65536) (w : World) : Calls Try.prog 28 #[.agg #[.int .i64 n, .int .i64 b]] w fun e w' => ∃ B t ok, e = .returned (.tuple #[B, t, ok]) ∧ resW w' w.heap.size n b (R2 n) B t ok (wRes n b) ∧ w.grownBy w' none := by
  unfold wRes
  rw [← pick_fz b (R2 n) n hn]
  by_cases h : n = 0
  · subst h; exact weighing_zero b hb w
  · exact weighing_pos n b hn (by omega) hb w
theorem ev28_none (n b : Nat) (hn : n ≤ 4) (hb : b < 65536) (h : wRes n b = none) : Ev cx 28 [.agg [.int .i64 n, .int .i64 b]] [] (.tup [.nils, .int .i64 0, .bool false]) [] := by
  refine Ev.ofRow3 (L := []) (z := .nils) (vs := [.agg #[.int .i64 n, .int .i64 b]]) (e0 := 2) ⟨_, Try.func28, by kernel_rfl, by kernel_rfl⟩ (vr_agg n b) (fun W => ?_) (fun _ => rfl)
  refine (wgh_any n b hn hb W).mono ?_
  rintro e w' ⟨B, t, ok, rfl, hr, hg⟩
  rw [h] at hr
  obtain ⟨rfl, rfl, rfl⟩ := hr
  exact ⟨_, rfl, World.ownsRow_nil _ _ _ _, fun _ m => by simp only [VR], (RowKit.Below.refl _ _).grown hg (Nat.le_refl _) (fun k hk => by cases hk)⟩
theorem ev28_some (n b : Nat) (hn : n ≤ 4) (hb : b < 65536) (l : List Int) (h : wRes n b = some l) : Ev cx 28 [.agg [.int .i64 n, .int .i64 b]] [] (.tup [slZ .nils l, .int .i64 (wT n b), .bool true]) (slZH l) := by
  refine Ev.ofRow3 (vs := [.agg #[.int .i64 n, .int .i64 b]]) (e0 := 2) ⟨_, Try.func28, by kernel_rfl, by kernel_rfl⟩ (vr_agg n b) (fun W => ?_) (fun _ => rfl)
  refine (wgh_any n b hn hb W).mono ?_
  rintro e w' ⟨B, t, ok, rfl, hr, hg⟩
  rw [h] at hr
  obtain ⟨h1, h2, h3, rfl, rfl⟩ := hr
  exact ⟨_, by rw [wT, h], h1, fun hl m => by rw [h2 hl]; simp only [VR], (RowKit.Below.refl _ _).grown hg (Nat.le_refl _) (fun k hk => by cases hk)⟩
-- spec.l07Weighing
def m30_1 : MC := (.seq (.seq (.region [⟨(.mov (.t 7)), (some 21), none⟩, ⟨(.mov (.t 6)), (some 22), none⟩, ⟨(.len (.t 22)), (some 23), none⟩, ⟨(.bin .lss (.t 21) (.t 23)), (some 24), none⟩] false) (.cond (.t 24) .skip (.exit 2))) (.seq (.block 3 (.seq (.region [⟨(.load (some 2) (.t 1)), (some 28), none⟩, ⟨(.mov (.t 6)), (some 29), none⟩, ⟨(.mov (.t 7)), (some 30), none⟩, ⟨(.indexAddr 1 (.t 29) (.t 30)), (some 31), none⟩, ⟨(.load none (.t 31)), (some 32), none⟩, ⟨(.callw 68 [(.t 28), (.t 32)]), (some 33), none⟩, ⟨(.mov (.t 33)), (some 27), none⟩, ⟨(.extract (.t 27) 0), (some 34), none⟩, ⟨(.extract (.t 27) 1), (some 35), none⟩, ⟨(.mov (.t 34)), (some 8), none⟩, ⟨(.mov (.t 35)), (some 9), none⟩] true) (.seq (.region [⟨(.mov (.t 9)), (some 36), none⟩] false) (.cond (.t 36) (.seq (.region [⟨(.mov (.t 6)), (some 37), none⟩, ⟨(.mov (.t 7)), (some 38), none⟩, ⟨(.indexAddr 1 (.t 37) (.t 38)), (some 39), none⟩, ⟨(.load none (.t 39)), (some 40), none⟩, ⟨(.mov (.t 8)), (some 41), none⟩, ⟨(.mov (.t 40)), (some 2), none⟩, ⟨(.mov (.t 41)), (some 3), none⟩, ⟨(.mov (.k (.bool true))), (some 4), none⟩] false) .ret) .skip)))) (.region [⟨(.mov (.t 7)), (some 25), none⟩, ⟨(.bin .add (.t 25) (.k (.int .i64 1))), (some 26), none⟩, ⟨(.mov (.t 26)), (some 7), none⟩] false)))
def m30_0 : MC := (.seq (.seq (.region [⟨(.mov (.t 5)), (some 10), none⟩, ⟨(.fieldAddr 0 (.t 1)), (some 11), none⟩, ⟨(.load none (.t 11)), (some 12), none⟩, ⟨(.bin .mul (.k (.int .i64 4)) (.t 12)), (some 13), none⟩, ⟨(.bin .leq (.t 10) (.t 13)), (some 14), none⟩] false) (.cond (.t 14) .skip (.exit 0))) (.seq (.block 1 (.seq (.region [⟨(.fieldAddr 0 (.t 1)), (some 17), none⟩, ⟨(.load none (.t 17)), (some 18), none⟩, ⟨(.mov (.t 5)), (some 19), none⟩, ⟨(.call 67 [(.t 18), (.t 19)]), (some 20), none⟩, ⟨(.mov (.t 20)), (some 6), none⟩] false) (.seq (.region [⟨(.mov (.k (.int .i64 0))), (some 7), none⟩] false) (.block 2 (.loop m30_1))))) (.region [⟨(.mov (.t 5)), (some 15), none⟩, ⟨(.bin .add (.t 15) (.k (.int .i64 1))), (some 16), none⟩, ⟨(.mov (.t 16)), (some 5), none⟩] false)))
def m30 : MC := (.seq (.region [⟨(.box (.t 0)), (some 1), none⟩, ⟨(.mov (.k .nils)), (some 2), none⟩, ⟨(.mov (.k (.int .i64 0))), (some 3), none⟩, ⟨(.mov (.k (.bool false))), (some 4), none⟩] false) (.seq (.seq (.region [⟨(.mov (.k (.int .i64 0))), (some 5), none⟩] false) (.block 0 (.loop m30_0))) (.seq (.region [⟨(.mov (.k .nils)), (some 2), none⟩, ⟨(.mov (.k (.int .i64 0))), (some 3), none⟩, ⟨(.mov (.k (.bool false))), (some 4), none⟩] false) .ret)))
theorem has30 : Has cx 30 42 m30 [(.tmp 2), (.tmp 3), (.tmp 4)] :=
  ⟨⟨Try.f30, Try.f30.body.getD .skip, by kernel_rfl, by kernel_rfl, by kernel_rfl, by kernel_rfl, by kernel_rfl, by kernel_rfl⟩⟩
theorem ev30_none (n b : Nat) (hn : n ≤ 4) (hb : b < 65536) (h : wRes n b = none) : Ev cx 30 [.agg [.int .i64 n, .int .i64 b]] [] (.tup [.nils, .int .i64 0, .bool false]) [] := by
  refine Ev.ofRow3 (L := []) (z := .nils) (vs := [.agg #[.int .i64 n, .int .i64 b]]) (e0 := 2) ⟨_, Try.func30, by kernel_rfl, by kernel_rfl⟩ (vr_agg n b) (fun W => ?_) (fun _ => rfl)
  refine (sweigh_any n b hn hb W).mono ?_
  rintro e w' ⟨B, t, ok, rfl, hr, hg⟩
  rw [show fz b (R2 n) n (4 * n + 1) = wRes n b from rfl] at hr; rw [h] at hr
  obtain ⟨rfl, rfl, rfl⟩ := hr
  exact ⟨_, rfl, World.ownsRow_nil _ _ _ _, fun _ m => by simp only [VR], (RowKit.Below.refl _ _).grown hg (Nat.le_refl _) (fun k hk => by cases hk)⟩
theorem ev30_some (n b : Nat) (hn : n ≤ 4) (hb : b < 65536) (l : List Int) (h : wRes n b = some l) : Ev cx 30 [.agg [.int .i64 n, .int .i64 b]] [] (.tup [slZ .emp l, .int .i64 (wT n b), .bool true]) (slZH l) := by
  refine Ev.ofRow3 (vs := [.agg #[.int .i64 n, .int .i64 b]]) (e0 := 2) ⟨_, Try.func30, by kernel_rfl, by kernel_rfl⟩ (vr_agg n b) (fun W => ?_) (fun _ => rfl)
  refine (sweigh_any n b hn hb W).mono ?_
  rintro e w' ⟨B, t, ok, rfl, hr, hg⟩
  rw [show fz b (R2 n) n (4 * n + 1) = wRes n b from rfl] at hr; rw [h] at hr
  obtain ⟨h1, h2, h3, rfl, rfl⟩ := hr
  exact ⟨_, by rw [wT, h], h1, fun hl m => by obtain ⟨a, ha⟩ := h2 hl; simp only [VR]; exact ⟨a, ha⟩, (RowKit.Below.refl _ _).grown hg (Nat.le_refl _) (fun k hk => by cases hk)⟩
-- impl.WeighingOf
def m6 : MC := (.seq (.region [⟨(.box (.t 0)), (some 1), none⟩, ⟨(.mov (.k .nils)), (some 2), none⟩, ⟨(.mov (.k (.int .i64 0))), (some 3), none⟩, ⟨(.mov (.k (.int .i64 0))), (some 4), none⟩] false) (.seq (.seq (.region [⟨(.load (some 2) (.t 1)), (some 8), none⟩, ⟨(.call 27 [(.t 8)]), (some 9), none⟩, ⟨(.un .not (.t 9)), (some 10), none⟩] false) (.cond (.t 10) (.seq (.region [⟨(.mov (.k .nils)), (some 2), none⟩, ⟨(.mov (.k (.int .i64 0))), (some 3), none⟩, ⟨(.mov (.k (.int .i64 1))), (some 4), none⟩] false) .ret) .skip)) (.seq (.region [⟨(.load (some 2) (.t 1)), (some 12), none⟩, ⟨(.call 28 [(.t 12)]), (some 13), none⟩, ⟨(.mov (.t 13)), (some 11), none⟩, ⟨(.extract (.t 11) 0), (some 14), none⟩, ⟨(.extract (.t 11) 1), (some 15), none⟩, ⟨(.extract (.t 11) 2), (some 16), none⟩, ⟨(.mov (.t 14)), (some 5), none⟩, ⟨(.mov (.t 15)), (some 6), none⟩, ⟨(.mov (.t 16)), (some 7), none⟩] false) (.seq (.seq (.region [⟨(.mov (.t 7)), (some 17), none⟩, ⟨(.un .not (.t 17)), (some 18), none⟩] false) (.cond (.t 18) (.seq (.region [⟨(.mov (.k .nils)), (some 2), none⟩, ⟨(.mov (.k (.int .i64 0))), (some 3), none⟩, ⟨(.mov (.k (.int .i64 4))), (some 4), none⟩] false) .ret) .skip)) (.seq (.region [⟨(.mov (.t 5)), (some 19), none⟩, ⟨(.mov (.t 6)), (some 20), none⟩, ⟨(.mov (.t 19)), (some 2), none⟩, ⟨(.mov (.t 20)), (some 3), none⟩, ⟨(.mov (.k (.int .i64 0))), (some 4), none⟩] false) .ret)))))
theorem has6 : Has cx 6 21 m6 [(.tmp 2), (.tmp 3), (.tmp 4)] :=
  ⟨⟨Try.f6, Try.f6.body.getD .skip, by kernel_rfl, by kernel_rfl, by kernel_rfl, by kernel_rfl, by kernel_rfl, by kernel_rfl⟩⟩
theorem ev6_bad (p t : Int) (h1 : isFn p t = false) : Ev cx 6 [.agg [.int .i64 p, .int .i64 t]] [] (.tup [.nils, .int .i64 0, .int .i64 1]) [] := by
  have e1 := ev27 p t
  rw [h1] at e1
  refine has6.eev rfl rfl ?_
  unfold m6
  repeat' (first
    | (refine g_op ?_; first
      | refine ep_mov rfl ?_ | refine sp_loadN rfl rfl rfl rfl rfl ?_
      | refine ep_call0 rfl (by first | exact e1) rfl rfl ?_
      | refine sp_call rfl rfl rfl rfl (by first | exact e1) ⟨rfl, rfl, rfl, rfl⟩ rfl rfl rfl ?_
      | refine ep_extract rfl rfl ?_ | refine ep_not rfl ?_ | refine sp_box rfl rfl rfl rfl rfl ?_)
    | (refine g_ops ?_; first | refine eo_none ?_ | refine eo_nil ?_)
    | (refine g_code ?_; first | refine ec_seq ?_ | refine ec_region ?_ | refine ec_skip ?_ | refine ec_ret ?_ | refine ec_condT rfl ?_ | refine ec_condF rfl ?_ | refine ec_condTH rfl (by assumption) ?_ | refine ec_condFH rfl (by assumption) ?_)
    | refine ek_seqN ?_ | refine ek_seqR ?_)
  refine sfin (.inr rfl) (by rfl) (by rfl) (by exact ⟨rfl, rfl, rfl⟩) (by rfl) (by rfl) (by rfl) (by first | rfl | (simp; done) | (simp [ints, prs]; done))
theorem ev6_none (n b : Nat) (h1 : isFn n b = true) (hn : n ≤ 4) (hb : b < 65536) (h : wRes n b = none) : Ev cx 6 [.agg [.int .i64 n, .int .i64 b]] [] (.tup [.nils, .int .i64 0, .int .i64 4]) [] := by
  have e1 := ev27 n b
  rw [h1] at e1
  refine has6.eev rfl rfl ?_
  unfold m6
  repeat' (first
    | (refine g_op ?_; first
      | refine ep_mov rfl ?_ | refine sp_loadN rfl rfl rfl rfl rfl ?_
      | refine ep_call0 rfl (by first | exact e1 | exact ev28_none n b hn hb h) rfl rfl ?_
      | refine sp_call rfl rfl rfl rfl (by first | exact e1 | exact ev28_none n b hn hb h) ⟨rfl, rfl, rfl, rfl⟩ rfl rfl rfl ?_
      | refine ep_extract rfl rfl ?_ | refine ep_not rfl ?_ | refine sp_box rfl rfl rfl rfl rfl ?_)
    | (refine g_ops ?_; first | refine eo_none ?_ | refine eo_nil ?_)
    | (refine g_code ?_; first | refine ec_seq ?_ | refine ec_region ?_ | refine ec_skip ?_ | refine ec_ret ?_ | refine ec_condT rfl ?_ | refine ec_condF rfl ?_ | refine ec_condTH rfl (by assumption) ?_ | refine ec_condFH rfl (by assumption) ?_)
    | refine ek_seqN ?_ | refine ek_seqR ?_)
  refine sfin (.inr rfl) (by rfl) (by rfl) (by exact ⟨rfl, rfl, rfl⟩) (by rfl) (by rfl) (by rfl) (by first | rfl | (simp; done) | (simp [ints, prs]; done))
theorem ev6_nil (n b : Nat) (h1 : isFn n b = true) (hn : n ≤ 4) (hb : b < 65536) (h : wRes n b = some []) : Ev cx 6 [.agg [.int .i64 n, .int .i64 b]] [] (.tup [.nils, .int .i64 (wT n b), .int .i64 0]) [] := by
  have e1 := ev27 n b
  rw [h1] at e1
  have e2 := ev28_some n b hn hb _ h
  refine has6.eev rfl rfl ?_
  unfold m6
  repeat' (first
    | (refine g_op ?_; first
      | refine ep_mov rfl ?_ | refine sp_loadN rfl rfl rfl rfl rfl ?_
      | refine ep_call0 rfl (by first | exact e1 | exact e2) rfl rfl ?_
      | refine sp_call rfl rfl rfl rfl (by first | exact e1 | exact e2) ⟨rfl, rfl, rfl, rfl⟩ rfl rfl rfl ?_
      | refine ep_extract rfl rfl ?_ | refine ep_not rfl ?_ | refine sp_box rfl rfl rfl rfl rfl ?_)
    | (refine g_ops ?_; first | refine eo_none ?_ | refine eo_nil ?_)
    | (refine g_code ?_; first | refine ec_seq ?_ | refine ec_region ?_ | refine ec_skip ?_ | refine ec_ret ?_ | refine ec_condT rfl ?_ | refine ec_condF rfl ?_ | refine ec_condTH rfl (by assumption) ?_ | refine ec_condFH rfl (by assumption) ?_)
    | refine ek_seqN ?_ | refine ek_seqR ?_)
  refine sfin (.inr rfl) (by rfl) (by rfl) (by exact ⟨rfl, rfl, rfl⟩) (by rfl) (by rfl) (by rfl) (by first | rfl | (simp; done) | (simp [ints, prs]; done))
theorem ev6_cons (n b : Nat) (h1 : isFn n b = true) (hn : n ≤ 4) (hb : b < 65536) (x : Int) (xs : List Int) (h : wRes n b = some (x :: xs)) : Ev cx 6 [.agg [.int .i64 n, .int .i64 b]] [] (.tup [.sl 0 0 (x :: xs).length, .int .i64 (wT n b), .int .i64 0]) [⟨zints (x :: xs), 1, 0, some 0, false⟩] := by
  have e1 := ev27 n b
  rw [h1] at e1
  have e2 := ev28_some n b hn hb _ h
  refine has6.eev rfl rfl ?_
  unfold m6
  repeat' (first
    | (refine g_op ?_; first
      | refine ep_mov rfl ?_ | refine sp_loadN rfl rfl rfl rfl rfl ?_
      | refine ep_call0 rfl (by first | exact e1 | exact e2) rfl rfl ?_
      | refine sp_call rfl rfl rfl rfl (by first | exact e1 | exact e2) ⟨rfl, rfl, rfl, rfl⟩ rfl rfl rfl ?_
      | refine ep_extract rfl rfl ?_ | refine ep_not rfl ?_ | refine sp_box rfl rfl rfl rfl rfl ?_)
    | (refine g_ops ?_; first | refine eo_none ?_ | refine eo_nil ?_)
    | (refine g_code ?_; first | refine ec_seq ?_ | refine ec_region ?_ | refine ec_skip ?_ | refine ec_ret ?_ | refine ec_condT rfl ?_ | refine ec_condF rfl ?_ | refine ec_condTH rfl (by assumption) ?_ | refine ec_condFH rfl (by assumption) ?_)
    | refine ek_seqN ?_ | refine ek_seqR ?_)
  refine sfin (.inr rfl) (by rfl) (by rfl) (by exact ⟨rfl, rfl, rfl⟩) (by rfl) (by rfl) (by rfl) (by first | rfl | (simp; done) | (simp [ints, prs]; done))
-- spec.WeighingOf
def m7 : MC := (.seq (.region [⟨(.box (.t 0)), (some 1), none⟩, ⟨(.mov (.k .nils)), (some 2), none⟩, ⟨(.mov (.k (.int .i64 0))), (some 3), none⟩, ⟨(.mov (.k (.int .i64 0))), (some 4), none⟩] false) (.seq (.seq (.region [⟨(.load (some 2) (.t 1)), (some 8), none⟩, ⟨(.call 29 [(.t 8)]), (some 9), none⟩, ⟨(.un .not (.t 9)), (some 10), none⟩] false) (.cond (.t 10) (.seq (.region [⟨(.mov (.k .nils)), (some 2), none⟩, ⟨(.mov (.k (.int .i64 0))), (some 3), none⟩, ⟨(.mov (.k (.int .i64 1))), (some 4), none⟩] false) .ret) .skip)) (.seq (.region [⟨(.load (some 2) (.t 1)), (some 12), none⟩, ⟨(.call 30 [(.t 12)]), (some 13), none⟩, ⟨(.mov (.t 13)), (some 11), none⟩, ⟨(.extract (.t 11) 0), (some 14), none⟩, ⟨(.extract (.t 11) 1), (some 15), none⟩, ⟨(.extract (.t 11) 2), (some 16), none⟩, ⟨(.mov (.t 14)), (some 5), none⟩, ⟨(.mov (.t 15)), (some 6), none⟩, ⟨(.mov (.t 16)), (some 7), none⟩] false) (.seq (.seq (.region [⟨(.mov (.t 7)), (some 17), none⟩, ⟨(.un .not (.t 17)), (some 18), none⟩] false) (.cond (.t 18) (.seq (.region [⟨(.mov (.k .nils)), (some 2), none⟩, ⟨(.mov (.k (.int .i64 0))), (some 3), none⟩, ⟨(.mov (.k (.int .i64 4))), (some 4), none⟩] false) .ret) .skip)) (.seq (.region [⟨(.mov (.t 5)), (some 19), none⟩, ⟨(.mov (.t 6)), (some 20), none⟩, ⟨(.mov (.t 19)), (some 2), none⟩, ⟨(.mov (.t 20)), (some 3), none⟩, ⟨(.mov (.k (.int .i64 0))), (some 4), none⟩] false) .ret)))))
theorem has7 : Has cx 7 21 m7 [(.tmp 2), (.tmp 3), (.tmp 4)] :=
  ⟨⟨Try.f7, Try.f7.body.getD .skip, by kernel_rfl, by kernel_rfl, by kernel_rfl, by kernel_rfl, by kernel_rfl, by kernel_rfl⟩⟩
theorem ev7_bad (p t : Int) (h1 : isFn p t = false) : Ev cx 7 [.agg [.int .i64 p, .int .i64 t]] [] (.tup [.nils, .int .i64 0, .int .i64 1]) [] := by
  have e1 := ev29 p t
  rw [h1] at e1
  refine has7.eev rfl rfl ?_
  unfold m7
  repeat' (first
    | (refine g_op ?_; first
      | refine ep_mov rfl ?_ | refine sp_loadN rfl rfl rfl rfl rfl ?_
      | refine ep_call0 rfl (by first | exact e1) rfl rfl ?_
      | refine sp_call rfl rfl rfl rfl (by first | exact e1) ⟨rfl, rfl, rfl, rfl⟩ rfl rfl rfl ?_
      | refine ep_extract rfl rfl ?_ | refine ep_not rfl ?_ | refine sp_box rfl rfl rfl rfl rfl ?_)
    | (refine g_ops ?_; first | refine eo_none ?_ | refine eo_nil ?_)
    | (refine g_code ?_; first | refine ec_seq ?_ | refine ec_region ?_ | refine ec_skip ?_ | refine ec_ret ?_ | refine ec_condT rfl ?_ | refine ec_condF rfl ?_ | refine ec_condTH rfl (by assumption) ?_ | refine ec_condFH rfl (by assumption) ?_)
    | refine ek_seqN ?_ | refine ek_seqR ?_)
  refine sfin (.inr rfl) (by rfl) (by rfl) (by exact ⟨rfl, rfl, rfl⟩) (by rfl) (by rfl) (by rfl) (by first | rfl | (simp; done) | (simp [ints, prs]; done))
theorem ev7_none (n b : Nat) (h1 : isFn n b = true) (hn : n ≤ 4) (hb : b < 65536) (h : wRes n b = none) : Ev cx 7 [.agg [.int .i64 n, .int .i64 b]] [] (.tup [.nils, .int .i64 0, .int .i64 4]) [] := by
  have e1 := ev29 n b
  rw [h1] at e1
  refine has7.eev rfl rfl ?_
  unfold m7
  repeat' (first
    | (refine g_op ?_; first
      | refine ep_mov rfl ?_ | refine sp_loadN rfl rfl rfl rfl rfl ?_
      | refine ep_call0 rfl (by first | exact e1 | exact ev30_none n b hn hb h) rfl rfl ?_
      | refine sp_call rfl rfl rfl rfl (by first | exact e1 | exact ev30_none n b hn hb h) ⟨rfl, rfl, rfl, rfl⟩ rfl rfl rfl ?_
      | refine ep_extract rfl rfl ?_ | refine ep_not rfl ?_ | refine sp_box rfl rfl rfl rfl rfl ?_)
    | (refine g_ops ?_; first | refine eo_none ?_ | refine eo_nil ?_)
    | (refine g_code ?_; first | refine ec_seq ?_ | refine ec_region ?_ | refine ec_skip ?_ | refine ec_ret ?_ | refine ec_condT rfl ?_ | refine ec_condF rfl ?_ | refine ec_condTH rfl (by assumption) ?_ | refine ec_condFH rfl (by assumption) ?_)
    | refine ek_seqN ?_ | refine ek_seqR ?_)
  refine sfin (.inr rfl) (by rfl) (by rfl) (by exact ⟨rfl, rfl, rfl⟩) (by rfl) (by rfl) (by rfl) (by first | rfl | (simp; done) | (simp [ints, prs]; done))
theorem ev7_nil (n b : Nat) (h1 : isFn n b = true) (hn : n ≤ 4) (hb : b < 65536) (h : wRes n b = some []) : Ev cx 7 [.agg [.int .i64 n, .int .i64 b]] [] (.tup [.emp, .int .i64 (wT n b), .int .i64 0]) [] := by
  have e1 := ev29 n b
  rw [h1] at e1
  have e2 := ev30_some n b hn hb _ h
  refine has7.eev rfl rfl ?_
  unfold m7
  repeat' (first
    | (refine g_op ?_; first
      | refine ep_mov rfl ?_ | refine sp_loadN rfl rfl rfl rfl rfl ?_
      | refine ep_call0 rfl (by first | exact e1 | exact e2) rfl rfl ?_
      | refine sp_call rfl rfl rfl rfl (by first | exact e1 | exact e2) ⟨rfl, rfl, rfl, rfl⟩ rfl rfl rfl ?_
      | refine ep_extract rfl rfl ?_ | refine ep_not rfl ?_ | refine sp_box rfl rfl rfl rfl rfl ?_)
    | (refine g_ops ?_; first | refine eo_none ?_ | refine eo_nil ?_)
    | (refine g_code ?_; first | refine ec_seq ?_ | refine ec_region ?_ | refine ec_skip ?_ | refine ec_ret ?_ | refine ec_condT rfl ?_ | refine ec_condF rfl ?_ | refine ec_condTH rfl (by assumption) ?_ | refine ec_condFH rfl (by assumption) ?_)
    | refine ek_seqN ?_ | refine ek_seqR ?_)
  refine sfin (.inr rfl) (by rfl) (by rfl) (by exact ⟨rfl, rfl, rfl⟩) (by rfl) (by rfl) (by rfl) (by first | rfl | (simp; done) | (simp [ints, prs]; done))
theorem ev7_cons (n b : Nat) (h1 : isFn n b = true) (hn : n ≤ 4) (hb : b < 65536) (x : Int) (xs : List Int) (h : wRes n b = some (x :: xs)) : Ev cx 7 [.agg [.int .i64 n, .int .i64 b]] [] (.tup [.sl 0 0 (x :: xs).length, .int .i64 (wT n b), .int .i64 0]) [⟨zints (x :: xs), 1, 0, some 0, false⟩] := by
  have e1 := ev29 n b
  rw [h1] at e1
  have e2 := ev30_some n b hn hb _ h
  refine has7.eev rfl rfl ?_
  unfold m7
  repeat' (first
    | (refine g_op ?_; first
      | refine ep_mov rfl ?_ | refine sp_loadN rfl rfl rfl rfl rfl ?_
      | refine ep_call0 rfl (by first | exact e1 | exact e2) rfl rfl ?_
      | refine sp_call rfl rfl rfl rfl (by first | exact e1 | exact e2) ⟨rfl, rfl, rfl, rfl⟩ rfl rfl rfl ?_
      | refine ep_extract rfl rfl ?_ | refine ep_not rfl ?_ | refine sp_box rfl rfl rfl rfl rfl ?_)
    | (refine g_ops ?_; first | refine eo_none ?_ | refine eo_nil ?_)
    | (refine g_code ?_; first | refine ec_seq ?_ | refine ec_region ?_ | refine ec_skip ?_ | refine ec_ret ?_ | refine ec_condT rfl ?_ | refine ec_condF rfl ?_ | refine ec_condTH rfl (by assumption) ?_ | refine ec_condFH rfl (by assumption) ?_)
    | refine ek_seqN ?_ | refine ek_seqR ?_)
  refine sfin (.inr rfl) (by rfl) (by rfl) (by exact ⟨rfl, rfl, rfl⟩) (by rfl) (by rfl) (by rfl) (by first | rfl | (simp; done) | (simp [ints, prs]; done))
-- impl.CountThreshold$1
def m60 : MC := (.seq (.region [⟨(.box (.t 0)), (some 1), none⟩, ⟨(.mov (.k (.bool false))), (some 2), none⟩] false) (.seq (.region [⟨(.load (some 2) (.t 1)), (some 7), none⟩, ⟨(.call 28 [(.t 7)]), (some 8), none⟩, ⟨(.mov (.t 8)), (some 6), none⟩, ⟨(.extract (.t 6) 0), (some 9), none⟩, ⟨(.extract (.t 6) 1), (some 10), none⟩, ⟨(.extract (.t 6) 2), (some 11), none⟩, ⟨(.mov (.t 9)), (some 3), none⟩, ⟨(.mov (.t 10)), (some 4), none⟩, ⟨(.mov (.t 11)), (some 5), none⟩] false) (.seq (.region [⟨(.mov (.t 5)), (some 12), none⟩, ⟨(.mov (.t 12)), (some 2), none⟩] false) .ret)))
theorem has60 : Has cx 60 13 m60 [(.tmp 2)] :=
  ⟨⟨Try.f60, Try.f60.body.getD .skip, by kernel_rfl, by kernel_rfl, by kernel_rfl, by kernel_rfl, by kernel_rfl, by kernel_rfl⟩⟩
theorem ev60 (n b : Nat) (hn : n ≤ 4) (hb : b < 65536) : Ev cx 60 [.agg [.int .i64 n, .int .i64 b]] [] (.bool (thB n b)) [] := by
  cases hr : wRes n b with
  | none =>
    rw [show thB n b = false by rw [thB, hr]; rfl]
    refine has60.eev rfl rfl ?_
    unfold m60
    repeat' (first
      | (refine g_op ?_; first
        | refine ep_mov rfl ?_ | refine sp_loadN rfl rfl rfl rfl rfl ?_
        | refine ep_call0 rfl (by first | exact ev28_none n b hn hb hr) rfl rfl ?_
        | refine sp_call rfl rfl rfl rfl (by first | exact ev28_none n b hn hb hr) ⟨rfl, rfl, rfl, rfl⟩ rfl rfl rfl ?_
        | refine ep_extract rfl rfl ?_ | refine sp_box rfl rfl rfl rfl rfl ?_)
      | (refine g_ops ?_; first | refine eo_none ?_ | refine eo_nil ?_)
      | (refine g_code ?_; first | refine ec_seq ?_ | refine ec_region ?_ | refine ec_ret ?_)
      | refine ek_seqN ?_ | refine ek_seqR ?_)
    refine sfin (.inr rfl) (by rfl) (by rfl) (by exact ⟨rfl, rfl, rfl⟩) (by rfl) (by rfl) (by rfl) (by first | rfl | (simp; done) | (simp [ints, prs]; done))
  | some l =>
    rw [show thB n b = true by rw [thB, hr]; rfl]
    have e1 := ev28_some n b hn hb l hr
    generalize wT n b = T at *
    cases l with
    | nil =>
      refine has60.eev rfl rfl ?_
      unfold m60
      repeat' (first
        | (refine g_op ?_; first
          | refine ep_mov rfl ?_ | refine sp_loadN rfl rfl rfl rfl rfl ?_
          | refine ep_call0 rfl (by first | exact e1) rfl rfl ?_
          | refine sp_call rfl rfl rfl rfl (by first | exact e1) ⟨rfl, rfl, rfl, rfl⟩ rfl rfl rfl ?_
          | refine ep_extract rfl rfl ?_ | refine sp_box rfl rfl rfl rfl rfl ?_)
        | (refine g_ops ?_; first | refine eo_none ?_ | refine eo_nil ?_)
        | (refine g_code ?_; first | refine ec_seq ?_ | refine ec_region ?_ | refine ec_ret ?_)
        | refine ek_seqN ?_ | refine ek_seqR ?_)
      refine sfin (.inr rfl) (by rfl) (by rfl) (by exact ⟨rfl, rfl, rfl⟩) (by rfl) (by rfl) (by rfl) (by first | rfl | (simp; done) | (simp [ints, prs]; done))
    | cons x xs =>
      refine has60.eev rfl rfl ?_
      unfold m60
      repeat' (first
        | (refine g_op ?_; first
          | refine ep_mov rfl ?_ | refine sp_loadN rfl rfl rfl rfl rfl ?_
          | refine ep_call0 rfl (by first | exact e1) rfl rfl ?_
          | refine sp_call rfl rfl rfl rfl (by first | exact e1) ⟨rfl, rfl, rfl, rfl⟩ rfl rfl rfl ?_
          | refine ep_extract rfl rfl ?_ | refine sp_box rfl rfl rfl rfl rfl ?_)
        | (refine g_ops ?_; first | refine eo_none ?_ | refine eo_nil ?_)
        | (refine g_code ?_; first | refine ec_seq ?_ | refine ec_region ?_ | refine ec_ret ?_)
        | refine ek_seqN ?_ | refine ek_seqR ?_)
      refine sfin (.inr rfl) (by rfl) (by rfl) (by exact ⟨rfl, rfl, rfl⟩) (by rfl) (by rfl) (by rfl) (by first | rfl | (simp; done) | (simp [ints, prs]; done))
def thL (n : Nat) : List Nat := selm (thB n) idn (R2 (R2 n))
def thC (z : Int) : Int × Int := if 0 ≤ z ∧ z ≤ 3 then (((thL z.toNat).length : Nat), 0) else (0, 2)
theorem lpft_th (n : Nat) (hn : n ≤ 4) (o : Out) (ho : (match selm (thB n) (idn) (R2 (R2 n)) with | [] => (⟨.exit 0, [(5, .nils)], []⟩ : Out) | x :: xs => ⟨.exit 0, [(5, .sl 0 0 (x :: xs).length)], [⟨prs n (x :: xs), 2, 0, some 0, false⟩]⟩) = o) :
    LpS cx 25 0 m59_0 [(0, .int .i64 (n : Nat)), (1, .fn 60 []), (5, .nils), (9, .int .i64 (R2 (R2 n) : Nat)), (10, .int .i64 (0 : Nat))] [] o.x o.e o.h := by
  obtain ⟨h1, h2, h3, h4⟩ := shN hn
  subst ho
  refine lp_st (R2 (R2 n)) (selm (thB n) (idn)) (fun i s => match s with | [] => [(0, .int .i64 (n : Nat)), (1, .fn 60 []), (5, .nils), (9, .int .i64 (R2 (R2 n) : Nat)), (10, .int .i64 (i : Nat))] | x :: xs => [(0, .int .i64 (n : Nat)), (1, .fn 60 []), (5, .sl 0 0 (x :: xs).length), (9, .int .i64 (R2 (R2 n) : Nat)), (10, .int .i64 (i : Nat))]) (fun i s => match s with | [] => [] | x :: xs => [⟨prs n (x :: xs), 2, 0, some 0, false⟩]) (fun s => match s with | [] => ⟨.exit 0, [(5, .nils)], []⟩ | x :: xs => ⟨.exit 0, [(5, .sl 0 0 (x :: xs).length)], [⟨prs n (x :: xs), 2, 0, some 0, false⟩]⟩) ?_ ?_ (R2 (R2 n)) 0 (by omega)
  · intro i s hi hs
    have hlt : decide ((i : Int) < (R2 (R2 n) : Nat)) = true := decide_eq_true (by omega)
    have hle : decide ((i : Int) ≤ (R2 (R2 n) : Nat) - 1) = true := decide_eq_true (by omega)
    have hlen : s.length ≤ 65536 := by have := selm_len (thB n) (idn) i; rw [hs] at this; omega
    cases hp : (thB n) i with
    | true =>
      have hp' : ((thB n) i) = true := hp
      have e1 := ev60 n i hn (by omega)
      rw [hp'] at e1
      cases s with
      | nil =>
        refine ⟨[(idn) i], by rw [selm_t (p := thB n) hp, hs]; try rfl, ?_⟩
        unfold m59_0
        repeat' (first
          | (refine g_op ?_; first
            | refine ep_mov rfl ?_ | refine sp_loadN rfl rfl rfl rfl rfl ?_
            | refine sp_callv rfl rfl rfl rfl rfl rfl (by first | exact e1) ⟨rfl, rfl, rfl, rfl⟩ rfl rfl rfl ?_
            | refine sp_callb rfl rfl rfl rfl rfl rfl (by first | exact e1) ⟨rfl, rfl, rfl, rfl⟩ rfl rfl rfl ?_
            | refine ep_bin rfl rfl (by first | exact b_add (by omega) (by omega) | exact b_lss) ?_ | refine sp_store rfl rfl rfl rfl rfl rfl rfl rfl rfl rfl ?_ | refine sp_alloc rfl rfl ?_ | refine sp_build rfl rfl ?_
            | refine sp_bslice rfl rfl rfl rfl rfl ?_ | refine sp_push0 rfl (by first | exact .inl rfl | exact .inr rfl) rfl rfl rfl rfl rfl (by decide) rfl rfl rfl ?_ | refine sp_push rfl rfl rfl rfl rfl rfl rfl (by first | exact ints_len _ | exact prs_len _ _ | exact zints_len _) (by omega) (Nat.zero_le _) rfl rfl rfl rfl rfl ?_)
          | (refine g_ops ?_; first | refine eo_none ?_ | refine eo_nil ?_)
          | (refine g_code ?_; first | refine ec_seq ?_ | refine ec_region ?_ | refine ec_block ?_ | refine ec_skip ?_ | refine ec_exit ?_ | refine ec_condT rfl ?_ | refine ec_condF rfl ?_ | refine ec_condTH rfl (by assumption) ?_ | refine ec_condFH rfl (by assumption) ?_)
          | refine ek_seqN ?_ | refine ek_seqX ?_ | refine ek_blkN ?_ | refine ek_blkR ?_ | refine ek_blkX ?_ | refine ek_blkY rfl ?_)
        exact rnd_on (by rfl) (scmp2 (by rfl) (by rfl) (by exact ⟨rfl, rfl, rfl⟩) (by rfl) (by first | rfl | (simp; done) | (simp [ints, prs]; done)) (by rfl) (by first | rfl | (simp; done) | (simp [ints, prs]; done)))
      | cons x xs =>
        refine ⟨(x :: xs) ++ [(idn) i], by rw [selm_t (p := thB n) hp, hs]; try rfl, ?_⟩
        unfold m59_0
        repeat' (first
          | (refine g_op ?_; first
            | refine ep_mov rfl ?_ | refine sp_loadN rfl rfl rfl rfl rfl ?_
            | refine sp_callv rfl rfl rfl rfl rfl rfl (by first | exact e1) ⟨rfl, rfl, rfl, rfl⟩ rfl rfl rfl ?_
            | refine sp_callb rfl rfl rfl rfl rfl rfl (by first | exact e1) ⟨rfl, rfl, rfl, rfl⟩ rfl rfl rfl ?_
            | refine ep_bin rfl rfl (by first | exact b_add (by omega) (by omega) | exact b_lss) ?_ | refine sp_store rfl rfl rfl rfl rfl rfl rfl rfl rfl rfl ?_ | refine sp_alloc rfl rfl ?_ | refine sp_build rfl rfl ?_
            | refine sp_bslice rfl rfl rfl rfl rfl ?_ | refine sp_push0 rfl (by first | exact .inl rfl | exact .inr rfl) rfl rfl rfl rfl rfl (by decide) rfl rfl rfl ?_ | refine sp_push rfl rfl rfl rfl rfl rfl rfl (by first | exact ints_len _ | exact prs_len _ _ | exact zints_len _) (by omega) (Nat.zero_le _) rfl rfl rfl rfl rfl ?_)
          | (refine g_ops ?_; first | refine eo_none ?_ | refine eo_nil ?_)
          | (refine g_code ?_; first | refine ec_seq ?_ | refine ec_region ?_ | refine ec_block ?_ | refine ec_skip ?_ | refine ec_exit ?_ | refine ec_condT rfl ?_ | refine ec_condF rfl ?_ | refine ec_condTH rfl (by assumption) ?_ | refine ec_condFH rfl (by assumption) ?_)
          | refine ek_seqN ?_ | refine ek_seqX ?_ | refine ek_blkN ?_ | refine ek_blkR ?_ | refine ek_blkX ?_ | refine ek_blkY rfl ?_)
        exact rnd_on (by rfl) (scmp2 (by rfl) (by rfl) (by exact ⟨rfl, rfl, rfl⟩) (by rfl) (by first | rfl | (simp; done) | (simp [ints, prs]; done)) (by rfl) (by first | rfl | (simp; done) | (simp [ints, prs]; done)))
    | false =>
      have hp' : ((thB n) i) = false := hp
      have e1 := ev60 n i hn (by omega)
      rw [hp'] at e1
      cases s with
      | nil =>
        refine ⟨[], by rw [selm_f (p := thB n) hp, hs]; try rfl, ?_⟩
        unfold m59_0
        repeat' (first
          | (refine g_op ?_; first
            | refine ep_mov rfl ?_ | refine sp_loadN rfl rfl rfl rfl rfl ?_
            | refine sp_callv rfl rfl rfl rfl rfl rfl (by first | exact e1) ⟨rfl, rfl, rfl, rfl⟩ rfl rfl rfl ?_
            | refine sp_callb rfl rfl rfl rfl rfl rfl (by first | exact e1) ⟨rfl, rfl, rfl, rfl⟩ rfl rfl rfl ?_
            | refine ep_bin rfl rfl (by first | exact b_add (by omega) (by omega) | exact b_lss) ?_ | refine sp_store rfl rfl rfl rfl rfl rfl rfl rfl rfl rfl ?_ | refine sp_alloc rfl rfl ?_ | refine sp_build rfl rfl ?_
            | refine sp_bslice rfl rfl rfl rfl rfl ?_ | refine sp_push0 rfl (by first | exact .inl rfl | exact .inr rfl) rfl rfl rfl rfl rfl (by decide) rfl rfl rfl ?_ | refine sp_push rfl rfl rfl rfl rfl rfl rfl (by first | exact ints_len _ | exact prs_len _ _ | exact zints_len _) (by omega) (Nat.zero_le _) rfl rfl rfl rfl rfl ?_)
          | (refine g_ops ?_; first | refine eo_none ?_ | refine eo_nil ?_)
          | (refine g_code ?_; first | refine ec_seq ?_ | refine ec_region ?_ | refine ec_block ?_ | refine ec_skip ?_ | refine ec_exit ?_ | refine ec_condT rfl ?_ | refine ec_condF rfl ?_ | refine ec_condTH rfl (by assumption) ?_ | refine ec_condFH rfl (by assumption) ?_)
          | refine ek_seqN ?_ | refine ek_seqX ?_ | refine ek_blkN ?_ | refine ek_blkR ?_ | refine ek_blkX ?_ | refine ek_blkY rfl ?_)
        exact rnd_on (by rfl) (scmp2 (by rfl) (by rfl) (by exact ⟨rfl, rfl, rfl⟩) (by rfl) (by first | rfl | (simp; done) | (simp [ints, prs]; done)) (by rfl) (by first | rfl | (simp; done) | (simp [ints, prs]; done)))
      | cons x xs =>
        refine ⟨x :: xs, by rw [selm_f (p := thB n) hp, hs]; try rfl, ?_⟩
        unfold m59_0
        repeat' (first
          | (refine g_op ?_; first
            | refine ep_mov rfl ?_ | refine sp_loadN rfl rfl rfl rfl rfl ?_
            | refine sp_callv rfl rfl rfl rfl rfl rfl (by first | exact e1) ⟨rfl, rfl, rfl, rfl⟩ rfl rfl rfl ?_
            | refine sp_callb rfl rfl rfl rfl rfl rfl (by first | exact e1) ⟨rfl, rfl, rfl, rfl⟩ rfl rfl rfl ?_
            | refine ep_bin rfl rfl (by first | exact b_add (by omega) (by omega) | exact b_lss) ?_ | refine sp_store rfl rfl rfl rfl rfl rfl rfl rfl rfl rfl ?_ | refine sp_alloc rfl rfl ?_ | refine sp_build rfl rfl ?_
            | refine sp_bslice rfl rfl rfl rfl rfl ?_ | refine sp_push0 rfl (by first | exact .inl rfl | exact .inr rfl) rfl rfl rfl rfl rfl (by decide) rfl rfl rfl ?_ | refine sp_push rfl rfl rfl rfl rfl rfl rfl (by first | exact ints_len _ | exact prs_len _ _ | exact zints_len _) (by omega) (Nat.zero_le _) rfl rfl rfl rfl rfl ?_)
          | (refine g_ops ?_; first | refine eo_none ?_ | refine eo_nil ?_)
          | (refine g_code ?_; first | refine ec_seq ?_ | refine ec_region ?_ | refine ec_block ?_ | refine ec_skip ?_ | refine ec_exit ?_ | refine ec_condT rfl ?_ | refine ec_condF rfl ?_ | refine ec_condTH rfl (by assumption) ?_ | refine ec_condFH rfl (by assumption) ?_)
          | refine ek_seqN ?_ | refine ek_seqX ?_ | refine ek_blkN ?_ | refine ek_blkR ?_ | refine ek_blkX ?_ | refine ek_blkY rfl ?_)
        exact rnd_on (by rfl) (scmp2 (by rfl) (by rfl) (by exact ⟨rfl, rfl, rfl⟩) (by rfl) (by first | rfl | (simp; done) | (simp [ints, prs]; done)) (by rfl) (by first | rfl | (simp; done) | (simp [ints, prs]; done)))
  · intro s hs
    have hlt : decide (((R2 (R2 n) : Nat) : Int) < (R2 (R2 n) : Nat)) = false := decide_eq_false (by omega)
    have hle : decide (((R2 (R2 n) : Nat) : Int) ≤ (R2 (R2 n) : Nat) - 1) = false := decide_eq_false (by omega)
    cases s with
    | nil =>
      unfold m59_0
      repeat' (first
        | (refine g_op ?_; first
          | refine ep_mov rfl ?_ | refine sp_loadN rfl rfl rfl rfl rfl ?_
          | refine sp_callv rfl rfl rfl rfl rfl rfl (by first | exact e1) ⟨rfl, rfl, rfl, rfl⟩ rfl rfl rfl ?_
          | refine sp_callb rfl rfl rfl rfl rfl rfl (by first | exact e1) ⟨rfl, rfl, rfl, rfl⟩ rfl rfl rfl ?_
          | refine ep_bin rfl rfl (by first | exact b_add (by omega) (by omega) | exact b_lss) ?_ | refine sp_store rfl rfl rfl rfl rfl rfl rfl rfl rfl rfl ?_ | refine sp_alloc rfl rfl ?_ | refine sp_build rfl rfl ?_
          | refine sp_bslice rfl rfl rfl rfl rfl ?_ | refine sp_push0 rfl (by first | exact .inl rfl | exact .inr rfl) rfl rfl rfl rfl rfl (by decide) rfl rfl rfl ?_ | refine sp_push rfl rfl rfl rfl rfl rfl rfl (by first | exact ints_len _ | exact prs_len _ _ | exact zints_len _) (by omega) (Nat.zero_le _) rfl rfl rfl rfl rfl ?_)
        | (refine g_ops ?_; first | refine eo_none ?_ | refine eo_nil ?_)
        | (refine g_code ?_; first | refine ec_seq ?_ | refine ec_region ?_ | refine ec_block ?_ | refine ec_skip ?_ | refine ec_exit ?_ | refine ec_condT rfl ?_ | refine ec_condF rfl ?_ | refine ec_condTH rfl (by assumption) ?_ | refine ec_condFH rfl (by assumption) ?_)
        | refine ek_seqN ?_ | refine ek_seqX ?_ | refine ek_blkN ?_ | refine ek_blkR ?_ | refine ek_blkX ?_ | refine ek_blkY rfl ?_)
      exact rnd_out (by rfl) (by simp) (scmp2 (by rfl) (by rfl) (by exact ⟨rfl, rfl, rfl⟩) (by rfl) (by first | rfl | (simp; done) | (simp [ints, prs]; done)) (by rfl) (by first | rfl | (simp; done) | (simp [ints, prs]; done)))
    | cons x xs =>
      unfold m59_0
      repeat' (first
        | (refine g_op ?_; first
          | refine ep_mov rfl ?_ | refine sp_loadN rfl rfl rfl rfl rfl ?_
          | refine sp_callv rfl rfl rfl rfl rfl rfl (by first | exact e1) ⟨rfl, rfl, rfl, rfl⟩ rfl rfl rfl ?_
          | refine sp_callb rfl rfl rfl rfl rfl rfl (by first | exact e1) ⟨rfl, rfl, rfl, rfl⟩ rfl rfl rfl ?_
          | refine ep_bin rfl rfl (by first | exact b_add (by omega) (by omega) | exact b_lss) ?_ | refine sp_store rfl rfl rfl rfl rfl rfl rfl rfl rfl rfl ?_ | refine sp_alloc rfl rfl ?_ | refine sp_build rfl rfl ?_
          | refine sp_bslice rfl rfl rfl rfl rfl ?_ | refine sp_push0 rfl (by first | exact .inl rfl | exact .inr rfl) rfl rfl rfl rfl rfl (by decide) rfl rfl rfl ?_ | refine sp_push rfl rfl rfl rfl rfl rfl rfl (by first | exact ints_len _ | exact prs_len _ _ | exact zints_len _) (by omega) (Nat.zero_le _) rfl rfl rfl rfl rfl ?_)
        | (refine g_ops ?_; first | refine eo_none ?_ | refine eo_nil ?_)
        | (refine g_code ?_; first | refine ec_seq ?_ | refine ec_region ?_ | refine ec_block ?_ | refine ec_skip ?_ | refine ec_exit ?_ | refine ec_condT rfl ?_ | refine ec_condF rfl ?_ | refine ec_condTH rfl (by assumption) ?_ | refine ec_condFH rfl (by assumption) ?_)
        | refine ek_seqN ?_ | refine ek_seqX ?_ | refine ek_blkN ?_ | refine ek_blkR ?_ | refine ek_blkX ?_ | refine ek_blkY rfl ?_)
      exact rnd_out (by rfl) (by simp) (scmp2 (by rfl) (by rfl) (by exact ⟨rfl, rfl, rfl⟩) (by rfl) (by first | rfl | (simp; done) | (simp [ints, prs]; done)) (by rfl) (by first | rfl | (simp; done) | (simp [ints, prs]; done)))

theorem evft_th (n : Nat) (hn : n ≤ 4) : Ev cx 59 [.int .i64 n, .fn 60 []] [] (slV .nils 0 (thL n)) (slH 0 2 (prs n) (thL n)) := by
  cases hs : thL n with
  | nil =>
    have lp := lpft_th n hn _ (by rw [show selm (thB n) idn (R2 (R2 n)) = _ from hs])
    refine has59.eev rfl rfl ?_
    unfold m59
    repeat' (first
      | refine sc_loop lp rfl rfl ⟨rfl, rfl, rfl⟩ rfl rfl rfl ?_
      | (refine g_op ?_; first
        | refine ep_mov rfl ?_
        | refine ep_call0 rfl (by first | exact ev64 _ hn) rfl rfl ?_
        | refine sp_call rfl rfl rfl rfl (by first | exact ev64 _ hn) ⟨rfl, rfl, rfl, rfl⟩ rfl rfl rfl ?_)
      | (refine g_ops ?_; first | refine eo_none ?_ | refine eo_nil ?_)
      | (refine g_code ?_; first | refine ec_seq ?_ | refine ec_region ?_ | refine ec_block ?_ | refine ec_ret ?_)
      | refine ek_seqN ?_ | refine ek_seqX ?_ | refine ek_seqR ?_ | refine ek_blkN ?_ | refine ek_blkR ?_ | refine ek_blkX ?_ | refine ek_blkY rfl ?_)
    refine sfin (.inr rfl) (by rfl) (by rfl) (by exact ⟨rfl, rfl, rfl⟩) (by rfl) (by rfl) (by rfl) (by first | rfl | (simp; done) | (simp [ints, prs]; done))
  | cons x xs =>
    have lp := lpft_th n hn _ (by rw [show selm (thB n) idn (R2 (R2 n)) = _ from hs])
    refine has59.eev rfl rfl ?_
    unfold m59
    repeat' (first
      | refine sc_loop lp rfl rfl ⟨rfl, rfl, rfl⟩ rfl rfl rfl ?_
      | (refine g_op ?_; first
        | refine ep_mov rfl ?_
        | refine ep_call0 rfl (by first | exact ev64 _ hn) rfl rfl ?_
        | refine sp_call rfl rfl rfl rfl (by first | exact ev64 _ hn) ⟨rfl, rfl, rfl, rfl⟩ rfl rfl rfl ?_)
      | (refine g_ops ?_; first | refine eo_none ?_ | refine eo_nil ?_)
      | (refine g_code ?_; first | refine ec_seq ?_ | refine ec_region ?_ | refine ec_block ?_ | refine ec_ret ?_)
      | refine ek_seqN ?_ | refine ek_seqX ?_ | refine ek_seqR ?_ | refine ek_blkN ?_ | refine ek_blkR ?_ | refine ek_blkX ?_ | refine ek_blkY rfl ?_)
    refine sfin (.inr rfl) (by rfl) (by rfl) (by exact ⟨rfl, rfl, rfl⟩) (by rfl) (by rfl) (by rfl) (by first | rfl | (simp; done) | (simp [ints, prs]; done))
-- impl.CountThreshold
def m24 : MC := (.seq (.region [⟨(.mov (.k (.int .i64 0))), (some 2), none⟩, ⟨(.mov (.k (.int .i64 0))), (some 3), none⟩] false) (.seq (.seq (.region [⟨(.mov (.t 0)), (some 4), none⟩, ⟨(.call 36 [(.t 4), (.k (.int .i64 0)), (.k (.int .i64 3))]), (some 5), none⟩, ⟨(.un .not (.t 5)), (some 6), none⟩] false) (.cond (.t 6) (.seq (.region [⟨(.mov (.k (.int .i64 0))), (some 2), none⟩, ⟨(.mov (.k (.int .i64 2))), (some 3), none⟩] false) .ret) .skip)) (.seq (.region [⟨(.mov (.t 0)), (some 7), none⟩, ⟨(.call 59 [(.t 7), (.k (.fn 60 []))]), (some 8), none⟩, ⟨(.len (.t 8)), (some 9), none⟩, ⟨(.mov (.t 9)), (some 2), none⟩, ⟨(.mov (.k (.int .i64 0))), (some 3), none⟩] false) .ret)))
theorem has24 : Has cx 24 10 m24 [(.tmp 2), (.tmp 3)] :=
  ⟨⟨Try.f24, Try.f24.body.getD .skip, by kernel_rfl, by kernel_rfl, by kernel_rfl, by kernel_rfl, by kernel_rfl, by kernel_rfl⟩⟩
theorem ev24 (z : Int) : Ev cx 24 [.int .i64 z] [] (.tup [.int .i64 (thC z).1, .int .i64 (thC z).2]) [] := by
  have e1 := ev36 z 0 3
  by_cases h : 0 ≤ z ∧ z ≤ 3
  · rw [decide_eq_true h] at e1
    obtain ⟨n, rfl⟩ := Int.eq_ofNat_of_zero_le h.1
    have e2 := evft_th n (by omega)
    rw [show thC (n : Int) = ((((thL n).length : Nat) : Int), 0) by rw [thC, if_pos h]; rfl]
    cases hs : thL n with
    | nil =>
      rw [hs] at e2
      refine has24.eev rfl rfl ?_
      unfold m24
      repeat' (first
        | (refine g_op ?_; first
          | refine ep_mov rfl ?_
          | refine ep_call0 rfl (by first | exact e1 | exact e2) rfl rfl ?_
          | refine sp_call rfl rfl rfl rfl (by first | exact e1 | exact e2) ⟨rfl, rfl, rfl, rfl⟩ rfl rfl rfl ?_
          | refine ep_not rfl ?_ | refine ep_lenS rfl ?_ | refine ep_lenN rfl ?_ | refine ep_lenE rfl ?_)
        | (refine g_ops ?_; first | refine eo_none ?_ | refine eo_nil ?_)
        | (refine g_code ?_; first | refine ec_seq ?_ | refine ec_region ?_ | refine ec_skip ?_ | refine ec_ret ?_ | refine ec_condT rfl ?_ | refine ec_condF rfl ?_ | refine ec_condTH rfl (by assumption) ?_ | refine ec_condFH rfl (by assumption) ?_)
        | refine ek_seqN ?_ | refine ek_seqR ?_)
      refine sfin (.inr rfl) (by rfl) (by rfl) (by exact ⟨rfl, rfl, rfl⟩) (by rfl) (by rfl) (by rfl) (by first | rfl | (simp; done) | (simp [ints, prs]; done))
    | cons x xs =>
      rw [hs] at e2
      refine has24.eev rfl rfl ?_
      unfold m24
      repeat' (first
        | (refine g_op ?_; first
          | refine ep_mov rfl ?_
          | refine ep_call0 rfl (by first | exact e1 | exact e2) rfl rfl ?_
          | refine sp_call rfl rfl rfl rfl (by first | exact e1 | exact e2) ⟨rfl, rfl, rfl, rfl⟩ rfl rfl rfl ?_
          | refine ep_not rfl ?_ | refine ep_lenS rfl ?_ | refine ep_lenN rfl ?_ | refine ep_lenE rfl ?_)
        | (refine g_ops ?_; first | refine eo_none ?_ | refine eo_nil ?_)
        | (refine g_code ?_; first | refine ec_seq ?_ | refine ec_region ?_ | refine ec_skip ?_ | refine ec_ret ?_ | refine ec_condT rfl ?_ | refine ec_condF rfl ?_ | refine ec_condTH rfl (by assumption) ?_ | refine ec_condFH rfl (by assumption) ?_)
        | refine ek_seqN ?_ | refine ek_seqR ?_)
      refine sfin (.inr rfl) (by rfl) (by rfl) (by exact ⟨rfl, rfl, rfl⟩) (by rfl) (by rfl) (by rfl) (by first | rfl | (simp; done) | (simp [ints, prs]; done))
  · rw [decide_eq_false h] at e1
    rw [show thC z = (0, 2) by rw [thC, if_neg h]]
    refine has24.eev rfl rfl ?_
    unfold m24
    repeat' (first
      | (refine g_op ?_; first
        | refine ep_mov rfl ?_
        | refine ep_call0 rfl (by first | exact e1) rfl rfl ?_
        | refine sp_call rfl rfl rfl rfl (by first | exact e1) ⟨rfl, rfl, rfl, rfl⟩ rfl rfl rfl ?_
        | refine ep_not rfl ?_ | refine ep_lenS rfl ?_ | refine ep_lenN rfl ?_ | refine ep_lenE rfl ?_)
      | (refine g_ops ?_; first | refine eo_none ?_ | refine eo_nil ?_)
      | (refine g_code ?_; first | refine ec_seq ?_ | refine ec_region ?_ | refine ec_skip ?_ | refine ec_ret ?_ | refine ec_condT rfl ?_ | refine ec_condF rfl ?_ | refine ec_condTH rfl (by assumption) ?_ | refine ec_condFH rfl (by assumption) ?_)
      | refine ek_seqN ?_ | refine ek_seqR ?_)
    refine sfin (.inr rfl) (by rfl) (by rfl) (by exact ⟨rfl, rfl, rfl⟩) (by rfl) (by rfl) (by rfl) (by first | rfl | (simp; done) | (simp [ints, prs]; done))
-- spec.CountThreshold
def m25_0 : MC := (.seq (.seq (.region [⟨(.mov (.t 5)), (some 12), none⟩, ⟨(.mov (.t 0)), (some 13), none⟩, ⟨(.call 61 [(.t 13)]), (some 14), none⟩, ⟨(.bin .leq (.t 12) (.t 14)), (some 15), none⟩] false) (.cond (.t 15) .skip (.exit 0))) (.seq (.block 1 (.seq (.region [⟨(.mov (.t 0)), (some 19), none⟩, ⟨(.mov (.t 5)), (some 20), none⟩, ⟨(.build [(.int .i64 0), (.int .i64 0)] [(0, (1, (.t 19))), (1, (1, (.t 20)))]), (some 21), none⟩, ⟨(.call 30 [(.t 21)]), (some 22), none⟩, ⟨(.mov (.t 22)), (some 18), none⟩, ⟨(.extract (.t 18) 0), (some 23), none⟩, ⟨(.extract (.t 18) 1), (some 24), none⟩, ⟨(.extract (.t 18) 2), (some 25), none⟩, ⟨(.mov (.t 23)), (some 6), none⟩, ⟨(.mov (.t 24)), (some 7), none⟩, ⟨(.mov (.t 25)), (some 8), none⟩] false) (.seq (.region [⟨(.mov (.t 8)), (some 26), none⟩] false) (.cond (.t 26) (.region [⟨(.mov (.t 4)), (some 27), none⟩, ⟨(.bin .add (.t 27) (.k (.int .i64 1))), (some 28), none⟩, ⟨(.mov (.t 28)), (some 4), none⟩] false) .skip)))) (.region [⟨(.mov (.t 5)), (some 16), none⟩, ⟨(.bin .add (.t 16) (.k (.int .i64 1))), (some 17), none⟩, ⟨(.mov (.t 17)), (some 5), none⟩] false)))
def m25 : MC := (.seq (.region [⟨(.mov (.k (.int .i64 0))), (some 2), none⟩, ⟨(.mov (.k (.int .i64 0))), (some 3), none⟩] false) (.seq (.seq (.region [⟨(.mov (.t 0)), (some 9), none⟩, ⟨(.call 43 [(.t 9), (.k (.int .i64 0)), (.k (.int .i64 3))]), (some 10), none⟩, ⟨(.un .not (.t 10)), (some 11), none⟩] false) (.cond (.t 11) (.seq (.region [⟨(.mov (.k (.int .i64 0))), (some 2), none⟩, ⟨(.mov (.k (.int .i64 2))), (some 3), none⟩] false) .ret) .skip)) (.seq (.region [⟨(.mov (.k (.int .i64 0))), (some 4), none⟩] false) (.seq (.seq (.region [⟨(.mov (.k (.int .i64 0))), (some 5), none⟩] false) (.block 0 (.loop m25_0))) (.seq (.region [⟨(.mov (.t 4)), (some 29), none⟩, ⟨(.mov (.t 29)), (some 2), none⟩, ⟨(.mov (.k (.int .i64 0))), (some 3), none⟩] false) .ret)))))
theorem has25 : Has cx 25 30 m25 [(.tmp 2), (.tmp 3)] :=
  ⟨⟨Try.f25, Try.f25.body.getD .skip, by kernel_rfl, by kernel_rfl, by kernel_rfl, by kernel_rfl, by kernel_rfl, by kernel_rfl⟩⟩
theorem lp25_0 (n : Nat) (hn : n ≤ 3) :
    LpS cx 30 0 m25_0 [(0, .int .i64 (n : Nat)), (4, .int .i64 (0 : Nat)), (5, .int .i64 (0 : Nat))] [] (.exit 0) [(4, .int .i64 ((thL n).length : Nat))] [] := by
  obtain ⟨h1, h2, h3, h4⟩ := shN (show n ≤ 4 by omega)
  refine lp_st (R2 (R2 n)) (fun i => (selm (thB n) idn i).length) (fun i c => [(0, .int .i64 (n : Nat)), (4, .int .i64 (c : Nat)), (5, .int .i64 (i : Nat))]) (fun i _ => []) (fun c => ⟨.exit 0, [(4, .int .i64 (c : Nat))], []⟩) ?_ ?_ (R2 (R2 n)) 0 (by omega)
  · intro i c hi hc
    have hle : decide ((i : Int) ≤ (R2 (R2 n) : Nat) - 1) = true := decide_eq_true (by omega)
    have hcl : c ≤ 65536 := by have := selm_len (thB n) idn i; omega
    cases hr : wRes n i with
    | none =>
      refine ⟨c, by rw [selm_f (p := thB n) (by rw [thB, hr]; rfl)]; exact hc, ?_⟩
      have e1 := ev30_none n i (by omega) (by omega) hr
      unfold m25_0
      repeat' (first
        | (refine g_op ?_; first
          | refine ep_mov rfl ?_
          | refine ep_call0 rfl (by first | exact e1 | exact ev61 _ (by omega)) rfl rfl ?_
          | refine sp_call rfl rfl rfl rfl (by first | exact e1 | exact ev61 _ (by omega)) ⟨rfl, rfl, rfl, rfl⟩ rfl rfl rfl ?_
          | refine ep_bin rfl rfl (by first | exact b_add (by omega) (by omega) | exact b_leq) ?_ | refine ep_extract rfl rfl ?_ | refine sp_build rfl rfl ?_)
        | (refine g_ops ?_; first | refine eo_none ?_ | refine eo_nil ?_)
        | (refine g_code ?_; first | refine ec_seq ?_ | refine ec_region ?_ | refine ec_block ?_ | refine ec_skip ?_ | refine ec_exit ?_ | refine ec_condT rfl ?_ | refine ec_condF rfl ?_ | refine ec_condTH rfl (by assumption) ?_ | refine ec_condFH rfl (by assumption) ?_)
        | refine ek_seqN ?_ | refine ek_seqX ?_ | refine ek_blkN ?_ | refine ek_blkR ?_ | refine ek_blkX ?_ | refine ek_blkY rfl ?_)
      exact rnd_on (by rfl) (scmp2 (by rfl) (by rfl) (by exact ⟨rfl, rfl, rfl⟩) (by rfl) (by first | rfl | (simp; done) | (simp [ints, prs]; done)) (by rfl) (by first | rfl | (simp; done) | (simp [ints, prs]; done)))
    | some l =>
      refine ⟨c + 1, by rw [selm_t (p := thB n) (by rw [thB, hr]; rfl), List.length_append]; simp [hc], ?_⟩
      have e1 := ev30_some n i (by omega) (by omega) l hr
      generalize wT n i = T at *
      cases l with
      | nil =>
        unfold m25_0
        repeat' (first
          | (refine g_op ?_; first
            | refine ep_mov rfl ?_
            | refine ep_call0 rfl (by first | exact e1 | exact ev61 _ (by omega)) rfl rfl ?_
            | refine sp_call rfl rfl rfl rfl (by first | exact e1 | exact ev61 _ (by omega)) ⟨rfl, rfl, rfl, rfl⟩ rfl rfl rfl ?_
            | refine ep_bin rfl rfl (by first | exact b_add (by omega) (by omega) | exact b_leq) ?_ | refine ep_extract rfl rfl ?_ | refine sp_build rfl rfl ?_)
          | (refine g_ops ?_; first | refine eo_none ?_ | refine eo_nil ?_)
          | (refine g_code ?_; first | refine ec_seq ?_ | refine ec_region ?_ | refine ec_block ?_ | refine ec_skip ?_ | refine ec_exit ?_ | refine ec_condT rfl ?_ | refine ec_condF rfl ?_ | refine ec_condTH rfl (by assumption) ?_ | refine ec_condFH rfl (by assumption) ?_)
          | refine ek_seqN ?_ | refine ek_seqX ?_ | refine ek_blkN ?_ | refine ek_blkR ?_ | refine ek_blkX ?_ | refine ek_blkY rfl ?_)
        exact rnd_on (by rfl) (scmp2 (by rfl) (by rfl) (by exact ⟨rfl, rfl, rfl⟩) (by rfl) (by first | rfl | (simp; done) | (simp [ints, prs]; done)) (by rfl) (by first | rfl | (simp; done) | (simp [ints, prs]; done)))
      | cons x xs =>
        unfold m25_0
        repeat' (first
          | (refine g_op ?_; first
            | refine ep_mov rfl ?_
            | refine ep_call0 rfl (by first | exact e1 | exact ev61 _ (by omega)) rfl rfl ?_
            | refine sp_call rfl rfl rfl rfl (by first | exact e1 | exact ev61 _ (by omega)) ⟨rfl, rfl, rfl, rfl⟩ rfl rfl rfl ?_
            | refine ep_bin rfl rfl (by first | exact b_add (by omega) (by omega) | exact b_leq) ?_ | refine ep_extract rfl rfl ?_ | refine sp_build rfl rfl ?_)
          | (refine g_ops ?_; first | refine eo_none ?_ | refine eo_nil ?_)
          | (refine g_code ?_; first | refine ec_seq ?_ | refine ec_region ?_ | refine ec_block ?_ | refine ec_skip ?_ | refine ec_exit ?_ | refine ec_condT rfl ?_ | refine ec_condF rfl ?_ | refine ec_condTH rfl (by assumption) ?_ | refine ec_condFH rfl (by assumption) ?_)
          | refine ek_seqN ?_ | refine ek_seqX ?_ | refine ek_blkN ?_ | refine ek_blkR ?_ | refine ek_blkX ?_ | refine ek_blkY rfl ?_)
        exact rnd_on (by rfl) (scmp2 (by rfl) (by rfl) (by exact ⟨rfl, rfl, rfl⟩) (by rfl) (by first | rfl | (simp; done) | (simp [ints, prs]; done)) (by rfl) (by first | rfl | (simp; done) | (simp [ints, prs]; done)))
  · intro c hc
    have hle : decide (((R2 (R2 n) : Nat) : Int) ≤ (R2 (R2 n) : Nat) - 1) = false := decide_eq_false (by omega)
    unfold m25_0
    repeat' (first
      | (refine g_op ?_; first
        | refine ep_mov rfl ?_
        | refine ep_call0 rfl (by first | exact ev61 _ (by omega)) rfl rfl ?_
        | refine sp_call rfl rfl rfl rfl (by first | exact ev61 _ (by omega)) ⟨rfl, rfl, rfl, rfl⟩ rfl rfl rfl ?_
        | refine ep_bin rfl rfl (by first | exact b_add (by omega) (by omega) | exact b_leq) ?_ | refine ep_extract rfl rfl ?_ | refine sp_build rfl rfl ?_)
      | (refine g_ops ?_; first | refine eo_none ?_ | refine eo_nil ?_)
      | (refine g_code ?_; first | refine ec_seq ?_ | refine ec_region ?_ | refine ec_block ?_ | refine ec_skip ?_ | refine ec_exit ?_ | refine ec_condT rfl ?_ | refine ec_condF rfl ?_ | refine ec_condTH rfl (by assumption) ?_ | refine ec_condFH rfl (by assumption) ?_)
      | refine ek_seqN ?_ | refine ek_seqX ?_ | refine ek_blkN ?_ | refine ek_blkR ?_ | refine ek_blkX ?_ | refine ek_blkY rfl ?_)
    exact rnd_out (by rfl) (by simp) (scmp2 (by rfl) (by rfl) (by exact ⟨rfl, rfl, rfl⟩) (by rfl) (by first | rfl | (simp; done) | (simp [ints, prs]; done)) (by rfl) (by first | rfl | (simp; done) | (simp [ints, prs]; done)))
theorem ev25 (z : Int) : Ev cx 25 [.int .i64 z] [] (.tup [.int .i64 (thC z).1, .int .i64 (thC z).2]) [] := by
  have e1 := ev43 z 0 3
  by_cases h : 0 ≤ z ∧ z ≤ 3
  · rw [decide_eq_true h] at e1
    obtain ⟨n, rfl⟩ := Int.eq_ofNat_of_zero_le h.1
    have lp := lp25_0 n (by omega)
    rw [show thC (n : Int) = ((((thL n).length : Nat) : Int), 0) by rw [thC, if_pos h]; rfl]
    generalize (thL n).length = K at *
    refine has25.eev rfl rfl ?_
    unfold m25
    repeat' (first
      | refine sc_loop lp rfl rfl ⟨rfl, rfl, rfl⟩ rfl rfl rfl ?_
      | (refine g_op ?_; first
        | refine ep_mov rfl ?_
        | refine ep_call0 rfl (by first | exact e1) rfl rfl ?_
        | refine sp_call rfl rfl rfl rfl (by first | exact e1) ⟨rfl, rfl, rfl, rfl⟩ rfl rfl rfl ?_
        | refine ep_not rfl ?_)
      | (refine g_ops ?_; first | refine eo_none ?_ | refine eo_nil ?_)
      | (refine g_code ?_; first | refine ec_seq ?_ | refine ec_region ?_ | refine ec_block ?_ | refine ec_skip ?_ | refine ec_ret ?_ | refine ec_condT rfl ?_ | refine ec_condF rfl ?_ | refine ec_condTH rfl (by assumption) ?_ | refine ec_condFH rfl (by assumption) ?_)
      | refine ek_seqN ?_ | refine ek_seqX ?_ | refine ek_seqR ?_ | refine ek_blkN ?_ | refine ek_blkR ?_ | refine ek_blkX ?_ | refine ek_blkY rfl ?_)
    refine sfin (.inr rfl) (by rfl) (by rfl) (by exact ⟨rfl, rfl, rfl⟩) (by rfl) (by rfl) (by rfl) (by first | rfl | (simp; done) | (simp [ints, prs]; done))
  · rw [decide_eq_false h] at e1
    rw [show thC z = (0, 2) by rw [thC, if_neg h]]
    refine has25.eev rfl rfl ?_
    unfold m25
    repeat' (first
      | (refine g_op ?_; first
        | refine ep_mov rfl ?_
        | refine ep_call0 rfl (by first | exact e1) rfl rfl ?_
        | refine sp_call rfl rfl rfl rfl (by first | exact e1) ⟨rfl, rfl, rfl, rfl⟩ rfl rfl rfl ?_
        | refine ep_not rfl ?_)
      | (refine g_ops ?_; first | refine eo_none ?_ | refine eo_nil ?_)
      | (refine g_code ?_; first | refine ec_seq ?_ | refine ec_region ?_ | refine ec_block ?_ | refine ec_skip ?_ | refine ec_ret ?_ | refine ec_condT rfl ?_ | refine ec_condF rfl ?_ | refine ec_condTH rfl (by assumption) ?_ | refine ec_condFH rfl (by assumption) ?_)
      | refine ek_seqN ?_ | refine ek_seqX ?_ | refine ek_seqR ?_ | refine ek_blkN ?_ | refine ek_blkR ?_ | refine ek_blkX ?_ | refine ek_blkY rfl ?_)
    refine sfin (.inr rfl) (by rfl) (by rfl) (by exact ⟨rfl, rfl, rfl⟩) (by rfl) (by rfl) (by rfl) (by first | rfl | (simp; done) | (simp [ints, prs]; done))
section
open Go.RowKit
/-- A block that reads as L. -/
def RdB (w : World) (g cp : Nat) (L : List Int) : Prop := ∃ (cs : Array Value) (el : TypeId), w.heap[g]? = some (.cells cs el (0, 0)) ∧ L.length ≤ cp ∧ cp ≤ cs.size ∧ ∀ i, i < L.length → cs[i]? = some (.int .i64 (L.getD i 0))
/-- A slice that reads as L, in a block from b0 on. -/
def RdV (w : World) (b0 : Nat) (v : Value) (L : List Int) : Prop := (L = [] ∧ ∃ o, v = .slice o 0 0) ∨ ∃ g cp, v = .slice (some ⟨g, 0, none⟩) L.length cp ∧ b0 ≤ g ∧ RdB w g cp L
theorem RdB.kept {w w' : World} {g cp : Nat} {L : List Int} {row : Option Nat} (h : RdB w g cp L) (hg : w.grownBy w' row) (hr : some g ≠ row) : RdB w' g cp L := by
  obtain ⟨cs, el, h1, h2⟩ := h
  exact ⟨cs, el, blk_fr' h1 hg hr, h2⟩
theorem RdB.cell {w : World} {g cp : Nat} {L : List Int} (h : RdB w g cp L) {i : Nat} (hi : i < L.length) : w.cell? ⟨g, i, none⟩ = some (.int .i64 (L.getD i 0)) := by
  obtain ⟨cs, el, h1, _, _, h4⟩ := h
  exact cell_blk h1 (h4 i hi)
theorem RdV.kept {w w' : World} {b0 : Nat} {v : Value} {L : List Int} (h : RdV w b0 v L) (hg : w.grownBy w' none) : RdV w' b0 v L := by
  rcases h with h | ⟨g, cp, h1, h2, h3⟩
  · exact .inl h
  · exact .inr ⟨g, cp, h1, h2, h3.kept hg (by simp)⟩
theorem inv00g {ρ : Nat → Nat} (W : World) : Inv ρ (Rcall mp0 [] W) mp0 (fun i => i < ([] : Heap).length) [] W :=
  ⟨fun i b hi => absurd hi (by simp), fun i hi => absurd hi (by simp), fun i j bi bj hi => absurd hi (by simp), fun i b p hi => absurd hi (by simp), fun i b hi => absurd hi (by simp), fun i b hi => absurd hi (by simp), fun r hr o => .inl hr,
    fun i b hi => absurd hi (by simp), fun i b hi => absurd hi (by simp)⟩
theorem keep_grown {W w' : World} (h : Keep (Rcall mp0 [] W) W w') : W.grownBy w' none :=
  ⟨h.os, h.tape, h.output, h.size, fun k hk _ => same_eq (h.blk k hk) fun o ho => by
    rcases ho with ho | ⟨i, b, p, hb, _⟩
    · omega
    · simp at hb⟩
theorem vr_flat {ρ : Nat → Nat} {m : Mp} {r : V} {u : Value} (hr : r.ids = []) (h : VR ρ m r u) : VR ρ mp0 r u := VR.agree (fun i hi => by rw [hr] at hi; simp at hi) h
/-- A function without memory among its arguments and results, in the kit's words. -/
theorem Ev.callF {C : Cx} {f : Nat} {args : List V} {vs : List Value} {r : V} (h : Ev C f args [] r []) (hv : VRL C.ρ mp0 args vs) (hid : V.idsL args = []) (hr : r.ids = []) (W : World) :
    Calls C.P (C.ρ f) vs.toArray W fun e w' => ∃ u, e = .returned u ∧ VR C.ρ mp0 r u ∧ W.grownBy w' none := by
  refine (h.2 mp0 W vs (inv00g W) hv (by rw [hid]; simp)).mono fun e w' he => ?_
  obtain ⟨u, m', rfl, hq⟩ := he
  exact ⟨u, rfl, vr_flat hr hq.rel, keep_grown hq.keep⟩
/-- .. with a list of its own making as its first result. -/
theorem Ev.callL {C : Cx} {f : Nat} {args : List V} {vs : List Value} {rs : List V} {n : Nat} {c : List Int} (h : Ev C f args [] (.tup (.sl 0 0 n :: rs)) [⟨zints c, 1, 0, some 0, false⟩]) (hn : n ≤ c.length) (hv : VRL C.ρ mp0 args vs) (hid : V.idsL args = []) (hr : V.idsL rs = []) (W : World) :
    Calls C.P (C.ρ f) vs.toArray W fun e w' => ∃ (v : Value) (us : List Value), e = .returned (.tuple (v :: us).toArray) ∧ VRL C.ρ mp0 rs us ∧ RdV w' W.heap.size v (c.take n) ∧ W.grownBy w' none := by
  refine (h.2 mp0 W vs (inv00g W) hv (by rw [hid]; simp)).mono fun e w' he => ?_
  obtain ⟨u, m', rfl, hq⟩ := he
  have hu := hq.rel
  simp only [VR, VRL] at hu
  obtain ⟨cs, rfl, v, us, hcs, hsl, hus⟩ := hu
  refine ⟨v, us, ?_, VRL.agree (fun i hi => by rw [hr] at hi; simp at hi) hus, ?_, keep_grown hq.keep⟩
  · rw [← hcs]
  · obtain ⟨cells, el, fz, hh, hsz, hes, hle, hget, hfz⟩ := hq.inv.blk 0 _ (by simp) rfl
    have hfz0 := hfz rfl
    subst hfz0
    have hrt := hq.inv.rts 0 _ 0 (by simp) rfl rfl 0 (Nat.le_refl _)
    have hlen : (c.take n).length = n := by rw [List.length_take]; omega
    rcases hsl with ⟨cp, rfl, h1, h2⟩ | ⟨h1, a, rfl⟩
    · right
      refine ⟨m'.b 0, cp, by rw [hlen], ?_, cells, el, hh, by rw [hlen]; exact h1, by rw [hes] at h2; simp only at h2; omega, fun i hi => ?_⟩
      · rcases hrt with h | ⟨i, b, p, hb, _⟩
        · exact h
        · simp at hb
      · rw [hlen] at hi
        obtain ⟨u, hu1, hu2⟩ := hget i (.int .i64 (c.getD i 0)) (by have := zints_get (l := c) (j := i) (by omega); simpa using this)
        simp only [VR] at hu2
        subst hu2
        rw [hu1]
        simp [List.getD_eq_getElem?_getD, List.getElem?_take, hi]
    · left
      exact ⟨List.eq_nil_of_length_eq_zero (by rw [hlen]; exact h1), _, rfl⟩
/-- A list is handed in, and stays. -/
theorem Ev.callA {C : Cx} {f : Nat} {args : List V} {vs : List Value} {r : V} {c : List Int} {g cp : Nat} (h : Ev C f args [⟨zints c, 1, 0, some 0, false⟩] r [⟨zints c, 1, 0, some 0, false⟩]) (W : World) (hb : RdB W g cp c)
    (hv : ∀ sz, cp ≤ sz → VRL C.ρ ⟨fun _ => g, fun _ => sz, fun _ => 1⟩ args vs) (hid : ∀ i ∈ V.idsL args, i < 1) (hr : r.ids = []) :
    Calls C.P (C.ρ f) vs.toArray W fun e w' => ∃ u, e = .returned u ∧ VR C.ρ mp0 r u ∧ RdB w' g cp c ∧ W.grownBy w' (some g) := by
  obtain ⟨cs, el, h1, h2, h3, h4⟩ := hb
  have hl : ([⟨zints c, 1, 0, some 0, false⟩] : Heap).length = 1 := rfl
  have one : ∀ (i : Nat) (b : Blk), i < 1 → [(⟨zints c, 1, 0, some 0, false⟩ : Blk)][i]? = some b → i = 0 ∧ b = ⟨zints c, 1, 0, some 0, false⟩ := fun i b hi hb => by
    obtain rfl : i = 0 := by omega
    simp at hb; exact ⟨rfl, hb.symm⟩
  have hatom : (zints c).all V.atom = true := by simp [zints, V.atom]
  have hids : V.idsL (zints c) = [] := by
    clear h one h2 h3 h4 hatom hr hv hl
    induction c with
    | nil => rfl
    | cons x xs ih =>
      show V.idsL (.int .i64 x :: zints xs) = []
      simp only [V.idsL, V.ids, List.nil_append]; exact ih
  have hI : Inv C.ρ (Rcall ⟨fun _ => g, fun _ => cs.size, fun _ => 1⟩ [⟨zints c, 1, 0, some 0, false⟩] W) ⟨fun _ => g, fun _ => cs.size, fun _ => 1⟩ (fun i => i < ([⟨zints c, 1, 0, some 0, false⟩] : Heap).length) [⟨zints c, 1, 0, some 0, false⟩] W := by
    refine ⟨?_, ?_, ?_, ?_, ?_, ?_, ?_, ?_, ?_⟩
    · intro i b hi hb
      obtain ⟨rfl, rfl⟩ := one i b hi hb
      refine ⟨cs, el, (0, 0), h1, rfl, rfl, by rw [zints_len]; omega, fun j v hj => ?_, fun _ => rfl⟩
      have hj1 : j < c.length := by
        have := (List.getElem?_eq_some_iff.mp hj).1
        rwa [zints_len, Nat.mul_one] at this
      have hz := zints_get (l := c) (j := j) hj1
      rw [show 0 + j * 1 = j by omega, hj] at hz
      obtain rfl := Option.some.inj hz
      exact ⟨_, h4 j hj1, by simp only [VR]⟩
    · intro i hi
      obtain rfl : i = 0 := by simp at hi; omega
      exact ⟨_, rfl⟩
    · intro i j bi bj hi hj hbi hbj _
      obtain ⟨_, rfl⟩ := one i bi hi hbi
      obtain ⟨_, rfl⟩ := one j bj hj hbj
      rfl
    · intro i b p hi hb hp o ho
      obtain ⟨rfl, rfl⟩ := one i b hi hb
      exact .inr ⟨0, _, p, rfl, hp, rfl, ho⟩
    · intro i b hi hb _
      obtain ⟨rfl, rfl⟩ := one i b hi hb
      exact hids
    · intro i b hi hb j hj
      obtain ⟨rfl, rfl⟩ := one i b hi hb
      rw [hids] at hj; simp at hj
    · exact fun r hr o => .inl hr
    · intro i b hi hb
      obtain ⟨rfl, rfl⟩ := one i b hi hb
      simp
    · intro i b hi hb _
      obtain ⟨rfl, rfl⟩ := one i b hi hb
      exact hatom
  refine (h.2 _ W vs hI (hv _ h3) (by simpa using hid)).mono fun e w' he => ?_
  obtain ⟨u, m', rfl, hq⟩ := he
  have hs := hq.same 0 (by simp)
  have hg' : m'.b 0 = g := hs.1
  obtain ⟨cells, el', fz, hh, hsz, hes, hle, hget, hfz⟩ := hq.inv.blk 0 _ (by simp) rfl
  have hfz0 := hfz rfl
  subst hfz0
  rw [hg'] at hh
  have hszz : cells.size = cs.size := by rw [hsz, hs.2.1]
  refine ⟨u, rfl, vr_flat hr hq.rel, ⟨cells, el', hh, h2, by omega, fun i hi => ?_⟩, hq.keep.os, hq.keep.tape, hq.keep.output, hq.keep.size, fun k hk hne => same_eq (hq.keep.blk k hk) fun o ho => ?_⟩
  · obtain ⟨u, hu1, hu2⟩ := hget i (.int .i64 (c.getD i 0)) (by have := zints_get (l := c) (j := i) hi; simpa using this)
    simp only [VR] at hu2
    subst hu2; exact hu1
  · rcases ho with ho | ⟨i, b, p, hb, _, hgk, _⟩
    · omega
    · exact hne (by rw [← hgk])
end

section
open Go.RowKit Go.IntWalk
def Src (w : World) (sb : Nat) : Prop := ∃ (oc : Option Addr) (n cc a : Nat) (h : Int), w.heap[sb]? = some (.cells #[.slice oc n cc, .int .i64 a, .int .u64 h] 86 (0, 0)) ∧ n ≤ 4096 ∧ a ≤ n ∧ (0 < n → ∃ g o : Nat, oc = some ⟨g, o, none⟩ ∧ g < sb ∧ ∀ i, i < n → ∃ x : Nat, x < 256 ∧ w.cell? ⟨g, o + i, none⟩ = some (.int .u8 x))
theorem Src.kept {w w' : World} {sb : Nat} {row : Option Nat} (h : Src w sb) (hg : w.grownBy w' row) (hr : ∀ k, row = some k → sb < k) : Src w' sb := by
  obtain ⟨oc, n, cc, a, hh, h1, h2, h3, h4⟩ := h
  refine ⟨oc, n, cc, a, hh, blk_fr' h1 hg (fun he => by have := hr _ he.symm; omega), h2, h3, fun hn => ?_⟩
  obtain ⟨g, o, h5, h6, h7⟩ := h4 hn
  refine ⟨g, o, h5, h6, fun i hi => ?_⟩
  obtain ⟨x, hx, hc⟩ := h7 i hi
  exact ⟨x, hx, hg.cell hc (fun he => by have := hr _ he.symm; simp at this; omega)⟩
theorem set_grown (w : World) (a : Addr) (u : Value) : w.grownBy (w.setCell a u) (some a.block) := ⟨rfl, rfl, rfl, by rw [set_size]; exact Nat.le_refl _, fun k hk hne => Below.heap_setCell _ _ _ _ (fun e => hne (by rw [e]))⟩
theorem three_set {w : World} {b : Nat} {x0 x1 x2 u : Value} {t : TypeId} (h : w.heap[b]? = some (.cells #[x0, x1, x2] t (0, 0))) :
    (w.setCell ⟨b, 1, none⟩ u).heap[b]? = some (.cells #[x0, u, x2] t (0, 0)) ∧ (w.setCell ⟨b, 2, none⟩ u).heap[b]? = some (.cells #[x0, x1, u] t (0, 0)) := by
  have hlt := lt_of_block h
  have h' : w.heap[b] = .cells #[x0, x1, x2] t (0, 0) := by simpa [Array.getElem?_eq_getElem hlt] using h
  refine ⟨?_, ?_⟩
  all_goals
    show (w.heap.modify b _)[b]? = _
    rw [Array.getElem?_eq_getElem (by simpa using hlt), Array.getElem_modify_self, h']
    rfl
theorem mask_w (z : Int) : ∃ X : Nat, X ≤ 16777215 ∧ bits .and .u64 z 16777215 = (X : Int) := by
  have h : (BitVec.ofInt IntKind.u64.bits z &&& BitVec.ofInt IntKind.u64.bits 16777215).toNat ≤ 16777215 := by
    rw [BitVec.toNat_and]; exact Nat.and_le_right
  refine ⟨_, h, ?_⟩
  show IntKind.wrap .u64 (((BitVec.ofInt IntKind.u64.bits z &&& BitVec.ofInt IntKind.u64.bits 16777215).toNat : Nat) : Int) = _
  generalize (BitVec.ofInt IntKind.u64.bits z &&& BitVec.ofInt IntKind.u64.bits 16777215).toNat = y at h
  exact w_u64 (by omega) (by omega)
theorem tmod_w {X k : Int} (h0 : 0 ≤ X) (hk : 1 ≤ k) : ∃ y : Nat, X.tmod k = (y : Int) ∧ (y : Int) < k := by
  have h1 := Int.tmod_nonneg k h0
  have h2 := Int.tmod_lt_of_pos X (show 0 < k by omega)
  obtain ⟨y, hy⟩ := Int.eq_ofNat_of_zero_le h1
  exact ⟨y, hy, by omega⟩
theorem drew_gr (w : World) : w.grownBy w.drew none := ⟨rfl, rfl, rfl, Nat.le_refl _, fun _ _ _ => rfl⟩
theorem gr_some {w w' : World} {k : Nat} (h : w.grownBy w' none) : w.grownBy w' (some k) := ⟨h.os, h.tape, h.output, h.size, fun j hj _ => h.block j hj (by simp)⟩
theorem grown_t2 {a b c : World} {row : Option Nat} (h1 : a.grownBy b row) (h2 : b.grownBy c row) : a.grownBy c row :=
  ⟨h2.os.trans h1.os, h2.tape.trans h1.tape, h2.output.trans h1.output, Nat.le_trans h1.size h2.size, fun k hk hne => (h2.block k (Nat.lt_of_lt_of_le hk h1.size) hne).trans (h1.block k hk hne)⟩
theorem next_any (sb : Nat) (k : Int) (hk : 1 ≤ k) (hk2 : k ≤ 4611686018427387904) (w : World) (hs : Src w sb) : Calls Try.prog 48 #[.pointer (some ⟨sb, 0, none⟩), .int .i64 k] w fun e w' => ∃ x : Nat, e = .returned (.int .i64 x) ∧ (x : Int) < k ∧ Src w' sb ∧ w.grownBy w' (some sb) := by
  obtain ⟨oc, n, cc, a, h, h1, h2, h3, h4⟩ := hs
  have c0 := cell_blk (i := 0) (v := .slice oc n cc) h1 rfl
  have c1 := cell_blk (i := 1) (v := .int .i64 a) h1 rfl
  have c2 := cell_blk (i := 2) (v := .int .u64 h) h1 rfl
  have f1 := free_blk 1 h1
  have f2 := free_blk 2 h1
  go_enter Try.func48, Try.ntmps48
  go_wp2_with fail
  generalize IntKind.u64.wrap (IntKind.u64.wrap (h * 6364136223846793005) + 1442695040888963407) = h'
  obtain ⟨X, hX, hXe⟩ := mask_w (h' / 8589934592)
  have b1 := (three_set (u := .int .u64 h') h1).2
  have g1 : w.grownBy (w.setCell ⟨sb, 2, none⟩ (.int .u64 h')) (some sb) := set_grown w ⟨sb, 2, none⟩ _
  have h4' : 0 < n → ∃ g o : Nat, oc = some ⟨g, o, none⟩ ∧ g < sb ∧ ∀ i, i < n → ∃ x : Nat, x < 256 ∧ (w.setCell ⟨sb, 2, none⟩ (.int .u64 h')).cell? ⟨g, o + i, none⟩ = some (.int .u8 x) := fun hn => by
    obtain ⟨g, o, h5, h6, h7⟩ := h4 hn
    refine ⟨g, o, h5, h6, fun i hi => ?_⟩
    obtain ⟨x, hx, hc⟩ := h7 i hi
    exact ⟨x, hx, g1.cell hc (by simp; omega)⟩
  generalize w.setCell ⟨sb, 2, none⟩ (.int .u64 h') = w1 at *
  have d0 := cell_blk (i := 0) (v := .slice oc n cc) b1 rfl
  have d1 := cell_blk (i := 1) (v := .int .i64 a) b1 rfl
  clear c0 c1 c2 f1 f2 h1 h4
  have e1 := free_blk 1 b1
  have hsrc : ∀ (W : World) (row : Option Nat) (a' : Nat), W.heap[sb]? = some (.cells #[.slice oc n cc, .int .i64 a', .int .u64 h'] 86 (0, 0)) → a' ≤ n → w1.grownBy W (some sb) → Src W sb := fun W row a' hb ha hg => by
    refine ⟨oc, n, cc, a', h', hb, h2, ha, fun hn => ?_⟩
    obtain ⟨g, o, h5, h6, h7⟩ := h4' hn
    refine ⟨g, o, h5, h6, fun i hi => ?_⟩
    obtain ⟨x, hx, hc⟩ := h7 i hi
    exact ⟨x, hx, hg.cell hc (by simp; omega)⟩
  rw [hXe, show wrap64 (X : Int) = X from wrap64_in _ (by omega)]
  have gd1 := drew_gr w1
  have gd2 := drew_gr w1.drew
  by_cases han : a < n
  · obtain ⟨g, o, rfl, h6, h7⟩ := h4' (by omega)
    obtain ⟨x, hx, hc⟩ := h7 a han
    obtain ⟨y, hy, hyk⟩ := tmod_w (show 0 ≤ (X : Int) + (x : Int) by omega) hk
    go_region
    all_goals go_wp2_with fail
    have b2 := blk_fr' (blk_fr' b1 gd1 (by simp)) gd2 (by simp)
    have q0 := cell_blk (i := 0) (v := .slice (some ⟨g, o, none⟩) n cc) (blk_fr' b1 gd1 (by simp)) rfl
    have q1 := cell_blk (i := 1) (v := .int .i64 a) (blk_fr' b1 gd1 (by simp)) rfl
    have qc := gd1.cell hc (by simp)
    have r1 := cell_blk (i := 1) (v := .int .i64 a) b2 rfl
    have r1f := free_blk 1 b2
    go_region
    all_goals go_wp2_with fail
    all_goals go_ret
    all_goals
      have b3 := (three_set (u := .int .i64 ((a + 1 : Nat) : Int)) b1).1
      have g3 : w1.grownBy (w1.setCell ⟨sb, 1, none⟩ (.int .i64 ((a + 1 : Nat) : Int))) (some sb) := set_grown w1 ⟨sb, 1, none⟩ _
      have g4 := grown_t2 g3 (grown_t2 (gr_some (drew_gr _)) (gr_some (drew_gr _)))
      exact ⟨y, rfl, hyk, hsrc _ none (a + 1) (blk_fr' (blk_fr' b3 (drew_gr _) (by simp)) (drew_gr _) (by simp)) (by omega) g4, grown_t2 g1 g4⟩
  · obtain ⟨y, hy, hyk⟩ := tmod_w (show 0 ≤ (X : Int) by omega) hk
    go_region
    all_goals go_wp2_with fail
    all_goals go_ret
    all_goals exact ⟨y, rfl, hyk, hsrc _ none a (blk_fr' b1 gd1 (by simp)) h3 (gr_some gd1), grown_t2 g1 (gr_some gd1)⟩
end

section
open Go.RowKit Go.IntWalk
theorem pick_any (sb g cp n : Nat) (P : Int → Prop) (hL : 0 < n) (hL2 : n ≤ 64) (hne : sb < g) (w : World) (hs : Src w sb) (hc : ∀ i, i < n → ∃ z, P z ∧ w.cell? ⟨g, i, none⟩ = some (.int .i64 z)) :
    Calls Try.prog 40 #[.pointer (some ⟨sb, 0, none⟩), .slice (some ⟨g, 0, none⟩) n cp] w fun e w' => ∃ x, P x ∧ e = .returned (.int .i64 x) ∧ Src w' sb ∧ w.grownBy w' (some sb) := by
  go_enter Try.func40, Try.ntmps40
  go_wp2_with (first
    | (go_at_call 48; refine (next_any sb _ (by omega) (by omega) _ hs).mono ?_; rintro e w1 ⟨x, rfl, hx, hs1, hg1⟩; obtain ⟨z, hz, hcz⟩ := hc x (by omega); have hck := hg1.cell hcz (by simp; omega); have hxn : x < n := (by omega))
    | fail)
  go_ret
  exact ⟨z, hz, rfl, hs1, hg1⟩
theorem list_cells {w : World} {L : List Value} {T : TypeId} (h : ∀ v ∈ L, ∃ z : Int, v = .int .i64 z) : ∀ i, i < L.length → ∃ z : Int, True ∧ (w.alloc (.cells L.toArray T (0, 0))).cell? ⟨w.heap.size, i, none⟩ = some (.int .i64 z) := fun i hi => by
  obtain ⟨z, hz⟩ := h L[i] (List.getElem_mem _)
  exact ⟨z, trivial, cell_blk (blk_new _ _) (by rw [← hz]; simp [hi])⟩
theorem list_cellsD {w : World} {L : List Value} {T : TypeId} (h : ∀ v ∈ L, ∃ z : Int, v = .int .i64 z) : ∀ i, i < L.length → ∃ z : Int, True ∧ ((w.alloc (.cells L.toArray T (0, 0))).drew).cell? ⟨w.heap.size, i, none⟩ = some (.int .i64 z) := fun i hi => by
  obtain ⟨z, _, hz⟩ := list_cells (T := T) (w := w) h i hi
  exact ⟨z, trivial, (drew_gr _).cell hz (by simp)⟩
theorem grown_up {a b c : World} {sb k : Nat} (h1 : a.grownBy b (some sb)) (h2 : b.grownBy c (some k)) (hk : a.heap.size ≤ k) : a.grownBy c (some sb) :=
  ⟨h2.os.trans h1.os, h2.tape.trans h1.tape, h2.output.trans h1.output, Nat.le_trans h1.size h2.size, fun j hj hne => (h2.block j (Nat.lt_of_lt_of_le hj h1.size) (fun e => by cases e; omega)).trans (h1.block j hj hne)⟩
theorem near_any (sb : Nat) (k : Nat) (hk1 : 1 ≤ k) (hk : k ≤ 16) (w : World) (hs : Src w sb) (hsb : sb < w.heap.size) :
    Calls Try.prog 41 #[.pointer (some ⟨sb, 0, none⟩), .int .i64 ((k : Int) - 1)] w fun e w' => ∃ x : Int, e = .returned (.int .i64 x) ∧ Src w' sb ∧ w.grownBy w' (some sb) := by
  go_enter Try.func41, Try.ntmps41
  go_wp2_with fail
  refine (next_any sb 14 (by omega) (by omega) _ hs).mono ?_
  rintro e w1 ⟨x, rfl, hx, hs1, hg1⟩
  have hs1z := hg1.size
  go_wp2_with fail
  · refine (pick_any sb w1.heap.size 4 4 (fun _ => True) (by omega) (by omega) (by omega) _ (hs1.kept (World.grownBy_alloc _ _ none) (by simp)) (list_cells (L := [.int .i64 (-1), .int .i64 k, .int .i64 1099511627776, .int .i64 (-4611686018427387904)]) (by simp))).mono ?_
    rintro e w2 ⟨z, _, rfl, hs2, hg2⟩
    go_wp2_with fail
    go_ret
    exact ⟨z, rfl, hs2, grown_t2 (grown_t2 hg1 (gr_some (World.grownBy_alloc _ _ none))) hg2⟩
  · refine (next_any sb k (by omega) (by omega) _ hs1).mono ?_
    rintro e w2 ⟨z, rfl, _, hs2, hg2⟩
    go_wp2_with fail
    go_ret
    exact ⟨z, rfl, hs2, grown_t2 hg1 hg2⟩
theorem results_c1 {fn : Func} {p : Tmp} (h : fn.results = #[.cell p 25]) (tmps : Array Value) (w : World) (g : Nat) (e : TypeId) (cs : Array Value) (fr : Nat × Nat)
    (hp : tmps.getD p undef = .pointer (some ⟨g, 0, none⟩)) (hg : w.heap[g]? = some (.cells cs e fr)) (hi : cs.size = 2) : (results fn tmps).run Try.prog w = .ok (.agg cs) w :=
  results_cell_row h tmps w g e cs fr _ hp hg Try.underlying25 rfl (by rw [show (Try.prog.info? 25).map (·.size) = some 2 by kernel_rfl, hi])
theorem sall_any (n : Nat) (hn : n ≤ 4) (W : World) : Calls Try.prog 61 #[.int .i64 n] W fun e w' => e = .returned (.int .i64 ((R2 (R2 n) : Nat) - 1)) ∧ W.grownBy w' none := by
  refine (Ev.callF (vs := [.int .i64 n]) (ev61 n hn) (by simp only [VR, VRL]; exact ⟨_, _, rfl, rfl, rfl⟩) (by simp [V.idsL, V.ids]) (by simp [V.ids]) W).mono ?_
  rintro e w' ⟨u, rfl, hu, hg⟩
  simp only [VR] at hu; subst hu
  exact ⟨rfl, hg⟩
/-- l01Bad: some function, or none. -/
theorem bad_any (sb n : Nat) (t : Int) (hn : n ≤ 4) (w : World) (hs : Src w sb) (hsb : sb < w.heap.size) :
    Calls Try.prog 42 #[.pointer (some ⟨sb, 0, none⟩), .agg #[.int .i64 n, .int .i64 t]] w fun e w' => ∃ p q : Int, e = .returned (.agg #[.int .i64 p, .int .i64 q]) ∧ Src w' sb ∧ w.grownBy w' (some sb) := by
  obtain ⟨h16, hh2, h3, h4⟩ := shN hn
  have hR := hh2
  generalize hRR : R2 (R2 n) = R at *
  have gA : w.grownBy ((w.alloc (.cells #[.int .i64 n, .int .i64 t] 25 (0, 0))).alloc (.cells #[.int .i64 0, .int .i64 0] 25 (0, 0))) none := grown_t2 (World.grownBy_alloc _ _ none) (World.grownBy_alloc _ _ none)
  have bA := blk_alloc (.cells #[.int .i64 0, .int .i64 0] 25 (0, 0)) (blk_new w (.cells #[.int .i64 n, .int .i64 t] 25 (0, 0)))
  have bB := blk_new (w.alloc (.cells #[.int .i64 n, .int .i64 t] 25 (0, 0))) (.cells #[.int .i64 0, .int .i64 0] 25 (0, 0))
  have hz : (w.alloc (.cells #[.int .i64 n, .int .i64 t] 25 (0, 0))).heap.size = w.heap.size + 1 := by simp
  rw [hz] at bB
  have hsA := hs.kept gA (by simp)
  go_enter Try.func42, Try.ntmps42
  go_wp2_with fail
  generalize (w.alloc (.cells #[.int .i64 n, .int .i64 t] 25 (0, 0))).alloc (.cells #[.int .i64 0, .int .i64 0] 25 (0, 0)) = wA at *
  refine (next_any sb 50 (by omega) (by omega) _ hsA).mono ?_
  rintro e w1 ⟨x, rfl, hx, hs1, hg1⟩
  have b1 := blk_fr' bA hg1 (by simp; omega)
  have b2 := blk_fr' bB hg1 (by simp; omega)
  have hgw1 := grown_t2 (gr_some gA) hg1
  have hz1 := hgw1.size
  have c10 := cell_blk (i := 0) (v := .int .i64 n) b1 rfl
  have c11 := cell_blk (i := 1) (v := .int .i64 t) b1 rfl
  have c20 := cell_blk (i := 0) (v := .int .i64 0) b2 rfl
  have c21 := cell_blk (i := 1) (v := .int .i64 0) b2 rfl
  have f20 := free_blk 0 b2
  have f21 := free_blk 1 b2
  clear hs hsA gA bA bB hg1 hz
  go_wp2_with fail
  · have gD : w1.grownBy (w1.alloc (.cells #[.int .i64 (-1), .int .i64 5, .int .i64 1099511627776] 2 (0, 0))).drew none := grown_t2 (World.grownBy_alloc _ _ none) (drew_gr _)
    have hsD := hs1.kept gD (by simp)
    have hcD := list_cellsD (w := w1) (T := 2) (L := [.int .i64 (-1), .int .i64 5, .int .i64 1099511627776]) (by simp)
    have b1D := blk_fr' b1 gD (by simp)
    have b2D := blk_fr' b2 gD (by simp)
    have q11 := cell_blk (i := 1) (v := .int .i64 t) b1D rfl
    have q11' := cell_blk (i := 1) (v := .int .i64 t) (blk_fr' b1 (drew_gr _) (by simp)) rfl
    go_region_with (go_at_call 40; refine (pick_any sb w1.heap.size 3 3 (fun _ => True) (by omega) (by omega) (by omega) _ hsD hcD).mono ?_; rintro e w2 ⟨z, _, rfl, hs2, hg2⟩; have b1E := blk_fr' b1D hg2 (by simp; omega); have b2E := blk_fr' b2D hg2 (by simp; omega); have r11 := cell_blk (i := 1) (v := .int .i64 t) b1E rfl; have r20 := cell_blk (i := 0) (v := .int .i64 0) b2E rfl; have r21 := cell_blk (i := 1) (v := .int .i64 0) b2E rfl; have s20 := free_blk 0 b2E; have s21 := free_blk 1 b2E)
    all_goals go_wp2_with fail
    all_goals
      refine bodyPost_ret (results_c1 rfl _ _ (w.heap.size + 1) 25 #[.int .i64 z, .int .i64 t] (0, 0) rfl (two_set1 (two_set0 b2E)) rfl) rfl ?_
      have k1 := set_grown w2 ⟨w.heap.size + 1, 0, none⟩ (.int .i64 z)
      have k2 := set_grown (w2.setCell ⟨w.heap.size + 1, 0, none⟩ (.int .i64 z)) ⟨w.heap.size + 1, 1, none⟩ (.int .i64 t)
      exact ⟨_, _, rfl, (hs2.kept k1 (fun k hk => by cases hk; simp; omega)).kept k2 (fun k hk => by cases hk; simp; omega), grown_up (grown_t2 (grown_t2 hgw1 (gr_some gD)) hg2) (grown_t2 k1 k2) (by simp)⟩
  · have q10' := cell_blk (i := 0) (v := .int .i64 n) (blk_fr' b1 (drew_gr _) (by simp)) rfl
    have hsz1 : w1.drew.heap.size = w1.heap.size := rfl
    have hwR : IntKind.i64.wrap (R : Int) = (R : Int) := wrap_id (by omega) (by omega)
    go_region_with (first
      | (go_at_call 61; refine (sall_any n hn _).mono ?_; rw [hRR]; rintro e w2 ⟨rfl, hgA⟩; have b1A := blk_fr' (blk_fr' b1 (drew_gr _) (by simp)) hgA (by simp); have b2A := blk_fr' (blk_fr' b2 (drew_gr _) (by simp)) hgA (by simp); have t10 := cell_blk (i := 0) (v := .int .i64 n) b1A rfl; have hsA := (hs1.kept (drew_gr _) (by simp)).kept hgA (by simp); have hsB := hsA.kept (World.grownBy_alloc w2 (.cells #[.int .i64 (-1), .int .i64 R, .int .i64 1099511627776] 2 (0, 0)) none) (by simp); have hcB := list_cells (w := w2) (T := 2) (L := [.int .i64 (-1), .int .i64 R, .int .i64 1099511627776]) (by simp); have b1B := blk_alloc (.cells #[.int .i64 (-1), .int .i64 R, .int .i64 1099511627776] 2 (0, 0)) b1A; have b2B := blk_alloc (.cells #[.int .i64 (-1), .int .i64 R, .int .i64 1099511627776] 2 (0, 0)) b2A; have u10 := cell_blk (i := 0) (v := .int .i64 n) b1B rfl; have hzA := hgA.size)
      | (go_at_call 40; refine (pick_any sb w2.heap.size 3 3 (fun _ => True) (by omega) (by omega) (by omega) _ hsB hcB).mono ?_; rintro e w3 ⟨z, _, rfl, hs3, hg3⟩; have b1F := blk_fr' b1B hg3 (by simp; omega); have b2F := blk_fr' b2B hg3 (by simp; omega); have r10 := cell_blk (i := 0) (v := .int .i64 n) b1F rfl; have r20 := cell_blk (i := 0) (v := .int .i64 0) b2F rfl; have r21 := cell_blk (i := 1) (v := .int .i64 0) b2F rfl; have s20 := free_blk 0 b2F; have s21 := free_blk 1 b2F))
    all_goals go_wp2_with fail
    all_goals
      refine bodyPost_ret (results_c1 rfl _ _ (w.heap.size + 1) 25 #[.int .i64 n, .int .i64 z] (0, 0) rfl (two_set1 (two_set0 b2F)) rfl) rfl ?_
      have k1 := set_grown w3 ⟨w.heap.size + 1, 0, none⟩ (.int .i64 (n : Int))
      have k2 := set_grown (w3.setCell ⟨w.heap.size + 1, 0, none⟩ (.int .i64 (n : Int))) ⟨w.heap.size + 1, 1, none⟩ (.int .i64 z)
      exact ⟨_, _, rfl, (hs3.kept k1 (fun k hk => by cases hk; simp; omega)).kept k2 (fun k hk => by cases hk; simp; omega), grown_up (grown_t2 (grown_t2 hgw1 (gr_some (grown_t2 (drew_gr w1) (grown_t2 hgA (World.grownBy_alloc w2 (.cells #[.int .i64 (-1), .int .i64 R, .int .i64 1099511627776] 2 (0, 0)) none))))) hg3) (grown_t2 k1 k2) (by simp)⟩
  · refine bodyPost_ret (results_c1 rfl _ _ (w.heap.size + 1) 25 #[.int .i64 n, .int .i64 t] (0, 0) rfl (two_set1 (two_set0 b2)) rfl) rfl ?_
    have g1 := set_grown w1 ⟨w.heap.size + 1, 0, none⟩ (.int .i64 (n : Int))
    have g2 := set_grown (w1.setCell ⟨w.heap.size + 1, 0, none⟩ (.int .i64 (n : Int))) ⟨w.heap.size + 1, 1, none⟩ (.int .i64 t)
    exact ⟨n, t, rfl, (hs1.kept g1 (fun k hk => by cases hk; simp; omega)).kept g2 (fun k hk => by cases hk; simp; omega), grown_up hgw1 (grown_t2 g1 g2) (by simp)⟩
end

section
open Go.RowKit Go.IntWalk
theorem from_any (oc : Option Addr) (n cc : Nat) (hn : n ≤ 4096) (w : World) (hb : 0 < n → ∃ g o : Nat, oc = some ⟨g, o, none⟩ ∧ g < w.heap.size ∧ ∀ i, i < n → ∃ x : Nat, x < 256 ∧ w.cell? ⟨g, o + i, none⟩ = some (.int .u8 x)) :
    Calls Try.prog 38 #[.slice oc n cc] w fun e w' => ∃ sb, e = .returned (.pointer (some ⟨sb, 0, none⟩)) ∧ w.heap.size ≤ sb ∧ sb < w'.heap.size ∧ Src w' sb ∧ w.grownBy w' none := by
  go_enter Try.func38, Try.ntmps38
  go_wp2_with fail
  have hB : ∀ z : Int, (w.alloc (.cells #[.slice oc n cc, .int .i64 0, .int .u64 z] 86 (0, 0))).heap[w.heap.size]? = some (.cells #[.slice oc n cc, .int .i64 0, .int .u64 z] 86 (0, 0)) := fun z => blk_new _ _
  go_loopw [4] (fun i wr => ∃ (k : Nat) (h : Int), i = .int .i64 k ∧ k ≤ n ∧ wr.heap[w.heap.size]? = some (.cells #[.slice oc n cc, .int .i64 0, .int .u64 h] 86 (0, 0)) ∧ w.grownBy wr none ∧ w.heap.size < wr.heap.size) (fun i _ => n - (intOf i).toNat)
  case atStart => exact ⟨0, _, rfl, Nat.zero_le _, hB _, World.grownBy_alloc _ _ _, by simp⟩
  case round =>
    obtain ⟨k, h, rfl, hk, hbk, hgr, hsz⟩ := hrel
    by_cases hkn : k < n
    · obtain ⟨g, o, rfl, hg, hc⟩ := hb (by omega)
      obtain ⟨x, hx, hcx⟩ := hc k hkn
      have hck := hgr.cell hcx (by simp)
      have b1 := blk_fr' hbk (drew_gr wr) (by simp)
      have c2 := cell_blk (i := 2) (v := .int .u64 h) b1 rfl
      have f2 := free_blk 2 b1
      have hckd := (drew_gr wr).cell hck (by simp)
      go_wp2_with fail
      go_region
      all_goals go_wp2_with fail
      all_goals
        go_roundw
        case rel =>
          refine ⟨k + 1, IntKind.u64.wrap (IntKind.u64.wrap (IntKind.u64.wrap (h * 1099511628211) + ↑x) + 149), by go_num, by omega, ?_, ?_, ?_⟩
          · first
              | exact (three_set b1).2
              | exact blk_fr' (three_set hbk).2 (drew_gr _) (by simp)
          · first
              | exact below_grown ((((Below.refl w.heap.size w).grown hgr (Nat.le_refl _) (fun k hk => by cases hk)).drew).setCell (by simp) _)
              | exact below_grown ((((Below.refl w.heap.size w).grown hgr (Nat.le_refl _) (fun k hk => by cases hk)).setCell (by simp) _).drew)
          · first
              | (rw [set_size]; exact hsz)
              | (show _ < (wr.setCell _ _).heap.size; rw [set_size]; exact hsz)
        case measure => simp [intOf]; omega
    · obtain rfl : k = n := by omega
      go_wp2_with fail
      go_ret
      refine ⟨_, rfl, Nat.le_refl _, hsz, ⟨oc, k, cc, 0, h, hbk, hn, Nat.zero_le _, fun hn => ?_⟩, hgr⟩
      obtain ⟨g, o, h5, h6, h7⟩ := hb hn
      refine ⟨g, o, h5, h6, fun i hi => ?_⟩
      obtain ⟨x, hx, hc⟩ := h7 i hi
      exact ⟨x, hx, hgr.cell hc (by simp)⟩
/-- A list of numbers of the call's own. -/
def IntsR (w : World) (b : Nat) (v : Value) (n : Nat) : Prop := ∃ xs : List Value, w.ownsRow b 2 1 v n xs ∧ ∀ x ∈ xs, ∃ z : Int, x = .int .i64 z
theorem IntsR.kept {w w' : World} {b n : Nat} {v : Value} {row : Option Nat} (h : IntsR w b v n) (hg : w.grownBy w' row) (hr : ∀ k, row = some k → k < b) : IntsR w' b v n := by
  obtain ⟨xs, h1, h2⟩ := h
  refine ⟨xs, h1.kept hg ?_, h2⟩
  cases hv : v.ownBlock with
  | none => exact .inl rfl
  | some g => exact .inr fun he => by have := (own_ge h1 hv).1; have := hr g he.symm; omega
theorem IntsR.snoc {b n : Nat} {v' : Value} {w' : World} {xs : List Value} {z : Int} (h2 : ∀ x ∈ xs, ∃ z : Int, x = .int .i64 z) (h : w'.ownsRow b 2 1 v' (n + 1) (xs ++ [.int .i64 z])) : IntsR w' b v' (n + 1) :=
  ⟨_, h, fun x hx => by
    rcases List.mem_append.mp hx with h | h
    · exact h2 x h
    · simp at h; exact ⟨z, h⟩⟩
theorem own_cellsR {w : World} {b : Nat} {e : TypeId} {g cap n : Nat} {xs : List Value} (h : w.ownsRow b e 1 (.slice (some ⟨g, 0, none⟩) n cap) n xs) {j : Nat} (hj : j < n) : w.cell? ⟨g, j, none⟩ = some (xs.getD j undef) := by
  have hl := h.1
  rcases h.2 with ⟨h1, _⟩ | ⟨g', cap', cur, hv, hg, hh, h1, h2, h3, h4⟩
  · simp at h1
  · simp only [Value.slice.injEq, Option.some.injEq, Addr.mk.injEq] at hv
    obtain ⟨⟨rfl, _⟩, _, rfl⟩ := hv
    subst h4
    refine cell_blk hh ?_
    rw [List.getD_eq_getElem?_getD, List.getElem?_take, if_pos (by omega), Array.getElem?_toList]
    rw [Array.getElem?_eq_getElem (by omega)]; rfl
theorem IntsR.read {w : World} {b n : Nat} {v : Value} (h : IntsR w b v n) (hn : 0 < n) : ∃ g cp, v = .slice (some ⟨g, 0, none⟩) n cp ∧ b ≤ g ∧ g < w.heap.size ∧ ∀ i, i < n → ∃ z : Int, w.cell? ⟨g, i, none⟩ = some (.int .i64 z) := by
  obtain ⟨xs, h1, h2⟩ := h
  rcases h1.2 with ⟨_, h3⟩ | ⟨g, cap, cur, rfl, hg, hh, _⟩
  · omega
  · refine ⟨g, cap, rfl, hg, lt_of_block hh, fun i hi => ?_⟩
    have hl := h1.1
    have hm : xs.getD i undef ∈ xs := by rw [List.getD_eq_getElem?_getD, List.getElem?_eq_getElem (by omega)]; exact List.getElem_mem _
    obtain ⟨z, hz⟩ := h2 _ hm
    exact ⟨z, by rw [own_cellsR h1 hi, hz]⟩
theorem srows_anyd (n : Nat) (hn : n ≤ 4) (W : World) : Calls Try.prog 53 #[.int .i64 n] W fun e w' => e = .returned (.int .i64 (R2 n : Nat)) ∧ W.grownBy w' none := by
  refine (Ev.callF (vs := [.int .i64 n]) (ev53 n hn) (by simp only [VR, VRL]; exact ⟨_, _, rfl, rfl, rfl⟩) (by simp [V.idsL, V.ids]) (by simp [V.ids]) W).mono ?_
  rintro e w' ⟨u, rfl, hu, hg⟩
  simp only [VR] at hu; subst hu
  exact ⟨rfl, hg⟩
theorem of_any (n b : Nat) (v : Value) (hn : n ≤ 4) (w : World) (hv : IntsR w b v (R2 n)) :
    Calls Try.prog 63 #[.int .i64 n, v] w fun e w' => ∃ q : Int, e = .returned (.agg #[.int .i64 n, .int .i64 q]) ∧ w.grownBy w' none := by
  obtain ⟨h16, hh2, h3, h4⟩ := shN hn
  obtain ⟨g, cp, rfl, hbg, hgl, hc⟩ := hv.read (by omega)
  generalize hR : R2 n = R at *
  go_enter Try.func63, Try.ntmps63
  have bA := blk_alloc (.cells #[.int .i64 n, .int .i64 0] 25 (0, 0)) (blk_new w (.cells #[.int .i64 0, .int .i64 0] 25 (0, 0)))
  have bB := blk_new (w.alloc (.cells #[.int .i64 0, .int .i64 0] 25 (0, 0))) (.cells #[.int .i64 n, .int .i64 0] 25 (0, 0))
  rw [show (w.alloc (.cells #[.int .i64 0, .int .i64 0] 25 (0, 0))).heap.size = w.heap.size + 1 by simp] at bB
  have gA : w.grownBy ((w.alloc (.cells #[.int .i64 0, .int .i64 0] 25 (0, 0))).alloc (.cells #[.int .i64 n, .int .i64 0] 25 (0, 0))) none := grown_t2 (World.grownBy_alloc _ _ none) (World.grownBy_alloc _ _ none)
  go_wp2_with fail
  generalize (w.alloc (.cells #[.int .i64 0, .int .i64 0] 25 (0, 0))).alloc (.cells #[.int .i64 n, .int .i64 0] 25 (0, 0)) = wA at *
  go_loopw [6] (fun i wr => ∃ (k : Nat) (q : Int), i = .int .i64 k ∧ k ≤ R ∧ wr.heap[w.heap.size]? = some (.cells #[.int .i64 0, .int .i64 0] 25 (0, 0)) ∧ wr.heap[w.heap.size + 1]? = some (.cells #[.int .i64 n, .int .i64 q] 25 (0, 0)) ∧ w.grownBy wr none) (fun i _ => R - (intOf i).toNat)
  case atStart => exact ⟨0, 0, rfl, Nat.zero_le _, bA, bB, gA⟩
  case round =>
    obtain ⟨k, q, rfl, hk, bC, bD, hgr⟩ := hrel
    by_cases hkn : k < R
    · obtain ⟨z, hz⟩ := hc k hkn
      go_wp2_with (first
        | (go_at_call 53; refine (srows_anyd n hn _).mono ?_; rw [hR]; rintro e w1 ⟨rfl, hg1⟩)
        | fail)
      have hg2 := grown_t2 (grown_t2 hgr hg1) (drew_gr w1)
      have b1 := blk_fr' (blk_fr' bC hg1 (by simp)) (drew_gr w1) (by simp)
      have b2 := blk_fr' (blk_fr' bD hg1 (by simp)) (drew_gr w1) (by simp)
      have c21 := cell_blk (i := 1) (v := .int .i64 q) b2 rfl
      have f21 := free_blk 1 b2
      have hcz := hg2.cell hz (by simp)
      go_region
      all_goals go_wp2_with fail
      all_goals
        have d1 := blk_fr' bC hg1 (by simp)
        have d2 := blk_fr' bD hg1 (by simp)
        have hgs := set_grown w1 ⟨w.heap.size + 1, 1, none⟩ (.int .i64 (wrap64 (q + wrap64 (z * 2 ^ k))))
        go_roundw
        case rel =>
          exact ⟨k + 1, wrap64 (q + wrap64 (z * 2 ^ k)), by go_num, by omega, blk_fr' (blk_fr' d1 hgs (by simp)) (drew_gr _) (by simp), blk_fr' (two_set1 d2) (drew_gr _) (by simp),
            below_grown ((((Below.refl w.heap.size w).grown hgr (Nat.le_refl _) (fun k hk => by cases hk)).grown hg1 hgr.size (fun k hk => by cases hk)).setCell (by simp) _ |>.drew)⟩
        case measure => simp [intOf]; omega
    · obtain rfl : k = R := by omega
      go_wp2_with (first
        | (go_at_call 53; refine (srows_anyd n hn _).mono ?_; rw [hR]; rintro e w1 ⟨rfl, hg1⟩; have b1 := blk_fr' bC hg1 (by simp); have b2 := blk_fr' bD hg1 (by simp); have c10 := cell_blk (i := 0) (v := .int .i64 0) b1 rfl; have c11 := cell_blk (i := 1) (v := .int .i64 0) b1 rfl; have f10 := free_blk 0 b1; have f11 := free_blk 1 b1; have c20 := cell_blk (i := 0) (v := .int .i64 n) b2 rfl; have c21 := cell_blk (i := 1) (v := .int .i64 q) b2 rfl)
        | fail)
      refine bodyPost_ret (results_c1 rfl _ _ w.heap.size 25 #[.int .i64 n, .int .i64 q] (0, 0) rfl (two_set1 (two_set0 b1)) rfl) rfl ?_
      exact ⟨q, rfl, below_grown ((((Below.refl w.heap.size w).grown hgr (Nat.le_refl _) (fun k hk => by cases hk)).grown hg1 hgr.size (fun k hk => by cases hk)).setCell (by simp) _ |>.setCell (by simp) _)⟩
end

section
open Go.RowKit Go.IntWalk
theorem app_end {w wr w1 w3 : World} {B n : Nat} {v : Value} {xs : List Value} {X : Obj} (hgr : w.grownBy wr none) (hg1 : wr.grownBy w1 none) (hB : w.heap.size ≤ B) (hBl : B ≤ w1.heap.size) (hown1 : w1.ownsRow B 2 1 v n xs) (hgrow : (w1.alloc X).grownBy w3 v.ownBlock) :
    w.grownBy w3 none ∧ (∀ j o, j < B → w1.heap[j]? = some o → w3.heap[j]? = some o) ∧ w1.heap.size < w3.heap.size := by
  refine ⟨below_grown (((((Below.refl w.heap.size w).grown hgr (Nat.le_refl _) (fun k hk => by cases hk)).grown hg1 hgr.size (fun k hk => by cases hk)).alloc (by omega) _).grown hgrow (by simp; omega) (fun j hj => by have := (own_ge hown1 hj).1; omega)), fun j o hj ho => blk_fr' (blk_alloc _ ho) hgrow (fun he => by have := (own_ge hown1 he.symm).1; omega), ?_⟩
  have := hgrow.size
  simp at this; omega
theorem ret_pair {w w2 : World} {n : Nat} {q : Int} (g : Nat) (hb : w2.heap[g]? = some (.cells #[.int .i64 0, .int .i64 0] 25 (0, 0))) (hg : w.grownBy w2 none) (hgl : w.heap.size ≤ g) :
    ((w2.setCell ⟨g, 0, none⟩ (.int .i64 (n : Int))).setCell ⟨g, 1, none⟩ (.int .i64 q)).heap[g]? = some (.cells #[.int .i64 (n : Int), .int .i64 q] 25 (0, 0)) ∧ w.grownBy ((w2.setCell ⟨g, 0, none⟩ (.int .i64 (n : Int))).setCell ⟨g, 1, none⟩ (.int .i64 q)) none :=
  ⟨two_set1 (two_set0 hb), below_grown ((((Below.refl w.heap.size w).grown hg (Nat.le_refl _) (fun k hk => by cases hk)).setCell hgl _).setCell hgl _)⟩
theorem proj_any (n i : Nat) (hn : n ≤ 4) (hi4 : i ≤ 16) (w : World) : Calls Try.prog 75 #[.int .i64 n, .int .i64 i] w fun e w' => ∃ q : Int, e = .returned (.agg #[.int .i64 n, .int .i64 q]) ∧ w.grownBy w' none := by
  obtain ⟨i0, hi, hz0, hz1, hz2⟩ := info_parts Try.info2
  obtain ⟨h16, hh2, h3, h4⟩ := shN hn
  generalize hR : R2 n = R at *
  go_enter Try.func75, Try.ntmps75
  have bA := blk_alloc (.cells #[] 2 (0, 0)) (blk_new w (.cells #[.int .i64 0, .int .i64 0] 25 (0, 0)))
  have bB := blk_new (w.alloc (.cells #[.int .i64 0, .int .i64 0] 25 (0, 0))) (.cells #[] 2 (0, 0))
  rw [show (w.alloc (.cells #[.int .i64 0, .int .i64 0] 25 (0, 0))).heap.size = w.heap.size + 1 by simp] at bB
  have gA : w.grownBy ((w.alloc (.cells #[.int .i64 0, .int .i64 0] 25 (0, 0))).alloc (.cells #[] 2 (0, 0))) none := grown_t2 (World.grownBy_alloc _ _ none) (World.grownBy_alloc _ _ none)
  go_wp2_with fail
  generalize (w.alloc (.cells #[.int .i64 0, .int .i64 0] 25 (0, 0))).alloc (.cells #[] 2 (0, 0)) = wA at *
  go_loopw [5, 6] (fun v r wr => ∃ k : Nat, r = .int .i64 k ∧ k ≤ R ∧ IntsR wr (w.heap.size + 1) v k ∧ wr.heap[w.heap.size]? = some (.cells #[.int .i64 0, .int .i64 0] 25 (0, 0)) ∧ w.grownBy wr none ∧ w.heap.size < wr.heap.size) (fun _ r _ => R - (intOf r).toNat)
  case atStart => exact ⟨0, rfl, Nat.zero_le _, ⟨[], ⟨rfl, .inr ⟨_, 0, #[], rfl, Nat.le_refl _, bB, Nat.le_refl _, Nat.zero_le _, rfl, rfl⟩⟩, by simp⟩, bA, gA, lt_of_block bA⟩
  case round =>
    obtain ⟨k, rfl, hk, ⟨xs, hown, hxs⟩, bC, hgr, hsz⟩ := hrel
    by_cases hkn : k < R
    · go_wp2_with (first
        | (go_at_call 53; refine (srows_anyd n hn _).mono ?_; rw [hR]; rintro e w1 ⟨rfl, hg1⟩; have hown1 := hown.kept hg1 (by cases u5.ownBlock <;> simp))
        | (at_builtin; refine wpList_append_own _ rfl (.tmp 14) (.tmp 20) 27 rfl (w.heap.size + 1) 2 i0 _ 1 8 Try.underlying27 hi hz0 hz1 hz2 rfl (by decide) _ _ _ rfl (hown1.alloc _) ⟨w1.heap.size, 0, none⟩ 1 1 [_] rfl rfl (one_cell (blk_new _ _)) (by intro u hu; simp at hu; subst hu; rfl) (by unfold maxLen; omega) (by omega) (by have := hg1.size; simp; omega) ?_; intro v' w3 hown' hgrow _)
        | fail)
      obtain ⟨ha, hb, hz⟩ := app_end hgr hg1 (by omega) (by have := hg1.size; omega) hown1 hgrow
      go_roundw
      case rel => exact ⟨k + 1, by go_num, by omega, IntsR.snoc hxs hown', hb _ _ (by omega) (blk_fr' bC hg1 (by simp)), ha, by have := hg1.size; omega⟩
      case measure => simp [intOf]; omega
    · obtain rfl : k = R := by omega
      go_wp2_with (first
        | (go_at_call 53; refine (srows_anyd n hn _).mono ?_; rw [hR]; rintro e w1 ⟨rfl, hg1⟩)
        | fail)
      have b1 := blk_fr' bC hg1 (by simp)
      refine (of_any n (w.heap.size + 1) _ hn _ (by rw [hR]; exact ⟨xs, hown.kept hg1 (by cases u5.ownBlock <;> simp), hxs⟩)).mono ?_
      rintro e w2 ⟨q, rfl, hg2⟩
      have b2 := blk_fr' b1 hg2 (by simp)
      have c0 := cell_blk (i := 0) (v := .int .i64 0) b2 rfl
      have c1 := cell_blk (i := 1) (v := .int .i64 0) b2 rfl
      have f0 := free_blk 0 b2
      have f1 := free_blk 1 b2
      go_wp2_with fail
      obtain ⟨hp, hq⟩ := ret_pair (n := n) (q := q) _ b2 (grown_t2 (grown_t2 hgr hg1) hg2) (Nat.le_refl _)
      refine bodyPost_ret (results_c1 rfl _ _ w.heap.size 25 _ (0, 0) rfl hp rfl) rfl ?_
      exact ⟨q, rfl, hq⟩
theorem const_any (n i : Nat) (hn : n ≤ 4) (hi4 : i ≤ 16) (w : World) : Calls Try.prog 76 #[.int .i64 n, .int .i64 i] w fun e w' => ∃ q : Int, e = .returned (.agg #[.int .i64 n, .int .i64 q]) ∧ w.grownBy w' none := by
  go_enter Try.func76, Try.ntmps76
  have bA := blk_new w (.cells #[.int .i64 0, .int .i64 0] 25 (0, 0))
  have gA := World.grownBy_alloc w (.cells #[.int .i64 0, .int .i64 0] 25 (0, 0)) none
  go_wp2_with fail
  generalize w.alloc (.cells #[.int .i64 0, .int .i64 0] 25 (0, 0)) = wA at *
  refine (sall_any n hn _).mono ?_
  rintro e w1 ⟨rfl, hg1⟩
  have b2 := blk_fr' bA hg1 (by simp)
  have c0 := cell_blk (i := 0) (v := .int .i64 0) b2 rfl
  have c1 := cell_blk (i := 1) (v := .int .i64 0) b2 rfl
  have f0 := free_blk 0 b2
  have f1 := free_blk 1 b2
  go_wp2_with fail
  obtain ⟨hp, hq⟩ := ret_pair (n := n) (q := wrap64 (↑i * (↑(R2 (R2 n)) - 1))) _ b2 (grown_t2 gA hg1) (Nat.le_refl _)
  refine bodyPost_ret (results_c1 rfl _ _ w.heap.size 25 _ (0, 0) rfl hp rfl) rfl ?_
  exact ⟨_, rfl, hq⟩
theorem sat_anyd (n : Int) (b : Int) (r : Nat) (hr : r ≤ 16) (W : World) : Calls Try.prog 52 #[.agg #[.int .i64 n, .int .i64 b], .int .i64 r] W fun e w' => ∃ z : Int, e = .returned (.int .i64 z) ∧ W.grownBy w' none := by
  go_enter Try.func52, Try.ntmps52
  go_wp2_with fail
  go_ret
  exact ⟨_, rfl, World.grownBy_alloc _ _ _⟩
theorem weight_any (n : Nat) (b : Int) (hn : n ≤ 4) (w : World) : Calls Try.prog 77 #[.agg #[.int .i64 n, .int .i64 b]] w fun e w' => ∃ z : Int, e = .returned (.int .i64 z) ∧ w.grownBy w' none := by
  obtain ⟨h16, hh2, h3, h4⟩ := shN hn
  generalize hR : R2 n = R at *
  go_enter Try.func77, Try.ntmps77
  have bA := blk_new w (.cells #[.int .i64 n, .int .i64 b] 25 (0, 0))
  have gA := World.grownBy_alloc w (.cells #[.int .i64 n, .int .i64 b] 25 (0, 0)) none
  go_wp2_with fail
  generalize w.alloc (.cells #[.int .i64 n, .int .i64 b] 25 (0, 0)) = wA at *
  go_loopw [3, 4] (fun s r wr => ∃ (k : Nat) (z : Int), r = .int .i64 k ∧ k ≤ R ∧ s = .int .i64 z ∧ wr.heap[w.heap.size]? = some (.cells #[.int .i64 n, .int .i64 b] 25 (0, 0)) ∧ w.grownBy wr none) (fun _ r _ => R - (intOf r).toNat)
  case atStart => exact ⟨0, 0, rfl, Nat.zero_le _, rfl, bA, gA⟩
  case round =>
    obtain ⟨k, z, rfl, hk, rfl, bC, hgr⟩ := hrel
    have c0 := cell_blk (i := 0) (v := .int .i64 n) bC rfl
    by_cases hkn : k < R
    · go_wp2_with (first
        | (go_at_call 53; refine (srows_anyd n hn _).mono ?_; rw [hR]; rintro e w1 ⟨rfl, hg1⟩; have b1 := blk_fr' bC hg1 (by simp); have c10 := cell_blk (i := 0) (v := .int .i64 n) b1 rfl; have c11 := cell_blk (i := 1) (v := .int .i64 b) b1 rfl)
        | (go_at_call 52; refine (sat_anyd n b k (by omega) _).mono ?_; rintro e w2 ⟨y, rfl, hg2⟩)
        | fail)
      go_roundw
      case rel => exact ⟨k + 1, _, by go_num, by omega, rfl, blk_fr' b1 hg2 (by simp), grown_t2 (grown_t2 hgr hg1) hg2⟩
      case measure => simp [intOf]; omega
    · obtain rfl : k = R := by omega
      go_wp2_with (first
        | (go_at_call 53; refine (srows_anyd n hn _).mono ?_; rw [hR]; rintro e w1 ⟨rfl, hg1⟩)
        | fail)
      go_ret
      exact ⟨z, rfl, grown_t2 hgr hg1⟩
theorem bits_hi (k n : Nat) (hk : k < 16) (h2 : k < R2 (n + 1)) : bits .and .i64 ((k : Int) / 2 ^ n) 1 = if k < R2 n then 0 else 1 := by
  have e : ((k : Int) / 2 ^ n) = ((k / 2 ^ n : Nat) : Int) := by simp
  have hp : R2 (n + 1) = 2 * 2 ^ n := by unfold R2; rw [Nat.pow_succ]; omega
  have hp2 : R2 n = 2 ^ n := by unfold R2; rfl
  have hpos : 0 < 2 ^ n := Nat.pow_pos (by omega)
  rw [e]
  by_cases h : k < R2 n
  · rw [if_pos h, Nat.div_eq_of_lt (by omega)]; rfl
  · rw [if_neg h, show k / 2 ^ n = 1 by rw [Nat.div_eq_iff hpos]; omega]; rfl
theorem fix_any (n m : Nat) (b : Int) (hn : m ≤ 4) (hm : m = n + 1) (w : World) : Calls Try.prog 80 #[.agg #[.int .i64 m, .int .i64 b], .int .i64 (n : Nat), .int .i64 0] w fun e w' => ∃ q : Int, e = .returned (.agg #[.int .i64 n, .int .i64 q]) ∧ w.grownBy w' none := by
  obtain ⟨i0, hi, hz0, hz1, hz2⟩ := info_parts Try.info2
  obtain ⟨h16, hh2, h3, h4⟩ := shN hn
  have hbits := fun k hk (hk2 : k < R2 m) => bits_hi k n hk (by rw [← hm]; exact hk2)
  have hle : R2 n ≤ R2 m := by unfold R2; exact Nat.pow_le_pow_right (by omega) (by omega)
  have hmn : (m : Int) - 1 = (n : Int) := by omega
  have hn3 : n ≤ 3 := by omega
  clear hm
  generalize hR : R2 m = R at *
  generalize hr : R2 n = r at *
  go_enter Try.func80, Try.ntmps80
  have e1 : (w.alloc (.cells #[.int .i64 m, .int .i64 b] 25 (0, 0))).heap.size = w.heap.size + 1 := by simp
  have e2 : ((w.alloc (.cells #[.int .i64 m, .int .i64 b] 25 (0, 0))).alloc (.cells #[.int .i64 0, .int .i64 0] 25 (0, 0))).heap.size = w.heap.size + 2 := by simp
  have bA := blk_alloc (.cells #[] 2 (0, 0)) (blk_alloc (.cells #[.int .i64 0, .int .i64 0] 25 (0, 0)) (blk_new w (.cells #[.int .i64 m, .int .i64 b] 25 (0, 0))))
  have bB := blk_alloc (.cells #[] 2 (0, 0)) (blk_new (w.alloc (.cells #[.int .i64 m, .int .i64 b] 25 (0, 0))) (.cells #[.int .i64 0, .int .i64 0] 25 (0, 0)))
  have bC := blk_new ((w.alloc (.cells #[.int .i64 m, .int .i64 b] 25 (0, 0))).alloc (.cells #[.int .i64 0, .int .i64 0] 25 (0, 0))) (.cells #[] 2 (0, 0))
  rw [e1] at bB
  rw [e2] at bC
  have gA : w.grownBy (((w.alloc (.cells #[.int .i64 m, .int .i64 b] 25 (0, 0))).alloc (.cells #[.int .i64 0, .int .i64 0] 25 (0, 0))).alloc (.cells #[] 2 (0, 0))) none := grown_t2 (grown_t2 (World.grownBy_alloc _ _ none) (World.grownBy_alloc _ _ none)) (World.grownBy_alloc _ _ none)
  go_wp2_with fail
  generalize ((w.alloc (.cells #[.int .i64 m, .int .i64 b] 25 (0, 0))).alloc (.cells #[.int .i64 0, .int .i64 0] 25 (0, 0))).alloc (.cells #[] 2 (0, 0)) = wA at *
  clear e1 e2
  go_loopw [7, 8] (fun v i wr => ∃ k : Nat, i = .int .i64 k ∧ k ≤ R ∧ IntsR wr (w.heap.size + 2) v (min k r) ∧ wr.heap[w.heap.size]? = some (.cells #[.int .i64 m, .int .i64 b] 25 (0, 0)) ∧ wr.heap[w.heap.size + 1]? = some (.cells #[.int .i64 0, .int .i64 0] 25 (0, 0)) ∧ w.grownBy wr none ∧ w.heap.size + 1 < wr.heap.size) (fun _ i _ => R - (intOf i).toNat)
  case atStart => exact ⟨0, rfl, Nat.zero_le _, ⟨[], ⟨by simp, .inr ⟨_, 0, #[], by simp, Nat.le_refl _, bC, by simp, Nat.zero_le _, rfl, by simp⟩⟩, by simp⟩, bA, bB, gA, lt_of_block bB⟩
  case round =>
    obtain ⟨k, rfl, hk, hIR, bD, bE, hgr, hsz⟩ := hrel
    have c0 := cell_blk (i := 0) (v := .int .i64 m) bD rfl
    have c1 := cell_blk (i := 1) (v := .int .i64 b) bD rfl
    by_cases hkn : k < R
    · have hb := hbits k (by omega) (by omega)
      by_cases hkr : k < r
      · rw [if_pos hkr] at hb
        rw [show min k r = k by omega] at hIR
        obtain ⟨xs, hown, hxs⟩ := hIR
        go_wp2_with (first
          | (go_at_call 53; refine (srows_anyd m hn _).mono ?_; rw [hR]; rintro e w0 ⟨rfl, hg0⟩; have hown0 := hown.kept hg0 (by cases u7.ownBlock <;> simp); have b0 := blk_fr' bD hg0 (by simp); have b0' := blk_fr' bE hg0 (by simp); have d0 := cell_blk (i := 0) (v := .int .i64 m) b0 rfl; have d1 := cell_blk (i := 1) (v := .int .i64 b) b0 rfl)
          | (go_at_call 52; refine (sat_anyd m b k (by omega) _).mono ?_; rintro e w1 ⟨y, rfl, hg1⟩; have hown1 := hown0.kept hg1 (by cases u7.ownBlock <;> simp))
          | (at_builtin; refine wpList_append_own _ rfl (.tmp 24) (.tmp 28) 27 rfl (w.heap.size + 2) 2 i0 _ 1 8 Try.underlying27 hi hz0 hz1 hz2 rfl (by decide) _ _ _ rfl (hown1.alloc _) ⟨w1.heap.size, 0, none⟩ 1 1 [_] rfl rfl (one_cell (blk_new _ _)) (by intro u hu; simp at hu; subst hu; rfl) (by unfold maxLen; omega) (by omega) (by have := hg1.size; have := hg0.size; simp; omega) ?_; intro v' w3 hown' hgrow _)
          | fail)
        obtain ⟨ha, hb', hz⟩ := app_end (grown_t2 hgr hg0) hg1 (by omega) (by have := hg1.size; have := hg0.size; omega) hown1 hgrow
        go_roundw
        case rel => exact ⟨k + 1, by go_num, by omega, by rw [show min (k + 1) r = k + 1 by omega]; exact IntsR.snoc hxs hown', hb' _ _ (by omega) (blk_fr' b0 hg1 (by simp)), hb' _ _ (by omega) (blk_fr' b0' hg1 (by simp)), ha, by have := hg1.size; have := hg0.size; omega⟩
        case measure => simp [intOf]; omega
      · rw [if_neg hkr] at hb
        rw [show min k r = min (k + 1) r by omega] at hIR
        go_wp2_with (first
          | (go_at_call 53; refine (srows_anyd m hn _).mono ?_; rw [hR]; rintro e w0 ⟨rfl, hg0⟩)
          | fail)
        go_roundw
        case rel => exact ⟨k + 1, by go_num, by omega, hIR.kept hg0 (by simp), blk_fr' bD hg0 (by simp), blk_fr' bE hg0 (by simp), grown_t2 hgr hg0, by have := hg0.size; omega⟩
        case measure => simp [intOf]; omega
    · obtain rfl : k = R := by omega
      rw [show min k r = r by omega] at hIR
      go_wp2_with (first
        | (go_at_call 53; refine (srows_anyd m hn _).mono ?_; rw [hR]; rintro e w0 ⟨rfl, hg0⟩; have b0 := blk_fr' bD hg0 (by simp); have b0' := blk_fr' bE hg0 (by simp); have d0 := cell_blk (i := 0) (v := .int .i64 m) b0 rfl)
        | fail)
      refine (of_any n (w.heap.size + 2) _ (by omega) _ (by rw [hr]; exact hIR.kept hg0 (by simp))).mono ?_
      rintro e w2 ⟨q, rfl, hg2⟩
      have b2 := blk_fr' b0' hg2 (by simp)
      have d0' := cell_blk (i := 0) (v := .int .i64 0) b2 rfl
      have d1' := cell_blk (i := 1) (v := .int .i64 0) b2 rfl
      have f0 := free_blk 0 b2
      have f1 := free_blk 1 b2
      go_wp2_with fail
      obtain ⟨hp, hq⟩ := ret_pair (n := n) (q := q) _ b2 (grown_t2 (grown_t2 hgr hg0) hg2) (by omega)
      refine bodyPost_ret (results_c1 rfl _ _ (w.heap.size + 1) 25 _ (0, 0) rfl hp rfl) rfl ?_
      exact ⟨q, rfl, hq⟩
theorem dual_any (n : Nat) (b : Int) (hn : n ≤ 4) (w : World) : Calls Try.prog 81 #[.agg #[.int .i64 n, .int .i64 b]] w fun e w' => ∃ q : Int, e = .returned (.agg #[.int .i64 n, .int .i64 q]) ∧ w.grownBy w' none := by
  obtain ⟨i0, hi, hz0, hz1, hz2⟩ := info_parts Try.info2
  obtain ⟨h16, hh2, h3, h4⟩ := shN hn
  generalize hR : R2 n = R at *
  go_enter Try.func81, Try.ntmps81
  have e1 : (w.alloc (.cells #[.int .i64 n, .int .i64 b] 25 (0, 0))).heap.size = w.heap.size + 1 := by simp
  have e2 : ((w.alloc (.cells #[.int .i64 n, .int .i64 b] 25 (0, 0))).alloc (.cells #[.int .i64 0, .int .i64 0] 25 (0, 0))).heap.size = w.heap.size + 2 := by simp
  have bA := blk_alloc (.cells #[] 2 (0, 0)) (blk_alloc (.cells #[.int .i64 0, .int .i64 0] 25 (0, 0)) (blk_new w (.cells #[.int .i64 n, .int .i64 b] 25 (0, 0))))
  have bB := blk_alloc (.cells #[] 2 (0, 0)) (blk_new (w.alloc (.cells #[.int .i64 n, .int .i64 b] 25 (0, 0))) (.cells #[.int .i64 0, .int .i64 0] 25 (0, 0)))
  have bC := blk_new ((w.alloc (.cells #[.int .i64 n, .int .i64 b] 25 (0, 0))).alloc (.cells #[.int .i64 0, .int .i64 0] 25 (0, 0))) (.cells #[] 2 (0, 0))
  rw [e1] at bB
  rw [e2] at bC
  have gA : w.grownBy (((w.alloc (.cells #[.int .i64 n, .int .i64 b] 25 (0, 0))).alloc (.cells #[.int .i64 0, .int .i64 0] 25 (0, 0))).alloc (.cells #[] 2 (0, 0))) none := grown_t2 (grown_t2 (World.grownBy_alloc _ _ none) (World.grownBy_alloc _ _ none)) (World.grownBy_alloc _ _ none)
  have cA := cell_blk (i := 0) (v := .int .i64 n) bA rfl
  go_wp2_with fail
  generalize ((w.alloc (.cells #[.int .i64 n, .int .i64 b] 25 (0, 0))).alloc (.cells #[.int .i64 0, .int .i64 0] 25 (0, 0))).alloc (.cells #[] 2 (0, 0)) = wA at *
  clear e1 e2
  refine (srows_anyd n hn _).mono ?_
  rw [hR]
  rintro e w1 ⟨rfl, hg1⟩
  replace bA := blk_fr' bA hg1 (by simp)
  replace bB := blk_fr' bB hg1 (by simp)
  replace bC := blk_fr' bC hg1 (by simp)
  replace gA := grown_t2 gA hg1
  clear hg1 cA
  go_wp2_with fail
  go_loopw [3, 5] (fun v r wr => ∃ k : Nat, r = .int .i64 k ∧ k ≤ R ∧ IntsR wr (w.heap.size + 2) v k ∧ wr.heap[w.heap.size]? = some (.cells #[.int .i64 n, .int .i64 b] 25 (0, 0)) ∧ wr.heap[w.heap.size + 1]? = some (.cells #[.int .i64 0, .int .i64 0] 25 (0, 0)) ∧ w.grownBy wr none ∧ w.heap.size + 1 < wr.heap.size) (fun _ r _ => R - (intOf r).toNat)
  case atStart => exact ⟨0, rfl, Nat.zero_le _, ⟨[], ⟨rfl, .inr ⟨_, 0, #[], rfl, Nat.le_refl _, bC, Nat.le_refl _, Nat.zero_le _, rfl, rfl⟩⟩, by simp⟩, bA, bB, gA, lt_of_block bB⟩
  case round =>
    obtain ⟨k, rfl, hk, ⟨xs, hown, hxs⟩, bD, bE, hgr, hsz⟩ := hrel
    have c0 := cell_blk (i := 0) (v := .int .i64 n) bD rfl
    have c1 := cell_blk (i := 1) (v := .int .i64 b) bD rfl
    by_cases hkn : k < R
    · have hRk : (R : Int) - 1 - k = ((R - 1 - k : Nat) : Int) := by omega
      go_wp2_with (first
        | (go_at_call 52; first | (rw [hRk]) | skip; refine (sat_anyd n b (R - 1 - k) (by omega) _).mono ?_; rintro e w1 ⟨y, rfl, hg1⟩; have hown1 := hown.kept hg1 (by cases u3.ownBlock <;> simp))
        | (at_builtin; refine wpList_append_own _ rfl (.tmp 15) (.tmp 23) 27 rfl (w.heap.size + 2) 2 i0 _ 1 8 Try.underlying27 hi hz0 hz1 hz2 rfl (by decide) _ _ _ rfl (hown1.alloc _) ⟨w1.heap.size, 0, none⟩ 1 1 [_] rfl rfl (one_cell (blk_new _ _)) (by intro u hu; simp at hu; subst hu; rfl) (by unfold maxLen; omega) (by omega) (by have := hg1.size; simp; omega) ?_; intro v' w3 hown' hgrow _)
        | fail)
      obtain ⟨ha, hb, hz⟩ := app_end hgr hg1 (by omega) (by have := hg1.size; omega) hown1 hgrow
      go_roundw
      case rel => exact ⟨k + 1, by go_num, by omega, IntsR.snoc hxs hown', hb _ _ (by omega) (blk_fr' bD hg1 (by simp)), hb _ _ (by omega) (blk_fr' bE hg1 (by simp)), ha, by have := hg1.size; omega⟩
      case measure => simp [intOf]; omega
    · obtain rfl : k = R := by omega
      go_wp2_with fail
      refine (of_any n (w.heap.size + 2) _ hn _ (by rw [hR]; exact ⟨xs, hown, hxs⟩)).mono ?_
      rintro e w2 ⟨q, rfl, hg2⟩
      have b2 := blk_fr' bE hg2 (by simp)
      have d0 := cell_blk (i := 0) (v := .int .i64 0) b2 rfl
      have d1 := cell_blk (i := 1) (v := .int .i64 0) b2 rfl
      have f0 := free_blk 0 b2
      have f1 := free_blk 1 b2
      go_wp2_with fail
      obtain ⟨hp, hq⟩ := ret_pair (n := n) (q := q) _ b2 (grown_t2 hgr hg2) (by omega)
      refine bodyPost_ret (results_c1 rfl _ _ (w.heap.size + 1) 25 _ (0, 0) rfl hp rfl) rfl ?_
      exact ⟨q, rfl, hq⟩
end

section
open Go.RowKit Go.IntWalk
theorem in_anyd (z a b : Int) (W : World) : Calls Try.prog 43 #[.int .i64 z, .int .i64 a, .int .i64 b] W fun e w' => e = .returned (.bool (decide (a ≤ z ∧ z ≤ b))) ∧ W.grownBy w' none := by
  refine (Ev.callF (vs := [.int .i64 z, .int .i64 a, .int .i64 b]) (ev43 z a b) (by simp only [VR, VRL]; exact ⟨_, _, rfl, rfl, _, _, rfl, rfl, _, _, rfl, rfl, rfl⟩) (by simp [V.idsL, V.ids]) (by simp [V.ids]) W).mono ?_
  rintro e w' ⟨u, rfl, hu, hg⟩
  simp only [VR] at hu; subst hu
  exact ⟨rfl, hg⟩
theorem bits_any (n b : Nat) (v : Value) (hn : n ≤ 16) (hn1 : 0 < n) (w : World) (hv : IntsR w b v n) : Calls Try.prog 58 #[v] w fun e w' => ∃ ok : Bool, e = .returned (.bool ok) ∧ w.grownBy w' none := by
  obtain ⟨g, cp, rfl, hbg, hgl, hc⟩ := hv.read hn1
  go_enter Try.func58, Try.ntmps58
  go_wp2_with fail
  go_loopw [3] (fun i wr => ∃ k : Nat, i = .int .i64 k ∧ k ≤ n ∧ w.grownBy wr none) (fun i _ => n - (intOf i).toNat)
  case atStart => exact ⟨0, rfl, Nat.zero_le _, ⟨rfl, rfl, rfl, Nat.le_refl _, fun _ _ _ => rfl⟩⟩
  case round =>
    obtain ⟨k, rfl, hk, hgr⟩ := hrel
    by_cases hkn : k < n
    · obtain ⟨z, hz⟩ := hc k hkn
      have hcz := hgr.cell hz (by simp)
      cases hd : decide ((0 : Int) ≤ z ∧ z ≤ 1)
      · go_wp2_with (first
          | (go_at_call 43; refine (in_anyd z 0 1 _).mono ?_; rw [hd]; rintro e w1 ⟨rfl, hg1⟩)
          | fail)
        go_ret
        exact ⟨_, rfl, grown_t2 hgr hg1⟩
      · go_wp2_with (first
          | (go_at_call 43; refine (in_anyd z 0 1 _).mono ?_; rw [hd]; rintro e w1 ⟨rfl, hg1⟩)
          | fail)
        go_roundw
        case rel => exact ⟨k + 1, by go_num, by omega, grown_t2 hgr hg1⟩
        case measure => simp [intOf]; omega
    · obtain rfl : k = n := by omega
      go_wp2_with fail
      go_ret
      exact ⟨_, rfl, hgr⟩
def knL : List ByteArray := [⟨#[48, 58, 48]⟩, ⟨#[48, 58, 49]⟩, ⟨#[49, 58, 48, 49]⟩, ⟨#[49, 58, 49, 48]⟩, ⟨#[50, 58, 48, 48, 48, 49]⟩, ⟨#[50, 58, 48, 49, 49, 49]⟩, ⟨#[50, 58, 48, 49, 49, 48]⟩, ⟨#[50, 58, 49, 49, 49, 48]⟩, ⟨#[50, 58, 49, 48, 48, 48]⟩, ⟨#[50, 58, 49, 48, 48, 49]⟩, ⟨#[50, 58, 49, 48, 49, 49]⟩, ⟨#[51, 58, 48, 48, 48, 49, 48, 49, 49, 49]⟩, ⟨#[51, 58, 48, 49, 49, 48, 49, 48, 48, 49]⟩, ⟨#[51, 58, 48, 48, 48, 49, 49, 48, 49, 49]⟩]
theorem known_any (w : World) : Calls Try.prog 78 #[] w fun e w' => e = .returned (.slice (some ⟨w.heap.size, 0, none⟩) 14 14) ∧ w.heap.size < w'.heap.size ∧ w.grownBy w' none ∧ ∀ i, i < 14 → ∃ s : ByteArray, w'.cell? ⟨w.heap.size, i, none⟩ = some (.string s) := by
  go_enter Try.func78, Try.ntmps78
  go_wp2_with fail
  go_ret
  refine ⟨rfl, by simp, World.grownBy_alloc _ _ _, fun i hi => ?_⟩
  have hb := blk_new w (.cells (knL.map Value.string).toArray 9 (0, 0))
  exact ⟨knL.getD i ⟨#[]⟩, cell_blk hb (by
    have : i < knL.length := hi
    simp [List.getD_eq_getElem?_getD, this])⟩
theorem results_c2 {fn : Func} {p t : Tmp} (h : fn.results = #[.cell p 25, .tmp t]) (tmps : Array Value) (w : World) (g : Nat) (e : TypeId) (cs : Array Value) (fr : Nat × Nat)
    (hp : tmps.getD p undef = .pointer (some ⟨g, 0, none⟩)) (hg : w.heap[g]? = some (.cells cs e fr)) (hi : cs.size = 2) : (results fn tmps).run Try.prog w = .ok (.tuple #[.agg cs, tmps.getD t undef]) w := by
  have hp' : tmps[p]?.getD undef = .pointer (some ⟨g, 0, none⟩) := by simpa using hp
  simp [results, h, hp', asAddr, run_loadVar_row w g e 25 cs fr _ hg Try.underlying25 rfl (by rw [show (Try.prog.info? 25).map (·.size) = some 2 by kernel_rfl, hi]), Result.andThen]
theorem read_anyd (s : ByteArray) (w : World) : Calls Try.prog 79 #[.string s] w fun e w' => ∃ (p q : Int) (ok : Value), e = .returned (.tuple #[.agg #[.int .i64 p, .int .i64 q], ok]) ∧ w.grownBy w' none := by
  have bA := blk_new w (.cells #[.int .i64 0, .int .i64 0] 25 (0, 0))
  have gA := World.grownBy_alloc w (.cells #[.int .i64 0, .int .i64 0] 25 (0, 0)) none
  by_cases h3 : s.size < 3
  · go_enter Try.func79, Try.ntmps79
    go_wp2_with fail
    refine bodyPost_ret (results_c2 rfl _ _ w.heap.size 25 _ (0, 0) rfl bA rfl) rfl ?_
    first
      | exact ⟨⟨_, _, _, rfl⟩, gA⟩
      | exact ⟨_, _, _, rfl, gA⟩
  · have hlen : 3 ≤ s.size := by omega
    by_cases hc : (s[1].toNat : Int) = 58
    · have hs0 : (s[0].toNat : Int) < 256 := by have := s[0].toNat_lt; omega
      have bB := blk_alloc (.cells #[] 2 (0, 0)) bA
      have bC := blk_new (w.alloc (.cells #[.int .i64 0, .int .i64 0] 25 (0, 0))) (.cells #[] 2 (0, 0))
      rw [show (w.alloc (.cells #[.int .i64 0, .int .i64 0] 25 (0, 0))).heap.size = w.heap.size + 1 by simp] at bC
      have gB := grown_t2 gA (World.grownBy_alloc (w.alloc (.cells #[.int .i64 0, .int .i64 0] 25 (0, 0))) (.cells #[] 2 (0, 0)) none)
      have hback : ∀ (W : World), W.heap[w.heap.size]? = some (.cells #[.int .i64 0, .int .i64 0] 25 (0, 0)) → w.grownBy W none → ∀ x y : Int, ((W.setCell ⟨w.heap.size, 0, none⟩ (.int .i64 x)).setCell ⟨w.heap.size, 1, none⟩ (.int .i64 y)).heap[w.heap.size]? = some (.cells #[.int .i64 x, .int .i64 y] 25 (0, 0)) ∧ w.grownBy ((W.setCell ⟨w.heap.size, 0, none⟩ (.int .i64 x)).setCell ⟨w.heap.size, 1, none⟩ (.int .i64 y)) none := fun W hb hg x y =>
        ⟨two_set1 (two_set0 hb), below_grown ((((Below.refl w.heap.size w).grown hg (Nat.le_refl _) (fun k hk => by cases hk)).setCell (Nat.le_refl _) _).setCell (Nat.le_refl _) _)⟩
      cases hin : decide ((0 : Int) ≤ (s[0].toNat : Int) - 48 ∧ (s[0].toNat : Int) - 48 ≤ 4)
      · go_enter Try.func79, Try.ntmps79
        go_wp2_with (first
          | (go_at_call 43; refine (in_anyd _ 0 4 _).mono ?_; rw [hin]; rintro e w1 ⟨rfl, hg1⟩; have b1 := blk_fr' bB hg1 (by simp); have c0 := cell_blk (i := 0) (v := .int .i64 0) b1 rfl; have c1 := cell_blk (i := 1) (v := .int .i64 0) b1 rfl; have f0 := free_blk 0 b1; have f1 := free_blk 1 b1)
          | fail)
        obtain ⟨hp, hq⟩ := hback _ b1 (grown_t2 gB hg1) 0 0
        refine bodyPost_ret (results_c2 rfl _ _ w.heap.size 25 _ (0, 0) rfl hp rfl) rfl ?_
        exact ⟨_, _, _, rfl, hq⟩
      · obtain ⟨h0, h4⟩ := of_decide_eq_true hin
        obtain ⟨n, hn⟩ := Int.eq_ofNat_of_zero_le h0
        have hn4 : n ≤ 4 := by omega
        obtain ⟨h16, hh2, h3', h4'⟩ := shN hn4
        have hzw : (s[0].toNat : Int) - 48 = (n : Int) := hn
        generalize hR : R2 n = R at *
        obtain ⟨i0, hi, hz0, hz1, hz2⟩ := info_parts Try.info2
        by_cases hsz : (s.size : Int) = 2 + (R : Int)
        · have hszN : s.size = 2 + R := by omega
          go_enter Try.func79, Try.ntmps79
          go_wp2_with (first
            | (go_at_call 43; refine (in_anyd _ 0 4 _).mono ?_; rw [show decide ((0 : Int) ≤ (n : Int) ∧ (n : Int) ≤ 4) = true from decide_eq_true (by omega)]; rintro e w1 ⟨rfl, hg1⟩)
            | (go_at_call 53; refine (srows_anyd n hn4 _).mono ?_; rw [hR]; rintro e w2 ⟨rfl, hg2⟩)
            | fail)
          replace bB := blk_fr' (blk_fr' bB hg1 (by simp)) hg2 (by simp)
          replace bC := blk_fr' (blk_fr' bC hg1 (by simp)) hg2 (by simp)
          replace gB := grown_t2 (grown_t2 gB hg1) hg2
          clear hg1 hg2
          go_loopw [5, 6] (fun v i wr => ∃ k : Nat, i = .int .i64 (2 + (k : Int)) ∧ k ≤ R ∧ IntsR wr (w.heap.size + 1) v k ∧ wr.heap[w.heap.size]? = some (.cells #[.int .i64 0, .int .i64 0] 25 (0, 0)) ∧ w.grownBy wr none ∧ w.heap.size < wr.heap.size) (fun _ i _ => R + 2 - (intOf i).toNat)
          case atStart => exact ⟨0, rfl, Nat.zero_le _, ⟨[], ⟨rfl, .inr ⟨_, 0, #[], rfl, Nat.le_refl _, bC, Nat.le_refl _, Nat.zero_le _, rfl, rfl⟩⟩, by simp⟩, bB, gB, lt_of_block bB⟩
          case round =>
            obtain ⟨k, rfl, hk, hIR, bD, hgr, hsz'⟩ := hrel
            by_cases hkn : k < R
            · obtain ⟨xs, hown, hxs⟩ := hIR
              have hidx : 2 + k < s.size := by omega
              go_wp2_with (first
                | (at_builtin; refine wpList_append_own _ rfl (.tmp 39) (.tmp 45) 27 rfl (w.heap.size + 1) 2 i0 _ 1 8 Try.underlying27 hi hz0 hz1 hz2 rfl (by decide) _ _ _ rfl (hown.alloc _) ⟨wr.heap.size, 0, none⟩ 1 1 [_] rfl rfl (one_cell (blk_new _ _)) (by intro u hu; simp at hu; subst hu; rfl) (by unfold maxLen; omega) (by omega) (by simp; omega) ?_; intro v' w3 hown' hgrow _)
                | fail)
              obtain ⟨ha, hb', hz⟩ := app_end hgr (show wr.grownBy wr none from ⟨rfl, rfl, rfl, Nat.le_refl _, fun _ _ _ => rfl⟩) (by omega) (by omega) hown hgrow
              go_roundw
              case rel => exact ⟨k + 1, by go_num, by omega, IntsR.snoc hxs hown', hb' _ _ (by omega) bD, ha, by omega⟩
              case measure => simp [intOf]; omega
            · obtain rfl : k = R := by omega
              have hIR' := hIR
              rw [← hR] at hIR'
              go_wp2_with (first
                | (go_at_call 58; refine (bits_any k (w.heap.size + 1) _ (by omega) (by omega) _ hIR).mono ?_; rintro e w4 ⟨ok, rfl, hg4⟩; have b4 := blk_fr' bD hg4 (by simp); have c0 := cell_blk (i := 0) (v := .int .i64 0) b4 rfl; have c1 := cell_blk (i := 1) (v := .int .i64 0) b4 rfl; have f0 := free_blk 0 b4; have f1 := free_blk 1 b4)
                | fail)
              · obtain ⟨hp, hq⟩ := hback _ b4 (grown_t2 hgr hg4) 0 0
                refine bodyPost_ret (results_c2 rfl _ _ w.heap.size 25 _ (0, 0) rfl hp rfl) rfl ?_
                first
                  | exact ⟨⟨_, _, _, rfl⟩, hq⟩
                  | exact ⟨_, _, _, rfl, hq⟩
              · refine (of_any n (w.heap.size + 1) _ hn4 _ (hIR'.kept hg4 (by simp))).mono ?_
                rintro e w5 ⟨q, rfl, hg5⟩
                have b5 := blk_fr' b4 hg5 (by simp)
                have d0 := cell_blk (i := 0) (v := .int .i64 0) b5 rfl
                have d1 := cell_blk (i := 1) (v := .int .i64 0) b5 rfl
                have e0 := free_blk 0 b5
                have e1 := free_blk 1 b5
                go_wp2_with fail
                obtain ⟨hp, hq⟩ := hback _ b5 (grown_t2 (grown_t2 hgr hg4) hg5) n q
                refine bodyPost_ret (results_c2 rfl _ _ w.heap.size 25 _ (0, 0) rfl hp rfl) rfl ?_
                first
                  | exact ⟨⟨_, _, _, rfl⟩, hq⟩
                  | exact ⟨_, _, _, rfl, hq⟩
        · have hsq : ((s.size : Int) == 2 + (R : Int)) = false := by simpa using hsz
          go_enter Try.func79, Try.ntmps79
          go_wp2_with (first
            | (go_at_call 43; refine (in_anyd _ 0 4 _).mono ?_; rw [show decide ((0 : Int) ≤ (n : Int) ∧ (n : Int) ≤ 4) = true from decide_eq_true (by omega)]; rintro e w1 ⟨rfl, hg1⟩; have b1 := blk_fr' bB hg1 (by simp))
            | (go_at_call 53; refine (srows_anyd n hn4 _).mono ?_; rw [hR]; rintro e w2 ⟨rfl, hg2⟩; have b2 := blk_fr' b1 hg2 (by simp); have c0 := cell_blk (i := 0) (v := .int .i64 0) b2 rfl; have c1 := cell_blk (i := 1) (v := .int .i64 0) b2 rfl; have f0 := free_blk 0 b2; have f1 := free_blk 1 b2)
            | fail)
          obtain ⟨hp, hq⟩ := hback _ b2 (grown_t2 (grown_t2 gB hg1) hg2) 0 0
          refine bodyPost_ret (results_c2 rfl _ _ w.heap.size 25 _ (0, 0) rfl hp rfl) rfl ?_
          first
            | exact ⟨⟨_, _, _, rfl⟩, hq⟩
            | exact ⟨_, _, _, rfl, hq⟩
    · have hb8 : ((s[1].toNat : Int) == 58) = false := by simpa using hc
      have hb9 : ((s[1].toNat : Int) != 58) = true := by simpa using hc
      go_enter Try.func79, Try.ntmps79
      have c0 := cell_blk (i := 0) (v := .int .i64 0) bA rfl
      have c1 := cell_blk (i := 1) (v := .int .i64 0) bA rfl
      go_wp2_with fail
      all_goals
        refine bodyPost_ret (results_c2 rfl _ _ w.heap.size 25 _ (0, 0) rfl bA rfl) rfl ?_
        first
          | exact ⟨⟨_, _, _, rfl⟩, gA⟩
          | exact ⟨_, _, _, rfl, gA⟩
end


end Go.Proofs.Ytlhhbhmobllafaa
