/- What each function that the statement reaches returns. -/
import Derived.Test.YtdmpajkcpdjfbaaFnExactLastStepTA
set_option linter.unusedVariables false
set_option linter.unusedSimpArgs false
set_option maxRecDepth 100000
set_option maxHeartbeats 4000000
namespace Go.Proofs.Ytdmpajkcpdjfbaa
open Go Go.Proofs.Ytdmpajkcpdjfbaa.Mi
attribute [local irreducible] code opsK opsDK gopK opK seqK blockK callK binV
attribute [local irreducible] R2 bt
-- (*impl.generated).steps
def m94_0 : MC := (.seq (.region [⟨(.bin .lss (.t 44) (.t 43)), (some 45), none⟩] false) (.seq (.cond (.t 45) .skip (.exit 0)) (.seq (.block 1 (.seq (.region [⟨(.indexAddr 2 (.t 42) (.t 44)), (some 46), none⟩, ⟨(.load (some 2) (.t 46)), (some 47), none⟩, ⟨(.alloc [(.int .i64 0), (.int .i64 0)]), (some 15), none⟩, ⟨(.store 2 (.t 15) (.t 47)), none, none⟩] false) (.seq (.regionL [⟨(.load none (.t 6)), (some 48), none⟩, ⟨(.load (some 2) (.t 7)), (some 49), none⟩, ⟨(.mov (.t 2)), (some 50), none⟩, ⟨(.mov (.t 3)), (some 51), none⟩, ⟨(.load (some 2) (.t 15)), (some 52), none⟩, ⟨(.bslice 2 [(.int .i64 0), (.int .i64 0)] 1 [(0, (2, (.t 52)))]), (some 53), none⟩, ⟨(.append 2 16 (.t 51) (.t 53)), (some 54), none⟩, ⟨(.load none (.t 10)), (some 55), none⟩, ⟨(.mov (.t 5)), (some 56), none⟩, ⟨(.callw 94 [(.t 48), (.t 49), (.t 50), (.t 54), (.t 55), (.t 56)]), (some 57), none⟩, ⟨(.un .not (.t 57)), (some 58), none⟩] [0, 1, 7]) (.cond (.t 58) (.seq (.region [⟨(.mov (.k (.bool false))), (some 12), none⟩] false) .ret) .skip)))) (.region [⟨(.bin .add (.t 44) (.k (.int .i64 1))), (some 59), none⟩, ⟨(.mov (.t 59)), (some 44), none⟩] false))))
def m94 : MC := (.seq (.region [⟨(.box (.t 0)), (some 6), none⟩, ⟨(.box (.t 1)), (some 7), none⟩, ⟨(.box (.t 4)), (some 10), none⟩, ⟨(.mov (.k (.bool false))), (some 12), none⟩] false) (.seq (.seq (.region [⟨(.mov (.t 3)), (some 16), none⟩, ⟨(.len (.t 16)), (some 17), none⟩, ⟨(.fieldAddr 0 (.t 7)), (some 18), none⟩, ⟨(.load none (.t 18)), (some 19), none⟩, ⟨(.bin .eql (.t 17) (.t 19)), (some 20), none⟩] false) (.cond (.t 20) (.seq (.region [⟨(.load none (.t 10)), (some 21), none⟩, ⟨(.bin .eql (.t 21) (.k (.int .i64 1))), (some 22), none⟩, ⟨(.mov (.t 22)), (some 23), none⟩, ⟨(.mov (.t 3)), (some 24), (some (23, false))⟩, ⟨(.mkfn 134 [(.t 6), (.t 10)]), (some 25), (some (23, false))⟩, ⟨(.call 115 [(.t 24), (.t 25)]), (some 26), (some (23, false))⟩, ⟨(.pick (.t 23) (.k (.bool true)) (.t 26)), (some 27), none⟩, ⟨(.mov (.t 27)), (some 13), none⟩] false) (.seq (.region [⟨(.mov (.t 13)), (some 28), none⟩, ⟨(.un .not (.t 28)), (some 29), none⟩, ⟨(.mov (.t 29)), (some 30), none⟩, ⟨(.mov (.t 5)), (some 31), (some (30, false))⟩, ⟨(.load (some 2) (.t 7)), (some 32), (some (30, false))⟩, ⟨(.load none (.t 6)), (some 33), (some (30, false))⟩, ⟨(.nilck (.t 33)), (some 34), (some (30, false))⟩, ⟨(.fieldAddr 1 (.t 34)), (some 35), (some (30, false))⟩, ⟨(.load none (.t 35)), (some 36), (some (30, false))⟩, ⟨(.mov (.t 3)), (some 37), (some (30, false))⟩, ⟨(.callw 135 [(.t 32), (.t 36), (.t 37)]), (some 38), (some (30, false))⟩, ⟨(.mov (.t 3)), (some 39), (some (30, false))⟩, ⟨(.callvw (.t 31) [(.t 38), (.t 39)]), (some 40), (some (30, false))⟩, ⟨(.pick (.t 30) (.k (.bool true)) (.t 40)), (some 41), none⟩, ⟨(.mov (.t 41)), (some 12), none⟩] true) .ret)) .skip)) (.seq (.seq (.region [⟨(.mov (.t 2)), (some 42), none⟩, ⟨(.len (.t 42)), (some 43), none⟩, ⟨(.mov (.k (.int .i64 0))), (some 44), none⟩] false) (.block 0 (.loop m94_0))) (.seq (.region [⟨(.mov (.k (.bool true))), (some 12), none⟩] false) .ret))))
theorem has94 : Has cx 94 60 m94 [(.tmp 12)] :=
  ⟨⟨Try.f94, Try.f94.body.getD .skip, by kernel_rfl, by kernel_rfl, by kernel_rfl, by kernel_rfl, by kernel_rfl, by kernel_rfl⟩⟩
theorem evsb_e (n N d b : Nat) (fs : List (Int × Int)) (D : List Int) (A : Bool) (L : List Nat) (hN : D.length = N) (hNn : N = R2 (R2 n)) (hn : n ≤ 4) (hd : d < 65536) (hb : b < 65536) : Ev cx 94 [.ptr 0 0, .agg [.int .i64 (0 : Nat), .int .i64 (b : Nat)], .sl 3 0 L.length, .nils, .int .i64 (d : Nat), .fn 128 [.ptr 4 0, .ptr 5 0, .ptr 6 0]] [⟨[.sl 1 0 fs.length, .int .i64 (n : Nat), .sl 2 0 N], 1, 0, some 0, true⟩, ⟨fns fs, 2, 1, some 0, false⟩, ⟨zints D, 1, 2, some 0, false⟩, ⟨prs n L, 2, 3, some 0, false⟩, ⟨[.ptr 0 0], 1, 4, some 0, true⟩, ⟨[.int .i64 (d : Nat)], 1, 5, some 0, true⟩, ⟨[.bool A], 1, 6, some 0, true⟩] (.bool true) [⟨[.sl 1 0 fs.length, .int .i64 (n : Nat), .sl 2 0 N], 1, 0, some 0, true⟩, ⟨fns fs, 2, 1, some 0, false⟩, ⟨zints (leafI (d : Int) n b [] (D, A)).1, 1, 2, some 0, false⟩, ⟨prs n L, 2, 3, some 0, false⟩, ⟨[.ptr 0 0], 1, 4, some 0, true⟩, ⟨[.int .i64 (d : Nat)], 1, 5, some 0, true⟩, ⟨[.bool (leafI (d : Int) n b [] (D, A)).2], 1, 6, some 0, true⟩] := by
  obtain ⟨h1, h2, h3, h4⟩ := shN hn
  have hv := valS_lt b (R2 n) []
  have e2 := evput_e n b  ((0 : Nat) : Int) (by simp) (fun j hj => by simp at hj) hb hn
  have e3 := evcb_e n N d (valS b (R2 n) []) fs D A (by omega) hN
  have hq : (((0 : Nat) : Int) == ((0 : Nat) : Int)) = true := by simp
  cases hd1 : (((d : Nat) : Int) == 1)
  · have e1 := evcf_ste n N d fs D
    rw [show (!allF (fun i => !(fun _ => false) i) 0 0) = false from rfl] at e1
    have hL : leafI (d : Int) n b [] (D, A) = (D, A) := by unfold leafI isNw; rw [hd1]; rfl
    rw [hL]
    refine has94.eev rfl rfl ?_
    unfold m94
    repeat' (first
      | (refine g_op ?_; first
        | refine ep_mov rfl ?_ | refine ep_load1 rfl rfl rfl rfl ?_ | refine ep_fieldAddr rfl ?_ | refine sp_loadN rfl rfl rfl rfl rfl ?_
        | refine ep_call0 rfl (by first | exact e1) rfl rfl ?_
        | refine sp_call rfl rfl rfl rfl (by first | exact e1) ⟨rfl, rfl, rfl, rfl⟩ rfl rfl rfl ?_
        | refine ep_callw0 rfl (by first | exact e1) rfl rfl ?_
        | refine sp_callw rfl rfl rfl rfl (by first | exact e1) ⟨rfl, rfl, rfl, rfl⟩ rfl rfl rfl (by first | exact WrP_refl _ _ | (repeat' (first | exact rfl | exact True.intro | refine And.intro ?_ ?_))) ?_
        | refine sp_callvw rfl rfl rfl rfl rfl rfl (by first | exact e1) ⟨rfl, rfl, rfl, rfl⟩ rfl rfl rfl (by first | exact WrP_refl _ _ | (repeat' (first | exact rfl | exact True.intro | refine And.intro ?_ ?_))) ?_
        | refine sp_callbw rfl rfl rfl rfl rfl rfl (by first | exact e1) ⟨rfl, rfl, rfl, rfl⟩ rfl rfl rfl (by first | exact WrP_refl _ _ | (repeat' (first | exact rfl | exact True.intro | refine And.intro ?_ ?_))) ?_
        | refine ep_bin rfl rfl (by exact b_eql) ?_ | refine ep_pickT rfl rfl ?_ | refine ep_pickF rfl rfl ?_ | refine ep_pickTH rfl (by assumption) rfl ?_ | refine ep_pickFH rfl (by assumption) rfl ?_
        | refine ep_not rfl ?_ | refine ep_lenS rfl ?_ | refine ep_lenN rfl ?_ | refine ep_lenE rfl ?_ | refine sp_box rfl rfl rfl rfl rfl ?_ | refine ep_mkfn rfl ?_ | refine ep_nilckP rfl ?_ | refine ep_nilckF rfl ?_)
      | (refine g_ops ?_; first | refine eo_none ?_ | refine eo_nil ?_ | refine eo_yes rfl ?_ | refine eo_no rfl ?_ | refine eo_und rfl ?_ | refine eo_yesH rfl (by assumption) ?_ | refine eo_noH rfl (by assumption) ?_)
      | (refine g_dops ?_; first | refine ed_none ?_ | refine ed_nil ?_ | refine ed_yes rfl ?_ | refine ed_no rfl ?_ | refine ed_und rfl ?_ | refine ed_yesH rfl (by assumption) ?_ | refine ed_noH rfl (by assumption) ?_)
      | refine ed_same rfl ?_ | refine ed_one rfl rfl rfl rfl ?_ | refine ed_two rfl rfl rfl rfl rfl rfl rfl ?_ | refine ed_write rfl rfl ?_
      | (refine g_code ?_; first | refine ec_seq ?_ | refine ec_region ?_ | refine ec_draw ?_ | refine ec_block ?_ | refine ec_skip ?_ | refine ec_ret ?_ | refine ec_condT rfl ?_ | refine ec_condF rfl ?_ | refine ec_condTH rfl (by assumption) ?_ | refine ec_condFH rfl (by assumption) ?_)
      | refine ek_seqN ?_ | refine ek_seqX ?_ | refine ek_seqR ?_ | refine ek_blkN ?_ | refine ek_blkR ?_ | refine ek_blkX ?_ | refine ek_blkY rfl ?_)
    refine sfin (.inr rfl) (by rfl) (by rfl) (by exact ⟨rfl, rfl, rfl⟩) (by rfl) (by rfl) (by rfl) (by first | rfl | (simp; done) | (simp [ints, prs]; done))
  · have hL : leafI (d : Int) n b [] (D, A) = upS (d : Int) (valS b (R2 n) []) (D, A) := by unfold leafI isNw; rw [hd1]; rfl
    rw [hL]
    refine has94.eev rfl rfl ?_
    unfold m94
    repeat' (first
      | (refine g_op ?_; first
        | refine ep_mov rfl ?_ | refine ep_load1 rfl rfl rfl rfl ?_ | refine ep_fieldAddr rfl ?_ | refine sp_loadN rfl rfl rfl rfl rfl ?_
        | refine ep_call0 rfl (by first | exact e2 | exact e3) rfl rfl ?_
        | refine sp_call rfl rfl rfl rfl (by first | exact e2 | exact e3) ⟨rfl, rfl, rfl, rfl⟩ rfl rfl rfl ?_
        | refine ep_callw0 rfl (by first | exact e2 | exact e3) rfl rfl ?_
        | refine sp_callw rfl rfl rfl rfl (by first | exact e2 | exact e3) ⟨rfl, rfl, rfl, rfl⟩ rfl rfl rfl (by first | exact WrP_refl _ _ | (repeat' (first | exact rfl | exact True.intro | refine And.intro ?_ ?_))) ?_
        | refine sp_callvw rfl rfl rfl rfl rfl rfl (by first | exact e2 | exact e3) ⟨rfl, rfl, rfl, rfl⟩ rfl rfl rfl (by first | exact WrP_refl _ _ | (repeat' (first | exact rfl | exact True.intro | refine And.intro ?_ ?_))) ?_
        | refine sp_callbw rfl rfl rfl rfl rfl rfl (by first | exact e2 | exact e3) ⟨rfl, rfl, rfl, rfl⟩ rfl rfl rfl (by first | exact WrP_refl _ _ | (repeat' (first | exact rfl | exact True.intro | refine And.intro ?_ ?_))) ?_
        | refine ep_bin rfl rfl (by exact b_eql) ?_ | refine ep_pickT rfl rfl ?_ | refine ep_pickF rfl rfl ?_ | refine ep_pickTH rfl (by assumption) rfl ?_ | refine ep_pickFH rfl (by assumption) rfl ?_
        | refine ep_not rfl ?_ | refine ep_lenS rfl ?_ | refine ep_lenN rfl ?_ | refine ep_lenE rfl ?_ | refine sp_box rfl rfl rfl rfl rfl ?_ | refine ep_mkfn rfl ?_ | refine ep_nilckP rfl ?_ | refine ep_nilckF rfl ?_)
      | (refine g_ops ?_; first | refine eo_none ?_ | refine eo_nil ?_ | refine eo_yes rfl ?_ | refine eo_no rfl ?_ | refine eo_und rfl ?_ | refine eo_yesH rfl (by assumption) ?_ | refine eo_noH rfl (by assumption) ?_)
      | (refine g_dops ?_; first | refine ed_none ?_ | refine ed_nil ?_ | refine ed_yes rfl ?_ | refine ed_no rfl ?_ | refine ed_und rfl ?_ | refine ed_yesH rfl (by assumption) ?_ | refine ed_noH rfl (by assumption) ?_)
      | refine ed_same rfl ?_ | refine ed_one rfl rfl rfl rfl ?_ | refine ed_two rfl rfl rfl rfl rfl rfl rfl ?_ | refine ed_write rfl rfl ?_
      | (refine g_code ?_; first | refine ec_seq ?_ | refine ec_region ?_ | refine ec_draw ?_ | refine ec_block ?_ | refine ec_skip ?_ | refine ec_ret ?_ | refine ec_condT rfl ?_ | refine ec_condF rfl ?_ | refine ec_condTH rfl (by assumption) ?_ | refine ec_condFH rfl (by assumption) ?_)
      | refine ek_seqN ?_ | refine ek_seqX ?_ | refine ek_seqR ?_ | refine ek_blkN ?_ | refine ek_blkR ?_ | refine ek_blkX ?_ | refine ek_blkY rfl ?_)
    refine sfin (.inr rfl) (by rfl) (by rfl) (by exact ⟨rfl, rfl, rfl⟩) (by rfl) (by rfl) (by rfl) (by first | rfl | (simp; done) | (simp [ints, prs]; done))
theorem evsb_c (n N d b q0 : Nat) (fs : List (Int × Int)) (D : List Int) (A : Bool) (L l : List Nat) (hl4 : l.length ≤ 4) (hl : ∀ j, j < l.length → l.getD j 0 < N) (hN : D.length = N) (hNn : N = R2 (R2 n)) (hn : n ≤ 4) (hd : d < 65536) (hb : b < 65536) : Ev cx 94 [.ptr 0 0, .agg [.int .i64 (l.length : Nat), .int .i64 (b : Nat)], .sl 3 0 L.length, .sl 4 0 l.length, .int .i64 (d : Nat), .fn 128 [.ptr 5 0, .ptr 6 0, .ptr 7 0]] [⟨[.sl 1 0 fs.length, .int .i64 (n : Nat), .sl 2 0 N], 1, 0, some 0, true⟩, ⟨fns fs, 2, 1, some 0, false⟩, ⟨zints D, 1, 2, some 0, false⟩, ⟨prs n L, 2, 3, some 0, false⟩, ⟨prs n (l), 2, 4, some q0, false⟩, ⟨[.ptr 0 0], 1, 5, some 0, true⟩, ⟨[.int .i64 (d : Nat)], 1, 6, some 0, true⟩, ⟨[.bool A], 1, 7, some 0, true⟩] (.bool true) [⟨[.sl 1 0 fs.length, .int .i64 (n : Nat), .sl 2 0 N], 1, 0, some 0, true⟩, ⟨fns fs, 2, 1, some 0, false⟩, ⟨zints (leafI (d : Int) n b l (D, A)).1, 1, 2, some 0, false⟩, ⟨prs n L, 2, 3, some 0, false⟩, ⟨prs n (l), 2, 4, some q0, false⟩, ⟨[.ptr 0 0], 1, 5, some 0, true⟩, ⟨[.int .i64 (d : Nat)], 1, 6, some 0, true⟩, ⟨[.bool (leafI (d : Int) n b l (D, A)).2], 1, 7, some 0, true⟩] := by
  obtain ⟨h1, h2, h3, h4⟩ := shN hn
  have hv := valS_lt b (R2 n) l
  have e2 := evput_c n b q0 l.length l (by omega) (fun j hj => by have := hl j hj; omega) hb hn
  have e3 := evcb_c n N d (valS b (R2 n) l) q0 fs D A l (by omega) hN
  have hq : (((l.length : Nat) : Int) == ((l.length : Nat) : Int)) = true := by simp
  cases hd1 : (((d : Nat) : Int) == 1)
  · have e1 := evcf_st n N d q0 fs D l hl hl4 hN hd
    cases hc : allF (fun i => !(fun j => D.getD (l.getD j 0) 0 == (d : Int) - 1) i) 0 l.length
    · rw [hc] at e1
      have hc' : allF (fun j => !(D.getD (l.getD j 0) 0 == (d : Int) - 1)) 0 l.length = false := hc
      have hL : leafI (d : Int) n b l (D, A) = upS (d : Int) (valS b (R2 n) l) (D, A) := by unfold leafI isNw; rw [hd1, hc']; rfl
      rw [hL]
      refine has94.eev rfl rfl ?_
      unfold m94
      repeat' (first
        | (refine g_op ?_; first
          | refine ep_mov rfl ?_ | refine ep_load1 rfl rfl rfl rfl ?_ | refine ep_fieldAddr rfl ?_ | refine sp_loadN rfl rfl rfl rfl rfl ?_
          | refine ep_call0 rfl (by first | exact e1 | exact e2 | exact e3) rfl rfl ?_
          | refine sp_call rfl rfl rfl rfl (by first | exact e1 | exact e2 | exact e3) ⟨rfl, rfl, rfl, rfl⟩ rfl rfl rfl ?_
          | refine ep_callw0 rfl (by first | exact e1 | exact e2 | exact e3) rfl rfl ?_
          | refine sp_callw rfl rfl rfl rfl (by first | exact e1 | exact e2 | exact e3) ⟨rfl, rfl, rfl, rfl⟩ rfl rfl rfl (by first | exact WrP_refl _ _ | (repeat' (first | exact rfl | exact True.intro | refine And.intro ?_ ?_))) ?_
          | refine sp_callvw rfl rfl rfl rfl rfl rfl (by first | exact e1 | exact e2 | exact e3) ⟨rfl, rfl, rfl, rfl⟩ rfl rfl rfl (by first | exact WrP_refl _ _ | (repeat' (first | exact rfl | exact True.intro | refine And.intro ?_ ?_))) ?_
          | refine sp_callbw rfl rfl rfl rfl rfl rfl (by first | exact e1 | exact e2 | exact e3) ⟨rfl, rfl, rfl, rfl⟩ rfl rfl rfl (by first | exact WrP_refl _ _ | (repeat' (first | exact rfl | exact True.intro | refine And.intro ?_ ?_))) ?_
          | refine ep_bin rfl rfl (by exact b_eql) ?_ | refine ep_pickT rfl rfl ?_ | refine ep_pickF rfl rfl ?_ | refine ep_pickTH rfl (by assumption) rfl ?_ | refine ep_pickFH rfl (by assumption) rfl ?_
          | refine ep_not rfl ?_ | refine ep_lenS rfl ?_ | refine ep_lenN rfl ?_ | refine ep_lenE rfl ?_ | refine sp_box rfl rfl rfl rfl rfl ?_ | refine ep_mkfn rfl ?_ | refine ep_nilckP rfl ?_ | refine ep_nilckF rfl ?_)
        | (refine g_ops ?_; first | refine eo_none ?_ | refine eo_nil ?_ | refine eo_yes rfl ?_ | refine eo_no rfl ?_ | refine eo_und rfl ?_ | refine eo_yesH rfl (by assumption) ?_ | refine eo_noH rfl (by assumption) ?_)
        | (refine g_dops ?_; first | refine ed_none ?_ | refine ed_nil ?_ | refine ed_yes rfl ?_ | refine ed_no rfl ?_ | refine ed_und rfl ?_ | refine ed_yesH rfl (by assumption) ?_ | refine ed_noH rfl (by assumption) ?_)
        | refine ed_same rfl ?_ | refine ed_one rfl rfl rfl rfl ?_ | refine ed_two rfl rfl rfl rfl rfl rfl rfl ?_ | refine ed_write rfl rfl ?_
        | (refine g_code ?_; first | refine ec_seq ?_ | refine ec_region ?_ | refine ec_draw ?_ | refine ec_block ?_ | refine ec_skip ?_ | refine ec_ret ?_ | refine ec_condT rfl ?_ | refine ec_condF rfl ?_ | refine ec_condTH rfl (by assumption) ?_ | refine ec_condFH rfl (by assumption) ?_)
        | refine ek_seqN ?_ | refine ek_seqX ?_ | refine ek_seqR ?_ | refine ek_blkN ?_ | refine ek_blkR ?_ | refine ek_blkX ?_ | refine ek_blkY rfl ?_)
      refine sfin (.inr rfl) (by rfl) (by rfl) (by exact ⟨rfl, rfl, rfl⟩) (by rfl) (by rfl) (by rfl) (by first | rfl | (simp; done) | (simp [ints, prs]; done))
    · rw [hc] at e1
      have hc' : allF (fun j => !(D.getD (l.getD j 0) 0 == (d : Int) - 1)) 0 l.length = true := hc
      have hL : leafI (d : Int) n b l (D, A) = (D, A) := by unfold leafI isNw; rw [hd1, hc']; rfl
      rw [hL]
      refine has94.eev rfl rfl ?_
      unfold m94
      repeat' (first
        | (refine g_op ?_; first
          | refine ep_mov rfl ?_ | refine ep_load1 rfl rfl rfl rfl ?_ | refine ep_fieldAddr rfl ?_ | refine sp_loadN rfl rfl rfl rfl rfl ?_
          | refine ep_call0 rfl (by first | exact e1) rfl rfl ?_
          | refine sp_call rfl rfl rfl rfl (by first | exact e1) ⟨rfl, rfl, rfl, rfl⟩ rfl rfl rfl ?_
          | refine ep_callw0 rfl (by first | exact e1) rfl rfl ?_
          | refine sp_callw rfl rfl rfl rfl (by first | exact e1) ⟨rfl, rfl, rfl, rfl⟩ rfl rfl rfl (by first | exact WrP_refl _ _ | (repeat' (first | exact rfl | exact True.intro | refine And.intro ?_ ?_))) ?_
          | refine sp_callvw rfl rfl rfl rfl rfl rfl (by first | exact e1) ⟨rfl, rfl, rfl, rfl⟩ rfl rfl rfl (by first | exact WrP_refl _ _ | (repeat' (first | exact rfl | exact True.intro | refine And.intro ?_ ?_))) ?_
          | refine sp_callbw rfl rfl rfl rfl rfl rfl (by first | exact e1) ⟨rfl, rfl, rfl, rfl⟩ rfl rfl rfl (by first | exact WrP_refl _ _ | (repeat' (first | exact rfl | exact True.intro | refine And.intro ?_ ?_))) ?_
          | refine ep_bin rfl rfl (by exact b_eql) ?_ | refine ep_pickT rfl rfl ?_ | refine ep_pickF rfl rfl ?_ | refine ep_pickTH rfl (by assumption) rfl ?_ | refine ep_pickFH rfl (by assumption) rfl ?_
          | refine ep_not rfl ?_ | refine ep_lenS rfl ?_ | refine ep_lenN rfl ?_ | refine ep_lenE rfl ?_ | refine sp_box rfl rfl rfl rfl rfl ?_ | refine ep_mkfn rfl ?_ | refine ep_nilckP rfl ?_ | refine ep_nilckF rfl ?_)
        | (refine g_ops ?_; first | refine eo_none ?_ | refine eo_nil ?_ | refine eo_yes rfl ?_ | refine eo_no rfl ?_ | refine eo_und rfl ?_ | refine eo_yesH rfl (by assumption) ?_ | refine eo_noH rfl (by assumption) ?_)
        | (refine g_dops ?_; first | refine ed_none ?_ | refine ed_nil ?_ | refine ed_yes rfl ?_ | refine ed_no rfl ?_ | refine ed_und rfl ?_ | refine ed_yesH rfl (by assumption) ?_ | refine ed_noH rfl (by assumption) ?_)
        | refine ed_same rfl ?_ | refine ed_one rfl rfl rfl rfl ?_ | refine ed_two rfl rfl rfl rfl rfl rfl rfl ?_ | refine ed_write rfl rfl ?_
        | (refine g_code ?_; first | refine ec_seq ?_ | refine ec_region ?_ | refine ec_draw ?_ | refine ec_block ?_ | refine ec_skip ?_ | refine ec_ret ?_ | refine ec_condT rfl ?_ | refine ec_condF rfl ?_ | refine ec_condTH rfl (by assumption) ?_ | refine ec_condFH rfl (by assumption) ?_)
        | refine ek_seqN ?_ | refine ek_seqX ?_ | refine ek_seqR ?_ | refine ek_blkN ?_ | refine ek_blkR ?_ | refine ek_blkX ?_ | refine ek_blkY rfl ?_)
      refine sfin (.inr rfl) (by rfl) (by rfl) (by exact ⟨rfl, rfl, rfl⟩) (by rfl) (by rfl) (by rfl) (by first | rfl | (simp; done) | (simp [ints, prs]; done))
  · have hL : leafI (d : Int) n b l (D, A) = upS (d : Int) (valS b (R2 n) l) (D, A) := by unfold leafI isNw; rw [hd1]; rfl
    rw [hL]
    refine has94.eev rfl rfl ?_
    unfold m94
    repeat' (first
      | (refine g_op ?_; first
        | refine ep_mov rfl ?_ | refine ep_load1 rfl rfl rfl rfl ?_ | refine ep_fieldAddr rfl ?_ | refine sp_loadN rfl rfl rfl rfl rfl ?_
        | refine ep_call0 rfl (by first | exact e2 | exact e3) rfl rfl ?_
        | refine sp_call rfl rfl rfl rfl (by first | exact e2 | exact e3) ⟨rfl, rfl, rfl, rfl⟩ rfl rfl rfl ?_
        | refine ep_callw0 rfl (by first | exact e2 | exact e3) rfl rfl ?_
        | refine sp_callw rfl rfl rfl rfl (by first | exact e2 | exact e3) ⟨rfl, rfl, rfl, rfl⟩ rfl rfl rfl (by first | exact WrP_refl _ _ | (repeat' (first | exact rfl | exact True.intro | refine And.intro ?_ ?_))) ?_
        | refine sp_callvw rfl rfl rfl rfl rfl rfl (by first | exact e2 | exact e3) ⟨rfl, rfl, rfl, rfl⟩ rfl rfl rfl (by first | exact WrP_refl _ _ | (repeat' (first | exact rfl | exact True.intro | refine And.intro ?_ ?_))) ?_
        | refine sp_callbw rfl rfl rfl rfl rfl rfl (by first | exact e2 | exact e3) ⟨rfl, rfl, rfl, rfl⟩ rfl rfl rfl (by first | exact WrP_refl _ _ | (repeat' (first | exact rfl | exact True.intro | refine And.intro ?_ ?_))) ?_
        | refine ep_bin rfl rfl (by exact b_eql) ?_ | refine ep_pickT rfl rfl ?_ | refine ep_pickF rfl rfl ?_ | refine ep_pickTH rfl (by assumption) rfl ?_ | refine ep_pickFH rfl (by assumption) rfl ?_
        | refine ep_not rfl ?_ | refine ep_lenS rfl ?_ | refine ep_lenN rfl ?_ | refine ep_lenE rfl ?_ | refine sp_box rfl rfl rfl rfl rfl ?_ | refine ep_mkfn rfl ?_ | refine ep_nilckP rfl ?_ | refine ep_nilckF rfl ?_)
      | (refine g_ops ?_; first | refine eo_none ?_ | refine eo_nil ?_ | refine eo_yes rfl ?_ | refine eo_no rfl ?_ | refine eo_und rfl ?_ | refine eo_yesH rfl (by assumption) ?_ | refine eo_noH rfl (by assumption) ?_)
      | (refine g_dops ?_; first | refine ed_none ?_ | refine ed_nil ?_ | refine ed_yes rfl ?_ | refine ed_no rfl ?_ | refine ed_und rfl ?_ | refine ed_yesH rfl (by assumption) ?_ | refine ed_noH rfl (by assumption) ?_)
      | refine ed_same rfl ?_ | refine ed_one rfl rfl rfl rfl ?_ | refine ed_two rfl rfl rfl rfl rfl rfl rfl ?_ | refine ed_write rfl rfl ?_
      | (refine g_code ?_; first | refine ec_seq ?_ | refine ec_region ?_ | refine ec_draw ?_ | refine ec_block ?_ | refine ec_skip ?_ | refine ec_ret ?_ | refine ec_condT rfl ?_ | refine ec_condF rfl ?_ | refine ec_condTH rfl (by assumption) ?_ | refine ec_condFH rfl (by assumption) ?_)
      | refine ek_seqN ?_ | refine ek_seqX ?_ | refine ek_seqR ?_ | refine ek_blkN ?_ | refine ek_blkR ?_ | refine ek_blkX ?_ | refine ek_blkY rfl ?_)
    refine sfin (.inr rfl) (by rfl) (by rfl) (by exact ⟨rfl, rfl, rfl⟩) (by rfl) (by rfl) (by rfl) (by first | rfl | (simp; done) | (simp [ints, prs]; done))
theorem lpst_e (n N d b a : Nat) (fs : List (Int × Int)) (L : List Nat) (T : Nat → GS) (hll : L.length ≤ 65536) (ih : ∀ i, i < L.length → Ev cx 94 [.ptr 0 0, .agg [.int .i64 (a : Nat), .int .i64 (b : Nat)], .sl 3 0 L.length, .sl 4 0 1, .int .i64 (d : Nat), .fn 128 [.ptr 5 0, .ptr 6 0, .ptr 7 0]] [⟨[.sl 1 0 fs.length, .int .i64 (n : Nat), .sl 2 0 N], 1, 0, some 0, true⟩, ⟨fns fs, 2, 1, some 0, false⟩, ⟨zints (T i).1, 1, 2, some 0, false⟩, ⟨prs n L, 2, 3, some 0, false⟩, ⟨[.int .i64 (n : Nat), .int .i64 (L.getD i 0 : Nat)], 2, 4, some 0, false⟩, ⟨[.ptr 0 0], 1, 5, some 0, true⟩, ⟨[.int .i64 (d : Nat)], 1, 6, some 0, true⟩, ⟨[.bool (T i).2], 1, 7, some 0, true⟩] (.bool true) [⟨[.sl 1 0 fs.length, .int .i64 (n : Nat), .sl 2 0 N], 1, 0, some 0, true⟩, ⟨fns fs, 2, 1, some 0, false⟩, ⟨zints (T (i + 1)).1, 1, 2, some 0, false⟩, ⟨prs n L, 2, 3, some 0, false⟩, ⟨[.int .i64 (n : Nat), .int .i64 (L.getD i 0 : Nat)], 2, 4, some 0, false⟩, ⟨[.ptr 0 0], 1, 5, some 0, true⟩, ⟨[.int .i64 (d : Nat)], 1, 6, some 0, true⟩, ⟨[.bool (T (i + 1)).2], 1, 7, some 0, true⟩]) :
    LpS cx 60 7 m94_0 [(2, .sl 3 0 L.length), (3, .nils), (5, .fn 128 [.ptr 4 0, .ptr 5 0, .ptr 6 0]), (6, .ptr 7 0), (7, .ptr 8 0), (10, .ptr 9 0), (42, .sl 3 0 L.length), (43, .int .i64 (L.length : Nat)), (44, .int .i64 (0 : Nat))] [⟨[.sl 1 0 fs.length, .int .i64 (n : Nat), .sl 2 0 N], 1, 0, some 0, true⟩, ⟨fns fs, 2, 1, some 0, false⟩, ⟨zints (T (0)).1, 1, 2, some 0, false⟩, ⟨prs n L, 2, 3, some 0, false⟩, ⟨[.ptr 0 0], 1, 4, some 0, true⟩, ⟨[.int .i64 (d : Nat)], 1, 5, some 0, true⟩, ⟨[.bool (T (0)).2], 1, 6, some 0, true⟩, ⟨[.ptr 0 0], 1, 7, some 0, true⟩, ⟨[.int .i64 (a : Nat), .int .i64 (b : Nat)], 1, 8, some 0, true⟩, ⟨[.int .i64 (d : Nat)], 1, 9, some 0, true⟩] (⟨.exit 0, [], [⟨[.sl 1 0 fs.length, .int .i64 (n : Nat), .sl 2 0 N], 1, 0, some 0, true⟩, ⟨fns fs, 2, 1, some 0, false⟩, ⟨zints (T (L.length)).1, 1, 2, some 0, false⟩, ⟨prs n L, 2, 3, some 0, false⟩, ⟨[.ptr 0 0], 1, 4, some 0, true⟩, ⟨[.int .i64 (d : Nat)], 1, 5, some 0, true⟩, ⟨[.bool (T (L.length)).2], 1, 6, some 0, true⟩]⟩ : Out).x (⟨.exit 0, [], [⟨[.sl 1 0 fs.length, .int .i64 (n : Nat), .sl 2 0 N], 1, 0, some 0, true⟩, ⟨fns fs, 2, 1, some 0, false⟩, ⟨zints (T (L.length)).1, 1, 2, some 0, false⟩, ⟨prs n L, 2, 3, some 0, false⟩, ⟨[.ptr 0 0], 1, 4, some 0, true⟩, ⟨[.int .i64 (d : Nat)], 1, 5, some 0, true⟩, ⟨[.bool (T (L.length)).2], 1, 6, some 0, true⟩]⟩ : Out).e (⟨.exit 0, [], [⟨[.sl 1 0 fs.length, .int .i64 (n : Nat), .sl 2 0 N], 1, 0, some 0, true⟩, ⟨fns fs, 2, 1, some 0, false⟩, ⟨zints (T (L.length)).1, 1, 2, some 0, false⟩, ⟨prs n L, 2, 3, some 0, false⟩, ⟨[.ptr 0 0], 1, 4, some 0, true⟩, ⟨[.int .i64 (d : Nat)], 1, 5, some 0, true⟩, ⟨[.bool (T (L.length)).2], 1, 6, some 0, true⟩]⟩ : Out).h := by
  refine lp_st (L.length) (fun _ => ()) (fun i _ => [(2, .sl 3 0 L.length), (3, .nils), (5, .fn 128 [.ptr 4 0, .ptr 5 0, .ptr 6 0]), (6, .ptr 7 0), (7, .ptr 8 0), (10, .ptr 9 0), (42, .sl 3 0 L.length), (43, .int .i64 (L.length : Nat)), (44, .int .i64 (i : Nat))]) (fun i _ => [⟨[.sl 1 0 fs.length, .int .i64 (n : Nat), .sl 2 0 N], 1, 0, some 0, true⟩, ⟨fns fs, 2, 1, some 0, false⟩, ⟨zints (T (i)).1, 1, 2, some 0, false⟩, ⟨prs n L, 2, 3, some 0, false⟩, ⟨[.ptr 0 0], 1, 4, some 0, true⟩, ⟨[.int .i64 (d : Nat)], 1, 5, some 0, true⟩, ⟨[.bool (T (i)).2], 1, 6, some 0, true⟩, ⟨[.ptr 0 0], 1, 7, some 0, true⟩, ⟨[.int .i64 (a : Nat), .int .i64 (b : Nat)], 1, 8, some 0, true⟩, ⟨[.int .i64 (d : Nat)], 1, 9, some 0, true⟩]) (fun _ => (⟨.exit 0, [], [⟨[.sl 1 0 fs.length, .int .i64 (n : Nat), .sl 2 0 N], 1, 0, some 0, true⟩, ⟨fns fs, 2, 1, some 0, false⟩, ⟨zints (T (L.length)).1, 1, 2, some 0, false⟩, ⟨prs n L, 2, 3, some 0, false⟩, ⟨[.ptr 0 0], 1, 4, some 0, true⟩, ⟨[.int .i64 (d : Nat)], 1, 5, some 0, true⟩, ⟨[.bool (T (L.length)).2], 1, 6, some 0, true⟩]⟩ : Out)) ?_ ?_ (L.length) 0 (by omega)
  · intro i u_ hi hu_
    refine ⟨(), rfl, ?_⟩
    have hlt : decide ((i : Int) < (L.length : Nat)) = true := decide_eq_true (by omega)
    have e1 := ih i hi
    unfold m94_0
    repeat' (first
      | (refine g_op ?_; first
        | refine ep_mov rfl ?_ | refine ep_load1 rfl rfl rfl rfl ?_ | refine sp_loadN rfl rfl rfl rfl rfl ?_
        | refine ep_callw0 rfl (by first | exact e1) rfl rfl ?_
        | refine sp_callw rfl rfl rfl rfl (by first | exact e1) ⟨rfl, rfl, rfl, rfl⟩ rfl rfl rfl (by first | exact WrP_refl _ _ | (repeat' (first | exact rfl | exact True.intro | refine And.intro ?_ ?_))) ?_
        | refine ep_bin rfl rfl (by first | exact b_add (by omega) (by omega) | exact b_lss) ?_ | refine sp_store rfl rfl rfl rfl rfl rfl rfl rfl rfl rfl ?_ | refine ep_not rfl ?_ | refine sp_alloc rfl rfl ?_
        | refine sp_bslice rfl rfl rfl rfl rfl ?_ | refine sp_push0 rfl (by first | exact .inl rfl | exact .inr rfl) rfl rfl rfl rfl rfl (by decide) rfl rfl rfl ?_ | refine sp_push rfl rfl rfl rfl rfl rfl rfl (by first | exact ints_len _ | exact prs_len _ _ | exact zints_len _) (by omega) (Nat.zero_le _) rfl rfl rfl rfl rfl ?_
        | refine sp_idx rfl rfl rfl (by omega) rfl ?_ | refine ep_loadS rfl rfl rfl (by first | exact ints_get (by omega) | exact zints_get (by omega) | exact fget (by omega) | assumption) ?_ | refine ep_loadSN rfl rfl rfl (by first | exact prs_get (by omega) | exact fns_get (by omega)) ?_)
      | (refine g_ops ?_; first | refine eo_none ?_ | refine eo_nil ?_)
      | (refine g_lops ?_; first | refine el_none rfl ?_ | refine el_nil ?_)
      | refine el_same rfl ?_ | refine el_one rfl rfl rfl rfl rfl ?_ | refine el_write rfl rfl rfl ?_
      | (refine g_code ?_; first | refine ec_seq ?_ | refine ec_region ?_ | refine ec_drawL (X := [7, 8, 9]) rfl ?_ | refine ec_block ?_ | refine ec_skip ?_ | refine ec_exit ?_ | refine ec_ret ?_ | refine ec_condT rfl ?_ | refine ec_condF rfl ?_ | refine ec_condTH rfl (by assumption) ?_ | refine ec_condFH rfl (by assumption) ?_)
      | refine ek_seqN ?_ | refine ek_seqX ?_ | refine ek_seqR ?_ | refine ek_blkN ?_ | refine ek_blkR ?_ | refine ek_blkX ?_ | refine ek_blkY rfl ?_)
    exact rnd_on (by rfl) (scmp2 (by rfl) (by rfl) (by exact ⟨rfl, rfl, rfl⟩) (by rfl) (by first | rfl | (simp; done) | (simp [ints, prs]; done)) (by rfl) (by first | rfl | (simp; done) | (simp [ints, prs]; done)))
  · intro u_ hu_
    have hlt : decide (((L.length : Nat) : Int) < (L.length : Nat)) = false := decide_eq_false (by omega)
    unfold m94_0
    repeat' (first
      | (refine g_op ?_; first
        | refine ep_mov rfl ?_ | refine ep_load1 rfl rfl rfl rfl ?_ | refine sp_loadN rfl rfl rfl rfl rfl ?_
        | refine ep_bin rfl rfl (by first | exact b_add (by omega) (by omega) | exact b_lss) ?_ | refine sp_store rfl rfl rfl rfl rfl rfl rfl rfl rfl rfl ?_ | refine ep_not rfl ?_ | refine sp_alloc rfl rfl ?_
        | refine sp_bslice rfl rfl rfl rfl rfl ?_ | refine sp_push0 rfl (by first | exact .inl rfl | exact .inr rfl) rfl rfl rfl rfl rfl (by decide) rfl rfl rfl ?_ | refine sp_push rfl rfl rfl rfl rfl rfl rfl (by first | exact ints_len _ | exact prs_len _ _ | exact zints_len _) (by omega) (Nat.zero_le _) rfl rfl rfl rfl rfl ?_
        | refine sp_idx rfl rfl rfl (by omega) rfl ?_ | refine ep_loadS rfl rfl rfl (by first | exact ints_get (by omega) | exact zints_get (by omega) | exact fget (by omega) | assumption) ?_ | refine ep_loadSN rfl rfl rfl (by first | exact prs_get (by omega) | exact fns_get (by omega)) ?_)
      | (refine g_ops ?_; first | refine eo_none ?_ | refine eo_nil ?_)
      | (refine g_lops ?_; first | refine el_none rfl ?_ | refine el_nil ?_)
      | refine el_same rfl ?_ | refine el_one rfl rfl rfl rfl rfl ?_ | refine el_write rfl rfl rfl ?_
      | (refine g_code ?_; first | refine ec_seq ?_ | refine ec_region ?_ | refine ec_drawL (X := []) rfl ?_ | refine ec_block ?_ | refine ec_skip ?_ | refine ec_exit ?_ | refine ec_ret ?_ | refine ec_condT rfl ?_ | refine ec_condF rfl ?_ | refine ec_condTH rfl (by assumption) ?_ | refine ec_condFH rfl (by assumption) ?_)
      | refine ek_seqN ?_ | refine ek_seqX ?_ | refine ek_seqR ?_ | refine ek_blkN ?_ | refine ek_blkR ?_ | refine ek_blkX ?_ | refine ek_blkY rfl ?_)
    exact rnd_out (by rfl) (by simp) (scmp2 (by rfl) (by rfl) (by exact ⟨rfl, rfl, rfl⟩) (by rfl) (by first | rfl | (simp; done) | (simp [ints, prs]; done)) (by rfl) (by first | rfl | (simp; done) | (simp [ints, prs]; done)))

theorem lpst_c (n N d b a q0 : Nat) (fs : List (Int × Int)) (L l : List Nat) (T : Nat → GS) (hll : L.length ≤ 65536) (hl4 : l.length < 5) (hq0 : q0 ≤ l.length * 2) (ih : ∀ i q, i < L.length → q ≤ (l.length + 1) * 2 → Ev cx 94 [.ptr 0 0, .agg [.int .i64 (a : Nat), .int .i64 (b : Nat)], .sl 3 0 L.length, .sl 4 0 (l.length + 1), .int .i64 (d : Nat), .fn 128 [.ptr 5 0, .ptr 6 0, .ptr 7 0]] [⟨[.sl 1 0 fs.length, .int .i64 (n : Nat), .sl 2 0 N], 1, 0, some 0, true⟩, ⟨fns fs, 2, 1, some 0, false⟩, ⟨zints (T i).1, 1, 2, some 0, false⟩, ⟨prs n L, 2, 3, some 0, false⟩, ⟨prs n (l ++ [L.getD i 0]), 2, 4, some q, false⟩, ⟨[.ptr 0 0], 1, 5, some 0, true⟩, ⟨[.int .i64 (d : Nat)], 1, 6, some 0, true⟩, ⟨[.bool (T i).2], 1, 7, some 0, true⟩] (.bool true) [⟨[.sl 1 0 fs.length, .int .i64 (n : Nat), .sl 2 0 N], 1, 0, some 0, true⟩, ⟨fns fs, 2, 1, some 0, false⟩, ⟨zints (T (i + 1)).1, 1, 2, some 0, false⟩, ⟨prs n L, 2, 3, some 0, false⟩, ⟨prs n (l ++ [L.getD i 0]), 2, 4, some q, false⟩, ⟨[.ptr 0 0], 1, 5, some 0, true⟩, ⟨[.int .i64 (d : Nat)], 1, 6, some 0, true⟩, ⟨[.bool (T (i + 1)).2], 1, 7, some 0, true⟩]) :
    LpS cx 60 8 m94_0 [(2, .sl 3 0 L.length), (3, .sl 4 0 l.length), (5, .fn 128 [.ptr 5 0, .ptr 6 0, .ptr 7 0]), (6, .ptr 8 0), (7, .ptr 9 0), (10, .ptr 10 0), (42, .sl 3 0 L.length), (43, .int .i64 (L.length : Nat)), (44, .int .i64 (0 : Nat))] [⟨[.sl 1 0 fs.length, .int .i64 (n : Nat), .sl 2 0 N], 1, 0, some 0, true⟩, ⟨fns fs, 2, 1, some 0, false⟩, ⟨zints (T (0)).1, 1, 2, some 0, false⟩, ⟨prs n L, 2, 3, some 0, false⟩, ⟨prs n (l), 2, 4, some q0, false⟩, ⟨[.ptr 0 0], 1, 5, some 0, true⟩, ⟨[.int .i64 (d : Nat)], 1, 6, some 0, true⟩, ⟨[.bool (T (0)).2], 1, 7, some 0, true⟩, ⟨[.ptr 0 0], 1, 8, some 0, true⟩, ⟨[.int .i64 (a : Nat), .int .i64 (b : Nat)], 1, 9, some 0, true⟩, ⟨[.int .i64 (d : Nat)], 1, 10, some 0, true⟩] (⟨.exit 0, [], [⟨[.sl 1 0 fs.length, .int .i64 (n : Nat), .sl 2 0 N], 1, 0, some 0, true⟩, ⟨fns fs, 2, 1, some 0, false⟩, ⟨zints (T (L.length)).1, 1, 2, some 0, false⟩, ⟨prs n L, 2, 3, some 0, false⟩, ⟨prs n (l), 2, 4, some q0, false⟩, ⟨[.ptr 0 0], 1, 5, some 0, true⟩, ⟨[.int .i64 (d : Nat)], 1, 6, some 0, true⟩, ⟨[.bool (T (L.length)).2], 1, 7, some 0, true⟩]⟩ : Out).x (⟨.exit 0, [], [⟨[.sl 1 0 fs.length, .int .i64 (n : Nat), .sl 2 0 N], 1, 0, some 0, true⟩, ⟨fns fs, 2, 1, some 0, false⟩, ⟨zints (T (L.length)).1, 1, 2, some 0, false⟩, ⟨prs n L, 2, 3, some 0, false⟩, ⟨prs n (l), 2, 4, some q0, false⟩, ⟨[.ptr 0 0], 1, 5, some 0, true⟩, ⟨[.int .i64 (d : Nat)], 1, 6, some 0, true⟩, ⟨[.bool (T (L.length)).2], 1, 7, some 0, true⟩]⟩ : Out).e (⟨.exit 0, [], [⟨[.sl 1 0 fs.length, .int .i64 (n : Nat), .sl 2 0 N], 1, 0, some 0, true⟩, ⟨fns fs, 2, 1, some 0, false⟩, ⟨zints (T (L.length)).1, 1, 2, some 0, false⟩, ⟨prs n L, 2, 3, some 0, false⟩, ⟨prs n (l), 2, 4, some q0, false⟩, ⟨[.ptr 0 0], 1, 5, some 0, true⟩, ⟨[.int .i64 (d : Nat)], 1, 6, some 0, true⟩, ⟨[.bool (T (L.length)).2], 1, 7, some 0, true⟩]⟩ : Out).h := by
  refine lp_st (L.length) (fun _ => ()) (fun i _ => [(2, .sl 3 0 L.length), (3, .sl 4 0 l.length), (5, .fn 128 [.ptr 5 0, .ptr 6 0, .ptr 7 0]), (6, .ptr 8 0), (7, .ptr 9 0), (10, .ptr 10 0), (42, .sl 3 0 L.length), (43, .int .i64 (L.length : Nat)), (44, .int .i64 (i : Nat))]) (fun i _ => [⟨[.sl 1 0 fs.length, .int .i64 (n : Nat), .sl 2 0 N], 1, 0, some 0, true⟩, ⟨fns fs, 2, 1, some 0, false⟩, ⟨zints (T (i)).1, 1, 2, some 0, false⟩, ⟨prs n L, 2, 3, some 0, false⟩, ⟨prs n (l), 2, 4, some q0, false⟩, ⟨[.ptr 0 0], 1, 5, some 0, true⟩, ⟨[.int .i64 (d : Nat)], 1, 6, some 0, true⟩, ⟨[.bool (T (i)).2], 1, 7, some 0, true⟩, ⟨[.ptr 0 0], 1, 8, some 0, true⟩, ⟨[.int .i64 (a : Nat), .int .i64 (b : Nat)], 1, 9, some 0, true⟩, ⟨[.int .i64 (d : Nat)], 1, 10, some 0, true⟩]) (fun _ => (⟨.exit 0, [], [⟨[.sl 1 0 fs.length, .int .i64 (n : Nat), .sl 2 0 N], 1, 0, some 0, true⟩, ⟨fns fs, 2, 1, some 0, false⟩, ⟨zints (T (L.length)).1, 1, 2, some 0, false⟩, ⟨prs n L, 2, 3, some 0, false⟩, ⟨prs n (l), 2, 4, some q0, false⟩, ⟨[.ptr 0 0], 1, 5, some 0, true⟩, ⟨[.int .i64 (d : Nat)], 1, 6, some 0, true⟩, ⟨[.bool (T (L.length)).2], 1, 7, some 0, true⟩]⟩ : Out)) ?_ ?_ (L.length) 0 (by omega)
  · intro i u_ hi hu_
    refine ⟨(), rfl, ?_⟩
    have hlt : decide ((i : Int) < (L.length : Nat)) = true := decide_eq_true (by omega)
    have e1 := ih i (max q0 (max (prs n l).length 0)) hi (by rw [prs_len]; omega)
    rw [← prs_snoc] at e1
    unfold m94_0
    repeat' (first
      | refine sp_push rfl rfl rfl rfl rfl rfl rfl (prs_len _ _) (by omega) hq0 rfl rfl rfl rfl rfl ?_
      | (refine g_op ?_; first
        | refine ep_mov rfl ?_ | refine ep_load1 rfl rfl rfl rfl ?_ | refine sp_loadN rfl rfl rfl rfl rfl ?_
        | refine ep_callw0 rfl (by first | exact e1) rfl rfl ?_
        | refine sp_callw rfl rfl rfl rfl (by first | exact e1) ⟨rfl, rfl, rfl, rfl⟩ rfl rfl rfl (by first | exact WrP_refl _ _ | (repeat' (first | exact rfl | exact True.intro | refine And.intro ?_ ?_))) ?_
        | refine ep_bin rfl rfl (by first | exact b_add (by omega) (by omega) | exact b_lss) ?_ | refine sp_store rfl rfl rfl rfl rfl rfl rfl rfl rfl rfl ?_ | refine ep_not rfl ?_ | refine sp_alloc rfl rfl ?_
        | refine sp_bslice rfl rfl rfl rfl rfl ?_ | refine sp_push0 rfl (by first | exact .inl rfl | exact .inr rfl) rfl rfl rfl rfl rfl (by decide) rfl rfl rfl ?_ | refine sp_push rfl rfl rfl rfl rfl rfl rfl (by first | exact ints_len _ | exact prs_len _ _ | exact zints_len _) (by omega) (Nat.zero_le _) rfl rfl rfl rfl rfl ?_
        | refine sp_idx rfl rfl rfl (by omega) rfl ?_ | refine ep_loadS rfl rfl rfl (by first | exact ints_get (by omega) | exact zints_get (by omega) | exact fget (by omega) | assumption) ?_ | refine ep_loadSN rfl rfl rfl (by first | exact prs_get (by omega) | exact fns_get (by omega)) ?_)
      | (refine g_ops ?_; first | refine eo_none ?_ | refine eo_nil ?_)
      | (refine g_lops ?_; first | refine el_none rfl ?_ | refine el_nil ?_)
      | refine el_same rfl ?_ | refine el_one rfl rfl rfl rfl rfl ?_ | refine el_write rfl rfl rfl ?_
      | (refine g_code ?_; first | refine ec_seq ?_ | refine ec_region ?_ | refine ec_drawL (X := [8, 9, 10]) rfl ?_ | refine ec_block ?_ | refine ec_skip ?_ | refine ec_exit ?_ | refine ec_ret ?_ | refine ec_condT rfl ?_ | refine ec_condF rfl ?_ | refine ec_condTH rfl (by assumption) ?_ | refine ec_condFH rfl (by assumption) ?_)
      | refine ek_seqN ?_ | refine ek_seqX ?_ | refine ek_seqR ?_ | refine ek_blkN ?_ | refine ek_blkR ?_ | refine ek_blkX ?_ | refine ek_blkY rfl ?_)
    exact rnd_on (by rfl) (scmp2 (by rfl) (by rfl) (by exact ⟨rfl, rfl, rfl⟩) (by rfl) (by first | rfl | (simp; done) | (simp [ints, prs]; done)) (by rfl) (by first | rfl | (simp; done) | (simp [ints, prs]; done)))
  · intro u_ hu_
    have hlt : decide (((L.length : Nat) : Int) < (L.length : Nat)) = false := decide_eq_false (by omega)
    unfold m94_0
    repeat' (first
      | (refine g_op ?_; first
        | refine ep_mov rfl ?_ | refine ep_load1 rfl rfl rfl rfl ?_ | refine sp_loadN rfl rfl rfl rfl rfl ?_
        | refine ep_bin rfl rfl (by first | exact b_add (by omega) (by omega) | exact b_lss) ?_ | refine sp_store rfl rfl rfl rfl rfl rfl rfl rfl rfl rfl ?_ | refine ep_not rfl ?_ | refine sp_alloc rfl rfl ?_
        | refine sp_bslice rfl rfl rfl rfl rfl ?_ | refine sp_push0 rfl (by first | exact .inl rfl | exact .inr rfl) rfl rfl rfl rfl rfl (by decide) rfl rfl rfl ?_ | refine sp_push rfl rfl rfl rfl rfl rfl rfl (by first | exact ints_len _ | exact prs_len _ _ | exact zints_len _) (by omega) (Nat.zero_le _) rfl rfl rfl rfl rfl ?_
        | refine sp_idx rfl rfl rfl (by omega) rfl ?_ | refine ep_loadS rfl rfl rfl (by first | exact ints_get (by omega) | exact zints_get (by omega) | exact fget (by omega) | assumption) ?_ | refine ep_loadSN rfl rfl rfl (by first | exact prs_get (by omega) | exact fns_get (by omega)) ?_)
      | (refine g_ops ?_; first | refine eo_none ?_ | refine eo_nil ?_)
      | (refine g_lops ?_; first | refine el_none rfl ?_ | refine el_nil ?_)
      | refine el_same rfl ?_ | refine el_one rfl rfl rfl rfl rfl ?_ | refine el_write rfl rfl rfl ?_
      | (refine g_code ?_; first | refine ec_seq ?_ | refine ec_region ?_ | refine ec_drawL (X := []) rfl ?_ | refine ec_block ?_ | refine ec_skip ?_ | refine ec_exit ?_ | refine ec_ret ?_ | refine ec_condT rfl ?_ | refine ec_condF rfl ?_ | refine ec_condTH rfl (by assumption) ?_ | refine ec_condFH rfl (by assumption) ?_)
      | refine ek_seqN ?_ | refine ek_seqX ?_ | refine ek_seqR ?_ | refine ek_blkN ?_ | refine ek_blkR ?_ | refine ek_blkX ?_ | refine ek_blkY rfl ?_)
    exact rnd_out (by rfl) (by simp) (scmp2 (by rfl) (by rfl) (by exact ⟨rfl, rfl, rfl⟩) (by rfl) (by first | rfl | (simp; done) | (simp [ints, prs]; done)) (by rfl) (by first | rfl | (simp; done) | (simp [ints, prs]; done)))

theorem evs_c (n N d b a : Nat) (fs : List (Int × Int)) (L : List Nat) (hNn : N = R2 (R2 n)) (hn : n ≤ 4) (hd : d < 65536) (hb : b < 65536) (ha : a ≤ 4) (hll : L.length ≤ 65536) (hLN : ∀ j, j < L.length → L.getD j 0 < N) : ∀ (m : Nat) (l : List Nat) (q0 : Nat) (D : List Int) (A : Bool), l.length + m = a → D.length = N → q0 ≤ l.length * 2 → (∀ j, j < l.length → l.getD j 0 < N) →
    Ev cx 94 [.ptr 0 0, .agg [.int .i64 (a : Nat), .int .i64 (b : Nat)], .sl 3 0 L.length, .sl 4 0 l.length, .int .i64 (d : Nat), .fn 128 [.ptr 5 0, .ptr 6 0, .ptr 7 0]] [⟨[.sl 1 0 fs.length, .int .i64 (n : Nat), .sl 2 0 N], 1, 0, some 0, true⟩, ⟨fns fs, 2, 1, some 0, false⟩, ⟨zints D, 1, 2, some 0, false⟩, ⟨prs n L, 2, 3, some 0, false⟩, ⟨prs n (l), 2, 4, some q0, false⟩, ⟨[.ptr 0 0], 1, 5, some 0, true⟩, ⟨[.int .i64 (d : Nat)], 1, 6, some 0, true⟩, ⟨[.bool A], 1, 7, some 0, true⟩] (.bool true) [⟨[.sl 1 0 fs.length, .int .i64 (n : Nat), .sl 2 0 N], 1, 0, some 0, true⟩, ⟨fns fs, 2, 1, some 0, false⟩, ⟨zints (walkT L (leafI (d : Int) n b) m l (D, A)).1, 1, 2, some 0, false⟩, ⟨prs n L, 2, 3, some 0, false⟩, ⟨prs n (l), 2, 4, some q0, false⟩, ⟨[.ptr 0 0], 1, 5, some 0, true⟩, ⟨[.int .i64 (d : Nat)], 1, 6, some 0, true⟩, ⟨[.bool (walkT L (leafI (d : Int) n b) m l (D, A)).2], 1, 7, some 0, true⟩]
  | 0, l, q0, D, A, hm, hN, hq0, hl => by
    obtain rfl : l.length = a := by omega
    exact evsb_c n N d b q0 fs D A L l ha hl hN hNn hn hd hb
  | m + 1, l, q0, D, A, hm, hN, hq0, hl => by
    have hq : (((l.length : Nat) : Int) == ((a : Nat) : Int)) = false := by rw [ieq]; simp; omega
    have lp := lpst_c n N d b a q0 fs L l (fun i => foldN (fun j s => walkT L (leafI (d : Int) n b) m (l ++ [L.getD j 0]) s) i (D, A)) hll (by omega) hq0 (fun i q hi hqq => by
      have h0 := evs_c n N d b a fs L hNn hn hd hb ha hll hLN m (l ++ [L.getD i 0]) q ((fun i => foldN (fun j s => walkT L (leafI (d : Int) n b) m (l ++ [L.getD j 0]) s) i (D, A)) i).1 ((fun i => foldN (fun j s => walkT L (leafI (d : Int) n b) m (l ++ [L.getD j 0]) s) i (D, A)) i).2 (by simp; omega) (by rw [fold_len (by omega)]; exact hN) (by simp; omega) (fun j hj => by
        by_cases hlt : j < l.length
        · rw [List.getD_eq_getElem?_getD, List.getElem?_append_left hlt, ← List.getD_eq_getElem?_getD]; exact hl j hlt
        · rw [List.getD_eq_getElem?_getD, List.getElem?_append_right (by omega)]
          rw [List.length_append, List.length_singleton] at hj
          rw [show j - l.length = 0 by omega]; exact hLN i hi)
      rw [List.length_append, List.length_singleton] at h0
      exact h0)
    refine has94.eev rfl rfl ?_
    unfold m94
    repeat' (first
      | refine sc_loop lp rfl rfl ⟨rfl, rfl, rfl⟩ rfl rfl rfl ?_
      | (refine g_op ?_; first
        | refine ep_mov rfl ?_ | refine ep_load1 rfl rfl rfl rfl ?_ | refine ep_fieldAddr rfl ?_ | refine sp_loadN rfl rfl rfl rfl rfl ?_
        | refine ep_bin rfl rfl (by exact b_eql) ?_ | refine ep_pickT rfl rfl ?_ | refine ep_pickF rfl rfl ?_ | refine ep_pickTH rfl (by assumption) rfl ?_ | refine ep_pickFH rfl (by assumption) rfl ?_
        | refine ep_not rfl ?_ | refine ep_lenS rfl ?_ | refine ep_lenN rfl ?_ | refine ep_lenE rfl ?_ | refine sp_box rfl rfl rfl rfl rfl ?_ | refine ep_mkfn rfl ?_ | refine ep_nilckP rfl ?_ | refine ep_nilckF rfl ?_)
      | (refine g_ops ?_; first | refine eo_none ?_ | refine eo_nil ?_ | refine eo_yes rfl ?_ | refine eo_no rfl ?_ | refine eo_und rfl ?_ | refine eo_yesH rfl (by assumption) ?_ | refine eo_noH rfl (by assumption) ?_)
      | (refine g_dops ?_; first | refine ed_none ?_ | refine ed_nil ?_ | refine ed_yes rfl ?_ | refine ed_no rfl ?_ | refine ed_und rfl ?_ | refine ed_yesH rfl (by assumption) ?_ | refine ed_noH rfl (by assumption) ?_)
      | refine ed_same rfl ?_ | refine ed_one rfl rfl rfl rfl ?_ | refine ed_two rfl rfl rfl rfl rfl rfl rfl ?_ | refine ed_write rfl rfl ?_
      | (refine g_code ?_; first | refine ec_seq ?_ | refine ec_region ?_ | refine ec_draw ?_ | refine ec_block ?_ | refine ec_skip ?_ | refine ec_ret ?_ | refine ec_condT rfl ?_ | refine ec_condF rfl ?_ | refine ec_condTH rfl (by assumption) ?_ | refine ec_condFH rfl (by assumption) ?_)
      | refine ek_seqN ?_ | refine ek_seqX ?_ | refine ek_seqR ?_ | refine ek_blkN ?_ | refine ek_blkR ?_ | refine ek_blkX ?_ | refine ek_blkY rfl ?_)
    refine sfin (.inr rfl) (by rfl) (by rfl) (by exact ⟨rfl, rfl, rfl⟩) (by rfl) (by rfl) (by rfl) (by first | rfl | (simp; done) | (simp [ints, prs]; done))
theorem evs_e (n N d b a : Nat) (fs : List (Int × Int)) (L : List Nat) (hNn : N = R2 (R2 n)) (hn : n ≤ 4) (hd : d < 65536) (hb : b < 65536) (ha : a ≤ 4) (hll : L.length ≤ 65536) (hLN : ∀ j, j < L.length → L.getD j 0 < N) (D : List Int) (A : Bool) (hN : D.length = N) :
    Ev cx 94 [.ptr 0 0, .agg [.int .i64 (a : Nat), .int .i64 (b : Nat)], .sl 3 0 L.length, .nils, .int .i64 (d : Nat), .fn 128 [.ptr 4 0, .ptr 5 0, .ptr 6 0]] [⟨[.sl 1 0 fs.length, .int .i64 (n : Nat), .sl 2 0 N], 1, 0, some 0, true⟩, ⟨fns fs, 2, 1, some 0, false⟩, ⟨zints D, 1, 2, some 0, false⟩, ⟨prs n L, 2, 3, some 0, false⟩, ⟨[.ptr 0 0], 1, 4, some 0, true⟩, ⟨[.int .i64 (d : Nat)], 1, 5, some 0, true⟩, ⟨[.bool A], 1, 6, some 0, true⟩] (.bool true) [⟨[.sl 1 0 fs.length, .int .i64 (n : Nat), .sl 2 0 N], 1, 0, some 0, true⟩, ⟨fns fs, 2, 1, some 0, false⟩, ⟨zints (walkT L (leafI (d : Int) n b) a [] (D, A)).1, 1, 2, some 0, false⟩, ⟨prs n L, 2, 3, some 0, false⟩, ⟨[.ptr 0 0], 1, 4, some 0, true⟩, ⟨[.int .i64 (d : Nat)], 1, 5, some 0, true⟩, ⟨[.bool (walkT L (leafI (d : Int) n b) a [] (D, A)).2], 1, 6, some 0, true⟩] := by
  cases a with
  | zero => exact evsb_e n N d b fs D A L hN hNn hn hd hb
  | succ m =>
    have hq : ((0 : Int) == ((m + 1 : Nat) : Int)) = false := by simp; omega
    have lp := lpst_e n N d b (m + 1) fs L (fun i => foldN (fun j s => walkT L (leafI (d : Int) n b) m ([] ++ [L.getD j 0]) s) i (D, A)) hll (fun i hi => by
      have h0 := evs_c n N d b (m + 1) fs L hNn hn hd hb ha hll hLN m [L.getD i 0] 0 ((fun i => foldN (fun j s => walkT L (leafI (d : Int) n b) m ([] ++ [L.getD j 0]) s) i (D, A)) i).1 ((fun i => foldN (fun j s => walkT L (leafI (d : Int) n b) m ([] ++ [L.getD j 0]) s) i (D, A)) i).2 (by simp; omega) (by rw [fold_len (by omega)]; exact hN) (by omega) (fun j hj => by
        obtain rfl : j = 0 := by simpa using hj
        exact hLN i hi)
      exact h0)
    refine has94.eev rfl rfl ?_
    unfold m94
    repeat' (first
      | refine sc_loop lp rfl rfl ⟨rfl, rfl, rfl⟩ rfl rfl rfl ?_
      | (refine g_op ?_; first
        | refine ep_mov rfl ?_ | refine ep_load1 rfl rfl rfl rfl ?_ | refine ep_fieldAddr rfl ?_ | refine sp_loadN rfl rfl rfl rfl rfl ?_
        | refine ep_bin rfl rfl (by exact b_eql) ?_ | refine ep_pickT rfl rfl ?_ | refine ep_pickF rfl rfl ?_ | refine ep_pickTH rfl (by assumption) rfl ?_ | refine ep_pickFH rfl (by assumption) rfl ?_
        | refine ep_not rfl ?_ | refine ep_lenS rfl ?_ | refine ep_lenN rfl ?_ | refine ep_lenE rfl ?_ | refine sp_box rfl rfl rfl rfl rfl ?_ | refine ep_mkfn rfl ?_ | refine ep_nilckP rfl ?_ | refine ep_nilckF rfl ?_)
      | (refine g_ops ?_; first | refine eo_none ?_ | refine eo_nil ?_ | refine eo_yes rfl ?_ | refine eo_no rfl ?_ | refine eo_und rfl ?_ | refine eo_yesH rfl (by assumption) ?_ | refine eo_noH rfl (by assumption) ?_)
      | (refine g_dops ?_; first | refine ed_none ?_ | refine ed_nil ?_ | refine ed_yes rfl ?_ | refine ed_no rfl ?_ | refine ed_und rfl ?_ | refine ed_yesH rfl (by assumption) ?_ | refine ed_noH rfl (by assumption) ?_)
      | refine ed_same rfl ?_ | refine ed_one rfl rfl rfl rfl ?_ | refine ed_two rfl rfl rfl rfl rfl rfl rfl ?_ | refine ed_write rfl rfl ?_
      | (refine g_code ?_; first | refine ec_seq ?_ | refine ec_region ?_ | refine ec_draw ?_ | refine ec_block ?_ | refine ec_skip ?_ | refine ec_ret ?_ | refine ec_condT rfl ?_ | refine ec_condF rfl ?_ | refine ec_condTH rfl (by assumption) ?_ | refine ec_condFH rfl (by assumption) ?_)
      | refine ek_seqN ?_ | refine ek_seqX ?_ | refine ek_seqR ?_ | refine ek_blkN ?_ | refine ek_blkR ?_ | refine ek_blkX ?_ | refine ek_blkY rfl ?_)
    refine sfin (.inr rfl) (by rfl) (by rfl) (by exact ⟨rfl, rfl, rfl⟩) (by rfl) (by rfl) (by rfl) (by first | rfl | (simp; done) | (simp [ints, prs]; done))

-- math/bits.Mul32
def m149 : MC := (.seq (.region [⟨(.mov (.k (.int .u32 0))), (some 4), none⟩, ⟨(.mov (.k (.int .u32 0))), (some 5), none⟩] false) (.seq (.region [⟨(.mov (.t 0)), (some 7), none⟩, ⟨(.conv .u64 (.t 7)), (some 8), none⟩, ⟨(.mov (.t 1)), (some 9), none⟩, ⟨(.conv .u64 (.t 9)), (some 10), none⟩, ⟨(.bin .mul (.t 8) (.t 10)), (some 11), none⟩, ⟨(.mov (.t 11)), (some 6), none⟩] false) (.seq (.region [⟨(.mov (.t 6)), (some 12), none⟩, ⟨(.bin .shr (.t 12) (.k (.int .u64 32))), (some 13), none⟩, ⟨(.conv .u32 (.t 13)), (some 14), none⟩, ⟨(.mov (.t 6)), (some 15), none⟩, ⟨(.conv .u32 (.t 15)), (some 16), none⟩, ⟨(.mov (.t 14)), (some 4), none⟩, ⟨(.mov (.t 16)), (some 5), none⟩] false) .ret)))
theorem has149 : Has cx 149 17 m149 [(.tmp 4), (.tmp 5)] :=
  ⟨⟨Try.f149, Try.f149.body.getD .skip, by kernel_rfl, by kernel_rfl, by kernel_rfl, by kernel_rfl, by kernel_rfl, by kernel_rfl⟩⟩

-- math/bits.Mul64
def m150 : MC := (.seq (.region [⟨(.mov (.k (.int .u64 0))), (some 4), none⟩, ⟨(.mov (.k (.int .u64 0))), (some 5), none⟩] false) (.seq (.region [⟨(.mov (.t 0)), (some 14), none⟩, ⟨(.bin .and (.t 14) (.k (.int .u64 4294967295))), (some 15), none⟩, ⟨(.mov (.t 15)), (some 6), none⟩] false) (.seq (.region [⟨(.mov (.t 0)), (some 16), none⟩, ⟨(.bin .shr (.t 16) (.k (.int .u64 32))), (some 17), none⟩, ⟨(.mov (.t 17)), (some 7), none⟩] false) (.seq (.region [⟨(.mov (.t 1)), (some 18), none⟩, ⟨(.bin .and (.t 18) (.k (.int .u64 4294967295))), (some 19), none⟩, ⟨(.mov (.t 19)), (some 8), none⟩] false) (.seq (.region [⟨(.mov (.t 1)), (some 20), none⟩, ⟨(.bin .shr (.t 20) (.k (.int .u64 32))), (some 21), none⟩, ⟨(.mov (.t 21)), (some 9), none⟩] false) (.seq (.region [⟨(.mov (.t 6)), (some 22), none⟩, ⟨(.mov (.t 8)), (some 23), none⟩, ⟨(.bin .mul (.t 22) (.t 23)), (some 24), none⟩, ⟨(.mov (.t 24)), (some 10), none⟩] false) (.seq (.region [⟨(.mov (.t 7)), (some 25), none⟩, ⟨(.mov (.t 8)), (some 26), none⟩, ⟨(.bin .mul (.t 25) (.t 26)), (some 27), none⟩, ⟨(.mov (.t 10)), (some 28), none⟩, ⟨(.bin .shr (.t 28) (.k (.int .u64 32))), (some 29), none⟩, ⟨(.bin .add (.t 27) (.t 29)), (some 30), none⟩, ⟨(.mov (.t 30)), (some 11), none⟩] false) (.seq (.region [⟨(.mov (.t 11)), (some 31), none⟩, ⟨(.bin .and (.t 31) (.k (.int .u64 4294967295))), (some 32), none⟩, ⟨(.mov (.t 32)), (some 12), none⟩] false) (.seq (.region [⟨(.mov (.t 11)), (some 33), none⟩, ⟨(.bin .shr (.t 33) (.k (.int .u64 32))), (some 34), none⟩, ⟨(.mov (.t 34)), (some 13), none⟩] false) (.seq (.region [⟨(.mov (.t 12)), (some 35), none⟩, ⟨(.mov (.t 6)), (some 36), none⟩, ⟨(.mov (.t 9)), (some 37), none⟩, ⟨(.bin .mul (.t 36) (.t 37)), (some 38), none⟩, ⟨(.bin .add (.t 35) (.t 38)), (some 39), none⟩, ⟨(.mov (.t 39)), (some 12), none⟩] false) (.seq (.region [⟨(.mov (.t 7)), (some 40), none⟩, ⟨(.mov (.t 9)), (some 41), none⟩, ⟨(.bin .mul (.t 40) (.t 41)), (some 42), none⟩, ⟨(.mov (.t 13)), (some 43), none⟩, ⟨(.bin .add (.t 42) (.t 43)), (some 44), none⟩, ⟨(.mov (.t 12)), (some 45), none⟩, ⟨(.bin .shr (.t 45) (.k (.int .u64 32))), (some 46), none⟩, ⟨(.bin .add (.t 44) (.t 46)), (some 47), none⟩, ⟨(.mov (.t 47)), (some 4), none⟩] false) (.seq (.region [⟨(.mov (.t 0)), (some 48), none⟩, ⟨(.mov (.t 1)), (some 49), none⟩, ⟨(.bin .mul (.t 48) (.t 49)), (some 50), none⟩, ⟨(.mov (.t 50)), (some 5), none⟩] false) .ret))))))))))))
theorem has150 : Has cx 150 51 m150 [(.tmp 4), (.tmp 5)] :=
  ⟨⟨Try.f150, Try.f150.body.getD .skip, by kernel_rfl, by kernel_rfl, by kernel_rfl, by kernel_rfl, by kernel_rfl, by kernel_rfl⟩⟩
theorem ev150 (y : Nat) (hy : y < 4294967296) : Ev cx 150 [.int .u64 1, .int .u64 y] [] (.tup [.int .u64 0, .int .u64 y]) [] := by
  have m1 : y &&& 4294967295 = y := by
    rw [show (4294967295 : Nat) = 2 ^ 32 - 1 from rfl, Nat.and_two_pow_sub_one_eq_mod, Nat.mod_eq_of_lt hy]
  have s1 : y >>> 32 = 0 := by rw [Nat.shiftRight_eq_div_pow]; exact Nat.div_eq_of_lt (by simpa using hy)
  have b1 : binV .and (.int .u64 1) (.int .u64 4294967295) = some (.int .u64 1) := by simp only [binV, ne_eq, not_true, if_false]; rfl
  have b2 : binV .shr (.int .u64 1) (.int .u64 32) = some (.int .u64 0) := by simp only [binV]; rw [if_neg (by omega)]; rfl
  have b3 : binV .and (.int .u64 (y : Nat)) (.int .u64 4294967295) = some (.int .u64 (y : Nat)) := by
    have := b_andU (x := y) (y := 4294967295) (by omega) (by omega)
    rw [m1] at this; exact this
  have b4 : binV .shr (.int .u64 (y : Nat)) (.int .u64 32) = some (.int .u64 0) := by
    have := b_shrU (k' := .u64) (x := y) (y := 32) (by omega)
    rw [s1] at this; exact this
  have b5 : binV .mul (.int .u64 1) (.int .u64 (y : Nat)) = some (.int .u64 (y : Nat)) := by
    simp only [binV, ne_eq, not_true, if_false]; rw [w_u64 (by omega) (by omega), Int.one_mul]
  have b6 : binV .mul (.int .u64 0) (.int .u64 (y : Nat)) = some (.int .u64 0) := by
    simp only [binV, ne_eq, not_true, if_false]; rw [Int.zero_mul]; rfl
  have b7 : binV .add (.int .u64 0) (.int .u64 0) = some (.int .u64 0) := by simp only [binV, ne_eq, not_true, if_false]; rfl
  have b8 : binV .and (.int .u64 0) (.int .u64 4294967295) = some (.int .u64 0) := by simp only [binV, ne_eq, not_true, if_false]; rfl
  have b9 : binV .shr (.int .u64 0) (.int .u64 32) = some (.int .u64 0) := by simp only [binV]; rw [if_neg (by omega)]; rfl
  have b10 : binV .mul (.int .u64 1) (.int .u64 0) = some (.int .u64 0) := by simp only [binV, ne_eq, not_true, if_false]; rfl
  have b11 : binV .mul (.int .u64 0) (.int .u64 0) = some (.int .u64 0) := by simp only [binV, ne_eq, not_true, if_false]; rfl
  refine has150.eev rfl rfl ?_
  unfold m150
  repeat' (first
    | (refine g_op ?_; first
      | refine ep_mov rfl ?_
      | refine ep_bin rfl rfl (by first | exact b1 | exact b2 | exact b3 | exact b4 | exact b5 | exact b6 | exact b7 | exact b8 | exact b9 | exact b10 | exact b11 | exact b_add (by omega) (by omega) | exact b_and (by omega) (by omega) | exact b_shr (by omega)) ?_)
    | (refine g_ops ?_; first | refine eo_none ?_ | refine eo_nil ?_)
    | (refine g_code ?_; first | refine ec_seq ?_ | refine ec_region ?_ | refine ec_ret ?_)
    | refine ek_seqN ?_ | refine ek_seqR ?_)
  refine sfin (.inr rfl) (by rfl) (by rfl) (by exact ⟨rfl, rfl, rfl⟩) (by rfl) (by rfl) (by rfl) (by first | rfl | (simp; done) | (simp [ints, prs]; done))
-- math/bits.Mul
def m138 : MC := (.seq (.region [⟨(.mov (.k (.int .u64 0))), (some 4), none⟩, ⟨(.mov (.k (.int .u64 0))), (some 5), none⟩] false) (.seq (.cond (.k (.bool false)) (.seq (.region [⟨(.mov (.t 0)), (some 11), none⟩, ⟨(.conv .u32 (.t 11)), (some 12), none⟩, ⟨(.mov (.t 1)), (some 13), none⟩, ⟨(.conv .u32 (.t 13)), (some 14), none⟩, ⟨(.call 149 [(.t 12), (.t 14)]), (some 15), none⟩, ⟨(.mov (.t 15)), (some 10), none⟩, ⟨(.extract (.t 10) 0), (some 16), none⟩, ⟨(.extract (.t 10) 1), (some 17), none⟩, ⟨(.mov (.t 16)), (some 6), none⟩, ⟨(.mov (.t 17)), (some 7), none⟩] false) (.seq (.region [⟨(.mov (.t 6)), (some 18), none⟩, ⟨(.conv .u64 (.t 18)), (some 19), none⟩, ⟨(.mov (.t 7)), (some 20), none⟩, ⟨(.conv .u64 (.t 20)), (some 21), none⟩, ⟨(.mov (.t 19)), (some 4), none⟩, ⟨(.mov (.t 21)), (some 5), none⟩] false) .ret)) .skip) (.seq (.region [⟨(.mov (.t 0)), (some 23), none⟩, ⟨(.mov (.t 1)), (some 24), none⟩, ⟨(.call 150 [(.t 23), (.t 24)]), (some 25), none⟩, ⟨(.mov (.t 25)), (some 22), none⟩, ⟨(.extract (.t 22) 0), (some 26), none⟩, ⟨(.extract (.t 22) 1), (some 27), none⟩, ⟨(.mov (.t 26)), (some 8), none⟩, ⟨(.mov (.t 27)), (some 9), none⟩] false) (.seq (.region [⟨(.mov (.t 8)), (some 28), none⟩, ⟨(.mov (.t 9)), (some 29), none⟩, ⟨(.mov (.t 28)), (some 4), none⟩, ⟨(.mov (.t 29)), (some 5), none⟩] false) .ret))))
theorem has138 : Has cx 138 30 m138 [(.tmp 4), (.tmp 5)] :=
  ⟨⟨Try.f138, Try.f138.body.getD .skip, by kernel_rfl, by kernel_rfl, by kernel_rfl, by kernel_rfl, by kernel_rfl, by kernel_rfl⟩⟩
theorem ev138 (y : Nat) (hy : y < 4294967296) : Ev cx 138 [.int .u64 1, .int .u64 y] [] (.tup [.int .u64 0, .int .u64 y]) [] := by
  have e := ev150 y hy
  refine has138.eev rfl rfl ?_
  unfold m138
  repeat' (first
    | (refine g_op ?_; first
      | refine ep_mov rfl ?_
      | refine ep_call0 rfl (by first | exact e) rfl rfl ?_
      | refine sp_call rfl rfl rfl rfl (by first | exact e) ⟨rfl, rfl, rfl, rfl⟩ rfl rfl rfl ?_
      | refine ep_extract rfl rfl ?_ | refine ep_conv rfl (by first | exact w_u64 (by omega) (by omega) | exact wrap_id (by omega) (by omega) | rfl) ?_)
    | (refine g_ops ?_; first | refine eo_none ?_ | refine eo_nil ?_)
    | (refine g_code ?_; first | refine ec_seq ?_ | refine ec_region ?_ | refine ec_skip ?_ | refine ec_ret ?_ | refine ec_condT rfl ?_ | refine ec_condF rfl ?_ | refine ec_condTH rfl (by assumption) ?_ | refine ec_condFH rfl (by assumption) ?_)
    | refine ek_seqN ?_ | refine ek_seqR ?_)
  refine sfin (.inr rfl) (by rfl) (by rfl) (by exact ⟨rfl, rfl, rfl⟩) (by rfl) (by rfl) (by rfl) (by first | rfl | (simp; done) | (simp [ints, prs]; done))
def rpL (M : Nat) (v : Int) (i : Nat) : List Int := List.replicate (R2 i) v ++ List.replicate (R2 M - R2 i) 0
theorem zrep_flat (k : Nat) : zints (List.replicate k 0) = (List.replicate k [V.int .i64 0]).flatten := by
  induction k with
  | zero => rfl
  | succ k ih => rw [List.replicate_succ, List.replicate_succ, List.flatten_cons, ← ih]; rfl
theorem rpL_0 (M : Nat) (v : Int) : (zints (List.replicate (R2 M) 0)).take 0 ++ [V.int .i64 v].take (1 * 1) ++ (zints (List.replicate (R2 M) 0)).drop (0 + 1 * 1) = zints (rpL M v 0) := by
  have h0 : R2 0 = 1 := by unfold R2; rfl
  rw [rpL, h0]; simp [zints]
theorem rpL_row {M : Nat} {v : Int} {i : Nat} : ((zints (rpL M v i)).drop 0).take (R2 i * 1) = zints (List.replicate (R2 i) v) := by
  rw [rpL]; simp [zints]
theorem rpL_s {M : Nat} {v : Int} {i : Nat} (hi : i < M) : (zints (rpL M v i)).take (R2 i) ++ (zints (List.replicate (R2 i) v)).take (R2 i * 1) ++ (zints (rpL M v i)).drop (R2 i + R2 i * 1) = zints (rpL M v (i + 1)) := by
  have h1 := R2_succ i
  have h2 := R2_mono (i := i + 1) (n := M) (by omega)
  rw [rpL, rpL, h1]
  simp only [zints, List.map_append, List.map_replicate, Nat.mul_one]
  rw [List.take_left' (by simp), List.drop_append, List.drop_eq_nil_of_le (by simp)]
  simp only [List.take_replicate, Nat.min_self, List.length_replicate, List.drop_replicate, List.nil_append]
  rw [List.replicate_append_replicate, show R2 i + R2 i = 2 * R2 i by omega]
  try rw [show R2 M - R2 i - (2 * R2 i - R2 i) = R2 M - 2 * R2 i by omega]
theorem rpL_M (M : Nat) (v : Int) : rpL M v M = List.replicate (R2 M) v := by rw [rpL, Nat.sub_self]; simp
theorem rpL_len {M : Nat} {v : Int} {i : Nat} (hi : i ≤ M) : (zints (rpL M v i)).length = R2 M := by
  have := R2_mono hi
  rw [zints_len, rpL]; simp; omega
-- slices.Repeat[[]int64,int64]
def m105_0 : MC := (.seq (.seq (.region [⟨(.mov (.t 8)), (some 34), none⟩, ⟨(.mov (.t 7)), (some 35), none⟩, ⟨(.len (.t 35)), (some 36), none⟩, ⟨(.bin .lss (.t 34) (.t 36)), (some 37), none⟩] false) (.cond (.t 37) .skip (.exit 0))) (.block 1 (.region [⟨(.mov (.t 8)), (some 38), none⟩, ⟨(.mov (.t 7)), (some 39), none⟩, ⟨(.mov (.t 8)), (some 40), none⟩, ⟨(.slice 1 (.t 39) (some (.t 40)) none), (some 41), none⟩, ⟨(.mov (.t 7)), (some 42), none⟩, ⟨(.mov (.t 8)), (some 43), none⟩, ⟨(.slice 1 (.t 42) none (some (.t 43))), (some 44), none⟩, ⟨(.copy 1 (.t 41) (.t 44)), (some 45), none⟩, ⟨(.bin .add (.t 38) (.t 45)), (some 46), none⟩, ⟨(.mov (.t 46)), (some 8), none⟩] true)))
def m105 : MC := (.seq (.region [⟨(.mov (.k .nils)), (some 4), none⟩] false) (.seq (.seq (.region [⟨(.mov (.t 1)), (some 9), none⟩, ⟨(.bin .lss (.t 9) (.k (.int .i64 0))), (some 10), none⟩] false) (.cond (.t 10) (.region [⟨.bad, (some 11), none⟩, ⟨.bad, none, none⟩] false) .skip)) (.seq (.region [⟨(.mov (.t 0)), (some 13), none⟩, ⟨(.len (.t 13)), (some 14), none⟩, ⟨(.conv .u64 (.t 14)), (some 15), none⟩, ⟨(.mov (.t 1)), (some 16), none⟩, ⟨(.conv .u64 (.t 16)), (some 17), none⟩, ⟨(.call 138 [(.t 15), (.t 17)]), (some 18), none⟩, ⟨(.mov (.t 18)), (some 12), none⟩, ⟨(.extract (.t 12) 0), (some 19), none⟩, ⟨(.extract (.t 12) 1), (some 20), none⟩, ⟨(.mov (.t 19)), (some 5), none⟩, ⟨(.mov (.t 20)), (some 6), none⟩] false) (.seq (.seq (.region [⟨(.mov (.t 5)), (some 21), none⟩, ⟨(.bin .gtr (.t 21) (.k (.int .u64 0))), (some 22), none⟩, ⟨(.mov (.t 22)), (some 23), none⟩, ⟨(.mov (.t 6)), (some 24), (some (23, false))⟩, ⟨(.bin .gtr (.t 24) (.k (.int .u64 9223372036854775807))), (some 25), (some (23, false))⟩, ⟨(.pick (.t 23) (.k (.bool true)) (.t 25)), (some 26), none⟩] false) (.cond (.t 26) (.region [⟨.bad, (some 27), none⟩, ⟨.bad, none, none⟩] false) .skip)) (.seq (.region [⟨(.mov (.t 6)), (some 28), none⟩, ⟨(.conv .i64 (.t 28)), (some 29), none⟩, ⟨(.make 1 8 [(.int .i64 0)] (.t 29)), (some 30), none⟩, ⟨(.mov (.t 30)), (some 7), none⟩] false) (.seq (.region [⟨(.mov (.t 7)), (some 31), none⟩, ⟨(.mov (.t 0)), (some 32), none⟩, ⟨(.copy 1 (.t 31) (.t 32)), (some 33), none⟩, ⟨(.mov (.t 33)), (some 8), none⟩] false) (.seq (.block 0 (.loop m105_0)) (.seq (.region [⟨(.mov (.t 7)), (some 47), none⟩, ⟨(.mov (.t 47)), (some 4), none⟩] false) .ret))))))))
theorem has105 : Has cx 105 48 m105 [(.tmp 4)] :=
  ⟨⟨Try.f105, Try.f105.body.getD .skip, by kernel_rfl, by kernel_rfl, by kernel_rfl, by kernel_rfl, by kernel_rfl, by kernel_rfl⟩⟩
theorem lprp (M : Nat) (v : Int) (hM : M ≤ 16) :
    LpS cx 48 1 m105_0 [(7, .sl 1 0 (R2 M)), (8, .int .i64 (R2 (0) : Nat))] [⟨[.int .i64 v], 1, 0, some 0, true⟩, ⟨zints (rpL M v (0)), 1, 1, some 0, false⟩] (⟨.exit 0, [(7, .sl 1 0 (R2 M))], [⟨[.int .i64 v], 1, 0, some 0, true⟩, ⟨zints (rpL M v (M)), 1, 1, some 0, false⟩]⟩ : Out).x (⟨.exit 0, [(7, .sl 1 0 (R2 M))], [⟨[.int .i64 v], 1, 0, some 0, true⟩, ⟨zints (rpL M v (M)), 1, 1, some 0, false⟩]⟩ : Out).e (⟨.exit 0, [(7, .sl 1 0 (R2 M))], [⟨[.int .i64 v], 1, 0, some 0, true⟩, ⟨zints (rpL M v (M)), 1, 1, some 0, false⟩]⟩ : Out).h := by
  have h16 := R2_mono hM
  have h17 : R2 16 = 65536 := by unfold R2; rfl
  refine lp_st (M) (fun _ => ()) (fun i _ => [(7, .sl 1 0 (R2 M)), (8, .int .i64 (R2 (i) : Nat))]) (fun i _ => [⟨[.int .i64 v], 1, 0, some 0, true⟩, ⟨zints (rpL M v (i)), 1, 1, some 0, false⟩]) (fun _ => (⟨.exit 0, [(7, .sl 1 0 (R2 M))], [⟨[.int .i64 v], 1, 0, some 0, true⟩, ⟨zints (rpL M v (M)), 1, 1, some 0, false⟩]⟩ : Out)) ?_ ?_ (M) 0 (by omega)
  · intro i u_ hi hu_
    refine ⟨(), rfl, ?_⟩
    have hlt : decide ((i : Int) < (M : Nat)) = true := decide_eq_true (by omega)
    have h1 := R2_succ i
    have h2 := R2_mono (i := i + 1) (n := M) (by omega)
    have hq : decide (((R2 i : Nat) : Int) < (R2 M : Nat)) = true := decide_eq_true (by have := R2_pos i; omega)
    have hadd : binV .add (.int .i64 (R2 i : Nat)) (.int .i64 (R2 i : Nat)) = some (.int .i64 (R2 (i + 1) : Nat)) := by rw [b_addN (by omega)]; congr 2; omega
    have hl := rpL_len (M := M) (v := v) (i := i) (by omega)
    have hset := rpL_s (M := M) (v := v) hi
    have hrow : rowOf [⟨[.int .i64 v], 1, 0, some 0, true⟩, ⟨zints (rpL M v i), 1, 1, some 0, false⟩] 1 (.sl 1 0 (R2 i)) = some (zints (List.replicate (R2 i) v), R2 i) := by
      simp only [rowOf, List.getElem?_cons_succ, List.getElem?_cons_zero]; rw [rpL_row]
    unfold m105_0
    repeat' (first
      | refine ep_slice (p := (R2 i : Nat)) (q := (R2 M : Nat)) (o' := R2 i) (n' := R2 M - R2 i) rfl rfl rfl (.inr ⟨_, rfl⟩) (.inl ⟨rfl, rfl⟩) ⟨by omega, by omega, by omega, by simp, by omega⟩ rfl rfl ?_
      | refine ep_slice (p := 0) (q := (R2 i : Nat)) (o' := 0) (n' := R2 i) rfl rfl rfl (.inl ⟨rfl, rfl⟩) (.inr ⟨_, rfl⟩) ⟨by omega, by omega, by omega, rfl, by omega⟩ rfl rfl ?_
      | refine sp_copy (k := R2 i) rfl rfl hrow rfl ⟨_, rfl, .inl rfl⟩ (Nat.zero_le _) (by simp [zints]) (by omega) (by omega) hset rfl ?_
      | (refine g_op ?_; first
        | refine ep_mov rfl ?_
        | refine ep_bin rfl rfl (by first | exact hadd | exact b_add (by omega) (by omega) | exact b_lss) ?_ | refine ep_lenS rfl ?_ | refine ep_lenN rfl ?_ | refine ep_lenE rfl ?_)
      | (refine g_ops ?_; first | refine eo_none ?_ | refine eo_nil ?_)
      | (refine g_dops ?_; first | refine ed_none ?_ | refine ed_nil ?_)
      | refine ed_same rfl ?_ | refine ed_one rfl rfl rfl rfl ?_ | refine ed_two rfl rfl rfl rfl rfl rfl rfl ?_ | refine ed_write rfl rfl ?_
      | (refine g_code ?_; first | refine ec_seq ?_ | refine ec_region ?_ | refine ec_draw ?_ | refine ec_block ?_ | refine ec_skip ?_ | refine ec_exit ?_ | refine ec_condT rfl ?_ | refine ec_condF rfl ?_ | refine ec_condTH rfl (by assumption) ?_ | refine ec_condFH rfl (by assumption) ?_)
      | refine ek_seqN ?_ | refine ek_seqX ?_ | refine ek_blkN ?_ | refine ek_blkR ?_ | refine ek_blkX ?_ | refine ek_blkY rfl ?_)
    exact rnd_on (by rfl) (scmp2 (by rfl) (by rfl) (by exact ⟨rfl, rfl, rfl⟩) (by rfl) (by first | rfl | (simp; done) | (simp [ints, prs]; done)) (by rfl) (by first | rfl | (simp; done) | (simp [ints, prs]; done)))
  · intro u_ hu_
    have hlt : decide (((M : Nat) : Int) < (M : Nat)) = false := decide_eq_false (by omega)
    have hq : decide (((R2 M : Nat) : Int) < (R2 M : Nat)) = false := decide_eq_false (by omega)
    unfold m105_0
    repeat' (first
      | (refine g_op ?_; first
        | refine ep_mov rfl ?_
        | refine ep_bin rfl rfl (by first | exact b_add (by omega) (by omega) | exact b_lss) ?_ | refine ep_lenS rfl ?_ | refine ep_lenN rfl ?_ | refine ep_lenE rfl ?_)
      | (refine g_ops ?_; first | refine eo_none ?_ | refine eo_nil ?_)
      | (refine g_dops ?_; first | refine ed_none ?_ | refine ed_nil ?_)
      | refine ed_same rfl ?_ | refine ed_one rfl rfl rfl rfl ?_ | refine ed_two rfl rfl rfl rfl rfl rfl rfl ?_ | refine ed_write rfl rfl ?_
      | (refine g_code ?_; first | refine ec_seq ?_ | refine ec_region ?_ | refine ec_draw ?_ | refine ec_block ?_ | refine ec_skip ?_ | refine ec_exit ?_ | refine ec_condT rfl ?_ | refine ec_condF rfl ?_ | refine ec_condTH rfl (by assumption) ?_ | refine ec_condFH rfl (by assumption) ?_)
      | refine ek_seqN ?_ | refine ek_seqX ?_ | refine ek_blkN ?_ | refine ek_blkR ?_ | refine ek_blkX ?_ | refine ek_blkY rfl ?_)
    exact rnd_out (by rfl) (by simp) (scmp2 (by rfl) (by rfl) (by exact ⟨rfl, rfl, rfl⟩) (by rfl) (by first | rfl | (simp; done) | (simp [ints, prs]; done)) (by rfl) (by first | rfl | (simp; done) | (simp [ints, prs]; done)))

theorem ev105 (M : Nat) (v : Int) (hM : M ≤ 16) : Ev cx 105 [.sl 0 0 1, .int .i64 (R2 M : Nat)] [⟨[.int .i64 v], 1, 0, some 0, true⟩] (.sl 1 0 (R2 M)) [⟨[.int .i64 v], 1, 0, some 0, true⟩, ⟨zints (List.replicate (R2 M) v), 1, 1, some 0, false⟩] := by
  have h16 := R2_mono hM
  have h17 : R2 16 = 65536 := by unfold R2; rfl
  have h0 := R2_pos M
  have lp := lprp M v hM
  rw [rpL_M, show R2 0 = 1 by unfold R2; rfl] at lp
  have e := ev138 (R2 M) (by omega)
  have hq : decide (((R2 M : Nat) : Int) < 0) = false := decide_eq_false (by omega)
  have hq1 : decide (((R2 M : Nat) : Int) > 9223372036854775807) = false := decide_eq_false (by omega)
  have hz := zrep_flat (R2 M)
  have hl : (zints (List.replicate (R2 M) 0)).length = R2 M := by rw [zints_len]; simp
  have hset := rpL_0 M v
  refine has105.eev rfl rfl ?_
  unfold m105
  repeat' (first
    | refine sc_loop lp rfl rfl ⟨rfl, rfl, rfl⟩ rfl rfl rfl ?_
    | refine sp_make (mm := R2 M) (l := zints (List.replicate (R2 M) 0)) rfl rfl (by omega) hz rfl rfl ?_
    | refine sp_copy (k := 1) (l2 := [.int .i64 v]) rfl rfl rfl rfl ⟨_, rfl, .inr rfl⟩ (Nat.zero_le _) rfl (by omega) (by omega) hset rfl ?_
    | (refine g_op ?_; first
      | refine ep_mov rfl ?_
      | refine ep_call0 rfl (by first | exact e) rfl rfl ?_
      | refine sp_call rfl rfl rfl rfl (by first | exact e) ⟨rfl, rfl, rfl, rfl⟩ rfl rfl rfl ?_
      | refine ep_bin rfl rfl (by first | exact b_lss | exact b_gtr) ?_ | refine ep_pickT rfl rfl ?_ | refine ep_pickF rfl rfl ?_ | refine ep_pickTH rfl (by assumption) rfl ?_ | refine ep_pickFH rfl (by assumption) rfl ?_
      | refine ep_extract rfl rfl ?_ | refine ep_conv rfl (by first | exact w_u64 (by omega) (by omega) | exact wrap_id (by omega) (by omega) | rfl) ?_ | refine ep_lenS rfl ?_ | refine ep_lenN rfl ?_
      | refine ep_lenE rfl ?_)
    | (refine g_ops ?_; first | refine eo_none ?_ | refine eo_nil ?_ | refine eo_yes rfl ?_ | refine eo_no rfl ?_ | refine eo_und rfl ?_ | refine eo_yesH rfl (by assumption) ?_ | refine eo_noH rfl (by assumption) ?_)
    | (refine g_code ?_; first | refine ec_seq ?_ | refine ec_region ?_ | refine ec_block ?_ | refine ec_skip ?_ | refine ec_ret ?_ | refine ec_condT rfl ?_ | refine ec_condF rfl ?_ | refine ec_condTH rfl (by assumption) ?_ | refine ec_condFH rfl (by assumption) ?_)
    | refine ek_seqN ?_ | refine ek_seqX ?_ | refine ek_seqR ?_ | refine ek_blkN ?_ | refine ek_blkR ?_ | refine ek_blkX ?_ | refine ek_blkY rfl ?_)
  refine sfin (.inr rfl) (by rfl) (by rfl) (by exact ⟨rfl, rfl, rfl⟩) (by rfl) (by rfl) (by rfl) (by first | rfl | (simp; done) | (simp [ints, prs]; done))

-- (*impl.generated).known$1
def m133 : MC := (.seq (.region [⟨(.box (.t 0)), (some 3), none⟩, ⟨(.mov (.k (.bool false))), (some 4), none⟩] false) (.seq (.region [⟨(.load none (.t 1)), (some 5), none⟩, ⟨(.nilck (.t 5)), (some 6), none⟩, ⟨(.fieldAddr 2 (.t 6)), (some 7), none⟩, ⟨(.load none (.t 7)), (some 8), none⟩, ⟨(.fieldAddr 1 (.t 3)), (some 9), none⟩, ⟨(.load none (.t 9)), (some 10), none⟩, ⟨(.indexAddr 1 (.t 8) (.t 10)), (some 11), none⟩, ⟨(.load none (.t 11)), (some 12), none⟩, ⟨(.load none (.t 2)), (some 13), none⟩, ⟨(.bin .sub (.t 13) (.k (.int .i64 1))), (some 14), none⟩, ⟨(.callw 101 [(.t 12), (.k (.int .i64 0)), (.t 14)]), (some 15), none⟩, ⟨(.mov (.t 15)), (some 4), none⟩] true) .ret))
theorem has133 : Has cx 133 16 m133 [(.tmp 4)] :=
  ⟨⟨Try.f133, Try.f133.body.getD .skip, by kernel_rfl, by kernel_rfl, by kernel_rfl, by kernel_rfl, by kernel_rfl, by kernel_rfl⟩⟩
theorem ev1kn (n N d b : Nat) (fs : List (Int × Int)) (D : List Int) (hb : b < N) (hN : D.length = N) (hd : d < 65536) : Ev cx 133 [.agg [.int .i64 (n : Nat), .int .i64 (b : Nat)], .ptr 0 0, .ptr 4 0] [⟨[.ptr 1 0], 1, 0, some 0, true⟩, ⟨[.sl 2 0 fs.length, .int .i64 (n : Nat), .sl 3 0 N], 1, 1, some 0, true⟩, ⟨fns fs, 2, 2, some 0, false⟩, ⟨zints D, 1, 3, some 0, false⟩, ⟨[.int .i64 (d : Nat)], 1, 4, some 0, true⟩] (.bool ((fun b => decide (0 ≤ D.getD b 0 ∧ D.getD b 0 ≤ (d : Int) - 1)) b)) [⟨[.ptr 1 0], 1, 0, some 0, true⟩, ⟨[.sl 2 0 fs.length, .int .i64 (n : Nat), .sl 3 0 N], 1, 1, some 0, true⟩, ⟨fns fs, 2, 2, some 0, false⟩, ⟨zints D, 1, 3, some 0, false⟩, ⟨[.int .i64 (d : Nat)], 1, 4, some 0, true⟩] := by
  have hget := zints_get (l := D) (j := b) (by omega)
  refine has133.eev rfl rfl ?_
  unfold m133
  repeat' (first
    | refine ep_loadS rfl rfl rfl hget ?_
    | (refine g_op ?_; first
      | refine ep_mov rfl ?_ | refine ep_load1 rfl rfl rfl rfl ?_ | refine ep_fieldAddr rfl ?_
      | refine ep_callw0 rfl (by first | exact ev101 (D.getD b 0) 0 ((d : Nat) - 1)) rfl rfl ?_
      | refine sp_callw rfl rfl rfl rfl (by first | exact ev101 (D.getD b 0) 0 ((d : Nat) - 1)) ⟨rfl, rfl, rfl, rfl⟩ rfl rfl rfl (by first | exact WrP_refl _ _ | (repeat' (first | exact rfl | exact True.intro | refine And.intro ?_ ?_))) ?_
      | refine ep_bin rfl rfl (by exact b_sub (by omega) (by omega)) ?_ | refine sp_box rfl rfl rfl rfl rfl ?_ | refine sp_idx rfl rfl rfl (by omega) rfl ?_ | refine ep_loadS rfl rfl rfl (by first | exact ints_get (by omega) | exact zints_get (by omega) | exact fget (by omega) | assumption) ?_
      | refine ep_nilckP rfl ?_ | refine ep_nilckF rfl ?_)
    | (refine g_ops ?_; first | refine eo_none ?_ | refine eo_nil ?_)
    | (refine g_dops ?_; first | refine ed_none ?_ | refine ed_nil ?_)
    | refine ed_same rfl ?_ | refine ed_one rfl rfl rfl rfl ?_ | refine ed_two rfl rfl rfl rfl rfl rfl rfl ?_ | refine ed_write rfl rfl ?_
    | (refine g_code ?_; first | refine ec_seq ?_ | refine ec_region ?_ | refine ec_draw ?_ | refine ec_ret ?_)
    | refine ek_seqN ?_ | refine ek_seqR ?_)
  refine sfin (.inr rfl) (by rfl) (by rfl) (by exact ⟨rfl, rfl, rfl⟩) (by rfl) (by rfl) (by rfl) (by first | rfl | (simp; done) | (simp [ints, prs]; done))
-- (*impl.generated).known
def m93 : MC := (.seq (.region [⟨(.box (.t 0)), (some 2), none⟩, ⟨(.box (.t 1)), (some 3), none⟩, ⟨(.mov (.k .nils)), (some 4), none⟩] false) (.seq (.region [⟨(.load none (.t 2)), (some 5), none⟩, ⟨(.nilck (.t 5)), (some 6), none⟩, ⟨(.fieldAddr 1 (.t 6)), (some 7), none⟩, ⟨(.load none (.t 7)), (some 8), none⟩, ⟨(.mkfn 133 [(.t 2), (.t 3)]), (some 9), none⟩, ⟨(.call 129 [(.t 8), (.t 9)]), (some 10), none⟩, ⟨(.mov (.t 10)), (some 4), none⟩] false) .ret))
theorem has93 : Has cx 93 11 m93 [(.tmp 4)] :=
  ⟨⟨Try.f93, Try.f93.body.getD .skip, by kernel_rfl, by kernel_rfl, by kernel_rfl, by kernel_rfl, by kernel_rfl, by kernel_rfl⟩⟩
theorem lpft_kn (n N d : Nat) (fs : List (Int × Int)) (D : List Int) (hN : D.length = N) (hNn : N = R2 (R2 n)) (hn3 : n ≤ 3) (hd : d < 65536) (o : Out) (ho : (match selm (fun b => decide (0 ≤ D.getD b 0 ∧ D.getD b 0 ≤ (d : Int) - 1)) (idn) (R2 (R2 n)) with | [] => (⟨.exit 0, [(5, .nils)], [⟨[.ptr 1 0], 1, 0, some 0, true⟩, ⟨[.sl 2 0 fs.length, .int .i64 (n : Nat), .sl 3 0 N], 1, 1, some 0, true⟩, ⟨fns fs, 2, 2, some 0, false⟩, ⟨zints D, 1, 3, some 0, false⟩, ⟨[.int .i64 (d : Nat)], 1, 4, some 0, true⟩]⟩ : Out) | x :: xs => ⟨.exit 0, [(5, .sl 5 0 (x :: xs).length)], [⟨[.ptr 1 0], 1, 0, some 0, true⟩, ⟨[.sl 2 0 fs.length, .int .i64 (n : Nat), .sl 3 0 N], 1, 1, some 0, true⟩, ⟨fns fs, 2, 2, some 0, false⟩, ⟨zints D, 1, 3, some 0, false⟩, ⟨[.int .i64 (d : Nat)], 1, 4, some 0, true⟩, ⟨prs n (x :: xs), 2, 5, some 0, false⟩]⟩) = o) :
    LpS cx 25 5 m129_0 [(0, .int .i64 (n : Nat)), (1, .fn 133 [.ptr 0 0, .ptr 4 0]), (5, .nils), (9, .int .i64 (R2 (R2 n) : Nat)), (10, .int .i64 (0 : Nat))] [⟨[.ptr 1 0], 1, 0, some 0, true⟩, ⟨[.sl 2 0 fs.length, .int .i64 (n : Nat), .sl 3 0 N], 1, 1, some 0, true⟩, ⟨fns fs, 2, 2, some 0, false⟩, ⟨zints D, 1, 3, some 0, false⟩, ⟨[.int .i64 (d : Nat)], 1, 4, some 0, true⟩] o.x o.e o.h := by
  have hn : n ≤ 4 := by omega
  obtain ⟨h1, h2, h3, h4⟩ := shN hn
  subst ho
  refine lp_st (R2 (R2 n)) (selm (fun b => decide (0 ≤ D.getD b 0 ∧ D.getD b 0 ≤ (d : Int) - 1)) (idn)) (fun i s => match s with | [] => [(0, .int .i64 (n : Nat)), (1, .fn 133 [.ptr 0 0, .ptr 4 0]), (5, .nils), (9, .int .i64 (R2 (R2 n) : Nat)), (10, .int .i64 (i : Nat))] | x :: xs => [(0, .int .i64 (n : Nat)), (1, .fn 133 [.ptr 0 0, .ptr 4 0]), (5, .sl 5 0 (x :: xs).length), (9, .int .i64 (R2 (R2 n) : Nat)), (10, .int .i64 (i : Nat))]) (fun i s => match s with | [] => [⟨[.ptr 1 0], 1, 0, some 0, true⟩, ⟨[.sl 2 0 fs.length, .int .i64 (n : Nat), .sl 3 0 N], 1, 1, some 0, true⟩, ⟨fns fs, 2, 2, some 0, false⟩, ⟨zints D, 1, 3, some 0, false⟩, ⟨[.int .i64 (d : Nat)], 1, 4, some 0, true⟩] | x :: xs => [⟨[.ptr 1 0], 1, 0, some 0, true⟩, ⟨[.sl 2 0 fs.length, .int .i64 (n : Nat), .sl 3 0 N], 1, 1, some 0, true⟩, ⟨fns fs, 2, 2, some 0, false⟩, ⟨zints D, 1, 3, some 0, false⟩, ⟨[.int .i64 (d : Nat)], 1, 4, some 0, true⟩, ⟨prs n (x :: xs), 2, 5, some 0, false⟩]) (fun s => match s with | [] => ⟨.exit 0, [(5, .nils)], [⟨[.ptr 1 0], 1, 0, some 0, true⟩, ⟨[.sl 2 0 fs.length, .int .i64 (n : Nat), .sl 3 0 N], 1, 1, some 0, true⟩, ⟨fns fs, 2, 2, some 0, false⟩, ⟨zints D, 1, 3, some 0, false⟩, ⟨[.int .i64 (d : Nat)], 1, 4, some 0, true⟩]⟩ | x :: xs => ⟨.exit 0, [(5, .sl 5 0 (x :: xs).length)], [⟨[.ptr 1 0], 1, 0, some 0, true⟩, ⟨[.sl 2 0 fs.length, .int .i64 (n : Nat), .sl 3 0 N], 1, 1, some 0, true⟩, ⟨fns fs, 2, 2, some 0, false⟩, ⟨zints D, 1, 3, some 0, false⟩, ⟨[.int .i64 (d : Nat)], 1, 4, some 0, true⟩, ⟨prs n (x :: xs), 2, 5, some 0, false⟩]⟩) ?_ ?_ (R2 (R2 n)) 0 (by omega)
  · intro i s hi hs
    have hlt : decide ((i : Int) < (R2 (R2 n) : Nat)) = true := decide_eq_true (by omega)
    have hle : decide ((i : Int) ≤ (R2 (R2 n) : Nat) - 1) = true := decide_eq_true (by omega)
    have hlen : s.length ≤ 65536 := by have := selm_len (fun b => decide (0 ≤ D.getD b 0 ∧ D.getD b 0 ≤ (d : Int) - 1)) (idn) i; rw [hs] at this; omega
    cases hp : (fun b => decide (0 ≤ D.getD b 0 ∧ D.getD b 0 ≤ (d : Int) - 1)) i with
    | true =>
      have hp' : (decide (0 ≤ D.getD i 0 ∧ D.getD i 0 ≤ (d : Int) - 1)) = true := hp
      have e1 := ev1kn n N d i fs D (by omega) hN hd
      rw [show (fun b => decide (0 ≤ D.getD b 0 ∧ D.getD b 0 ≤ (d : Int) - 1)) i = _ from hp'] at e1
      cases s with
      | nil =>
        refine ⟨[(idn) i], by rw [selm_t (p := fun b => decide (0 ≤ D.getD b 0 ∧ D.getD b 0 ≤ (d : Int) - 1)) hp, hs]; try rfl, ?_⟩
        unfold m129_0
        repeat' (first
          | (refine g_op ?_; first
            | refine ep_mov rfl ?_ | refine sp_loadN rfl rfl rfl rfl rfl ?_
            | refine sp_callv rfl rfl rfl rfl rfl rfl (by first | exact e1) ⟨rfl, rfl, rfl, rfl⟩ rfl rfl rfl ?_
            | refine sp_callb rfl rfl rfl rfl rfl rfl (by first | exact e1) ⟨rfl, rfl, rfl, rfl⟩ rfl rfl rfl ?_
            | refine ep_bin rfl rfl (by first | exact b_add (by omega) (by omega) | exact b_lss) ?_ | refine sp_store rfl rfl rfl rfl rfl rfl rfl rfl rfl rfl ?_ | refine sp_alloc rfl rfl ?_ | refine sp_build rfl rfl ?_
            | refine sp_bslice rfl rfl rfl rfl rfl ?_ | refine sp_push0 rfl (by first | exact .inl rfl | exact .inr rfl) rfl rfl rfl rfl rfl (by decide) rfl rfl rfl ?_ | refine sp_push rfl rfl rfl rfl rfl rfl rfl (by first | exact ints_len _ | exact prs_len _ _ | exact zints_len _) (by omega) (Nat.zero_le _) rfl rfl rfl rfl rfl ?_)
          | (refine g_ops ?_; first | refine eo_none ?_ | refine eo_nil ?_)
          | (refine g_code ?_; first | refine ec_seq ?_ | refine ec_region ?_ | refine ec_block ?_ | refine ec_skip ?_ | refine ec_exit ?_ | refine ec_condT rfl ?_ | refine ec_condF rfl ?_ | refine ec_condTH rfl (by assumption) ?_ | refine ec_condFH rfl (by assumption) ?_)
          | refine ek_seqN ?_ | refine ek_seqX ?_ | refine ek_blkN ?_ | refine ek_blkR ?_ | refine ek_blkX ?_ | refine ek_blkY rfl ?_)
        exact rnd_on (by rfl) (scmp2 (by rfl) (by rfl) (by exact ⟨rfl, rfl, rfl⟩) (by rfl) (by first | rfl | (simp; done) | (simp [ints, prs]; done)) (by rfl) (by first | rfl | (simp; done) | (simp [ints, prs]; done)))
      | cons x xs =>
        refine ⟨(x :: xs) ++ [(idn) i], by rw [selm_t (p := fun b => decide (0 ≤ D.getD b 0 ∧ D.getD b 0 ≤ (d : Int) - 1)) hp, hs]; try rfl, ?_⟩
        unfold m129_0
        repeat' (first
          | (refine g_op ?_; first
            | refine ep_mov rfl ?_ | refine sp_loadN rfl rfl rfl rfl rfl ?_
            | refine sp_callv rfl rfl rfl rfl rfl rfl (by first | exact e1) ⟨rfl, rfl, rfl, rfl⟩ rfl rfl rfl ?_
            | refine sp_callb rfl rfl rfl rfl rfl rfl (by first | exact e1) ⟨rfl, rfl, rfl, rfl⟩ rfl rfl rfl ?_
            | refine ep_bin rfl rfl (by first | exact b_add (by omega) (by omega) | exact b_lss) ?_ | refine sp_store rfl rfl rfl rfl rfl rfl rfl rfl rfl rfl ?_ | refine sp_alloc rfl rfl ?_ | refine sp_build rfl rfl ?_
            | refine sp_bslice rfl rfl rfl rfl rfl ?_ | refine sp_push0 rfl (by first | exact .inl rfl | exact .inr rfl) rfl rfl rfl rfl rfl (by decide) rfl rfl rfl ?_ | refine sp_push rfl rfl rfl rfl rfl rfl rfl (by first | exact ints_len _ | exact prs_len _ _ | exact zints_len _) (by omega) (Nat.zero_le _) rfl rfl rfl rfl rfl ?_)
          | (refine g_ops ?_; first | refine eo_none ?_ | refine eo_nil ?_)
          | (refine g_code ?_; first | refine ec_seq ?_ | refine ec_region ?_ | refine ec_block ?_ | refine ec_skip ?_ | refine ec_exit ?_ | refine ec_condT rfl ?_ | refine ec_condF rfl ?_ | refine ec_condTH rfl (by assumption) ?_ | refine ec_condFH rfl (by assumption) ?_)
          | refine ek_seqN ?_ | refine ek_seqX ?_ | refine ek_blkN ?_ | refine ek_blkR ?_ | refine ek_blkX ?_ | refine ek_blkY rfl ?_)
        exact rnd_on (by rfl) (scmp2 (by rfl) (by rfl) (by exact ⟨rfl, rfl, rfl⟩) (by rfl) (by first | rfl | (simp; done) | (simp [ints, prs]; done)) (by rfl) (by first | rfl | (simp; done) | (simp [ints, prs]; done)))
    | false =>
      have hp' : (decide (0 ≤ D.getD i 0 ∧ D.getD i 0 ≤ (d : Int) - 1)) = false := hp
      have e1 := ev1kn n N d i fs D (by omega) hN hd
      rw [show (fun b => decide (0 ≤ D.getD b 0 ∧ D.getD b 0 ≤ (d : Int) - 1)) i = _ from hp'] at e1
      cases s with
      | nil =>
        refine ⟨[], by rw [selm_f (p := fun b => decide (0 ≤ D.getD b 0 ∧ D.getD b 0 ≤ (d : Int) - 1)) hp, hs]; try rfl, ?_⟩
        unfold m129_0
        repeat' (first
          | (refine g_op ?_; first
            | refine ep_mov rfl ?_ | refine sp_loadN rfl rfl rfl rfl rfl ?_
            | refine sp_callv rfl rfl rfl rfl rfl rfl (by first | exact e1) ⟨rfl, rfl, rfl, rfl⟩ rfl rfl rfl ?_
            | refine sp_callb rfl rfl rfl rfl rfl rfl (by first | exact e1) ⟨rfl, rfl, rfl, rfl⟩ rfl rfl rfl ?_
            | refine ep_bin rfl rfl (by first | exact b_add (by omega) (by omega) | exact b_lss) ?_ | refine sp_store rfl rfl rfl rfl rfl rfl rfl rfl rfl rfl ?_ | refine sp_alloc rfl rfl ?_ | refine sp_build rfl rfl ?_
            | refine sp_bslice rfl rfl rfl rfl rfl ?_ | refine sp_push0 rfl (by first | exact .inl rfl | exact .inr rfl) rfl rfl rfl rfl rfl (by decide) rfl rfl rfl ?_ | refine sp_push rfl rfl rfl rfl rfl rfl rfl (by first | exact ints_len _ | exact prs_len _ _ | exact zints_len _) (by omega) (Nat.zero_le _) rfl rfl rfl rfl rfl ?_)
          | (refine g_ops ?_; first | refine eo_none ?_ | refine eo_nil ?_)
          | (refine g_code ?_; first | refine ec_seq ?_ | refine ec_region ?_ | refine ec_block ?_ | refine ec_skip ?_ | refine ec_exit ?_ | refine ec_condT rfl ?_ | refine ec_condF rfl ?_ | refine ec_condTH rfl (by assumption) ?_ | refine ec_condFH rfl (by assumption) ?_)
          | refine ek_seqN ?_ | refine ek_seqX ?_ | refine ek_blkN ?_ | refine ek_blkR ?_ | refine ek_blkX ?_ | refine ek_blkY rfl ?_)
        exact rnd_on (by rfl) (scmp2 (by rfl) (by rfl) (by exact ⟨rfl, rfl, rfl⟩) (by rfl) (by first | rfl | (simp; done) | (simp [ints, prs]; done)) (by rfl) (by first | rfl | (simp; done) | (simp [ints, prs]; done)))
      | cons x xs =>
        refine ⟨x :: xs, by rw [selm_f (p := fun b => decide (0 ≤ D.getD b 0 ∧ D.getD b 0 ≤ (d : Int) - 1)) hp, hs]; try rfl, ?_⟩
        unfold m129_0
        repeat' (first
          | (refine g_op ?_; first
            | refine ep_mov rfl ?_ | refine sp_loadN rfl rfl rfl rfl rfl ?_
            | refine sp_callv rfl rfl rfl rfl rfl rfl (by first | exact e1) ⟨rfl, rfl, rfl, rfl⟩ rfl rfl rfl ?_
            | refine sp_callb rfl rfl rfl rfl rfl rfl (by first | exact e1) ⟨rfl, rfl, rfl, rfl⟩ rfl rfl rfl ?_
            | refine ep_bin rfl rfl (by first | exact b_add (by omega) (by omega) | exact b_lss) ?_ | refine sp_store rfl rfl rfl rfl rfl rfl rfl rfl rfl rfl ?_ | refine sp_alloc rfl rfl ?_ | refine sp_build rfl rfl ?_
            | refine sp_bslice rfl rfl rfl rfl rfl ?_ | refine sp_push0 rfl (by first | exact .inl rfl | exact .inr rfl) rfl rfl rfl rfl rfl (by decide) rfl rfl rfl ?_ | refine sp_push rfl rfl rfl rfl rfl rfl rfl (by first | exact ints_len _ | exact prs_len _ _ | exact zints_len _) (by omega) (Nat.zero_le _) rfl rfl rfl rfl rfl ?_)
          | (refine g_ops ?_; first | refine eo_none ?_ | refine eo_nil ?_)
          | (refine g_code ?_; first | refine ec_seq ?_ | refine ec_region ?_ | refine ec_block ?_ | refine ec_skip ?_ | refine ec_exit ?_ | refine ec_condT rfl ?_ | refine ec_condF rfl ?_ | refine ec_condTH rfl (by assumption) ?_ | refine ec_condFH rfl (by assumption) ?_)
          | refine ek_seqN ?_ | refine ek_seqX ?_ | refine ek_blkN ?_ | refine ek_blkR ?_ | refine ek_blkX ?_ | refine ek_blkY rfl ?_)
        exact rnd_on (by rfl) (scmp2 (by rfl) (by rfl) (by exact ⟨rfl, rfl, rfl⟩) (by rfl) (by first | rfl | (simp; done) | (simp [ints, prs]; done)) (by rfl) (by first | rfl | (simp; done) | (simp [ints, prs]; done)))
  · intro s hs
    have hlt : decide (((R2 (R2 n) : Nat) : Int) < (R2 (R2 n) : Nat)) = false := decide_eq_false (by omega)
    have hle : decide (((R2 (R2 n) : Nat) : Int) ≤ (R2 (R2 n) : Nat) - 1) = false := decide_eq_false (by omega)
    cases s with
    | nil =>
      unfold m129_0
      repeat' (first
        | (refine g_op ?_; first
          | refine ep_mov rfl ?_ | refine sp_loadN rfl rfl rfl rfl rfl ?_
          | refine sp_callv rfl rfl rfl rfl rfl rfl (by first | exact e1) ⟨rfl, rfl, rfl, rfl⟩ rfl rfl rfl ?_
          | refine sp_callb rfl rfl rfl rfl rfl rfl (by first | exact e1) ⟨rfl, rfl, rfl, rfl⟩ rfl rfl rfl ?_
          | refine ep_bin rfl rfl (by first | exact b_add (by omega) (by omega) | exact b_lss) ?_ | refine sp_store rfl rfl rfl rfl rfl rfl rfl rfl rfl rfl ?_ | refine sp_alloc rfl rfl ?_ | refine sp_build rfl rfl ?_
          | refine sp_bslice rfl rfl rfl rfl rfl ?_ | refine sp_push0 rfl (by first | exact .inl rfl | exact .inr rfl) rfl rfl rfl rfl rfl (by decide) rfl rfl rfl ?_ | refine sp_push rfl rfl rfl rfl rfl rfl rfl (by first | exact ints_len _ | exact prs_len _ _ | exact zints_len _) (by omega) (Nat.zero_le _) rfl rfl rfl rfl rfl ?_)
        | (refine g_ops ?_; first | refine eo_none ?_ | refine eo_nil ?_)
        | (refine g_code ?_; first | refine ec_seq ?_ | refine ec_region ?_ | refine ec_block ?_ | refine ec_skip ?_ | refine ec_exit ?_ | refine ec_condT rfl ?_ | refine ec_condF rfl ?_ | refine ec_condTH rfl (by assumption) ?_ | refine ec_condFH rfl (by assumption) ?_)
        | refine ek_seqN ?_ | refine ek_seqX ?_ | refine ek_blkN ?_ | refine ek_blkR ?_ | refine ek_blkX ?_ | refine ek_blkY rfl ?_)
      exact rnd_out (by rfl) (by simp) (scmp2 (by rfl) (by rfl) (by exact ⟨rfl, rfl, rfl⟩) (by rfl) (by first | rfl | (simp; done) | (simp [ints, prs]; done)) (by rfl) (by first | rfl | (simp; done) | (simp [ints, prs]; done)))
    | cons x xs =>
      unfold m129_0
      repeat' (first
        | (refine g_op ?_; first
          | refine ep_mov rfl ?_ | refine sp_loadN rfl rfl rfl rfl rfl ?_
          | refine sp_callv rfl rfl rfl rfl rfl rfl (by first | exact e1) ⟨rfl, rfl, rfl, rfl⟩ rfl rfl rfl ?_
          | refine sp_callb rfl rfl rfl rfl rfl rfl (by first | exact e1) ⟨rfl, rfl, rfl, rfl⟩ rfl rfl rfl ?_
          | refine ep_bin rfl rfl (by first | exact b_add (by omega) (by omega) | exact b_lss) ?_ | refine sp_store rfl rfl rfl rfl rfl rfl rfl rfl rfl rfl ?_ | refine sp_alloc rfl rfl ?_ | refine sp_build rfl rfl ?_
          | refine sp_bslice rfl rfl rfl rfl rfl ?_ | refine sp_push0 rfl (by first | exact .inl rfl | exact .inr rfl) rfl rfl rfl rfl rfl (by decide) rfl rfl rfl ?_ | refine sp_push rfl rfl rfl rfl rfl rfl rfl (by first | exact ints_len _ | exact prs_len _ _ | exact zints_len _) (by omega) (Nat.zero_le _) rfl rfl rfl rfl rfl ?_)
        | (refine g_ops ?_; first | refine eo_none ?_ | refine eo_nil ?_)
        | (refine g_code ?_; first | refine ec_seq ?_ | refine ec_region ?_ | refine ec_block ?_ | refine ec_skip ?_ | refine ec_exit ?_ | refine ec_condT rfl ?_ | refine ec_condF rfl ?_ | refine ec_condTH rfl (by assumption) ?_ | refine ec_condFH rfl (by assumption) ?_)
        | refine ek_seqN ?_ | refine ek_seqX ?_ | refine ek_blkN ?_ | refine ek_blkR ?_ | refine ek_blkX ?_ | refine ek_blkY rfl ?_)
      exact rnd_out (by rfl) (by simp) (scmp2 (by rfl) (by rfl) (by exact ⟨rfl, rfl, rfl⟩) (by rfl) (by first | rfl | (simp; done) | (simp [ints, prs]; done)) (by rfl) (by first | rfl | (simp; done) | (simp [ints, prs]; done)))

theorem evft_kn (n N d : Nat) (fs : List (Int × Int)) (D : List Int) (hN : D.length = N) (hNn : N = R2 (R2 n)) (hn3 : n ≤ 3) (hd : d < 65536) : Ev cx 129 [.int .i64 n, .fn 133 [.ptr 0 0, .ptr 4 0]] [⟨[.ptr 1 0], 1, 0, some 0, true⟩, ⟨[.sl 2 0 fs.length, .int .i64 (n : Nat), .sl 3 0 N], 1, 1, some 0, true⟩, ⟨fns fs, 2, 2, some 0, false⟩, ⟨zints D, 1, 3, some 0, false⟩, ⟨[.int .i64 (d : Nat)], 1, 4, some 0, true⟩] (slV .nils 5 (selm (fun b => decide (0 ≤ D.getD b 0 ∧ D.getD b 0 ≤ (d : Int) - 1)) idn (R2 (R2 n)))) ([⟨[.ptr 1 0], 1, 0, some 0, true⟩, ⟨[.sl 2 0 fs.length, .int .i64 (n : Nat), .sl 3 0 N], 1, 1, some 0, true⟩, ⟨fns fs, 2, 2, some 0, false⟩, ⟨zints D, 1, 3, some 0, false⟩, ⟨[.int .i64 (d : Nat)], 1, 4, some 0, true⟩] ++ slH 5 2 (prs n) (selm (fun b => decide (0 ≤ D.getD b 0 ∧ D.getD b 0 ≤ (d : Int) - 1)) idn (R2 (R2 n)))) := by
  have hn : n ≤ 4 := by omega
  cases hs : selm (fun b => decide (0 ≤ D.getD b 0 ∧ D.getD b 0 ≤ (d : Int) - 1)) idn (R2 (R2 n)) with
  | nil =>
    have lp := lpft_kn n N d fs D hN hNn hn3 hd _ (by rw [hs])
    refine has129.eev rfl rfl ?_
    unfold m129
    repeat' (first
      | refine sc_loop lp rfl rfl ⟨rfl, rfl, rfl⟩ rfl rfl rfl ?_
      | (refine g_op ?_; first
        | refine ep_mov rfl ?_
        | refine ep_call0 rfl (by first | exact ev102 _ hn) rfl rfl ?_
        | refine sp_call rfl rfl rfl rfl (by first | exact ev102 _ hn) ⟨rfl, rfl, rfl, rfl⟩ rfl rfl rfl ?_)
      | (refine g_ops ?_; first | refine eo_none ?_ | refine eo_nil ?_)
      | (refine g_code ?_; first | refine ec_seq ?_ | refine ec_region ?_ | refine ec_block ?_ | refine ec_ret ?_)
      | refine ek_seqN ?_ | refine ek_seqX ?_ | refine ek_seqR ?_ | refine ek_blkN ?_ | refine ek_blkR ?_ | refine ek_blkX ?_ | refine ek_blkY rfl ?_)
    refine sfin (.inr rfl) (by rfl) (by rfl) (by exact ⟨rfl, rfl, rfl⟩) (by rfl) (by rfl) (by rfl) (by first | rfl | (simp; done) | (simp [ints, prs]; done))
  | cons x xs =>
    have lp := lpft_kn n N d fs D hN hNn hn3 hd _ (by rw [hs])
    refine has129.eev rfl rfl ?_
    unfold m129
    repeat' (first
      | refine sc_loop lp rfl rfl ⟨rfl, rfl, rfl⟩ rfl rfl rfl ?_
      | (refine g_op ?_; first
        | refine ep_mov rfl ?_
        | refine ep_call0 rfl (by first | exact ev102 _ hn) rfl rfl ?_
        | refine sp_call rfl rfl rfl rfl (by first | exact ev102 _ hn) ⟨rfl, rfl, rfl, rfl⟩ rfl rfl rfl ?_)
      | (refine g_ops ?_; first | refine eo_none ?_ | refine eo_nil ?_)
      | (refine g_code ?_; first | refine ec_seq ?_ | refine ec_region ?_ | refine ec_block ?_ | refine ec_ret ?_)
      | refine ek_seqN ?_ | refine ek_seqX ?_ | refine ek_seqR ?_ | refine ek_blkN ?_ | refine ek_blkR ?_ | refine ek_blkX ?_ | refine ek_blkY rfl ?_)
    refine sfin (.inr rfl) (by rfl) (by rfl) (by exact ⟨rfl, rfl, rfl⟩) (by rfl) (by rfl) (by rfl) (by first | rfl | (simp; done) | (simp [ints, prs]; done))
theorem evkn (n N d : Nat) (fs : List (Int × Int)) (D : List Int) (hN : D.length = N) (hNn : N = R2 (R2 n)) (hn3 : n ≤ 3) (hd : d < 65536) (L : List Nat) (hL : selm (fun b => decide (0 ≤ D.getD b 0 ∧ D.getD b 0 ≤ (d : Int) - 1)) idn (R2 (R2 n)) = L) (hne : L ≠ []) : Ev cx 93 [.ptr 0 0, .int .i64 (d : Nat)] [⟨[.sl 1 0 fs.length, .int .i64 (n : Nat), .sl 2 0 N], 1, 0, some 0, true⟩, ⟨fns fs, 2, 1, some 0, false⟩, ⟨zints D, 1, 2, some 0, false⟩] (.sl 3 0 L.length) ([⟨[.sl 1 0 fs.length, .int .i64 (n : Nat), .sl 2 0 N], 1, 0, some 0, true⟩, ⟨fns fs, 2, 1, some 0, false⟩, ⟨zints D, 1, 2, some 0, false⟩] ++ [⟨prs n L, 2, 3, some 0, false⟩]) := by
  have e := evft_kn n N d fs D hN hNn hn3 hd
  rw [hL] at e
  cases L with
  | nil => exact absurd rfl hne
  | cons x xs =>
    refine has93.eev rfl rfl ?_
    unfold m93
    repeat' (first
      | (refine g_op ?_; first
        | refine ep_mov rfl ?_ | refine ep_load1 rfl rfl rfl rfl ?_ | refine ep_fieldAddr rfl ?_
        | refine ep_call0 rfl (by first | exact e) rfl rfl ?_
        | refine sp_call rfl rfl rfl rfl (by first | exact e) ⟨rfl, rfl, rfl, rfl⟩ rfl rfl rfl ?_
        | refine sp_box rfl rfl rfl rfl rfl ?_ | refine ep_mkfn rfl ?_ | refine ep_nilckP rfl ?_ | refine ep_nilckF rfl ?_)
      | (refine g_ops ?_; first | refine eo_none ?_ | refine eo_nil ?_)
      | (refine g_code ?_; first | refine ec_seq ?_ | refine ec_region ?_ | refine ec_ret ?_)
      | refine ek_seqN ?_ | refine ek_seqR ?_)
    refine sfin (.inr rfl) (by rfl) (by rfl) (by exact ⟨rfl, rfl, rfl⟩) (by rfl) (by rfl) (by rfl) (by first | rfl | (simp; done) | (simp [ints, prs]; done))
theorem allF_at {P : Nat → Bool} {n i : Nat} (h : allF P 0 n = true) (hi : i < n) : P i = true := by
  rw [allF_iff] at h; exact h i (Nat.zero_le _) (by omega)
theorem projB_lt (n i : Nat) : projB n i < R2 (R2 n) := pk_lt fun r _ => bt_le _ _
theorem D0_s (n i : Nat) : D0 n (i + 1) = (D0 n i).set (projB n i) 0 := rfl
def rndT (fs : List (Int × Int)) (n : Nat) (d : Int) (L : List Nat) (D : List Int) (i : Nat) : GS := foldN (fun k s => walkT L (leafI d n (fs.getD k (0, 0)).2.toNat) (fs.getD k (0, 0)).1.toNat [] s) i (D, false)
theorem rndT_len {fs : List (Int × Int)} {n : Nat} {d : Int} {L : List Nat} {D : List Int} (hd : 0 ≤ d) (i : Nat) : (rndT fs n d L D i).1.length = D.length :=
  foldN_inv (I := fun u : GS => u.1.length = D.length) _ _ (fun j u _ hu => by rw [walk_len hd, hu]) rfl
-- impl.generate
def m88_0 : MC := (.seq (.region [⟨(.bin .lss (.t 21) (.t 20)), (some 22), none⟩] false) (.seq (.cond (.t 22) .skip (.exit 0)) (.seq (.block 1 (.seq (.region [⟨(.mov (.t 21)), (some 23), none⟩, ⟨(.mov (.t 23)), (some 6), none⟩] false) (.region [⟨(.load none (.t 5)), (some 24), none⟩, ⟨(.nilck (.t 24)), (some 25), none⟩, ⟨(.fieldAddr 2 (.t 25)), (some 26), none⟩, ⟨(.load none (.t 26)), (some 27), none⟩, ⟨(.mov (.t 1)), (some 28), none⟩, ⟨(.mov (.t 6)), (some 29), none⟩, ⟨(.call 127 [(.t 28), (.t 29)]), (some 30), none⟩, ⟨(.field 1 none (.t 30)), (some 31), none⟩, ⟨(.indexAddr 1 (.t 27) (.t 31)), (some 32), none⟩, ⟨(.store 1 (.t 32) (.k (.int .i64 0))), none, none⟩] true))) (.region [⟨(.bin .add (.t 21) (.k (.int .i64 1))), (some 33), none⟩, ⟨(.mov (.t 33)), (some 21), none⟩] false))))
def m88_2 : MC := (.seq (.region [⟨(.bin .lss (.t 41) (.t 40)), (some 42), none⟩] false) (.seq (.cond (.t 42) .skip (.exit 4)) (.seq (.block 5 (.seq (.region [⟨(.indexAddr 2 (.t 39) (.t 41)), (some 43), none⟩, ⟨(.load (some 2) (.t 43)), (some 44), none⟩, ⟨(.alloc [(.int .i64 0), (.int .i64 0)]), (some 11), none⟩, ⟨(.store 2 (.t 11) (.t 44)), none, none⟩] false) (.region [⟨(.load none (.t 5)), (some 45), none⟩, ⟨(.load (some 2) (.t 11)), (some 46), none⟩, ⟨(.mov (.t 8)), (some 47), none⟩, ⟨(.load none (.t 7)), (some 48), none⟩, ⟨(.mkfn 128 [(.t 5), (.t 7), (.t 9)]), (some 49), none⟩, ⟨(.call 94 [(.t 45), (.t 46), (.t 47), (.k .nils), (.t 48), (.t 49)]), (some 50), none⟩] false))) (.region [⟨(.bin .add (.t 41) (.k (.int .i64 1))), (some 51), none⟩, ⟨(.mov (.t 51)), (some 41), none⟩] false))))
def m88_1 : MC := (.seq (.block 3 (.seq (.region [⟨(.load none (.t 5)), (some 36), none⟩, ⟨(.load none (.t 7)), (some 37), none⟩, ⟨(.call 93 [(.t 36), (.t 37)]), (some 38), none⟩, ⟨(.mov (.t 38)), (some 8), none⟩] false) (.seq (.region [⟨(.alloc [(.bool false)]), (some 9), none⟩, ⟨(.store 1 (.t 9) (.k (.bool false))), none, none⟩] false) (.seq (.seq (.region [⟨(.mov (.t 0)), (some 39), none⟩, ⟨(.len (.t 39)), (some 40), none⟩, ⟨(.mov (.k (.int .i64 0))), (some 41), none⟩] false) (.block 4 (.loop m88_2))) (.seq (.region [⟨(.load none (.t 9)), (some 52), none⟩, ⟨(.un .not (.t 52)), (some 53), none⟩] false) (.cond (.t 53) (.seq (.region [⟨(.load none (.t 5)), (some 54), none⟩, ⟨(.mov (.t 54)), (some 4), none⟩] false) .ret) .skip)))))) (.seq (.seq (.region [⟨(.load none (.t 7)), (some 55), none⟩] false) (.region [⟨(.alloc [(.int .i64 0)]), (some 7), none⟩, ⟨(.store 1 (.t 7) (.t 55)), none, none⟩] false)) (.region [⟨(.load none (.t 7)), (some 34), none⟩, ⟨(.bin .add (.t 34) (.k (.int .i64 1))), (some 35), none⟩, ⟨(.store 1 (.t 7) (.t 35)), none, none⟩] false)))
def m88 : MC := (.seq (.region [⟨(.mov (.k .nilp)), (some 4), none⟩] false) (.seq (.region [⟨(.mov (.t 0)), (some 12), none⟩, ⟨(.mov (.t 1)), (some 13), none⟩, ⟨(.bslice 1 [(.int .i64 0)] 1 [(0, (1, (.k (.int .i64 (-1)))))]), (some 14), none⟩, ⟨(.mov (.t 1)), (some 15), none⟩, ⟨(.call 102 [(.t 15)]), (some 16), none⟩, ⟨(.call 105 [(.t 14), (.t 16)]), (some 17), none⟩, ⟨(.build [.nils, (.int .i64 0), .nils] [(0, (1, (.t 12))), (1, (1, (.t 13))), (2, (1, (.t 17)))]), (some 18), none⟩, ⟨(.box (.t 18)), (some 19), none⟩, ⟨(.alloc [.nilp]), (some 5), none⟩, ⟨(.store 1 (.t 5) (.t 19)), none, none⟩] false) (.seq (.seq (.region [⟨(.mov (.t 1)), (some 20), none⟩, ⟨(.mov (.k (.int .i64 0))), (some 21), none⟩] false) (.block 0 (.loop m88_0))) (.seq (.region [⟨(.alloc [(.int .i64 0)]), (some 7), none⟩, ⟨(.store 1 (.t 7) (.k (.int .i64 1))), none, none⟩] false) (.block 2 (.loop m88_1))))))
theorem has88 : Has cx 88 56 m88 [(.tmp 4)] :=
  ⟨⟨Try.f88, Try.f88.body.getD .skip, by kernel_rfl, by kernel_rfl, by kernel_rfl, by kernel_rfl, by kernel_rfl, by kernel_rfl⟩⟩
theorem lpgn0 (n N : Nat) (fs : List (Int × Int)) (hNn : N = R2 (R2 n)) (hn : n ≤ 3) :
    LpS cx 56 1 m88_0 [(0, .sl 0 0 fs.length), (1, .int .i64 (n : Nat)), (5, .ptr 1 0), (20, .int .i64 (n : Nat)), (21, .int .i64 (0 : Nat))] [⟨fns fs, 2, 0, some 0, false⟩, ⟨[.ptr 2 0], 1, 1, some 0, true⟩, ⟨[.sl 0 0 fs.length, .int .i64 (n : Nat), .sl 3 0 N], 1, 2, some 0, true⟩, ⟨zints (D0 n (0)), 1, 3, some 0, false⟩] (⟨.exit 0, [(0, .sl 0 0 fs.length), (5, .ptr 1 0)], [⟨fns fs, 2, 0, some 0, false⟩, ⟨[.ptr 2 0], 1, 1, some 0, true⟩, ⟨[.sl 0 0 fs.length, .int .i64 (n : Nat), .sl 3 0 N], 1, 2, some 0, true⟩, ⟨zints (D0 n (n)), 1, 3, some 0, false⟩]⟩ : Out).x (⟨.exit 0, [(0, .sl 0 0 fs.length), (5, .ptr 1 0)], [⟨fns fs, 2, 0, some 0, false⟩, ⟨[.ptr 2 0], 1, 1, some 0, true⟩, ⟨[.sl 0 0 fs.length, .int .i64 (n : Nat), .sl 3 0 N], 1, 2, some 0, true⟩, ⟨zints (D0 n (n)), 1, 3, some 0, false⟩]⟩ : Out).e (⟨.exit 0, [(0, .sl 0 0 fs.length), (5, .ptr 1 0)], [⟨fns fs, 2, 0, some 0, false⟩, ⟨[.ptr 2 0], 1, 1, some 0, true⟩, ⟨[.sl 0 0 fs.length, .int .i64 (n : Nat), .sl 3 0 N], 1, 2, some 0, true⟩, ⟨zints (D0 n (n)), 1, 3, some 0, false⟩]⟩ : Out).h := by
  refine lp_st (n) (fun _ => ()) (fun i _ => [(0, .sl 0 0 fs.length), (1, .int .i64 (n : Nat)), (5, .ptr 1 0), (20, .int .i64 (n : Nat)), (21, .int .i64 (i : Nat))]) (fun i _ => [⟨fns fs, 2, 0, some 0, false⟩, ⟨[.ptr 2 0], 1, 1, some 0, true⟩, ⟨[.sl 0 0 fs.length, .int .i64 (n : Nat), .sl 3 0 N], 1, 2, some 0, true⟩, ⟨zints (D0 n (i)), 1, 3, some 0, false⟩]) (fun _ => (⟨.exit 0, [(0, .sl 0 0 fs.length), (5, .ptr 1 0)], [⟨fns fs, 2, 0, some 0, false⟩, ⟨[.ptr 2 0], 1, 1, some 0, true⟩, ⟨[.sl 0 0 fs.length, .int .i64 (n : Nat), .sl 3 0 N], 1, 2, some 0, true⟩, ⟨zints (D0 n (n)), 1, 3, some 0, false⟩]⟩ : Out)) ?_ ?_ (n) 0 (by omega)
  · intro i u_ hi hu_
    refine ⟨(), rfl, ?_⟩
    have hlt : decide ((i : Int) < (n : Nat)) = true := decide_eq_true (by omega)
    have hp := projB_lt n i
    have hl := D0_len n i
    have hset := zints_set (D := D0 n i) (b := projB n i) (d := 0) (by omega)
    rw [← D0_s] at hset
    have hzl := zints_len (D0 n i)
    unfold m88_0
    repeat' (first
      | refine sp_storeS rfl rfl rfl rfl rfl rfl rfl (Nat.zero_le _) (by omega) hset rfl ?_
      | (refine g_op ?_; first
        | refine ep_mov rfl ?_ | refine ep_load1 rfl rfl rfl rfl ?_ | refine ep_fieldAddr rfl ?_
        | refine ep_call0 rfl (by first | exact ev127 n i (by omega) (by omega)) rfl rfl ?_
        | refine sp_call rfl rfl rfl rfl (by first | exact ev127 n i (by omega) (by omega)) ⟨rfl, rfl, rfl, rfl⟩ rfl rfl rfl ?_
        | refine ep_bin rfl rfl (by first | exact b_add (by omega) (by omega) | exact b_lss) ?_ | refine sp_store rfl rfl rfl rfl rfl rfl rfl rfl rfl rfl ?_ | refine ep_field1 rfl rfl ?_ | refine sp_idx rfl rfl rfl (by omega) rfl ?_
        | refine ep_loadS rfl rfl rfl (by first | exact ints_get (by omega) | exact zints_get (by omega) | exact fget (by omega) | assumption) ?_ | refine ep_nilckP rfl ?_ | refine ep_nilckF rfl ?_)
      | (refine g_ops ?_; first | refine eo_none ?_ | refine eo_nil ?_)
      | (refine g_dops ?_; first | refine ed_none ?_ | refine ed_nil ?_)
      | refine ed_same rfl ?_ | refine ed_one rfl rfl rfl rfl ?_ | refine ed_two rfl rfl rfl rfl rfl rfl rfl ?_ | refine ed_write rfl rfl ?_
      | (refine g_code ?_; first | refine ec_seq ?_ | refine ec_region ?_ | refine ec_draw ?_ | refine ec_block ?_ | refine ec_skip ?_ | refine ec_exit ?_ | refine ec_condT rfl ?_ | refine ec_condF rfl ?_ | refine ec_condTH rfl (by assumption) ?_ | refine ec_condFH rfl (by assumption) ?_)
      | refine ek_seqN ?_ | refine ek_seqX ?_ | refine ek_blkN ?_ | refine ek_blkR ?_ | refine ek_blkX ?_ | refine ek_blkY rfl ?_)
    exact rnd_on (by rfl) (scmp2 (by rfl) (by rfl) (by exact ⟨rfl, rfl, rfl⟩) (by rfl) (by first | rfl | (simp; done) | (simp [ints, prs]; done)) (by rfl) (by first | rfl | (simp; done) | (simp [ints, prs]; done)))
  · intro u_ hu_
    have hlt : decide (((n : Nat) : Int) < (n : Nat)) = false := decide_eq_false (by omega)
    unfold m88_0
    repeat' (first
      | (refine g_op ?_; first
        | refine ep_mov rfl ?_ | refine ep_load1 rfl rfl rfl rfl ?_ | refine ep_fieldAddr rfl ?_
        | refine ep_bin rfl rfl (by first | exact b_add (by omega) (by omega) | exact b_lss) ?_ | refine sp_store rfl rfl rfl rfl rfl rfl rfl rfl rfl rfl ?_ | refine ep_field1 rfl rfl ?_ | refine sp_idx rfl rfl rfl (by omega) rfl ?_
        | refine ep_loadS rfl rfl rfl (by first | exact ints_get (by omega) | exact zints_get (by omega) | exact fget (by omega) | assumption) ?_ | refine ep_nilckP rfl ?_ | refine ep_nilckF rfl ?_)
      | (refine g_ops ?_; first | refine eo_none ?_ | refine eo_nil ?_)
      | (refine g_dops ?_; first | refine ed_none ?_ | refine ed_nil ?_)
      | refine ed_same rfl ?_ | refine ed_one rfl rfl rfl rfl ?_ | refine ed_two rfl rfl rfl rfl rfl rfl rfl ?_ | refine ed_write rfl rfl ?_
      | (refine g_code ?_; first | refine ec_seq ?_ | refine ec_region ?_ | refine ec_draw ?_ | refine ec_block ?_ | refine ec_skip ?_ | refine ec_exit ?_ | refine ec_condT rfl ?_ | refine ec_condF rfl ?_ | refine ec_condTH rfl (by assumption) ?_ | refine ec_condFH rfl (by assumption) ?_)
      | refine ek_seqN ?_ | refine ek_seqX ?_ | refine ek_blkN ?_ | refine ek_blkR ?_ | refine ek_blkX ?_ | refine ek_blkY rfl ?_)
    exact rnd_out (by rfl) (by simp) (scmp2 (by rfl) (by rfl) (by exact ⟨rfl, rfl, rfl⟩) (by rfl) (by first | rfl | (simp; done) | (simp [ints, prs]; done)) (by rfl) (by first | rfl | (simp; done) | (simp [ints, prs]; done)))

theorem lpgn2 (n N d : Nat) (fs : List (Int × Int)) (D : List Int) (hNn : N = R2 (R2 n)) (hn : n ≤ 3) (hall : allFunc fs = true) (hln : fs.length ≤ 1048576) (hd : d < 65536) (hN : D.length = N) (L : List Nat) (hll : L.length ≤ 65536) (hLN : ∀ j, j < L.length → L.getD j 0 < N) :
    LpS cx 56 1 m88_2 [(0, .sl 0 0 fs.length), (5, .ptr 1 0), (7, .ptr 4 0), (8, .sl 5 0 L.length), (9, .ptr 6 0), (39, .sl 0 0 fs.length), (40, .int .i64 (fs.length : Nat)), (41, .int .i64 (0 : Nat))] [⟨fns fs, 2, 0, some 0, false⟩, ⟨[.ptr 2 0], 1, 1, some 0, true⟩, ⟨[.sl 0 0 fs.length, .int .i64 (n : Nat), .sl 3 0 N], 1, 2, some 0, true⟩, ⟨zints (rndT fs n d L D (0)).1, 1, 3, some 0, false⟩, ⟨[.int .i64 (d : Nat)], 1, 4, some 0, true⟩, ⟨prs n L, 2, 5, some 0, false⟩, ⟨[.bool (rndT fs n d L D (0)).2], 1, 6, some 0, true⟩] (⟨.exit 4, [(0, .sl 0 0 fs.length), (5, .ptr 1 0), (7, .ptr 4 0), (9, .ptr 5 0)], [⟨fns fs, 2, 0, some 0, false⟩, ⟨[.ptr 2 0], 1, 1, some 0, true⟩, ⟨[.sl 0 0 fs.length, .int .i64 (n : Nat), .sl 3 0 N], 1, 2, some 0, true⟩, ⟨zints (rndT fs n d L D (fs.length)).1, 1, 3, some 0, false⟩, ⟨[.int .i64 (d : Nat)], 1, 4, some 0, true⟩, ⟨[.bool (rndT fs n d L D (fs.length)).2], 1, 5, some 0, true⟩]⟩ : Out).x (⟨.exit 4, [(0, .sl 0 0 fs.length), (5, .ptr 1 0), (7, .ptr 4 0), (9, .ptr 5 0)], [⟨fns fs, 2, 0, some 0, false⟩, ⟨[.ptr 2 0], 1, 1, some 0, true⟩, ⟨[.sl 0 0 fs.length, .int .i64 (n : Nat), .sl 3 0 N], 1, 2, some 0, true⟩, ⟨zints (rndT fs n d L D (fs.length)).1, 1, 3, some 0, false⟩, ⟨[.int .i64 (d : Nat)], 1, 4, some 0, true⟩, ⟨[.bool (rndT fs n d L D (fs.length)).2], 1, 5, some 0, true⟩]⟩ : Out).e (⟨.exit 4, [(0, .sl 0 0 fs.length), (5, .ptr 1 0), (7, .ptr 4 0), (9, .ptr 5 0)], [⟨fns fs, 2, 0, some 0, false⟩, ⟨[.ptr 2 0], 1, 1, some 0, true⟩, ⟨[.sl 0 0 fs.length, .int .i64 (n : Nat), .sl 3 0 N], 1, 2, some 0, true⟩, ⟨zints (rndT fs n d L D (fs.length)).1, 1, 3, some 0, false⟩, ⟨[.int .i64 (d : Nat)], 1, 4, some 0, true⟩, ⟨[.bool (rndT fs n d L D (fs.length)).2], 1, 5, some 0, true⟩]⟩ : Out).h := by
  refine lp_st (fs.length) (fun _ => ()) (fun i _ => [(0, .sl 0 0 fs.length), (5, .ptr 1 0), (7, .ptr 4 0), (8, .sl 5 0 L.length), (9, .ptr 6 0), (39, .sl 0 0 fs.length), (40, .int .i64 (fs.length : Nat)), (41, .int .i64 (i : Nat))]) (fun i _ => [⟨fns fs, 2, 0, some 0, false⟩, ⟨[.ptr 2 0], 1, 1, some 0, true⟩, ⟨[.sl 0 0 fs.length, .int .i64 (n : Nat), .sl 3 0 N], 1, 2, some 0, true⟩, ⟨zints (rndT fs n d L D (i)).1, 1, 3, some 0, false⟩, ⟨[.int .i64 (d : Nat)], 1, 4, some 0, true⟩, ⟨prs n L, 2, 5, some 0, false⟩, ⟨[.bool (rndT fs n d L D (i)).2], 1, 6, some 0, true⟩]) (fun _ => (⟨.exit 4, [(0, .sl 0 0 fs.length), (5, .ptr 1 0), (7, .ptr 4 0), (9, .ptr 5 0)], [⟨fns fs, 2, 0, some 0, false⟩, ⟨[.ptr 2 0], 1, 1, some 0, true⟩, ⟨[.sl 0 0 fs.length, .int .i64 (n : Nat), .sl 3 0 N], 1, 2, some 0, true⟩, ⟨zints (rndT fs n d L D (fs.length)).1, 1, 3, some 0, false⟩, ⟨[.int .i64 (d : Nat)], 1, 4, some 0, true⟩, ⟨[.bool (rndT fs n d L D (fs.length)).2], 1, 5, some 0, true⟩]⟩ : Out)) ?_ ?_ (fs.length) 0 (by omega)
  · intro i u_ hi hu_
    refine ⟨(), rfl, ?_⟩
    have hlt : decide ((i : Int) < (fs.length : Nat)) = true := decide_eq_true (by omega)
    have hg := fns_get (l := fs) (j := i) hi
    have hget := allF_at (P := fun j => isFn (fs.getD j (0, 0)).1 (fs.getD j (0, 0)).2) hall hi
    obtain ⟨a, b, ha, hb, ha4, _, hb6⟩ := isFn_nat hget
    have e1 := evs_e n N d (fs.getD i (0, 0)).2.toNat (fs.getD i (0, 0)).1.toNat fs L hNn (by omega) hd (by omega) (by omega) hll hLN (rndT fs n d L D i).1 (rndT fs n d L D i).2 (by rw [rndT_len (by omega)]; exact hN)
    rw [show (((fs.getD i (0, 0)).1.toNat : Nat) : Int) = (fs.getD i (0, 0)).1 by omega, show (((fs.getD i (0, 0)).2.toNat : Nat) : Int) = (fs.getD i (0, 0)).2 by omega] at e1
    unfold m88_2
    repeat' (first
      | refine ep_loadSN rfl rfl rfl hg ?_
      | (refine g_op ?_; first
        | refine ep_mov rfl ?_ | refine ep_load1 rfl rfl rfl rfl ?_ | refine sp_loadN rfl rfl rfl rfl rfl ?_
        | refine ep_call0 rfl (by first | exact e1) rfl rfl ?_
        | refine sp_call rfl rfl rfl rfl (by first | exact e1) ⟨rfl, rfl, rfl, rfl⟩ rfl rfl rfl ?_
        | refine ep_bin rfl rfl (by first | exact b_add (by omega) (by omega) | exact b_lss) ?_ | refine sp_store rfl rfl rfl rfl rfl rfl rfl rfl rfl rfl ?_ | refine sp_alloc rfl rfl ?_ | refine sp_idx rfl rfl rfl (by omega) rfl ?_
        | refine ep_loadS rfl rfl rfl (by first | exact ints_get (by omega) | exact zints_get (by omega) | exact fget (by omega) | assumption) ?_ | refine ep_loadSN rfl rfl rfl (by first | exact prs_get (by omega) | exact fns_get (by omega)) ?_
        | refine ep_mkfn rfl ?_)
      | (refine g_ops ?_; first | refine eo_none ?_ | refine eo_nil ?_)
      | (refine g_code ?_; first | refine ec_seq ?_ | refine ec_region ?_ | refine ec_block ?_ | refine ec_skip ?_ | refine ec_exit ?_ | refine ec_condT rfl ?_ | refine ec_condF rfl ?_ | refine ec_condTH rfl (by assumption) ?_ | refine ec_condFH rfl (by assumption) ?_)
      | refine ek_seqN ?_ | refine ek_seqX ?_ | refine ek_blkN ?_ | refine ek_blkR ?_ | refine ek_blkX ?_ | refine ek_blkY rfl ?_)
    exact rnd_on (by rfl) (scmp2 (by rfl) (by rfl) (by exact ⟨rfl, rfl, rfl⟩) (by rfl) (by first | rfl | (simp; done) | (simp [ints, prs]; done)) (by rfl) (by first | rfl | (simp; done) | (simp [ints, prs]; done)))
  · intro u_ hu_
    have hlt : decide (((fs.length : Nat) : Int) < (fs.length : Nat)) = false := decide_eq_false (by omega)
    unfold m88_2
    repeat' (first
      | (refine g_op ?_; first
        | refine ep_mov rfl ?_ | refine ep_load1 rfl rfl rfl rfl ?_ | refine sp_loadN rfl rfl rfl rfl rfl ?_
        | refine ep_bin rfl rfl (by first | exact b_add (by omega) (by omega) | exact b_lss) ?_ | refine sp_store rfl rfl rfl rfl rfl rfl rfl rfl rfl rfl ?_ | refine sp_alloc rfl rfl ?_ | refine sp_idx rfl rfl rfl (by omega) rfl ?_
        | refine ep_loadS rfl rfl rfl (by first | exact ints_get (by omega) | exact zints_get (by omega) | exact fget (by omega) | assumption) ?_ | refine ep_loadSN rfl rfl rfl (by first | exact prs_get (by omega) | exact fns_get (by omega)) ?_
        | refine ep_mkfn rfl ?_)
      | (refine g_ops ?_; first | refine eo_none ?_ | refine eo_nil ?_)
      | (refine g_code ?_; first | refine ec_seq ?_ | refine ec_region ?_ | refine ec_block ?_ | refine ec_skip ?_ | refine ec_exit ?_ | refine ec_condT rfl ?_ | refine ec_condF rfl ?_ | refine ec_condTH rfl (by assumption) ?_ | refine ec_condFH rfl (by assumption) ?_)
      | refine ek_seqN ?_ | refine ek_seqX ?_ | refine ek_blkN ?_ | refine ek_blkR ?_ | refine ek_blkX ?_ | refine ek_blkY rfl ?_)
    exact rnd_out (by rfl) (by simp) (scmp2 (by rfl) (by rfl) (by exact ⟨rfl, rfl, rfl⟩) (by rfl) (by first | rfl | (simp; done) | (simp [ints, prs]; done)) (by rfl) (by first | rfl | (simp; done) | (simp [ints, prs]; done)))

theorem kw_ne {n N d : Nat} {D : List Int} (hNn : N = R2 (R2 n)) (hz : ∃ c, c < N ∧ D.getD c 0 = 0) (hd : 1 ≤ d) : kwI (R2 (R2 n)) d D ≠ [] := by
  obtain ⟨c, hc, h0⟩ := hz
  obtain ⟨k, hk, _⟩ := selm_mem (p := fun b => decide (0 ≤ D.getD b 0 ∧ D.getD b 0 ≤ (d : Int) - 1)) (n := R2 (R2 n)) (x := c) (by omega) (by simp only [decide_eq_true_eq]; rw [h0]; omega)
  intro he
  have he' : selm (fun b => decide (0 ≤ D.getD b 0 ∧ D.getD b 0 ≤ (d : Int) - 1)) idn (R2 (R2 n)) = [] := he
  rw [he'] at hk; simp at hk
theorem lpgn1 (n N : Nat) (fs : List (Int × Int)) (hNn : N = R2 (R2 n)) (hn : n ≤ 3) (hall : allFunc fs = true) (hln : fs.length ≤ 1048576) : ∀ (k d : Nat) (D : List Int), ngs D < k → D.length = N → (∃ c, c < N ∧ D.getD c 0 = 0) → 1 ≤ d → d + k < 65536 →
    LpS cx 56 1 m88_1 [(0, .sl 0 0 fs.length), (5, .ptr 1 0), (7, .ptr 4 0)] [⟨fns fs, 2, 0, some 0, false⟩, ⟨[.ptr 2 0], 1, 1, some 0, true⟩, ⟨[.sl 0 0 fs.length, .int .i64 (n : Nat), .sl 3 0 N], 1, 2, some 0, true⟩, ⟨zints D, 1, 3, some 0, false⟩, ⟨[.int .i64 (d : Nat)], 1, 4, some 0, true⟩] (⟨.ret, [(4, .ptr 1 0)], [⟨fns fs, 2, 0, some 0, false⟩, ⟨[.sl 0 0 fs.length, .int .i64 (n : Nat), .sl 2 0 N], 1, 1, some 0, true⟩, ⟨zints (genI fs n k d D), 1, 2, some 0, false⟩]⟩ : Out).x (⟨.ret, [(4, .ptr 1 0)], [⟨fns fs, 2, 0, some 0, false⟩, ⟨[.sl 0 0 fs.length, .int .i64 (n : Nat), .sl 2 0 N], 1, 1, some 0, true⟩, ⟨zints (genI fs n k d D), 1, 2, some 0, false⟩]⟩ : Out).e (⟨.ret, [(4, .ptr 1 0)], [⟨fns fs, 2, 0, some 0, false⟩, ⟨[.sl 0 0 fs.length, .int .i64 (n : Nat), .sl 2 0 N], 1, 1, some 0, true⟩, ⟨zints (genI fs n k d D), 1, 2, some 0, false⟩]⟩ : Out).h
  | 0, d, D, hk, _, _, _, _ => by omega
  | k + 1, d, D, hk, hN, hz, hd, hdk => by
    obtain ⟨h1, h2, h3, h4⟩ := shN (n := n) (by omega)
    have hne := kw_ne hNn hz hd
    have e1 := evkn n N d fs D hN hNn hn (by omega) (kwI (R2 (R2 n)) d D) rfl hne
    have hlen := selm_len (fun b => decide (0 ≤ D.getD b 0 ∧ D.getD b 0 ≤ (d : Int) - 1)) idn (R2 (R2 n))
    have lp := lpgn2 n N d fs D hNn hn hall hln (by omega) hN (kwI (R2 (R2 n)) d D) (by unfold kwI; omega) (fun j hj => by have h9 : (kwI (R2 (R2 n)) d D).getD j 0 < R2 (R2 n) := (selm_lt0 hj).1; omega)
    have hinv := rndI_inv (fs := fs) (n := n) (d := (d : Int)) (L := kwI (R2 (R2 n)) d D) (D := D) (by omega)
    rw [genI]
    rw [show rndT fs n d (kwI (R2 (R2 n)) d D) D fs.length = rndG leafI fs n d (kwI (R2 (R2 n)) d D) D from rfl, show rndT fs n d (kwI (R2 (R2 n)) d D) D 0 = (D, false) from rfl] at lp
    generalize hs : rndG leafI fs n d (kwI (R2 (R2 n)) d D) D = s at *
    generalize kwI (R2 (R2 n)) d D = L at *
    obtain ⟨D1, A1⟩ := s
    cases A1
    · rw [if_neg (by simp)]
      refine round_out ?_
      unfold m88_1
      repeat' (first
        | refine sc_loop lp rfl rfl ⟨rfl, rfl, rfl⟩ rfl rfl rfl ?_
        | (refine g_op ?_; first
          | refine ep_mov rfl ?_ | refine ep_load1 rfl rfl rfl rfl ?_
          | refine ep_call0 rfl (by first | exact e1) rfl rfl ?_
          | refine sp_call rfl rfl rfl rfl (by first | exact e1) ⟨rfl, rfl, rfl, rfl⟩ rfl rfl rfl ?_
          | refine ep_bin rfl rfl (by exact b_add (by omega) (by omega)) ?_ | refine sp_store rfl rfl rfl rfl rfl rfl rfl rfl rfl rfl ?_ | refine ep_not rfl ?_ | refine ep_lenS rfl ?_ | refine ep_lenN rfl ?_
          | refine ep_lenE rfl ?_ | refine sp_alloc rfl rfl ?_)
        | (refine g_ops ?_; first | refine eo_none ?_ | refine eo_nil ?_)
        | (refine g_code ?_; first | refine ec_seq ?_ | refine ec_region ?_ | refine ec_block ?_ | refine ec_skip ?_ | refine ec_ret ?_ | refine ec_condT rfl ?_ | refine ec_condF rfl ?_ | refine ec_condTH rfl (by assumption) ?_ | refine ec_condFH rfl (by assumption) ?_)
        | refine ek_seqN ?_ | refine ek_seqX ?_ | refine ek_seqR ?_ | refine ek_blkN ?_ | refine ek_blkR ?_ | refine ek_blkX ?_ | refine ek_blkY rfl ?_)
      exact rnd_out (by rfl) (by simp) (scmp2 (by rfl) (by rfl) (by exact ⟨rfl, rfl, rfl⟩) (by rfl) (by first | rfl | (simp; done) | (simp [ints, prs]; done)) (by rfl) (by first | rfl | (simp; done) | (simp [ints, prs]; done)))
    · rw [if_pos rfl]
      have hg1 := hinv.2.2 rfl
      simp only at hg1
      refine round_on ?_ (lpgn1 n N fs hNn hn hall hln k (d + 1) D1 (by omega) (by rw [hinv.1.1]; exact hN) (by
        obtain ⟨c, hc, h0⟩ := hz
        exact ⟨c, hc, by rw [hinv.1.2 c (by omega)]; exact h0⟩) (by omega) (by omega))
      have hadd := b_addN (a := d) (b := 1) (by omega)
      unfold m88_1
      repeat' (first
        | refine sc_loop lp rfl rfl ⟨rfl, rfl, rfl⟩ rfl rfl rfl ?_
        | (refine g_op ?_; first
          | refine ep_mov rfl ?_ | refine ep_load1 rfl rfl rfl rfl ?_
          | refine ep_call0 rfl (by first | exact e1) rfl rfl ?_
          | refine sp_call rfl rfl rfl rfl (by first | exact e1) ⟨rfl, rfl, rfl, rfl⟩ rfl rfl rfl ?_
          | refine ep_bin rfl rfl (by first | exact hadd | exact b_add (by omega) (by omega)) ?_ | refine sp_store rfl rfl rfl rfl rfl rfl rfl rfl rfl rfl ?_ | refine ep_not rfl ?_ | refine ep_lenS rfl ?_
          | refine ep_lenN rfl ?_ | refine ep_lenE rfl ?_ | refine sp_alloc rfl rfl ?_)
        | (refine g_ops ?_; first | refine eo_none ?_ | refine eo_nil ?_)
        | (refine g_code ?_; first | refine ec_seq ?_ | refine ec_region ?_ | refine ec_block ?_ | refine ec_skip ?_ | refine ec_ret ?_ | refine ec_condT rfl ?_ | refine ec_condF rfl ?_ | refine ec_condTH rfl (by assumption) ?_ | refine ec_condFH rfl (by assumption) ?_)
        | refine ek_seqN ?_ | refine ek_seqX ?_ | refine ek_seqR ?_ | refine ek_blkN ?_ | refine ek_blkR ?_ | refine ek_blkX ?_ | refine ek_blkY rfl ?_)
      exact rnd_on (by rfl) (scmp2 (by rfl) (by rfl) (by exact ⟨rfl, rfl, rfl⟩) (by rfl) (by first | rfl | (simp; done) | (simp [ints, prs]; done)) (by rfl) (by first | rfl | (simp; done) | (simp [ints, prs]; done)))
theorem ev88 (n : Nat) (fs : List (Int × Int)) (hn1 : 1 ≤ n) (hn : n ≤ 3) (hall : allFunc fs = true) (hln : fs.length ≤ 1048576) : Ev cx 88 [.sl 0 0 fs.length, .int .i64 (n : Nat)] [⟨fns fs, 2, 0, some 0, false⟩] (.ptr 1 0) [⟨fns fs, 2, 0, some 0, false⟩, ⟨[.sl 0 0 fs.length, .int .i64 (n : Nat), .sl 2 0 (R2 (R2 n))], 1, 1, some 0, true⟩, ⟨zints (depL fs n), 1, 2, some 0, false⟩] := by
  obtain ⟨h1, h2, h3, h4⟩ := shN (n := n) (by omega)
  have h5 := (shN (n := n - 1) (by omega)).1
  have h23 : R2 n ≤ 8 := by have := R2_mono (i := n) (n := 3) hn; have h8 : R2 3 = 8 := by { unfold R2; rfl }; omega
  have hN8 : R2 (R2 n) ≤ 256 := by have := R2_mono (i := R2 n) (n := 8) h23; have h8 : R2 8 = 256 := by { unfold R2; rfl }; omega
  have lp0 := lpgn0 n (R2 (R2 n)) fs rfl hn
  rw [show D0 n 0 = List.replicate (R2 (R2 n)) (-1) from rfl] at lp0
  have hl := D0_len n n
  have lp1 := lpgn1 n (R2 (R2 n)) fs rfl hn hall hln (R2 (R2 n) + 1) 1 (D0 n n) (by have := ngs_le (D0 n n); omega) hl ⟨projB n (n - 1), projB_lt n _, by
    obtain ⟨m, rfl⟩ : ∃ m, n = m + 1 := ⟨n - 1, by omega⟩
    rw [D0_s, getD_set, show m + 1 - 1 = m from rfl, if_pos ⟨rfl, by rw [D0_len]; exact projB_lt _ _⟩]⟩ (by omega) (by omega)
  rw [depL_I] at lp1
  have e1 := ev105 (R2 n) (-1) h1
  refine has88.eev rfl rfl ?_
  unfold m88
  repeat' (first
    | refine sc_loop lp0 rfl rfl ⟨rfl, rfl, rfl⟩ rfl rfl rfl ?_
    | refine sc_loop lp1 rfl rfl ⟨rfl, rfl, rfl⟩ rfl rfl rfl ?_
    | (refine g_op ?_; first
      | refine ep_mov rfl ?_
      | refine ep_call0 rfl (by first | exact e1 | exact ev102 _ (show n ≤ 4 by omega)) rfl rfl ?_
      | refine sp_call rfl rfl rfl rfl (by first | exact e1 | exact ev102 _ (show n ≤ 4 by omega)) ⟨rfl, rfl, rfl, rfl⟩ rfl rfl rfl ?_
      | refine sp_store rfl rfl rfl rfl rfl rfl rfl rfl rfl rfl ?_ | refine sp_box rfl rfl rfl rfl rfl ?_ | refine sp_alloc rfl rfl ?_ | refine sp_build rfl rfl ?_ | refine sp_bslice rfl rfl rfl rfl rfl ?_)
    | (refine g_ops ?_; first | refine eo_none ?_ | refine eo_nil ?_)
    | (refine g_code ?_; first | refine ec_seq ?_ | refine ec_region ?_ | refine ec_block ?_)
    | refine ek_seqN ?_ | refine ek_seqX ?_ | refine ek_seqR ?_ | refine ek_blkN ?_ | refine ek_blkR ?_ | refine ek_blkX ?_ | refine ek_blkY rfl ?_)
  refine sfin (.inr rfl) (by rfl) (by rfl) (by exact ⟨rfl, rfl, rfl⟩) (by rfl) (by rfl) (by rfl) (by first | rfl | (simp; done) | (simp [ints, prs]; done))

-- spec.l04Put
def m132_1 : MC := (.seq (.seq (.region [⟨(.mov (.t 10)), (some 17), none⟩, ⟨(.mov (.t 1)), (some 18), none⟩, ⟨(.len (.t 18)), (some 19), none⟩, ⟨(.bin .lss (.t 17) (.t 19)), (some 20), none⟩] false) (.cond (.t 20) .skip (.exit 2))) (.seq (.block 3 (.region [⟨(.mov (.t 9)), (some 23), none⟩, ⟨(.mov (.t 1)), (some 24), none⟩, ⟨(.mov (.t 10)), (some 25), none⟩, ⟨(.indexAddr 1 (.t 24) (.t 25)), (some 26), none⟩, ⟨(.load none (.t 26)), (some 27), none⟩, ⟨(.mov (.t 8)), (some 28), none⟩, ⟨(.conv .u64 (.t 28)), (some 29), none⟩, ⟨(.bin .shr (.t 27) (.t 29)), (some 30), none⟩, ⟨(.bin .and (.t 30) (.k (.int .i64 1))), (some 31), none⟩, ⟨(.mov (.t 10)), (some 32), none⟩, ⟨(.conv .u64 (.t 32)), (some 33), none⟩, ⟨(.bin .shl (.t 31) (.t 33)), (some 34), none⟩, ⟨(.bin .or (.t 23) (.t 34)), (some 35), none⟩, ⟨(.mov (.t 35)), (some 9), none⟩] false)) (.region [⟨(.mov (.t 10)), (some 21), none⟩, ⟨(.bin .add (.t 21) (.k (.int .i64 1))), (some 22), none⟩, ⟨(.mov (.t 22)), (some 10), none⟩] false)))
def m132_0 : MC := (.seq (.seq (.region [⟨(.mov (.t 8)), (some 11), none⟩, ⟨(.mov (.t 2)), (some 12), none⟩, ⟨(.call 58 [(.t 12)]), (some 13), none⟩, ⟨(.bin .lss (.t 11) (.t 13)), (some 14), none⟩] false) (.cond (.t 14) .skip (.exit 0))) (.seq (.block 1 (.seq (.region [⟨(.mov (.k (.int .i64 0))), (some 9), none⟩] false) (.seq (.seq (.region [⟨(.mov (.k (.int .i64 0))), (some 10), none⟩] false) (.block 2 (.loop m132_1))) (.region [⟨(.mov (.t 7)), (some 36), none⟩, ⟨(.load (some 2) (.t 3)), (some 37), none⟩, ⟨(.mov (.t 9)), (some 38), none⟩, ⟨(.call 57 [(.t 37), (.t 38)]), (some 39), none⟩, ⟨(.mov (.t 8)), (some 40), none⟩, ⟨(.conv .u64 (.t 40)), (some 41), none⟩, ⟨(.bin .shl (.t 39) (.t 41)), (some 42), none⟩, ⟨(.bin .or (.t 36) (.t 42)), (some 43), none⟩, ⟨(.mov (.t 43)), (some 7), none⟩] false)))) (.region [⟨(.mov (.t 8)), (some 15), none⟩, ⟨(.bin .add (.t 15) (.k (.int .i64 1))), (some 16), none⟩, ⟨(.mov (.t 16)), (some 8), none⟩] false)))
def m132 : MC := (.seq (.region [⟨(.box (.t 0)), (some 3), none⟩, ⟨(.mov (.k (.int .i64 0))), (some 6), none⟩] false) (.seq (.region [⟨(.mov (.k (.int .i64 0))), (some 7), none⟩] false) (.seq (.seq (.region [⟨(.mov (.k (.int .i64 0))), (some 8), none⟩] false) (.block 0 (.loop m132_0))) (.seq (.region [⟨(.mov (.t 7)), (some 44), none⟩, ⟨(.mov (.t 44)), (some 6), none⟩] false) .ret))))
theorem has132 : Has cx 132 45 m132 [(.tmp 6)] :=
  ⟨⟨Try.f132, Try.f132.body.getD .skip, by kernel_rfl, by kernel_rfl, by kernel_rfl, by kernel_rfl, by kernel_rfl, by kernel_rfl⟩⟩
theorem lpsp1_e (n b : Nat) (a : Int) (hl4 : ([] : List Nat).length ≤ 4) (hl : ∀ j, j < ([] : List Nat).length → ([] : List Nat).getD j 0 < 65536) (hb : b < 65536) (hn : n ≤ 3) (u : Nat) (hu : u < R2 n) :
    LpS cx 45 0 m132_1 [(1, .emp), (2, .int .i64 (n : Nat)), (3, .ptr 0 0), (7, .int .i64 (pk (fun q => bt b (rowS ([] : List Nat) q)) u : Nat)), (8, .int .i64 (u : Nat)), (9, .int .i64 (pk (fun i => bt (([] : List Nat).getD i 0) u) (0) : Nat)), (10, .int .i64 (0 : Nat))] [⟨[.int .i64 a, .int .i64 (b : Nat)], 1, 0, some 0, true⟩] (⟨.exit 2, [(1, .emp), (2, .int .i64 (n : Nat)), (3, .ptr 0 0), (7, .int .i64 (pk (fun q => bt b (rowS ([] : List Nat) q)) u : Nat)), (8, .int .i64 (u : Nat)), (9, .int .i64 (pk (fun i => bt (([] : List Nat).getD i 0) u) (([] : List Nat).length) : Nat))], [⟨[.int .i64 a, .int .i64 (b : Nat)], 1, 0, some 0, true⟩]⟩ : Out).x (⟨.exit 2, [(1, .emp), (2, .int .i64 (n : Nat)), (3, .ptr 0 0), (7, .int .i64 (pk (fun q => bt b (rowS ([] : List Nat) q)) u : Nat)), (8, .int .i64 (u : Nat)), (9, .int .i64 (pk (fun i => bt (([] : List Nat).getD i 0) u) (([] : List Nat).length) : Nat))], [⟨[.int .i64 a, .int .i64 (b : Nat)], 1, 0, some 0, true⟩]⟩ : Out).e (⟨.exit 2, [(1, .emp), (2, .int .i64 (n : Nat)), (3, .ptr 0 0), (7, .int .i64 (pk (fun q => bt b (rowS ([] : List Nat) q)) u : Nat)), (8, .int .i64 (u : Nat)), (9, .int .i64 (pk (fun i => bt (([] : List Nat).getD i 0) u) (([] : List Nat).length) : Nat))], [⟨[.int .i64 a, .int .i64 (b : Nat)], 1, 0, some 0, true⟩]⟩ : Out).h := by
  obtain ⟨h1, h2, h3, h4⟩ := shN (n := n) (by omega)
  refine lp_st (([] : List Nat).length) (fun _ => ()) (fun i _ => [(1, .emp), (2, .int .i64 (n : Nat)), (3, .ptr 0 0), (7, .int .i64 (pk (fun q => bt b (rowS ([] : List Nat) q)) u : Nat)), (8, .int .i64 (u : Nat)), (9, .int .i64 (pk (fun i => bt (([] : List Nat).getD i 0) u) (i) : Nat)), (10, .int .i64 (i : Nat))]) (fun i _ => [⟨[.int .i64 a, .int .i64 (b : Nat)], 1, 0, some 0, true⟩]) (fun _ => (⟨.exit 2, [(1, .emp), (2, .int .i64 (n : Nat)), (3, .ptr 0 0), (7, .int .i64 (pk (fun q => bt b (rowS ([] : List Nat) q)) u : Nat)), (8, .int .i64 (u : Nat)), (9, .int .i64 (pk (fun i => bt (([] : List Nat).getD i 0) u) (([] : List Nat).length) : Nat))], [⟨[.int .i64 a, .int .i64 (b : Nat)], 1, 0, some 0, true⟩]⟩ : Out)) ?_ ?_ (([] : List Nat).length) 0 (by omega)
  · intro i u_ hi hu_
    refine ⟨(), rfl, ?_⟩
    exact absurd hi (by simp)
  · intro u_ hu_
    have hlt : decide (((([] : List Nat).length : Nat) : Int) < (([] : List Nat).length : Nat)) = false := decide_eq_false (by omega)
    unfold m132_1
    repeat' (first
      | (refine g_op ?_; first
        | refine ep_mov rfl ?_ | refine ep_load1 rfl rfl rfl rfl ?_
        | refine ep_bin rfl rfl (by first | exact b_add (by omega) (by omega) | exact b_and (by omega) (by omega) | exact b_or (by omega) (by omega) | exact b_shr (by omega) | exact b_shl (by omega) (by omega) | exact b_lss) ?_
        | refine ep_conv rfl (by first | exact w_u64 (by omega) (by omega) | exact wrap_id (by omega) (by omega) | rfl) ?_ | refine ep_lenS rfl ?_ | refine ep_lenN rfl ?_ | refine ep_lenE rfl ?_ | refine sp_idx rfl rfl rfl (by omega) rfl ?_
        | refine ep_loadS rfl rfl rfl (by first | exact ints_get (by omega) | exact zints_get (by omega) | exact fget (by omega) | assumption) ?_)
      | (refine g_ops ?_; first | refine eo_none ?_ | refine eo_nil ?_)
      | (refine g_code ?_; first | refine ec_seq ?_ | refine ec_region ?_ | refine ec_block ?_ | refine ec_skip ?_ | refine ec_exit ?_ | refine ec_condT rfl ?_ | refine ec_condF rfl ?_ | refine ec_condTH rfl (by assumption) ?_ | refine ec_condFH rfl (by assumption) ?_)
      | refine ek_seqN ?_ | refine ek_seqX ?_ | refine ek_blkN ?_ | refine ek_blkR ?_ | refine ek_blkX ?_ | refine ek_blkY rfl ?_)
    exact rnd_out (by rfl) (by simp) (scmp2 (by rfl) (by rfl) (by exact ⟨rfl, rfl, rfl⟩) (by rfl) (by first | rfl | (simp; done) | (simp [ints, prs]; done)) (by rfl) (by first | rfl | (simp; done) | (simp [ints, prs]; done)))
theorem lpsp0_e (n b : Nat) (a : Int) (hl4 : ([] : List Nat).length ≤ 4) (hl : ∀ j, j < ([] : List Nat).length → ([] : List Nat).getD j 0 < 65536) (hb : b < 65536) (hn : n ≤ 3) :
    LpS cx 45 0 m132_0 [(1, .emp), (2, .int .i64 (n : Nat)), (3, .ptr 0 0), (7, .int .i64 (pk (fun q => bt b (rowS ([] : List Nat) q)) (0) : Nat)), (8, .int .i64 (0 : Nat))] [⟨[.int .i64 a, .int .i64 (b : Nat)], 1, 0, some 0, true⟩] (⟨.exit 0, [(7, .int .i64 (pk (fun q => bt b (rowS ([] : List Nat) q)) (R2 n) : Nat))], []⟩ : Out).x (⟨.exit 0, [(7, .int .i64 (pk (fun q => bt b (rowS ([] : List Nat) q)) (R2 n) : Nat))], []⟩ : Out).e (⟨.exit 0, [(7, .int .i64 (pk (fun q => bt b (rowS ([] : List Nat) q)) (R2 n) : Nat))], []⟩ : Out).h := by
  obtain ⟨h1, h2, h3, h4⟩ := shN (n := n) (by omega)
  refine lp_st (R2 n) (fun _ => ()) (fun i _ => [(1, .emp), (2, .int .i64 (n : Nat)), (3, .ptr 0 0), (7, .int .i64 (pk (fun q => bt b (rowS ([] : List Nat) q)) (i) : Nat)), (8, .int .i64 (i : Nat))]) (fun i _ => [⟨[.int .i64 a, .int .i64 (b : Nat)], 1, 0, some 0, true⟩]) (fun _ => (⟨.exit 0, [(7, .int .i64 (pk (fun q => bt b (rowS ([] : List Nat) q)) (R2 n) : Nat))], []⟩ : Out)) ?_ ?_ (R2 n) 0 (by omega)
  · intro i u_ hi hu_
    refine ⟨(), rfl, ?_⟩
    have hlt : decide ((i : Int) < (R2 n : Nat)) = true := decide_eq_true (by omega)
    have lp := lpsp1_e n b a hl4 hl hb hn i hi
    rw [show pk (fun j => bt (([] : List Nat).getD j 0) i) ([] : List Nat).length = rowS ([] : List Nat) i from rfl, show pk (fun j => bt (([] : List Nat).getD j 0) i) 0 = 0 from rfl] at lp
    have hr := rowS_lt ([] : List Nat) i
    have h16 := R2_4 hl4
    have hb1 := bt_le b (rowS ([] : List Nat) i)
    have hs1 := sl_lt hb1 hi
    have hp0 := pk_lt (g := fun q => bt b (rowS ([] : List Nat) q)) (n := i) fun r _ => bt_le _ _
    have hp2 := R2_mono (i := i) (n := R2 n) (by omega)
    unfold m132_0
    repeat' (first
      | refine sc_loop lp rfl rfl ⟨rfl, rfl, rfl⟩ rfl rfl rfl ?_
      | (refine g_op ?_; first
        | refine ep_mov rfl ?_ | refine sp_loadN rfl rfl rfl rfl rfl ?_
        | refine ep_call0 rfl (by first | exact ev58 n (by omega) | exact ev57 a b (rowS ([] : List Nat) i) (by omega) (by omega)) rfl rfl ?_
        | refine sp_call rfl rfl rfl rfl (by first | exact ev58 n (by omega) | exact ev57 a b (rowS ([] : List Nat) i) (by omega) (by omega)) ⟨rfl, rfl, rfl, rfl⟩ rfl rfl rfl ?_
        | refine ep_bin rfl rfl (by first | exact b_shl (x := bt b (rowS ([] : List Nat) i)) (by omega) (by omega) | exact b_add (by omega) (by omega) | exact b_or (by omega) (by omega) | exact b_shl (by omega) (by omega) | exact b_lss) ?_
        | refine ep_conv rfl (by first | exact w_u64 (by omega) (by omega) | exact wrap_id (by omega) (by omega) | rfl) ?_)
      | (refine g_ops ?_; first | refine eo_none ?_ | refine eo_nil ?_)
      | (refine g_code ?_; first | refine ec_seq ?_ | refine ec_region ?_ | refine ec_block ?_ | refine ec_skip ?_ | refine ec_exit ?_ | refine ec_condT rfl ?_ | refine ec_condF rfl ?_ | refine ec_condTH rfl (by assumption) ?_ | refine ec_condFH rfl (by assumption) ?_)
      | refine ek_seqN ?_ | refine ek_seqX ?_ | refine ek_seqR ?_ | refine ek_blkN ?_ | refine ek_blkR ?_ | refine ek_blkX ?_ | refine ek_blkY rfl ?_)
    exact rnd_on (by rfl) (scmp2 (by rfl) (by rfl) (by exact ⟨rfl, rfl, rfl⟩) (by rfl) (by first | rfl | (simp; done) | (simp [ints, prs]; done)) (by rfl) (by first | rfl | (simp; done) | (simp [ints, prs]; done)))
  · intro u_ hu_
    have hlt : decide (((R2 n : Nat) : Int) < (R2 n : Nat)) = false := decide_eq_false (by omega)
    unfold m132_0
    repeat' (first
      | (refine g_op ?_; first
        | refine ep_mov rfl ?_ | refine sp_loadN rfl rfl rfl rfl rfl ?_
        | refine ep_call0 rfl (by first | exact ev58 n (by omega)) rfl rfl ?_
        | refine sp_call rfl rfl rfl rfl (by first | exact ev58 n (by omega)) ⟨rfl, rfl, rfl, rfl⟩ rfl rfl rfl ?_
        | refine ep_bin rfl rfl (by first | exact b_add (by omega) (by omega) | exact b_or (by omega) (by omega) | exact b_shl (by omega) (by omega) | exact b_lss) ?_ | refine ep_conv rfl (by first | exact w_u64 (by omega) (by omega) | exact wrap_id (by omega) (by omega) | rfl) ?_)
      | (refine g_ops ?_; first | refine eo_none ?_ | refine eo_nil ?_)
      | (refine g_code ?_; first | refine ec_seq ?_ | refine ec_region ?_ | refine ec_block ?_ | refine ec_skip ?_ | refine ec_exit ?_ | refine ec_condT rfl ?_ | refine ec_condF rfl ?_ | refine ec_condTH rfl (by assumption) ?_ | refine ec_condFH rfl (by assumption) ?_)
      | refine ek_seqN ?_ | refine ek_seqX ?_ | refine ek_seqR ?_ | refine ek_blkN ?_ | refine ek_blkR ?_ | refine ek_blkX ?_ | refine ek_blkY rfl ?_)
    exact rnd_out (by rfl) (by simp) (scmp2 (by rfl) (by rfl) (by exact ⟨rfl, rfl, rfl⟩) (by rfl) (by first | rfl | (simp; done) | (simp [ints, prs]; done)) (by rfl) (by first | rfl | (simp; done) | (simp [ints, prs]; done)))
theorem evsp_e (n b : Nat) (a : Int) (hl4 : ([] : List Nat).length ≤ 4) (hl : ∀ j, j < ([] : List Nat).length → ([] : List Nat).getD j 0 < 65536) (hb : b < 65536) (hn : n ≤ 3) : Ev cx 132 [.agg [.int .i64 a, .int .i64 b], .emp, .int .i64 n] [] (.int .i64 (valS b (R2 n) ([] : List Nat) : Nat)) [] := by
  have lp := lpsp0_e n b a hl4 hl hb hn
  refine has132.eev rfl rfl ?_
  unfold m132
  repeat' (first
    | refine sc_loop lp rfl rfl ⟨rfl, rfl, rfl⟩ rfl rfl rfl ?_
    | (refine g_op ?_; first
      | refine ep_mov rfl ?_
      | refine sp_box rfl rfl rfl rfl rfl ?_)
    | (refine g_ops ?_; first | refine eo_none ?_ | refine eo_nil ?_)
    | (refine g_code ?_; first | refine ec_seq ?_ | refine ec_region ?_ | refine ec_block ?_ | refine ec_ret ?_)
    | refine ek_seqN ?_ | refine ek_seqX ?_ | refine ek_seqR ?_ | refine ek_blkN ?_ | refine ek_blkR ?_ | refine ek_blkX ?_ | refine ek_blkY rfl ?_)
  refine sfin (.inr rfl) (by rfl) (by rfl) (by exact ⟨rfl, rfl, rfl⟩) (by rfl) (by rfl) (by rfl) (by first | rfl | (simp; done) | (simp [ints, prs]; done))

theorem lpsp1_c (n b q0 : Nat) (a : Int) (l : List Nat) (hl4 : l.length ≤ 4) (hl : ∀ j, j < l.length → l.getD j 0 < 65536) (hb : b < 65536) (hn : n ≤ 3) (u : Nat) (hu : u < R2 n) :
    LpS cx 45 1 m132_1 [(1, .sl 0 0 l.length), (2, .int .i64 (n : Nat)), (3, .ptr 1 0), (7, .int .i64 (pk (fun q => bt b (rowS l q)) u : Nat)), (8, .int .i64 (u : Nat)), (9, .int .i64 (pk (fun i => bt (l.getD i 0) u) (0) : Nat)), (10, .int .i64 (0 : Nat))] [⟨ints l, 1, 0, some q0, false⟩, ⟨[.int .i64 a, .int .i64 (b : Nat)], 1, 1, some 0, true⟩] (⟨.exit 2, [(1, .sl 0 0 l.length), (2, .int .i64 (n : Nat)), (3, .ptr 1 0), (7, .int .i64 (pk (fun q => bt b (rowS l q)) u : Nat)), (8, .int .i64 (u : Nat)), (9, .int .i64 (pk (fun i => bt (l.getD i 0) u) (l.length) : Nat))], [⟨ints l, 1, 0, some q0, false⟩, ⟨[.int .i64 a, .int .i64 (b : Nat)], 1, 1, some 0, true⟩]⟩ : Out).x (⟨.exit 2, [(1, .sl 0 0 l.length), (2, .int .i64 (n : Nat)), (3, .ptr 1 0), (7, .int .i64 (pk (fun q => bt b (rowS l q)) u : Nat)), (8, .int .i64 (u : Nat)), (9, .int .i64 (pk (fun i => bt (l.getD i 0) u) (l.length) : Nat))], [⟨ints l, 1, 0, some q0, false⟩, ⟨[.int .i64 a, .int .i64 (b : Nat)], 1, 1, some 0, true⟩]⟩ : Out).e (⟨.exit 2, [(1, .sl 0 0 l.length), (2, .int .i64 (n : Nat)), (3, .ptr 1 0), (7, .int .i64 (pk (fun q => bt b (rowS l q)) u : Nat)), (8, .int .i64 (u : Nat)), (9, .int .i64 (pk (fun i => bt (l.getD i 0) u) (l.length) : Nat))], [⟨ints l, 1, 0, some q0, false⟩, ⟨[.int .i64 a, .int .i64 (b : Nat)], 1, 1, some 0, true⟩]⟩ : Out).h := by
  obtain ⟨h1, h2, h3, h4⟩ := shN (n := n) (by omega)
  refine lp_st (l.length) (fun _ => ()) (fun i _ => [(1, .sl 0 0 l.length), (2, .int .i64 (n : Nat)), (3, .ptr 1 0), (7, .int .i64 (pk (fun q => bt b (rowS l q)) u : Nat)), (8, .int .i64 (u : Nat)), (9, .int .i64 (pk (fun i => bt (l.getD i 0) u) (i) : Nat)), (10, .int .i64 (i : Nat))]) (fun i _ => [⟨ints l, 1, 0, some q0, false⟩, ⟨[.int .i64 a, .int .i64 (b : Nat)], 1, 1, some 0, true⟩]) (fun _ => (⟨.exit 2, [(1, .sl 0 0 l.length), (2, .int .i64 (n : Nat)), (3, .ptr 1 0), (7, .int .i64 (pk (fun q => bt b (rowS l q)) u : Nat)), (8, .int .i64 (u : Nat)), (9, .int .i64 (pk (fun i => bt (l.getD i 0) u) (l.length) : Nat))], [⟨ints l, 1, 0, some q0, false⟩, ⟨[.int .i64 a, .int .i64 (b : Nat)], 1, 1, some 0, true⟩]⟩ : Out)) ?_ ?_ (l.length) 0 (by omega)
  · intro i u_ hi hu_
    refine ⟨(), rfl, ?_⟩
    have hlt : decide ((i : Int) < (l.length : Nat)) = true := decide_eq_true (by omega)
    have hx := hl i hi
    have hb1 := bt_le (l.getD i 0) u
    have hs1 := sl_lt (i := i) (m := l.length) hb1 (by omega)
    have h16 := R2_4 hl4
    have hp0 := pk_lt (g := fun i => bt (l.getD i 0) u) (n := i) fun r _ => bt_le _ _
    have hp2 := R2_mono (i := i) (n := l.length) (by omega)
    unfold m132_1
    repeat' (first
      | (refine g_op ?_; first
        | refine ep_mov rfl ?_ | refine ep_load1 rfl rfl rfl rfl ?_
        | refine ep_bin rfl rfl (by first | exact b_shr (x := l.getD i 0) (y := u) (by omega) | exact b_bt (by omega) | exact b_shl (x := bt (l.getD i 0) u) (by omega) (by omega) | exact b_add (by omega) (by omega) | exact b_and (by omega) (by omega) | exact b_or (by omega) (by omega) | exact b_shr (by omega) | exact b_shl (by omega) (by omega) | exact b_lss) ?_
        | refine ep_conv rfl (by first | exact w_u64 (by omega) (by omega) | exact wrap_id (by omega) (by omega) | rfl) ?_ | refine ep_lenS rfl ?_ | refine ep_lenN rfl ?_ | refine ep_lenE rfl ?_ | refine sp_idx rfl rfl rfl (by omega) rfl ?_
        | refine ep_loadS rfl rfl rfl (by first | exact ints_get (by omega) | exact zints_get (by omega) | exact fget (by omega) | assumption) ?_)
      | (refine g_ops ?_; first | refine eo_none ?_ | refine eo_nil ?_)
      | (refine g_code ?_; first | refine ec_seq ?_ | refine ec_region ?_ | refine ec_block ?_ | refine ec_skip ?_ | refine ec_exit ?_ | refine ec_condT rfl ?_ | refine ec_condF rfl ?_ | refine ec_condTH rfl (by assumption) ?_ | refine ec_condFH rfl (by assumption) ?_)
      | refine ek_seqN ?_ | refine ek_seqX ?_ | refine ek_blkN ?_ | refine ek_blkR ?_ | refine ek_blkX ?_ | refine ek_blkY rfl ?_)
    exact rnd_on (by rfl) (scmp2 (by rfl) (by rfl) (by exact ⟨rfl, rfl, rfl⟩) (by rfl) (by first | rfl | (simp; done) | (simp [ints, prs]; done)) (by rfl) (by first | rfl | (simp; done) | (simp [ints, prs]; done)))
  · intro u_ hu_
    have hlt : decide (((l.length : Nat) : Int) < (l.length : Nat)) = false := decide_eq_false (by omega)
    unfold m132_1
    repeat' (first
      | (refine g_op ?_; first
        | refine ep_mov rfl ?_ | refine ep_load1 rfl rfl rfl rfl ?_
        | refine ep_bin rfl rfl (by first | exact b_add (by omega) (by omega) | exact b_and (by omega) (by omega) | exact b_or (by omega) (by omega) | exact b_shr (by omega) | exact b_shl (by omega) (by omega) | exact b_lss) ?_
        | refine ep_conv rfl (by first | exact w_u64 (by omega) (by omega) | exact wrap_id (by omega) (by omega) | rfl) ?_ | refine ep_lenS rfl ?_ | refine ep_lenN rfl ?_ | refine ep_lenE rfl ?_ | refine sp_idx rfl rfl rfl (by omega) rfl ?_
        | refine ep_loadS rfl rfl rfl (by first | exact ints_get (by omega) | exact zints_get (by omega) | exact fget (by omega) | assumption) ?_)
      | (refine g_ops ?_; first | refine eo_none ?_ | refine eo_nil ?_)
      | (refine g_code ?_; first | refine ec_seq ?_ | refine ec_region ?_ | refine ec_block ?_ | refine ec_skip ?_ | refine ec_exit ?_ | refine ec_condT rfl ?_ | refine ec_condF rfl ?_ | refine ec_condTH rfl (by assumption) ?_ | refine ec_condFH rfl (by assumption) ?_)
      | refine ek_seqN ?_ | refine ek_seqX ?_ | refine ek_blkN ?_ | refine ek_blkR ?_ | refine ek_blkX ?_ | refine ek_blkY rfl ?_)
    exact rnd_out (by rfl) (by simp) (scmp2 (by rfl) (by rfl) (by exact ⟨rfl, rfl, rfl⟩) (by rfl) (by first | rfl | (simp; done) | (simp [ints, prs]; done)) (by rfl) (by first | rfl | (simp; done) | (simp [ints, prs]; done)))
theorem lpsp0_c (n b q0 : Nat) (a : Int) (l : List Nat) (hl4 : l.length ≤ 4) (hl : ∀ j, j < l.length → l.getD j 0 < 65536) (hb : b < 65536) (hn : n ≤ 3) :
    LpS cx 45 1 m132_0 [(1, .sl 0 0 l.length), (2, .int .i64 (n : Nat)), (3, .ptr 1 0), (7, .int .i64 (pk (fun q => bt b (rowS l q)) (0) : Nat)), (8, .int .i64 (0 : Nat))] [⟨ints l, 1, 0, some q0, false⟩, ⟨[.int .i64 a, .int .i64 (b : Nat)], 1, 1, some 0, true⟩] (⟨.exit 0, [(7, .int .i64 (pk (fun q => bt b (rowS l q)) (R2 n) : Nat))], [⟨ints l, 1, 0, some q0, false⟩]⟩ : Out).x (⟨.exit 0, [(7, .int .i64 (pk (fun q => bt b (rowS l q)) (R2 n) : Nat))], [⟨ints l, 1, 0, some q0, false⟩]⟩ : Out).e (⟨.exit 0, [(7, .int .i64 (pk (fun q => bt b (rowS l q)) (R2 n) : Nat))], [⟨ints l, 1, 0, some q0, false⟩]⟩ : Out).h := by
  obtain ⟨h1, h2, h3, h4⟩ := shN (n := n) (by omega)
  refine lp_st (R2 n) (fun _ => ()) (fun i _ => [(1, .sl 0 0 l.length), (2, .int .i64 (n : Nat)), (3, .ptr 1 0), (7, .int .i64 (pk (fun q => bt b (rowS l q)) (i) : Nat)), (8, .int .i64 (i : Nat))]) (fun i _ => [⟨ints l, 1, 0, some q0, false⟩, ⟨[.int .i64 a, .int .i64 (b : Nat)], 1, 1, some 0, true⟩]) (fun _ => (⟨.exit 0, [(7, .int .i64 (pk (fun q => bt b (rowS l q)) (R2 n) : Nat))], [⟨ints l, 1, 0, some q0, false⟩]⟩ : Out)) ?_ ?_ (R2 n) 0 (by omega)
  · intro i u_ hi hu_
    refine ⟨(), rfl, ?_⟩
    have hlt : decide ((i : Int) < (R2 n : Nat)) = true := decide_eq_true (by omega)
    have lp := lpsp1_c n b q0 a l hl4 hl hb hn i hi
    rw [show pk (fun j => bt (l.getD j 0) i) l.length = rowS l i from rfl, show pk (fun j => bt (l.getD j 0) i) 0 = 0 from rfl] at lp
    have hr := rowS_lt l i
    have h16 := R2_4 hl4
    have hb1 := bt_le b (rowS l i)
    have hs1 := sl_lt hb1 hi
    have hp0 := pk_lt (g := fun q => bt b (rowS l q)) (n := i) fun r _ => bt_le _ _
    have hp2 := R2_mono (i := i) (n := R2 n) (by omega)
    unfold m132_0
    repeat' (first
      | refine sc_loop lp rfl rfl ⟨rfl, rfl, rfl⟩ rfl rfl rfl ?_
      | (refine g_op ?_; first
        | refine ep_mov rfl ?_ | refine sp_loadN rfl rfl rfl rfl rfl ?_
        | refine ep_call0 rfl (by first | exact ev58 n (by omega) | exact ev57 a b (rowS l i) (by omega) (by omega)) rfl rfl ?_
        | refine sp_call rfl rfl rfl rfl (by first | exact ev58 n (by omega) | exact ev57 a b (rowS l i) (by omega) (by omega)) ⟨rfl, rfl, rfl, rfl⟩ rfl rfl rfl ?_
        | refine ep_bin rfl rfl (by first | exact b_shl (x := bt b (rowS l i)) (by omega) (by omega) | exact b_add (by omega) (by omega) | exact b_or (by omega) (by omega) | exact b_shl (by omega) (by omega) | exact b_lss) ?_
        | refine ep_conv rfl (by first | exact w_u64 (by omega) (by omega) | exact wrap_id (by omega) (by omega) | rfl) ?_)
      | (refine g_ops ?_; first | refine eo_none ?_ | refine eo_nil ?_)
      | (refine g_code ?_; first | refine ec_seq ?_ | refine ec_region ?_ | refine ec_block ?_ | refine ec_skip ?_ | refine ec_exit ?_ | refine ec_condT rfl ?_ | refine ec_condF rfl ?_ | refine ec_condTH rfl (by assumption) ?_ | refine ec_condFH rfl (by assumption) ?_)
      | refine ek_seqN ?_ | refine ek_seqX ?_ | refine ek_seqR ?_ | refine ek_blkN ?_ | refine ek_blkR ?_ | refine ek_blkX ?_ | refine ek_blkY rfl ?_)
    exact rnd_on (by rfl) (scmp2 (by rfl) (by rfl) (by exact ⟨rfl, rfl, rfl⟩) (by rfl) (by first | rfl | (simp; done) | (simp [ints, prs]; done)) (by rfl) (by first | rfl | (simp; done) | (simp [ints, prs]; done)))
  · intro u_ hu_
    have hlt : decide (((R2 n : Nat) : Int) < (R2 n : Nat)) = false := decide_eq_false (by omega)
    unfold m132_0
    repeat' (first
      | (refine g_op ?_; first
        | refine ep_mov rfl ?_ | refine sp_loadN rfl rfl rfl rfl rfl ?_
        | refine ep_call0 rfl (by first | exact ev58 n (by omega)) rfl rfl ?_
        | refine sp_call rfl rfl rfl rfl (by first | exact ev58 n (by omega)) ⟨rfl, rfl, rfl, rfl⟩ rfl rfl rfl ?_
        | refine ep_bin rfl rfl (by first | exact b_add (by omega) (by omega) | exact b_or (by omega) (by omega) | exact b_shl (by omega) (by omega) | exact b_lss) ?_ | refine ep_conv rfl (by first | exact w_u64 (by omega) (by omega) | exact wrap_id (by omega) (by omega) | rfl) ?_)
      | (refine g_ops ?_; first | refine eo_none ?_ | refine eo_nil ?_)
      | (refine g_code ?_; first | refine ec_seq ?_ | refine ec_region ?_ | refine ec_block ?_ | refine ec_skip ?_ | refine ec_exit ?_ | refine ec_condT rfl ?_ | refine ec_condF rfl ?_ | refine ec_condTH rfl (by assumption) ?_ | refine ec_condFH rfl (by assumption) ?_)
      | refine ek_seqN ?_ | refine ek_seqX ?_ | refine ek_seqR ?_ | refine ek_blkN ?_ | refine ek_blkR ?_ | refine ek_blkX ?_ | refine ek_blkY rfl ?_)
    exact rnd_out (by rfl) (by simp) (scmp2 (by rfl) (by rfl) (by exact ⟨rfl, rfl, rfl⟩) (by rfl) (by first | rfl | (simp; done) | (simp [ints, prs]; done)) (by rfl) (by first | rfl | (simp; done) | (simp [ints, prs]; done)))
theorem evsp_c (n b q0 : Nat) (a : Int) (l : List Nat) (hl4 : l.length ≤ 4) (hl : ∀ j, j < l.length → l.getD j 0 < 65536) (hb : b < 65536) (hn : n ≤ 3) : Ev cx 132 [.agg [.int .i64 a, .int .i64 b], .sl 0 0 l.length, .int .i64 n] [⟨ints l, 1, 0, some q0, false⟩] (.int .i64 (valS b (R2 n) l : Nat)) [⟨ints l, 1, 0, some q0, false⟩] := by
  have lp := lpsp0_c n b q0 a l hl4 hl hb hn
  refine has132.eev rfl rfl ?_
  unfold m132
  repeat' (first
    | refine sc_loop lp rfl rfl ⟨rfl, rfl, rfl⟩ rfl rfl rfl ?_
    | (refine g_op ?_; first
      | refine ep_mov rfl ?_
      | refine sp_box rfl rfl rfl rfl rfl ?_)
    | (refine g_ops ?_; first | refine eo_none ?_ | refine eo_nil ?_)
    | (refine g_code ?_; first | refine ec_seq ?_ | refine ec_region ?_ | refine ec_block ?_ | refine ec_ret ?_)
    | refine ek_seqN ?_ | refine ek_seqX ?_ | refine ek_seqR ?_ | refine ek_blkN ?_ | refine ek_blkR ?_ | refine ek_blkX ?_ | refine ek_blkY rfl ?_)
  refine sfin (.inr rfl) (by rfl) (by rfl) (by exact ⟨rfl, rfl, rfl⟩) (by rfl) (by rfl) (by rfl) (by first | rfl | (simp; done) | (simp [ints, prs]; done))

theorem upS_or (d : Int) (b : Nat) (D : List Int) (A : Bool) : upS d b (D, A) = ((upS d b (D, false)).1, A || (upS d b (D, false)).2) := by
  unfold upS; simp only; split <;> simp
theorem foldN_or {f : Nat → GS → GS} (hf : ∀ j D A, f j (D, A) = ((f j (D, false)).1, A || (f j (D, false)).2)) : ∀ (n : Nat) (D : List Int) (A : Bool), foldN f n (D, A) = ((foldN f n (D, false)).1, A || (foldN f n (D, false)).2)
  | 0, D, A => by simp [foldN]
  | n + 1, D, A => by
    simp only [foldN]
    rw [foldN_or hf n D A]
    generalize hs : foldN f n (D, false) = s
    obtain ⟨D1, A1⟩ := s
    rw [hf n D1 (A || A1), hf n D1 A1]
    simp [Bool.or_assoc]
theorem walk_or {d : Int} {n b : Nat} {L : List Nat} : ∀ (m : Nat) (l : List Nat) (D : List Int) (A : Bool), walkT L (leafS d n b) m l (D, A) = ((walkT L (leafS d n b) m l (D, false)).1, A || (walkT L (leafS d n b) m l (D, false)).2)
  | 0, l, D, A => upS_or _ _ _ _
  | m + 1, l, D, A => foldN_or (fun j D A => walk_or m _ D A) _ D A
theorem walkS_len {d : Int} {n b : Nat} {L : List Nat} (m : Nat) (l : List Nat) (s : GS) : (walkT L (leafS d n b) m l s).1.length = s.1.length :=
  walkT_inv (I := fun u : GS => u.1.length = s.1.length) (fun now u hu => by unfold leafS; rw [(upS_le d _ u).1, hu]) m l s rfl
theorem foldS_len {d : Int} {n b : Nat} {L : List Nat} (m : Nat) (l : List Nat) (s : GS) (i : Nat) : (foldN (fun j s => walkT L (leafS d n b) m (l ++ [L.getD j 0]) s) i s).1.length = s.1.length :=
  foldN_inv (I := fun u : GS => u.1.length = s.1.length) _ _ (fun j u _ hu => by rw [walkS_len, hu]) rfl
theorem ints_snoc (l : List Nat) (v : Nat) : ints l ++ [V.int .i64 (v : Nat)] = ints (l ++ [v]) := by simp [ints]
-- spec.l04Round
def m123_0 : MC := (.seq (.seq (.region [⟨(.mov (.t 15)), (some 34), none⟩, ⟨(.mov (.t 2)), (some 35), none⟩, ⟨(.len (.t 35)), (some 36), none⟩, ⟨(.bin .lss (.t 34) (.t 36)), (some 37), none⟩] false) (.cond (.t 37) .skip (.exit 0))) (.seq (.block 1 (.seq (.regionL [⟨(.load (some 2) (.t 6)), (some 40), none⟩, ⟨(.mov (.t 1)), (some 41), none⟩, ⟨(.mov (.t 2)), (some 42), none⟩, ⟨(.mov (.t 3)), (some 43), none⟩, ⟨(.call 114 [(.t 43)]), (some 44), none⟩, ⟨(.mov (.t 2)), (some 45), none⟩, ⟨(.mov (.t 15)), (some 46), none⟩, ⟨(.indexAddr 1 (.t 45) (.t 46)), (some 47), none⟩, ⟨(.load none (.t 47)), (some 48), none⟩, ⟨(.bslice 1 [(.int .i64 0)] 1 [(0, (1, (.t 48)))]), (some 49), none⟩, ⟨(.append 1 8 (.t 44) (.t 49)), (some 50), none⟩, ⟨(.mov (.t 4)), (some 51), none⟩, ⟨(.mov (.t 5)), (some 52), none⟩, ⟨(.callw 123 [(.t 40), (.t 41), (.t 42), (.t 50), (.t 51), (.t 52)]), (some 53), none⟩] [0]) (.cond (.t 53) (.region [⟨(.mov (.k (.bool true))), (some 14), none⟩] false) .skip))) (.region [⟨(.mov (.t 15)), (some 38), none⟩, ⟨(.bin .add (.t 38) (.k (.int .i64 1))), (some 39), none⟩, ⟨(.mov (.t 39)), (some 15), none⟩] false)))
def m123 : MC := (.seq (.region [⟨(.box (.t 0)), (some 6), none⟩, ⟨(.mov (.k (.bool false))), (some 12), none⟩] false) (.seq (.seq (.region [⟨(.mov (.t 3)), (some 16), none⟩, ⟨(.len (.t 16)), (some 17), none⟩, ⟨(.fieldAddr 0 (.t 6)), (some 18), none⟩, ⟨(.load none (.t 18)), (some 19), none⟩, ⟨(.bin .eql (.t 17) (.t 19)), (some 20), none⟩] false) (.cond (.t 20) (.seq (.region [⟨(.load (some 2) (.t 6)), (some 21), none⟩, ⟨(.mov (.t 3)), (some 22), none⟩, ⟨(.mov (.t 4)), (some 23), none⟩, ⟨(.call 132 [(.t 21), (.t 22), (.t 23)]), (some 24), none⟩, ⟨(.mov (.t 24)), (some 13), none⟩] false) (.seq (.seq (.region [⟨(.mov (.t 1)), (some 25), none⟩, ⟨(.mov (.t 13)), (some 26), none⟩, ⟨(.indexAddr 1 (.t 25) (.t 26)), (some 27), none⟩, ⟨(.load none (.t 27)), (some 28), none⟩, ⟨(.bin .geq (.t 28) (.k (.int .i64 0))), (some 29), none⟩] false) (.cond (.t 29) (.seq (.region [⟨(.mov (.k (.bool false))), (some 12), none⟩] false) .ret) .skip)) (.seq (.region [⟨(.mov (.t 1)), (some 30), none⟩, ⟨(.mov (.t 13)), (some 31), none⟩, ⟨(.mov (.t 5)), (some 32), none⟩, ⟨(.indexAddr 1 (.t 30) (.t 31)), (some 33), none⟩, ⟨(.store 1 (.t 33) (.t 32)), none, none⟩] false) (.seq (.region [⟨(.mov (.k (.bool true))), (some 12), none⟩] false) .ret)))) .skip)) (.seq (.region [⟨(.mov (.k (.bool false))), (some 14), none⟩] false) (.seq (.seq (.region [⟨(.mov (.k (.int .i64 0))), (some 15), none⟩] false) (.block 0 (.loop m123_0))) (.seq (.region [⟨(.mov (.t 14)), (some 54), none⟩, ⟨(.mov (.t 54)), (some 12), none⟩] false) .ret)))))
theorem has123 : Has cx 123 55 m123 [(.tmp 12)] :=
  ⟨⟨Try.f123, Try.f123.body.getD .skip, by kernel_rfl, by kernel_rfl, by kernel_rfl, by kernel_rfl, by kernel_rfl, by kernel_rfl⟩⟩
theorem evrb_e (n N d b : Nat) (D : List Int) (L : List Nat) (hN : D.length = N) (hNn : N = R2 (R2 n)) (hn : n ≤ 3) (hd : d < 65536) (hb : b < 65536) : Ev cx 123 [.agg [.int .i64 (0 : Nat), .int .i64 (b : Nat)], .sl 0 0 N, .sl 1 0 L.length, .emp, .int .i64 (n : Nat), .int .i64 (d : Nat)] [⟨zints D, 1, 0, some 0, false⟩, ⟨ints L, 1, 1, some 0, false⟩] (.bool (leafS (d : Int) n b [] (D, false)).2) [⟨zints (leafS (d : Int) n b [] (D, false)).1, 1, 0, some 0, false⟩, ⟨ints L, 1, 1, some 0, false⟩] := by
  obtain ⟨h1, h2, h3, h4⟩ := shN (n := n) (by omega)
  have hv := valS_lt b (R2 n) []
  have e2 := evsp_e n b  ((0 : Nat) : Int) (by simp) (fun j hj => by simp at hj) hb hn
  have hq : (((0 : Nat) : Int) == ((0 : Nat) : Int)) = true := by simp
  have hget := zints_get (l := D) (j := valS b (R2 n) []) (by omega)
  have hzl := zints_len D
  cases hc : decide (D.getD (valS b (R2 n) []) 0 ≥ 0)
  · have hL : leafS (d : Int) n b [] (D, false) = (D.set (valS b (R2 n) []) d, true) := by unfold leafS upS; rw [if_pos (by simpa using hc)]
    have hset := zints_set (D := D) (b := valS b (R2 n) []) (d := d) (by omega)
    rw [hL]
    refine has123.eev rfl rfl ?_
    unfold m123
    repeat' (first
      | refine ep_loadS rfl rfl rfl hget ?_
      | refine sp_storeS rfl rfl rfl rfl rfl rfl rfl (Nat.zero_le _) (by omega) hset rfl ?_
      | (refine g_op ?_; first
        | refine ep_mov rfl ?_ | refine ep_load1 rfl rfl rfl rfl ?_ | refine ep_fieldAddr rfl ?_ | refine sp_loadN rfl rfl rfl rfl rfl ?_
        | refine ep_call0 rfl (by first | exact e2) rfl rfl ?_
        | refine sp_call rfl rfl rfl rfl (by first | exact e2) ⟨rfl, rfl, rfl, rfl⟩ rfl rfl rfl ?_
        | refine ep_bin rfl rfl (by first | exact b_geq | exact b_eql) ?_ | refine sp_store rfl rfl rfl rfl rfl rfl rfl rfl rfl rfl ?_ | refine ep_lenS rfl ?_ | refine ep_lenN rfl ?_ | refine ep_lenE rfl ?_
        | refine sp_box rfl rfl rfl rfl rfl ?_ | refine sp_idx rfl rfl rfl (by omega) rfl ?_ | refine ep_loadS rfl rfl rfl (by first | exact ints_get (by omega) | exact zints_get (by omega) | exact fget (by omega) | assumption) ?_
        | refine ep_loadSN rfl rfl rfl (by first | exact prs_get (by omega) | exact fns_get (by omega)) ?_)
      | (refine g_ops ?_; first | refine eo_none ?_ | refine eo_nil ?_)
      | (refine g_code ?_; first | refine ec_seq ?_ | refine ec_region ?_ | refine ec_block ?_ | refine ec_skip ?_ | refine ec_ret ?_ | refine ec_condT rfl ?_ | refine ec_condF rfl ?_ | refine ec_condTH rfl (by assumption) ?_ | refine ec_condFH rfl (by assumption) ?_)
      | refine ek_seqN ?_ | refine ek_seqX ?_ | refine ek_seqR ?_ | refine ek_blkN ?_ | refine ek_blkR ?_ | refine ek_blkX ?_ | refine ek_blkY rfl ?_)
    refine sfin (.inr rfl) (by rfl) (by rfl) (by exact ⟨rfl, rfl, rfl⟩) (by rfl) (by rfl) (by rfl) (by first | rfl | (simp; done) | (simp [ints, prs]; done))
  · have hL : leafS (d : Int) n b [] (D, false) = (D, false) := by unfold leafS upS; rw [if_neg (by simpa using hc)]
    rw [hL]
    refine has123.eev rfl rfl ?_
    unfold m123
    repeat' (first
      | refine ep_loadS rfl rfl rfl hget ?_
      | (refine g_op ?_; first
        | refine ep_mov rfl ?_ | refine ep_load1 rfl rfl rfl rfl ?_ | refine ep_fieldAddr rfl ?_ | refine sp_loadN rfl rfl rfl rfl rfl ?_
        | refine ep_call0 rfl (by first | exact e2) rfl rfl ?_
        | refine sp_call rfl rfl rfl rfl (by first | exact e2) ⟨rfl, rfl, rfl, rfl⟩ rfl rfl rfl ?_
        | refine ep_bin rfl rfl (by first | exact b_geq | exact b_eql) ?_ | refine sp_store rfl rfl rfl rfl rfl rfl rfl rfl rfl rfl ?_ | refine ep_lenS rfl ?_ | refine ep_lenN rfl ?_ | refine ep_lenE rfl ?_
        | refine sp_box rfl rfl rfl rfl rfl ?_ | refine sp_idx rfl rfl rfl (by omega) rfl ?_ | refine ep_loadS rfl rfl rfl (by first | exact ints_get (by omega) | exact zints_get (by omega) | exact fget (by omega) | assumption) ?_
        | refine ep_loadSN rfl rfl rfl (by first | exact prs_get (by omega) | exact fns_get (by omega)) ?_)
      | (refine g_ops ?_; first | refine eo_none ?_ | refine eo_nil ?_)
      | (refine g_code ?_; first | refine ec_seq ?_ | refine ec_region ?_ | refine ec_block ?_ | refine ec_skip ?_ | refine ec_ret ?_ | refine ec_condT rfl ?_ | refine ec_condF rfl ?_ | refine ec_condTH rfl (by assumption) ?_ | refine ec_condFH rfl (by assumption) ?_)
      | refine ek_seqN ?_ | refine ek_seqX ?_ | refine ek_seqR ?_ | refine ek_blkN ?_ | refine ek_blkR ?_ | refine ek_blkX ?_ | refine ek_blkY rfl ?_)
    refine sfin (.inr rfl) (by rfl) (by rfl) (by exact ⟨rfl, rfl, rfl⟩) (by rfl) (by rfl) (by rfl) (by first | rfl | (simp; done) | (simp [ints, prs]; done))
theorem evrb_c (n N d b q0 : Nat) (D : List Int) (L l : List Nat) (hl4 : l.length ≤ 4) (hl : ∀ j, j < l.length → l.getD j 0 < N) (hN : D.length = N) (hNn : N = R2 (R2 n)) (hn : n ≤ 3) (hd : d < 65536) (hb : b < 65536) : Ev cx 123 [.agg [.int .i64 (l.length : Nat), .int .i64 (b : Nat)], .sl 0 0 N, .sl 1 0 L.length, .sl 2 0 l.length, .int .i64 (n : Nat), .int .i64 (d : Nat)] [⟨zints D, 1, 0, some 0, false⟩, ⟨ints L, 1, 1, some 0, false⟩, ⟨ints (l), 1, 2, some q0, false⟩] (.bool (leafS (d : Int) n b l (D, false)).2) [⟨zints (leafS (d : Int) n b l (D, false)).1, 1, 0, some 0, false⟩, ⟨ints L, 1, 1, some 0, false⟩, ⟨ints (l), 1, 2, some q0, false⟩] := by
  obtain ⟨h1, h2, h3, h4⟩ := shN (n := n) (by omega)
  have hv := valS_lt b (R2 n) l
  have e2 := evsp_c n b q0 l.length l (by omega) (fun j hj => by have := hl j hj; omega) hb hn
  have hq : (((l.length : Nat) : Int) == ((l.length : Nat) : Int)) = true := by simp
  have hget := zints_get (l := D) (j := valS b (R2 n) l) (by omega)
  have hzl := zints_len D
  cases hc : decide (D.getD (valS b (R2 n) l) 0 ≥ 0)
  · have hL : leafS (d : Int) n b l (D, false) = (D.set (valS b (R2 n) l) d, true) := by unfold leafS upS; rw [if_pos (by simpa using hc)]
    have hset := zints_set (D := D) (b := valS b (R2 n) l) (d := d) (by omega)
    rw [hL]
    refine has123.eev rfl rfl ?_
    unfold m123
    repeat' (first
      | refine ep_loadS rfl rfl rfl hget ?_
      | refine sp_storeS rfl rfl rfl rfl rfl rfl rfl (Nat.zero_le _) (by omega) hset rfl ?_
      | (refine g_op ?_; first
        | refine ep_mov rfl ?_ | refine ep_load1 rfl rfl rfl rfl ?_ | refine ep_fieldAddr rfl ?_ | refine sp_loadN rfl rfl rfl rfl rfl ?_
        | refine ep_call0 rfl (by first | exact e2) rfl rfl ?_
        | refine sp_call rfl rfl rfl rfl (by first | exact e2) ⟨rfl, rfl, rfl, rfl⟩ rfl rfl rfl ?_
        | refine ep_bin rfl rfl (by first | exact b_geq | exact b_eql) ?_ | refine sp_store rfl rfl rfl rfl rfl rfl rfl rfl rfl rfl ?_ | refine ep_lenS rfl ?_ | refine ep_lenN rfl ?_ | refine ep_lenE rfl ?_
        | refine sp_box rfl rfl rfl rfl rfl ?_ | refine sp_idx rfl rfl rfl (by omega) rfl ?_ | refine ep_loadS rfl rfl rfl (by first | exact ints_get (by omega) | exact zints_get (by omega) | exact fget (by omega) | assumption) ?_
        | refine ep_loadSN rfl rfl rfl (by first | exact prs_get (by omega) | exact fns_get (by omega)) ?_)
      | (refine g_ops ?_; first | refine eo_none ?_ | refine eo_nil ?_)
      | (refine g_code ?_; first | refine ec_seq ?_ | refine ec_region ?_ | refine ec_block ?_ | refine ec_skip ?_ | refine ec_ret ?_ | refine ec_condT rfl ?_ | refine ec_condF rfl ?_ | refine ec_condTH rfl (by assumption) ?_ | refine ec_condFH rfl (by assumption) ?_)
      | refine ek_seqN ?_ | refine ek_seqX ?_ | refine ek_seqR ?_ | refine ek_blkN ?_ | refine ek_blkR ?_ | refine ek_blkX ?_ | refine ek_blkY rfl ?_)
    refine sfin (.inr rfl) (by rfl) (by rfl) (by exact ⟨rfl, rfl, rfl⟩) (by rfl) (by rfl) (by rfl) (by first | rfl | (simp; done) | (simp [ints, prs]; done))
  · have hL : leafS (d : Int) n b l (D, false) = (D, false) := by unfold leafS upS; rw [if_neg (by simpa using hc)]
    rw [hL]
    refine has123.eev rfl rfl ?_
    unfold m123
    repeat' (first
      | refine ep_loadS rfl rfl rfl hget ?_
      | (refine g_op ?_; first
        | refine ep_mov rfl ?_ | refine ep_load1 rfl rfl rfl rfl ?_ | refine ep_fieldAddr rfl ?_ | refine sp_loadN rfl rfl rfl rfl rfl ?_
        | refine ep_call0 rfl (by first | exact e2) rfl rfl ?_
        | refine sp_call rfl rfl rfl rfl (by first | exact e2) ⟨rfl, rfl, rfl, rfl⟩ rfl rfl rfl ?_
        | refine ep_bin rfl rfl (by first | exact b_geq | exact b_eql) ?_ | refine sp_store rfl rfl rfl rfl rfl rfl rfl rfl rfl rfl ?_ | refine ep_lenS rfl ?_ | refine ep_lenN rfl ?_ | refine ep_lenE rfl ?_
        | refine sp_box rfl rfl rfl rfl rfl ?_ | refine sp_idx rfl rfl rfl (by omega) rfl ?_ | refine ep_loadS rfl rfl rfl (by first | exact ints_get (by omega) | exact zints_get (by omega) | exact fget (by omega) | assumption) ?_
        | refine ep_loadSN rfl rfl rfl (by first | exact prs_get (by omega) | exact fns_get (by omega)) ?_)
      | (refine g_ops ?_; first | refine eo_none ?_ | refine eo_nil ?_)
      | (refine g_code ?_; first | refine ec_seq ?_ | refine ec_region ?_ | refine ec_block ?_ | refine ec_skip ?_ | refine ec_ret ?_ | refine ec_condT rfl ?_ | refine ec_condF rfl ?_ | refine ec_condTH rfl (by assumption) ?_ | refine ec_condFH rfl (by assumption) ?_)
      | refine ek_seqN ?_ | refine ek_seqX ?_ | refine ek_seqR ?_ | refine ek_blkN ?_ | refine ek_blkR ?_ | refine ek_blkX ?_ | refine ek_blkY rfl ?_)
    refine sfin (.inr rfl) (by rfl) (by rfl) (by exact ⟨rfl, rfl, rfl⟩) (by rfl) (by rfl) (by rfl) (by first | rfl | (simp; done) | (simp [ints, prs]; done))
theorem lprd_e (n N d b a : Nat) (L : List Nat) (T : Nat → GS) (hll : L.length ≤ 65536) (ih : ∀ i, i < L.length → ∃ c : Bool, (T (i + 1)).2 = ((T i).2 || c) ∧ ∀ q, Ev cx 123 [.agg [.int .i64 (a : Nat), .int .i64 (b : Nat)], .sl 0 0 N, .sl 1 0 L.length, .sl 2 0 1, .int .i64 (n : Nat), .int .i64 (d : Nat)] [⟨zints (T i).1, 1, 0, some 0, false⟩, ⟨ints L, 1, 1, some 0, false⟩, ⟨[.int .i64 (L.getD i 0 : Nat)], 1, 2, some q, false⟩] (.bool c) [⟨zints (T (i + 1)).1, 1, 0, some 0, false⟩, ⟨ints L, 1, 1, some 0, false⟩, ⟨[.int .i64 (L.getD i 0 : Nat)], 1, 2, some q, false⟩]) :
    LpS cx 55 2 m123_0 [(1, .sl 0 0 N), (2, .sl 1 0 L.length), (3, .emp), (4, .int .i64 (n : Nat)), (5, .int .i64 (d : Nat)), (6, .ptr 2 0), (14, .bool (T (0)).2), (15, .int .i64 (0 : Nat))] [⟨zints (T (0)).1, 1, 0, some 0, false⟩, ⟨ints L, 1, 1, some 0, false⟩, ⟨[.int .i64 (a : Nat), .int .i64 (b : Nat)], 1, 2, some 0, true⟩] (⟨.exit 0, [(14, .bool (T (L.length)).2)], [⟨zints (T (L.length)).1, 1, 0, some 0, false⟩, ⟨ints L, 1, 1, some 0, false⟩]⟩ : Out).x (⟨.exit 0, [(14, .bool (T (L.length)).2)], [⟨zints (T (L.length)).1, 1, 0, some 0, false⟩, ⟨ints L, 1, 1, some 0, false⟩]⟩ : Out).e (⟨.exit 0, [(14, .bool (T (L.length)).2)], [⟨zints (T (L.length)).1, 1, 0, some 0, false⟩, ⟨ints L, 1, 1, some 0, false⟩]⟩ : Out).h := by
  refine lp_st (L.length) (fun _ => ()) (fun i _ => [(1, .sl 0 0 N), (2, .sl 1 0 L.length), (3, .emp), (4, .int .i64 (n : Nat)), (5, .int .i64 (d : Nat)), (6, .ptr 2 0), (14, .bool (T (i)).2), (15, .int .i64 (i : Nat))]) (fun i _ => [⟨zints (T (i)).1, 1, 0, some 0, false⟩, ⟨ints L, 1, 1, some 0, false⟩, ⟨[.int .i64 (a : Nat), .int .i64 (b : Nat)], 1, 2, some 0, true⟩]) (fun _ => (⟨.exit 0, [(14, .bool (T (L.length)).2)], [⟨zints (T (L.length)).1, 1, 0, some 0, false⟩, ⟨ints L, 1, 1, some 0, false⟩]⟩ : Out)) ?_ ?_ (L.length) 0 (by omega)
  · intro i u_ hi hu_
    refine ⟨(), rfl, ?_⟩
    have hlt : decide ((i : Int) < (L.length : Nat)) = true := decide_eq_true (by omega)
    obtain ⟨c, hc, e1⟩ := ih i hi
    have e0 := evow_e
    cases c
    · simp only [Bool.or_false] at hc
      unfold m123_0
      repeat' (first
        | (refine g_op ?_; first
          | refine ep_mov rfl ?_ | refine ep_load1 rfl rfl rfl rfl ?_ | refine sp_loadN rfl rfl rfl rfl rfl ?_
          | refine ep_call0 rfl (by first | exact e0 | exact e1 _) rfl rfl ?_
          | refine sp_call rfl rfl rfl rfl (by first | exact e0 | exact e1 _) ⟨rfl, rfl, rfl, rfl⟩ rfl rfl rfl ?_
          | refine ep_callw0 rfl (by first | exact e0 | exact e1 _) rfl rfl ?_
          | refine sp_callw rfl rfl rfl rfl (by first | exact e0 | exact e1 _) ⟨rfl, rfl, rfl, rfl⟩ rfl rfl rfl (by first | exact WrP_refl _ _ | (repeat' (first | exact rfl | exact True.intro | refine And.intro ?_ ?_))) ?_
          | refine ep_bin rfl rfl (by first | exact b_add (by omega) (by omega) | exact b_lss) ?_ | refine ep_lenS rfl ?_ | refine ep_lenN rfl ?_ | refine ep_lenE rfl ?_ | refine sp_bslice rfl rfl rfl rfl rfl ?_
          | refine sp_push0 rfl (by first | exact .inl rfl | exact .inr rfl) rfl rfl rfl rfl rfl (by decide) rfl rfl rfl ?_ | refine sp_push rfl rfl rfl rfl rfl rfl rfl (by first | exact ints_len _ | exact prs_len _ _ | exact zints_len _) (by omega) (Nat.zero_le _) rfl rfl rfl rfl rfl ?_
          | refine sp_idx rfl rfl rfl (by omega) rfl ?_ | refine ep_loadS rfl rfl rfl (by first | exact ints_get (by omega) | exact zints_get (by omega) | exact fget (by omega) | assumption) ?_ | refine ep_loadSN rfl rfl rfl (by first | exact prs_get (by omega) | exact fns_get (by omega)) ?_)
        | (refine g_ops ?_; first | refine eo_none ?_ | refine eo_nil ?_)
        | (refine g_lops ?_; first | refine el_none rfl ?_ | refine el_nil ?_)
        | refine el_same rfl ?_ | refine el_one rfl rfl rfl rfl rfl ?_ | refine el_write rfl rfl rfl ?_
        | (refine g_code ?_; first | refine ec_seq ?_ | refine ec_region ?_ | refine ec_drawL (X := [2]) rfl ?_ | refine ec_block ?_ | refine ec_skip ?_ | refine ec_exit ?_ | refine ec_condT rfl ?_ | refine ec_condF rfl ?_ | refine ec_condTH rfl (by assumption) ?_ | refine ec_condFH rfl (by assumption) ?_)
        | refine ek_seqN ?_ | refine ek_seqX ?_ | refine ek_blkN ?_ | refine ek_blkR ?_ | refine ek_blkX ?_ | refine ek_blkY rfl ?_)
      exact rnd_on (by rfl) (scmp2 (by rfl) (by rfl) (by exact ⟨rfl, rfl, rfl⟩) (by rfl) (by rw [hc]; rfl) (by rfl) (by rfl))
    · simp only [Bool.or_true] at hc
      unfold m123_0
      repeat' (first
        | (refine g_op ?_; first
          | refine ep_mov rfl ?_ | refine ep_load1 rfl rfl rfl rfl ?_ | refine sp_loadN rfl rfl rfl rfl rfl ?_
          | refine ep_call0 rfl (by first | exact e0 | exact e1 _) rfl rfl ?_
          | refine sp_call rfl rfl rfl rfl (by first | exact e0 | exact e1 _) ⟨rfl, rfl, rfl, rfl⟩ rfl rfl rfl ?_
          | refine ep_callw0 rfl (by first | exact e0 | exact e1 _) rfl rfl ?_
          | refine sp_callw rfl rfl rfl rfl (by first | exact e0 | exact e1 _) ⟨rfl, rfl, rfl, rfl⟩ rfl rfl rfl (by first | exact WrP_refl _ _ | (repeat' (first | exact rfl | exact True.intro | refine And.intro ?_ ?_))) ?_
          | refine ep_bin rfl rfl (by first | exact b_add (by omega) (by omega) | exact b_lss) ?_ | refine ep_lenS rfl ?_ | refine ep_lenN rfl ?_ | refine ep_lenE rfl ?_ | refine sp_bslice rfl rfl rfl rfl rfl ?_
          | refine sp_push0 rfl (by first | exact .inl rfl | exact .inr rfl) rfl rfl rfl rfl rfl (by decide) rfl rfl rfl ?_ | refine sp_push rfl rfl rfl rfl rfl rfl rfl (by first | exact ints_len _ | exact prs_len _ _ | exact zints_len _) (by omega) (Nat.zero_le _) rfl rfl rfl rfl rfl ?_
          | refine sp_idx rfl rfl rfl (by omega) rfl ?_ | refine ep_loadS rfl rfl rfl (by first | exact ints_get (by omega) | exact zints_get (by omega) | exact fget (by omega) | assumption) ?_ | refine ep_loadSN rfl rfl rfl (by first | exact prs_get (by omega) | exact fns_get (by omega)) ?_)
        | (refine g_ops ?_; first | refine eo_none ?_ | refine eo_nil ?_)
        | (refine g_lops ?_; first | refine el_none rfl ?_ | refine el_nil ?_)
        | refine el_same rfl ?_ | refine el_one rfl rfl rfl rfl rfl ?_ | refine el_write rfl rfl rfl ?_
        | (refine g_code ?_; first | refine ec_seq ?_ | refine ec_region ?_ | refine ec_drawL (X := [2]) rfl ?_ | refine ec_block ?_ | refine ec_skip ?_ | refine ec_exit ?_ | refine ec_condT rfl ?_ | refine ec_condF rfl ?_ | refine ec_condTH rfl (by assumption) ?_ | refine ec_condFH rfl (by assumption) ?_)
        | refine ek_seqN ?_ | refine ek_seqX ?_ | refine ek_blkN ?_ | refine ek_blkR ?_ | refine ek_blkX ?_ | refine ek_blkY rfl ?_)
      exact rnd_on (by rfl) (scmp2 (by rfl) (by rfl) (by exact ⟨rfl, rfl, rfl⟩) (by rfl) (by rw [hc]; rfl) (by rfl) (by rfl))
  · intro u_ hu_
    have hlt : decide (((L.length : Nat) : Int) < (L.length : Nat)) = false := decide_eq_false (by omega)
    unfold m123_0
    repeat' (first
      | (refine g_op ?_; first
        | refine ep_mov rfl ?_ | refine ep_load1 rfl rfl rfl rfl ?_ | refine sp_loadN rfl rfl rfl rfl rfl ?_
        | refine ep_bin rfl rfl (by first | exact b_add (by omega) (by omega) | exact b_lss) ?_ | refine ep_lenS rfl ?_ | refine ep_lenN rfl ?_ | refine ep_lenE rfl ?_ | refine sp_bslice rfl rfl rfl rfl rfl ?_
        | refine sp_push0 rfl (by first | exact .inl rfl | exact .inr rfl) rfl rfl rfl rfl rfl (by decide) rfl rfl rfl ?_ | refine sp_push rfl rfl rfl rfl rfl rfl rfl (by first | exact ints_len _ | exact prs_len _ _ | exact zints_len _) (by omega) (Nat.zero_le _) rfl rfl rfl rfl rfl ?_
        | refine sp_idx rfl rfl rfl (by omega) rfl ?_ | refine ep_loadS rfl rfl rfl (by first | exact ints_get (by omega) | exact zints_get (by omega) | exact fget (by omega) | assumption) ?_ | refine ep_loadSN rfl rfl rfl (by first | exact prs_get (by omega) | exact fns_get (by omega)) ?_)
      | (refine g_ops ?_; first | refine eo_none ?_ | refine eo_nil ?_)
      | (refine g_lops ?_; first | refine el_none rfl ?_ | refine el_nil ?_)
      | refine el_same rfl ?_ | refine el_one rfl rfl rfl rfl rfl ?_ | refine el_write rfl rfl rfl ?_
      | (refine g_code ?_; first | refine ec_seq ?_ | refine ec_region ?_ | refine ec_drawL (X := []) rfl ?_ | refine ec_block ?_ | refine ec_skip ?_ | refine ec_exit ?_ | refine ec_condT rfl ?_ | refine ec_condF rfl ?_ | refine ec_condTH rfl (by assumption) ?_ | refine ec_condFH rfl (by assumption) ?_)
      | refine ek_seqN ?_ | refine ek_seqX ?_ | refine ek_blkN ?_ | refine ek_blkR ?_ | refine ek_blkX ?_ | refine ek_blkY rfl ?_)
    exact rnd_out (by rfl) (by simp) (scmp2 (by rfl) (by rfl) (by exact ⟨rfl, rfl, rfl⟩) (by rfl) (by first | rfl | (simp; done) | (simp [ints, prs]; done)) (by rfl) (by first | rfl | (simp; done) | (simp [ints, prs]; done)))

theorem lprd_c (n N d b a q0 : Nat) (L l : List Nat) (T : Nat → GS) (hll : L.length ≤ 65536) (hl4 : l.length < 5) (hl1 : 1 ≤ l.length) (ih : ∀ i, i < L.length → ∃ c : Bool, (T (i + 1)).2 = ((T i).2 || c) ∧ ∀ q, Ev cx 123 [.agg [.int .i64 (a : Nat), .int .i64 (b : Nat)], .sl 0 0 N, .sl 1 0 L.length, .sl 2 0 (l.length + 1), .int .i64 (n : Nat), .int .i64 (d : Nat)] [⟨zints (T i).1, 1, 0, some 0, false⟩, ⟨ints L, 1, 1, some 0, false⟩, ⟨ints (l ++ [L.getD i 0]), 1, 2, some q, false⟩] (.bool c) [⟨zints (T (i + 1)).1, 1, 0, some 0, false⟩, ⟨ints L, 1, 1, some 0, false⟩, ⟨ints (l ++ [L.getD i 0]), 1, 2, some q, false⟩]) :
    LpS cx 55 3 m123_0 [(1, .sl 0 0 N), (2, .sl 1 0 L.length), (3, .sl 2 0 l.length), (4, .int .i64 (n : Nat)), (5, .int .i64 (d : Nat)), (6, .ptr 3 0), (14, .bool (T (0)).2), (15, .int .i64 (0 : Nat))] [⟨zints (T (0)).1, 1, 0, some 0, false⟩, ⟨ints L, 1, 1, some 0, false⟩, ⟨ints (l), 1, 2, some q0, false⟩, ⟨[.int .i64 (a : Nat), .int .i64 (b : Nat)], 1, 3, some 0, true⟩] (⟨.exit 0, [(14, .bool (T (L.length)).2)], [⟨zints (T (L.length)).1, 1, 0, some 0, false⟩, ⟨ints L, 1, 1, some 0, false⟩, ⟨ints (l), 1, 2, some q0, false⟩]⟩ : Out).x (⟨.exit 0, [(14, .bool (T (L.length)).2)], [⟨zints (T (L.length)).1, 1, 0, some 0, false⟩, ⟨ints L, 1, 1, some 0, false⟩, ⟨ints (l), 1, 2, some q0, false⟩]⟩ : Out).e (⟨.exit 0, [(14, .bool (T (L.length)).2)], [⟨zints (T (L.length)).1, 1, 0, some 0, false⟩, ⟨ints L, 1, 1, some 0, false⟩, ⟨ints (l), 1, 2, some q0, false⟩]⟩ : Out).h := by
  refine lp_st (L.length) (fun _ => ()) (fun i _ => [(1, .sl 0 0 N), (2, .sl 1 0 L.length), (3, .sl 2 0 l.length), (4, .int .i64 (n : Nat)), (5, .int .i64 (d : Nat)), (6, .ptr 3 0), (14, .bool (T (i)).2), (15, .int .i64 (i : Nat))]) (fun i _ => [⟨zints (T (i)).1, 1, 0, some 0, false⟩, ⟨ints L, 1, 1, some 0, false⟩, ⟨ints (l), 1, 2, some q0, false⟩, ⟨[.int .i64 (a : Nat), .int .i64 (b : Nat)], 1, 3, some 0, true⟩]) (fun _ => (⟨.exit 0, [(14, .bool (T (L.length)).2)], [⟨zints (T (L.length)).1, 1, 0, some 0, false⟩, ⟨ints L, 1, 1, some 0, false⟩, ⟨ints (l), 1, 2, some q0, false⟩]⟩ : Out)) ?_ ?_ (L.length) 0 (by omega)
  · intro i u_ hi hu_
    refine ⟨(), rfl, ?_⟩
    have hlt : decide ((i : Int) < (L.length : Nat)) = true := decide_eq_true (by omega)
    obtain ⟨c, hc, e1⟩ := ih i hi
    have e0 := evow_c q0 l l.length rfl hl1 (by omega)
    simp only [← ints_snoc] at e1
    cases c
    · simp only [Bool.or_false] at hc
      unfold m123_0
      repeat' (first
        | (refine g_op ?_; first
          | refine ep_mov rfl ?_ | refine ep_load1 rfl rfl rfl rfl ?_ | refine sp_loadN rfl rfl rfl rfl rfl ?_
          | refine ep_call0 rfl (by first | exact e0 | exact e1 _) rfl rfl ?_
          | refine sp_call rfl rfl rfl rfl (by first | exact e0 | exact e1 _) ⟨rfl, rfl, rfl, rfl⟩ rfl rfl rfl ?_
          | refine ep_callw0 rfl (by first | exact e0 | exact e1 _) rfl rfl ?_
          | refine sp_callw rfl rfl rfl rfl (by first | exact e0 | exact e1 _) ⟨rfl, rfl, rfl, rfl⟩ rfl rfl rfl (by first | exact WrP_refl _ _ | (repeat' (first | exact rfl | exact True.intro | refine And.intro ?_ ?_))) ?_
          | refine ep_bin rfl rfl (by first | exact b_add (by omega) (by omega) | exact b_lss) ?_ | refine ep_lenS rfl ?_ | refine ep_lenN rfl ?_ | refine ep_lenE rfl ?_ | refine sp_bslice rfl rfl rfl rfl rfl ?_
          | refine sp_push0 rfl (by first | exact .inl rfl | exact .inr rfl) rfl rfl rfl rfl rfl (by decide) rfl rfl rfl ?_ | refine sp_push rfl rfl rfl rfl rfl rfl rfl (by first | exact ints_len _ | exact prs_len _ _ | exact zints_len _) (by omega) (Nat.zero_le _) rfl rfl rfl rfl rfl ?_
          | refine sp_idx rfl rfl rfl (by omega) rfl ?_ | refine ep_loadS rfl rfl rfl (by first | exact ints_get (by omega) | exact zints_get (by omega) | exact fget (by omega) | assumption) ?_ | refine ep_loadSN rfl rfl rfl (by first | exact prs_get (by omega) | exact fns_get (by omega)) ?_)
        | (refine g_ops ?_; first | refine eo_none ?_ | refine eo_nil ?_)
        | (refine g_lops ?_; first | refine el_none rfl ?_ | refine el_nil ?_)
        | refine el_same rfl ?_ | refine el_one rfl rfl rfl rfl rfl ?_ | refine el_write rfl rfl rfl ?_
        | (refine g_code ?_; first | refine ec_seq ?_ | refine ec_region ?_ | refine ec_drawL (X := [3]) rfl ?_ | refine ec_block ?_ | refine ec_skip ?_ | refine ec_exit ?_ | refine ec_condT rfl ?_ | refine ec_condF rfl ?_ | refine ec_condTH rfl (by assumption) ?_ | refine ec_condFH rfl (by assumption) ?_)
        | refine ek_seqN ?_ | refine ek_seqX ?_ | refine ek_blkN ?_ | refine ek_blkR ?_ | refine ek_blkX ?_ | refine ek_blkY rfl ?_)
      exact rnd_on (by rfl) (scmp2 (by rfl) (by rfl) (by exact ⟨rfl, rfl, rfl⟩) (by rfl) (by rw [hc]; rfl) (by rfl) (by rfl))
    · simp only [Bool.or_true] at hc
      unfold m123_0
      repeat' (first
        | (refine g_op ?_; first
          | refine ep_mov rfl ?_ | refine ep_load1 rfl rfl rfl rfl ?_ | refine sp_loadN rfl rfl rfl rfl rfl ?_
          | refine ep_call0 rfl (by first | exact e0 | exact e1 _) rfl rfl ?_
          | refine sp_call rfl rfl rfl rfl (by first | exact e0 | exact e1 _) ⟨rfl, rfl, rfl, rfl⟩ rfl rfl rfl ?_
          | refine ep_callw0 rfl (by first | exact e0 | exact e1 _) rfl rfl ?_
          | refine sp_callw rfl rfl rfl rfl (by first | exact e0 | exact e1 _) ⟨rfl, rfl, rfl, rfl⟩ rfl rfl rfl (by first | exact WrP_refl _ _ | (repeat' (first | exact rfl | exact True.intro | refine And.intro ?_ ?_))) ?_
          | refine ep_bin rfl rfl (by first | exact b_add (by omega) (by omega) | exact b_lss) ?_ | refine ep_lenS rfl ?_ | refine ep_lenN rfl ?_ | refine ep_lenE rfl ?_ | refine sp_bslice rfl rfl rfl rfl rfl ?_
          | refine sp_push0 rfl (by first | exact .inl rfl | exact .inr rfl) rfl rfl rfl rfl rfl (by decide) rfl rfl rfl ?_ | refine sp_push rfl rfl rfl rfl rfl rfl rfl (by first | exact ints_len _ | exact prs_len _ _ | exact zints_len _) (by omega) (Nat.zero_le _) rfl rfl rfl rfl rfl ?_
          | refine sp_idx rfl rfl rfl (by omega) rfl ?_ | refine ep_loadS rfl rfl rfl (by first | exact ints_get (by omega) | exact zints_get (by omega) | exact fget (by omega) | assumption) ?_ | refine ep_loadSN rfl rfl rfl (by first | exact prs_get (by omega) | exact fns_get (by omega)) ?_)
        | (refine g_ops ?_; first | refine eo_none ?_ | refine eo_nil ?_)
        | (refine g_lops ?_; first | refine el_none rfl ?_ | refine el_nil ?_)
        | refine el_same rfl ?_ | refine el_one rfl rfl rfl rfl rfl ?_ | refine el_write rfl rfl rfl ?_
        | (refine g_code ?_; first | refine ec_seq ?_ | refine ec_region ?_ | refine ec_drawL (X := [3]) rfl ?_ | refine ec_block ?_ | refine ec_skip ?_ | refine ec_exit ?_ | refine ec_condT rfl ?_ | refine ec_condF rfl ?_ | refine ec_condTH rfl (by assumption) ?_ | refine ec_condFH rfl (by assumption) ?_)
        | refine ek_seqN ?_ | refine ek_seqX ?_ | refine ek_blkN ?_ | refine ek_blkR ?_ | refine ek_blkX ?_ | refine ek_blkY rfl ?_)
      exact rnd_on (by rfl) (scmp2 (by rfl) (by rfl) (by exact ⟨rfl, rfl, rfl⟩) (by rfl) (by rw [hc]; rfl) (by rfl) (by rfl))
  · intro u_ hu_
    have hlt : decide (((L.length : Nat) : Int) < (L.length : Nat)) = false := decide_eq_false (by omega)
    unfold m123_0
    repeat' (first
      | (refine g_op ?_; first
        | refine ep_mov rfl ?_ | refine ep_load1 rfl rfl rfl rfl ?_ | refine sp_loadN rfl rfl rfl rfl rfl ?_
        | refine ep_bin rfl rfl (by first | exact b_add (by omega) (by omega) | exact b_lss) ?_ | refine ep_lenS rfl ?_ | refine ep_lenN rfl ?_ | refine ep_lenE rfl ?_ | refine sp_bslice rfl rfl rfl rfl rfl ?_
        | refine sp_push0 rfl (by first | exact .inl rfl | exact .inr rfl) rfl rfl rfl rfl rfl (by decide) rfl rfl rfl ?_ | refine sp_push rfl rfl rfl rfl rfl rfl rfl (by first | exact ints_len _ | exact prs_len _ _ | exact zints_len _) (by omega) (Nat.zero_le _) rfl rfl rfl rfl rfl ?_
        | refine sp_idx rfl rfl rfl (by omega) rfl ?_ | refine ep_loadS rfl rfl rfl (by first | exact ints_get (by omega) | exact zints_get (by omega) | exact fget (by omega) | assumption) ?_ | refine ep_loadSN rfl rfl rfl (by first | exact prs_get (by omega) | exact fns_get (by omega)) ?_)
      | (refine g_ops ?_; first | refine eo_none ?_ | refine eo_nil ?_)
      | (refine g_lops ?_; first | refine el_none rfl ?_ | refine el_nil ?_)
      | refine el_same rfl ?_ | refine el_one rfl rfl rfl rfl rfl ?_ | refine el_write rfl rfl rfl ?_
      | (refine g_code ?_; first | refine ec_seq ?_ | refine ec_region ?_ | refine ec_drawL (X := []) rfl ?_ | refine ec_block ?_ | refine ec_skip ?_ | refine ec_exit ?_ | refine ec_condT rfl ?_ | refine ec_condF rfl ?_ | refine ec_condTH rfl (by assumption) ?_ | refine ec_condFH rfl (by assumption) ?_)
      | refine ek_seqN ?_ | refine ek_seqX ?_ | refine ek_blkN ?_ | refine ek_blkR ?_ | refine ek_blkX ?_ | refine ek_blkY rfl ?_)
    exact rnd_out (by rfl) (by simp) (scmp2 (by rfl) (by rfl) (by exact ⟨rfl, rfl, rfl⟩) (by rfl) (by first | rfl | (simp; done) | (simp [ints, prs]; done)) (by rfl) (by first | rfl | (simp; done) | (simp [ints, prs]; done)))

theorem evr_c (n N d b a : Nat) (L : List Nat) (hNn : N = R2 (R2 n)) (hn : n ≤ 3) (hd : d < 65536) (hb : b < 65536) (ha : a ≤ 4) (hll : L.length ≤ 65536) (hLN : ∀ j, j < L.length → L.getD j 0 < N) : ∀ (m : Nat) (l : List Nat) (q0 : Nat) (D : List Int), l.length + m = a → D.length = N → 1 ≤ l.length → (∀ j, j < l.length → l.getD j 0 < N) →
    Ev cx 123 [.agg [.int .i64 (a : Nat), .int .i64 (b : Nat)], .sl 0 0 N, .sl 1 0 L.length, .sl 2 0 l.length, .int .i64 (n : Nat), .int .i64 (d : Nat)] [⟨zints D, 1, 0, some 0, false⟩, ⟨ints L, 1, 1, some 0, false⟩, ⟨ints (l), 1, 2, some q0, false⟩] (.bool (walkT L (leafS (d : Int) n b) m l (D, false)).2) [⟨zints (walkT L (leafS (d : Int) n b) m l (D, false)).1, 1, 0, some 0, false⟩, ⟨ints L, 1, 1, some 0, false⟩, ⟨ints (l), 1, 2, some q0, false⟩]
  | 0, l, q0, D, hm, hN, hl1, hl => by
    obtain rfl : l.length = a := by omega
    exact evrb_c n N d b q0 D L l ha hl hN hNn hn hd hb
  | m + 1, l, q0, D, hm, hN, hl1, hl => by
    have hq : (((l.length : Nat) : Int) == ((a : Nat) : Int)) = false := by rw [ieq]; simp; omega
    have lp := lprd_c n N d b a q0 L l (fun i => foldN (fun j s => walkT L (leafS (d : Int) n b) m (l ++ [L.getD j 0]) s) i (D, false)) hll (by omega) hl1 (fun i hi => ⟨(walkT L (leafS (d : Int) n b) m (l ++ [L.getD i 0]) (((fun i => foldN (fun j s => walkT L (leafS (d : Int) n b) m (l ++ [L.getD j 0]) s) i (D, false)) i).1, false)).2, by
        show (walkT L (leafS (d : Int) n b) m (l ++ [L.getD i 0]) ((fun i => foldN (fun j s => walkT L (leafS (d : Int) n b) m (l ++ [L.getD j 0]) s) i (D, false)) i)).2 = _
        rw [show (fun i => foldN (fun j s => walkT L (leafS (d : Int) n b) m (l ++ [L.getD j 0]) s) i (D, false)) i = (((fun i => foldN (fun j s => walkT L (leafS (d : Int) n b) m (l ++ [L.getD j 0]) s) i (D, false)) i).1, ((fun i => foldN (fun j s => walkT L (leafS (d : Int) n b) m (l ++ [L.getD j 0]) s) i (D, false)) i).2) from rfl, walk_or], fun q => by
      have h0 := evr_c n N d b a L hNn hn hd hb ha hll hLN m (l ++ [L.getD i 0]) q ((fun i => foldN (fun j s => walkT L (leafS (d : Int) n b) m (l ++ [L.getD j 0]) s) i (D, false)) i).1 (by simp; omega) (by rw [foldS_len]; exact hN) (by simp) (fun j hj => by
        by_cases hlt : j < l.length
        · rw [List.getD_eq_getElem?_getD, List.getElem?_append_left hlt, ← List.getD_eq_getElem?_getD]; exact hl j hlt
        · rw [List.getD_eq_getElem?_getD, List.getElem?_append_right (by omega)]
          rw [List.length_append, List.length_singleton] at hj
          rw [show j - l.length = 0 by omega]; exact hLN i hi)
      rw [List.length_append, List.length_singleton] at h0
      have hE : ((fun i => foldN (fun j s => walkT L (leafS (d : Int) n b) m (l ++ [L.getD j 0]) s) i (D, false)) (i + 1)).1 = (walkT L (leafS (d : Int) n b) m (l ++ [L.getD i 0]) (((fun i => foldN (fun j s => walkT L (leafS (d : Int) n b) m (l ++ [L.getD j 0]) s) i (D, false)) i).1, false)).1 := by
        show (walkT L (leafS (d : Int) n b) m (l ++ [L.getD i 0]) ((fun i => foldN (fun j s => walkT L (leafS (d : Int) n b) m (l ++ [L.getD j 0]) s) i (D, false)) i)).1 = _
        rw [walk_or m (l ++ [L.getD i 0]) ((fun i => foldN (fun j s => walkT L (leafS (d : Int) n b) m (l ++ [L.getD j 0]) s) i (D, false)) i).1 ((fun i => foldN (fun j s => walkT L (leafS (d : Int) n b) m (l ++ [L.getD j 0]) s) i (D, false)) i).2]
      rw [← hE] at h0
      exact h0⟩)
    refine has123.eev rfl rfl ?_
    unfold m123
    repeat' (first
      | refine sc_loop lp rfl rfl ⟨rfl, rfl, rfl⟩ rfl rfl rfl ?_
      | (refine g_op ?_; first
        | refine ep_mov rfl ?_ | refine ep_load1 rfl rfl rfl rfl ?_ | refine ep_fieldAddr rfl ?_ | refine sp_loadN rfl rfl rfl rfl rfl ?_
        | refine ep_bin rfl rfl (by first | exact b_geq | exact b_eql) ?_ | refine sp_store rfl rfl rfl rfl rfl rfl rfl rfl rfl rfl ?_ | refine ep_lenS rfl ?_ | refine ep_lenN rfl ?_ | refine ep_lenE rfl ?_
        | refine sp_box rfl rfl rfl rfl rfl ?_ | refine sp_idx rfl rfl rfl (by omega) rfl ?_ | refine ep_loadS rfl rfl rfl (by first | exact ints_get (by omega) | exact zints_get (by omega) | exact fget (by omega) | assumption) ?_
        | refine ep_loadSN rfl rfl rfl (by first | exact prs_get (by omega) | exact fns_get (by omega)) ?_)
      | (refine g_ops ?_; first | refine eo_none ?_ | refine eo_nil ?_)
      | (refine g_code ?_; first | refine ec_seq ?_ | refine ec_region ?_ | refine ec_block ?_ | refine ec_skip ?_ | refine ec_ret ?_ | refine ec_condT rfl ?_ | refine ec_condF rfl ?_ | refine ec_condTH rfl (by assumption) ?_ | refine ec_condFH rfl (by assumption) ?_)
      | refine ek_seqN ?_ | refine ek_seqX ?_ | refine ek_seqR ?_ | refine ek_blkN ?_ | refine ek_blkR ?_ | refine ek_blkX ?_ | refine ek_blkY rfl ?_)
    refine sfin (.inr rfl) (by rfl) (by rfl) (by exact ⟨rfl, rfl, rfl⟩) (by rfl) (by rfl) (by rfl) (by first | rfl | (simp; done) | (simp [ints, prs]; done))
theorem evr_e (n N d b a : Nat) (L : List Nat) (hNn : N = R2 (R2 n)) (hn : n ≤ 3) (hd : d < 65536) (hb : b < 65536) (ha : a ≤ 4) (hll : L.length ≤ 65536) (hLN : ∀ j, j < L.length → L.getD j 0 < N) (D : List Int) (hN : D.length = N) :
    Ev cx 123 [.agg [.int .i64 (a : Nat), .int .i64 (b : Nat)], .sl 0 0 N, .sl 1 0 L.length, .emp, .int .i64 (n : Nat), .int .i64 (d : Nat)] [⟨zints D, 1, 0, some 0, false⟩, ⟨ints L, 1, 1, some 0, false⟩] (.bool (walkT L (leafS (d : Int) n b) a [] (D, false)).2) [⟨zints (walkT L (leafS (d : Int) n b) a [] (D, false)).1, 1, 0, some 0, false⟩, ⟨ints L, 1, 1, some 0, false⟩] := by
  cases a with
  | zero => exact evrb_e n N d b D L hN hNn hn hd hb
  | succ m =>
    have hq : ((0 : Int) == ((m + 1 : Nat) : Int)) = false := by simp; omega
    have lp := lprd_e n N d b (m + 1) L (fun i => foldN (fun j s => walkT L (leafS (d : Int) n b) m ([] ++ [L.getD j 0]) s) i (D, false)) hll (fun i hi => ⟨(walkT L (leafS (d : Int) n b) m [L.getD i 0] (((fun i => foldN (fun j s => walkT L (leafS (d : Int) n b) m ([] ++ [L.getD j 0]) s) i (D, false)) i).1, false)).2, by
        show (walkT L (leafS (d : Int) n b) m [L.getD i 0] ((fun i => foldN (fun j s => walkT L (leafS (d : Int) n b) m ([] ++ [L.getD j 0]) s) i (D, false)) i)).2 = _
        rw [show (fun i => foldN (fun j s => walkT L (leafS (d : Int) n b) m ([] ++ [L.getD j 0]) s) i (D, false)) i = (((fun i => foldN (fun j s => walkT L (leafS (d : Int) n b) m ([] ++ [L.getD j 0]) s) i (D, false)) i).1, ((fun i => foldN (fun j s => walkT L (leafS (d : Int) n b) m ([] ++ [L.getD j 0]) s) i (D, false)) i).2) from rfl, walk_or], fun q => by
      have h0 := evr_c n N d b (m + 1) L hNn hn hd hb ha hll hLN m [L.getD i 0] q ((fun i => foldN (fun j s => walkT L (leafS (d : Int) n b) m ([] ++ [L.getD j 0]) s) i (D, false)) i).1 (by simp; omega) (by rw [foldS_len]; exact hN) (by simp) (fun j hj => by
        obtain rfl : j = 0 := by simpa using hj
        exact hLN i hi)
      have hE : ((fun i => foldN (fun j s => walkT L (leafS (d : Int) n b) m ([] ++ [L.getD j 0]) s) i (D, false)) (i + 1)).1 = (walkT L (leafS (d : Int) n b) m [L.getD i 0] (((fun i => foldN (fun j s => walkT L (leafS (d : Int) n b) m ([] ++ [L.getD j 0]) s) i (D, false)) i).1, false)).1 := by
        show (walkT L (leafS (d : Int) n b) m [L.getD i 0] ((fun i => foldN (fun j s => walkT L (leafS (d : Int) n b) m ([] ++ [L.getD j 0]) s) i (D, false)) i)).1 = _
        rw [walk_or m [L.getD i 0] ((fun i => foldN (fun j s => walkT L (leafS (d : Int) n b) m ([] ++ [L.getD j 0]) s) i (D, false)) i).1 ((fun i => foldN (fun j s => walkT L (leafS (d : Int) n b) m ([] ++ [L.getD j 0]) s) i (D, false)) i).2]
      rw [← hE] at h0
      exact h0⟩)
    refine has123.eev rfl rfl ?_
    unfold m123
    repeat' (first
      | refine sc_loop lp rfl rfl ⟨rfl, rfl, rfl⟩ rfl rfl rfl ?_
      | (refine g_op ?_; first
        | refine ep_mov rfl ?_ | refine ep_load1 rfl rfl rfl rfl ?_ | refine ep_fieldAddr rfl ?_ | refine sp_loadN rfl rfl rfl rfl rfl ?_
        | refine ep_bin rfl rfl (by first | exact b_geq | exact b_eql) ?_ | refine sp_store rfl rfl rfl rfl rfl rfl rfl rfl rfl rfl ?_ | refine ep_lenS rfl ?_ | refine ep_lenN rfl ?_ | refine ep_lenE rfl ?_
        | refine sp_box rfl rfl rfl rfl rfl ?_ | refine sp_idx rfl rfl rfl (by omega) rfl ?_ | refine ep_loadS rfl rfl rfl (by first | exact ints_get (by omega) | exact zints_get (by omega) | exact fget (by omega) | assumption) ?_
        | refine ep_loadSN rfl rfl rfl (by first | exact prs_get (by omega) | exact fns_get (by omega)) ?_)
      | (refine g_ops ?_; first | refine eo_none ?_ | refine eo_nil ?_)
      | (refine g_code ?_; first | refine ec_seq ?_ | refine ec_region ?_ | refine ec_block ?_ | refine ec_skip ?_ | refine ec_ret ?_ | refine ec_condT rfl ?_ | refine ec_condF rfl ?_ | refine ec_condTH rfl (by assumption) ?_ | refine ec_condFH rfl (by assumption) ?_)
      | refine ek_seqN ?_ | refine ek_seqX ?_ | refine ek_seqR ?_ | refine ek_blkN ?_ | refine ek_blkR ?_ | refine ek_blkX ?_ | refine ek_blkY rfl ?_)
    refine sfin (.inr rfl) (by rfl) (by rfl) (by exact ⟨rfl, rfl, rfl⟩) (by rfl) (by rfl) (by rfl) (by first | rfl | (simp; done) | (simp [ints, prs]; done))

-- spec.l01Projection
def m122_0 : MC := (.seq (.seq (.region [⟨(.mov (.t 6)), (some 8), none⟩, ⟨(.mov (.t 0)), (some 9), none⟩, ⟨(.call 58 [(.t 9)]), (some 10), none⟩, ⟨(.bin .lss (.t 8) (.t 10)), (some 11), none⟩] false) (.cond (.t 11) .skip (.exit 0))) (.seq (.block 1 (.region [⟨(.mov (.t 5)), (some 14), none⟩, ⟨(.mov (.t 6)), (some 15), none⟩, ⟨(.mov (.t 1)), (some 16), none⟩, ⟨(.conv .u64 (.t 16)), (some 17), none⟩, ⟨(.bin .shr (.t 15) (.t 17)), (some 18), none⟩, ⟨(.bin .and (.t 18) (.k (.int .i64 1))), (some 19), none⟩, ⟨(.bslice 1 [(.int .i64 0)] 1 [(0, (1, (.t 19)))]), (some 20), none⟩, ⟨(.append 1 8 (.t 14) (.t 20)), (some 21), none⟩, ⟨(.mov (.t 21)), (some 5), none⟩] false)) (.region [⟨(.mov (.t 6)), (some 12), none⟩, ⟨(.bin .add (.t 12) (.k (.int .i64 1))), (some 13), none⟩, ⟨(.mov (.t 13)), (some 6), none⟩] false)))
def m122 : MC := (.seq (.region [⟨(.alloc [(.int .i64 0), (.int .i64 0)]), (some 4), none⟩] false) (.seq (.region [⟨.empt, (some 7), none⟩, ⟨(.mov (.t 7)), (some 5), none⟩] false) (.seq (.seq (.region [⟨(.mov (.k (.int .i64 0))), (some 6), none⟩] false) (.block 0 (.loop m122_0))) (.seq (.region [⟨(.mov (.t 0)), (some 22), none⟩, ⟨(.mov (.t 5)), (some 23), none⟩, ⟨(.call 62 [(.t 22), (.t 23)]), (some 24), none⟩, ⟨(.store 2 (.t 4) (.t 24)), none, none⟩] false) .ret))))
theorem has122 : Has cx 122 25 m122 [(.cell 4 (some 2))] :=
  ⟨⟨Try.f122, Try.f122.body.getD .skip, by kernel_rfl, by kernel_rfl, by kernel_rfl, by kernel_rfl, by kernel_rfl, by kernel_rfl⟩⟩
theorem lp122_0 (n i0 : Nat) (hn : n ≤ 4) (hi0 : i0 ≤ 4) (o : Out) (ho : (match selm (fun _ => true) (pjG i0) (R2 n) with | [] => (⟨.exit 0, [(0, .int .i64 (n : Nat)), (4, .ptr 0 0), (5, .emp)], [⟨[.int .i64 0, .int .i64 0], 1, 0, some 0, true⟩]⟩ : Out) | x :: xs => ⟨.exit 0, [(0, .int .i64 (n : Nat)), (4, .ptr 0 0), (5, .sl 1 0 (x :: xs).length)], [⟨[.int .i64 0, .int .i64 0], 1, 0, some 0, true⟩, ⟨ints (x :: xs), 1, 1, some 0, false⟩]⟩) = o) :
    LpS cx 25 0 m122_0 [(0, .int .i64 (n : Nat)), (1, .int .i64 (i0 : Nat)), (4, .ptr 0 0), (5, .emp), (6, .int .i64 (0 : Nat))] [⟨[.int .i64 0, .int .i64 0], 1, 0, some 0, true⟩] o.x o.e o.h := by
  obtain ⟨h1, h2, h3, h4⟩ := shN hn
  subst ho
  refine lp_st (R2 n) (selm (fun _ => true) (pjG i0)) (fun i s => match s with | [] => [(0, .int .i64 (n : Nat)), (1, .int .i64 (i0 : Nat)), (4, .ptr 0 0), (5, .emp), (6, .int .i64 (i : Nat))] | x :: xs => [(0, .int .i64 (n : Nat)), (1, .int .i64 (i0 : Nat)), (4, .ptr 0 0), (5, .sl 1 0 (x :: xs).length), (6, .int .i64 (i : Nat))]) (fun i s => match s with | [] => [⟨[.int .i64 0, .int .i64 0], 1, 0, some 0, true⟩] | x :: xs => [⟨[.int .i64 0, .int .i64 0], 1, 0, some 0, true⟩, ⟨ints (x :: xs), 1, 1, some 0, false⟩]) (fun s => match s with | [] => ⟨.exit 0, [(0, .int .i64 (n : Nat)), (4, .ptr 0 0), (5, .emp)], [⟨[.int .i64 0, .int .i64 0], 1, 0, some 0, true⟩]⟩ | x :: xs => ⟨.exit 0, [(0, .int .i64 (n : Nat)), (4, .ptr 0 0), (5, .sl 1 0 (x :: xs).length)], [⟨[.int .i64 0, .int .i64 0], 1, 0, some 0, true⟩, ⟨ints (x :: xs), 1, 1, some 0, false⟩]⟩) ?_ ?_ (R2 n) 0 (by omega)
  · intro i s hi hs
    have hlt : decide ((i : Int) < (R2 n : Nat)) = true := decide_eq_true (by omega)
    have hle : decide ((i : Int) ≤ (R2 n : Nat) - 1) = true := decide_eq_true (by omega)
    have hlen : s.length ≤ 65536 := by have := selm_len (fun _ => true) (pjG i0) i; rw [hs] at this; omega
    have hp : (fun _ => true) i = true := rfl
    cases s with
    | nil =>
      refine ⟨[(pjG i0) i], by rw [selm_t (p := fun _ => true) hp, hs]; try rfl, ?_⟩
      unfold m122_0
      repeat' (first
        | (refine g_op ?_; first
          | refine ep_mov rfl ?_
          | refine ep_call0 rfl (by first | exact ev58 n hn) rfl rfl ?_
          | refine sp_call rfl rfl rfl rfl (by first | exact ev58 n hn) ⟨rfl, rfl, rfl, rfl⟩ rfl rfl rfl ?_
          | refine ep_bin rfl rfl (by first | exact b_shr (x := i) (y := i0) (by omega) | exact b_bt (by omega) | exact b_add (by omega) (by omega) | exact b_and (by omega) (by omega) | exact b_shr (by omega) | exact b_lss) ?_
          | refine ep_conv rfl (by first | exact w_u64 (by omega) (by omega) | exact wrap_id (by omega) (by omega) | rfl) ?_ | refine sp_bslice rfl rfl rfl rfl rfl ?_ | refine sp_push0 rfl (by first | exact .inl rfl | exact .inr rfl) rfl rfl rfl rfl rfl (by decide) rfl rfl rfl ?_
          | refine sp_push rfl rfl rfl rfl rfl rfl rfl (by first | exact ints_len _ | exact prs_len _ _ | exact zints_len _) (by omega) (Nat.zero_le _) rfl rfl rfl rfl rfl ?_)
        | (refine g_ops ?_; first | refine eo_none ?_ | refine eo_nil ?_)
        | (refine g_code ?_; first | refine ec_seq ?_ | refine ec_region ?_ | refine ec_block ?_ | refine ec_skip ?_ | refine ec_exit ?_ | refine ec_condT rfl ?_ | refine ec_condF rfl ?_ | refine ec_condTH rfl (by assumption) ?_ | refine ec_condFH rfl (by assumption) ?_)
        | refine ek_seqN ?_ | refine ek_seqX ?_ | refine ek_blkN ?_ | refine ek_blkR ?_ | refine ek_blkX ?_ | refine ek_blkY rfl ?_)
      exact rnd_on (by rfl) (scmp2 (by rfl) (by rfl) (by exact ⟨rfl, rfl, rfl⟩) (by rfl) (by first | rfl | (simp; done) | (simp [ints, prs, pjG]; done)) (by rfl) (by first | rfl | (simp; done) | (simp [ints, prs, pjG]; done)))
    | cons x xs =>
      refine ⟨(x :: xs) ++ [(pjG i0) i], by rw [selm_t (p := fun _ => true) hp, hs]; try rfl, ?_⟩
      unfold m122_0
      repeat' (first
        | (refine g_op ?_; first
          | refine ep_mov rfl ?_
          | refine ep_call0 rfl (by first | exact ev58 n hn) rfl rfl ?_
          | refine sp_call rfl rfl rfl rfl (by first | exact ev58 n hn) ⟨rfl, rfl, rfl, rfl⟩ rfl rfl rfl ?_
          | refine ep_bin rfl rfl (by first | exact b_shr (x := i) (y := i0) (by omega) | exact b_bt (by omega) | exact b_add (by omega) (by omega) | exact b_and (by omega) (by omega) | exact b_shr (by omega) | exact b_lss) ?_
          | refine ep_conv rfl (by first | exact w_u64 (by omega) (by omega) | exact wrap_id (by omega) (by omega) | rfl) ?_ | refine sp_bslice rfl rfl rfl rfl rfl ?_ | refine sp_push0 rfl (by first | exact .inl rfl | exact .inr rfl) rfl rfl rfl rfl rfl (by decide) rfl rfl rfl ?_
          | refine sp_push rfl rfl rfl rfl rfl rfl rfl (by first | exact ints_len _ | exact prs_len _ _ | exact zints_len _) (by omega) (Nat.zero_le _) rfl rfl rfl rfl rfl ?_)
        | (refine g_ops ?_; first | refine eo_none ?_ | refine eo_nil ?_)
        | (refine g_code ?_; first | refine ec_seq ?_ | refine ec_region ?_ | refine ec_block ?_ | refine ec_skip ?_ | refine ec_exit ?_ | refine ec_condT rfl ?_ | refine ec_condF rfl ?_ | refine ec_condTH rfl (by assumption) ?_ | refine ec_condFH rfl (by assumption) ?_)
        | refine ek_seqN ?_ | refine ek_seqX ?_ | refine ek_blkN ?_ | refine ek_blkR ?_ | refine ek_blkX ?_ | refine ek_blkY rfl ?_)
      exact rnd_on (by rfl) (scmp2 (by rfl) (by rfl) (by exact ⟨rfl, rfl, rfl⟩) (by rfl) (by first | rfl | (simp; done) | (simp [ints, prs, pjG]; done)) (by rfl) (by first | rfl | (simp; done) | (simp [ints, prs, pjG]; done)))
  · intro s hs
    have hlt : decide (((R2 n : Nat) : Int) < (R2 n : Nat)) = false := decide_eq_false (by omega)
    have hle : decide (((R2 n : Nat) : Int) ≤ (R2 n : Nat) - 1) = false := decide_eq_false (by omega)
    cases s with
    | nil =>
      unfold m122_0
      repeat' (first
        | (refine g_op ?_; first
          | refine ep_mov rfl ?_
          | refine ep_call0 rfl (by first | exact ev58 n hn) rfl rfl ?_
          | refine sp_call rfl rfl rfl rfl (by first | exact ev58 n hn) ⟨rfl, rfl, rfl, rfl⟩ rfl rfl rfl ?_
          | refine ep_bin rfl rfl (by first | exact b_add (by omega) (by omega) | exact b_and (by omega) (by omega) | exact b_shr (by omega) | exact b_lss) ?_ | refine ep_conv rfl (by first | exact w_u64 (by omega) (by omega) | exact wrap_id (by omega) (by omega) | rfl) ?_
          | refine sp_bslice rfl rfl rfl rfl rfl ?_ | refine sp_push0 rfl (by first | exact .inl rfl | exact .inr rfl) rfl rfl rfl rfl rfl (by decide) rfl rfl rfl ?_ | refine sp_push rfl rfl rfl rfl rfl rfl rfl (by first | exact ints_len _ | exact prs_len _ _ | exact zints_len _) (by omega) (Nat.zero_le _) rfl rfl rfl rfl rfl ?_)
        | (refine g_ops ?_; first | refine eo_none ?_ | refine eo_nil ?_)
        | (refine g_code ?_; first | refine ec_seq ?_ | refine ec_region ?_ | refine ec_block ?_ | refine ec_skip ?_ | refine ec_exit ?_ | refine ec_condT rfl ?_ | refine ec_condF rfl ?_ | refine ec_condTH rfl (by assumption) ?_ | refine ec_condFH rfl (by assumption) ?_)
        | refine ek_seqN ?_ | refine ek_seqX ?_ | refine ek_blkN ?_ | refine ek_blkR ?_ | refine ek_blkX ?_ | refine ek_blkY rfl ?_)
      exact rnd_out (by rfl) (by simp) (scmp2 (by rfl) (by rfl) (by exact ⟨rfl, rfl, rfl⟩) (by rfl) (by first | rfl | (simp; done) | (simp [ints, prs]; done)) (by rfl) (by first | rfl | (simp; done) | (simp [ints, prs]; done)))
    | cons x xs =>
      unfold m122_0
      repeat' (first
        | (refine g_op ?_; first
          | refine ep_mov rfl ?_
          | refine ep_call0 rfl (by first | exact ev58 n hn) rfl rfl ?_
          | refine sp_call rfl rfl rfl rfl (by first | exact ev58 n hn) ⟨rfl, rfl, rfl, rfl⟩ rfl rfl rfl ?_
          | refine ep_bin rfl rfl (by first | exact b_add (by omega) (by omega) | exact b_and (by omega) (by omega) | exact b_shr (by omega) | exact b_lss) ?_ | refine ep_conv rfl (by first | exact w_u64 (by omega) (by omega) | exact wrap_id (by omega) (by omega) | rfl) ?_
          | refine sp_bslice rfl rfl rfl rfl rfl ?_ | refine sp_push0 rfl (by first | exact .inl rfl | exact .inr rfl) rfl rfl rfl rfl rfl (by decide) rfl rfl rfl ?_ | refine sp_push rfl rfl rfl rfl rfl rfl rfl (by first | exact ints_len _ | exact prs_len _ _ | exact zints_len _) (by omega) (Nat.zero_le _) rfl rfl rfl rfl rfl ?_)
        | (refine g_ops ?_; first | refine eo_none ?_ | refine eo_nil ?_)
        | (refine g_code ?_; first | refine ec_seq ?_ | refine ec_region ?_ | refine ec_block ?_ | refine ec_skip ?_ | refine ec_exit ?_ | refine ec_condT rfl ?_ | refine ec_condF rfl ?_ | refine ec_condTH rfl (by assumption) ?_ | refine ec_condFH rfl (by assumption) ?_)
        | refine ek_seqN ?_ | refine ek_seqX ?_ | refine ek_blkN ?_ | refine ek_blkR ?_ | refine ek_blkX ?_ | refine ek_blkY rfl ?_)
      exact rnd_out (by rfl) (by simp) (scmp2 (by rfl) (by rfl) (by exact ⟨rfl, rfl, rfl⟩) (by rfl) (by first | rfl | (simp; done) | (simp [ints, prs]; done)) (by rfl) (by first | rfl | (simp; done) | (simp [ints, prs]; done)))

theorem evpjS (n i : Nat) (hn : n ≤ 4) (hi : i ≤ 4) : Ev cx 122 [.int .i64 n, .int .i64 i] [] (.agg [.int .i64 n, .int .i64 (projB n i : Nat)]) [] := by
  obtain ⟨h1, h2, h3, h4⟩ := shN hn
  have sa := selm_all (g := pjG i) (R2 n)
  cases hs : selm (fun _ => true) (pjG i) (R2 n) with
  | nil => rw [hs] at sa; simp at sa; omega
  | cons x xs =>
    rw [hs] at sa
    have lp := lp122_0 n i hn hi _ (by rw [hs])
    have e := ev62 n 0 (x :: xs) hn (by omega) (fun r hr => by rw [sa.2 r hr]; exact bt_le _ _)
    rw [show pk (fun r => (x :: xs).getD r 0) (R2 n) = projB n i from pk_congr fun r hr => sa.2 r hr] at e
    refine has122.eev rfl rfl ?_
    unfold m122
    repeat' (first
      | refine sc_loop lp rfl rfl ⟨rfl, rfl, rfl⟩ rfl rfl rfl ?_
      | (refine g_op ?_; first
        | refine ep_mov rfl ?_
        | refine ep_call0 rfl (by first | exact e) rfl rfl ?_
        | refine sp_call rfl rfl rfl rfl (by first | exact e) ⟨rfl, rfl, rfl, rfl⟩ rfl rfl rfl ?_
        | refine sp_store rfl rfl rfl rfl rfl rfl rfl rfl rfl rfl ?_ | refine sp_alloc rfl rfl ?_ | refine ep_empt ?_)
      | (refine g_ops ?_; first | refine eo_none ?_ | refine eo_nil ?_)
      | (refine g_code ?_; first | refine ec_seq ?_ | refine ec_region ?_ | refine ec_block ?_ | refine ec_ret ?_)
      | refine ek_seqN ?_ | refine ek_seqX ?_ | refine ek_seqR ?_ | refine ek_blkN ?_ | refine ek_blkR ?_ | refine ek_blkX ?_ | refine ek_blkY rfl ?_)
    refine sfin (.inr rfl) (by rfl) (by rfl) (by exact ⟨rfl, rfl, rfl⟩) (by rfl) (by rfl) (by rfl) (by first | rfl | (simp; done) | (simp [ints, prs]; done))
def mneg (l : List Nat) : List Int := l.map fun _ => -1
theorem mneg_len (l : List Nat) : (zints (mneg l)).length = l.length * 1 := by simp [zints, mneg]
theorem mneg_rep : ∀ (l : List Nat), mneg l = List.replicate l.length (-1)
  | [] => rfl
  | x :: xs => by
    have := mneg_rep xs
    simp only [mneg, List.map_cons, List.length_cons, List.replicate_succ] at this ⊢
    rw [this]
def rndS (fs : List (Int × Int)) (n : Nat) (d : Int) (L : List Nat) (D : List Int) (i : Nat) : GS := foldN (fun k s => walkT L (leafS d n (fs.getD k (0, 0)).2.toNat) (fs.getD k (0, 0)).1.toNat [] s) i (D, false)
theorem rndS_len {fs : List (Int × Int)} {n : Nat} {d : Int} {L : List Nat} {D : List Int} (i : Nat) : (rndS fs n d L D i).1.length = D.length :=
  foldN_inv (I := fun u : GS => u.1.length = D.length) _ _ (fun j u _ hu => by rw [walkS_len, hu]) rfl
-- spec.l04Depths
def m83_0 : MC := (.seq (.seq (.region [⟨(.mov (.t 6)), (some 14), none⟩, ⟨(.mov (.t 1)), (some 15), none⟩, ⟨(.call 98 [(.t 15)]), (some 16), none⟩, ⟨(.bin .leq (.t 14) (.t 16)), (some 17), none⟩] false) (.cond (.t 17) .skip (.exit 0))) (.seq (.block 1 (.region [⟨(.mov (.t 5)), (some 20), none⟩, ⟨(.bslice 1 [(.int .i64 0)] 1 [(0, (1, (.k (.int .i64 (-1)))))]), (some 21), none⟩, ⟨(.append 1 8 (.t 20) (.t 21)), (some 22), none⟩, ⟨(.mov (.t 22)), (some 5), none⟩] false)) (.region [⟨(.mov (.t 6)), (some 18), none⟩, ⟨(.bin .add (.t 18) (.k (.int .i64 1))), (some 19), none⟩, ⟨(.mov (.t 19)), (some 6), none⟩] false)))
def m83_1 : MC := (.seq (.seq (.region [⟨(.mov (.t 7)), (some 23), none⟩, ⟨(.mov (.t 1)), (some 24), none⟩, ⟨(.bin .lss (.t 23) (.t 24)), (some 25), none⟩] false) (.cond (.t 25) .skip (.exit 2))) (.seq (.block 3 (.region [⟨(.mov (.t 5)), (some 28), none⟩, ⟨(.mov (.t 1)), (some 29), none⟩, ⟨(.mov (.t 7)), (some 30), none⟩, ⟨(.call 122 [(.t 29), (.t 30)]), (some 31), none⟩, ⟨(.field 1 none (.t 31)), (some 32), none⟩, ⟨(.indexAddr 1 (.t 28) (.t 32)), (some 33), none⟩, ⟨(.store 1 (.t 33) (.k (.int .i64 0))), none, none⟩] false)) (.region [⟨(.mov (.t 7)), (some 26), none⟩, ⟨(.bin .add (.t 26) (.k (.int .i64 1))), (some 27), none⟩, ⟨(.mov (.t 27)), (some 7), none⟩] false)))
def m83_3 : MC := (.seq (.seq (.region [⟨(.mov (.t 11)), (some 38), none⟩, ⟨(.mov (.t 1)), (some 39), none⟩, ⟨(.call 98 [(.t 39)]), (some 40), none⟩, ⟨(.bin .leq (.t 38) (.t 40)), (some 41), none⟩] false) (.cond (.t 41) .skip (.exit 6))) (.seq (.block 7 (.seq (.region [⟨(.mov (.t 5)), (some 44), none⟩, ⟨(.mov (.t 11)), (some 45), none⟩, ⟨(.indexAddr 1 (.t 44) (.t 45)), (some 46), none⟩, ⟨(.load none (.t 46)), (some 47), none⟩, ⟨(.bin .geq (.t 47) (.k (.int .i64 0))), (some 48), none⟩] false) (.cond (.t 48) (.region [⟨(.mov (.t 10)), (some 49), none⟩, ⟨(.mov (.t 11)), (some 50), none⟩, ⟨(.bslice 1 [(.int .i64 0)] 1 [(0, (1, (.t 50)))]), (some 51), none⟩, ⟨(.append 1 8 (.t 49) (.t 51)), (some 52), none⟩, ⟨(.mov (.t 52)), (some 10), none⟩] false) .skip))) (.region [⟨(.mov (.t 11)), (some 42), none⟩, ⟨(.bin .add (.t 42) (.k (.int .i64 1))), (some 43), none⟩, ⟨(.mov (.t 43)), (some 11), none⟩] false)))
def m83_4 : MC := (.seq (.seq (.region [⟨(.mov (.t 12)), (some 53), none⟩, ⟨(.mov (.t 0)), (some 54), none⟩, ⟨(.len (.t 54)), (some 55), none⟩, ⟨(.bin .lss (.t 53) (.t 55)), (some 56), none⟩] false) (.cond (.t 56) .skip (.exit 8))) (.seq (.block 9 (.seq (.region [⟨(.mov (.t 0)), (some 59), none⟩, ⟨(.mov (.t 12)), (some 60), none⟩, ⟨(.indexAddr 2 (.t 59) (.t 60)), (some 61), none⟩, ⟨(.load (some 2) (.t 61)), (some 62), none⟩, ⟨(.mov (.t 5)), (some 63), none⟩, ⟨(.mov (.t 10)), (some 64), none⟩, ⟨.empt, (some 65), none⟩, ⟨(.mov (.t 1)), (some 66), none⟩, ⟨(.mov (.t 9)), (some 67), none⟩, ⟨(.call 123 [(.t 62), (.t 63), (.t 64), (.t 65), (.t 66), (.t 67)]), (some 68), none⟩] false) (.cond (.t 68) (.region [⟨(.mov (.k (.bool true))), (some 8), none⟩] false) .skip))) (.region [⟨(.mov (.t 12)), (some 57), none⟩, ⟨(.bin .add (.t 57) (.k (.int .i64 1))), (some 58), none⟩, ⟨(.mov (.t 58)), (some 12), none⟩] false)))
def m83_2 : MC := (.seq (.seq (.region [⟨(.mov (.t 8)), (some 34), none⟩] false) (.cond (.t 34) .skip (.exit 4))) (.seq (.block 5 (.seq (.region [⟨(.mov (.k (.bool false))), (some 8), none⟩] false) (.seq (.region [⟨.empt, (some 37), none⟩, ⟨(.mov (.t 37)), (some 10), none⟩] false) (.seq (.seq (.region [⟨(.mov (.k (.int .i64 0))), (some 11), none⟩] false) (.block 6 (.loop m83_3))) (.seq (.region [⟨(.mov (.k (.int .i64 0))), (some 12), none⟩] false) (.block 8 (.loop m83_4))))))) (.region [⟨(.mov (.t 9)), (some 35), none⟩, ⟨(.bin .add (.t 35) (.k (.int .i64 1))), (some 36), none⟩, ⟨(.mov (.t 36)), (some 9), none⟩] false)))
def m83 : MC := (.seq (.region [⟨(.mov (.k .nils)), (some 4), none⟩] false) (.seq (.region [⟨.empt, (some 13), none⟩, ⟨(.mov (.t 13)), (some 5), none⟩] false) (.seq (.seq (.region [⟨(.mov (.k (.int .i64 0))), (some 6), none⟩] false) (.block 0 (.loop m83_0))) (.seq (.seq (.region [⟨(.mov (.k (.int .i64 0))), (some 7), none⟩] false) (.block 2 (.loop m83_1))) (.seq (.region [⟨(.mov (.k (.bool true))), (some 8), none⟩] false) (.seq (.seq (.region [⟨(.mov (.k (.int .i64 1))), (some 9), none⟩] false) (.block 4 (.loop m83_2))) (.seq (.region [⟨(.mov (.t 5)), (some 69), none⟩, ⟨(.mov (.t 69)), (some 4), none⟩] false) .ret)))))))
theorem has83 : Has cx 83 70 m83 [(.tmp 4)] :=
  ⟨⟨Try.f83, Try.f83.body.getD .skip, by kernel_rfl, by kernel_rfl, by kernel_rfl, by kernel_rfl, by kernel_rfl, by kernel_rfl⟩⟩
theorem lp83_0 (q n : Nat) (fs : List (Int × Int)) (hn : n ≤ 3) (o : Out) (ho : (match selm (fun _ => true) (idn) (R2 (R2 n)) with | [] => (⟨.exit 0, [(0, .sl 0 0 fs.length), (1, .int .i64 (n : Nat)), (5, .emp)], [⟨fns fs, 2, 0, some q, false⟩]⟩ : Out) | x :: xs => ⟨.exit 0, [(0, .sl 0 0 fs.length), (1, .int .i64 (n : Nat)), (5, .sl 1 0 (x :: xs).length)], [⟨fns fs, 2, 0, some q, false⟩, ⟨zints <| mneg (x :: xs), 1, 1, some 0, false⟩]⟩) = o) :
    LpS cx 70 1 m83_0 [(0, .sl 0 0 fs.length), (1, .int .i64 (n : Nat)), (5, .emp), (6, .int .i64 (0 : Nat))] [⟨fns fs, 2, 0, some q, false⟩] o.x o.e o.h := by
  obtain ⟨h1, h2, h3, h4⟩ := shN (n := n) (by omega)
  subst ho
  refine lp_st (R2 (R2 n)) (selm (fun _ => true) (idn)) (fun i s => match s with | [] => [(0, .sl 0 0 fs.length), (1, .int .i64 (n : Nat)), (5, .emp), (6, .int .i64 (i : Nat))] | x :: xs => [(0, .sl 0 0 fs.length), (1, .int .i64 (n : Nat)), (5, .sl 1 0 (x :: xs).length), (6, .int .i64 (i : Nat))]) (fun i s => match s with | [] => [⟨fns fs, 2, 0, some q, false⟩] | x :: xs => [⟨fns fs, 2, 0, some q, false⟩, ⟨zints <| mneg (x :: xs), 1, 1, some 0, false⟩]) (fun s => match s with | [] => ⟨.exit 0, [(0, .sl 0 0 fs.length), (1, .int .i64 (n : Nat)), (5, .emp)], [⟨fns fs, 2, 0, some q, false⟩]⟩ | x :: xs => ⟨.exit 0, [(0, .sl 0 0 fs.length), (1, .int .i64 (n : Nat)), (5, .sl 1 0 (x :: xs).length)], [⟨fns fs, 2, 0, some q, false⟩, ⟨zints <| mneg (x :: xs), 1, 1, some 0, false⟩]⟩) ?_ ?_ (R2 (R2 n)) 0 (by omega)
  · intro i s hi hs
    have hlt : decide ((i : Int) < (R2 (R2 n) : Nat)) = true := decide_eq_true (by omega)
    have hle : decide ((i : Int) ≤ (R2 (R2 n) : Nat) - 1) = true := decide_eq_true (by omega)
    have hlen : s.length ≤ 65536 := by have := selm_len (fun _ => true) (idn) i; rw [hs] at this; omega
    have hp : (fun _ => true) i = true := rfl
    cases s with
    | nil =>
      refine ⟨[(idn) i], by rw [selm_t (p := fun _ => true) hp, hs]; try rfl, ?_⟩
      unfold m83_0
      repeat' (first
        | refine sp_push rfl rfl rfl rfl rfl rfl rfl (mneg_len _) (by omega) (Nat.zero_le _) rfl rfl rfl rfl rfl ?_
        | (refine g_op ?_; first
          | refine ep_mov rfl ?_
          | refine ep_call0 rfl (by first | exact ev98 n (by omega)) rfl rfl ?_
          | refine sp_call rfl rfl rfl rfl (by first | exact ev98 n (by omega)) ⟨rfl, rfl, rfl, rfl⟩ rfl rfl rfl ?_
          | refine ep_bin rfl rfl (by first | exact b_add (by omega) (by omega) | exact b_leq) ?_ | refine sp_bslice rfl rfl rfl rfl rfl ?_ | refine sp_push0 rfl (by first | exact .inl rfl | exact .inr rfl) rfl rfl rfl rfl rfl (by decide) rfl rfl rfl ?_
          | refine sp_push rfl rfl rfl rfl rfl rfl rfl (by first | exact ints_len _ | exact prs_len _ _ | exact zints_len _) (by omega) (Nat.zero_le _) rfl rfl rfl rfl rfl ?_)
        | (refine g_ops ?_; first | refine eo_none ?_ | refine eo_nil ?_)
        | (refine g_code ?_; first | refine ec_seq ?_ | refine ec_region ?_ | refine ec_block ?_ | refine ec_skip ?_ | refine ec_exit ?_ | refine ec_condT rfl ?_ | refine ec_condF rfl ?_ | refine ec_condTH rfl (by assumption) ?_ | refine ec_condFH rfl (by assumption) ?_)
        | refine ek_seqN ?_ | refine ek_seqX ?_ | refine ek_blkN ?_ | refine ek_blkR ?_ | refine ek_blkX ?_ | refine ek_blkY rfl ?_)
      exact rnd_on (by rfl) (scmp2 (by rfl) (by rfl) (by exact ⟨rfl, rfl, rfl⟩) (by rfl) (by first | rfl | (simp; done) | (simp [ints, prs, zints, mneg]; done)) (by rfl) (by first | rfl | (simp; done) | (simp [ints, prs, zints, mneg]; done)))
    | cons x xs =>
      refine ⟨(x :: xs) ++ [(idn) i], by rw [selm_t (p := fun _ => true) hp, hs]; try rfl, ?_⟩
      unfold m83_0
      repeat' (first
        | refine sp_push rfl rfl rfl rfl rfl rfl rfl (mneg_len _) (by omega) (Nat.zero_le _) rfl rfl rfl rfl rfl ?_
        | (refine g_op ?_; first
          | refine ep_mov rfl ?_
          | refine ep_call0 rfl (by first | exact ev98 n (by omega)) rfl rfl ?_
          | refine sp_call rfl rfl rfl rfl (by first | exact ev98 n (by omega)) ⟨rfl, rfl, rfl, rfl⟩ rfl rfl rfl ?_
          | refine ep_bin rfl rfl (by first | exact b_add (by omega) (by omega) | exact b_leq) ?_ | refine sp_bslice rfl rfl rfl rfl rfl ?_ | refine sp_push0 rfl (by first | exact .inl rfl | exact .inr rfl) rfl rfl rfl rfl rfl (by decide) rfl rfl rfl ?_
          | refine sp_push rfl rfl rfl rfl rfl rfl rfl (by first | exact ints_len _ | exact prs_len _ _ | exact zints_len _) (by omega) (Nat.zero_le _) rfl rfl rfl rfl rfl ?_)
        | (refine g_ops ?_; first | refine eo_none ?_ | refine eo_nil ?_)
        | (refine g_code ?_; first | refine ec_seq ?_ | refine ec_region ?_ | refine ec_block ?_ | refine ec_skip ?_ | refine ec_exit ?_ | refine ec_condT rfl ?_ | refine ec_condF rfl ?_ | refine ec_condTH rfl (by assumption) ?_ | refine ec_condFH rfl (by assumption) ?_)
        | refine ek_seqN ?_ | refine ek_seqX ?_ | refine ek_blkN ?_ | refine ek_blkR ?_ | refine ek_blkX ?_ | refine ek_blkY rfl ?_)
      exact rnd_on (by rfl) (scmp2 (by rfl) (by rfl) (by exact ⟨rfl, rfl, rfl⟩) (by rfl) (by first | rfl | (simp; done) | (simp [ints, prs, zints, mneg]; done)) (by rfl) (by first | rfl | (simp; done) | (simp [ints, prs, zints, mneg]; done)))
  · intro s hs
    have hlt : decide (((R2 (R2 n) : Nat) : Int) < (R2 (R2 n) : Nat)) = false := decide_eq_false (by omega)
    have hle : decide (((R2 (R2 n) : Nat) : Int) ≤ (R2 (R2 n) : Nat) - 1) = false := decide_eq_false (by omega)
    cases s with
    | nil =>
      unfold m83_0
      repeat' (first
        | (refine g_op ?_; first
          | refine ep_mov rfl ?_
          | refine ep_call0 rfl (by first | exact ev98 n (by omega)) rfl rfl ?_
          | refine sp_call rfl rfl rfl rfl (by first | exact ev98 n (by omega)) ⟨rfl, rfl, rfl, rfl⟩ rfl rfl rfl ?_
          | refine ep_bin rfl rfl (by first | exact b_add (by omega) (by omega) | exact b_leq) ?_ | refine sp_bslice rfl rfl rfl rfl rfl ?_ | refine sp_push0 rfl (by first | exact .inl rfl | exact .inr rfl) rfl rfl rfl rfl rfl (by decide) rfl rfl rfl ?_
          | refine sp_push rfl rfl rfl rfl rfl rfl rfl (by first | exact ints_len _ | exact prs_len _ _ | exact zints_len _) (by omega) (Nat.zero_le _) rfl rfl rfl rfl rfl ?_)
        | (refine g_ops ?_; first | refine eo_none ?_ | refine eo_nil ?_)
        | (refine g_code ?_; first | refine ec_seq ?_ | refine ec_region ?_ | refine ec_block ?_ | refine ec_skip ?_ | refine ec_exit ?_ | refine ec_condT rfl ?_ | refine ec_condF rfl ?_ | refine ec_condTH rfl (by assumption) ?_ | refine ec_condFH rfl (by assumption) ?_)
        | refine ek_seqN ?_ | refine ek_seqX ?_ | refine ek_blkN ?_ | refine ek_blkR ?_ | refine ek_blkX ?_ | refine ek_blkY rfl ?_)
      exact rnd_out (by rfl) (by simp) (scmp2 (by rfl) (by rfl) (by exact ⟨rfl, rfl, rfl⟩) (by rfl) (by first | rfl | (simp; done) | (simp [ints, prs]; done)) (by rfl) (by first | rfl | (simp; done) | (simp [ints, prs]; done)))
    | cons x xs =>
      unfold m83_0
      repeat' (first
        | (refine g_op ?_; first
          | refine ep_mov rfl ?_
          | refine ep_call0 rfl (by first | exact ev98 n (by omega)) rfl rfl ?_
          | refine sp_call rfl rfl rfl rfl (by first | exact ev98 n (by omega)) ⟨rfl, rfl, rfl, rfl⟩ rfl rfl rfl ?_
          | refine ep_bin rfl rfl (by first | exact b_add (by omega) (by omega) | exact b_leq) ?_ | refine sp_bslice rfl rfl rfl rfl rfl ?_ | refine sp_push0 rfl (by first | exact .inl rfl | exact .inr rfl) rfl rfl rfl rfl rfl (by decide) rfl rfl rfl ?_
          | refine sp_push rfl rfl rfl rfl rfl rfl rfl (by first | exact ints_len _ | exact prs_len _ _ | exact zints_len _) (by omega) (Nat.zero_le _) rfl rfl rfl rfl rfl ?_)
        | (refine g_ops ?_; first | refine eo_none ?_ | refine eo_nil ?_)
        | (refine g_code ?_; first | refine ec_seq ?_ | refine ec_region ?_ | refine ec_block ?_ | refine ec_skip ?_ | refine ec_exit ?_ | refine ec_condT rfl ?_ | refine ec_condF rfl ?_ | refine ec_condTH rfl (by assumption) ?_ | refine ec_condFH rfl (by assumption) ?_)
        | refine ek_seqN ?_ | refine ek_seqX ?_ | refine ek_blkN ?_ | refine ek_blkR ?_ | refine ek_blkX ?_ | refine ek_blkY rfl ?_)
      exact rnd_out (by rfl) (by simp) (scmp2 (by rfl) (by rfl) (by exact ⟨rfl, rfl, rfl⟩) (by rfl) (by first | rfl | (simp; done) | (simp [ints, prs]; done)) (by rfl) (by first | rfl | (simp; done) | (simp [ints, prs]; done)))

theorem lpds1 (q n N : Nat) (fs : List (Int × Int)) (hNn : N = R2 (R2 n)) (hn : n ≤ 3) :
    LpS cx 70 1 m83_1 [(0, .sl 0 0 fs.length), (1, .int .i64 (n : Nat)), (5, .sl 1 0 N), (7, .int .i64 (0 : Nat))] [⟨fns fs, 2, 0, some q, false⟩, ⟨zints (D0 n (0)), 1, 1, some 0, false⟩] (⟨.exit 2, [(0, .sl 0 0 fs.length), (1, .int .i64 (n : Nat)), (5, .sl 1 0 N)], [⟨fns fs, 2, 0, some q, false⟩, ⟨zints (D0 n (n)), 1, 1, some 0, false⟩]⟩ : Out).x (⟨.exit 2, [(0, .sl 0 0 fs.length), (1, .int .i64 (n : Nat)), (5, .sl 1 0 N)], [⟨fns fs, 2, 0, some q, false⟩, ⟨zints (D0 n (n)), 1, 1, some 0, false⟩]⟩ : Out).e (⟨.exit 2, [(0, .sl 0 0 fs.length), (1, .int .i64 (n : Nat)), (5, .sl 1 0 N)], [⟨fns fs, 2, 0, some q, false⟩, ⟨zints (D0 n (n)), 1, 1, some 0, false⟩]⟩ : Out).h := by
  refine lp_st (n) (fun _ => ()) (fun i _ => [(0, .sl 0 0 fs.length), (1, .int .i64 (n : Nat)), (5, .sl 1 0 N), (7, .int .i64 (i : Nat))]) (fun i _ => [⟨fns fs, 2, 0, some q, false⟩, ⟨zints (D0 n (i)), 1, 1, some 0, false⟩]) (fun _ => (⟨.exit 2, [(0, .sl 0 0 fs.length), (1, .int .i64 (n : Nat)), (5, .sl 1 0 N)], [⟨fns fs, 2, 0, some q, false⟩, ⟨zints (D0 n (n)), 1, 1, some 0, false⟩]⟩ : Out)) ?_ ?_ (n) 0 (by omega)
  · intro i u_ hi hu_
    refine ⟨(), rfl, ?_⟩
    have hlt : decide ((i : Int) < (n : Nat)) = true := decide_eq_true (by omega)
    have hp := projB_lt n i
    have hl := D0_len n i
    have hset := zints_set (D := D0 n i) (b := projB n i) (d := 0) (by omega)
    rw [← D0_s] at hset
    have hzl := zints_len (D0 n i)
    unfold m83_1
    repeat' (first
      | refine sp_storeS rfl rfl rfl rfl rfl rfl rfl (Nat.zero_le _) (by omega) hset rfl ?_
      | (refine g_op ?_; first
        | refine ep_mov rfl ?_
        | refine ep_call0 rfl (by first | exact evpjS n i (by omega) (by omega)) rfl rfl ?_
        | refine sp_call rfl rfl rfl rfl (by first | exact evpjS n i (by omega) (by omega)) ⟨rfl, rfl, rfl, rfl⟩ rfl rfl rfl ?_
        | refine ep_bin rfl rfl (by first | exact b_add (by omega) (by omega) | exact b_lss) ?_ | refine sp_store rfl rfl rfl rfl rfl rfl rfl rfl rfl rfl ?_ | refine ep_field1 rfl rfl ?_ | refine sp_idx rfl rfl rfl (by omega) rfl ?_)
      | (refine g_ops ?_; first | refine eo_none ?_ | refine eo_nil ?_)
      | (refine g_code ?_; first | refine ec_seq ?_ | refine ec_region ?_ | refine ec_block ?_ | refine ec_skip ?_ | refine ec_exit ?_ | refine ec_condT rfl ?_ | refine ec_condF rfl ?_ | refine ec_condTH rfl (by assumption) ?_ | refine ec_condFH rfl (by assumption) ?_)
      | refine ek_seqN ?_ | refine ek_seqX ?_ | refine ek_blkN ?_ | refine ek_blkR ?_ | refine ek_blkX ?_ | refine ek_blkY rfl ?_)
    exact rnd_on (by rfl) (scmp2 (by rfl) (by rfl) (by exact ⟨rfl, rfl, rfl⟩) (by rfl) (by first | rfl | (simp; done) | (simp [ints, prs]; done)) (by rfl) (by first | rfl | (simp; done) | (simp [ints, prs]; done)))
  · intro u_ hu_
    have hlt : decide (((n : Nat) : Int) < (n : Nat)) = false := decide_eq_false (by omega)
    unfold m83_1
    repeat' (first
      | (refine g_op ?_; first
        | refine ep_mov rfl ?_
        | refine ep_bin rfl rfl (by first | exact b_add (by omega) (by omega) | exact b_lss) ?_ | refine sp_store rfl rfl rfl rfl rfl rfl rfl rfl rfl rfl ?_ | refine ep_field1 rfl rfl ?_ | refine sp_idx rfl rfl rfl (by omega) rfl ?_)
      | (refine g_ops ?_; first | refine eo_none ?_ | refine eo_nil ?_)
      | (refine g_code ?_; first | refine ec_seq ?_ | refine ec_region ?_ | refine ec_block ?_ | refine ec_skip ?_ | refine ec_exit ?_ | refine ec_condT rfl ?_ | refine ec_condF rfl ?_ | refine ec_condTH rfl (by assumption) ?_ | refine ec_condFH rfl (by assumption) ?_)
      | refine ek_seqN ?_ | refine ek_seqX ?_ | refine ek_blkN ?_ | refine ek_blkR ?_ | refine ek_blkX ?_ | refine ek_blkY rfl ?_)
    exact rnd_out (by rfl) (by simp) (scmp2 (by rfl) (by rfl) (by exact ⟨rfl, rfl, rfl⟩) (by rfl) (by first | rfl | (simp; done) | (simp [ints, prs]; done)) (by rfl) (by first | rfl | (simp; done) | (simp [ints, prs]; done)))

theorem lpds3 (q n N d : Nat) (fs : List (Int × Int)) (D : List Int) (hNn : N = R2 (R2 n)) (hn : n ≤ 3) (hN : D.length = N) (o : Out) (ho : (match selm (fun b => decide (D.getD b 0 ≥ 0)) (idn) (R2 (R2 n)) with | [] => (⟨.exit 6, [(0, .sl 0 0 fs.length), (1, .int .i64 (n : Nat)), (5, .sl 1 0 N), (8, .bool false), (9, .int .i64 (d : Nat)), (10, .emp)], [⟨fns fs, 2, 0, some q, false⟩, ⟨zints D, 1, 1, some 0, false⟩]⟩ : Out) | x :: xs => ⟨.exit 6, [(0, .sl 0 0 fs.length), (1, .int .i64 (n : Nat)), (5, .sl 1 0 N), (8, .bool false), (9, .int .i64 (d : Nat)), (10, .sl 2 0 (x :: xs).length)], [⟨fns fs, 2, 0, some q, false⟩, ⟨zints D, 1, 1, some 0, false⟩, ⟨ints (x :: xs), 1, 2, some 0, false⟩]⟩) = o) :
    LpS cx 70 1 m83_3 [(0, .sl 0 0 fs.length), (1, .int .i64 (n : Nat)), (5, .sl 1 0 N), (8, .bool false), (9, .int .i64 (d : Nat)), (10, .emp), (11, .int .i64 (0 : Nat))] [⟨fns fs, 2, 0, some q, false⟩, ⟨zints D, 1, 1, some 0, false⟩] o.x o.e o.h := by
  obtain ⟨h1, h2, h3, h4⟩ := shN (n := n) (by omega)
  subst ho
  refine lp_st (R2 (R2 n)) (selm (fun b => decide (D.getD b 0 ≥ 0)) (idn)) (fun i s => match s with | [] => [(0, .sl 0 0 fs.length), (1, .int .i64 (n : Nat)), (5, .sl 1 0 N), (8, .bool false), (9, .int .i64 (d : Nat)), (10, .emp), (11, .int .i64 (i : Nat))] | x :: xs => [(0, .sl 0 0 fs.length), (1, .int .i64 (n : Nat)), (5, .sl 1 0 N), (8, .bool false), (9, .int .i64 (d : Nat)), (10, .sl 2 0 (x :: xs).length), (11, .int .i64 (i : Nat))]) (fun i s => match s with | [] => [⟨fns fs, 2, 0, some q, false⟩, ⟨zints D, 1, 1, some 0, false⟩] | x :: xs => [⟨fns fs, 2, 0, some q, false⟩, ⟨zints D, 1, 1, some 0, false⟩, ⟨ints (x :: xs), 1, 2, some 0, false⟩]) (fun s => match s with | [] => ⟨.exit 6, [(0, .sl 0 0 fs.length), (1, .int .i64 (n : Nat)), (5, .sl 1 0 N), (8, .bool false), (9, .int .i64 (d : Nat)), (10, .emp)], [⟨fns fs, 2, 0, some q, false⟩, ⟨zints D, 1, 1, some 0, false⟩]⟩ | x :: xs => ⟨.exit 6, [(0, .sl 0 0 fs.length), (1, .int .i64 (n : Nat)), (5, .sl 1 0 N), (8, .bool false), (9, .int .i64 (d : Nat)), (10, .sl 2 0 (x :: xs).length)], [⟨fns fs, 2, 0, some q, false⟩, ⟨zints D, 1, 1, some 0, false⟩, ⟨ints (x :: xs), 1, 2, some 0, false⟩]⟩) ?_ ?_ (R2 (R2 n)) 0 (by omega)
  · intro i s hi hs
    have hlt : decide ((i : Int) < (R2 (R2 n) : Nat)) = true := decide_eq_true (by omega)
    have hle : decide ((i : Int) ≤ (R2 (R2 n) : Nat) - 1) = true := decide_eq_true (by omega)
    have hlen : s.length ≤ 65536 := by have := selm_len (fun b => decide (D.getD b 0 ≥ 0)) (idn) i; rw [hs] at this; omega
    have hget := zints_get (l := D) (j := i) (by omega)
    cases hp : (fun b => decide (D.getD b 0 ≥ 0)) i with
    | true =>
      have hp' : (decide (D.getD i 0 ≥ 0)) = true := hp
      cases s with
      | nil =>
        refine ⟨[(idn) i], by rw [selm_t (p := fun b => decide (D.getD b 0 ≥ 0)) hp, hs]; try rfl, ?_⟩
        unfold m83_3
        repeat' (first
          | refine ep_loadS rfl rfl rfl hget ?_
          | (refine g_op ?_; first
            | refine ep_mov rfl ?_ | refine ep_load1 rfl rfl rfl rfl ?_
            | refine ep_call0 rfl (by first | exact ev98 n (by omega)) rfl rfl ?_
            | refine sp_call rfl rfl rfl rfl (by first | exact ev98 n (by omega)) ⟨rfl, rfl, rfl, rfl⟩ rfl rfl rfl ?_
            | refine ep_bin rfl rfl (by first | exact b_add (by omega) (by omega) | exact b_leq | exact b_geq) ?_ | refine sp_bslice rfl rfl rfl rfl rfl ?_ | refine sp_push0 rfl (by first | exact .inl rfl | exact .inr rfl) rfl rfl rfl rfl rfl (by decide) rfl rfl rfl ?_
            | refine sp_push rfl rfl rfl rfl rfl rfl rfl (by first | exact ints_len _ | exact prs_len _ _ | exact zints_len _) (by omega) (Nat.zero_le _) rfl rfl rfl rfl rfl ?_ | refine sp_idx rfl rfl rfl (by omega) rfl ?_
            | refine ep_loadS rfl rfl rfl (by first | exact ints_get (by omega) | exact zints_get (by omega) | exact fget (by omega) | assumption) ?_)
          | (refine g_ops ?_; first | refine eo_none ?_ | refine eo_nil ?_)
          | (refine g_code ?_; first | refine ec_seq ?_ | refine ec_region ?_ | refine ec_block ?_ | refine ec_skip ?_ | refine ec_exit ?_ | refine ec_condT rfl ?_ | refine ec_condF rfl ?_ | refine ec_condTH rfl (by assumption) ?_ | refine ec_condFH rfl (by assumption) ?_)
          | refine ek_seqN ?_ | refine ek_seqX ?_ | refine ek_blkN ?_ | refine ek_blkR ?_ | refine ek_blkX ?_ | refine ek_blkY rfl ?_)
        exact rnd_on (by rfl) (scmp2 (by rfl) (by rfl) (by exact ⟨rfl, rfl, rfl⟩) (by rfl) (by first | rfl | (simp; done) | (simp [ints, prs]; done)) (by rfl) (by first | rfl | (simp; done) | (simp [ints, prs]; done)))
      | cons x xs =>
        refine ⟨(x :: xs) ++ [(idn) i], by rw [selm_t (p := fun b => decide (D.getD b 0 ≥ 0)) hp, hs]; try rfl, ?_⟩
        unfold m83_3
        repeat' (first
          | refine ep_loadS rfl rfl rfl hget ?_
          | (refine g_op ?_; first
            | refine ep_mov rfl ?_ | refine ep_load1 rfl rfl rfl rfl ?_
            | refine ep_call0 rfl (by first | exact ev98 n (by omega)) rfl rfl ?_
            | refine sp_call rfl rfl rfl rfl (by first | exact ev98 n (by omega)) ⟨rfl, rfl, rfl, rfl⟩ rfl rfl rfl ?_
            | refine ep_bin rfl rfl (by first | exact b_add (by omega) (by omega) | exact b_leq | exact b_geq) ?_ | refine sp_bslice rfl rfl rfl rfl rfl ?_ | refine sp_push0 rfl (by first | exact .inl rfl | exact .inr rfl) rfl rfl rfl rfl rfl (by decide) rfl rfl rfl ?_
            | refine sp_push rfl rfl rfl rfl rfl rfl rfl (by first | exact ints_len _ | exact prs_len _ _ | exact zints_len _) (by omega) (Nat.zero_le _) rfl rfl rfl rfl rfl ?_ | refine sp_idx rfl rfl rfl (by omega) rfl ?_
            | refine ep_loadS rfl rfl rfl (by first | exact ints_get (by omega) | exact zints_get (by omega) | exact fget (by omega) | assumption) ?_)
          | (refine g_ops ?_; first | refine eo_none ?_ | refine eo_nil ?_)
          | (refine g_code ?_; first | refine ec_seq ?_ | refine ec_region ?_ | refine ec_block ?_ | refine ec_skip ?_ | refine ec_exit ?_ | refine ec_condT rfl ?_ | refine ec_condF rfl ?_ | refine ec_condTH rfl (by assumption) ?_ | refine ec_condFH rfl (by assumption) ?_)
          | refine ek_seqN ?_ | refine ek_seqX ?_ | refine ek_blkN ?_ | refine ek_blkR ?_ | refine ek_blkX ?_ | refine ek_blkY rfl ?_)
        exact rnd_on (by rfl) (scmp2 (by rfl) (by rfl) (by exact ⟨rfl, rfl, rfl⟩) (by rfl) (by first | rfl | (simp; done) | (simp [ints, prs]; done)) (by rfl) (by first | rfl | (simp; done) | (simp [ints, prs]; done)))
    | false =>
      have hp' : (decide (D.getD i 0 ≥ 0)) = false := hp
      cases s with
      | nil =>
        refine ⟨[], by rw [selm_f (p := fun b => decide (D.getD b 0 ≥ 0)) hp, hs]; try rfl, ?_⟩
        unfold m83_3
        repeat' (first
          | refine ep_loadS rfl rfl rfl hget ?_
          | (refine g_op ?_; first
            | refine ep_mov rfl ?_ | refine ep_load1 rfl rfl rfl rfl ?_
            | refine ep_call0 rfl (by first | exact ev98 n (by omega)) rfl rfl ?_
            | refine sp_call rfl rfl rfl rfl (by first | exact ev98 n (by omega)) ⟨rfl, rfl, rfl, rfl⟩ rfl rfl rfl ?_
            | refine ep_bin rfl rfl (by first | exact b_add (by omega) (by omega) | exact b_leq | exact b_geq) ?_ | refine sp_bslice rfl rfl rfl rfl rfl ?_ | refine sp_push0 rfl (by first | exact .inl rfl | exact .inr rfl) rfl rfl rfl rfl rfl (by decide) rfl rfl rfl ?_
            | refine sp_push rfl rfl rfl rfl rfl rfl rfl (by first | exact ints_len _ | exact prs_len _ _ | exact zints_len _) (by omega) (Nat.zero_le _) rfl rfl rfl rfl rfl ?_ | refine sp_idx rfl rfl rfl (by omega) rfl ?_
            | refine ep_loadS rfl rfl rfl (by first | exact ints_get (by omega) | exact zints_get (by omega) | exact fget (by omega) | assumption) ?_)
          | (refine g_ops ?_; first | refine eo_none ?_ | refine eo_nil ?_)
          | (refine g_code ?_; first | refine ec_seq ?_ | refine ec_region ?_ | refine ec_block ?_ | refine ec_skip ?_ | refine ec_exit ?_ | refine ec_condT rfl ?_ | refine ec_condF rfl ?_ | refine ec_condTH rfl (by assumption) ?_ | refine ec_condFH rfl (by assumption) ?_)
          | refine ek_seqN ?_ | refine ek_seqX ?_ | refine ek_blkN ?_ | refine ek_blkR ?_ | refine ek_blkX ?_ | refine ek_blkY rfl ?_)
        exact rnd_on (by rfl) (scmp2 (by rfl) (by rfl) (by exact ⟨rfl, rfl, rfl⟩) (by rfl) (by first | rfl | (simp; done) | (simp [ints, prs]; done)) (by rfl) (by first | rfl | (simp; done) | (simp [ints, prs]; done)))
      | cons x xs =>
        refine ⟨x :: xs, by rw [selm_f (p := fun b => decide (D.getD b 0 ≥ 0)) hp, hs]; try rfl, ?_⟩
        unfold m83_3
        repeat' (first
          | refine ep_loadS rfl rfl rfl hget ?_
          | (refine g_op ?_; first
            | refine ep_mov rfl ?_ | refine ep_load1 rfl rfl rfl rfl ?_
            | refine ep_call0 rfl (by first | exact ev98 n (by omega)) rfl rfl ?_
            | refine sp_call rfl rfl rfl rfl (by first | exact ev98 n (by omega)) ⟨rfl, rfl, rfl, rfl⟩ rfl rfl rfl ?_
            | refine ep_bin rfl rfl (by first | exact b_add (by omega) (by omega) | exact b_leq | exact b_geq) ?_ | refine sp_bslice rfl rfl rfl rfl rfl ?_ | refine sp_push0 rfl (by first | exact .inl rfl | exact .inr rfl) rfl rfl rfl rfl rfl (by decide) rfl rfl rfl ?_
            | refine sp_push rfl rfl rfl rfl rfl rfl rfl (by first | exact ints_len _ | exact prs_len _ _ | exact zints_len _) (by omega) (Nat.zero_le _) rfl rfl rfl rfl rfl ?_ | refine sp_idx rfl rfl rfl (by omega) rfl ?_
            | refine ep_loadS rfl rfl rfl (by first | exact ints_get (by omega) | exact zints_get (by omega) | exact fget (by omega) | assumption) ?_)
          | (refine g_ops ?_; first | refine eo_none ?_ | refine eo_nil ?_)
          | (refine g_code ?_; first | refine ec_seq ?_ | refine ec_region ?_ | refine ec_block ?_ | refine ec_skip ?_ | refine ec_exit ?_ | refine ec_condT rfl ?_ | refine ec_condF rfl ?_ | refine ec_condTH rfl (by assumption) ?_ | refine ec_condFH rfl (by assumption) ?_)
          | refine ek_seqN ?_ | refine ek_seqX ?_ | refine ek_blkN ?_ | refine ek_blkR ?_ | refine ek_blkX ?_ | refine ek_blkY rfl ?_)
        exact rnd_on (by rfl) (scmp2 (by rfl) (by rfl) (by exact ⟨rfl, rfl, rfl⟩) (by rfl) (by first | rfl | (simp; done) | (simp [ints, prs]; done)) (by rfl) (by first | rfl | (simp; done) | (simp [ints, prs]; done)))
  · intro s hs
    have hlt : decide (((R2 (R2 n) : Nat) : Int) < (R2 (R2 n) : Nat)) = false := decide_eq_false (by omega)
    have hle : decide (((R2 (R2 n) : Nat) : Int) ≤ (R2 (R2 n) : Nat) - 1) = false := decide_eq_false (by omega)
    cases s with
    | nil =>
      unfold m83_3
      repeat' (first
        | (refine g_op ?_; first
          | refine ep_mov rfl ?_ | refine ep_load1 rfl rfl rfl rfl ?_
          | refine ep_call0 rfl (by first | exact ev98 n (by omega)) rfl rfl ?_
          | refine sp_call rfl rfl rfl rfl (by first | exact ev98 n (by omega)) ⟨rfl, rfl, rfl, rfl⟩ rfl rfl rfl ?_
          | refine ep_bin rfl rfl (by first | exact b_add (by omega) (by omega) | exact b_leq | exact b_geq) ?_ | refine sp_bslice rfl rfl rfl rfl rfl ?_ | refine sp_push0 rfl (by first | exact .inl rfl | exact .inr rfl) rfl rfl rfl rfl rfl (by decide) rfl rfl rfl ?_
          | refine sp_push rfl rfl rfl rfl rfl rfl rfl (by first | exact ints_len _ | exact prs_len _ _ | exact zints_len _) (by omega) (Nat.zero_le _) rfl rfl rfl rfl rfl ?_ | refine sp_idx rfl rfl rfl (by omega) rfl ?_
          | refine ep_loadS rfl rfl rfl (by first | exact ints_get (by omega) | exact zints_get (by omega) | exact fget (by omega) | assumption) ?_)
        | (refine g_ops ?_; first | refine eo_none ?_ | refine eo_nil ?_)
        | (refine g_code ?_; first | refine ec_seq ?_ | refine ec_region ?_ | refine ec_block ?_ | refine ec_skip ?_ | refine ec_exit ?_ | refine ec_condT rfl ?_ | refine ec_condF rfl ?_ | refine ec_condTH rfl (by assumption) ?_ | refine ec_condFH rfl (by assumption) ?_)
        | refine ek_seqN ?_ | refine ek_seqX ?_ | refine ek_blkN ?_ | refine ek_blkR ?_ | refine ek_blkX ?_ | refine ek_blkY rfl ?_)
      exact rnd_out (by rfl) (by simp) (scmp2 (by rfl) (by rfl) (by exact ⟨rfl, rfl, rfl⟩) (by rfl) (by first | rfl | (simp; done) | (simp [ints, prs]; done)) (by rfl) (by first | rfl | (simp; done) | (simp [ints, prs]; done)))
    | cons x xs =>
      unfold m83_3
      repeat' (first
        | (refine g_op ?_; first
          | refine ep_mov rfl ?_ | refine ep_load1 rfl rfl rfl rfl ?_
          | refine ep_call0 rfl (by first | exact ev98 n (by omega)) rfl rfl ?_
          | refine sp_call rfl rfl rfl rfl (by first | exact ev98 n (by omega)) ⟨rfl, rfl, rfl, rfl⟩ rfl rfl rfl ?_
          | refine ep_bin rfl rfl (by first | exact b_add (by omega) (by omega) | exact b_leq | exact b_geq) ?_ | refine sp_bslice rfl rfl rfl rfl rfl ?_ | refine sp_push0 rfl (by first | exact .inl rfl | exact .inr rfl) rfl rfl rfl rfl rfl (by decide) rfl rfl rfl ?_
          | refine sp_push rfl rfl rfl rfl rfl rfl rfl (by first | exact ints_len _ | exact prs_len _ _ | exact zints_len _) (by omega) (Nat.zero_le _) rfl rfl rfl rfl rfl ?_ | refine sp_idx rfl rfl rfl (by omega) rfl ?_
          | refine ep_loadS rfl rfl rfl (by first | exact ints_get (by omega) | exact zints_get (by omega) | exact fget (by omega) | assumption) ?_)
        | (refine g_ops ?_; first | refine eo_none ?_ | refine eo_nil ?_)
        | (refine g_code ?_; first | refine ec_seq ?_ | refine ec_region ?_ | refine ec_block ?_ | refine ec_skip ?_ | refine ec_exit ?_ | refine ec_condT rfl ?_ | refine ec_condF rfl ?_ | refine ec_condTH rfl (by assumption) ?_ | refine ec_condFH rfl (by assumption) ?_)
        | refine ek_seqN ?_ | refine ek_seqX ?_ | refine ek_blkN ?_ | refine ek_blkR ?_ | refine ek_blkX ?_ | refine ek_blkY rfl ?_)
      exact rnd_out (by rfl) (by simp) (scmp2 (by rfl) (by rfl) (by exact ⟨rfl, rfl, rfl⟩) (by rfl) (by first | rfl | (simp; done) | (simp [ints, prs]; done)) (by rfl) (by first | rfl | (simp; done) | (simp [ints, prs]; done)))

theorem lpds4 (q n N d : Nat) (fs : List (Int × Int)) (D : List Int) (hNn : N = R2 (R2 n)) (hn : n ≤ 3) (hall : allFunc fs = true) (hln : fs.length ≤ 1048576) (hd : d < 65536) (hN : D.length = N) (L : List Nat) (hll : L.length ≤ 65536) (hLN : ∀ j, j < L.length → L.getD j 0 < N) :
    LpS cx 70 1 m83_4 [(0, .sl 0 0 fs.length), (1, .int .i64 (n : Nat)), (5, .sl 1 0 N), (8, .bool (rndS fs n d L D (0)).2), (9, .int .i64 (d : Nat)), (10, .sl 2 0 L.length), (12, .int .i64 (0 : Nat))] [⟨fns fs, 2, 0, some q, false⟩, ⟨zints (rndS fs n d L D (0)).1, 1, 1, some 0, false⟩, ⟨ints L, 1, 2, some 0, false⟩] (⟨.exit 8, [(0, .sl 0 0 fs.length), (1, .int .i64 (n : Nat)), (5, .sl 1 0 N), (8, .bool (rndS fs n d L D (fs.length)).2), (9, .int .i64 (d : Nat))], [⟨fns fs, 2, 0, some q, false⟩, ⟨zints (rndS fs n d L D (fs.length)).1, 1, 1, some 0, false⟩]⟩ : Out).x (⟨.exit 8, [(0, .sl 0 0 fs.length), (1, .int .i64 (n : Nat)), (5, .sl 1 0 N), (8, .bool (rndS fs n d L D (fs.length)).2), (9, .int .i64 (d : Nat))], [⟨fns fs, 2, 0, some q, false⟩, ⟨zints (rndS fs n d L D (fs.length)).1, 1, 1, some 0, false⟩]⟩ : Out).e (⟨.exit 8, [(0, .sl 0 0 fs.length), (1, .int .i64 (n : Nat)), (5, .sl 1 0 N), (8, .bool (rndS fs n d L D (fs.length)).2), (9, .int .i64 (d : Nat))], [⟨fns fs, 2, 0, some q, false⟩, ⟨zints (rndS fs n d L D (fs.length)).1, 1, 1, some 0, false⟩]⟩ : Out).h := by
  refine lp_st (fs.length) (fun _ => ()) (fun i _ => [(0, .sl 0 0 fs.length), (1, .int .i64 (n : Nat)), (5, .sl 1 0 N), (8, .bool (rndS fs n d L D (i)).2), (9, .int .i64 (d : Nat)), (10, .sl 2 0 L.length), (12, .int .i64 (i : Nat))]) (fun i _ => [⟨fns fs, 2, 0, some q, false⟩, ⟨zints (rndS fs n d L D (i)).1, 1, 1, some 0, false⟩, ⟨ints L, 1, 2, some 0, false⟩]) (fun _ => (⟨.exit 8, [(0, .sl 0 0 fs.length), (1, .int .i64 (n : Nat)), (5, .sl 1 0 N), (8, .bool (rndS fs n d L D (fs.length)).2), (9, .int .i64 (d : Nat))], [⟨fns fs, 2, 0, some q, false⟩, ⟨zints (rndS fs n d L D (fs.length)).1, 1, 1, some 0, false⟩]⟩ : Out)) ?_ ?_ (fs.length) 0 (by omega)
  · intro i u_ hi hu_
    refine ⟨(), rfl, ?_⟩
    have hlt : decide ((i : Int) < (fs.length : Nat)) = true := decide_eq_true (by omega)
    have hg := fns_get (l := fs) (j := i) hi
    have hget := allF_at (P := fun j => isFn (fs.getD j (0, 0)).1 (fs.getD j (0, 0)).2) hall hi
    obtain ⟨a, b, ha, hb, ha4, _, hb6⟩ := isFn_nat hget
    have e1 := evr_e n N d (fs.getD i (0, 0)).2.toNat (fs.getD i (0, 0)).1.toNat L hNn hn hd (by omega) (by omega) hll hLN (rndS fs n d L D i).1 (by rw [rndS_len]; exact hN)
    rw [show (((fs.getD i (0, 0)).1.toNat : Nat) : Int) = (fs.getD i (0, 0)).1 by omega, show (((fs.getD i (0, 0)).2.toNat : Nat) : Int) = (fs.getD i (0, 0)).2 by omega] at e1
    have hs := walk_or (d := d) (n := n) (b := (fs.getD i (0, 0)).2.toNat) (L := L) (fs.getD i (0, 0)).1.toNat [] (rndS fs n d L D i).1 (rndS fs n d L D i).2
    rw [show walkT L (leafS d n (fs.getD i (0, 0)).2.toNat) (fs.getD i (0, 0)).1.toNat [] ((rndS fs n d L D i).1, (rndS fs n d L D i).2) = rndS fs n d L D (i + 1) from rfl] at hs
    have hs1 := congrArg Prod.fst hs
    have hc := congrArg Prod.snd hs
    simp only at hs1 hc
    rw [← hs1] at e1
    generalize (walkT L (leafS d n (fs.getD i (0, 0)).2.toNat) (fs.getD i (0, 0)).1.toNat [] ((rndS fs n d L D i).1, false)).2 = c at *
    cases c
    · simp only [Bool.or_false] at hc
      unfold m83_4
      repeat' (first
        | refine ep_loadSN rfl rfl rfl hg ?_
        | (refine g_op ?_; first
          | refine ep_mov rfl ?_ | refine sp_loadN rfl rfl rfl rfl rfl ?_
          | refine ep_call0 rfl (by first | exact e1) rfl rfl ?_
          | refine sp_call rfl rfl rfl rfl (by first | exact e1) ⟨rfl, rfl, rfl, rfl⟩ rfl rfl rfl ?_
          | refine ep_bin rfl rfl (by first | exact b_add (by omega) (by omega) | exact b_lss) ?_ | refine ep_lenS rfl ?_ | refine ep_lenN rfl ?_ | refine ep_lenE rfl ?_ | refine ep_empt ?_ | refine sp_idx rfl rfl rfl (by omega) rfl ?_
          | refine ep_loadSN rfl rfl rfl (by first | exact prs_get (by omega) | exact fns_get (by omega)) ?_)
        | (refine g_ops ?_; first | refine eo_none ?_ | refine eo_nil ?_)
        | (refine g_code ?_; first | refine ec_seq ?_ | refine ec_region ?_ | refine ec_block ?_ | refine ec_skip ?_ | refine ec_exit ?_ | refine ec_condT rfl ?_ | refine ec_condF rfl ?_ | refine ec_condTH rfl (by assumption) ?_ | refine ec_condFH rfl (by assumption) ?_)
        | refine ek_seqN ?_ | refine ek_seqX ?_ | refine ek_blkN ?_ | refine ek_blkR ?_ | refine ek_blkX ?_ | refine ek_blkY rfl ?_)
      exact rnd_on (by rfl) (scmp2 (by rfl) (by rfl) (by exact ⟨rfl, rfl, rfl⟩) (by rfl) (by rw [hc]; rfl) (by rfl) (by rfl))
    · simp only [Bool.or_true] at hc
      unfold m83_4
      repeat' (first
        | refine ep_loadSN rfl rfl rfl hg ?_
        | (refine g_op ?_; first
          | refine ep_mov rfl ?_ | refine sp_loadN rfl rfl rfl rfl rfl ?_
          | refine ep_call0 rfl (by first | exact e1) rfl rfl ?_
          | refine sp_call rfl rfl rfl rfl (by first | exact e1) ⟨rfl, rfl, rfl, rfl⟩ rfl rfl rfl ?_
          | refine ep_bin rfl rfl (by first | exact b_add (by omega) (by omega) | exact b_lss) ?_ | refine ep_lenS rfl ?_ | refine ep_lenN rfl ?_ | refine ep_lenE rfl ?_ | refine ep_empt ?_ | refine sp_idx rfl rfl rfl (by omega) rfl ?_
          | refine ep_loadSN rfl rfl rfl (by first | exact prs_get (by omega) | exact fns_get (by omega)) ?_)
        | (refine g_ops ?_; first | refine eo_none ?_ | refine eo_nil ?_)
        | (refine g_code ?_; first | refine ec_seq ?_ | refine ec_region ?_ | refine ec_block ?_ | refine ec_skip ?_ | refine ec_exit ?_ | refine ec_condT rfl ?_ | refine ec_condF rfl ?_ | refine ec_condTH rfl (by assumption) ?_ | refine ec_condFH rfl (by assumption) ?_)
        | refine ek_seqN ?_ | refine ek_seqX ?_ | refine ek_blkN ?_ | refine ek_blkR ?_ | refine ek_blkX ?_ | refine ek_blkY rfl ?_)
      exact rnd_on (by rfl) (scmp2 (by rfl) (by rfl) (by exact ⟨rfl, rfl, rfl⟩) (by rfl) (by rw [hc]; rfl) (by rfl) (by rfl))
  · intro u_ hu_
    have hlt : decide (((fs.length : Nat) : Int) < (fs.length : Nat)) = false := decide_eq_false (by omega)
    unfold m83_4
    repeat' (first
      | (refine g_op ?_; first
        | refine ep_mov rfl ?_ | refine sp_loadN rfl rfl rfl rfl rfl ?_
        | refine ep_bin rfl rfl (by first | exact b_add (by omega) (by omega) | exact b_lss) ?_ | refine ep_lenS rfl ?_ | refine ep_lenN rfl ?_ | refine ep_lenE rfl ?_ | refine ep_empt ?_ | refine sp_idx rfl rfl rfl (by omega) rfl ?_
        | refine ep_loadSN rfl rfl rfl (by first | exact prs_get (by omega) | exact fns_get (by omega)) ?_)
      | (refine g_ops ?_; first | refine eo_none ?_ | refine eo_nil ?_)
      | (refine g_code ?_; first | refine ec_seq ?_ | refine ec_region ?_ | refine ec_block ?_ | refine ec_skip ?_ | refine ec_exit ?_ | refine ec_condT rfl ?_ | refine ec_condF rfl ?_ | refine ec_condTH rfl (by assumption) ?_ | refine ec_condFH rfl (by assumption) ?_)
      | refine ek_seqN ?_ | refine ek_seqX ?_ | refine ek_blkN ?_ | refine ek_blkR ?_ | refine ek_blkX ?_ | refine ek_blkY rfl ?_)
    exact rnd_out (by rfl) (by simp) (scmp2 (by rfl) (by rfl) (by exact ⟨rfl, rfl, rfl⟩) (by rfl) (by first | rfl | (simp; done) | (simp [ints, prs]; done)) (by rfl) (by first | rfl | (simp; done) | (simp [ints, prs]; done)))

theorem lpds2f (q n N d : Nat) (fs : List (Int × Int)) (D : List Int) : LpS cx 70 1 m83_2 [(0, .sl 0 0 fs.length), (1, .int .i64 (n : Nat)), (5, .sl 1 0 N), (8, .bool false), (9, .int .i64 (d : Nat))] [⟨fns fs, 2, 0, some q, false⟩, ⟨zints D, 1, 1, some 0, false⟩] (⟨.exit 4, [(5, .sl 1 0 N)], [⟨fns fs, 2, 0, some q, false⟩, ⟨zints D, 1, 1, some 0, false⟩]⟩ : Out).x (⟨.exit 4, [(5, .sl 1 0 N)], [⟨fns fs, 2, 0, some q, false⟩, ⟨zints D, 1, 1, some 0, false⟩]⟩ : Out).e (⟨.exit 4, [(5, .sl 1 0 N)], [⟨fns fs, 2, 0, some q, false⟩, ⟨zints D, 1, 1, some 0, false⟩]⟩ : Out).h := by
  refine round_out ?_
  unfold m83_2
  repeat' (first
    | (refine g_op ?_; first
      | refine ep_mov rfl ?_
      | refine ep_bin rfl rfl (by exact b_add (by omega) (by omega)) ?_ | refine ep_empt ?_)
    | (refine g_ops ?_; first | refine eo_none ?_ | refine eo_nil ?_)
    | (refine g_code ?_; first | refine ec_seq ?_ | refine ec_region ?_ | refine ec_block ?_ | refine ec_skip ?_ | refine ec_exit ?_ | refine ec_condT rfl ?_ | refine ec_condF rfl ?_ | refine ec_condTH rfl (by assumption) ?_ | refine ec_condFH rfl (by assumption) ?_)
    | refine ek_seqN ?_ | refine ek_seqX ?_ | refine ek_seqR ?_ | refine ek_blkN ?_ | refine ek_blkR ?_ | refine ek_blkX ?_ | refine ek_blkY rfl ?_)
  exact rnd_out (by rfl) (by simp) (scmp2 (by rfl) (by rfl) (by exact ⟨rfl, rfl, rfl⟩) (by rfl) (by first | rfl | (simp; done) | (simp [ints, prs]; done)) (by rfl) (by first | rfl | (simp; done) | (simp [ints, prs]; done)))
theorem lpds2 (q n N : Nat) (fs : List (Int × Int)) (hNn : N = R2 (R2 n)) (hn : n ≤ 3) (hall : allFunc fs = true) (hln : fs.length ≤ 1048576) : ∀ (k d : Nat) (D : List Int), ngs D < k → D.length = N → (∃ c, c < N ∧ D.getD c 0 = 0) → 1 ≤ d → d + k < 65536 →
    LpS cx 70 1 m83_2 [(0, .sl 0 0 fs.length), (1, .int .i64 (n : Nat)), (5, .sl 1 0 N), (8, .bool true), (9, .int .i64 (d : Nat))] [⟨fns fs, 2, 0, some q, false⟩, ⟨zints D, 1, 1, some 0, false⟩] (⟨.exit 4, [(5, .sl 1 0 N)], [⟨fns fs, 2, 0, some q, false⟩, ⟨zints (genS fs n k d D), 1, 1, some 0, false⟩]⟩ : Out).x (⟨.exit 4, [(5, .sl 1 0 N)], [⟨fns fs, 2, 0, some q, false⟩, ⟨zints (genS fs n k d D), 1, 1, some 0, false⟩]⟩ : Out).e (⟨.exit 4, [(5, .sl 1 0 N)], [⟨fns fs, 2, 0, some q, false⟩, ⟨zints (genS fs n k d D), 1, 1, some 0, false⟩]⟩ : Out).h
  | 0, d, D, hk, _, _, _, _ => by omega
  | k + 1, d, D, hk, hN, hz, hd, hdk => by
    obtain ⟨h1, h2, h3, h4⟩ := shN (n := n) (by omega)
    have hinv := rnd_inv (fs := fs) (n := n) (d := (d : Int)) (L := kwS (R2 (R2 n)) D) (D := D) (by omega)
    have hlen := selm_len (fun b => decide (D.getD b 0 ≥ 0)) idn (R2 (R2 n))
    have lp4 := lpds4 q n N d fs D hNn hn hall hln (by omega) hN (kwS (R2 (R2 n)) D) (show (kwS (R2 (R2 n)) D).length ≤ 65536 from Nat.le_trans (selm_len _ _ _) h2) (fun j hj => by have h9 : (kwS (R2 (R2 n)) D).getD j 0 < R2 (R2 n) := (selm_lt0 hj).1; omega)
    rw [genS]
    rw [show rndS fs n d (kwS (R2 (R2 n)) D) D fs.length = rndG leafS fs n d (kwS (R2 (R2 n)) D) D from rfl, show rndS fs n d (kwS (R2 (R2 n)) D) D 0 = (D, false) from rfl] at lp4
    generalize hs : rndG leafS fs n d (kwS (R2 (R2 n)) D) D = s at *
    obtain ⟨c, hc, h0⟩ := hz
    obtain ⟨qq, hq, _⟩ := selm_mem (p := fun b => decide (D.getD b 0 ≥ 0)) (n := R2 (R2 n)) (x := c) (by omega) (by simp only [decide_eq_true_eq]; rw [h0]; omega)
    rw [show kwS (R2 (R2 n)) D = selm (fun b => decide (D.getD b 0 ≥ 0)) idn (R2 (R2 n)) from rfl] at lp4
    have lp3 := lpds3 q n N d fs D hNn hn hN
    cases hL : selm (fun b => decide (D.getD b 0 ≥ 0)) idn (R2 (R2 n)) with
    | nil => rw [hL] at hq; simp at hq
    | cons y ys =>
    have lp3 := lp3 _ (by rw [hL])
    rw [hL] at lp4
    obtain ⟨D1, A1⟩ := s
    have hadd := b_addN (a := d) (b := 1) (by omega)
    cases A1
    · rw [if_neg (by simp)]
      refine round_on ?_ (lpds2f q n N (d + 1) fs D1)
      unfold m83_2
      repeat' (first
        | refine sc_loop lp3 rfl rfl ⟨rfl, rfl, rfl⟩ rfl rfl rfl ?_
        | refine sc_loop lp4 rfl rfl ⟨rfl, rfl, rfl⟩ rfl rfl rfl ?_
        | (refine g_op ?_; first
          | refine ep_mov rfl ?_
          | refine ep_bin rfl rfl (by first | exact hadd | exact b_add (by omega) (by omega)) ?_ | refine ep_empt ?_)
        | (refine g_ops ?_; first | refine eo_none ?_ | refine eo_nil ?_)
        | (refine g_code ?_; first | refine ec_seq ?_ | refine ec_region ?_ | refine ec_block ?_ | refine ec_skip ?_ | refine ec_exit ?_ | refine ec_condT rfl ?_ | refine ec_condF rfl ?_ | refine ec_condTH rfl (by assumption) ?_ | refine ec_condFH rfl (by assumption) ?_)
        | refine ek_seqN ?_ | refine ek_seqX ?_ | refine ek_seqR ?_ | refine ek_blkN ?_ | refine ek_blkR ?_ | refine ek_blkX ?_ | refine ek_blkY rfl ?_)
      exact rnd_on (by rfl) (scmp2 (by rfl) (by rfl) (by exact ⟨rfl, rfl, rfl⟩) (by rfl) (by first | rfl | (simp; done) | (simp [ints, prs]; done)) (by rfl) (by first | rfl | (simp; done) | (simp [ints, prs]; done)))
    · rw [if_pos rfl]
      have hg1 := hinv.2.2 rfl
      simp only at hg1
      refine round_on ?_ (lpds2 q n N fs hNn hn hall hln k (d + 1) D1 (by omega) (by rw [hinv.1.1]; exact hN) ⟨c, hc, by rw [hinv.1.2 c (by omega)]; exact h0⟩ (by omega) (by omega))
      unfold m83_2
      repeat' (first
        | refine sc_loop lp3 rfl rfl ⟨rfl, rfl, rfl⟩ rfl rfl rfl ?_
        | refine sc_loop lp4 rfl rfl ⟨rfl, rfl, rfl⟩ rfl rfl rfl ?_
        | (refine g_op ?_; first
          | refine ep_mov rfl ?_
          | refine ep_bin rfl rfl (by first | exact hadd | exact b_add (by omega) (by omega)) ?_ | refine ep_empt ?_)
        | (refine g_ops ?_; first | refine eo_none ?_ | refine eo_nil ?_)
        | (refine g_code ?_; first | refine ec_seq ?_ | refine ec_region ?_ | refine ec_block ?_ | refine ec_skip ?_ | refine ec_exit ?_ | refine ec_condT rfl ?_ | refine ec_condF rfl ?_ | refine ec_condTH rfl (by assumption) ?_ | refine ec_condFH rfl (by assumption) ?_)
        | refine ek_seqN ?_ | refine ek_seqX ?_ | refine ek_seqR ?_ | refine ek_blkN ?_ | refine ek_blkR ?_ | refine ek_blkX ?_ | refine ek_blkY rfl ?_)
      exact rnd_on (by rfl) (scmp2 (by rfl) (by rfl) (by exact ⟨rfl, rfl, rfl⟩) (by rfl) (by first | rfl | (simp; done) | (simp [ints, prs]; done)) (by rfl) (by first | rfl | (simp; done) | (simp [ints, prs]; done)))
theorem evdpq (q n : Nat) (fs : List (Int × Int)) (hn1 : 1 ≤ n) (hn : n ≤ 3) (hall : allFunc fs = true) (hln : fs.length ≤ 1048576) : Ev cx 83 [.sl 0 0 fs.length, .int .i64 (n : Nat)] [⟨fns fs, 2, 0, some q, false⟩] (.sl 1 0 (R2 (R2 n))) [⟨fns fs, 2, 0, some q, false⟩, ⟨zints (depL fs n), 1, 1, some 0, false⟩] := by
  obtain ⟨h1, h2, h3, h4⟩ := shN (n := n) (by omega)
  have h23 : R2 n ≤ 8 := by have := R2_mono (i := n) (n := 3) hn; have h8 : R2 3 = 8 := by { unfold R2; rfl }; omega
  have hN8 : R2 (R2 n) ≤ 256 := by have := R2_mono (i := R2 n) (n := 8) h23; have h8 : R2 8 = 256 := by { unfold R2; rfl }; omega
  have sa := (selm_all (g := idn) (R2 (R2 n))).1
  have lp1 := lpds1 q n (R2 (R2 n)) fs rfl hn
  rw [show D0 n 0 = List.replicate (R2 (R2 n)) (-1) from rfl] at lp1
  have hl := D0_len n n
  have lp2 := lpds2 q n (R2 (R2 n)) fs rfl hn hall hln (R2 (R2 n) + 1) 1 (D0 n n) (by have := ngs_le (D0 n n); omega) hl ⟨projB n (n - 1), projB_lt n _, by
    obtain ⟨m, rfl⟩ : ∃ m, n = m + 1 := ⟨n - 1, by omega⟩
    rw [D0_s, getD_set, show m + 1 - 1 = m from rfl, if_pos ⟨rfl, by rw [D0_len]; exact projB_lt _ _⟩]⟩ (by omega) (by omega)
  rw [show genS fs n (R2 (R2 n) + 1) 1 (D0 n n) = depL fs n from rfl] at lp2
  cases hs : selm (fun _ => true) idn (R2 (R2 n)) with
  | nil => rw [hs] at sa; simp at sa; omega
  | cons x xs =>
    rw [hs] at sa
    have lp0 := lp83_0 q n fs hn _ (by rw [hs])
    dsimp only at lp0
    rw [mneg_rep, sa] at lp0
    refine has83.eev rfl rfl ?_
    unfold m83
    repeat' (first
      | refine sc_loop lp0 rfl rfl ⟨rfl, rfl, rfl⟩ rfl rfl rfl ?_
      | refine sc_loop lp1 rfl rfl ⟨rfl, rfl, rfl⟩ rfl rfl rfl ?_
      | refine sc_loop lp2 rfl rfl ⟨rfl, rfl, rfl⟩ rfl rfl rfl ?_
      | (refine g_op ?_; first
        | refine ep_mov rfl ?_
        | refine ep_empt ?_)
      | (refine g_ops ?_; first | refine eo_none ?_ | refine eo_nil ?_)
      | (refine g_code ?_; first | refine ec_seq ?_ | refine ec_region ?_ | refine ec_block ?_ | refine ec_ret ?_)
      | refine ek_seqN ?_ | refine ek_seqX ?_ | refine ek_seqR ?_ | refine ek_blkN ?_ | refine ek_blkR ?_ | refine ek_blkX ?_ | refine ek_blkY rfl ?_)
    refine sfin (.inr rfl) (by rfl) (by rfl) (by exact ⟨rfl, rfl, rfl⟩) (by rfl) (by rfl) (by rfl) (by first | rfl | (simp; done) | (simp [ints, prs]; done))
theorem ev83 (n : Nat) (fs : List (Int × Int)) (hn1 : 1 ≤ n) (hn : n ≤ 3) (hall : allFunc fs = true) (hln : fs.length ≤ 1048576) : Ev cx 83 [.sl 0 0 fs.length, .int .i64 (n : Nat)] [⟨fns fs, 2, 0, some 0, false⟩] (.sl 1 0 (R2 (R2 n))) [⟨fns fs, 2, 0, some 0, false⟩, ⟨zints (depL fs n), 1, 1, some 0, false⟩] := evdpq 0 n fs hn1 hn hall hln

def a3 (fs : List (Int × Int)) : Bool := allF (fun j => !decide ((fs.getD j (0, 0)).1 > 2)) 0 fs.length
def gcode (fs : List (Int × Int)) (z : Int) : Int := if lcode fs = 0 then (if 2 ≤ z ∧ z ≤ 3 then (if z = 3 ∧ a3 fs = false then 2 else 0) else 2) else lcode fs
theorem fns_at0 {l : List (Int × Int)} {j : Nat} (h : j < l.length) : (fns l)[0 + j * 2 + 0]? = some (.int .i64 (l.getD j (0, 0)).1) := by
  have h2 := congrArg (fun q : List V => q[0]?) (fns_get h).2.2
  simpa [List.getElem?_take, List.getElem?_drop] using h2
theorem gcode_0 {fs : List (Int × Int)} {z : Int} (h : gcode fs z = 0) : allFunc fs = true ∧ fs.length ≤ 8 ∧ 2 ≤ z ∧ z ≤ 3 := by
  unfold gcode at h
  split at h
  · rename_i h0
    split at h
    · rename_i h1
      unfold lcode at h0
      split at h0
      · rename_i ha
        split at h0
        · omega
        · exact ⟨ha, by omega, h1⟩
      · omega
    · omega
  · exact absurd h (by assumption)
theorem genS_le {fs : List (Int × Int)} {n : Nat} : ∀ (k d : Nat) (D : List Int), leD D (genS fs n k d D)
  | 0, d, D => leD_refl D
  | k + 1, d, D => by
    rw [genS]
    have h := (rnd_inv (fs := fs) (n := n) (d := d) (L := kwS (R2 (R2 n)) D) (D := D) (by omega)).1
    split
    · exact leD_trans h (genS_le k _ _)
    · exact h
theorem depL_pj {fs : List (Int × Int)} {n i : Nat} (hi : i < n) : (depL fs n).getD (projB n i) 0 = 0 := by
  have h0 : ∀ m, i < m → (D0 n m).getD (projB n i) 0 = 0 := by
    intro m
    induction m with
    | zero => intro h; omega
    | succ m ih =>
      intro h
      rw [D0_s, getD_set]
      split
      · rfl
      · by_cases e : i = m
        · subst e; rename_i hn; exact absurd ⟨rfl, by rw [D0_len]; exact projB_lt _ _⟩ hn
        · exact ih (by omega)
  have h1 := h0 n hi
  rw [depL, (genS_le _ _ _).2 _ (by omega), h1]
-- spec.l04Code
def m81_0 : MC := (.seq (.seq (.region [⟨(.mov (.t 6)), (some 15), none⟩, ⟨(.mov (.t 0)), (some 16), none⟩, ⟨(.len (.t 16)), (some 17), none⟩, ⟨(.bin .lss (.t 15) (.t 17)), (some 18), none⟩] false) (.cond (.t 18) .skip (.exit 0))) (.seq (.block 1 (.seq (.region [⟨(.mov (.t 1)), (some 21), none⟩, ⟨(.bin .eql (.t 21) (.k (.int .i64 3))), (some 22), none⟩, ⟨(.mov (.t 22)), (some 23), none⟩, ⟨(.mov (.t 0)), (some 24), (some (23, true))⟩, ⟨(.mov (.t 6)), (some 25), (some (23, true))⟩, ⟨(.indexAddr 2 (.t 24) (.t 25)), (some 26), (some (23, true))⟩, ⟨(.fieldAddr 0 (.t 26)), (some 27), (some (23, true))⟩, ⟨(.load none (.t 27)), (some 28), (some (23, true))⟩, ⟨(.bin .gtr (.t 28) (.k (.int .i64 2))), (some 29), (some (23, true))⟩, ⟨(.pick (.t 23) (.t 29) (.k (.bool false))), (some 30), none⟩] false) (.cond (.t 30) (.seq (.region [⟨(.mov (.k (.int .i64 2))), (some 4), none⟩] false) .ret) .skip))) (.region [⟨(.mov (.t 6)), (some 19), none⟩, ⟨(.bin .add (.t 19) (.k (.int .i64 1))), (some 20), none⟩, ⟨(.mov (.t 20)), (some 6), none⟩] false)))
def m81 : MC := (.seq (.region [⟨(.mov (.k (.int .i64 0))), (some 4), none⟩] false) (.seq (.seq (.region [⟨(.mov (.t 0)), (some 7), none⟩, ⟨(.call 69 [(.t 7)]), (some 8), none⟩, ⟨(.mov (.t 8)), (some 5), none⟩] false) (.seq (.region [⟨(.mov (.t 5)), (some 9), none⟩, ⟨(.bin .neq (.t 9) (.k (.int .i64 0))), (some 10), none⟩] false) (.cond (.t 10) (.seq (.region [⟨(.mov (.t 5)), (some 11), none⟩, ⟨(.mov (.t 11)), (some 4), none⟩] false) .ret) .skip))) (.seq (.seq (.region [⟨(.mov (.t 1)), (some 12), none⟩, ⟨(.call 97 [(.t 12), (.k (.int .i64 2)), (.k (.int .i64 3))]), (some 13), none⟩, ⟨(.un .not (.t 13)), (some 14), none⟩] false) (.cond (.t 14) (.seq (.region [⟨(.mov (.k (.int .i64 2))), (some 4), none⟩] false) .ret) .skip)) (.seq (.seq (.region [⟨(.mov (.k (.int .i64 0))), (some 6), none⟩] false) (.block 0 (.loop m81_0))) (.seq (.region [⟨(.mov (.k (.int .i64 0))), (some 4), none⟩] false) .ret)))))
theorem has81 : Has cx 81 31 m81 [(.tmp 4)] :=
  ⟨⟨Try.f81, Try.f81.body.getD .skip, by kernel_rfl, by kernel_rfl, by kernel_rfl, by kernel_rfl, by kernel_rfl, by kernel_rfl⟩⟩
theorem lplc_n (fs : List (Int × Int)) (z : Int) (hln : fs.length ≤ 1048576) (hz : (z == 3) = false) :
    LpS cx 31 1 m81_0 [(0, .sl 0 0 fs.length), (1, .int .i64 (z)), (6, .int .i64 (0 : Nat))] [⟨fns fs, 2, 0, some 0, false⟩] (⟨.exit 0, [], [⟨fns fs, 2, 0, some 0, false⟩]⟩ : Out).x (⟨.exit 0, [], [⟨fns fs, 2, 0, some 0, false⟩]⟩ : Out).e (⟨.exit 0, [], [⟨fns fs, 2, 0, some 0, false⟩]⟩ : Out).h := by
  refine lp_st (fs.length) (fun _ => ()) (fun i _ => [(0, .sl 0 0 fs.length), (1, .int .i64 (z)), (6, .int .i64 (i : Nat))]) (fun i _ => [⟨fns fs, 2, 0, some 0, false⟩]) (fun _ => (⟨.exit 0, [], [⟨fns fs, 2, 0, some 0, false⟩]⟩ : Out)) ?_ ?_ (fs.length) 0 (by omega)
  · intro i u_ hi hu_
    refine ⟨(), rfl, ?_⟩
    have hlt : decide ((i : Int) < (fs.length : Nat)) = true := decide_eq_true (by omega)
    unfold m81_0
    repeat' (first
      | (refine g_op ?_; first
        | refine ep_mov rfl ?_ | refine ep_load1 rfl rfl rfl rfl ?_ | refine ep_fieldAddr rfl ?_
        | refine ep_bin rfl rfl (by first | exact b_add (by omega) (by omega) | exact b_lss | exact b_gtr | exact b_eql) ?_ | refine ep_pickT rfl rfl ?_ | refine ep_pickF rfl rfl ?_ | refine ep_pickTH rfl (by assumption) rfl ?_
        | refine ep_pickFH rfl (by assumption) rfl ?_ | refine ep_lenS rfl ?_ | refine ep_lenN rfl ?_ | refine ep_lenE rfl ?_ | refine sp_idx rfl rfl rfl (by omega) rfl ?_ | refine ep_loadS rfl rfl rfl (by first | exact ints_get (by omega) | exact zints_get (by omega) | exact fget (by omega) | assumption) ?_)
      | (refine g_ops ?_; first | refine eo_none ?_ | refine eo_nil ?_ | refine eo_yes rfl ?_ | refine eo_no rfl ?_ | refine eo_und rfl ?_ | refine eo_yesH rfl (by assumption) ?_ | refine eo_noH rfl (by assumption) ?_)
      | (refine g_code ?_; first | refine ec_seq ?_ | refine ec_region ?_ | refine ec_block ?_ | refine ec_skip ?_ | refine ec_exit ?_ | refine ec_ret ?_ | refine ec_condT rfl ?_ | refine ec_condF rfl ?_ | refine ec_condTH rfl (by assumption) ?_ | refine ec_condFH rfl (by assumption) ?_)
      | refine ek_seqN ?_ | refine ek_seqX ?_ | refine ek_seqR ?_ | refine ek_blkN ?_ | refine ek_blkR ?_ | refine ek_blkX ?_ | refine ek_blkY rfl ?_)
    exact rnd_on (by rfl) (scmp2 (by rfl) (by rfl) (by exact ⟨rfl, rfl, rfl⟩) (by rfl) (by first | rfl | (simp; done) | (simp [ints, prs]; done)) (by rfl) (by first | rfl | (simp; done) | (simp [ints, prs]; done)))
  · intro u_ hu_
    have hlt : decide (((fs.length : Nat) : Int) < (fs.length : Nat)) = false := decide_eq_false (by omega)
    unfold m81_0
    repeat' (first
      | (refine g_op ?_; first
        | refine ep_mov rfl ?_ | refine ep_load1 rfl rfl rfl rfl ?_ | refine ep_fieldAddr rfl ?_
        | refine ep_bin rfl rfl (by first | exact b_add (by omega) (by omega) | exact b_lss | exact b_gtr | exact b_eql) ?_ | refine ep_pickT rfl rfl ?_ | refine ep_pickF rfl rfl ?_ | refine ep_pickTH rfl (by assumption) rfl ?_
        | refine ep_pickFH rfl (by assumption) rfl ?_ | refine ep_lenS rfl ?_ | refine ep_lenN rfl ?_ | refine ep_lenE rfl ?_ | refine sp_idx rfl rfl rfl (by omega) rfl ?_ | refine ep_loadS rfl rfl rfl (by first | exact ints_get (by omega) | exact zints_get (by omega) | exact fget (by omega) | assumption) ?_)
      | (refine g_ops ?_; first | refine eo_none ?_ | refine eo_nil ?_ | refine eo_yes rfl ?_ | refine eo_no rfl ?_ | refine eo_und rfl ?_ | refine eo_yesH rfl (by assumption) ?_ | refine eo_noH rfl (by assumption) ?_)
      | (refine g_code ?_; first | refine ec_seq ?_ | refine ec_region ?_ | refine ec_block ?_ | refine ec_skip ?_ | refine ec_exit ?_ | refine ec_ret ?_ | refine ec_condT rfl ?_ | refine ec_condF rfl ?_ | refine ec_condTH rfl (by assumption) ?_ | refine ec_condFH rfl (by assumption) ?_)
      | refine ek_seqN ?_ | refine ek_seqX ?_ | refine ek_seqR ?_ | refine ek_blkN ?_ | refine ek_blkR ?_ | refine ek_blkX ?_ | refine ek_blkY rfl ?_)
    exact rnd_out (by rfl) (by simp) (scmp2 (by rfl) (by rfl) (by exact ⟨rfl, rfl, rfl⟩) (by rfl) (by first | rfl | (simp; done) | (simp [ints, prs]; done)) (by rfl) (by first | rfl | (simp; done) | (simp [ints, prs]; done)))

theorem lplc_y (fs : List (Int × Int)) (z : Int) (hln : fs.length ≤ 1048576) (hz : (z == 3) = true) (o : Out) (ho : (if allF (fun j => !decide ((fs.getD j (0, 0)).1 > 2)) 0 (fs.length) = true then (⟨.exit 0, [], [⟨fns fs, 2, 0, some 0, false⟩]⟩ : Out) else ⟨.ret, [(4, .int .i64 2)], [⟨fns fs, 2, 0, some 0, false⟩]⟩) = o) :
    LpS cx 31 1 m81_0 [(0, .sl 0 0 fs.length), (1, .int .i64 (z)), (6, .int .i64 (0 : Nat))] [⟨fns fs, 2, 0, some 0, false⟩] o.x o.e o.h := by
  refine lp_all (fs.length) (fun j => !decide ((fs.getD j (0, 0)).1 > 2)) (fun i => [(0, .sl 0 0 fs.length), (1, .int .i64 (z)), (6, .int .i64 (i : Nat))]) (fun i => [⟨fns fs, 2, 0, some 0, false⟩]) _ _ ?_ ?_ ?_ (fs.length) 0 o (by omega) ho
  · intro i hi hp
    have hlt : decide ((i : Int) < (fs.length : Nat)) = true := decide_eq_true (by omega)
    have hp' : (!decide ((fs.getD i (0, 0)).1 > 2)) = true := hp
    have hg0 := fns_at0 (l := fs) (j := i) hi
    have hq : decide ((fs.getD i (0, 0)).1 > 2) = false := by simpa using hp'
    unfold m81_0
    repeat' (first
      | refine ep_loadS rfl rfl rfl hg0 ?_
      | (refine g_op ?_; first
        | refine ep_mov rfl ?_ | refine ep_load1 rfl rfl rfl rfl ?_ | refine ep_fieldAddr rfl ?_
        | refine ep_bin rfl rfl (by first | exact b_add (by omega) (by omega) | exact b_lss | exact b_gtr | exact b_eql) ?_ | refine ep_pickT rfl rfl ?_ | refine ep_pickF rfl rfl ?_ | refine ep_pickTH rfl (by assumption) rfl ?_
        | refine ep_pickFH rfl (by assumption) rfl ?_ | refine ep_lenS rfl ?_ | refine ep_lenN rfl ?_ | refine ep_lenE rfl ?_ | refine sp_idx rfl rfl rfl (by omega) rfl ?_ | refine ep_loadS rfl rfl rfl (by first | exact ints_get (by omega) | exact zints_get (by omega) | exact fget (by omega) | assumption) ?_)
      | (refine g_ops ?_; first | refine eo_none ?_ | refine eo_nil ?_ | refine eo_yes rfl ?_ | refine eo_no rfl ?_ | refine eo_und rfl ?_ | refine eo_yesH rfl (by assumption) ?_ | refine eo_noH rfl (by assumption) ?_)
      | (refine g_code ?_; first | refine ec_seq ?_ | refine ec_region ?_ | refine ec_block ?_ | refine ec_skip ?_ | refine ec_exit ?_ | refine ec_ret ?_ | refine ec_condT rfl ?_ | refine ec_condF rfl ?_ | refine ec_condTH rfl (by assumption) ?_ | refine ec_condFH rfl (by assumption) ?_)
      | refine ek_seqN ?_ | refine ek_seqX ?_ | refine ek_seqR ?_ | refine ek_blkN ?_ | refine ek_blkR ?_ | refine ek_blkX ?_ | refine ek_blkY rfl ?_)
    exact rnd_on (by rfl) (scmp2 (by rfl) (by rfl) (by exact ⟨rfl, rfl, rfl⟩) (by rfl) (by first | rfl | (simp; done) | (simp [ints, prs]; done)) (by rfl) (by first | rfl | (simp; done) | (simp [ints, prs]; done)))
  · intro i hi hp
    have hlt : decide ((i : Int) < (fs.length : Nat)) = true := decide_eq_true (by omega)
    have hp' : (!decide ((fs.getD i (0, 0)).1 > 2)) = false := hp
    have hg0 := fns_at0 (l := fs) (j := i) hi
    have hq : decide ((fs.getD i (0, 0)).1 > 2) = true := by simpa using hp'
    unfold m81_0
    repeat' (first
      | refine ep_loadS rfl rfl rfl hg0 ?_
      | (refine g_op ?_; first
        | refine ep_mov rfl ?_ | refine ep_load1 rfl rfl rfl rfl ?_ | refine ep_fieldAddr rfl ?_
        | refine ep_bin rfl rfl (by first | exact b_add (by omega) (by omega) | exact b_lss | exact b_gtr | exact b_eql) ?_ | refine ep_pickT rfl rfl ?_ | refine ep_pickF rfl rfl ?_ | refine ep_pickTH rfl (by assumption) rfl ?_
        | refine ep_pickFH rfl (by assumption) rfl ?_ | refine ep_lenS rfl ?_ | refine ep_lenN rfl ?_ | refine ep_lenE rfl ?_ | refine sp_idx rfl rfl rfl (by omega) rfl ?_ | refine ep_loadS rfl rfl rfl (by first | exact ints_get (by omega) | exact zints_get (by omega) | exact fget (by omega) | assumption) ?_)
      | (refine g_ops ?_; first | refine eo_none ?_ | refine eo_nil ?_ | refine eo_yes rfl ?_ | refine eo_no rfl ?_ | refine eo_und rfl ?_ | refine eo_yesH rfl (by assumption) ?_ | refine eo_noH rfl (by assumption) ?_)
      | (refine g_code ?_; first | refine ec_seq ?_ | refine ec_region ?_ | refine ec_block ?_ | refine ec_skip ?_ | refine ec_exit ?_ | refine ec_ret ?_ | refine ec_condT rfl ?_ | refine ec_condF rfl ?_ | refine ec_condTH rfl (by assumption) ?_ | refine ec_condFH rfl (by assumption) ?_)
      | refine ek_seqN ?_ | refine ek_seqX ?_ | refine ek_seqR ?_ | refine ek_blkN ?_ | refine ek_blkR ?_ | refine ek_blkX ?_ | refine ek_blkY rfl ?_)
    exact rnd_out (by rfl) (by simp) (scmp2 (by rfl) (by rfl) (by exact ⟨rfl, rfl, rfl⟩) (by rfl) (by first | rfl | (simp; done) | (simp [ints, prs]; done)) (by rfl) (by first | rfl | (simp; done) | (simp [ints, prs]; done)))
  · have hlt : decide (((fs.length : Nat) : Int) < (fs.length : Nat)) = false := decide_eq_false (by omega)
    unfold m81_0
    repeat' (first
      | (refine g_op ?_; first
        | refine ep_mov rfl ?_ | refine ep_load1 rfl rfl rfl rfl ?_ | refine ep_fieldAddr rfl ?_
        | refine ep_bin rfl rfl (by first | exact b_add (by omega) (by omega) | exact b_lss | exact b_gtr | exact b_eql) ?_ | refine ep_pickT rfl rfl ?_ | refine ep_pickF rfl rfl ?_ | refine ep_pickTH rfl (by assumption) rfl ?_
        | refine ep_pickFH rfl (by assumption) rfl ?_ | refine ep_lenS rfl ?_ | refine ep_lenN rfl ?_ | refine ep_lenE rfl ?_ | refine sp_idx rfl rfl rfl (by omega) rfl ?_ | refine ep_loadS rfl rfl rfl (by first | exact ints_get (by omega) | exact zints_get (by omega) | exact fget (by omega) | assumption) ?_)
      | (refine g_ops ?_; first | refine eo_none ?_ | refine eo_nil ?_ | refine eo_yes rfl ?_ | refine eo_no rfl ?_ | refine eo_und rfl ?_ | refine eo_yesH rfl (by assumption) ?_ | refine eo_noH rfl (by assumption) ?_)
      | (refine g_code ?_; first | refine ec_seq ?_ | refine ec_region ?_ | refine ec_block ?_ | refine ec_skip ?_ | refine ec_exit ?_ | refine ec_ret ?_ | refine ec_condT rfl ?_ | refine ec_condF rfl ?_ | refine ec_condTH rfl (by assumption) ?_ | refine ec_condFH rfl (by assumption) ?_)
      | refine ek_seqN ?_ | refine ek_seqX ?_ | refine ek_seqR ?_ | refine ek_blkN ?_ | refine ek_blkR ?_ | refine ek_blkX ?_ | refine ek_blkY rfl ?_)
    exact rnd_out (by rfl) (by simp) (scmp2 (by rfl) (by rfl) (by exact ⟨rfl, rfl, rfl⟩) (by rfl) (by first | rfl | (simp; done) | (simp [ints, prs]; done)) (by rfl) (by first | rfl | (simp; done) | (simp [ints, prs]; done)))

theorem ev81 (fs : List (Int × Int)) (z : Int) (hln : fs.length ≤ 1048576) : Ev cx 81 [.sl 0 0 fs.length, .int .i64 z] [⟨fns fs, 2, 0, some 0, false⟩] (.int .i64 (gcode fs z)) [⟨fns fs, 2, 0, some 0, false⟩] := by
  have e1 := ev69 fs hln
  have e2 := ev97 z 2 3
  by_cases h0 : lcode fs = 0
  · rw [h0] at e1
    by_cases h1 : 2 ≤ z ∧ z ≤ 3
    · rw [decide_eq_true h1] at e2
      cases hz : (z == 3)
      · have hC : gcode fs z = 0 := by rw [gcode, if_pos h0, if_pos h1, if_neg (fun h => by rw [h.1] at hz; simp at hz)]
        have lp := lplc_n fs z hln hz
        rw [hC]
        refine has81.eev rfl rfl ?_
        unfold m81
        repeat' (first
          | refine sc_loop lp rfl rfl ⟨rfl, rfl, rfl⟩ rfl rfl rfl ?_
          | (refine g_op ?_; first
            | refine ep_mov rfl ?_
            | refine ep_call0 rfl (by first | exact e1 | exact e2) rfl rfl ?_
            | refine sp_call rfl rfl rfl rfl (by first | exact e1 | exact e2) ⟨rfl, rfl, rfl, rfl⟩ rfl rfl rfl ?_
            | refine ep_bin rfl rfl (by exact b_neq) ?_ | refine ep_not rfl ?_)
          | (refine g_ops ?_; first | refine eo_none ?_ | refine eo_nil ?_)
          | (refine g_code ?_; first | refine ec_seq ?_ | refine ec_region ?_ | refine ec_block ?_ | refine ec_skip ?_ | refine ec_ret ?_ | refine ec_condT rfl ?_ | refine ec_condF rfl ?_ | refine ec_condTH rfl (by assumption) ?_ | refine ec_condFH rfl (by assumption) ?_)
          | refine ek_seqN ?_ | refine ek_seqX ?_ | refine ek_seqR ?_ | refine ek_blkN ?_ | refine ek_blkR ?_ | refine ek_blkX ?_ | refine ek_blkY rfl ?_)
        refine sfin (.inr rfl) (by rfl) (by rfl) (by exact ⟨rfl, rfl, rfl⟩) (by rfl) (by rfl) (by rfl) (by first | rfl | (simp; done) | (simp [ints, prs]; done))
      · have hz3 : z = 3 := by simpa using hz
        cases h3 : a3 fs
        · have hC : gcode fs z = 2 := by rw [gcode, if_pos h0, if_pos h1, if_pos ⟨hz3, h3⟩]
          have lp := lplc_y fs z hln hz _ (if_neg (by rw [show allF (fun j => !decide ((fs.getD j (0, 0)).1 > 2)) 0 fs.length = false from h3]; simp))
          rw [hC]
          refine has81.eev rfl rfl ?_
          unfold m81
          repeat' (first
            | refine sc_loop lp rfl rfl ⟨rfl, rfl, rfl⟩ rfl rfl rfl ?_
            | (refine g_op ?_; first
              | refine ep_mov rfl ?_
              | refine ep_call0 rfl (by first | exact e1 | exact e2) rfl rfl ?_
              | refine sp_call rfl rfl rfl rfl (by first | exact e1 | exact e2) ⟨rfl, rfl, rfl, rfl⟩ rfl rfl rfl ?_
              | refine ep_bin rfl rfl (by exact b_neq) ?_ | refine ep_not rfl ?_)
            | (refine g_ops ?_; first | refine eo_none ?_ | refine eo_nil ?_)
            | (refine g_code ?_; first | refine ec_seq ?_ | refine ec_region ?_ | refine ec_block ?_ | refine ec_skip ?_ | refine ec_ret ?_ | refine ec_condT rfl ?_ | refine ec_condF rfl ?_ | refine ec_condTH rfl (by assumption) ?_ | refine ec_condFH rfl (by assumption) ?_)
            | refine ek_seqN ?_ | refine ek_seqX ?_ | refine ek_seqR ?_ | refine ek_blkN ?_ | refine ek_blkR ?_ | refine ek_blkX ?_ | refine ek_blkY rfl ?_)
          refine sfin (.inr rfl) (by rfl) (by rfl) (by exact ⟨rfl, rfl, rfl⟩) (by rfl) (by rfl) (by rfl) (by first | rfl | (simp; done) | (simp [ints, prs]; done))
        · have hC : gcode fs z = 0 := by rw [gcode, if_pos h0, if_pos h1, if_neg (fun h => by rw [h3] at h; simp at h)]
          have lp := lplc_y fs z hln hz _ (if_pos h3)
          rw [hC]
          refine has81.eev rfl rfl ?_
          unfold m81
          repeat' (first
            | refine sc_loop lp rfl rfl ⟨rfl, rfl, rfl⟩ rfl rfl rfl ?_
            | (refine g_op ?_; first
              | refine ep_mov rfl ?_
              | refine ep_call0 rfl (by first | exact e1 | exact e2) rfl rfl ?_
              | refine sp_call rfl rfl rfl rfl (by first | exact e1 | exact e2) ⟨rfl, rfl, rfl, rfl⟩ rfl rfl rfl ?_
              | refine ep_bin rfl rfl (by exact b_neq) ?_ | refine ep_not rfl ?_)
            | (refine g_ops ?_; first | refine eo_none ?_ | refine eo_nil ?_)
            | (refine g_code ?_; first | refine ec_seq ?_ | refine ec_region ?_ | refine ec_block ?_ | refine ec_skip ?_ | refine ec_ret ?_ | refine ec_condT rfl ?_ | refine ec_condF rfl ?_ | refine ec_condTH rfl (by assumption) ?_ | refine ec_condFH rfl (by assumption) ?_)
            | refine ek_seqN ?_ | refine ek_seqX ?_ | refine ek_seqR ?_ | refine ek_blkN ?_ | refine ek_blkR ?_ | refine ek_blkX ?_ | refine ek_blkY rfl ?_)
          refine sfin (.inr rfl) (by rfl) (by rfl) (by exact ⟨rfl, rfl, rfl⟩) (by rfl) (by rfl) (by rfl) (by first | rfl | (simp; done) | (simp [ints, prs]; done))
    · rw [decide_eq_false h1] at e2
      have hC : gcode fs z = 2 := by rw [gcode, if_pos h0, if_neg h1]
      rw [hC]
      refine has81.eev rfl rfl ?_
      unfold m81
      repeat' (first
        | (refine g_op ?_; first
          | refine ep_mov rfl ?_
          | refine ep_call0 rfl (by first | exact e1 | exact e2) rfl rfl ?_
          | refine sp_call rfl rfl rfl rfl (by first | exact e1 | exact e2) ⟨rfl, rfl, rfl, rfl⟩ rfl rfl rfl ?_
          | refine ep_bin rfl rfl (by exact b_neq) ?_ | refine ep_not rfl ?_)
        | (refine g_ops ?_; first | refine eo_none ?_ | refine eo_nil ?_)
        | (refine g_code ?_; first | refine ec_seq ?_ | refine ec_region ?_ | refine ec_block ?_ | refine ec_skip ?_ | refine ec_ret ?_ | refine ec_condT rfl ?_ | refine ec_condF rfl ?_ | refine ec_condTH rfl (by assumption) ?_ | refine ec_condFH rfl (by assumption) ?_)
        | refine ek_seqN ?_ | refine ek_seqX ?_ | refine ek_seqR ?_ | refine ek_blkN ?_ | refine ek_blkR ?_ | refine ek_blkX ?_ | refine ek_blkY rfl ?_)
      refine sfin (.inr rfl) (by rfl) (by rfl) (by exact ⟨rfl, rfl, rfl⟩) (by rfl) (by rfl) (by rfl) (by first | rfl | (simp; done) | (simp [ints, prs]; done))
  · have hC : gcode fs z = lcode fs := by rw [gcode, if_neg h0]
    have hq2 : (lcode fs != 0) = true := by simpa using h0
    rw [hC]
    refine has81.eev rfl rfl ?_
    unfold m81
    repeat' (first
      | (refine g_op ?_; first
        | refine ep_mov rfl ?_
        | refine ep_call0 rfl (by first | exact e1 | exact e2) rfl rfl ?_
        | refine sp_call rfl rfl rfl rfl (by first | exact e1 | exact e2) ⟨rfl, rfl, rfl, rfl⟩ rfl rfl rfl ?_
        | refine ep_bin rfl rfl (by exact b_neq) ?_ | refine ep_not rfl ?_)
      | (refine g_ops ?_; first | refine eo_none ?_ | refine eo_nil ?_)
      | (refine g_code ?_; first | refine ec_seq ?_ | refine ec_region ?_ | refine ec_block ?_ | refine ec_skip ?_ | refine ec_ret ?_ | refine ec_condT rfl ?_ | refine ec_condF rfl ?_ | refine ec_condTH rfl (by assumption) ?_ | refine ec_condFH rfl (by assumption) ?_)
      | refine ek_seqN ?_ | refine ek_seqX ?_ | refine ek_seqR ?_ | refine ek_blkN ?_ | refine ek_blkR ?_ | refine ek_blkX ?_ | refine ek_blkY rfl ?_)
    refine sfin (.inr rfl) (by rfl) (by rfl) (by exact ⟨rfl, rfl, rfl⟩) (by rfl) (by rfl) (by rfl) (by first | rfl | (simp; done) | (simp [ints, prs]; done))
-- impl.generationCode$1
def m125 : MC := (.seq (.region [⟨(.mov (.k (.bool false))), (some 2), none⟩] false) (.seq (.region [⟨(.mov (.t 0)), (some 3), none⟩, ⟨(.call 73 [(.t 3)]), (some 4), none⟩, ⟨(.un .not (.t 4)), (some 5), none⟩, ⟨(.mov (.t 5)), (some 2), none⟩] false) .ret))
theorem has125 : Has cx 125 6 m125 [(.tmp 2)] :=
  ⟨⟨Try.f125, Try.f125.body.getD .skip, by kernel_rfl, by kernel_rfl, by kernel_rfl, by kernel_rfl, by kernel_rfl, by kernel_rfl⟩⟩
theorem evgc1 (fs : List (Int × Int)) (hln : fs.length ≤ 1048576) : Ev cx 125 [.sl 0 0 fs.length] [⟨fns fs, 2, 0, some 0, false⟩] (.bool (!allFunc fs)) [⟨fns fs, 2, 0, some 0, false⟩] := by
  refine has125.eev rfl rfl ?_
  unfold m125
  repeat' (first
    | (refine g_op ?_; first
      | refine ep_mov rfl ?_
      | refine ep_call0 rfl (by first | exact ev73 fs hln) rfl rfl ?_
      | refine sp_call rfl rfl rfl rfl (by first | exact ev73 fs hln) ⟨rfl, rfl, rfl, rfl⟩ rfl rfl rfl ?_
      | refine ep_not rfl ?_)
    | (refine g_ops ?_; first | refine eo_none ?_ | refine eo_nil ?_)
    | (refine g_code ?_; first | refine ec_seq ?_ | refine ec_region ?_ | refine ec_ret ?_)
    | refine ek_seqN ?_ | refine ek_seqR ?_)
  refine sfin (.inr rfl) (by rfl) (by rfl) (by exact ⟨rfl, rfl, rfl⟩) (by rfl) (by rfl) (by rfl) (by first | rfl | (simp; done) | (simp [ints, prs]; done))
-- impl.generationCode$2
def m126 : MC := (.seq (.region [⟨(.box (.t 0)), (some 1), none⟩, ⟨(.mov (.k (.bool false))), (some 2), none⟩] false) (.seq (.region [⟨(.fieldAddr 0 (.t 1)), (some 3), none⟩, ⟨(.load none (.t 3)), (some 4), none⟩, ⟨(.bin .gtr (.t 4) (.k (.int .i64 2))), (some 5), none⟩, ⟨(.mov (.t 5)), (some 2), none⟩] false) .ret))
theorem has126 : Has cx 126 6 m126 [(.tmp 2)] :=
  ⟨⟨Try.f126, Try.f126.body.getD .skip, by kernel_rfl, by kernel_rfl, by kernel_rfl, by kernel_rfl, by kernel_rfl, by kernel_rfl⟩⟩
theorem evgc2 (a b : Int) : Ev cx 126 [.agg [.int .i64 a, .int .i64 b]] [] (.bool (decide (a > 2))) [] := by
  refine has126.eev rfl rfl ?_
  unfold m126
  repeat' (first
    | (refine g_op ?_; first
      | refine ep_mov rfl ?_ | refine ep_load1 rfl rfl rfl rfl ?_ | refine ep_fieldAddr rfl ?_
      | refine ep_bin rfl rfl (by exact b_gtr) ?_ | refine sp_box rfl rfl rfl rfl rfl ?_)
    | (refine g_ops ?_; first | refine eo_none ?_ | refine eo_nil ?_)
    | (refine g_code ?_; first | refine ec_seq ?_ | refine ec_region ?_ | refine ec_ret ?_)
    | refine ek_seqN ?_ | refine ek_seqR ?_)
  refine sfin (.inr rfl) (by rfl) (by rfl) (by exact ⟨rfl, rfl, rfl⟩) (by rfl) (by rfl) (by rfl) (by first | rfl | (simp; done) | (simp [ints, prs]; done))
-- slices.IndexFunc[[][]impl.Func,[]impl.Func]
def m144_0 : MC := (.seq (.region [⟨(.bin .lss (.t 8) (.t 7)), (some 9), none⟩] false) (.seq (.cond (.t 9) .skip (.exit 0)) (.seq (.block 1 (.seq (.region [⟨(.mov (.t 8)), (some 10), none⟩, ⟨(.mov (.t 10)), (some 5), none⟩] false) (.seq (.region [⟨(.mov (.t 1)), (some 11), none⟩, ⟨(.mov (.t 0)), (some 12), none⟩, ⟨(.mov (.t 5)), (some 13), none⟩, ⟨(.indexAddr 1 (.t 12) (.t 13)), (some 14), none⟩, ⟨(.load none (.t 14)), (some 15), none⟩, ⟨(.callv (.t 11) [(.t 15)]), (some 16), none⟩] false) (.cond (.t 16) (.seq (.region [⟨(.mov (.t 5)), (some 17), none⟩, ⟨(.mov (.t 17)), (some 4), none⟩] false) .ret) .skip)))) (.region [⟨(.bin .add (.t 8) (.k (.int .i64 1))), (some 18), none⟩, ⟨(.mov (.t 18)), (some 8), none⟩] false))))
def m144 : MC := (.seq (.region [⟨(.mov (.k (.int .i64 0))), (some 4), none⟩] false) (.seq (.seq (.region [⟨(.mov (.t 0)), (some 6), none⟩, ⟨(.len (.t 6)), (some 7), none⟩, ⟨(.mov (.k (.int .i64 0))), (some 8), none⟩] false) (.block 0 (.loop m144_0))) (.seq (.region [⟨(.mov (.k (.int .i64 (-1)))), (some 4), none⟩] false) .ret)))
theorem has144 : Has cx 144 19 m144 [(.tmp 4)] :=
  ⟨⟨Try.f144, Try.f144.body.getD .skip, by kernel_rfl, by kernel_rfl, by kernel_rfl, by kernel_rfl, by kernel_rfl, by kernel_rfl⟩⟩

-- slices.ContainsFunc[[][]impl.Func,[]impl.Func]
def m124 : MC := (.seq (.region [⟨(.mov (.k (.bool false))), (some 4), none⟩] false) (.seq (.region [⟨(.mov (.t 0)), (some 5), none⟩, ⟨(.mov (.t 1)), (some 6), none⟩, ⟨(.call 144 [(.t 5), (.t 6)]), (some 7), none⟩, ⟨(.bin .geq (.t 7) (.k (.int .i64 0))), (some 8), none⟩, ⟨(.mov (.t 8)), (some 4), none⟩] false) .ret))
theorem has124 : Has cx 124 9 m124 [(.tmp 4)] :=
  ⟨⟨Try.f124, Try.f124.body.getD .skip, by kernel_rfl, by kernel_rfl, by kernel_rfl, by kernel_rfl, by kernel_rfl, by kernel_rfl⟩⟩


end Go.Proofs.Ytdmpajkcpdjfbaa
