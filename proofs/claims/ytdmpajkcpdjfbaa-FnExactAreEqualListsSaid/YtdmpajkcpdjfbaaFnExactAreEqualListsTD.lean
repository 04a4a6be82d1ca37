/- What each function that the statement reaches returns. -/
import Derived.Test.YtdmpajkcpdjfbaaFnExactAreEqualListsTC
set_option linter.unusedVariables false
set_option linter.unusedSimpArgs false
set_option maxRecDepth 100000
set_option maxHeartbeats 4000000
namespace Go.Proofs.Ytdmpajkcpdjfbaa
open Go Go.Proofs.Ytdmpajkcpdjfbaa.Mi
attribute [local irreducible] code opsK opsDK gopK opK seqK blockK callK binV
attribute [local irreducible] R2 bt
-- laws.FnExactAreEqualLists
def m11 : MC := (.seq (.region [⟨(.mov (.k (.bool false))), (some 6), none⟩] false) (.seq (.region [⟨(.mov (.k (.int .i64 1048576))), (some 7), none⟩] false) (.seq (.region [⟨(.mov (.t 0)), (some 14), none⟩, ⟨(.mov (.t 7)), (some 15), none⟩, ⟨(.call 26 [(.t 14), (.t 15)]), (some 16), none⟩, ⟨(.mov (.t 16)), (some 7), none⟩] false) (.seq (.seq (.region [⟨(.mov (.t 7)), (some 17), none⟩, ⟨(.bin .lss (.t 17) (.k (.int .i64 0))), (some 18), none⟩] false) (.cond (.t 18) (.seq (.region [⟨(.mov (.k (.bool true))), (some 6), none⟩] false) .ret) .skip)) (.seq (.region [⟨(.mov (.t 1)), (some 19), none⟩, ⟨(.mov (.t 7)), (some 20), none⟩, ⟨(.call 26 [(.t 19), (.t 20)]), (some 21), none⟩, ⟨(.mov (.t 21)), (some 7), none⟩] false) (.seq (.seq (.region [⟨(.mov (.t 7)), (some 22), none⟩, ⟨(.bin .lss (.t 22) (.k (.int .i64 0))), (some 23), none⟩] false) (.cond (.t 23) (.seq (.region [⟨(.mov (.k (.bool true))), (some 6), none⟩] false) .ret) .skip)) (.seq (.region [⟨(.mov (.t 0)), (some 25), none⟩, ⟨(.call 28 [(.t 25)]), (some 26), none⟩, ⟨(.mov (.t 1)), (some 27), none⟩, ⟨(.call 28 [(.t 27)]), (some 28), none⟩, ⟨(.mov (.t 2)), (some 29), none⟩, ⟨(.call 41 [(.t 26), (.t 28), (.t 29)]), (some 30), none⟩, ⟨(.mov (.t 30)), (some 24), none⟩, ⟨(.extract (.t 24) 0), (some 31), none⟩, ⟨(.extract (.t 24) 1), (some 32), none⟩, ⟨(.mov (.t 31)), (some 8), none⟩, ⟨(.mov (.t 32)), (some 9), none⟩] false) (.seq (.region [⟨(.mov (.t 0)), (some 33), none⟩, ⟨(.call 28 [(.t 33)]), (some 34), none⟩, ⟨(.mov (.t 34)), (some 10), none⟩] false) (.seq (.region [⟨(.mov (.t 1)), (some 35), none⟩, ⟨(.call 28 [(.t 35)]), (some 36), none⟩, ⟨(.mov (.t 36)), (some 11), none⟩] false) (.seq (.region [⟨(.mov (.t 10)), (some 38), none⟩, ⟨(.mov (.t 11)), (some 39), none⟩, ⟨(.mov (.t 2)), (some 40), none⟩, ⟨(.call 42 [(.t 38), (.t 39), (.t 40)]), (some 41), none⟩, ⟨(.mov (.t 41)), (some 37), none⟩, ⟨(.extract (.t 37) 0), (some 42), none⟩, ⟨(.extract (.t 37) 1), (some 43), none⟩, ⟨(.mov (.t 42)), (some 12), none⟩, ⟨(.mov (.t 43)), (some 13), none⟩] false) (.seq (.seq (.region [⟨(.mov (.t 12)), (some 44), none⟩, ⟨(.mov (.t 8)), (some 45), none⟩, ⟨(.eqb true (.t 44) (.t 45)), (some 46), none⟩, ⟨(.mov (.t 46)), (some 47), none⟩, ⟨(.mov (.t 13)), (some 48), (some (47, false))⟩, ⟨(.mov (.t 9)), (some 49), (some (47, false))⟩, ⟨(.bin .neq (.t 48) (.t 49)), (some 50), (some (47, false))⟩, ⟨(.pick (.t 47) (.k (.bool true)) (.t 50)), (some 51), none⟩] false) (.cond (.t 51) (.seq (.region [⟨(.mov (.k (.bool false))), (some 6), none⟩] false) .ret) .skip)) (.seq (.seq (.region [⟨(.mov (.t 10)), (some 52), none⟩, ⟨(.mov (.t 0)), (some 53), none⟩, ⟨(.call 28 [(.t 53)]), (some 54), none⟩, ⟨(.call 32 [(.t 52), (.t 54)]), (some 55), none⟩, ⟨(.un .not (.t 55)), (some 56), none⟩] false) (.cond (.t 56) (.seq (.region [⟨(.mov (.k (.bool false))), (some 6), none⟩] false) .ret) .skip)) (.seq (.seq (.region [⟨(.mov (.t 11)), (some 57), none⟩, ⟨(.mov (.t 1)), (some 58), none⟩, ⟨(.call 28 [(.t 58)]), (some 59), none⟩, ⟨(.call 32 [(.t 57), (.t 59)]), (some 60), none⟩, ⟨(.un .not (.t 60)), (some 61), none⟩] false) (.cond (.t 61) (.seq (.region [⟨(.mov (.k (.bool false))), (some 6), none⟩] false) .ret) .skip)) (.seq (.region [⟨(.mov (.k (.bool true))), (some 6), none⟩] false) .ret))))))))))))))
theorem has11 : Has cx 11 62 m11 [(.tmp 6)] :=
  ⟨⟨Try.f11, Try.f11.body.getD .skip, by kernel_rfl, by kernel_rfl, by kernel_rfl, by kernel_rfl, by kernel_rfl, by kernel_rfl⟩⟩
-- ROW ev11: bd0 bd1
theorem ev11 (a b : V) (z : Int) (h : Heap) (c d : List Int) (fa : FA2 .i64 2 a b h c d) (hb : c.length ≤ 2 * Go.maxLen) (hb2 : d.length ≤ 2 * Go.maxLen) : Ev cx 11 [a, b, .int .i64 z] h (.bool true) h := by
  have hml : Go.maxLen = 9223372036854775807 := by decide
  cases fa with
  | l _ _ _ _ _ f1 f2 =>
    cases f1 with
    | nil =>
      cases f2 with
      | nil =>
        have s0 := evszg_nils 1048576 (by omega) (by omega)
        have e6 := ev28_nils
        rw [show zints [] = fns [] from rfl] at e6
        have s1 := evszg_nils 1048576 (by omega) (by omega)
        have e7 := ev28_nils
        rw [show zints [] = fns [] from rfl] at e7
        have e1 := ev41 [] [] (by simp) (by simp) z
        have e2 := ev42 [] [] (by simp) (by simp) z
        skip
        have hr0 : (aeB [] [] z != aeB [] [] z) = false := by simp
        have hr1 : (gcode2 [] [] z != gcode2 [] [] z) = false := by simp
        have q3 := ev32 0 (fns []) (fns []) (fun j => ([] : List (Int × Int)).getD j (0, 0)) (some 0) (some 0) (by omega) (fun j hj => fns_pair (by simp at hj)) (fun j hj => fns_pair (by simp at hj))
        have q4 := ev32 0 (fns []) (fns []) (fun j => ([] : List (Int × Int)).getD j (0, 0)) (some 0) (some 0) (by omega) (fun j hj => fns_pair (by simp at hj)) (fun j hj => fns_pair (by simp at hj))
        refine has11.eev rfl rfl ?_
        unfold m11
        repeat' (first
          | (refine g_op ?_; first
            | refine ep_mov rfl ?_
            | refine ep_call0 rfl (by first | exact s0 | exact s1 | exact e6 | exact e7 | exact e1 | exact e2 | exact q3 | exact q4) rfl rfl ?_
            | refine sp_call rfl rfl rfl rfl (by first | exact s0 | exact s1 | exact e6 | exact e7 | exact e1 | exact e2 | exact q3 | exact q4) ⟨rfl, rfl, rfl, rfl⟩ rfl rfl rfl ?_
            | refine ep_bin rfl rfl (by first | exact b_add (by omega) (by omega) | exact b_sub (by omega) (by omega) | exact b_and (by omega) (by omega) | exact b_or (by omega) (by omega) | exact b_shr (by omega) | exact b_shl (by omega) (by omega) | exact b_lss | exact b_leq | exact b_gtr | exact b_geq | exact b_eql | exact b_neq) ?_
            | refine ep_pickT rfl rfl ?_ | refine ep_pickF rfl rfl ?_ | refine ep_pickTH rfl (by assumption) rfl ?_ | refine ep_pickFH rfl (by assumption) rfl ?_ | refine ep_extract rfl rfl ?_ | refine ep_not rfl ?_
            | refine ep_eqb0 rfl rfl ?_ | refine ep_eqb1 rfl rfl ?_)
          | (refine g_ops ?_; first | refine eo_none ?_ | refine eo_nil ?_ | refine eo_yes rfl ?_ | refine eo_no rfl ?_ | refine eo_und rfl ?_ | refine eo_yesH rfl (by assumption) ?_ | refine eo_noH rfl (by assumption) ?_)
          | (refine g_code ?_; first | refine ec_seq ?_ | refine ec_region ?_ | refine ec_skip ?_ | refine ec_ret ?_ | refine ec_condT rfl ?_ | refine ec_condF rfl ?_ | refine ec_condTH rfl (by assumption) ?_ | refine ec_condFH rfl (by assumption) ?_)
          | refine ek_seqN ?_ | refine ek_seqR ?_)
        refine sfin (.inr rfl) (by rfl) (by rfl) (by exact ⟨rfl, rfl, rfl⟩) (by rfl) (by rfl) (by rfl) (by first | rfl | (simp; done) | (simp [ints, prs]; done))
      | emp =>
        have s0 := evszg_nils 1048576 (by omega) (by omega)
        have e6 := ev28_nils
        rw [show zints [] = fns [] from rfl] at e6
        have s1 := evszg_emp 1048576 (by omega) (by omega)
        have e7 := ev28_emp
        rw [show zints [] = fns [] from rfl] at e7
        have e1 := ev41 [] [] (by simp) (by simp) z
        have e2 := ev42 [] [] (by simp) (by simp) z
        skip
        have hr0 : (aeB [] [] z != aeB [] [] z) = false := by simp
        have hr1 : (gcode2 [] [] z != gcode2 [] [] z) = false := by simp
        have q3 := ev32 0 (fns []) (fns []) (fun j => ([] : List (Int × Int)).getD j (0, 0)) (some 0) (some 0) (by omega) (fun j hj => fns_pair (by simp at hj)) (fun j hj => fns_pair (by simp at hj))
        have q4 := ev32 0 (fns []) (fns []) (fun j => ([] : List (Int × Int)).getD j (0, 0)) (some 0) (some 0) (by omega) (fun j hj => fns_pair (by simp at hj)) (fun j hj => fns_pair (by simp at hj))
        refine has11.eev rfl rfl ?_
        unfold m11
        repeat' (first
          | (refine g_op ?_; first
            | refine ep_mov rfl ?_
            | refine ep_call0 rfl (by first | exact s0 | exact s1 | exact e6 | exact e7 | exact e1 | exact e2 | exact q3 | exact q4) rfl rfl ?_
            | refine sp_call rfl rfl rfl rfl (by first | exact s0 | exact s1 | exact e6 | exact e7 | exact e1 | exact e2 | exact q3 | exact q4) ⟨rfl, rfl, rfl, rfl⟩ rfl rfl rfl ?_
            | refine ep_bin rfl rfl (by first | exact b_add (by omega) (by omega) | exact b_sub (by omega) (by omega) | exact b_and (by omega) (by omega) | exact b_or (by omega) (by omega) | exact b_shr (by omega) | exact b_shl (by omega) (by omega) | exact b_lss | exact b_leq | exact b_gtr | exact b_geq | exact b_eql | exact b_neq) ?_
            | refine ep_pickT rfl rfl ?_ | refine ep_pickF rfl rfl ?_ | refine ep_pickTH rfl (by assumption) rfl ?_ | refine ep_pickFH rfl (by assumption) rfl ?_ | refine ep_extract rfl rfl ?_ | refine ep_not rfl ?_
            | refine ep_eqb0 rfl rfl ?_ | refine ep_eqb1 rfl rfl ?_)
          | (refine g_ops ?_; first | refine eo_none ?_ | refine eo_nil ?_ | refine eo_yes rfl ?_ | refine eo_no rfl ?_ | refine eo_und rfl ?_ | refine eo_yesH rfl (by assumption) ?_ | refine eo_noH rfl (by assumption) ?_)
          | (refine g_code ?_; first | refine ec_seq ?_ | refine ec_region ?_ | refine ec_skip ?_ | refine ec_ret ?_ | refine ec_condT rfl ?_ | refine ec_condF rfl ?_ | refine ec_condTH rfl (by assumption) ?_ | refine ec_condFH rfl (by assumption) ?_)
          | refine ek_seqN ?_ | refine ek_seqR ?_)
        refine sfin (.inr rfl) (by rfl) (by rfl) (by exact ⟨rfl, rfl, rfl⟩) (by rfl) (by rfl) (by rfl) (by first | rfl | (simp; done) | (simp [ints, prs]; done))
    | emp =>
      cases f2 with
      | nil =>
        have s0 := evszg_emp 1048576 (by omega) (by omega)
        have e6 := ev28_emp
        rw [show zints [] = fns [] from rfl] at e6
        have s1 := evszg_nils 1048576 (by omega) (by omega)
        have e7 := ev28_nils
        rw [show zints [] = fns [] from rfl] at e7
        have e1 := ev41 [] [] (by simp) (by simp) z
        have e2 := ev42 [] [] (by simp) (by simp) z
        skip
        have hr0 : (aeB [] [] z != aeB [] [] z) = false := by simp
        have hr1 : (gcode2 [] [] z != gcode2 [] [] z) = false := by simp
        have q3 := ev32 0 (fns []) (fns []) (fun j => ([] : List (Int × Int)).getD j (0, 0)) (some 0) (some 0) (by omega) (fun j hj => fns_pair (by simp at hj)) (fun j hj => fns_pair (by simp at hj))
        have q4 := ev32 0 (fns []) (fns []) (fun j => ([] : List (Int × Int)).getD j (0, 0)) (some 0) (some 0) (by omega) (fun j hj => fns_pair (by simp at hj)) (fun j hj => fns_pair (by simp at hj))
        refine has11.eev rfl rfl ?_
        unfold m11
        repeat' (first
          | (refine g_op ?_; first
            | refine ep_mov rfl ?_
            | refine ep_call0 rfl (by first | exact s0 | exact s1 | exact e6 | exact e7 | exact e1 | exact e2 | exact q3 | exact q4) rfl rfl ?_
            | refine sp_call rfl rfl rfl rfl (by first | exact s0 | exact s1 | exact e6 | exact e7 | exact e1 | exact e2 | exact q3 | exact q4) ⟨rfl, rfl, rfl, rfl⟩ rfl rfl rfl ?_
            | refine ep_bin rfl rfl (by first | exact b_add (by omega) (by omega) | exact b_sub (by omega) (by omega) | exact b_and (by omega) (by omega) | exact b_or (by omega) (by omega) | exact b_shr (by omega) | exact b_shl (by omega) (by omega) | exact b_lss | exact b_leq | exact b_gtr | exact b_geq | exact b_eql | exact b_neq) ?_
            | refine ep_pickT rfl rfl ?_ | refine ep_pickF rfl rfl ?_ | refine ep_pickTH rfl (by assumption) rfl ?_ | refine ep_pickFH rfl (by assumption) rfl ?_ | refine ep_extract rfl rfl ?_ | refine ep_not rfl ?_
            | refine ep_eqb0 rfl rfl ?_ | refine ep_eqb1 rfl rfl ?_)
          | (refine g_ops ?_; first | refine eo_none ?_ | refine eo_nil ?_ | refine eo_yes rfl ?_ | refine eo_no rfl ?_ | refine eo_und rfl ?_ | refine eo_yesH rfl (by assumption) ?_ | refine eo_noH rfl (by assumption) ?_)
          | (refine g_code ?_; first | refine ec_seq ?_ | refine ec_region ?_ | refine ec_skip ?_ | refine ec_ret ?_ | refine ec_condT rfl ?_ | refine ec_condF rfl ?_ | refine ec_condTH rfl (by assumption) ?_ | refine ec_condFH rfl (by assumption) ?_)
          | refine ek_seqN ?_ | refine ek_seqR ?_)
        refine sfin (.inr rfl) (by rfl) (by rfl) (by exact ⟨rfl, rfl, rfl⟩) (by rfl) (by rfl) (by rfl) (by first | rfl | (simp; done) | (simp [ints, prs]; done))
      | emp =>
        have s0 := evszg_emp 1048576 (by omega) (by omega)
        have e6 := ev28_emp
        rw [show zints [] = fns [] from rfl] at e6
        have s1 := evszg_emp 1048576 (by omega) (by omega)
        have e7 := ev28_emp
        rw [show zints [] = fns [] from rfl] at e7
        have e1 := ev41 [] [] (by simp) (by simp) z
        have e2 := ev42 [] [] (by simp) (by simp) z
        skip
        have hr0 : (aeB [] [] z != aeB [] [] z) = false := by simp
        have hr1 : (gcode2 [] [] z != gcode2 [] [] z) = false := by simp
        have q3 := ev32 0 (fns []) (fns []) (fun j => ([] : List (Int × Int)).getD j (0, 0)) (some 0) (some 0) (by omega) (fun j hj => fns_pair (by simp at hj)) (fun j hj => fns_pair (by simp at hj))
        have q4 := ev32 0 (fns []) (fns []) (fun j => ([] : List (Int × Int)).getD j (0, 0)) (some 0) (some 0) (by omega) (fun j hj => fns_pair (by simp at hj)) (fun j hj => fns_pair (by simp at hj))
        refine has11.eev rfl rfl ?_
        unfold m11
        repeat' (first
          | (refine g_op ?_; first
            | refine ep_mov rfl ?_
            | refine ep_call0 rfl (by first | exact s0 | exact s1 | exact e6 | exact e7 | exact e1 | exact e2 | exact q3 | exact q4) rfl rfl ?_
            | refine sp_call rfl rfl rfl rfl (by first | exact s0 | exact s1 | exact e6 | exact e7 | exact e1 | exact e2 | exact q3 | exact q4) ⟨rfl, rfl, rfl, rfl⟩ rfl rfl rfl ?_
            | refine ep_bin rfl rfl (by first | exact b_add (by omega) (by omega) | exact b_sub (by omega) (by omega) | exact b_and (by omega) (by omega) | exact b_or (by omega) (by omega) | exact b_shr (by omega) | exact b_shl (by omega) (by omega) | exact b_lss | exact b_leq | exact b_gtr | exact b_geq | exact b_eql | exact b_neq) ?_
            | refine ep_pickT rfl rfl ?_ | refine ep_pickF rfl rfl ?_ | refine ep_pickTH rfl (by assumption) rfl ?_ | refine ep_pickFH rfl (by assumption) rfl ?_ | refine ep_extract rfl rfl ?_ | refine ep_not rfl ?_
            | refine ep_eqb0 rfl rfl ?_ | refine ep_eqb1 rfl rfl ?_)
          | (refine g_ops ?_; first | refine eo_none ?_ | refine eo_nil ?_ | refine eo_yes rfl ?_ | refine eo_no rfl ?_ | refine eo_und rfl ?_ | refine eo_yesH rfl (by assumption) ?_ | refine eo_noH rfl (by assumption) ?_)
          | (refine g_code ?_; first | refine ec_seq ?_ | refine ec_region ?_ | refine ec_skip ?_ | refine ec_ret ?_ | refine ec_condT rfl ?_ | refine ec_condF rfl ?_ | refine ec_condTH rfl (by assumption) ?_ | refine ec_condFH rfl (by assumption) ?_)
          | refine ek_seqN ?_ | refine ek_seqR ?_)
        refine sfin (.inr rfl) (by rfl) (by rfl) (by exact ⟨rfl, rfl, rfl⟩) (by rfl) (by rfl) (by rfl) (by first | rfl | (simp; done) | (simp [ints, prs]; done))
    | sl o n c hc =>
      cases f2 with
      | nil =>
        by_cases h5 : (n : Int) ≤ 1048576
        · have s0 := evszg o n 1048576 c (by omega) (by omega) (by omega)
          rw [if_pos h5] at s0
          have g0 : decide ((1048576 - (n : Nat) : Int) < 0) = false := decide_eq_false (by omega)
          have e6 := ev28 o n c hc (by omega)
          rw [prOf_fns n c hc] at e6
          have s1 := evszg_nils (1048576 - (n : Nat) : Int) (by omega) (by omega)
          have e7 := ev28_nils
          rw [show zints [] = fns [] from rfl] at e7
          have e1 := ev41 (prOf c n) [] (by rw [prOf_len]; omega) (by simp) z
          have e2 := ev42 (prOf c n) [] (by rw [prOf_len]; omega) (by simp) z
          rw [prOf_len] at e1 e2
          have hr0 : (aeB (prOf c n) [] z != aeB (prOf c n) [] z) = false := by simp
          have hr1 : (gcode2 (prOf c n) [] z != gcode2 (prOf c n) [] z) = false := by simp
          have q3 := ev32 n (fns (prOf c n)) (fns (prOf c n)) (fun j => ((prOf c n) : List (Int × Int)).getD j (0, 0)) (some 0) (some 0) (by omega) (fun j hj => fns_pair (by rwa [prOf_len])) (fun j hj => fns_pair (by rwa [prOf_len]))
          have q4 := ev32 0 (fns []) (fns []) (fun j => ([] : List (Int × Int)).getD j (0, 0)) (some 0) (some 0) (by omega) (fun j hj => fns_pair (by simp at hj)) (fun j hj => fns_pair (by simp at hj))
          refine has11.eev rfl rfl ?_
          unfold m11
          repeat' (first
            | (refine g_op ?_; first
              | refine ep_mov rfl ?_
              | refine ep_call0 rfl (by first | exact s0 | exact s1 | exact e6 | exact e7 | exact e1 | exact e2 | exact q3 | exact q4) rfl rfl ?_
              | refine sp_call rfl rfl rfl rfl (by first | exact s0 | exact s1 | exact e6 | exact e7 | exact e1 | exact e2 | exact q3 | exact q4) ⟨rfl, rfl, rfl, rfl⟩ rfl rfl rfl ?_
              | refine ep_bin rfl rfl (by first | exact b_add (by omega) (by omega) | exact b_sub (by omega) (by omega) | exact b_and (by omega) (by omega) | exact b_or (by omega) (by omega) | exact b_shr (by omega) | exact b_shl (by omega) (by omega) | exact b_lss | exact b_leq | exact b_gtr | exact b_geq | exact b_eql | exact b_neq) ?_
              | refine ep_pickT rfl rfl ?_ | refine ep_pickF rfl rfl ?_ | refine ep_pickTH rfl (by assumption) rfl ?_ | refine ep_pickFH rfl (by assumption) rfl ?_ | refine ep_extract rfl rfl ?_ | refine ep_not rfl ?_
              | refine ep_eqb0 rfl rfl ?_ | refine ep_eqb1 rfl rfl ?_)
            | (refine g_ops ?_; first | refine eo_none ?_ | refine eo_nil ?_ | refine eo_yes rfl ?_ | refine eo_no rfl ?_ | refine eo_und rfl ?_ | refine eo_yesH rfl (by assumption) ?_ | refine eo_noH rfl (by assumption) ?_)
            | (refine g_code ?_; first | refine ec_seq ?_ | refine ec_region ?_ | refine ec_skip ?_ | refine ec_ret ?_ | refine ec_condT rfl ?_ | refine ec_condF rfl ?_ | refine ec_condTH rfl (by assumption) ?_ | refine ec_condFH rfl (by assumption) ?_)
            | refine ek_seqN ?_ | refine ek_seqR ?_)
          refine sfin (.inr rfl) (by rfl) (by rfl) (by exact ⟨rfl, rfl, rfl⟩) (by rfl) (by rfl) (by rfl) (by first | rfl | (simp; done) | (simp [ints, prs]; done))
        · have s0 := evszg o n 1048576 c (by omega) (by omega) (by omega)
          rw [if_neg h5] at s0
          refine has11.eev rfl rfl ?_
          unfold m11
          repeat' (first
            | (refine g_op ?_; first
              | refine ep_mov rfl ?_
              | refine ep_call0 rfl (by first | exact s0) rfl rfl ?_
              | refine sp_call rfl rfl rfl rfl (by first | exact s0) ⟨rfl, rfl, rfl, rfl⟩ rfl rfl rfl ?_
              | refine ep_bin rfl rfl (by first | exact b_add (by omega) (by omega) | exact b_sub (by omega) (by omega) | exact b_and (by omega) (by omega) | exact b_or (by omega) (by omega) | exact b_shr (by omega) | exact b_shl (by omega) (by omega) | exact b_lss | exact b_leq | exact b_gtr | exact b_geq | exact b_eql | exact b_neq) ?_
              | refine ep_pickT rfl rfl ?_ | refine ep_pickF rfl rfl ?_ | refine ep_pickTH rfl (by assumption) rfl ?_ | refine ep_pickFH rfl (by assumption) rfl ?_ | refine ep_extract rfl rfl ?_ | refine ep_not rfl ?_
              | refine ep_eqb0 rfl rfl ?_ | refine ep_eqb1 rfl rfl ?_)
            | (refine g_ops ?_; first | refine eo_none ?_ | refine eo_nil ?_ | refine eo_yes rfl ?_ | refine eo_no rfl ?_ | refine eo_und rfl ?_ | refine eo_yesH rfl (by assumption) ?_ | refine eo_noH rfl (by assumption) ?_)
            | (refine g_code ?_; first | refine ec_seq ?_ | refine ec_region ?_ | refine ec_skip ?_ | refine ec_ret ?_ | refine ec_condT rfl ?_ | refine ec_condF rfl ?_ | refine ec_condTH rfl (by assumption) ?_ | refine ec_condFH rfl (by assumption) ?_)
            | refine ek_seqN ?_ | refine ek_seqR ?_)
          refine sfin (.inr rfl) (by rfl) (by rfl) (by exact ⟨rfl, rfl, rfl⟩) (by rfl) (by rfl) (by rfl) (by first | rfl | (simp; done) | (simp [ints, prs]; done))
      | emp =>
        by_cases h5 : (n : Int) ≤ 1048576
        · have s0 := evszg o n 1048576 c (by omega) (by omega) (by omega)
          rw [if_pos h5] at s0
          have g0 : decide ((1048576 - (n : Nat) : Int) < 0) = false := decide_eq_false (by omega)
          have e6 := ev28 o n c hc (by omega)
          rw [prOf_fns n c hc] at e6
          have s1 := evszg_emp (1048576 - (n : Nat) : Int) (by omega) (by omega)
          have e7 := ev28_emp
          rw [show zints [] = fns [] from rfl] at e7
          have e1 := ev41 (prOf c n) [] (by rw [prOf_len]; omega) (by simp) z
          have e2 := ev42 (prOf c n) [] (by rw [prOf_len]; omega) (by simp) z
          rw [prOf_len] at e1 e2
          have hr0 : (aeB (prOf c n) [] z != aeB (prOf c n) [] z) = false := by simp
          have hr1 : (gcode2 (prOf c n) [] z != gcode2 (prOf c n) [] z) = false := by simp
          have q3 := ev32 n (fns (prOf c n)) (fns (prOf c n)) (fun j => ((prOf c n) : List (Int × Int)).getD j (0, 0)) (some 0) (some 0) (by omega) (fun j hj => fns_pair (by rwa [prOf_len])) (fun j hj => fns_pair (by rwa [prOf_len]))
          have q4 := ev32 0 (fns []) (fns []) (fun j => ([] : List (Int × Int)).getD j (0, 0)) (some 0) (some 0) (by omega) (fun j hj => fns_pair (by simp at hj)) (fun j hj => fns_pair (by simp at hj))
          refine has11.eev rfl rfl ?_
          unfold m11
          repeat' (first
            | (refine g_op ?_; first
              | refine ep_mov rfl ?_
              | refine ep_call0 rfl (by first | exact s0 | exact s1 | exact e6 | exact e7 | exact e1 | exact e2 | exact q3 | exact q4) rfl rfl ?_
              | refine sp_call rfl rfl rfl rfl (by first | exact s0 | exact s1 | exact e6 | exact e7 | exact e1 | exact e2 | exact q3 | exact q4) ⟨rfl, rfl, rfl, rfl⟩ rfl rfl rfl ?_
              | refine ep_bin rfl rfl (by first | exact b_add (by omega) (by omega) | exact b_sub (by omega) (by omega) | exact b_and (by omega) (by omega) | exact b_or (by omega) (by omega) | exact b_shr (by omega) | exact b_shl (by omega) (by omega) | exact b_lss | exact b_leq | exact b_gtr | exact b_geq | exact b_eql | exact b_neq) ?_
              | refine ep_pickT rfl rfl ?_ | refine ep_pickF rfl rfl ?_ | refine ep_pickTH rfl (by assumption) rfl ?_ | refine ep_pickFH rfl (by assumption) rfl ?_ | refine ep_extract rfl rfl ?_ | refine ep_not rfl ?_
              | refine ep_eqb0 rfl rfl ?_ | refine ep_eqb1 rfl rfl ?_)
            | (refine g_ops ?_; first | refine eo_none ?_ | refine eo_nil ?_ | refine eo_yes rfl ?_ | refine eo_no rfl ?_ | refine eo_und rfl ?_ | refine eo_yesH rfl (by assumption) ?_ | refine eo_noH rfl (by assumption) ?_)
            | (refine g_code ?_; first | refine ec_seq ?_ | refine ec_region ?_ | refine ec_skip ?_ | refine ec_ret ?_ | refine ec_condT rfl ?_ | refine ec_condF rfl ?_ | refine ec_condTH rfl (by assumption) ?_ | refine ec_condFH rfl (by assumption) ?_)
            | refine ek_seqN ?_ | refine ek_seqR ?_)
          refine sfin (.inr rfl) (by rfl) (by rfl) (by exact ⟨rfl, rfl, rfl⟩) (by rfl) (by rfl) (by rfl) (by first | rfl | (simp; done) | (simp [ints, prs]; done))
        · have s0 := evszg o n 1048576 c (by omega) (by omega) (by omega)
          rw [if_neg h5] at s0
          refine has11.eev rfl rfl ?_
          unfold m11
          repeat' (first
            | (refine g_op ?_; first
              | refine ep_mov rfl ?_
              | refine ep_call0 rfl (by first | exact s0) rfl rfl ?_
              | refine sp_call rfl rfl rfl rfl (by first | exact s0) ⟨rfl, rfl, rfl, rfl⟩ rfl rfl rfl ?_
              | refine ep_bin rfl rfl (by first | exact b_add (by omega) (by omega) | exact b_sub (by omega) (by omega) | exact b_and (by omega) (by omega) | exact b_or (by omega) (by omega) | exact b_shr (by omega) | exact b_shl (by omega) (by omega) | exact b_lss | exact b_leq | exact b_gtr | exact b_geq | exact b_eql | exact b_neq) ?_
              | refine ep_pickT rfl rfl ?_ | refine ep_pickF rfl rfl ?_ | refine ep_pickTH rfl (by assumption) rfl ?_ | refine ep_pickFH rfl (by assumption) rfl ?_ | refine ep_extract rfl rfl ?_ | refine ep_not rfl ?_
              | refine ep_eqb0 rfl rfl ?_ | refine ep_eqb1 rfl rfl ?_)
            | (refine g_ops ?_; first | refine eo_none ?_ | refine eo_nil ?_ | refine eo_yes rfl ?_ | refine eo_no rfl ?_ | refine eo_und rfl ?_ | refine eo_yesH rfl (by assumption) ?_ | refine eo_noH rfl (by assumption) ?_)
            | (refine g_code ?_; first | refine ec_seq ?_ | refine ec_region ?_ | refine ec_skip ?_ | refine ec_ret ?_ | refine ec_condT rfl ?_ | refine ec_condF rfl ?_ | refine ec_condTH rfl (by assumption) ?_ | refine ec_condFH rfl (by assumption) ?_)
            | refine ek_seqN ?_ | refine ek_seqR ?_)
          refine sfin (.inr rfl) (by rfl) (by rfl) (by exact ⟨rfl, rfl, rfl⟩) (by rfl) (by rfl) (by rfl) (by first | rfl | (simp; done) | (simp [ints, prs]; done))
  | r _ _ _ _ _ f1 f2 =>
    cases f1 with
    | nil =>
      cases f2 with
      | nil =>
        have s0 := evszg_nils 1048576 (by omega) (by omega)
        have e6 := ev28_nils
        rw [show zints [] = fns [] from rfl] at e6
        have s1 := evszg_nils 1048576 (by omega) (by omega)
        have e7 := ev28_nils
        rw [show zints [] = fns [] from rfl] at e7
        have e1 := ev41 [] [] (by simp) (by simp) z
        have e2 := ev42 [] [] (by simp) (by simp) z
        skip
        have hr0 : (aeB [] [] z != aeB [] [] z) = false := by simp
        have hr1 : (gcode2 [] [] z != gcode2 [] [] z) = false := by simp
        have q3 := ev32 0 (fns []) (fns []) (fun j => ([] : List (Int × Int)).getD j (0, 0)) (some 0) (some 0) (by omega) (fun j hj => fns_pair (by simp at hj)) (fun j hj => fns_pair (by simp at hj))
        have q4 := ev32 0 (fns []) (fns []) (fun j => ([] : List (Int × Int)).getD j (0, 0)) (some 0) (some 0) (by omega) (fun j hj => fns_pair (by simp at hj)) (fun j hj => fns_pair (by simp at hj))
        refine has11.eev rfl rfl ?_
        unfold m11
        repeat' (first
          | (refine g_op ?_; first
            | refine ep_mov rfl ?_
            | refine ep_call0 rfl (by first | exact s0 | exact s1 | exact e6 | exact e7 | exact e1 | exact e2 | exact q3 | exact q4) rfl rfl ?_
            | refine sp_call rfl rfl rfl rfl (by first | exact s0 | exact s1 | exact e6 | exact e7 | exact e1 | exact e2 | exact q3 | exact q4) ⟨rfl, rfl, rfl, rfl⟩ rfl rfl rfl ?_
            | refine ep_bin rfl rfl (by first | exact b_add (by omega) (by omega) | exact b_sub (by omega) (by omega) | exact b_and (by omega) (by omega) | exact b_or (by omega) (by omega) | exact b_shr (by omega) | exact b_shl (by omega) (by omega) | exact b_lss | exact b_leq | exact b_gtr | exact b_geq | exact b_eql | exact b_neq) ?_
            | refine ep_pickT rfl rfl ?_ | refine ep_pickF rfl rfl ?_ | refine ep_pickTH rfl (by assumption) rfl ?_ | refine ep_pickFH rfl (by assumption) rfl ?_ | refine ep_extract rfl rfl ?_ | refine ep_not rfl ?_
            | refine ep_eqb0 rfl rfl ?_ | refine ep_eqb1 rfl rfl ?_)
          | (refine g_ops ?_; first | refine eo_none ?_ | refine eo_nil ?_ | refine eo_yes rfl ?_ | refine eo_no rfl ?_ | refine eo_und rfl ?_ | refine eo_yesH rfl (by assumption) ?_ | refine eo_noH rfl (by assumption) ?_)
          | (refine g_code ?_; first | refine ec_seq ?_ | refine ec_region ?_ | refine ec_skip ?_ | refine ec_ret ?_ | refine ec_condT rfl ?_ | refine ec_condF rfl ?_ | refine ec_condTH rfl (by assumption) ?_ | refine ec_condFH rfl (by assumption) ?_)
          | refine ek_seqN ?_ | refine ek_seqR ?_)
        refine sfin (.inr rfl) (by rfl) (by rfl) (by exact ⟨rfl, rfl, rfl⟩) (by rfl) (by rfl) (by rfl) (by first | rfl | (simp; done) | (simp [ints, prs]; done))
      | emp =>
        have s0 := evszg_nils 1048576 (by omega) (by omega)
        have e6 := ev28_nils
        rw [show zints [] = fns [] from rfl] at e6
        have s1 := evszg_emp 1048576 (by omega) (by omega)
        have e7 := ev28_emp
        rw [show zints [] = fns [] from rfl] at e7
        have e1 := ev41 [] [] (by simp) (by simp) z
        have e2 := ev42 [] [] (by simp) (by simp) z
        skip
        have hr0 : (aeB [] [] z != aeB [] [] z) = false := by simp
        have hr1 : (gcode2 [] [] z != gcode2 [] [] z) = false := by simp
        have q3 := ev32 0 (fns []) (fns []) (fun j => ([] : List (Int × Int)).getD j (0, 0)) (some 0) (some 0) (by omega) (fun j hj => fns_pair (by simp at hj)) (fun j hj => fns_pair (by simp at hj))
        have q4 := ev32 0 (fns []) (fns []) (fun j => ([] : List (Int × Int)).getD j (0, 0)) (some 0) (some 0) (by omega) (fun j hj => fns_pair (by simp at hj)) (fun j hj => fns_pair (by simp at hj))
        refine has11.eev rfl rfl ?_
        unfold m11
        repeat' (first
          | (refine g_op ?_; first
            | refine ep_mov rfl ?_
            | refine ep_call0 rfl (by first | exact s0 | exact s1 | exact e6 | exact e7 | exact e1 | exact e2 | exact q3 | exact q4) rfl rfl ?_
            | refine sp_call rfl rfl rfl rfl (by first | exact s0 | exact s1 | exact e6 | exact e7 | exact e1 | exact e2 | exact q3 | exact q4) ⟨rfl, rfl, rfl, rfl⟩ rfl rfl rfl ?_
            | refine ep_bin rfl rfl (by first | exact b_add (by omega) (by omega) | exact b_sub (by omega) (by omega) | exact b_and (by omega) (by omega) | exact b_or (by omega) (by omega) | exact b_shr (by omega) | exact b_shl (by omega) (by omega) | exact b_lss | exact b_leq | exact b_gtr | exact b_geq | exact b_eql | exact b_neq) ?_
            | refine ep_pickT rfl rfl ?_ | refine ep_pickF rfl rfl ?_ | refine ep_pickTH rfl (by assumption) rfl ?_ | refine ep_pickFH rfl (by assumption) rfl ?_ | refine ep_extract rfl rfl ?_ | refine ep_not rfl ?_
            | refine ep_eqb0 rfl rfl ?_ | refine ep_eqb1 rfl rfl ?_)
          | (refine g_ops ?_; first | refine eo_none ?_ | refine eo_nil ?_ | refine eo_yes rfl ?_ | refine eo_no rfl ?_ | refine eo_und rfl ?_ | refine eo_yesH rfl (by assumption) ?_ | refine eo_noH rfl (by assumption) ?_)
          | (refine g_code ?_; first | refine ec_seq ?_ | refine ec_region ?_ | refine ec_skip ?_ | refine ec_ret ?_ | refine ec_condT rfl ?_ | refine ec_condF rfl ?_ | refine ec_condTH rfl (by assumption) ?_ | refine ec_condFH rfl (by assumption) ?_)
          | refine ek_seqN ?_ | refine ek_seqR ?_)
        refine sfin (.inr rfl) (by rfl) (by rfl) (by exact ⟨rfl, rfl, rfl⟩) (by rfl) (by rfl) (by rfl) (by first | rfl | (simp; done) | (simp [ints, prs]; done))
      | sl o2 m d hd =>
        have s0 := evszg_nils 1048576 (by omega) (by omega)
        have e6 := ev28_nils
        rw [show zints [] = fns [] from rfl] at e6
        by_cases h6 : (m : Int) ≤ 1048576
        · have s1 := evszg o2 m 1048576 d (by omega) (by omega) (by omega)
          rw [if_pos h6] at s1
          have g1 : decide ((1048576 - (m : Nat) : Int) < 0) = false := decide_eq_false (by omega)
          have e7 := ev28 o2 m d hd (by omega)
          rw [prOf_fns m d hd] at e7
          have e1 := ev41 [] (prOf d m) (by simp) (by rw [prOf_len]; omega) z
          have e2 := ev42 [] (prOf d m) (by simp) (by rw [prOf_len]; omega) z
          rw [prOf_len] at e1 e2
          have hr0 : (aeB [] (prOf d m) z != aeB [] (prOf d m) z) = false := by simp
          have hr1 : (gcode2 [] (prOf d m) z != gcode2 [] (prOf d m) z) = false := by simp
          have q3 := ev32 0 (fns []) (fns []) (fun j => ([] : List (Int × Int)).getD j (0, 0)) (some 0) (some 0) (by omega) (fun j hj => fns_pair (by simp at hj)) (fun j hj => fns_pair (by simp at hj))
          have q4 := ev32 m (fns (prOf d m)) (fns (prOf d m)) (fun j => ((prOf d m) : List (Int × Int)).getD j (0, 0)) (some 0) (some 0) (by omega) (fun j hj => fns_pair (by rwa [prOf_len])) (fun j hj => fns_pair (by rwa [prOf_len]))
          refine has11.eev rfl rfl ?_
          unfold m11
          repeat' (first
            | (refine g_op ?_; first
              | refine ep_mov rfl ?_
              | refine ep_call0 rfl (by first | exact s0 | exact s1 | exact e6 | exact e7 | exact e1 | exact e2 | exact q3 | exact q4) rfl rfl ?_
              | refine sp_call rfl rfl rfl rfl (by first | exact s0 | exact s1 | exact e6 | exact e7 | exact e1 | exact e2 | exact q3 | exact q4) ⟨rfl, rfl, rfl, rfl⟩ rfl rfl rfl ?_
              | refine ep_bin rfl rfl (by first | exact b_add (by omega) (by omega) | exact b_sub (by omega) (by omega) | exact b_and (by omega) (by omega) | exact b_or (by omega) (by omega) | exact b_shr (by omega) | exact b_shl (by omega) (by omega) | exact b_lss | exact b_leq | exact b_gtr | exact b_geq | exact b_eql | exact b_neq) ?_
              | refine ep_pickT rfl rfl ?_ | refine ep_pickF rfl rfl ?_ | refine ep_pickTH rfl (by assumption) rfl ?_ | refine ep_pickFH rfl (by assumption) rfl ?_ | refine ep_extract rfl rfl ?_ | refine ep_not rfl ?_
              | refine ep_eqb0 rfl rfl ?_ | refine ep_eqb1 rfl rfl ?_)
            | (refine g_ops ?_; first | refine eo_none ?_ | refine eo_nil ?_ | refine eo_yes rfl ?_ | refine eo_no rfl ?_ | refine eo_und rfl ?_ | refine eo_yesH rfl (by assumption) ?_ | refine eo_noH rfl (by assumption) ?_)
            | (refine g_code ?_; first | refine ec_seq ?_ | refine ec_region ?_ | refine ec_skip ?_ | refine ec_ret ?_ | refine ec_condT rfl ?_ | refine ec_condF rfl ?_ | refine ec_condTH rfl (by assumption) ?_ | refine ec_condFH rfl (by assumption) ?_)
            | refine ek_seqN ?_ | refine ek_seqR ?_)
          refine sfin (.inr rfl) (by rfl) (by rfl) (by exact ⟨rfl, rfl, rfl⟩) (by rfl) (by rfl) (by rfl) (by first | rfl | (simp; done) | (simp [ints, prs]; done))
        · have s1 := evszg o2 m 1048576 d (by omega) (by omega) (by omega)
          rw [if_neg h6] at s1
          refine has11.eev rfl rfl ?_
          unfold m11
          repeat' (first
            | (refine g_op ?_; first
              | refine ep_mov rfl ?_
              | refine ep_call0 rfl (by first | exact s0 | exact s1) rfl rfl ?_
              | refine sp_call rfl rfl rfl rfl (by first | exact s0 | exact s1) ⟨rfl, rfl, rfl, rfl⟩ rfl rfl rfl ?_
              | refine ep_bin rfl rfl (by first | exact b_add (by omega) (by omega) | exact b_sub (by omega) (by omega) | exact b_and (by omega) (by omega) | exact b_or (by omega) (by omega) | exact b_shr (by omega) | exact b_shl (by omega) (by omega) | exact b_lss | exact b_leq | exact b_gtr | exact b_geq | exact b_eql | exact b_neq) ?_
              | refine ep_pickT rfl rfl ?_ | refine ep_pickF rfl rfl ?_ | refine ep_pickTH rfl (by assumption) rfl ?_ | refine ep_pickFH rfl (by assumption) rfl ?_ | refine ep_extract rfl rfl ?_ | refine ep_not rfl ?_
              | refine ep_eqb0 rfl rfl ?_ | refine ep_eqb1 rfl rfl ?_)
            | (refine g_ops ?_; first | refine eo_none ?_ | refine eo_nil ?_ | refine eo_yes rfl ?_ | refine eo_no rfl ?_ | refine eo_und rfl ?_ | refine eo_yesH rfl (by assumption) ?_ | refine eo_noH rfl (by assumption) ?_)
            | (refine g_code ?_; first | refine ec_seq ?_ | refine ec_region ?_ | refine ec_skip ?_ | refine ec_ret ?_ | refine ec_condT rfl ?_ | refine ec_condF rfl ?_ | refine ec_condTH rfl (by assumption) ?_ | refine ec_condFH rfl (by assumption) ?_)
            | refine ek_seqN ?_ | refine ek_seqR ?_)
          refine sfin (.inr rfl) (by rfl) (by rfl) (by exact ⟨rfl, rfl, rfl⟩) (by rfl) (by rfl) (by rfl) (by first | rfl | (simp; done) | (simp [ints, prs]; done))
    | emp =>
      cases f2 with
      | nil =>
        have s0 := evszg_emp 1048576 (by omega) (by omega)
        have e6 := ev28_emp
        rw [show zints [] = fns [] from rfl] at e6
        have s1 := evszg_nils 1048576 (by omega) (by omega)
        have e7 := ev28_nils
        rw [show zints [] = fns [] from rfl] at e7
        have e1 := ev41 [] [] (by simp) (by simp) z
        have e2 := ev42 [] [] (by simp) (by simp) z
        skip
        have hr0 : (aeB [] [] z != aeB [] [] z) = false := by simp
        have hr1 : (gcode2 [] [] z != gcode2 [] [] z) = false := by simp
        have q3 := ev32 0 (fns []) (fns []) (fun j => ([] : List (Int × Int)).getD j (0, 0)) (some 0) (some 0) (by omega) (fun j hj => fns_pair (by simp at hj)) (fun j hj => fns_pair (by simp at hj))
        have q4 := ev32 0 (fns []) (fns []) (fun j => ([] : List (Int × Int)).getD j (0, 0)) (some 0) (some 0) (by omega) (fun j hj => fns_pair (by simp at hj)) (fun j hj => fns_pair (by simp at hj))
        refine has11.eev rfl rfl ?_
        unfold m11
        repeat' (first
          | (refine g_op ?_; first
            | refine ep_mov rfl ?_
            | refine ep_call0 rfl (by first | exact s0 | exact s1 | exact e6 | exact e7 | exact e1 | exact e2 | exact q3 | exact q4) rfl rfl ?_
            | refine sp_call rfl rfl rfl rfl (by first | exact s0 | exact s1 | exact e6 | exact e7 | exact e1 | exact e2 | exact q3 | exact q4) ⟨rfl, rfl, rfl, rfl⟩ rfl rfl rfl ?_
            | refine ep_bin rfl rfl (by first | exact b_add (by omega) (by omega) | exact b_sub (by omega) (by omega) | exact b_and (by omega) (by omega) | exact b_or (by omega) (by omega) | exact b_shr (by omega) | exact b_shl (by omega) (by omega) | exact b_lss | exact b_leq | exact b_gtr | exact b_geq | exact b_eql | exact b_neq) ?_
            | refine ep_pickT rfl rfl ?_ | refine ep_pickF rfl rfl ?_ | refine ep_pickTH rfl (by assumption) rfl ?_ | refine ep_pickFH rfl (by assumption) rfl ?_ | refine ep_extract rfl rfl ?_ | refine ep_not rfl ?_
            | refine ep_eqb0 rfl rfl ?_ | refine ep_eqb1 rfl rfl ?_)
          | (refine g_ops ?_; first | refine eo_none ?_ | refine eo_nil ?_ | refine eo_yes rfl ?_ | refine eo_no rfl ?_ | refine eo_und rfl ?_ | refine eo_yesH rfl (by assumption) ?_ | refine eo_noH rfl (by assumption) ?_)
          | (refine g_code ?_; first | refine ec_seq ?_ | refine ec_region ?_ | refine ec_skip ?_ | refine ec_ret ?_ | refine ec_condT rfl ?_ | refine ec_condF rfl ?_ | refine ec_condTH rfl (by assumption) ?_ | refine ec_condFH rfl (by assumption) ?_)
          | refine ek_seqN ?_ | refine ek_seqR ?_)
        refine sfin (.inr rfl) (by rfl) (by rfl) (by exact ⟨rfl, rfl, rfl⟩) (by rfl) (by rfl) (by rfl) (by first | rfl | (simp; done) | (simp [ints, prs]; done))
      | emp =>
        have s0 := evszg_emp 1048576 (by omega) (by omega)
        have e6 := ev28_emp
        rw [show zints [] = fns [] from rfl] at e6
        have s1 := evszg_emp 1048576 (by omega) (by omega)
        have e7 := ev28_emp
        rw [show zints [] = fns [] from rfl] at e7
        have e1 := ev41 [] [] (by simp) (by simp) z
        have e2 := ev42 [] [] (by simp) (by simp) z
        skip
        have hr0 : (aeB [] [] z != aeB [] [] z) = false := by simp
        have hr1 : (gcode2 [] [] z != gcode2 [] [] z) = false := by simp
        have q3 := ev32 0 (fns []) (fns []) (fun j => ([] : List (Int × Int)).getD j (0, 0)) (some 0) (some 0) (by omega) (fun j hj => fns_pair (by simp at hj)) (fun j hj => fns_pair (by simp at hj))
        have q4 := ev32 0 (fns []) (fns []) (fun j => ([] : List (Int × Int)).getD j (0, 0)) (some 0) (some 0) (by omega) (fun j hj => fns_pair (by simp at hj)) (fun j hj => fns_pair (by simp at hj))
        refine has11.eev rfl rfl ?_
        unfold m11
        repeat' (first
          | (refine g_op ?_; first
            | refine ep_mov rfl ?_
            | refine ep_call0 rfl (by first | exact s0 | exact s1 | exact e6 | exact e7 | exact e1 | exact e2 | exact q3 | exact q4) rfl rfl ?_
            | refine sp_call rfl rfl rfl rfl (by first | exact s0 | exact s1 | exact e6 | exact e7 | exact e1 | exact e2 | exact q3 | exact q4) ⟨rfl, rfl, rfl, rfl⟩ rfl rfl rfl ?_
            | refine ep_bin rfl rfl (by first | exact b_add (by omega) (by omega) | exact b_sub (by omega) (by omega) | exact b_and (by omega) (by omega) | exact b_or (by omega) (by omega) | exact b_shr (by omega) | exact b_shl (by omega) (by omega) | exact b_lss | exact b_leq | exact b_gtr | exact b_geq | exact b_eql | exact b_neq) ?_
            | refine ep_pickT rfl rfl ?_ | refine ep_pickF rfl rfl ?_ | refine ep_pickTH rfl (by assumption) rfl ?_ | refine ep_pickFH rfl (by assumption) rfl ?_ | refine ep_extract rfl rfl ?_ | refine ep_not rfl ?_
            | refine ep_eqb0 rfl rfl ?_ | refine ep_eqb1 rfl rfl ?_)
          | (refine g_ops ?_; first | refine eo_none ?_ | refine eo_nil ?_ | refine eo_yes rfl ?_ | refine eo_no rfl ?_ | refine eo_und rfl ?_ | refine eo_yesH rfl (by assumption) ?_ | refine eo_noH rfl (by assumption) ?_)
          | (refine g_code ?_; first | refine ec_seq ?_ | refine ec_region ?_ | refine ec_skip ?_ | refine ec_ret ?_ | refine ec_condT rfl ?_ | refine ec_condF rfl ?_ | refine ec_condTH rfl (by assumption) ?_ | refine ec_condFH rfl (by assumption) ?_)
          | refine ek_seqN ?_ | refine ek_seqR ?_)
        refine sfin (.inr rfl) (by rfl) (by rfl) (by exact ⟨rfl, rfl, rfl⟩) (by rfl) (by rfl) (by rfl) (by first | rfl | (simp; done) | (simp [ints, prs]; done))
      | sl o2 m d hd =>
        have s0 := evszg_emp 1048576 (by omega) (by omega)
        have e6 := ev28_emp
        rw [show zints [] = fns [] from rfl] at e6
        by_cases h6 : (m : Int) ≤ 1048576
        · have s1 := evszg o2 m 1048576 d (by omega) (by omega) (by omega)
          rw [if_pos h6] at s1
          have g1 : decide ((1048576 - (m : Nat) : Int) < 0) = false := decide_eq_false (by omega)
          have e7 := ev28 o2 m d hd (by omega)
          rw [prOf_fns m d hd] at e7
          have e1 := ev41 [] (prOf d m) (by simp) (by rw [prOf_len]; omega) z
          have e2 := ev42 [] (prOf d m) (by simp) (by rw [prOf_len]; omega) z
          rw [prOf_len] at e1 e2
          have hr0 : (aeB [] (prOf d m) z != aeB [] (prOf d m) z) = false := by simp
          have hr1 : (gcode2 [] (prOf d m) z != gcode2 [] (prOf d m) z) = false := by simp
          have q3 := ev32 0 (fns []) (fns []) (fun j => ([] : List (Int × Int)).getD j (0, 0)) (some 0) (some 0) (by omega) (fun j hj => fns_pair (by simp at hj)) (fun j hj => fns_pair (by simp at hj))
          have q4 := ev32 m (fns (prOf d m)) (fns (prOf d m)) (fun j => ((prOf d m) : List (Int × Int)).getD j (0, 0)) (some 0) (some 0) (by omega) (fun j hj => fns_pair (by rwa [prOf_len])) (fun j hj => fns_pair (by rwa [prOf_len]))
          refine has11.eev rfl rfl ?_
          unfold m11
          repeat' (first
            | (refine g_op ?_; first
              | refine ep_mov rfl ?_
              | refine ep_call0 rfl (by first | exact s0 | exact s1 | exact e6 | exact e7 | exact e1 | exact e2 | exact q3 | exact q4) rfl rfl ?_
              | refine sp_call rfl rfl rfl rfl (by first | exact s0 | exact s1 | exact e6 | exact e7 | exact e1 | exact e2 | exact q3 | exact q4) ⟨rfl, rfl, rfl, rfl⟩ rfl rfl rfl ?_
              | refine ep_bin rfl rfl (by first | exact b_add (by omega) (by omega) | exact b_sub (by omega) (by omega) | exact b_and (by omega) (by omega) | exact b_or (by omega) (by omega) | exact b_shr (by omega) | exact b_shl (by omega) (by omega) | exact b_lss | exact b_leq | exact b_gtr | exact b_geq | exact b_eql | exact b_neq) ?_
              | refine ep_pickT rfl rfl ?_ | refine ep_pickF rfl rfl ?_ | refine ep_pickTH rfl (by assumption) rfl ?_ | refine ep_pickFH rfl (by assumption) rfl ?_ | refine ep_extract rfl rfl ?_ | refine ep_not rfl ?_
              | refine ep_eqb0 rfl rfl ?_ | refine ep_eqb1 rfl rfl ?_)
            | (refine g_ops ?_; first | refine eo_none ?_ | refine eo_nil ?_ | refine eo_yes rfl ?_ | refine eo_no rfl ?_ | refine eo_und rfl ?_ | refine eo_yesH rfl (by assumption) ?_ | refine eo_noH rfl (by assumption) ?_)
            | (refine g_code ?_; first | refine ec_seq ?_ | refine ec_region ?_ | refine ec_skip ?_ | refine ec_ret ?_ | refine ec_condT rfl ?_ | refine ec_condF rfl ?_ | refine ec_condTH rfl (by assumption) ?_ | refine ec_condFH rfl (by assumption) ?_)
            | refine ek_seqN ?_ | refine ek_seqR ?_)
          refine sfin (.inr rfl) (by rfl) (by rfl) (by exact ⟨rfl, rfl, rfl⟩) (by rfl) (by rfl) (by rfl) (by first | rfl | (simp; done) | (simp [ints, prs]; done))
        · have s1 := evszg o2 m 1048576 d (by omega) (by omega) (by omega)
          rw [if_neg h6] at s1
          refine has11.eev rfl rfl ?_
          unfold m11
          repeat' (first
            | (refine g_op ?_; first
              | refine ep_mov rfl ?_
              | refine ep_call0 rfl (by first | exact s0 | exact s1) rfl rfl ?_
              | refine sp_call rfl rfl rfl rfl (by first | exact s0 | exact s1) ⟨rfl, rfl, rfl, rfl⟩ rfl rfl rfl ?_
              | refine ep_bin rfl rfl (by first | exact b_add (by omega) (by omega) | exact b_sub (by omega) (by omega) | exact b_and (by omega) (by omega) | exact b_or (by omega) (by omega) | exact b_shr (by omega) | exact b_shl (by omega) (by omega) | exact b_lss | exact b_leq | exact b_gtr | exact b_geq | exact b_eql | exact b_neq) ?_
              | refine ep_pickT rfl rfl ?_ | refine ep_pickF rfl rfl ?_ | refine ep_pickTH rfl (by assumption) rfl ?_ | refine ep_pickFH rfl (by assumption) rfl ?_ | refine ep_extract rfl rfl ?_ | refine ep_not rfl ?_
              | refine ep_eqb0 rfl rfl ?_ | refine ep_eqb1 rfl rfl ?_)
            | (refine g_ops ?_; first | refine eo_none ?_ | refine eo_nil ?_ | refine eo_yes rfl ?_ | refine eo_no rfl ?_ | refine eo_und rfl ?_ | refine eo_yesH rfl (by assumption) ?_ | refine eo_noH rfl (by assumption) ?_)
            | (refine g_code ?_; first | refine ec_seq ?_ | refine ec_region ?_ | refine ec_skip ?_ | refine ec_ret ?_ | refine ec_condT rfl ?_ | refine ec_condF rfl ?_ | refine ec_condTH rfl (by assumption) ?_ | refine ec_condFH rfl (by assumption) ?_)
            | refine ek_seqN ?_ | refine ek_seqR ?_)
          refine sfin (.inr rfl) (by rfl) (by rfl) (by exact ⟨rfl, rfl, rfl⟩) (by rfl) (by rfl) (by rfl) (by first | rfl | (simp; done) | (simp [ints, prs]; done))
  | b o n o2 m c d hc hd =>
    by_cases h5 : (n : Int) ≤ 1048576
    · have s0 := evszg o n 1048576 c (by omega) (by omega) (by omega)
      rw [if_pos h5] at s0
      have g0 : decide ((1048576 - (n : Nat) : Int) < 0) = false := decide_eq_false (by omega)
      have e6 := ev28 o n c hc (by omega)
      rw [prOf_fns n c hc] at e6
      by_cases h6 : (m : Int) ≤ (1048576 - (n : Nat) : Int)
      · have s1 := evszg o2 m (1048576 - (n : Nat) : Int) d (by omega) (by omega) (by omega)
        rw [if_pos h6] at s1
        have g1 : decide (((1048576 - (n : Nat) : Int) - (m : Nat) : Int) < 0) = false := decide_eq_false (by omega)
        have e7 := ev28 o2 m d hd (by omega)
        rw [prOf_fns m d hd] at e7
        have e1 := ev41 (prOf c n) (prOf d m) (by rw [prOf_len]; omega) (by rw [prOf_len]; omega) z
        have e2 := ev42 (prOf c n) (prOf d m) (by rw [prOf_len]; omega) (by rw [prOf_len]; omega) z
        rw [prOf_len, prOf_len] at e1 e2
        have hr0 : (aeB (prOf c n) (prOf d m) z != aeB (prOf c n) (prOf d m) z) = false := by simp
        have hr1 : (gcode2 (prOf c n) (prOf d m) z != gcode2 (prOf c n) (prOf d m) z) = false := by simp
        have q3 := ev32 n (fns (prOf c n)) (fns (prOf c n)) (fun j => ((prOf c n) : List (Int × Int)).getD j (0, 0)) (some 0) (some 0) (by omega) (fun j hj => fns_pair (by rwa [prOf_len])) (fun j hj => fns_pair (by rwa [prOf_len]))
        have q4 := ev32 m (fns (prOf d m)) (fns (prOf d m)) (fun j => ((prOf d m) : List (Int × Int)).getD j (0, 0)) (some 0) (some 0) (by omega) (fun j hj => fns_pair (by rwa [prOf_len])) (fun j hj => fns_pair (by rwa [prOf_len]))
        refine has11.eev rfl rfl ?_
        unfold m11
        repeat' (first
          | (refine g_op ?_; first
            | refine ep_mov rfl ?_
            | refine ep_call0 rfl (by first | exact s0 | exact s1 | exact e6 | exact e7 | exact e1 | exact e2 | exact q3 | exact q4) rfl rfl ?_
            | refine sp_call rfl rfl rfl rfl (by first | exact s0 | exact s1 | exact e6 | exact e7 | exact e1 | exact e2 | exact q3 | exact q4) ⟨rfl, rfl, rfl, rfl⟩ rfl rfl rfl ?_
            | refine ep_bin rfl rfl (by first | exact b_add (by omega) (by omega) | exact b_sub (by omega) (by omega) | exact b_and (by omega) (by omega) | exact b_or (by omega) (by omega) | exact b_shr (by omega) | exact b_shl (by omega) (by omega) | exact b_lss | exact b_leq | exact b_gtr | exact b_geq | exact b_eql | exact b_neq) ?_
            | refine ep_pickT rfl rfl ?_ | refine ep_pickF rfl rfl ?_ | refine ep_pickTH rfl (by assumption) rfl ?_ | refine ep_pickFH rfl (by assumption) rfl ?_ | refine ep_extract rfl rfl ?_ | refine ep_not rfl ?_
            | refine ep_eqb0 rfl rfl ?_ | refine ep_eqb1 rfl rfl ?_)
          | (refine g_ops ?_; first | refine eo_none ?_ | refine eo_nil ?_ | refine eo_yes rfl ?_ | refine eo_no rfl ?_ | refine eo_und rfl ?_ | refine eo_yesH rfl (by assumption) ?_ | refine eo_noH rfl (by assumption) ?_)
          | (refine g_code ?_; first | refine ec_seq ?_ | refine ec_region ?_ | refine ec_skip ?_ | refine ec_ret ?_ | refine ec_condT rfl ?_ | refine ec_condF rfl ?_ | refine ec_condTH rfl (by assumption) ?_ | refine ec_condFH rfl (by assumption) ?_)
          | refine ek_seqN ?_ | refine ek_seqR ?_)
        refine sfin (.inr rfl) (by rfl) (by rfl) (by exact ⟨rfl, rfl, rfl⟩) (by rfl) (by rfl) (by rfl) (by first | rfl | (simp; done) | (simp [ints, prs]; done))
      · have s1 := evszg o2 m (1048576 - (n : Nat) : Int) d (by omega) (by omega) (by omega)
        rw [if_neg h6] at s1
        refine has11.eev rfl rfl ?_
        unfold m11
        repeat' (first
          | (refine g_op ?_; first
            | refine ep_mov rfl ?_
            | refine ep_call0 rfl (by first | exact s0 | exact s1) rfl rfl ?_
            | refine sp_call rfl rfl rfl rfl (by first | exact s0 | exact s1) ⟨rfl, rfl, rfl, rfl⟩ rfl rfl rfl ?_
            | refine ep_bin rfl rfl (by first | exact b_add (by omega) (by omega) | exact b_sub (by omega) (by omega) | exact b_and (by omega) (by omega) | exact b_or (by omega) (by omega) | exact b_shr (by omega) | exact b_shl (by omega) (by omega) | exact b_lss | exact b_leq | exact b_gtr | exact b_geq | exact b_eql | exact b_neq) ?_
            | refine ep_pickT rfl rfl ?_ | refine ep_pickF rfl rfl ?_ | refine ep_pickTH rfl (by assumption) rfl ?_ | refine ep_pickFH rfl (by assumption) rfl ?_ | refine ep_extract rfl rfl ?_ | refine ep_not rfl ?_
            | refine ep_eqb0 rfl rfl ?_ | refine ep_eqb1 rfl rfl ?_)
          | (refine g_ops ?_; first | refine eo_none ?_ | refine eo_nil ?_ | refine eo_yes rfl ?_ | refine eo_no rfl ?_ | refine eo_und rfl ?_ | refine eo_yesH rfl (by assumption) ?_ | refine eo_noH rfl (by assumption) ?_)
          | (refine g_code ?_; first | refine ec_seq ?_ | refine ec_region ?_ | refine ec_skip ?_ | refine ec_ret ?_ | refine ec_condT rfl ?_ | refine ec_condF rfl ?_ | refine ec_condTH rfl (by assumption) ?_ | refine ec_condFH rfl (by assumption) ?_)
          | refine ek_seqN ?_ | refine ek_seqR ?_)
        refine sfin (.inr rfl) (by rfl) (by rfl) (by exact ⟨rfl, rfl, rfl⟩) (by rfl) (by rfl) (by rfl) (by first | rfl | (simp; done) | (simp [ints, prs]; done))
    · have s0 := evszg o n 1048576 c (by omega) (by omega) (by omega)
      rw [if_neg h5] at s0
      refine has11.eev rfl rfl ?_
      unfold m11
      repeat' (first
        | (refine g_op ?_; first
          | refine ep_mov rfl ?_
          | refine ep_call0 rfl (by first | exact s0) rfl rfl ?_
          | refine sp_call rfl rfl rfl rfl (by first | exact s0) ⟨rfl, rfl, rfl, rfl⟩ rfl rfl rfl ?_
          | refine ep_bin rfl rfl (by first | exact b_add (by omega) (by omega) | exact b_sub (by omega) (by omega) | exact b_and (by omega) (by omega) | exact b_or (by omega) (by omega) | exact b_shr (by omega) | exact b_shl (by omega) (by omega) | exact b_lss | exact b_leq | exact b_gtr | exact b_geq | exact b_eql | exact b_neq) ?_
          | refine ep_pickT rfl rfl ?_ | refine ep_pickF rfl rfl ?_ | refine ep_pickTH rfl (by assumption) rfl ?_ | refine ep_pickFH rfl (by assumption) rfl ?_ | refine ep_extract rfl rfl ?_ | refine ep_not rfl ?_
          | refine ep_eqb0 rfl rfl ?_ | refine ep_eqb1 rfl rfl ?_)
        | (refine g_ops ?_; first | refine eo_none ?_ | refine eo_nil ?_ | refine eo_yes rfl ?_ | refine eo_no rfl ?_ | refine eo_und rfl ?_ | refine eo_yesH rfl (by assumption) ?_ | refine eo_noH rfl (by assumption) ?_)
        | (refine g_code ?_; first | refine ec_seq ?_ | refine ec_region ?_ | refine ec_skip ?_ | refine ec_ret ?_ | refine ec_condT rfl ?_ | refine ec_condF rfl ?_ | refine ec_condTH rfl (by assumption) ?_ | refine ec_condFH rfl (by assumption) ?_)
        | refine ek_seqN ?_ | refine ek_seqR ?_)
      refine sfin (.inr rfl) (by rfl) (by rfl) (by exact ⟨rfl, rfl, rfl⟩) (by rfl) (by rfl) (by rfl) (by first | rfl | (simp; done) | (simp [ints, prs]; done))


end Go.Proofs.Ytdmpajkcpdjfbaa
