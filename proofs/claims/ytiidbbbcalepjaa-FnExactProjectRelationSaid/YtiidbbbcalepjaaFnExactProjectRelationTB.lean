/- What each function that the statement reaches returns. -/
import Derived.Test.YtiidbbbcalepjaaFnExactProjectRelationTA
set_option linter.unusedVariables false
set_option linter.unusedSimpArgs false
set_option maxRecDepth 100000
set_option maxHeartbeats 4000000
namespace Go.Proofs.Ytiidbbbcalepjaa
open Go Go.Proofs.Ytiidbbbcalepjaa.Mi
attribute [local irreducible] code opsK opsDK gopK opK seqK blockK callK binV
attribute [local irreducible] R2 bt
-- laws.FnExactProjectRelation
def m3 : MC := (.seq (.region [⟨(.box (.t 0)), (some 2), none⟩, ⟨(.mov (.k (.bool false))), (some 4), none⟩] false) (.seq (.seq (.region [⟨(.mov (.t 1)), (some 10), none⟩, ⟨(.len (.t 10)), (some 11), none⟩, ⟨(.bin .gtr (.t 11) (.k (.int .i64 1048576))), (some 12), none⟩] false) (.cond (.t 12) (.seq (.region [⟨(.mov (.k (.bool true))), (some 4), none⟩] false) .ret) .skip)) (.seq (.region [⟨(.load (some 2) (.t 2)), (some 14), none⟩, ⟨(.call 16 [(.t 14)]), (some 15), none⟩, ⟨(.mov (.t 1)), (some 16), none⟩, ⟨(.call 17 [(.t 16)]), (some 17), none⟩, ⟨(.call 15 [(.t 15), (.t 17)]), (some 18), none⟩, ⟨(.mov (.t 18)), (some 13), none⟩, ⟨(.extract (.t 13) 0), (some 19), none⟩, ⟨(.extract (.t 13) 1), (some 20), none⟩, ⟨(.alloc [(.int .i64 0), (.int .i64 0)]), (some 5), none⟩, ⟨(.store 2 (.t 5) (.t 19)), none, none⟩, ⟨(.mov (.t 20)), (some 6), none⟩] false) (.seq (.region [⟨(.mov (.t 1)), (some 21), none⟩, ⟨(.call 17 [(.t 21)]), (some 22), none⟩, ⟨(.mov (.t 22)), (some 7), none⟩] false) (.seq (.region [⟨(.load (some 2) (.t 2)), (some 24), none⟩, ⟨(.call 16 [(.t 24)]), (some 25), none⟩, ⟨(.mov (.t 7)), (some 26), none⟩, ⟨(.call 18 [(.t 25), (.t 26)]), (some 27), none⟩, ⟨(.mov (.t 27)), (some 23), none⟩, ⟨(.extract (.t 23) 0), (some 28), none⟩, ⟨(.extract (.t 23) 1), (some 29), none⟩, ⟨(.alloc [(.int .i64 0), (.int .i64 0)]), (some 8), none⟩, ⟨(.store 2 (.t 8) (.t 28)), none, none⟩, ⟨(.mov (.t 29)), (some 9), none⟩] false) (.seq (.seq (.region [⟨(.load (some 2) (.t 8)), (some 30), none⟩, ⟨(.load (some 2) (.t 5)), (some 31), none⟩, ⟨(.call 19 [(.t 30), (.t 31)]), (some 32), none⟩, ⟨(.un .not (.t 32)), (some 33), none⟩, ⟨(.mov (.t 33)), (some 34), none⟩, ⟨(.mov (.t 9)), (some 35), (some (34, false))⟩, ⟨(.mov (.t 6)), (some 36), (some (34, false))⟩, ⟨(.bin .neq (.t 35) (.t 36)), (some 37), (some (34, false))⟩, ⟨(.pick (.t 34) (.k (.bool true)) (.t 37)), (some 38), none⟩] false) (.cond (.t 38) (.seq (.region [⟨(.mov (.k (.bool false))), (some 4), none⟩] false) .ret) .skip)) (.seq (.seq (.region [⟨(.mov (.t 7)), (some 39), none⟩, ⟨(.mov (.t 1)), (some 40), none⟩, ⟨(.call 17 [(.t 40)]), (some 41), none⟩, ⟨(.call 20 [(.t 39), (.t 41)]), (some 42), none⟩, ⟨(.un .not (.t 42)), (some 43), none⟩] false) (.cond (.t 43) (.seq (.region [⟨(.mov (.k (.bool false))), (some 4), none⟩] false) .ret) .skip)) (.seq (.region [⟨(.mov (.k (.bool true))), (some 4), none⟩] false) .ret))))))))
theorem has3 : Has cx 3 44 m3 [(.tmp 4)] :=
  ⟨⟨Try.f3, Try.f3.body.getD .skip, by kernel_rfl, by kernel_rfl, by kernel_rfl, by kernel_rfl, by kernel_rfl, by kernel_rfl⟩⟩
theorem ev3 (p t : Int) (a : V) (h : Heap) (c : List Int) (fa : FA .i64 1 a h c) : Ev cx 3 [.agg [.int .i64 p, .int .i64 t], a] h (.bool true) h := by
  have h1 : ((prjR p t c).c != (prjR p t c).c) = false := by simp
  cases fa with
  | nil =>
    have e4 := ev20 0 (zints []) (zints []) (fun _ => 0) (some 0) (some 0) (by omega) (fun j hj => by omega) (fun j hj => by omega)
    have e5 := ev18 p t [] (by simp)
    have e6 := ev15 p t [] (by simp)
    refine has3.eev rfl rfl ?_
    unfold m3
    repeat' (first
      | (refine g_op ?_; first
        | refine ep_mov rfl ?_ | refine sp_loadN rfl rfl rfl rfl rfl ?_
        | refine ep_call0 rfl (by first | exact ev17_nils | exact e5 | exact e6 | exact ev16 _ _ | exact ev19 _ _ | exact e4) rfl rfl ?_
        | refine sp_call rfl rfl rfl rfl (by first | exact ev17_nils | exact e5 | exact e6 | exact ev16 _ _ | exact ev19 _ _ | exact e4) ⟨rfl, rfl, rfl, rfl⟩ rfl rfl rfl ?_
        | refine ep_bin rfl rfl (by first | exact b_add (by omega) (by omega) | exact b_sub (by omega) (by omega) | exact b_and (by omega) (by omega) | exact b_or (by omega) (by omega) | exact b_shr (by omega) | exact b_shl (by omega) (by omega) | exact b_lss | exact b_leq | exact b_gtr | exact b_geq | exact b_eql | exact b_neq) ?_
        | refine ep_pickT rfl rfl ?_ | refine ep_pickF rfl rfl ?_ | refine ep_pickTH rfl (by assumption) rfl ?_ | refine ep_pickFH rfl (by assumption) rfl ?_ | refine ep_extract rfl rfl ?_ | refine sp_store rfl rfl rfl rfl rfl rfl rfl rfl rfl rfl ?_
        | refine ep_not rfl ?_ | refine ep_lenS rfl ?_ | refine ep_lenN rfl ?_ | refine ep_lenE rfl ?_ | refine sp_box rfl rfl rfl rfl rfl ?_ | refine sp_alloc rfl rfl ?_)
      | (refine g_ops ?_; first | refine eo_none ?_ | refine eo_nil ?_ | refine eo_yes rfl ?_ | refine eo_no rfl ?_ | refine eo_und rfl ?_ | refine eo_yesH rfl (by assumption) ?_ | refine eo_noH rfl (by assumption) ?_)
      | (refine g_code ?_; first | refine ec_seq ?_ | refine ec_region ?_ | refine ec_skip ?_ | refine ec_ret ?_ | refine ec_condT rfl ?_ | refine ec_condF rfl ?_ | refine ec_condTH rfl (by assumption) ?_ | refine ec_condFH rfl (by assumption) ?_)
      | refine ek_seqN ?_ | refine ek_seqR ?_)
    refine sfin (.inr rfl) (by rfl) (by rfl) (by exact ⟨rfl, rfl, rfl⟩) (by rfl) (by rfl) (by rfl) (by first | rfl | (simp; done) | (simp [ints, prs]; done))
  | emp =>
    have e4 := ev20 0 (zints []) (zints []) (fun _ => 0) (some 0) (some 0) (by omega) (fun j hj => by omega) (fun j hj => by omega)
    have e5 := ev18 p t [] (by simp)
    have e6 := ev15 p t [] (by simp)
    refine has3.eev rfl rfl ?_
    unfold m3
    repeat' (first
      | (refine g_op ?_; first
        | refine ep_mov rfl ?_ | refine sp_loadN rfl rfl rfl rfl rfl ?_
        | refine ep_call0 rfl (by first | exact ev17_emp | exact e5 | exact e6 | exact ev16 _ _ | exact ev19 _ _ | exact e4) rfl rfl ?_
        | refine sp_call rfl rfl rfl rfl (by first | exact ev17_emp | exact e5 | exact e6 | exact ev16 _ _ | exact ev19 _ _ | exact e4) ⟨rfl, rfl, rfl, rfl⟩ rfl rfl rfl ?_
        | refine ep_bin rfl rfl (by first | exact b_add (by omega) (by omega) | exact b_sub (by omega) (by omega) | exact b_and (by omega) (by omega) | exact b_or (by omega) (by omega) | exact b_shr (by omega) | exact b_shl (by omega) (by omega) | exact b_lss | exact b_leq | exact b_gtr | exact b_geq | exact b_eql | exact b_neq) ?_
        | refine ep_pickT rfl rfl ?_ | refine ep_pickF rfl rfl ?_ | refine ep_pickTH rfl (by assumption) rfl ?_ | refine ep_pickFH rfl (by assumption) rfl ?_ | refine ep_extract rfl rfl ?_ | refine sp_store rfl rfl rfl rfl rfl rfl rfl rfl rfl rfl ?_
        | refine ep_not rfl ?_ | refine ep_lenS rfl ?_ | refine ep_lenN rfl ?_ | refine ep_lenE rfl ?_ | refine sp_box rfl rfl rfl rfl rfl ?_ | refine sp_alloc rfl rfl ?_)
      | (refine g_ops ?_; first | refine eo_none ?_ | refine eo_nil ?_ | refine eo_yes rfl ?_ | refine eo_no rfl ?_ | refine eo_und rfl ?_ | refine eo_yesH rfl (by assumption) ?_ | refine eo_noH rfl (by assumption) ?_)
      | (refine g_code ?_; first | refine ec_seq ?_ | refine ec_region ?_ | refine ec_skip ?_ | refine ec_ret ?_ | refine ec_condT rfl ?_ | refine ec_condF rfl ?_ | refine ec_condTH rfl (by assumption) ?_ | refine ec_condFH rfl (by assumption) ?_)
      | refine ek_seqN ?_ | refine ek_seqR ?_)
    refine sfin (.inr rfl) (by rfl) (by rfl) (by exact ⟨rfl, rfl, rfl⟩) (by rfl) (by rfl) (by rfl) (by first | rfl | (simp; done) | (simp [ints, prs]; done))
  | sl o n c hc =>
    obtain rfl : n = c.length := by omega
    by_cases hg : c.length ≤ 1048576
    · have g2 : decide (((c.length : Nat) : Int) > 1048576) = false := decide_eq_false (by omega)
      have e4 := ev20 c.length (zints c) (zints c) (fun j => c.getD j 0) (some 0) (some 0) hg (fun j hj => zints_get hj) (fun j hj => zints_get hj)
      have e5 := ev18 p t c hg
      have e6 := ev15 p t c hg
      refine has3.eev rfl rfl ?_
      unfold m3
      repeat' (first
        | (refine g_op ?_; first
          | refine ep_mov rfl ?_ | refine sp_loadN rfl rfl rfl rfl rfl ?_
          | refine ep_call0 rfl (by first | exact ev17 o c hg | exact e5 | exact e6 | exact ev16 _ _ | exact ev19 _ _ | exact e4) rfl rfl ?_
          | refine sp_call rfl rfl rfl rfl (by first | exact ev17 o c hg | exact e5 | exact e6 | exact ev16 _ _ | exact ev19 _ _ | exact e4) ⟨rfl, rfl, rfl, rfl⟩ rfl rfl rfl ?_
          | refine ep_bin rfl rfl (by first | exact b_add (by omega) (by omega) | exact b_sub (by omega) (by omega) | exact b_and (by omega) (by omega) | exact b_or (by omega) (by omega) | exact b_shr (by omega) | exact b_shl (by omega) (by omega) | exact b_lss | exact b_leq | exact b_gtr | exact b_geq | exact b_eql | exact b_neq) ?_
          | refine ep_pickT rfl rfl ?_ | refine ep_pickF rfl rfl ?_ | refine ep_pickTH rfl (by assumption) rfl ?_ | refine ep_pickFH rfl (by assumption) rfl ?_ | refine ep_extract rfl rfl ?_ | refine sp_store rfl rfl rfl rfl rfl rfl rfl rfl rfl rfl ?_
          | refine ep_not rfl ?_ | refine ep_lenS rfl ?_ | refine ep_lenN rfl ?_ | refine ep_lenE rfl ?_ | refine sp_box rfl rfl rfl rfl rfl ?_ | refine sp_alloc rfl rfl ?_)
        | (refine g_ops ?_; first | refine eo_none ?_ | refine eo_nil ?_ | refine eo_yes rfl ?_ | refine eo_no rfl ?_ | refine eo_und rfl ?_ | refine eo_yesH rfl (by assumption) ?_ | refine eo_noH rfl (by assumption) ?_)
        | (refine g_code ?_; first | refine ec_seq ?_ | refine ec_region ?_ | refine ec_skip ?_ | refine ec_ret ?_ | refine ec_condT rfl ?_ | refine ec_condF rfl ?_ | refine ec_condTH rfl (by assumption) ?_ | refine ec_condFH rfl (by assumption) ?_)
        | refine ek_seqN ?_ | refine ek_seqR ?_)
      refine sfin (.inr rfl) (by rfl) (by rfl) (by exact ⟨rfl, rfl, rfl⟩) (by rfl) (by rfl) (by rfl) (by first | rfl | (simp; done) | (simp [ints, prs]; done))
    · have g2 : decide (((c.length : Nat) : Int) > 1048576) = true := decide_eq_true (by omega)
      refine has3.eev rfl rfl ?_
      unfold m3
      repeat' (first
        | (refine g_op ?_; first
          | refine ep_mov rfl ?_ | refine sp_loadN rfl rfl rfl rfl rfl ?_
          | refine ep_bin rfl rfl (by first | exact b_add (by omega) (by omega) | exact b_sub (by omega) (by omega) | exact b_and (by omega) (by omega) | exact b_or (by omega) (by omega) | exact b_shr (by omega) | exact b_shl (by omega) (by omega) | exact b_lss | exact b_leq | exact b_gtr | exact b_geq | exact b_eql | exact b_neq) ?_
          | refine ep_pickT rfl rfl ?_ | refine ep_pickF rfl rfl ?_ | refine ep_pickTH rfl (by assumption) rfl ?_ | refine ep_pickFH rfl (by assumption) rfl ?_ | refine ep_extract rfl rfl ?_ | refine sp_store rfl rfl rfl rfl rfl rfl rfl rfl rfl rfl ?_
          | refine ep_not rfl ?_ | refine ep_lenS rfl ?_ | refine ep_lenN rfl ?_ | refine ep_lenE rfl ?_ | refine sp_box rfl rfl rfl rfl rfl ?_ | refine sp_alloc rfl rfl ?_)
        | (refine g_ops ?_; first | refine eo_none ?_ | refine eo_nil ?_ | refine eo_yes rfl ?_ | refine eo_no rfl ?_ | refine eo_und rfl ?_ | refine eo_yesH rfl (by assumption) ?_ | refine eo_noH rfl (by assumption) ?_)
        | (refine g_code ?_; first | refine ec_seq ?_ | refine ec_region ?_ | refine ec_skip ?_ | refine ec_ret ?_ | refine ec_condT rfl ?_ | refine ec_condF rfl ?_ | refine ec_condTH rfl (by assumption) ?_ | refine ec_condFH rfl (by assumption) ?_)
        | refine ek_seqN ?_ | refine ek_seqR ?_)
      refine sfin (.inr rfl) (by rfl) (by rfl) (by exact ⟨rfl, rfl, rfl⟩) (by rfl) (by rfl) (by rfl) (by first | rfl | (simp; done) | (simp [ints, prs]; done))


end Go.Proofs.Ytiidbbbcalepjaa
