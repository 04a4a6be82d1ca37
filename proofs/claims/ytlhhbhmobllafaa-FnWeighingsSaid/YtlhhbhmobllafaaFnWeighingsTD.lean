/- What each function that the statement reaches returns. -/
import Derived.Test.YtlhhbhmobllafaaFnWeighingsTC
set_option linter.unusedVariables false
set_option linter.unusedSimpArgs false
set_option maxRecDepth 100000
set_option maxHeartbeats 4000000
namespace Go.Proofs.Ytlhhbhmobllafaa
open Go Go.Proofs.Ytlhhbhmobllafaa.Mi
attribute [local irreducible] code opsK opsDK gopK opK seqK blockK callK binV
attribute [local irreducible] R2 bt
section
open Go.RowKit Go.IntWalk
theorem ev3 (oc : Option Addr) (n cc : Nat) (W : World) (hb : n ≤ 4096 → BytesR W (.slice oc n cc)) : Calls Try.prog 3 #[.slice oc n cc] W fun e W' => e = .returned (.bool true) ∧ W.grownBy W' none := by
  by_cases hn : n ≤ 4096
  · have hB := hb hn
    clear hb
    go_enter Try.func3, Try.ntmps3
    go_wp2_with fail
    refine (c_big oc n cc _).mono ?_
    rw [show decide (4096 < n) = false from decide_eq_false (by omega)]
    rintro e w1 ⟨rfl, hwq⟩
    subst w1
    generalize Value.slice oc n cc = v at *
    clear hn n cc oc
    go_wp2_with fail
    refine (draw_wgh _ _ hB).mono ?_
    rintro e w1 ⟨p, t, rfl, gF⟩
    have bF := blk_new w1 (.cells #[.int .i64 p, .int .i64 t] 25 (0, 0))
    replace gF := grown_t2 gF (World.grownBy_alloc w1 (.cells #[.int .i64 p, .int .i64 t] 25 (0, 0)) none)
    obtain ⟨k0, k1, k2, k3⟩ := res_cells bF
    go_wp2_with fail
    generalize w1.alloc (.cells #[.int .i64 p, .int .i64 t] 25 (0, 0)) = w2 at *
    generalize w1.heap.size = F at *
    refine (c_wofi p t _).mono ?_
    rintro e w3 ⟨wv, rfl, hv, hg3⟩
    replace bF := blk_fr' bF hg3 (by simp)
    replace gF := grown_t2 gF hg3
    clear k0 k1 k2 k3 hg3
    obtain ⟨k0, k1, k2, k3⟩ := res_cells bF
    go_wp2_with fail
    refine (c_wofs p t _).mono ?_
    rintro e w4 ⟨sv, rfl, hsv, hg4⟩
    replace bF := blk_fr' bF hg4 (by simp)
    replace gF := grown_t2 gF hg4
    replace hv := hv.kept hg4
    clear k0 k1 k2 k3 hg4
    have hL := wof_len p t
    have hwr := @wof_ok p t
    generalize wofR p t = X at *
    obtain ⟨L, T, c⟩ := X
    dsimp only at *
    go_wp2_with fail
    refine (c_like _ _ L _ _ hL _ hv hsv).mono ?_
    rintro e w5 ⟨rfl, hg5⟩
    replace bF := blk_fr' bF hg5 (by simp)
    replace gF := grown_t2 gF hg5
    replace hv := hv.kept hg5
    clear hg5 hsv hL
    go_upto_if 86 with fail
    go_cut [0] from 3 (fun a wc => a = v ∧ W.grownBy wc none)
    case first =>
      by_cases hc : c = 0
      · rw [show (c == 0) = true by rw [hc]; rfl]
        subst hc
        obtain ⟨n, b, l, rfl, rfl, hfn, hn4, hb2, hwl, hwe⟩ := hwr rfl
        clear hwr
        simp only [Prod.mk.injEq] at hwe
        obtain ⟨rfl, rfl, _⟩ := hwe
        obtain ⟨_, hlen, hW4⟩ := wRes_ok hn4 hwl
        have hval := fun r hr => th_bit (r := r) hn4 hwl hr
        have hstr := fun i j hi hj hw => str_of (i := i) (j := j) hn4 hwl hi hj hw
        obtain ⟨lN, hwN⟩ := wRes_neg hn4 hb2 hwl
        obtain ⟨h16, hh2, h3, h4⟩ := shN hn4
        obtain ⟨o, cp, rfl, hcell⟩ := hv.shapeN hlen
        have hshw := sh_w hn4
        generalize wT n b = T at *
        clear hv
        have bE := blk_new w5 (.cells #[] 2 (0, 0))
        have gE := World.grownBy_alloc w5 (.cells #[] 2 (0, 0)) none
        have hFB := lt_of_block bF
        replace bF := blk_fr' bF gE (by simp)
        obtain ⟨i0, hi, hz0, hz1, hz2⟩ := info_parts Try.info2
        go_wp2_with fail
        generalize w5.alloc (.cells #[] 2 (0, 0)) = w6 at *
        generalize hB5 : w5.heap.size = B at *
        go_loopw [10, 11] (fun vs r wr => ∃ k : Nat, r = .int .i64 k ∧ k ≤ R2 n ∧ wr.ownsRow B 2 1 vs k (zvL (vlK b k)) ∧ wr.heap[F]? = some (.cells #[.int .i64 n, .int .i64 b] 25 (0, 0)) ∧ w5.grownBy wr none ∧ B < wr.heap.size) (fun _ r _ => R2 n - (intOf r).toNat)
        case atStart => exact ⟨0, rfl, Nat.zero_le _, ⟨rfl, .inr ⟨_, 0, #[], rfl, Nat.le_refl _, bE, Nat.le_refl _, Nat.zero_le _, rfl, rfl⟩⟩, bF, gE, lt_of_block bE⟩
        case round =>
          obtain ⟨k, rfl, hk, hown, bG, hgr, hsz⟩ := hrel
          obtain ⟨f0, f1, _, _⟩ := res_cells bG
          by_cases hkn : k < R2 n
          · as_aux_lemma =>
            go_wp2_with fail
            obtain ⟨w7, hw7⟩ : ∃ w7, w7 = wr := ⟨_, rfl⟩
            rw [← hw7] at hgr hown bG hsz f0 f1 ⊢
            clear hw7
            go_loopw [12, 14] (fun s i wr => ∃ j : Nat, i = .int .i64 j ∧ j ≤ n ∧ s = .int .i64 (wsK L k j) ∧ wr = w7) (fun _ i _ => n - (intOf i).toNat)
            case atStart => exact ⟨0, rfl, Nat.zero_le _, rfl, rfl⟩
            case round =>
              obtain ⟨j, rfl, hj, rfl, hwq⟩ := hrel
              subst wr
              have hb1 := wsK_le hW4 k j
              by_cases hjn : j < n
              · obtain ⟨g, rfl, hc⟩ := hcell j hjn
                have hck := hgr.cell hc (by simp)
                have hb2' := hW4.2 j
                have hb3 := bt_le k j
                have hw : wsK L k (j + 1) = wsK L k j + L.getD j 0 * (bt k j : Nat) := rfl
                have hq : -4 ≤ L.getD j 0 * (bt k j : Nat) ∧ L.getD j 0 * (bt k j : Nat) ≤ 4 := by rw [mul_bt]; split <;> omega
                have hbt := hbit_w k j (by omega)
                clear hcell hstr hval
                generalize L.getD j 0 = x at *
                go_wp2_with fail
                go_roundw
                case rel => exact ⟨j + 1, by go_num, by omega, by rw [hw], by first | rfl | trivial⟩
                case measure => simp [intOf]; (try omega)
              · obtain rfl : n = j := by omega
                have hv1 := hval k hkn
                clear hval hstr hcell
                by_cases ht : T ≤ wsK L k n
                · have hv2 : Aside (bt b k = 1) := by rw [if_pos ht] at hv1; exact hv1.symm
                  clear hv1
                  go_wp2_with (first
                    | (at_builtin; refine wpList_append_own _ rfl (.tmp 117) (.tmp 119) 27 rfl B 2 i0 _ 1 8 Try.underlying27 hi hz0 hz1 hz2 rfl (by decide) _ _ _ rfl (hown.alloc _) ⟨w7.heap.size, 0, none⟩ 1 1 [_] rfl rfl (one_cell (blk_new _ _)) (by intro u hu; simp at hu; subst hu; rfl) (by unfold maxLen; omega) (by omega) (by simp; omega) ?_; intro v' w8 hown' hgrow _)
                    | fail)
                  obtain ⟨ha, hb, hz⟩ := app_end hgr (grn_refl _) (by omega) (by omega) hown hgrow
                  go_roundw
                  case rel =>
                    exact ⟨k + 1, by go_num, by omega, by rw [vlK_s, show bt b k = 1 from hv2]; exact hown', hb _ _ (by omega) bG, ha, by omega⟩
                  case measure => simp [intOf]; omega
                · have hv2 : Aside (bt b k = 0) := by rw [if_neg ht] at hv1; exact hv1.symm
                  clear hv1
                  go_wp2_with (first
                    | (at_builtin; refine wpList_append_own _ rfl (.tmp 117) (.tmp 119) 27 rfl B 2 i0 _ 1 8 Try.underlying27 hi hz0 hz1 hz2 rfl (by decide) _ _ _ rfl (hown.alloc _) ⟨w7.heap.size, 0, none⟩ 1 1 [_] rfl rfl (one_cell (blk_new _ _)) (by intro u hu; simp at hu; subst hu; rfl) (by unfold maxLen; omega) (by omega) (by simp; omega) ?_; intro v' w8 hown' hgrow _)
                    | fail)
                  obtain ⟨ha, hb, hz⟩ := app_end hgr (grn_refl _) (by omega) (by omega) hown hgrow
                  go_roundw
                  case rel => exact ⟨k + 1, by go_num, by omega, by rw [vlK_s, show bt b k = 0 from hv2]; exact hown', hb _ _ (by omega) bG, ha, by omega⟩
                  case measure => simp [intOf]; omega
          · as_aux_lemma =>
            obtain rfl : k = R2 n := by omega
            go_wp2_with fail
            obtain ⟨g, cp', rfl, hgB, hrd⟩ := own_rdB (vlK_len _ _) (by omega) hown
            refine (c_fof n _ _ hn4 (vlK_len _ _) (vlK_len _ _).symm (vlK_digs _ _) g cp' _ hrd).mono ?_
            rw [vlK_pk hb2]
            rintro e w8 ⟨rfl, _, hg8⟩
            replace bG := blk_fr' bG hg8 (by simp; omega)
            replace hgr := grown_dn hgr hg8 (by omega)
            clear hg8 hrd hown f0 f1 hval hW4
            have bM := blk_new w8 (.cells #[.int .i64 n, .int .i64 b] 25 (0, 0))
            have gM := World.grownBy_alloc w8 (.cells #[.int .i64 n, .int .i64 b] 25 (0, 0)) none
            replace bG := blk_fr' bG gM (by simp)
            replace hgr := grown_t2 hgr gM
            clear gM
            obtain ⟨f0, f1, _, _⟩ := res_cells bG
            go_wp2_with fail
            generalize w8.alloc (.cells #[.int .i64 n, .int .i64 b] 25 (0, 0)) = w9 at *
            generalize w8.heap.size = M at *
            refine (c_neg n b hfn hn4 hb2 _).mono ?_
            rintro e w10 ⟨rfl, hg10⟩
            replace bG := blk_fr' bG hg10 (by simp)
            replace bM := blk_fr' bM hg10 (by simp)
            replace hgr := grown_t2 hgr hg10
            have hnf := neg_fn hn4 hb2
            generalize R2 (R2 n) - 1 - b = q at *
            have hwN2 : (wofR n q).2.2 = 0 := by rw [wofR, if_pos hnf, Int.toNat_natCast, Int.toNat_natCast, hwN]
            have bN := blk_new w10 (.cells #[.int .i64 n, .int .i64 q] 25 (0, 0))
            have gN := World.grownBy_alloc w10 (.cells #[.int .i64 n, .int .i64 q] 25 (0, 0)) none
            replace bG := blk_fr' bG gN (by simp)
            replace bM := blk_fr' bM gN (by simp)
            replace hgr := grown_t2 hgr gN
            clear gN hg10 f0 f1
            obtain ⟨f0, f1, _, _⟩ := res_cells bN
            go_wp2_with fail
            generalize w10.alloc (.cells #[.int .i64 n, .int .i64 q] 25 (0, 0)) = w11 at *
            refine (c_wofi n q _).mono ?_
            rw [hwN2]
            generalize (wofR n q).2.1 = T2
            rintro e w12 ⟨nv, rfl, _, hg12⟩
            replace bG := blk_fr' bG hg12 (by simp)
            replace bM := blk_fr' bM hg12 (by simp)
            replace hgr := grown_t2 hgr hg12
            clear hg12 f0 f1 bN hwN hwN2 hnf
            obtain ⟨f0, f1, _, _⟩ := res_cells bG
            obtain ⟨m0, m1, _, _⟩ := res_cells bM
            go_wp2_with fail
            clear f0 f1 m0 m1 bM
            go_loopw [22] (fun i wr => ∃ x : Nat, i = .int .i64 x ∧ x ≤ n ∧ w12.grownBy wr none) (fun i _ => n - (intOf i).toNat)
            case atStart => exact ⟨0, rfl, Nat.zero_le _, grn_refl _⟩
            case round =>
             as_aux_lemma =>
              obtain ⟨x, rfl, hx, hgx⟩ := hrel
              have bX := blk_fr' bG hgx (by simp)
              obtain ⟨f0, f1, _, _⟩ := res_cells bX
              by_cases hxn : x < n
              · go_wp2_with fail
                obtain ⟨w13, hw13⟩ : ∃ w13, w13 = wr := ⟨_, rfl⟩
                rw [← hw13] at hgx bX f0 f1 ⊢
                clear hw13
                go_loopw [23] (fun i wr => ∃ y : Nat, i = .int .i64 y ∧ y ≤ n ∧ w12.grownBy wr none) (fun i _ => n - (intOf i).toNat)
                case atStart => exact ⟨0, rfl, Nat.zero_le _, hgx⟩
                case round =>
                  obtain ⟨y, rfl, hy, hgy⟩ := hrel
                  have bY := blk_fr' bG hgy (by simp)
                  clear f0 f1 bX
                  obtain ⟨f0, f1, _, _⟩ := res_cells bY
                  by_cases hyn : y < n
                  · go_wp2_with fail
                    refine (c_stri n b x y _).mono ?_
                    rw [strR_in hfn hxn hyn]
                    rintro e w14 ⟨rfl, hg14⟩
                    obtain ⟨g1, rfl, c1⟩ := hcell x hxn
                    obtain ⟨g2, hg2, c2⟩ := hcell y hyn
                    simp only [Option.some.injEq, Addr.mk.injEq, and_true] at hg2
                    subst g2
                    have hgz := grown_t2 hgr (grown_t2 hgy hg14)
                    have d1 := hgz.cell c1 (by simp)
                    have d2 := hgz.cell c2 (by simp)
                    have e1 := (grown_t2 hgz (drew_gr w14)).cell c1 (by simp)
                    have e2 := (grown_t2 hgz (drew_gr w14)).cell c2 (by simp)
                    by_cases hw : L.getD y 0 ≤ L.getD x 0
                    · rw [hstr x y hxn hyn hw]
                      clear hstr hcell
                      generalize L.getD x 0 = lx at *
                      generalize L.getD y 0 = ly at *
                      go_wp2_with fail
                      go_region
                      all_goals go_wp2_with fail
                      all_goals
                        go_roundw
                        case rel => exact ⟨y + 1, by go_num, by omega, grown_t2 hgy (grown_t2 hg14 (drew_gr w14))⟩
                        case measure => simp [intOf]; omega
                    · clear hstr hcell
                      generalize strB n b x y = s
                      generalize L.getD x 0 = lx at *
                      generalize L.getD y 0 = ly at *
                      have hw2 : lx < ly := by omega
                      have hw3 : decide (ly ≤ lx) = false := decide_eq_false hw
                      cases s
                      all_goals go_wp2_with fail
                      all_goals go_region
                      all_goals go_wp2_with fail
                      all_goals
                        go_roundw
                        case rel => exact ⟨y + 1, by go_num, by omega, grown_t2 hgy (grown_t2 hg14 (drew_gr w14))⟩
                        case measure => simp [intOf]; omega
                  · obtain rfl : n = y := by omega
                    go_wp2_with fail
                    go_roundw
                    case rel => exact ⟨x + 1, by go_num, by omega, hgy⟩
                    case measure => simp [intOf]; omega
              · obtain rfl : n = x := by omega
                go_wp2_with fail
                go_meet
                case rel => exact ⟨rfl, grown_t2 gF (grown_t2 hgr hgx)⟩
      · clear hwr
        go_wp2_with fail
        go_meet
        case rel => exact ⟨rfl, gF⟩
    case rest =>
     as_aux_lemma =>
      obtain ⟨hv0, gR⟩ := hcut
      subst u0
      clear bF hwr hv
      go_wp2_with fail
      refine (draw_str _ _ (hB.kept gR)).mono ?_
      rintro e x1 ⟨p1, q1, i1, j1, rfl, hg1⟩
      have bS := blk_new x1 (.cells #[.int .i64 p1, .int .i64 q1] 25 (0, 0))
      replace gR := grown_t2 (grown_t2 gR hg1) (World.grownBy_alloc x1 (.cells #[.int .i64 p1, .int .i64 q1] 25 (0, 0)) none)
      clear hg1
      obtain ⟨f0, f1, _, _⟩ := res_cells bS
      go_wp2_with fail
      generalize x1.alloc (.cells #[.int .i64 p1, .int .i64 q1] 25 (0, 0)) = x2 at *
      generalize x1.heap.size = S1 at *
      refine (c_stri p1 q1 i1 j1 _).mono ?_
      rintro e x3 ⟨rfl, hg3⟩
      replace bS := blk_fr' bS hg3 (by simp)
      replace gR := grown_t2 gR hg3
      clear f0 f1 hg3
      obtain ⟨f0, f1, _, _⟩ := res_cells bS
      go_wp2_with fail
      refine (c_strs p1 q1 i1 j1 _).mono ?_
      generalize strR p1 q1 i1 j1 = r1
      obtain ⟨s1, d1⟩ := r1
      dsimp only
      rintro e x4 ⟨rfl, hg4⟩
      replace gR := grown_t2 gR hg4
      clear f0 f1 hg4 bS
      go_wp2_with fail
      refine (draw_reg _ _ (hB.kept gR)).mono ?_
      rintro e x5 ⟨p2, q2, rfl, hg5⟩
      have bS := blk_new x5 (.cells #[.int .i64 p2, .int .i64 q2] 25 (0, 0))
      replace gR := grown_t2 (grown_t2 gR hg5) (World.grownBy_alloc x5 (.cells #[.int .i64 p2, .int .i64 q2] 25 (0, 0)) none)
      clear hg5
      obtain ⟨f0, f1, _, _⟩ := res_cells bS
      go_wp2_with fail
      generalize x5.alloc (.cells #[.int .i64 p2, .int .i64 q2] 25 (0, 0)) = x6 at *
      generalize x5.heap.size = S2 at *
      refine (c_regi p2 q2 _).mono ?_
      rintro e x7 ⟨rfl, hg7⟩
      replace bS := blk_fr' bS hg7 (by simp)
      replace gR := grown_t2 gR hg7
      clear f0 f1 hg7
      obtain ⟨f0, f1, _, _⟩ := res_cells bS
      go_wp2_with fail
      refine (c_regs p2 q2 _).mono ?_
      generalize regR p2 q2 = r2
      obtain ⟨s2, d2⟩ := r2
      dsimp only
      rintro e x8 ⟨rfl, hg8⟩
      replace gR := grown_t2 gR hg8
      clear f0 f1 hg8 bS
      go_wp2_with fail
      refine (draw_lev _ _ (hB.kept gR)).mono ?_
      rintro e x9 ⟨p3, q3, rfl, hg9⟩
      have bS := blk_new x9 (.cells #[.int .i64 p3, .int .i64 q3] 25 (0, 0))
      replace gR := grown_t2 (grown_t2 gR hg9) (World.grownBy_alloc x9 (.cells #[.int .i64 p3, .int .i64 q3] 25 (0, 0)) none)
      clear hg9
      have hS3 := lt_of_block bS
      obtain ⟨f0, f1, _, _⟩ := res_cells bS
      go_wp2_with fail
      generalize x9.alloc (.cells #[.int .i64 p3, .int .i64 q3] 25 (0, 0)) = xA at *
      generalize x9.heap.size = S3 at *
      have hWA := gR.size
      refine (c_levi p3 q3 _).mono ?_
      rintro e xB ⟨lv, rfl, hlv, hgB⟩
      replace bS := blk_fr' bS hgB (by simp)
      replace gR := grown_t2 gR hgB
      clear f0 f1 hgB
      obtain ⟨f0, f1, _, _⟩ := res_cells bS
      go_wp2_with fail
      refine (c_levs p3 q3 _).mono ?_
      have hL := lev_len p3 q3
      have hlo := @lev_ok p3 q3
      generalize levR p3 q3 = r3 at *
      obtain ⟨L3, d3⟩ := r3
      dsimp only at *
      rintro e xC ⟨sl, rfl, hsl, hgC⟩
      replace bS := blk_fr' bS hgC (by simp)
      replace gR := grown_t2 gR hgC
      replace hlv := hlv.kept hgC
      clear f0 f1 hgC
      go_wp2_with fail
      refine (c_like _ _ L3 _ _ hL _ hlv hsl).mono ?_
      rintro e xD ⟨rfl, hgD⟩
      replace bS := blk_fr' bS hgD (by simp)
      replace gR := grown_t2 gR hgD
      replace hlv := hlv.kept hgD
      clear hgD hsl
      obtain ⟨f0, f1, _, _⟩ := res_cells bS
      go_upto_if 264 with fail
      go_cut [0] from 3 (fun a wc => a = v ∧ W.grownBy wc none)
      case first =>
       as_aux_lemma =>
        by_cases hc3 : d3 = 0
        · rw [show (d3 == 0) = true by rw [hc3]; rfl]
          subst hc3
          obtain ⟨hfo, hpos⟩ := hlo rfl
          clear hlo
          rcases hlv with ⟨rfl, _⟩ | ⟨g, cp, rfl, hgb, hrd⟩
          · simp at hpos
          · go_wp2_with fail
            refine (c_foli _ L3 hL rfl g cp _ hrd).mono ?_
            rw [hfo]
            dsimp only
            rintro e xE ⟨rfl, _, hgE⟩
            replace bS := blk_fr' bS hgE (by simp; omega)
            replace gR := grown_dn gR hgE (by omega)
            clear hfo hgE f0 f1
            have bM := blk_new xE (.cells #[.int .i64 p3, .int .i64 q3] 25 (0, 0))
            have gM := World.grownBy_alloc xE (.cells #[.int .i64 p3, .int .i64 q3] 25 (0, 0)) none
            replace bS := blk_fr' bS gM (by simp)
            replace gR := grown_t2 gR gM
            clear gM
            obtain ⟨f0, f1, _, _⟩ := res_cells bS
            obtain ⟨m0, m1, _, _⟩ := res_cells bM
            go_wp2_with fail
            go_meet
            case rel => exact ⟨rfl, gR⟩
        · clear hlo
          go_wp2_with fail
          go_meet
          case rel => exact ⟨rfl, gR⟩
      case rest =>
       as_aux_lemma =>
        obtain ⟨hv0, gR⟩ := hcut
        subst u0
        clear bS hlv hlo f0 f1 hWA
        have hWc := gR.size
        go_wp2_with fail
        refine (draw_fol _ _ (hB.kept gR)).mono ?_
        rintro e y1 ⟨fu, L4, rfl, hL4, hfu, hg1⟩
        replace gR := grown_t2 gR hg1
        clear hg1
        rcases hfu with ⟨rfl, o4, rfl⟩ | ⟨g, cp, rfl, hgb, hrd⟩
        · as_aux_lemma =>
          go_wp2_with fail
          refine (c_fol0i o4 _).mono ?_
          rintro e y2 ⟨rfl, hg2⟩
          replace gR := grown_t2 gR hg2
          have bM := blk_new y2 (.cells #[.int .i64 0, .int .i64 0] 25 (0, 0))
          replace gR := grown_t2 gR (World.grownBy_alloc y2 (.cells #[.int .i64 0, .int .i64 0] 25 (0, 0)) none)
          go_wp2_with fail
          generalize y2.alloc (.cells #[.int .i64 0, .int .i64 0] 25 (0, 0)) = y3 at *
          generalize y2.heap.size = M1 at *
          refine (c_fol0s o4 _).mono ?_
          rintro e y4 ⟨rfl, hg4⟩
          replace gR := grown_t2 gR hg4
          replace bM := blk_fr' bM hg4 (by simp)
          have bN := blk_new y4 (.cells #[.int .i64 0, .int .i64 0] 25 (0, 0))
          replace bM := blk_fr' bM (World.grownBy_alloc y4 (.cells #[.int .i64 0, .int .i64 0] 25 (0, 0)) none) (by simp)
          replace gR := grown_t2 gR (World.grownBy_alloc y4 (.cells #[.int .i64 0, .int .i64 0] 25 (0, 0)) none)
          clear hg4
          go_wp2_with fail
          generalize y4.alloc (.cells #[.int .i64 0, .int .i64 0] 25 (0, 0)) = y5 at *
          generalize y4.heap.size = M2 at *
          refine (draw_cnt _ _ (hB.kept gR)).mono ?_
          rintro e y6 ⟨z, rfl, hg6⟩
          replace bM := blk_fr' bM hg6 (by simp)
          replace bN := blk_fr' bN hg6 (by simp)
          replace gR := grown_t2 gR hg6
          clear hg6
          go_wp2_with fail
          refine (c_cnti z _).mono ?_
          rintro e y7 ⟨rfl, hg7⟩
          replace bM := blk_fr' bM hg7 (by simp)
          replace bN := blk_fr' bN hg7 (by simp)
          replace gR := grown_t2 gR hg7
          clear hg7
          go_wp2_with fail
          refine (c_cnts z _).mono ?_
          generalize thC z = tc
          obtain ⟨t1, t2⟩ := tc
          dsimp only
          rintro e y8 ⟨rfl, hg8⟩
          replace bM := blk_fr' bM hg8 (by simp)
          replace bN := blk_fr' bN hg8 (by simp)
          replace gR := grown_t2 gR hg8
          clear hg8
          obtain ⟨f0, f1, _, _⟩ := res_cells bM
          obtain ⟨h0, h1, _, _⟩ := res_cells bN
          go_wp2_with fail
          go_ret
          exact ⟨rfl, gR⟩
        · as_aux_lemma =>
          go_wp2_with fail
          refine (c_foli _ L4 (by omega) rfl g cp _ hrd).mono ?_
          rintro e y2 ⟨rfl, hrd2, hg2⟩
          replace gR := grown_dn gR hg2 (by omega)
          have hlg : g < y2.heap.size := by obtain ⟨_, _, h, _⟩ := hrd2; exact lt_of_block h
          have bM := blk_new y2 (.cells #[.int .i64 (folR L4).a, .int .i64 (folR L4).b] 25 (0, 0))
          replace gR := grown_t2 gR (World.grownBy_alloc y2 (.cells #[.int .i64 (folR L4).a, .int .i64 (folR L4).b] 25 (0, 0)) none)
          replace hrd2 := hrd2.kept (World.grownBy_alloc y2 (.cells #[.int .i64 (folR L4).a, .int .i64 (folR L4).b] 25 (0, 0)) none) (by simp)
          go_wp2_with fail
          generalize y2.alloc (.cells #[.int .i64 (folR L4).a, .int .i64 (folR L4).b] 25 (0, 0)) = y3 at *
          generalize y2.heap.size = M1 at *
          refine (c_fols _ L4 (by omega) rfl g cp _ hrd2).mono ?_
          generalize folR L4 = rr4 at *
          obtain ⟨ra, rb, rc⟩ := rr4
          dsimp only at *
          rintro e y4 ⟨rfl, _, hg4⟩
          replace gR := grown_dn gR hg4 (by omega)
          replace bM := blk_fr' bM hg4 (by simp; omega)
          have bN := blk_new y4 (.cells #[.int .i64 ra, .int .i64 rb] 25 (0, 0))
          replace bM := blk_fr' bM (World.grownBy_alloc y4 (.cells #[.int .i64 ra, .int .i64 rb] 25 (0, 0)) none) (by simp)
          replace gR := grown_t2 gR (World.grownBy_alloc y4 (.cells #[.int .i64 ra, .int .i64 rb] 25 (0, 0)) none)
          clear hg4
          go_wp2_with fail
          generalize y4.alloc (.cells #[.int .i64 ra, .int .i64 rb] 25 (0, 0)) = y5 at *
          generalize y4.heap.size = M2 at *
          refine (draw_cnt _ _ (hB.kept gR)).mono ?_
          rintro e y6 ⟨z, rfl, hg6⟩
          replace bM := blk_fr' bM hg6 (by simp)
          replace bN := blk_fr' bN hg6 (by simp)
          replace gR := grown_t2 gR hg6
          clear hg6
          go_wp2_with fail
          refine (c_cnti z _).mono ?_
          rintro e y7 ⟨rfl, hg7⟩
          replace bM := blk_fr' bM hg7 (by simp)
          replace bN := blk_fr' bN hg7 (by simp)
          replace gR := grown_t2 gR hg7
          clear hg7
          go_wp2_with fail
          refine (c_cnts z _).mono ?_
          generalize thC z = tc
          obtain ⟨t1, t2⟩ := tc
          dsimp only
          rintro e y8 ⟨rfl, hg8⟩
          replace bM := blk_fr' bM hg8 (by simp)
          replace bN := blk_fr' bN hg8 (by simp)
          replace gR := grown_t2 gR hg8
          clear hg8
          obtain ⟨f0, f1, _, _⟩ := res_cells bM
          obtain ⟨h0, h1, _, _⟩ := res_cells bN
          go_wp2_with fail
          go_ret
          exact ⟨rfl, gR⟩
  · go_enter Try.func3, Try.ntmps3
    go_wp2_with fail
    refine (c_big oc n cc _).mono ?_
    rw [show decide (4096 < n) = true from decide_eq_true (by omega)]
    rintro e w1 ⟨rfl, rfl⟩
    go_wp2_with fail
    go_ret
    exact ⟨rfl, grn_refl _⟩
end


end Go.Proofs.Ytlhhbhmobllafaa
