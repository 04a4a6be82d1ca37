/- What each function that the statement reaches returns. -/
import Derived.Test.YtokoboflpaklaaaFnMonotoneRowsTC
set_option linter.unusedVariables false
set_option linter.unusedSimpArgs false
set_option maxRecDepth 100000
set_option maxHeartbeats 4000000
namespace Go.Proofs.Ytokoboflpaklaaa
open Go Go.Proofs.Ytokoboflpaklaaa.Mi
attribute [local irreducible] code opsK opsDK gopK opK seqK blockK callK binV
attribute [local irreducible] R2 bt
section
open Go.RowKit Go.IntWalk
theorem ev3 (oc : Option Addr) (n cc : Nat) (W : World) (hb : n ≤ 4096 → BytesR W (.slice oc n cc)) : Calls Try.prog 3 #[.slice oc n cc] W fun e W' => e = .returned (.bool true) ∧ W.grownBy W' none := by
  by_cases hn : n ≤ 4096
  · have hB := hb hn
    clear hb
    go_enter Try.func3, Try.ntmps3
    go_wp2_with fail
    refine (c_big oc n cc _).mono ?_
    rw [show decide (4096 < n) = false from decide_eq_false (by omega)]
    rintro e w1 ⟨rfl, hwq⟩
    subst w1
    generalize Value.slice oc n cc = v at *
    clear hn n cc oc
    go_wp2_with fail
    refine (draw_tra _ _ hB).mono ?_
    rintro e w1 ⟨p, t, rfl, gF⟩
    have bF := blk_new w1 (.cells #[.int .i64 p, .int .i64 t] 25 (0, 0))
    replace gF := grown_t2 gF (World.grownBy_alloc w1 (.cells #[.int .i64 p, .int .i64 t] 25 (0, 0)) none)
    obtain ⟨k0, k1, _, _⟩ := res_cells bF
    go_wp2_with fail
    generalize w1.alloc (.cells #[.int .i64 p, .int .i64 t] 25 (0, 0)) = w2 at *
    have hFl := lt_of_block bF
    generalize w1.heap.size = F at *
    refine (c_trai p t _).mono ?_
    rintro e w3 ⟨wv, rfl, hv, hg3⟩
    have hv0 := hv
    replace bF := blk_fr' bF hg3 (by simp)
    replace gF := grown_t2 gF hg3
    clear k0 k1
    obtain ⟨k0, k1, _, _⟩ := res_cells bF
    go_wp2_with fail
    refine (c_tras p t _).mono ?_
    rintro e w4 ⟨sv, rfl, hsv, hg4⟩
    replace bF := blk_fr' bF hg4 (by simp)
    replace gF := grown_t2 gF hg4
    replace hv := hv.kept hg4
    clear k0 k1
    have hL := tra_len p t
    have hwr := @tra_ok p t
    generalize traR p t = X at *
    obtain ⟨L, c⟩ := X
    dsimp only at *
    go_wp2_with fail
    refine (c_like _ _ L _ _ hL _ hv hsv).mono ?_
    rintro e w5 ⟨rfl, hg5⟩
    replace bF := blk_fr' bF hg5 (by simp)
    replace gF := grown_t2 gF hg5
    replace hv := hv.kept hg5
    have h35 : w3.heap.size ≤ w5.heap.size := Nat.le_trans hg4.size hg5.size
    have hF5 : F < w5.heap.size := by have := hg3.size; omega
    have hW5 := gF.size
    clear hg3 hg4 hg5 hsv
    obtain ⟨k0, k1, _, _⟩ := res_cells bF
    go_upto_if 73 with fail
    go_cut [0] from 3 (fun a wc => a = v ∧ W.grownBy wc none)
    case first =>
      by_cases hc : c = 0
      · as_aux_lemma =>
        rw [show (c == 0) = true by rw [hc]; rfl]
        subst hc
        obtain ⟨n, b, rfl, rfl, hfn, hn4, hb2, hb6, hmo, rfl⟩ := hwr rfl
        clear hwr
        go_wp2_with fail
        refine (c_lti n b _).mono ?_
        rw [lt_in hfn]
        rintro e w6 ⟨lv, rfl, hlv, hg6⟩
        dsimp only at hlv ⊢
        replace bF := blk_fr' bF hg6 (by simp)
        replace gF := grown_t2 gF hg6
        replace hv := hv.kept hg6
        have h56 := hg6.size
        clear k0 k1 hg6
        obtain ⟨k0, k1, _, _⟩ := res_cells bF
        have hmk := mk_ok hn4 hb2 hmo
        have hmd := mono_dual hmo
        have hdl := dual_lt n b
        have hd6 : dlB n b < 65536 := by have := (shN hn4).2.1; omega
        have hdf := fn_in hn4 hdl
        have hgd : (gfL n b).length = (ltL n (dlB n b)).length := greatest_len
        have rest : ∀ w7 : World, w7.heap[F]? = some (.cells #[.int .i64 n, .int .i64 b] 25 (0, 0)) → W.grownBy w7 none → RdV w7 w2.heap.size wv (castL (ltL n (dlB n b))) → True := fun _ _ _ _ => trivial
        clear rest
        rcases hlv with ⟨hl0, o, rfl⟩ | ⟨g, cp, rfl, hgb, hrd⟩
        · as_aux_lemma =>
          rw [hl0] at hmk
          go_wp2_with fail
          refine (c_fr0 n hn4 o _).mono ?_
          rw [hmk]
          rintro e w7 ⟨rfl, hg7⟩
          dsimp only
          replace bF := blk_fr' bF hg7 (by simp)
          replace gF := grown_t2 gF hg7
          replace hv := hv.kept hg7
          clear k0 k1 hg7 hmk hl0
          have hF7 : F < w7.heap.size := lt_of_block bF
          have bM := blk_new w7 (.cells #[.int .i64 n, .int .i64 b] 25 (0, 0))
          have gM := World.grownBy_alloc w7 (.cells #[.int .i64 n, .int .i64 b] 25 (0, 0)) none
          replace bF := blk_fr' bF gM (by simp)
          replace gF := grown_t2 gF gM
          replace hv := hv.kept gM
          clear gM
          obtain ⟨k0, k1, _, _⟩ := res_cells bF
          go_wp2_with fail
          generalize w7.alloc (.cells #[.int .i64 n, .int .i64 b] 25 (0, 0)) = w8 at *
          generalize w7.heap.size = M1 at *
          refine (c_dual n b hfn hn4 hb6 _).mono ?_
          rintro e w9 ⟨rfl, hg9⟩
          replace bF := blk_fr' bF hg9 (by simp)
          replace bM := blk_fr' bM hg9 (by simp)
          replace gF := grown_t2 gF hg9
          replace hv := hv.kept hg9
          clear k0 k1 hg9
          generalize dlB n b = d at *
          have bD := blk_new w9 (.cells #[.int .i64 n, .int .i64 d] 25 (0, 0))
          have gD := World.grownBy_alloc w9 (.cells #[.int .i64 n, .int .i64 d] 25 (0, 0)) none
          replace bF := blk_fr' bF gD (by simp)
          replace bM := blk_fr' bM gD (by simp)
          replace gF := grown_t2 gF gD
          replace hv := hv.kept gD
          clear gD
          obtain ⟨k0, k1, _, _⟩ := res_cells bD
          go_wp2_with fail
          generalize w9.alloc (.cells #[.int .i64 n, .int .i64 d] 25 (0, 0)) = wA at *
          generalize w9.heap.size = M2 at *
          refine (c_lti n d _).mono ?_
          rw [lt_in hdf]
          rintro e wB ⟨ov, rfl, hov, hgB⟩
          dsimp only at hov ⊢
          replace bF := blk_fr' bF hgB (by simp)
          replace bM := blk_fr' bM hgB (by simp)
          replace bD := blk_fr' bD hgB (by simp)
          replace gF := grown_t2 gF hgB
          replace hv := hv.kept hgB
          clear k0 k1 hgB
          obtain ⟨k0, k1, _, _⟩ := res_cells bF
          go_wp2_with fail
          refine (c_gfi n b _).mono ?_
          rw [gf_in hfn]
          rintro e wC ⟨gv, rfl, hgv, hgC⟩
          dsimp only at hgv ⊢
          replace bF := blk_fr' bF hgC (by simp)
          replace bM := blk_fr' bM hgC (by simp)
          replace bD := blk_fr' bD hgC (by simp)
          replace gF := grown_t2 gF hgC
          replace hv := hv.kept hgC
          replace hov := hov.kept hgC
          clear k0 k1 hgC
          obtain ⟨k0, k1, _, _⟩ := res_cells bD
          go_wp2_with fail
          refine (c_moni n d _).mono ?_
          rw [mono_in hdf, hmd]
          rintro e wD ⟨rfl, hgD⟩
          dsimp only
          replace bF := blk_fr' bF hgD (by simp)
          replace bM := blk_fr' bM hgD (by simp)
          replace gF := grown_t2 gF hgD
          replace hv := hv.kept hgD
          replace hov := hov.kept hgD
          replace hgv := hgv.kept hgD
          clear k0 k1 hgD bD
          obtain ⟨k0, k1, _, _⟩ := res_cells bF
          obtain ⟨m0, m1, _, _⟩ := res_cells bM
          have hlen : (castL (ltL n d)).length ≤ 16 := by rw [castL_len]; exact ltL_len n d hn4
          have hov1 := hov
          obtain ⟨o2, cp2, rfl, _⟩ := hov.shape
          obtain ⟨o3, cp3, rfl, _⟩ := hgv.shape
          rw [castL_len] at hov1
          simp only [castL_len, hgd]
          go_wp2_with fail
          refine (c_like _ _ (castL (ltL n d)) _ _ hlen _ hv hov1).mono ?_
          rintro e wE ⟨rfl, hgE⟩
          replace gF := grown_t2 gF hgE
          go_wp2_with fail
          go_meet
          case rel => exact ⟨rfl, gF⟩
        · as_aux_lemma =>
          go_wp2_with fail
          refine (c_fri _ n _ (by rw [castL_len]; have := ltL_len n b hn4; omega) rfl g cp _ hrd).mono ?_
          rw [hmk]
          rintro e w7 ⟨rfl, _, hg7⟩
          dsimp only
          replace bF := blk_fr' bF hg7 (by simp; omega)
          replace gF := grown_dn gF hg7 (by omega)
          replace hv := RdV.keptS hv0 hv hg7 (by omega)
          clear k0 k1 hg7 hmk
          have hF7 : F < w7.heap.size := lt_of_block bF
          have bM := blk_new w7 (.cells #[.int .i64 n, .int .i64 b] 25 (0, 0))
          have gM := World.grownBy_alloc w7 (.cells #[.int .i64 n, .int .i64 b] 25 (0, 0)) none
          replace bF := blk_fr' bF gM (by simp)
          replace gF := grown_t2 gF gM
          replace hv := hv.kept gM
          clear gM
          obtain ⟨k0, k1, _, _⟩ := res_cells bF
          go_wp2_with fail
          generalize w7.alloc (.cells #[.int .i64 n, .int .i64 b] 25 (0, 0)) = w8 at *
          generalize w7.heap.size = M1 at *
          refine (c_dual n b hfn hn4 hb6 _).mono ?_
          rintro e w9 ⟨rfl, hg9⟩
          replace bF := blk_fr' bF hg9 (by simp)
          replace bM := blk_fr' bM hg9 (by simp)
          replace gF := grown_t2 gF hg9
          replace hv := hv.kept hg9
          clear k0 k1 hg9
          generalize dlB n b = d at *
          have bD := blk_new w9 (.cells #[.int .i64 n, .int .i64 d] 25 (0, 0))
          have gD := World.grownBy_alloc w9 (.cells #[.int .i64 n, .int .i64 d] 25 (0, 0)) none
          replace bF := blk_fr' bF gD (by simp)
          replace bM := blk_fr' bM gD (by simp)
          replace gF := grown_t2 gF gD
          replace hv := hv.kept gD
          clear gD
          obtain ⟨k0, k1, _, _⟩ := res_cells bD
          go_wp2_with fail
          generalize w9.alloc (.cells #[.int .i64 n, .int .i64 d] 25 (0, 0)) = wA at *
          generalize w9.heap.size = M2 at *
          refine (c_lti n d _).mono ?_
          rw [lt_in hdf]
          rintro e wB ⟨ov, rfl, hov, hgB⟩
          dsimp only at hov ⊢
          replace bF := blk_fr' bF hgB (by simp)
          replace bM := blk_fr' bM hgB (by simp)
          replace bD := blk_fr' bD hgB (by simp)
          replace gF := grown_t2 gF hgB
          replace hv := hv.kept hgB
          clear k0 k1 hgB
          obtain ⟨k0, k1, _, _⟩ := res_cells bF
          go_wp2_with fail
          refine (c_gfi n b _).mono ?_
          rw [gf_in hfn]
          rintro e wC ⟨gv, rfl, hgv, hgC⟩
          dsimp only at hgv ⊢
          replace bF := blk_fr' bF hgC (by simp)
          replace bM := blk_fr' bM hgC (by simp)
          replace bD := blk_fr' bD hgC (by simp)
          replace gF := grown_t2 gF hgC
          replace hv := hv.kept hgC
          replace hov := hov.kept hgC
          clear k0 k1 hgC
          obtain ⟨k0, k1, _, _⟩ := res_cells bD
          go_wp2_with fail
          refine (c_moni n d _).mono ?_
          rw [mono_in hdf, hmd]
          rintro e wD ⟨rfl, hgD⟩
          dsimp only
          replace bF := blk_fr' bF hgD (by simp)
          replace bM := blk_fr' bM hgD (by simp)
          replace gF := grown_t2 gF hgD
          replace hv := hv.kept hgD
          replace hov := hov.kept hgD
          replace hgv := hgv.kept hgD
          clear k0 k1 hgD bD
          obtain ⟨k0, k1, _, _⟩ := res_cells bF
          obtain ⟨m0, m1, _, _⟩ := res_cells bM
          have hlen : (castL (ltL n d)).length ≤ 16 := by rw [castL_len]; exact ltL_len n d hn4
          have hov1 := hov
          obtain ⟨o2, cp2, rfl, _⟩ := hov.shape
          obtain ⟨o3, cp3, rfl, _⟩ := hgv.shape
          rw [castL_len] at hov1
          simp only [castL_len, hgd]
          go_wp2_with fail
          refine (c_like _ _ (castL (ltL n d)) _ _ hlen _ hv hov1).mono ?_
          rintro e wE ⟨rfl, hgE⟩
          replace gF := grown_t2 gF hgE
          go_wp2_with fail
          go_meet
          case rel => exact ⟨rfl, gF⟩
      · clear hwr
        go_wp2_with fail
        go_meet
        case rel => exact ⟨rfl, gF⟩
    case rest =>
     as_aux_lemma =>
      obtain ⟨hv9, gR⟩ := hcut
      subst u0
      clear bF hwr hv hv0 k0 k1 h35 hF5 hW5 hFl
      have hWc := gR.size
      go_wp2_with fail
      refine (draw_for _ _ (hB.kept gR)).mono ?_
      rintro e x1 ⟨z, g, cp, L1, rfl, hL1, hgb, hrd, hg1⟩
      replace gR := grown_t2 gR hg1
      clear hg1
      go_wp2_with fail
      refine (c_fri _ z L1 hL1 rfl g cp _ hrd).mono ?_
      rintro e x2 ⟨rfl, hrd2, hg2⟩
      replace gR := grown_dn gR hg2 (by omega)
      have hlg : g < x2.heap.size := by obtain ⟨_, _, h, _⟩ := hrd2; exact lt_of_block h
      have hfo := @for_ok z L1
      generalize hfr : forR z L1 = fr at *
      obtain ⟨fa, fb, fc⟩ := fr
      dsimp only at *
      have bM := blk_new x2 (.cells #[.int .i64 fa, .int .i64 fb] 25 (0, 0))
      have gM := World.grownBy_alloc x2 (.cells #[.int .i64 fa, .int .i64 fb] 25 (0, 0)) none
      replace gR := grown_t2 gR gM
      replace hrd2 := hrd2.kept gM (by simp)
      clear gM hg2 hrd
      go_wp2_with fail
      generalize x2.alloc (.cells #[.int .i64 fa, .int .i64 fb] 25 (0, 0)) = x3 at *
      generalize x2.heap.size = M1 at *
      refine (c_frs _ z L1 hL1 rfl g cp _ hrd2).mono ?_
      rw [hfr]
      rintro e x4 ⟨rfl, _, hg4⟩
      dsimp only
      replace gR := grown_dn gR hg4 (by omega)
      replace bM := blk_fr' bM hg4 (by simp; omega)
      clear hg4 hfr hrd2
      have bN := blk_new x4 (.cells #[.int .i64 fa, .int .i64 fb] 25 (0, 0))
      have gN := World.grownBy_alloc x4 (.cells #[.int .i64 fa, .int .i64 fb] 25 (0, 0)) none
      replace bM := blk_fr' bM gN (by simp)
      replace gR := grown_t2 gR gN
      clear gN
      obtain ⟨f0, f1, _, _⟩ := res_cells bM
      obtain ⟨q0, q1, _, _⟩ := res_cells bN
      go_upto_if 176 with fail
      generalize x4.alloc (.cells #[.int .i64 fa, .int .i64 fb] 25 (0, 0)) = x5 at *
      generalize x4.heap.size = M2 at *
      go_cut [0] from 3 (fun a wc => a = v ∧ W.grownBy wc none)
      case first =>
       as_aux_lemma =>
        by_cases hc2 : fc = 0
        · rw [show (fc == 0) = true by rw [hc2]; rfl]
          subst hc2
          have hm2 := hfo rfl
          clear hfo
          go_wp2_with fail
          refine (c_moni fa fb _).mono ?_
          rw [hm2]
          rintro e x6 ⟨rfl, hg6⟩
          dsimp only
          replace gR := grown_t2 gR hg6
          clear hm2
          go_wp2_with fail
          go_meet
          case rel => exact ⟨rfl, gR⟩
        · clear hfo
          go_wp2_with fail
          go_meet
          case rel => exact ⟨rfl, gR⟩
      case rest =>
       as_aux_lemma =>
        obtain ⟨hv9, gR⟩ := hcut
        subst u0
        clear bM bN hfo f0 f1 q0 q1 hWc hgb hlg
        go_wp2_with fail
        refine (draw_mfs _ _ (hB.kept gR)).mono ?_
        rintro e y1 ⟨z2, rfl, hg1⟩
        replace gR := grown_t2 gR hg1
        clear hg1
        go_wp2_with fail
        refine (c_mfi z2 _).mono ?_
        rintro e y2 ⟨fv, rfl, hfv, hg2⟩
        replace gR := grown_t2 gR hg2
        clear hg2
        go_wp2_with fail
        refine (c_mfs z2 _).mono ?_
        rintro e y3 ⟨sv2, rfl, hsv2, hg3⟩
        replace gR := grown_t2 gR hg3
        replace hfv := hfv.kept hg3
        clear hg3
        go_wp2_with fail
        refine (c_cnm z2 _).mono ?_
        rintro e y4 ⟨rfl, hg4⟩
        replace gR := grown_t2 gR hg4
        replace hfv := hfv.kept hg4
        replace hsv2 := hsv2.kept hg4
        clear hg4
        obtain ⟨hml, hmx⟩ := mfP_len z2
        have hfv1 := hfv
        obtain ⟨o5, cp5, rfl, _⟩ := hfv.shape
        rw [hml] at hfv1
        rw [hml]
        clear hml hfv
        generalize (mfL z2).length = ml at *
        generalize mfC z2 = mc at *
        go_wp2_with fail
        refine (c_f5 _ _ (mfP z2) _ _ hmx _ hfv1 hsv2).mono ?_
        rintro e y5 ⟨rfl, hg5⟩
        replace gR := grown_t2 gR hg5
        clear hg5 hfv1 hsv2 hmx
        go_wp2_with fail
        refine (draw_mon _ _ (hB.kept gR)).mono ?_
        rintro e y6 ⟨p1, q1, rfl, hg6⟩
        have bS := blk_new y6 (.cells #[.int .i64 p1, .int .i64 q1] 25 (0, 0))
        replace gR := grown_t2 (grown_t2 gR hg6) (World.grownBy_alloc y6 (.cells #[.int .i64 p1, .int .i64 q1] 25 (0, 0)) none)
        clear hg6
        obtain ⟨f0, f1, _, _⟩ := res_cells bS
        go_wp2_with fail
        generalize y6.alloc (.cells #[.int .i64 p1, .int .i64 q1] 25 (0, 0)) = y7 at *
        generalize y6.heap.size = S1 at *
        refine (c_moni p1 q1 _).mono ?_
        rintro e y8 ⟨rfl, hg8⟩
        replace bS := blk_fr' bS hg8 (by simp)
        replace gR := grown_t2 gR hg8
        clear f0 f1 hg8
        obtain ⟨f0, f1, _, _⟩ := res_cells bS
        go_wp2_with fail
        refine (c_mons p1 q1 _).mono ?_
        generalize monoR p1 q1 = r1
        obtain ⟨s1, d1⟩ := r1
        dsimp only
        rintro e y9 ⟨rfl, hg9⟩
        replace bS := blk_fr' bS hg9 (by simp)
        replace gR := grown_t2 gR hg9
        clear f0 f1 hg9
        obtain ⟨f0, f1, _, _⟩ := res_cells bS
        go_wp2_with fail
        refine (c_lti p1 q1 _).mono ?_
        rintro e yA ⟨lv, rfl, hlv, hgA⟩
        replace bS := blk_fr' bS hgA (by simp)
        replace gR := grown_t2 gR hgA
        clear f0 f1 hgA
        obtain ⟨f0, f1, _, _⟩ := res_cells bS
        go_wp2_with fail
        refine (c_lts p1 q1 _).mono ?_
        have hl1 := ltR_len p1 q1
        generalize ltR p1 q1 = r2 at *
        obtain ⟨L2, d2⟩ := r2
        dsimp only at *
        rintro e yB ⟨sv3, rfl, hsv3, hgB⟩
        replace gR := grown_t2 gR hgB
        replace hlv := hlv.kept hgB
        clear f0 f1 hgB bS
        go_wp2_with fail
        refine (draw_gre _ _ (hB.kept gR)).mono ?_
        rintro e yC ⟨p2, q2, rfl, hgC⟩
        have bS := blk_new yC (.cells #[.int .i64 p2, .int .i64 q2] 25 (0, 0))
        replace gR := grown_t2 (grown_t2 gR hgC) (World.grownBy_alloc yC (.cells #[.int .i64 p2, .int .i64 q2] 25 (0, 0)) none)
        replace hlv := (hlv.kept hgC).kept (World.grownBy_alloc yC (.cells #[.int .i64 p2, .int .i64 q2] 25 (0, 0)) none)
        replace hsv3 := (hsv3.kept hgC).kept (World.grownBy_alloc yC (.cells #[.int .i64 p2, .int .i64 q2] 25 (0, 0)) none)
        clear hgC
        obtain ⟨f0, f1, _, _⟩ := res_cells bS
        go_wp2_with fail
        generalize yC.alloc (.cells #[.int .i64 p2, .int .i64 q2] 25 (0, 0)) = yD at *
        generalize yC.heap.size = S2 at *
        refine (c_gfi p2 q2 _).mono ?_
        rintro e yE ⟨gv, rfl, hgv, hgE⟩
        replace bS := blk_fr' bS hgE (by simp)
        replace gR := grown_t2 gR hgE
        replace hlv := hlv.kept hgE
        replace hsv3 := hsv3.kept hgE
        clear f0 f1 hgE
        obtain ⟨f0, f1, _, _⟩ := res_cells bS
        go_wp2_with fail
        refine (c_gfs p2 q2 _).mono ?_
        have hl2 := gfR_len p2 q2
        generalize gfR p2 q2 = r3 at *
        obtain ⟨L3, d3⟩ := r3
        dsimp only at *
        rintro e yF ⟨sv4, rfl, hsv4, hgF⟩
        replace gR := grown_t2 gR hgF
        replace hlv := hlv.kept hgF
        replace hsv3 := hsv3.kept hgF
        replace hgv := hgv.kept hgF
        clear f0 f1 hgF bS
        go_wp2_with fail
        refine (c_like _ _ L2 _ _ hl1 _ hlv hsv3).mono ?_
        rintro e yG ⟨rfl, hgG⟩
        replace gR := grown_t2 gR hgG
        replace hgv := hgv.kept hgG
        replace hsv4 := hsv4.kept hgG
        clear hgG hlv hsv3
        go_wp2_with fail
        refine (c_like _ _ L3 _ _ hl2 _ hgv hsv4).mono ?_
        rintro e yH ⟨rfl, hgH⟩
        replace gR := grown_t2 gR hgH
        clear hgH hgv hsv4
        go_wp2_with fail
        go_ret
        exact ⟨rfl, gR⟩
  · go_enter Try.func3, Try.ntmps3
    go_wp2_with fail
    refine (c_big oc n cc _).mono ?_
    rw [show decide (4096 < n) = true from decide_eq_true (by omega)]
    rintro e w1 ⟨rfl, rfl⟩
    go_wp2_with fail
    go_ret
    exact ⟨rfl, grn_refl _⟩
end


end Go.Proofs.Ytokoboflpaklaaa
