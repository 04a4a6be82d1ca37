/- What each function that the statement reaches returns. -/
import Derived.Test.YtlhhbhmobllafaaFnWeighingsTB
set_option linter.unusedVariables false
set_option linter.unusedSimpArgs false
set_option maxRecDepth 100000
set_option maxHeartbeats 4000000
namespace Go.Proofs.Ytlhhbhmobllafaa
open Go Go.Proofs.Ytlhhbhmobllafaa.Mi
attribute [local irreducible] code opsK opsDK gopK opK seqK blockK callK binV
attribute [local irreducible] R2 bt
section
open Go.RowKit Go.IntWalk
theorem drw_end {w W : World} {sb : Nat} (p q : Int) (hb : W.heap[w.heap.size]? = some (.cells #[.int .i64 0, .int .i64 0] 25 (0, 0))) (hg : w.grownBy W (some sb)) (hs : Src W sb) (hsb : sb < w.heap.size) :
    ((W.setCell ⟨w.heap.size, 0, none⟩ (.int .i64 p)).setCell ⟨w.heap.size, 1, none⟩ (.int .i64 q)).heap[w.heap.size]? = some (.cells #[.int .i64 p, .int .i64 q] 25 (0, 0)) ∧ Src ((W.setCell ⟨w.heap.size, 0, none⟩ (.int .i64 p)).setCell ⟨w.heap.size, 1, none⟩ (.int .i64 q)) sb ∧ w.grownBy ((W.setCell ⟨w.heap.size, 0, none⟩ (.int .i64 p)).setCell ⟨w.heap.size, 1, none⟩ (.int .i64 q)) (some sb) := by
  have k1 := set_grown W ⟨w.heap.size, 0, none⟩ (.int .i64 p)
  have k2 := set_grown (W.setCell ⟨w.heap.size, 0, none⟩ (.int .i64 p)) ⟨w.heap.size, 1, none⟩ (.int .i64 q)
  exact ⟨two_set1 (two_set0 hb), (hs.kept k1 (fun k hk => by cases hk; simp; omega)).kept k2 (fun k hk => by cases hk; simp; omega), grown_up hg (grown_t2 k1 k2) (by simp)⟩
/-- The cells of the result before it is stored. -/
theorem res_cells {W : World} {g : Nat} {x y : Value} (hb : W.heap[g]? = some (.cells #[x, y] 25 (0, 0))) : W.cell? ⟨g, 0, none⟩ = some x ∧ W.cell? ⟨g, 1, none⟩ = some y ∧ W.frozen? ⟨g, 0, none⟩ = false ∧ W.frozen? ⟨g, 1, none⟩ = false :=
  ⟨cell_blk hb rfl, cell_blk hb rfl, free_blk 0 hb, free_blk 1 hb⟩
theorem app_end2 {w wr w1 w3 : World} {B n sb : Nat} {v : Value} {xs : List Value} {X : Obj} (hgr : w.grownBy wr (some sb)) (hg1 : wr.grownBy w1 none) (hB : w.heap.size ≤ B) (hsB : sb < B) (hs1 : Src w1 sb) (hown1 : w1.ownsRow B 2 1 v n xs) (hgrow : (w1.alloc X).grownBy w3 v.ownBlock) :
    w.grownBy w3 (some sb) ∧ (∀ j o, j < B → w1.heap[j]? = some o → w3.heap[j]? = some o) ∧ w1.heap.size < w3.heap.size ∧ Src w3 sb := by
  have hk : ∀ k, v.ownBlock = some k → B ≤ k := fun k hk => (own_ge hown1 hk).1
  refine ⟨?_, fun j o hj ho => blk_fr' (blk_alloc _ ho) hgrow (fun he => by have := hk _ he.symm; omega), ?_, (hs1.kept (World.grownBy_alloc w1 X none) (by simp)).kept hgrow (fun k he => by have := hk _ he; omega)⟩
  · have h1 := grown_t2 (grown_t2 hgr (gr_some hg1)) (gr_some (World.grownBy_alloc w1 X none))
    cases hv : v.ownBlock with
    | none => rw [hv] at hgrow; exact grown_t2 h1 (gr_some hgrow)
    | some k => rw [hv] at hgrow; exact grown_up h1 hgrow (by have := hk _ hv; omega)
  · have := hgrow.size
    simp at this; omega
theorem drawof_any (sb n : Nat) (hn : n ≤ 4) (w : World) (hs : Src w sb) (hsb : sb < w.heap.size) :
    Calls Try.prog 50 #[.pointer (some ⟨sb, 0, none⟩), .int .i64 n] w fun e w' => ∃ q : Int, e = .returned (.agg #[.int .i64 n, .int .i64 q]) ∧ Src w' sb ∧ w.grownBy w' (some sb) := by
  obtain ⟨i0, hi, hz0, hz1, hz2⟩ := info_parts Try.info2
  obtain ⟨h16, hh2, h3, h4⟩ := shN hn
  generalize hRR : R2 (R2 n) = M at *
  generalize hR : R2 n = R at *
  have bA := blk_new w (.cells #[.int .i64 0, .int .i64 0] 25 (0, 0))
  have gA := World.grownBy_alloc w (.cells #[.int .i64 0, .int .i64 0] 25 (0, 0)) none
  have hsA := hs.kept gA (by simp)
  have e1 : (w.alloc (.cells #[.int .i64 0, .int .i64 0] 25 (0, 0))).heap.size = w.heap.size + 1 := by simp
  go_enter Try.func50, Try.ntmps50
  go_wp2_with fail
  generalize w.alloc (.cells #[.int .i64 0, .int .i64 0] 25 (0, 0)) = wA at *
  refine (sall_any n hn _).mono ?_
  rw [hR, hRR]
  rintro e w1 ⟨rfl, hg1⟩
  replace bA := blk_fr' bA hg1 (by simp)
  replace gA := grown_t2 gA hg1
  replace hsA := hsA.kept hg1 (by simp)
  have hy1 := hg1.size
  clear hg1
  go_wp2_with fail
  refine (next_any sb M (by omega) (by omega) _ hsA).mono ?_
  rintro e w2 ⟨q0, rfl, hq0, hs2, hg2⟩
  replace bA := blk_fr' bA hg2 (by simp; omega)
  replace gA := grown_t2 (gr_some (k := sb) gA) hg2
  have hz2' := hg2.size
  have hz2a := gA.size
  clear hg2 hsA
  have bB := blk_new w2 (.cells #[.int .i64 n, .int .i64 q0] 25 (0, 0))
  have gB := World.grownBy_alloc w2 (.cells #[.int .i64 n, .int .i64 q0] 25 (0, 0)) none
  replace bA := blk_fr' bA gB (by simp)
  replace gA := grown_t2 gA (gr_some gB)
  have hsB := hs2.kept gB (by simp)
  have hzB : w2.heap.size < (w2.alloc (.cells #[.int .i64 n, .int .i64 q0] 25 (0, 0))).heap.size := by simp
  clear gB hs2
  go_wp2_with fail
  generalize w2.alloc (.cells #[.int .i64 n, .int .i64 q0] 25 (0, 0)) = wB at *
  refine (next_any sb 8 (by omega) (by omega) _ hsB).mono ?_
  rintro e w3 ⟨x, rfl, hx, hs3, hg3⟩
  replace bA := blk_fr' bA hg3 (by simp; omega)
  replace bB := blk_fr' bB hg3 (by simp; omega)
  replace gA := grown_t2 gA hg3
  have hz3 := hg3.size
  have hzA := gA.size
  generalize hgb : w2.heap.size = gb at *
  clear hg3 hsB e1
  obtain ⟨k0, k1, k2, k3⟩ := res_cells bA
  obtain ⟨o0, o1, _, _⟩ := res_cells bB
  obtain rfl | rfl | rfl | rfl | rfl | rfl | hx6 : x = 0 ∨ x = 1 ∨ x = 2 ∨ x = 3 ∨ x = 4 ∨ x = 5 ∨ 6 ≤ x := by omega
  · by_cases hn0 : 0 < n
    · go_wp2_with fail
      refine (next_any sb n (by omega) (by omega) _ hs3).mono ?_
      rintro e w4 ⟨x1, rfl, hx1, hs4, hg4⟩
      replace bA := blk_fr' bA hg4 (by simp; omega)
      replace gA := grown_t2 gA hg4
      clear k0 k1 k2 k3 o0 o1
      go_wp2_with fail
      refine (proj_any n x1 hn (by omega) _).mono ?_
      rintro e w5 ⟨q1, rfl, hg5⟩
      replace bA := blk_fr' bA hg5 (by simp)
      replace gA := grown_t2 gA (gr_some hg5)
      have hs5 := hs4.kept hg5 (by simp)
      obtain ⟨k0, k1, k2, k3⟩ := res_cells bA
      go_wp2_with fail
      obtain ⟨y1, y2, y3⟩ := drw_end n q1 bA gA hs5 hsb
      refine bodyPost_ret (results_c1 rfl _ _ w.heap.size 25 _ (0, 0) rfl y1 rfl) rfl ?_
      exact ⟨_, rfl, y2, y3⟩
    · obtain rfl : n = 0 := by omega
      go_wp2_with fail
      obtain ⟨y1, y2, y3⟩ := drw_end (0 : Nat) q0 bA gA hs3 hsb
      refine bodyPost_ret (results_c1 rfl _ _ w.heap.size 25 _ (0, 0) rfl y1 rfl) rfl ?_
      exact ⟨_, rfl, y2, y3⟩
  · go_wp2_with fail
    refine (next_any sb 2 (by omega) (by omega) _ hs3).mono ?_
    rintro e w4 ⟨x1, rfl, hx1, hs4, hg4⟩
    replace bA := blk_fr' bA hg4 (by simp; omega)
    replace gA := grown_t2 gA hg4
    clear k0 k1 k2 k3 o0 o1
    go_wp2_with fail
    refine (const_any n x1 hn (by omega) _).mono ?_
    rintro e w5 ⟨q1, rfl, hg5⟩
    replace bA := blk_fr' bA hg5 (by simp)
    replace gA := grown_t2 gA (gr_some hg5)
    have hs5 := hs4.kept hg5 (by simp)
    obtain ⟨k0, k1, k2, k3⟩ := res_cells bA
    go_wp2_with fail
    obtain ⟨y1, y2, y3⟩ := drw_end n q1 bA gA hs5 hsb
    refine bodyPost_ret (results_c1 rfl _ _ w.heap.size 25 _ (0, 0) rfl y1 rfl) rfl ?_
    exact ⟨_, rfl, y2, y3⟩
  · go_wp2_with fail
    refine (srows_anyd n hn _).mono ?_
    rw [hR]
    rintro e w4 ⟨rfl, hg4⟩
    replace bA := blk_fr' bA hg4 (by simp)
    replace gA := grown_t2 gA (gr_some hg4)
    have hs4 := hs3.kept hg4 (by simp)
    have hz4 := hg4.size
    clear k0 k1 k2 k3 o0 o1
    clear hg4
    go_wp2_with fail
    refine (next_any sb R (by omega) (by omega) _ hs4).mono ?_
    rintro e w5 ⟨mask, rfl, hmask, hs5, hg5⟩
    replace bA := blk_fr' bA hg5 (by simp; omega)
    replace gA := grown_t2 gA hg5
    have hz5 := hg5.size
    clear hg5 hs4
    have bE := blk_new w5 (.cells #[] 2 (0, 0))
    have gE := World.grownBy_alloc w5 (.cells #[] 2 (0, 0)) none
    replace bA := blk_fr' bA gE (by simp)
    replace gA := grown_t2 gA (gr_some gE)
    replace hs5 := hs5.kept gE (by simp)
    have hzE : w5.heap.size < (w5.alloc (.cells #[] 2 (0, 0))).heap.size := by simp
    clear gE
    go_wp2_with fail
    generalize w5.alloc (.cells #[] 2 (0, 0)) = wE at *
    generalize hB : w5.heap.size = B at *
    refine (next_any sb 2 (by omega) (by omega) _ hs5).mono ?_
    rintro e w7 ⟨one, rfl, hone, hs7, hg7⟩
    replace bA := blk_fr' bA hg7 (by simp; omega)
    replace bE := blk_fr' bE hg7 (by simp; omega)
    replace gA := grown_t2 gA hg7
    have hz7 := hg7.size
    clear hg7 hs5 hs3 bB
    go_wp2_with fail
    go_loopw [7, 9] (fun v r wr => ∃ k : Nat, r = .int .i64 k ∧ k ≤ R ∧ IntsR wr B v k ∧ wr.heap[w.heap.size]? = some (.cells #[.int .i64 0, .int .i64 0] 25 (0, 0)) ∧ Src wr sb ∧ w.grownBy wr (some sb) ∧ B < wr.heap.size) (fun _ r _ => R - (intOf r).toNat)
    case atStart => exact ⟨0, rfl, Nat.zero_le _, ⟨[], ⟨rfl, .inr ⟨_, 0, #[], rfl, Nat.le_refl _, bE, Nat.le_refl _, Nat.zero_le _, rfl, rfl⟩⟩, by simp⟩, bA, hs7, gA, by omega⟩
    case round =>
      obtain ⟨k, rfl, hk, ⟨xs, hown, hxs⟩, bC, hsr, hgr, hsz⟩ := hrel
      by_cases hkn : k < R
      · go_wp2_with (first
          | (go_at_call 53; refine (srows_anyd n hn _).mono ?_; rw [hR]; rintro e w8 ⟨rfl, hg8⟩; have hown8 := hown.kept hg8 (by cases u7.ownBlock <;> simp))
          | (go_at_call 77; refine (weight_any 4 _ (by omega) _).mono ?_; rintro e w9 ⟨z, rfl, hg9⟩; have hown9 := hown8.kept hg9 (by cases u7.ownBlock <;> simp))
          | (at_builtin; refine wpList_append_own _ rfl (.tmp 57) (.tmp 66) 27 rfl B 2 i0 _ 1 8 Try.underlying27 hi hz0 hz1 hz2 rfl (by decide) _ _ _ rfl (hown9.alloc _) ⟨w9.heap.size, 0, none⟩ 1 1 [_] rfl rfl (one_cell (blk_new _ _)) (by intro u hu; simp at hu; subst hu; rfl) (by unfold maxLen; omega) (by omega) (by have := hg8.size; have := hg9.size; simp; omega) ?_; intro v' w10 hown' hgrow _)
          | fail)
        obtain ⟨ha, hb, hz, hs10⟩ := app_end2 hgr (grown_t2 hg8 hg9) (by omega) (by omega) ((hsr.kept hg8 (by simp)).kept hg9 (by simp)) hown9 hgrow
        go_roundw
        case rel => exact ⟨k + 1, by go_num, by omega, IntsR.snoc hxs hown', hb _ _ (by omega) (blk_fr' (blk_fr' bC hg8 (by simp)) hg9 (by simp)), hs10, ha, by have := hg8.size; have := hg9.size; omega⟩
        case measure => simp [intOf]; omega
      · obtain rfl : k = R := by omega
        go_wp2_with (first
          | (go_at_call 53; refine (srows_anyd n hn _).mono ?_; rw [hR]; rintro e w8 ⟨rfl, hg8⟩)
          | fail)
        refine (of_any n B _ hn _ (by rw [hR]; exact ⟨xs, hown.kept hg8 (by cases u7.ownBlock <;> simp), hxs⟩)).mono ?_
        rintro e w9 ⟨q1, rfl, hg9⟩
        replace bA := blk_fr' (blk_fr' bC hg8 (by simp)) hg9 (by simp)
        obtain ⟨k0, k1, k2, k3⟩ := res_cells bA
        go_wp2_with fail
        obtain ⟨y1, y2, y3⟩ := drw_end n q1 bA (grown_t2 (grown_t2 hgr (gr_some hg8)) (gr_some hg9)) ((hsr.kept hg8 (by simp)).kept hg9 (by simp)) hsb
        refine bodyPost_ret (results_c1 rfl _ _ w.heap.size 25 _ (0, 0) rfl y1 rfl) rfl ?_
        exact ⟨_, rfl, y2, y3⟩
  · go_wp2_with fail
    have bE := blk_new w3 (.cells #[] 2 (0, 0))
    have gE := World.grownBy_alloc w3 (.cells #[] 2 (0, 0)) none
    replace bA := blk_fr' bA gE (by simp)
    replace gA := grown_t2 gA (gr_some gE)
    replace hs3 := hs3.kept gE (by simp)
    have hzE : w3.heap.size < (w3.alloc (.cells #[] 2 (0, 0))).heap.size := by simp
    clear gE
    generalize w3.alloc (.cells #[] 2 (0, 0)) = wE at *
    generalize hB : w3.heap.size = B at *
    refine (srows_anyd n hn _).mono ?_
    rw [hR]
    rintro e w4 ⟨rfl, hg4⟩
    replace bA := blk_fr' bA hg4 (by simp)
    replace gA := grown_t2 gA (gr_some hg4)
    have hs4 := hs3.kept hg4 (by simp)
    have hz4 := hg4.size
    clear k0 k1 k2 k3 o0 o1
    replace bE := blk_fr' bE hg4 (by simp)
    clear hg4
    go_wp2_with fail
    refine (next_any sb R (by omega) (by omega) _ hs4).mono ?_
    rintro e w5 ⟨first, rfl, hfirst, hs5, hg5⟩
    replace bA := blk_fr' bA hg5 (by simp; omega)
    replace gA := grown_t2 gA hg5
    have hz5 := hg5.size
    replace bE := blk_fr' bE hg5 (by simp; omega)
    clear hg5 hs4
    go_wp2_with fail
    refine (srows_anyd n hn _).mono ?_
    rw [hR]
    rintro e w6 ⟨rfl, hg6⟩
    replace bA := blk_fr' bA hg6 (by simp)
    replace gA := grown_t2 gA (gr_some hg6)
    have hs6 := hs5.kept hg6 (by simp)
    have hz6 := hg6.size
    replace bE := blk_fr' bE hg6 (by simp)
    clear hg6
    go_wp2_with fail
    refine (next_any sb R (by omega) (by omega) _ hs6).mono ?_
    rintro e w7 ⟨second, rfl, hsecond, hs7, hg7⟩
    replace bA := blk_fr' bA hg7 (by simp; omega)
    replace gA := grown_t2 gA hg7
    have hz7 := hg7.size
    replace bE := blk_fr' bE hg7 (by simp; omega)
    clear hg7 hs6
    clear hs3 hs5 bB
    go_wp2_with fail
    go_loopw [10, 13] (fun v r wr => ∃ k : Nat, r = .int .i64 k ∧ k ≤ R ∧ IntsR wr B v k ∧ wr.heap[w.heap.size]? = some (.cells #[.int .i64 0, .int .i64 0] 25 (0, 0)) ∧ Src wr sb ∧ w.grownBy wr (some sb) ∧ B < wr.heap.size) (fun _ r _ => R - (intOf r).toNat)
    case atStart => exact ⟨0, rfl, Nat.zero_le _, ⟨[], ⟨rfl, .inr ⟨_, 0, #[], rfl, Nat.le_refl _, bE, Nat.le_refl _, Nat.zero_le _, rfl, rfl⟩⟩, by simp⟩, bA, hs7, gA, by omega⟩
    case round =>
      obtain ⟨k, rfl, hk, ⟨xs, hown, hxs⟩, bC, hsr, hgr, hsz⟩ := hrel
      by_cases hkn : k < R
      · generalize hA1 : bits .and .i64 (k : Int) (first : Int) = A1
        generalize hA2 : bits .and .i64 (k : Int) (second : Int) = A2
        by_cases h1 : A1 = (first : Int)
        · go_wp2_with (first
            | (go_at_call 53; refine (srows_anyd n hn _).mono ?_; rw [hR]; rintro e w8 ⟨rfl, hg8⟩; have hown8 := hown.kept hg8 (by cases u10.ownBlock <;> simp))
            | (at_builtin; refine wpList_append_own _ rfl (.tmp 100) (.tmp 101) 27 rfl B 2 i0 _ 1 8 Try.underlying27 hi hz0 hz1 hz2 rfl (by decide) _ _ _ rfl (hown8.alloc _) ⟨w8.heap.size, 0, none⟩ 1 1 [_] rfl rfl (one_cell (blk_new _ _)) (by intro u hu; simp at hu; subst hu; rfl) (by unfold maxLen; omega) (by omega) (by have := hg8.size; simp; omega) ?_; intro v' w10 hown' hgrow _)
            | fail)
          obtain ⟨ha, hb, hz, hs10⟩ := app_end2 hgr hg8 (by omega) (by omega) (hsr.kept hg8 (by simp)) hown8 hgrow
          go_roundw
          case rel => exact ⟨k + 1, by go_num, by omega, IntsR.snoc hxs hown', hb _ _ (by omega) (blk_fr' bC hg8 (by simp)), hs10, ha, by have := hg8.size; omega⟩
          case measure => simp [intOf]; omega
        · by_cases h2 : A2 = (second : Int)
          · go_wp2_with (first
              | (go_at_call 53; refine (srows_anyd n hn _).mono ?_; rw [hR]; rintro e w8 ⟨rfl, hg8⟩; have hown8 := hown.kept hg8 (by cases u10.ownBlock <;> simp))
              | (at_builtin; refine wpList_append_own _ rfl (.tmp 100) (.tmp 101) 27 rfl B 2 i0 _ 1 8 Try.underlying27 hi hz0 hz1 hz2 rfl (by decide) _ _ _ rfl (hown8.alloc _) ⟨w8.heap.size, 0, none⟩ 1 1 [_] rfl rfl (one_cell (blk_new _ _)) (by intro u hu; simp at hu; subst hu; rfl) (by unfold maxLen; omega) (by omega) (by have := hg8.size; simp; omega) ?_; intro v' w10 hown' hgrow _)
              | fail)
            obtain ⟨ha, hb, hz, hs10⟩ := app_end2 hgr hg8 (by omega) (by omega) (hsr.kept hg8 (by simp)) hown8 hgrow
            go_roundw
            case rel => exact ⟨k + 1, by go_num, by omega, IntsR.snoc hxs hown', hb _ _ (by omega) (blk_fr' bC hg8 (by simp)), hs10, ha, by have := hg8.size; omega⟩
            case measure => simp [intOf]; omega
          · have h1b : (A1 == (first : Int)) = false := by simpa using h1
            have h2b : (A2 == (second : Int)) = false := by simpa using h2
            go_wp2_with (first
              | (go_at_call 53; refine (srows_anyd n hn _).mono ?_; rw [hR]; rintro e w8 ⟨rfl, hg8⟩; have hown8 := hown.kept hg8 (by cases u10.ownBlock <;> simp))
              | (at_builtin; refine wpList_append_own _ rfl (.tmp 103) (.tmp 104) 27 rfl B 2 i0 _ 1 8 Try.underlying27 hi hz0 hz1 hz2 rfl (by decide) _ _ _ rfl (hown8.alloc _) ⟨w8.heap.size, 0, none⟩ 1 1 [_] rfl rfl (one_cell (blk_new _ _)) (by intro u hu; simp at hu; subst hu; rfl) (by unfold maxLen; omega) (by omega) (by have := hg8.size; simp; omega) ?_; intro v' w10 hown' hgrow _)
              | fail)
            obtain ⟨ha, hb, hz, hs10⟩ := app_end2 hgr hg8 (by omega) (by omega) (hsr.kept hg8 (by simp)) hown8 hgrow
            go_roundw
            case rel => exact ⟨k + 1, by go_num, by omega, IntsR.snoc hxs hown', hb _ _ (by omega) (blk_fr' bC hg8 (by simp)), hs10, ha, by have := hg8.size; omega⟩
            case measure => simp [intOf]; omega
      · obtain rfl : k = R := by omega
        go_wp2_with (first
          | (go_at_call 53; refine (srows_anyd n hn _).mono ?_; rw [hR]; rintro e w8 ⟨rfl, hg8⟩)
          | fail)
        refine (of_any n B _ hn _ (by rw [hR]; exact ⟨xs, hown.kept hg8 (by cases u10.ownBlock <;> simp), hxs⟩)).mono ?_
        rintro e w9 ⟨q1, rfl, hg9⟩
        replace bA := blk_fr' (blk_fr' bC hg8 (by simp)) hg9 (by simp)
        obtain ⟨k0, k1, k2, k3⟩ := res_cells bA
        go_wp2_with fail
        obtain ⟨y1, y2, y3⟩ := drw_end n q1 bA (grown_t2 (grown_t2 hgr (gr_some hg8)) (gr_some hg9)) ((hsr.kept hg8 (by simp)).kept hg9 (by simp)) hsb
        refine bodyPost_ret (results_c1 rfl _ _ w.heap.size 25 _ (0, 0) rfl y1 rfl) rfl ?_
        exact ⟨_, rfl, y2, y3⟩
  · go_wp2_with fail
    refine (known_any _).mono ?_
    rintro e w4 ⟨rfl, hkl, hg4, hks⟩
    replace bA := blk_fr' bA hg4 (by simp)
    replace bB := blk_fr' bB hg4 (by simp)
    replace gA := grown_t2 gA (gr_some hg4)
    have hs4 := hs3.kept hg4 (by simp)
    have hz4 := hg4.size
    generalize hkb : w3.heap.size = kb at *
    clear k0 k1 k2 k3 o0 o1 hg4
    go_wp2_with fail
    refine (next_any sb 14 (by omega) (by omega) _ hs4).mono ?_
    rintro e w5 ⟨x1, rfl, hx1, hs5, hg5⟩
    obtain ⟨str, hstr⟩ := hks x1 (by omega)
    have hcs := hg5.cell hstr (by simp; omega)
    replace bA := blk_fr' bA hg5 (by simp; omega)
    replace bB := blk_fr' bB hg5 (by simp; omega)
    replace gA := grown_t2 gA hg5
    have hz5 := hg5.size
    clear hg5 hs4
    go_wp2_with fail
    refine (read_anyd str _).mono ?_
    rintro e w6 ⟨p, q1, ok, rfl, hg6⟩
    replace bA := blk_fr' bA hg6 (by simp)
    replace bB := blk_fr' bB hg6 (by simp)
    replace gA := grown_t2 gA (gr_some hg6)
    have hs6 := hs5.kept hg6 (by simp)
    have hz6 := hg6.size
    have bC := blk_new w6 (.cells #[.int .i64 p, .int .i64 q1] 25 (0, 0))
    have gC := World.grownBy_alloc w6 (.cells #[.int .i64 p, .int .i64 q1] 25 (0, 0)) none
    replace bA := blk_fr' bA gC (by simp)
    replace bB := blk_fr' bB gC (by simp)
    replace gA := grown_t2 gA (gr_some gC)
    have hs7 := hs6.kept gC (by simp)
    obtain ⟨c0, c1, _, _⟩ := res_cells bC
    obtain ⟨k0, k1, k2, k3⟩ := res_cells bA
    obtain ⟨o0, o1, _, _⟩ := res_cells bB
    by_cases hpn : p = (n : Int)
    · subst hpn
      go_wp2_with fail
      obtain ⟨y1, y2, y3⟩ := drw_end n q1 bA gA hs7 hsb
      refine bodyPost_ret (results_c1 rfl _ _ w.heap.size 25 _ (0, 0) rfl y1 rfl) rfl ?_
      exact ⟨_, rfl, y2, y3⟩
    · go_wp2_with fail
      obtain ⟨y1, y2, y3⟩ := drw_end n q0 bA gA hs7 hsb
      refine bodyPost_ret (results_c1 rfl _ _ w.heap.size 25 _ (0, 0) rfl y1 rfl) rfl ?_
      exact ⟨_, rfl, y2, y3⟩
  · by_cases hn0 : 0 < n
    · obtain ⟨m, hm⟩ : ∃ m, m < n ∧ n < m + 2 := ⟨n - 1, by omega⟩
      have hmn : (n : Int) - 1 = (m : Int) := by omega
      obtain ⟨h16', hh2', h3', h4'⟩ := shN (show m ≤ 4 by omega)
      have hm3 : m ≤ 3 := by omega
      generalize hRm : R2 m = r at *
      have hwm : IntKind.i64.wrap (m : Int) = (m : Int) := wrap_id (by omega) (by omega)
      have hwr : IntKind.u64.wrap (r : Int) = (r : Int) := w_u64 (by omega) (by omega)
      go_wp2_with fail
      refine (fix_any m n q0 hn (by omega) _).mono ?_
      rintro e w4 ⟨q1, rfl, hg4⟩
      replace bA := blk_fr' bA hg4 (by simp)
      replace gA := grown_t2 gA (gr_some hg4)
      have hs4 := hs3.kept hg4 (by simp)
      clear k0 k1 k2 k3 o0 o1 hg4 hm
      have bC := blk_new w4 (.cells #[.int .i64 m, .int .i64 q1] 25 (0, 0))
      have gC := World.grownBy_alloc w4 (.cells #[.int .i64 m, .int .i64 q1] 25 (0, 0)) none
      replace bA := blk_fr' bA gC (by simp)
      replace gA := grown_t2 gA (gr_some gC)
      replace hs4 := hs4.kept gC (by simp)
      clear gC
      go_wp2_with fail
      generalize w4.alloc (.cells #[.int .i64 m, .int .i64 q1] 25 (0, 0)) = w5 at *
      obtain ⟨c0, c1, _, _⟩ := res_cells bC
      have hfd : ∀ (q2 : Int) (w : World), (Instr.field 25 (.agg #[.int .i64 m, .int .i64 q2]) 1).run Try.prog w = .ok (.int .i64 q2) w := fun _ _ => by kernel_rfl
      have bA1 := blk_fr' bA (drew_gr w5) (by simp)
      have bC1 := blk_fr' bC (drew_gr w5) (by simp)
      obtain ⟨d0, d1, _, _⟩ := res_cells bC1
      have gD := grown_t2 gA (gr_some (drew_gr w5))
      have hsD := hs4.kept (drew_gr w5) (by simp)
      go_region_with (first
        | (go_at_call 81; refine (dual_any m q1 (by omega) _).mono ?_; rintro e w6 ⟨q2, rfl, hg6⟩; have bA2 := blk_fr' bA1 hg6 (by simp); have bC2 := blk_fr' bC1 hg6 (by simp); obtain ⟨e0, e1, _, _⟩ := res_cells bC2)
        | (go_at_call 53; refine (srows_anyd m (by omega) _).mono ?_; rw [hRm]; rintro e w7 ⟨rfl, hg7⟩; have bA3 := blk_fr' bA2 hg7 (by simp); have bC3 := blk_fr' bC2 hg7 (by simp); obtain ⟨f0, f1, _, _⟩ := res_cells bC3; obtain ⟨k0, k1, k2, k3⟩ := res_cells bA3))
      all_goals go_wp2_with fail
      all_goals
        obtain ⟨y1, y2, y3⟩ := drw_end n (IntKind.i64.wrap (q1 + IntKind.i64.wrap (q2 * 2 ^ r))) bA3 (grown_t2 (grown_t2 gD (gr_some hg6)) (gr_some hg7)) ((hsD.kept hg6 (by simp)).kept hg7 (by simp)) hsb
        refine bodyPost_ret (results_c1 rfl _ _ w.heap.size 25 _ (0, 0) rfl y1 rfl) rfl ?_
        exact ⟨_, rfl, y2, y3⟩
    · obtain rfl : n = 0 := by omega
      go_wp2_with fail
      obtain ⟨y1, y2, y3⟩ := drw_end (0 : Nat) q0 bA gA hs3 hsb
      refine bodyPost_ret (results_c1 rfl _ _ w.heap.size 25 _ (0, 0) rfl y1 rfl) rfl ?_
      exact ⟨_, rfl, y2, y3⟩
  · go_wp2_with fail
    obtain ⟨y1, y2, y3⟩ := drw_end n q0 bA gA hs3 hsb
    refine bodyPost_ret (results_c1 rfl _ _ w.heap.size 25 _ (0, 0) rfl y1 rfl) rfl ?_
    exact ⟨_, rfl, y2, y3⟩
end

section
open Go.RowKit Go.IntWalk
theorem grn_refl (w : World) : w.grownBy w none := ⟨rfl, rfl, rfl, Nat.le_refl _, fun _ _ _ => rfl⟩
theorem has_anyd (r s : Int) (w : World) : Calls Try.prog 87 #[.int .i64 r, .int .i64 s] w fun e w' => ∃ ok : Bool, e = .returned (.bool ok) ∧ w' = w := by
  go_enter Try.func87, Try.ntmps87
  go_wp2_with fail
  go_ret
  exact ⟨_, rfl, rfl⟩
theorem IntsR.shape {w : World} {b n : Nat} {v : Value} (h : IntsR w b v n) : ∃ o c, v = .slice o n c ∧ ∀ i, i < n → ∃ (g : Nat) (z : Int), o = some ⟨g, 0, none⟩ ∧ w.cell? ⟨g, i, none⟩ = some (.int .i64 z) := by
  by_cases hn : 0 < n
  · obtain ⟨g, cp, rfl, _, _, hc⟩ := h.read hn
    exact ⟨_, _, rfl, fun i hi => by obtain ⟨z, hz⟩ := hc i hi; exact ⟨g, z, rfl, hz⟩⟩
  · obtain ⟨xs, h1, _⟩ := h
    obtain ⟨o, c, rfl⟩ := own_shape h1
    exact ⟨_, _, rfl, fun i hi => by omega⟩
theorem made_any (n b m : Nat) (v : Value) (hn : n ≤ 4) (hm : m ≤ 16) (w : World) (hv : IntsR w b v m) :
    Calls Try.prog 74 #[.int .i64 n, v] w fun e w' => ∃ q : Int, e = .returned (.agg #[.int .i64 n, .int .i64 q]) ∧ w.grownBy w' none := by
  obtain ⟨i0, hi, hz0, hz1, hz2⟩ := info_parts Try.info2
  obtain ⟨h16, hh2, h3, h4⟩ := shN hn
  obtain ⟨o, cp, rfl, hc⟩ := hv.shape
  clear hv
  generalize hR : R2 n = R at *
  go_enter Try.func74, Try.ntmps74
  have bA := blk_alloc (.cells #[] 2 (0, 0)) (blk_new w (.cells #[.int .i64 0, .int .i64 0] 25 (0, 0)))
  have bB := blk_new (w.alloc (.cells #[.int .i64 0, .int .i64 0] 25 (0, 0))) (.cells #[] 2 (0, 0))
  rw [show (w.alloc (.cells #[.int .i64 0, .int .i64 0] 25 (0, 0))).heap.size = w.heap.size + 1 by simp] at bB
  have gA : w.grownBy ((w.alloc (.cells #[.int .i64 0, .int .i64 0] 25 (0, 0))).alloc (.cells #[] 2 (0, 0))) none := grown_t2 (World.grownBy_alloc _ _ none) (World.grownBy_alloc _ _ none)
  go_wp2_with fail
  generalize (w.alloc (.cells #[.int .i64 0, .int .i64 0] 25 (0, 0))).alloc (.cells #[] 2 (0, 0)) = wA at *
  go_loopw [5, 6] (fun v r wr => ∃ k : Nat, r = .int .i64 k ∧ k ≤ R ∧ IntsR wr (w.heap.size + 1) v k ∧ wr.heap[w.heap.size]? = some (.cells #[.int .i64 0, .int .i64 0] 25 (0, 0)) ∧ w.grownBy wr none ∧ w.heap.size < wr.heap.size) (fun _ r _ => R - (intOf r).toNat)
  case atStart => exact ⟨0, rfl, Nat.zero_le _, ⟨[], ⟨rfl, .inr ⟨_, 0, #[], rfl, Nat.le_refl _, bB, Nat.le_refl _, Nat.zero_le _, rfl, rfl⟩⟩, by simp⟩, bA, gA, lt_of_block bA⟩
  case round =>
    obtain ⟨k, rfl, hk, ⟨xs, hown, hxs⟩, bC, hgr, hsz⟩ := hrel
    by_cases hkn : k < R
    · go_wp2_with (first
        | (go_at_call 53; refine (srows_anyd n hn _).mono ?_; rw [hR]; rintro e w1 ⟨rfl, hg1⟩; have hown1 := hown.kept hg1 (by cases u5.ownBlock <;> simp))
        | fail)
      have hgr1 := grown_t2 hgr hg1
      go_loopw [7, 8] (fun x i wr => ∃ (j : Nat) (z : Int), i = .int .i64 j ∧ j ≤ m ∧ x = .int .i64 z ∧ wr = w1) (fun _ i _ => m - (intOf i).toNat)
      case atStart => exact ⟨0, 0, rfl, Nat.zero_le _, rfl, rfl⟩
      case round =>
        obtain ⟨j, z, rfl, hj, rfl, hwq⟩ := hrel
        subst hwq
        by_cases hjm : j < m
        · obtain ⟨g, y, rfl, hy⟩ := hc j hjm
          have hcy := hgr1.cell hy (by simp)
          go_wp2_with (first
            | (go_at_call 87; refine (has_anyd _ _ _).mono ?_; rintro e w2 ⟨ok, rfl, rfl⟩)
            | fail)
          all_goals
            go_roundw
            case rel => first | exact ⟨j + 1, _, by go_num, by omega, rfl, trivial⟩ | exact ⟨j + 1, _, by go_num, by omega, rfl, rfl⟩
            case measure => simp [intOf]; omega
        · obtain rfl : j = m := by omega
          go_wp2_with (first
            | (at_builtin; refine wpList_append_own _ rfl (.tmp 28) (.tmp 30) 27 rfl (w.heap.size + 1) 2 i0 _ 1 8 Try.underlying27 hi hz0 hz1 hz2 rfl (by decide) _ _ _ rfl (hown1.alloc _) ⟨wr.heap.size, 0, none⟩ 1 1 [_] rfl rfl (one_cell (blk_new _ _)) (by intro u hu; simp at hu; subst hu; rfl) (by unfold maxLen; omega) (by omega) (by have := hg1.size; simp; omega) ?_; intro v' w3 hown' hgrow _)
            | fail)
          obtain ⟨ha, hb, hz⟩ := app_end hgr hg1 (by omega) (by have := hg1.size; omega) hown1 hgrow
          go_roundw
          case rel => exact ⟨k + 1, by go_num, by omega, IntsR.snoc hxs hown', hb _ _ (by omega) (blk_fr' bC hg1 (by simp)), ha, by have := hg1.size; omega⟩
          case measure => simp [intOf]; omega
    · obtain rfl : k = R := by omega
      go_wp2_with (first
        | (go_at_call 53; refine (srows_anyd n hn _).mono ?_; rw [hR]; rintro e w1 ⟨rfl, hg1⟩)
        | fail)
      have b1 := blk_fr' bC hg1 (by simp)
      refine (of_any n (w.heap.size + 1) _ hn _ (by rw [hR]; exact ⟨xs, hown.kept hg1 (by cases u5.ownBlock <;> simp), hxs⟩)).mono ?_
      rintro e w2 ⟨q, rfl, hg2⟩
      have b2 := blk_fr' b1 hg2 (by simp)
      obtain ⟨k0, k1, k2, k3⟩ := res_cells b2
      go_wp2_with fail
      obtain ⟨hp, hq⟩ := ret_pair (n := n) (q := q) _ b2 (grown_t2 (grown_t2 hgr hg1) hg2) (Nat.le_refl _)
      refine bodyPost_ret (results_c1 rfl _ _ w.heap.size 25 _ (0, 0) rfl hp rfl) rfl ?_
      exact ⟨q, rfl, hq⟩
theorem drawof7_any (sb n : Nat) (hn : n ≤ 4) (w : World) (hs : Src w sb) (hsb : sb < w.heap.size) :
    Calls Try.prog 39 #[.pointer (some ⟨sb, 0, none⟩), .int .i64 n] w fun e w' => ∃ q : Int, e = .returned (.agg #[.int .i64 n, .int .i64 q]) ∧ Src w' sb ∧ w.grownBy w' (some sb) := by
  obtain ⟨i0, hi, hz0, hz1, hz2⟩ := info_parts Try.info2
  obtain ⟨h16, hh2, h3, h4⟩ := shN hn
  have bA := blk_new w (.cells #[.int .i64 0, .int .i64 0] 25 (0, 0))
  have gA := World.grownBy_alloc w (.cells #[.int .i64 0, .int .i64 0] 25 (0, 0)) none
  have hsA := hs.kept gA (by simp)
  have hyA := gA.size
  go_enter Try.func39, Try.ntmps39
  go_wp2_with fail
  generalize w.alloc (.cells #[.int .i64 0, .int .i64 0] 25 (0, 0)) = wA at *
  refine (next_any sb 4 (by omega) (by omega) _ hsA).mono ?_
  rintro e w1 ⟨x, rfl, hx, hs1, hg1⟩
  replace bA := blk_fr' bA hg1 (by simp; omega)
  replace gA := grown_t2 (gr_some (k := sb) gA) hg1
  have hy1 := hg1.size
  have hyw := gA.size
  have hyl := lt_of_block bA
  clear hg1 hsA
  by_cases hx0 : x = 0
  · subst hx0
    go_wp2_with fail
    refine (drawof_any sb n hn _ hs1 (by omega)).mono ?_
    rintro e w2 ⟨q, rfl, hs2, hg2⟩
    replace bA := blk_fr' bA hg2 (by simp; omega)
    obtain ⟨k0, k1, k2, k3⟩ := res_cells bA
    go_wp2_with fail
    obtain ⟨y1, y2, y3⟩ := drw_end n q bA (grown_t2 gA hg2) hs2 hsb
    refine bodyPost_ret (results_c1 rfl _ _ w.heap.size 25 _ (0, 0) rfl y1 rfl) rfl ?_
    exact ⟨_, rfl, y2, y3⟩
  · go_wp2_with fail
    have bE := blk_new w1 (.cells #[] 2 (0, 0))
    have gE := World.grownBy_alloc w1 (.cells #[] 2 (0, 0)) none
    replace bA := blk_fr' bA gE (by simp)
    replace gA := grown_t2 gA (gr_some gE)
    replace hs1 := hs1.kept gE (by simp)
    have hzE : w1.heap.size < (w1.alloc (.cells #[] 2 (0, 0))).heap.size := by simp
    clear gE
    generalize w1.alloc (.cells #[] 2 (0, 0)) = wE at *
    generalize hB : w1.heap.size = B at *
    refine (next_any sb 5 (by omega) (by omega) _ hs1).mono ?_
    rintro e w2 ⟨t, rfl, ht, hs2, hg2⟩
    replace bA := blk_fr' bA hg2 (by simp; omega)
    replace bE := blk_fr' bE hg2 (by simp; omega)
    replace gA := grown_t2 gA hg2
    have hz3 := hg2.size
    clear hg2 hs1
    go_wp2_with fail
    go_loopw [5, 6] (fun v r wr => ∃ k m : Nat, r = .int .i64 k ∧ m + k ≤ 4 ∧ IntsR wr B v m ∧ wr.heap[w.heap.size]? = some (.cells #[.int .i64 0, .int .i64 0] 25 (0, 0)) ∧ Src wr sb ∧ w.grownBy wr (some sb) ∧ B < wr.heap.size) (fun _ r _ => (intOf r).toNat)
    case atStart => exact ⟨t, 0, rfl, by omega, ⟨[], ⟨rfl, .inr ⟨_, 0, #[], rfl, Nat.le_refl _, bE, Nat.le_refl _, Nat.zero_le _, rfl, rfl⟩⟩, by simp⟩, bA, hs2, gA, by omega⟩
    case round =>
      obtain ⟨k, m, rfl, hk, ⟨xs, hown, hxs⟩, bC, hsr, hgr, hsz⟩ := hrel
      by_cases hkn : 0 < k
      · have hk1 : (k : Int) - 1 = ((k - 1 : Nat) : Int) := by omega
        go_wp2_with (first
          | (go_at_call 53; refine (srows_anyd n hn _).mono ?_; rintro e w3 ⟨rfl, hg3⟩; have hs3 := hsr.kept hg3 (by simp))
          | (go_at_call 48; refine (next_any sb _ (by omega) (by omega) _ hs3).mono ?_; rintro e w4 ⟨z, rfl, hz, hs4, hg4⟩; have hown4 := (hown.kept hg3 (by cases u5.ownBlock <;> simp)).kept hg4 (by cases hv : u5.ownBlock with | none => simp | some b => right; simp; have := (own_ge hown hv).1; omega))
          | (at_builtin; refine wpList_append_own _ rfl (.tmp 20) (.tmp 25) 27 rfl B 2 i0 _ 1 8 Try.underlying27 hi hz0 hz1 hz2 rfl (by decide) _ _ _ rfl (hown4.alloc _) ⟨w4.heap.size, 0, none⟩ 1 1 [_] rfl rfl (one_cell (blk_new _ _)) (by intro u hu; simp at hu; subst hu; rfl) (by unfold maxLen; omega) (by omega) (by have := hg3.size; have := hg4.size; simp; omega) ?_; intro v' w10 hown' hgrow _)
          | fail)
        have hg34 := grown_t2 (gr_some hg3) hg4
        obtain ⟨ha, hb, hz, hs10⟩ := app_end2 (grown_t2 hgr hg34) (grn_refl _) (by omega) (by omega) hs4 hown4 hgrow
        go_roundw
        case rel => exact ⟨k - 1, m + 1, by go_num, by omega, IntsR.snoc hxs hown', hb _ _ (by omega) (blk_fr' bC hg34 (by simp; omega)), hs10, ha, by have := hg34.size; omega⟩
        case measure => simp [intOf]; omega
      · obtain rfl : k = 0 := by omega
        go_wp2_with fail
        refine (made_any n B m _ hn (by omega) _ ⟨xs, hown, hxs⟩).mono ?_
        rintro e w9 ⟨q, rfl, hg9⟩
        replace bA := blk_fr' bC hg9 (by simp)
        obtain ⟨k0, k1, k2, k3⟩ := res_cells bA
        go_wp2_with fail
        obtain ⟨y1, y2, y3⟩ := drw_end n q bA (grown_t2 hgr (gr_some hg9)) (hsr.kept hg9 (by simp)) hsb
        refine bodyPost_ret (results_c1 rfl _ _ w.heap.size 25 _ (0, 0) rfl y1 rfl) rfl ?_
        exact ⟨_, rfl, y2, y3⟩
/-- A list of numbers laid down: each is one of those meant. -/
theorem list_cellsP {w : World} {T : TypeId} (P : Int → Prop) (L : List Value) (h : ∀ v ∈ L, ∃ z : Int, P z ∧ v = .int .i64 z) : ∀ i, i < L.length → ∃ z : Int, P z ∧ (w.alloc (.cells L.toArray T (0, 0))).cell? ⟨w.heap.size, i, none⟩ = some (.int .i64 z) := fun i hi => by
  obtain ⟨z, hz, he⟩ := h _ (List.getElem_mem hi)
  exact ⟨z, hz, cell_blk (blk_new _ _) (by rw [← he]; simp [hi])⟩
end

section
open Go.RowKit Go.IntWalk
theorem draw7_any (sb : Nat) (w : World) (hs : Src w sb) (hsb : sb < w.heap.size) :
    Calls Try.prog 45 #[.pointer (some ⟨sb, 0, none⟩)] w fun e w' => ∃ p q : Int, e = .returned (.agg #[.int .i64 p, .int .i64 q]) ∧ Src w' sb ∧ w.grownBy w' (some sb) := by
  have bA := blk_new w (.cells #[.int .i64 0, .int .i64 0] 25 (0, 0))
  have gA := World.grownBy_alloc w (.cells #[.int .i64 0, .int .i64 0] 25 (0, 0)) none
  have hsA := hs.kept gA (by simp)
  have hyA := gA.size
  have e1 : (w.alloc (.cells #[.int .i64 0, .int .i64 0] 25 (0, 0))).heap.size = w.heap.size + 1 := by simp
  go_enter Try.func45, Try.ntmps45
  go_wp2_with fail
  generalize w.alloc (.cells #[.int .i64 0, .int .i64 0] 25 (0, 0)) = wA at *
  rw [← e1]
  refine (pick_any sb wA.heap.size 7 7 (fun z => 0 ≤ z ∧ z ≤ 4) (by omega) (by omega) (by omega) _ (hsA.kept (World.grownBy_alloc _ _ none) (by simp)) (list_cellsP _ [.int .i64 0, .int .i64 1, .int .i64 2, .int .i64 3, .int .i64 3, .int .i64 4, .int .i64 4] (by simp))).mono ?_
  rintro e w1 ⟨z, ⟨hz0, hz4⟩, rfl, hs1, hg1⟩
  obtain ⟨n, rfl⟩ := Int.eq_ofNat_of_zero_le hz0
  have hn4 : n ≤ 4 := by omega
  have gE := World.grownBy_alloc wA (.cells #[.int .i64 0, .int .i64 1, .int .i64 2, .int .i64 3, .int .i64 3, .int .i64 4, .int .i64 4] 2 (0, 0)) none
  replace hg1 := grown_t2 (gr_some (k := sb) gE) hg1
  replace bA := blk_fr' bA hg1 (by simp; omega)
  replace gA := grown_t2 (gr_some (k := sb) gA) hg1
  have hyw := gA.size
  clear hg1 hsA gE
  go_wp2_with fail
  refine (drawof7_any sb n hn4 _ hs1 (by omega)).mono ?_
  rintro e w2 ⟨q, rfl, hs2, hg2⟩
  replace bA := blk_fr' bA hg2 (by simp; omega)
  replace gA := grown_t2 gA hg2
  have hyw2 := gA.size
  clear hg2 hs1
  go_wp2_with fail
  refine (bad_any sb n q hn4 _ hs2 (by omega)).mono ?_
  rintro e w3 ⟨p', q', rfl, hs3, hg3⟩
  replace bA := blk_fr' bA hg3 (by simp; omega)
  replace gA := grown_t2 gA hg3
  obtain ⟨k0, k1, k2, k3⟩ := res_cells bA
  go_wp2_with fail
  obtain ⟨y1, y2, y3⟩ := drw_end p' q' bA gA hs3 hsb
  refine bodyPost_ret (results_c1 rfl _ _ w.heap.size 25 _ (0, 0) rfl y1 rfl) rfl ?_
  exact ⟨_, _, rfl, y2, y3⟩
end

section
open Go.RowKit Go.IntWalk
/-- The bytes of the law's argument. -/
def BytesR (w : World) (v : Value) : Prop := ∃ (oc : Option Addr) (n cc : Nat), v = .slice oc n cc ∧ n ≤ 4096 ∧ (0 < n → ∃ g o : Nat, oc = some ⟨g, o, none⟩ ∧ g < w.heap.size ∧ ∀ i, i < n → ∃ x : Nat, x < 256 ∧ w.cell? ⟨g, o + i, none⟩ = some (.int .u8 x))
theorem BytesR.kept {w w' : World} {v : Value} (h : BytesR w v) (hg : w.grownBy w' none) : BytesR w' v := by
  obtain ⟨oc, n, cc, h1, h2, h3⟩ := h
  refine ⟨oc, n, cc, h1, h2, fun hn => ?_⟩
  obtain ⟨g, o, h4, h5, h6⟩ := h3 hn
  refine ⟨g, o, h4, Nat.lt_of_lt_of_le h5 hg.size, fun i hi => ?_⟩
  obtain ⟨x, hx, hc⟩ := h6 i hi
  exact ⟨x, hx, hg.cell hc (by simp)⟩
theorem from_b (v : Value) (w : World) (h : BytesR w v) : Calls Try.prog 38 #[v] w fun e w' => ∃ sb, e = .returned (.pointer (some ⟨sb, 0, none⟩)) ∧ w.heap.size ≤ sb ∧ sb < w'.heap.size ∧ Src w' sb ∧ w.grownBy w' none := by
  obtain ⟨oc, n, cc, rfl, h2, h3⟩ := h
  exact from_any oc n cc h2 w h3
theorem grown_dn {a b c : World} {sb : Nat} (h1 : a.grownBy b none) (h2 : b.grownBy c (some sb)) (hk : a.heap.size ≤ sb) : a.grownBy c none :=
  ⟨h2.os.trans h1.os, h2.tape.trans h1.tape, h2.output.trans h1.output, Nat.le_trans h1.size h2.size, fun j hj _ => (h2.block j (Nat.lt_of_lt_of_le hj h1.size) (fun e => by cases e; omega)).trans (h1.block j hj (by simp))⟩
theorem size_anyd (r n : Nat) (hn : n ≤ 16) (hr : r < 2 ^ n) (w : World) : Calls Try.prog 54 #[.int .i64 r] w fun e w' => ∃ z : Nat, e = .returned (.int .i64 z) ∧ z ≤ n ∧ w' = w := by
  have h16 : 2 ^ n ≤ 65536 := by
    have := Nat.pow_le_pow_right (show 0 < 2 by omega) hn
    simpa using this
  go_enter Try.func54, Try.ntmps54
  go_wp2_with fail
  go_loopw [0, 3] (fun r c wr => ∃ k c' j : Nat, r = .int .i64 k ∧ c = .int .i64 c' ∧ k < 2 ^ j ∧ k < 65536 ∧ c' + j ≤ n ∧ wr = w) (fun r _ _ => (intOf r).toNat)
  case atStart => exact ⟨r, 0, n, rfl, rfl, hr, by omega, by omega, rfl⟩
  case round =>
    obtain ⟨k, c', j, rfl, rfl, hk, hk2, hc, hwq⟩ := hrel
    subst hwq
    by_cases hk0 : 0 < k
    · have hj : 0 < j := by
        rcases Nat.eq_zero_or_pos j with rfl | h
        · simp at hk; omega
        · exact h
      have hp : 2 ^ j = 2 * 2 ^ (j - 1) := by rw [← Nat.pow_succ']; congr 1; omega
      have hm : (k : Int).tmod 2 = ((k % 2 : Nat) : Int) := by rw [Int.tmod_eq_emod_of_nonneg (by omega)]; simp
      have hd : (k : Int).tdiv 2 = ((k / 2 : Nat) : Int) := by rw [Int.tdiv_eq_ediv_of_nonneg (by omega)]; simp
      go_wp2_with fail
      go_roundw
      case rel =>
        refine ⟨k / 2, c' + k % 2, j - 1, ?_, ?_, by omega, by omega, by omega, trivial⟩
        · first | go_num | simp
        · first | go_num | simp
      case measure => simp [intOf]; omega
    · obtain rfl : k = 0 := by omega
      go_wp2_with fail
      go_ret
      exact ⟨c', rfl, by omega, rfl⟩
theorem symm_any (b m n : Nat) (v : Value) (hn : n ≤ 4) (hm : n < m ∧ m < n + 2) (w : World) (hv : IntsR w b v m) :
    Calls Try.prog 49 #[v] w fun e w' => ∃ q : Int, e = .returned (.agg #[.int .i64 n, .int .i64 q]) ∧ w.grownBy w' none := by
  obtain ⟨i0, hi, hz0, hz1, hz2⟩ := info_parts Try.info2
  obtain ⟨h16, hh2, h3, h4⟩ := shN hn
  obtain ⟨g, cp, rfl, hbg, hgl, hc⟩ := hv.read (by omega)
  have hmn : (m : Int) - 1 = (n : Int) := by omega
  clear hv
  have hRp : ∀ k, k < R2 n → k < 2 ^ n := fun k hk => by unfold R2 at hk; exact hk
  generalize hR : R2 n = R at *
  go_enter Try.func49, Try.ntmps49
  have bA := blk_alloc (.cells #[] 2 (0, 0)) (blk_new w (.cells #[.int .i64 0, .int .i64 0] 25 (0, 0)))
  have bB := blk_new (w.alloc (.cells #[.int .i64 0, .int .i64 0] 25 (0, 0))) (.cells #[] 2 (0, 0))
  rw [show (w.alloc (.cells #[.int .i64 0, .int .i64 0] 25 (0, 0))).heap.size = w.heap.size + 1 by simp] at bB
  have gA : w.grownBy ((w.alloc (.cells #[.int .i64 0, .int .i64 0] 25 (0, 0))).alloc (.cells #[] 2 (0, 0))) none := grown_t2 (World.grownBy_alloc _ _ none) (World.grownBy_alloc _ _ none)
  go_wp2_with fail
  generalize (w.alloc (.cells #[.int .i64 0, .int .i64 0] 25 (0, 0))).alloc (.cells #[] 2 (0, 0)) = wA at *
  go_loopw [4, 5] (fun v r wr => ∃ k : Nat, r = .int .i64 k ∧ k ≤ R ∧ IntsR wr (w.heap.size + 1) v k ∧ wr.heap[w.heap.size]? = some (.cells #[.int .i64 0, .int .i64 0] 25 (0, 0)) ∧ w.grownBy wr none ∧ w.heap.size < wr.heap.size) (fun _ r _ => R - (intOf r).toNat)
  case atStart => exact ⟨0, rfl, Nat.zero_le _, ⟨[], ⟨rfl, .inr ⟨_, 0, #[], rfl, Nat.le_refl _, bB, Nat.le_refl _, Nat.zero_le _, rfl, rfl⟩⟩, by simp⟩, bA, gA, lt_of_block bA⟩
  case round =>
    obtain ⟨k, rfl, hk, ⟨xs, hown, hxs⟩, bC, hgr, hsz⟩ := hrel
    by_cases hkn : k < R
    · go_wp2_with (first
        | (go_at_call 53; refine (srows_anyd n hn _).mono ?_; rw [hR]; rintro e w1 ⟨rfl, hg1⟩; have hown1 := hown.kept hg1 (by cases u4.ownBlock <;> simp))
        | (go_at_call 54; refine (size_anyd k n (by omega) (hRp k hkn) _).mono ?_; rintro e w2 ⟨z, rfl, hz, hwq⟩; subst hwq; obtain ⟨y, hy⟩ := hc z (by omega); have hcy := (grown_t2 hgr hg1).cell hy (by simp); have hzm : z < m := (by omega))
        | (at_builtin; refine wpList_append_own _ rfl (.tmp 16) (.tmp 22) 27 rfl (w.heap.size + 1) 2 i0 _ 1 8 Try.underlying27 hi hz0 hz1 hz2 rfl (by decide) _ _ _ rfl (hown1.alloc _) ⟨w2.heap.size, 0, none⟩ 1 1 [_] rfl rfl (one_cell (blk_new _ _)) (by intro u hu; simp at hu; subst hu; rfl) (by unfold maxLen; omega) (by omega) (by have := hg1.size; simp; omega) ?_; intro v' w3 hown' hgrow _)
        | fail)
      obtain ⟨ha, hb, hz⟩ := app_end hgr hg1 (by omega) (by have := hg1.size; omega) hown1 hgrow
      go_roundw
      case rel => exact ⟨k + 1, by go_num, by omega, IntsR.snoc hxs hown', hb _ _ (by omega) (blk_fr' bC hg1 (by simp)), ha, by have := hg1.size; omega⟩
      case measure => simp [intOf]; omega
    · obtain rfl : k = R := by omega
      go_wp2_with (first
        | (go_at_call 53; refine (srows_anyd n hn _).mono ?_; rw [hR]; rintro e w1 ⟨rfl, hg1⟩)
        | fail)
      have b1 := blk_fr' bC hg1 (by simp)
      refine (of_any n (w.heap.size + 1) _ hn _ (by rw [hR]; exact ⟨xs, hown.kept hg1 (by cases u4.ownBlock <;> simp), hxs⟩)).mono ?_
      rintro e w2 ⟨q, rfl, hg2⟩
      have b2 := blk_fr' b1 hg2 (by simp)
      obtain ⟨k0, k1, k2, k3⟩ := res_cells b2
      go_wp2_with fail
      obtain ⟨hp, hq⟩ := ret_pair (n := n) (q := q) _ b2 (grown_t2 (grown_t2 hgr hg1) hg2) (Nat.le_refl _)
      refine bodyPost_ret (results_c1 rfl _ _ w.heap.size 25 _ (0, 0) rfl hp rfl) rfl ?_
      exact ⟨q, rfl, hq⟩
end

section
open Go.RowKit Go.IntWalk
theorem ret_pq {w w2 : World} (p q : Int) (hb : w2.heap[w.heap.size]? = some (.cells #[.int .i64 0, .int .i64 0] 25 (0, 0))) (hg : w.grownBy w2 none) :
    ((w2.setCell ⟨w.heap.size, 0, none⟩ (.int .i64 p)).setCell ⟨w.heap.size, 1, none⟩ (.int .i64 q)).heap[w.heap.size]? = some (.cells #[.int .i64 p, .int .i64 q] 25 (0, 0)) ∧ w.grownBy ((w2.setCell ⟨w.heap.size, 0, none⟩ (.int .i64 p)).setCell ⟨w.heap.size, 1, none⟩ (.int .i64 q)) none :=
  ⟨two_set1 (two_set0 hb), below_grown ((((Below.refl w.heap.size w).grown hg (Nat.le_refl _) (fun k hk => by cases hk)).setCell (Nat.le_refl _) _).setCell (Nat.le_refl _) _)⟩
theorem draw_reg (v : Value) (w : World) (h : BytesR w v) : Calls Try.prog 14 #[v] w fun e w' => ∃ p q : Int, e = .returned (.agg #[.int .i64 p, .int .i64 q]) ∧ w.grownBy w' none := by
  have bA := blk_new w (.cells #[.int .i64 0, .int .i64 0] 25 (0, 0))
  have gA := World.grownBy_alloc w (.cells #[.int .i64 0, .int .i64 0] 25 (0, 0)) none
  have hA := h.kept gA
  have hl := lt_of_block bA
  go_enter Try.func14, Try.ntmps14
  go_wp2_with fail
  generalize w.alloc (.cells #[.int .i64 0, .int .i64 0] 25 (0, 0)) = wA at *
  refine (from_b _ _ hA).mono ?_
  rintro e w1 ⟨sb, rfl, hsb1, hsb2, hs1, hg1⟩
  replace bA := blk_fr' bA hg1 (by simp)
  replace gA := grown_t2 gA hg1
  go_wp2_with fail
  refine (draw7_any sb _ hs1 hsb2).mono ?_
  rintro e w2 ⟨p, q, rfl, hs2, hg2⟩
  replace bA := blk_fr' bA hg2 (by simp; omega)
  replace gA := grown_dn gA hg2 (by omega)
  obtain ⟨k0, k1, k2, k3⟩ := res_cells bA
  go_wp2_with fail
  obtain ⟨y1, y2⟩ := ret_pq p q bA gA
  refine bodyPost_ret (results_c1 rfl _ _ w.heap.size 25 _ (0, 0) rfl y1 rfl) rfl ?_
  exact ⟨_, _, rfl, y2⟩
theorem draw_cnt (v : Value) (w : World) (h : BytesR w v) : Calls Try.prog 23 #[v] w fun e w' => ∃ z : Int, e = .returned (.int .i64 z) ∧ w.grownBy w' none := by
  go_enter Try.func23, Try.ntmps23
  go_wp2_with fail
  refine (from_b _ _ h).mono ?_
  rintro e w1 ⟨sb, rfl, hsb1, hsb2, hs1, hg1⟩
  go_wp2_with fail
  refine (pick_any sb w1.heap.size 8 8 (fun _ => True) (by omega) (by omega) (by omega) _ (hs1.kept (World.grownBy_alloc _ _ none) (by simp)) (list_cells (L := [.int .i64 0, .int .i64 1, .int .i64 2, .int .i64 2, .int .i64 1, .int .i64 3, .int .i64 (-1), .int .i64 4]) (by simp))).mono ?_
  rintro e w2 ⟨z, _, rfl, hs2, hg2⟩
  go_wp2_with fail
  go_ret
  exact ⟨z, rfl, grown_dn (grown_t2 hg1 (World.grownBy_alloc _ _ none)) hg2 (by omega)⟩
theorem results_c3 {fn : Func} {p t u : Tmp} (h : fn.results = #[.cell p 25, .tmp t, .tmp u]) (tmps : Array Value) (w : World) (g : Nat) (e : TypeId) (cs : Array Value) (fr : Nat × Nat)
    (hp : tmps.getD p undef = .pointer (some ⟨g, 0, none⟩)) (hg : w.heap[g]? = some (.cells cs e fr)) (hi : cs.size = 2) : (results fn tmps).run Try.prog w = .ok (.tuple #[.agg cs, tmps.getD t undef, tmps.getD u undef]) w := by
  have hp' : tmps[p]?.getD undef = .pointer (some ⟨g, 0, none⟩) := by simpa using hp
  simp [results, h, hp', asAddr, run_loadVar_row w g e 25 cs fr _ hg Try.underlying25 rfl (by rw [show (Try.prog.info? 25).map (·.size) = some 2 by kernel_rfl, hi]), Result.andThen]
theorem draw_str (v : Value) (w : World) (h : BytesR w v) : Calls Try.prog 12 #[v] w fun e w' => ∃ p q i j : Int, e = .returned (.tuple #[.agg #[.int .i64 p, .int .i64 q], .int .i64 i, .int .i64 j]) ∧ w.grownBy w' none := by
  have bA := blk_new w (.cells #[.int .i64 0, .int .i64 0] 25 (0, 0))
  have gA := World.grownBy_alloc w (.cells #[.int .i64 0, .int .i64 0] 25 (0, 0)) none
  have hA := h.kept gA
  have hl := lt_of_block bA
  go_enter Try.func12, Try.ntmps12
  go_wp2_with fail
  generalize w.alloc (.cells #[.int .i64 0, .int .i64 0] 25 (0, 0)) = wA at *
  refine (from_b _ _ hA).mono ?_
  rintro e w1 ⟨sb, rfl, hsb1, hsb2, hs1, hg1⟩
  replace bA := blk_fr' bA hg1 (by simp)
  replace gA := grown_t2 gA hg1
  have hl2 : w.heap.size < sb := by omega
  clear hg1 hA hl hsb1
  go_wp2_with fail
  refine (pick_any sb w1.heap.size 5 5 (fun z => 1 ≤ z ∧ z ≤ 4) (by omega) (by omega) (by omega) _ (hs1.kept (World.grownBy_alloc _ _ none) (by simp)) (list_cellsP _ [.int .i64 1, .int .i64 2, .int .i64 3, .int .i64 3, .int .i64 4] (by simp))).mono ?_
  rintro e w2 ⟨z, ⟨hz1, hz4⟩, rfl, hs2, hg2⟩
  obtain ⟨n, rfl⟩ := Int.eq_ofNat_of_zero_le (show 0 ≤ z by omega)
  have hn4 : n ≤ 4 := by omega
  replace hg2 := grown_t2 (gr_some (k := sb) (World.grownBy_alloc w1 (.cells #[.int .i64 1, .int .i64 2, .int .i64 3, .int .i64 3, .int .i64 4] 2 (0, 0)) none)) hg2
  replace bA := blk_fr' bA hg2 (by simp; omega)
  replace gA := grown_dn gA hg2 (by omega)
  have hy2 := hg2.size
  clear hg2 hs1
  go_wp2_with fail
  refine (drawof7_any sb n hn4 _ hs2 (by omega)).mono ?_
  rintro e w3 ⟨q, rfl, hs3, hg3⟩
  replace bA := blk_fr' bA hg3 (by simp; omega)
  replace gA := grown_dn gA hg3 (by omega)
  have hy3 := hg3.size
  clear hg3 hs2
  have bF := blk_new w3 (.cells #[.int .i64 n, .int .i64 q] 25 (0, 0))
  have gF := World.grownBy_alloc w3 (.cells #[.int .i64 n, .int .i64 q] 25 (0, 0)) none
  replace bA := blk_fr' bA gF (by simp)
  replace gA := grown_t2 gA gF
  replace hs3 := hs3.kept gF (by simp)
  have hyF := gF.size
  obtain ⟨f0, f1, _, _⟩ := res_cells bF
  clear gF
  go_wp2_with fail
  generalize w3.alloc (.cells #[.int .i64 n, .int .i64 q] 25 (0, 0)) = w4 at *
  generalize hgF : w3.heap.size = gF at *
  refine (near_any sb n (by omega) (by omega) _ hs3 (by omega)).mono ?_
  rintro e w5 ⟨i, rfl, hs5, hg5⟩
  replace bA := blk_fr' bA hg5 (by simp; omega)
  replace bF := blk_fr' bF hg5 (by simp; omega)
  replace gA := grown_dn gA hg5 (by omega)
  have hy5 := hg5.size
  clear hg5 hs3 f0 f1
  obtain ⟨f0, f1, _, _⟩ := res_cells bF
  go_wp2_with fail
  refine (near_any sb n (by omega) (by omega) _ hs5 (by omega)).mono ?_
  rintro e w6 ⟨j, rfl, hs6, hg6⟩
  replace bA := blk_fr' bA hg6 (by simp; omega)
  replace bF := blk_fr' bF hg6 (by simp; omega)
  replace gA := grown_dn gA hg6 (by omega)
  have hy6 := hg6.size
  clear hg6 hs5 f0 f1
  obtain ⟨f0, f1, _, _⟩ := res_cells bF
  go_wp2_with fail
  refine (bad_any sb n q hn4 _ hs6 (by omega)).mono ?_
  rintro e w7 ⟨p', q', rfl, hs7, hg7⟩
  replace bA := blk_fr' bA hg7 (by simp; omega)
  replace gA := grown_dn gA hg7 (by omega)
  obtain ⟨k0, k1, k2, k3⟩ := res_cells bA
  go_wp2_with fail
  obtain ⟨y1, y2⟩ := ret_pq p' q' bA gA
  refine bodyPost_ret (results_c3 rfl _ _ w.heap.size 25 _ (0, 0) rfl y1 rfl) rfl ?_
  exact ⟨_, _, _, _, rfl, y2⟩
end

section
open Go.RowKit Go.IntWalk
theorem sum_anyd (b n : Nat) (v : Value) (r : Nat) (hn : n ≤ 4) (hr : r < 16) (w : World) (hv : IntsR w b v n) : Calls Try.prog 62 #[v, .int .i64 r] w fun e w' => ∃ z : Int, e = .returned (.int .i64 z) ∧ w' = w := by
  obtain ⟨o, cp, rfl, hc⟩ := hv.shape
  go_enter Try.func62, Try.ntmps62
  go_wp2_with fail
  go_loopw [5, 6] (fun s i wr => ∃ (k : Nat) (z : Int), i = .int .i64 k ∧ k ≤ n ∧ s = .int .i64 z ∧ wr = w) (fun _ i _ => n - (intOf i).toNat)
  case atStart => exact ⟨0, 0, rfl, Nat.zero_le _, rfl, rfl⟩
  case round =>
    obtain ⟨k, z, rfl, hk, rfl, hwq⟩ := hrel
    subst hwq
    by_cases hkn : k < n
    · obtain ⟨g, y, rfl, hy⟩ := hc k hkn
      go_wp2_with fail
      go_roundw
      case rel => first | exact ⟨k + 1, _, by go_num, by omega, rfl, trivial⟩ | exact ⟨k + 1, _, by go_num, by omega, rfl, rfl⟩
      case measure => simp [intOf]; omega
    · obtain rfl : k = n := by omega
      go_wp2_with fail
      go_ret
      exact ⟨z, rfl, rfl⟩
theorem app_dn {w wr w1 w3 : World} {B n sb : Nat} {v : Value} {xs : List Value} {X : Obj} (hgr : w.grownBy wr none) (hg1 : wr.grownBy w1 none) (hB : w.heap.size ≤ B) (hsB : sb < B) (hs1 : Src w1 sb) (hown1 : w1.ownsRow B 2 1 v n xs) (hgrow : (w1.alloc X).grownBy w3 v.ownBlock) :
    w.grownBy w3 none ∧ (∀ j o, j < B → w1.heap[j]? = some o → w3.heap[j]? = some o) ∧ w1.heap.size < w3.heap.size ∧ Src w3 sb := by
  have hk : ∀ k, v.ownBlock = some k → B ≤ k := fun k hk => (own_ge hown1 hk).1
  refine ⟨?_, fun j o hj ho => blk_fr' (blk_alloc _ ho) hgrow (fun he => by have := hk _ he.symm; omega), ?_, (hs1.kept (World.grownBy_alloc w1 X none) (by simp)).kept hgrow (fun k he => by have := hk _ he; omega)⟩
  · have h1 := grown_t2 (grown_t2 hgr hg1) (World.grownBy_alloc w1 X none)
    cases hv : v.ownBlock with
    | none => rw [hv] at hgrow; exact grown_t2 h1 hgrow
    | some k => rw [hv] at hgrow; exact grown_dn h1 hgrow (by have := hk _ hv; omega)
  · have := hgrow.size
    simp at this; omega
theorem own_kept {w w' : World} {B sb n : Nat} {v : Value} {xs : List Value} (h : w.ownsRow B 2 1 v n xs) (hg : w.grownBy w' (some sb)) (hsb : sb < B) : w'.ownsRow B 2 1 v n xs :=
  h.kept hg (by cases hv : v.ownBlock with | none => simp | some b => right; simp; have := (own_ge h hv).1; omega)
theorem IntsR.kept2 {w w' : World} {b n : Nat} {v : Value} {row : Option Nat} (h : IntsR w b v n) (hg : w.grownBy w' row) (hr : v.ownBlock = none ∨ v.ownBlock ≠ row) : IntsR w' b v n := by
  obtain ⟨xs, h1, h2⟩ := h
  exact ⟨xs, h1.kept hg hr, h2⟩
theorem draww_any (v : Value) (w : World) (h : BytesR w v) : Calls Try.prog 26 #[v] w fun e w' => ∃ p q : Int, e = .returned (.agg #[.int .i64 p, .int .i64 q]) ∧ w.grownBy w' none := by
  obtain ⟨i0, hi, hz0, hz1, hz2⟩ := info_parts Try.info2
  have bA := blk_new w (.cells #[.int .i64 0, .int .i64 0] 25 (0, 0))
  have gA := World.grownBy_alloc w (.cells #[.int .i64 0, .int .i64 0] 25 (0, 0)) none
  have hA := h.kept gA
  have hl := lt_of_block bA
  go_enter Try.func26, Try.ntmps26
  go_wp2_with fail
  generalize w.alloc (.cells #[.int .i64 0, .int .i64 0] 25 (0, 0)) = wA at *
  refine (from_b _ _ hA).mono ?_
  rintro e w1 ⟨sb, rfl, hsb1, hsb2, hs1, hg1⟩
  replace bA := blk_fr' bA hg1 (by simp)
  replace gA := grown_t2 gA hg1
  have hl2 : w.heap.size < sb := by omega
  clear hg1 hA hl hsb1
  go_wp2_with fail
  refine (next_any sb 3 (by omega) (by omega) _ hs1).mono ?_
  rintro e w2 ⟨x, rfl, hx, hs2, hg2⟩
  replace bA := blk_fr' bA hg2 (by simp; omega)
  replace gA := grown_dn gA hg2 (by omega)
  have hy2 := hg2.size
  clear hg2 hs1
  by_cases hx0 : x = 0
  · subst hx0
    go_wp2_with fail
    refine (draw7_any sb _ hs2 (by omega)).mono ?_
    rintro e w3 ⟨p, q, rfl, hs3, hg3⟩
    replace bA := blk_fr' bA hg3 (by simp; omega)
    replace gA := grown_dn gA hg3 (by omega)
    obtain ⟨k0, k1, k2, k3⟩ := res_cells bA
    go_wp2_with fail
    obtain ⟨y1, y2⟩ := ret_pq p q bA gA
    refine bodyPost_ret (results_c1 rfl _ _ w.heap.size 25 _ (0, 0) rfl y1 rfl) rfl ?_
    exact ⟨_, _, rfl, y2⟩
  · go_wp2_with fail
    refine (pick_any sb w2.heap.size 5 5 (fun z => 1 ≤ z ∧ z ≤ 4) (by omega) (by omega) (by omega) _ (hs2.kept (World.grownBy_alloc _ _ none) (by simp)) (list_cellsP _ [.int .i64 1, .int .i64 2, .int .i64 3, .int .i64 3, .int .i64 4] (by simp))).mono ?_
    rintro e w3 ⟨z, ⟨hz1', hz4⟩, rfl, hs3, hg3⟩
    obtain ⟨n, rfl⟩ := Int.eq_ofNat_of_zero_le (show 0 ≤ z by omega)
    have hn4 : n ≤ 4 := by omega
    obtain ⟨h16, hh2, h3, h4⟩ := shN hn4
    replace hg3 := grown_t2 (gr_some (k := sb) (World.grownBy_alloc w2 (.cells #[.int .i64 1, .int .i64 2, .int .i64 3, .int .i64 3, .int .i64 4] 2 (0, 0)) none)) hg3
    replace bA := blk_fr' bA hg3 (by simp; omega)
    replace gA := grown_dn gA hg3 (by omega)
    have hy3 := hg3.size
    clear hg3 hs2
    have e1 : (w3.alloc (.cells #[] 2 (0, 0))).heap.size = w3.heap.size + 1 := by simp
    have bE := blk_alloc (.cells #[] 2 (0, 0)) (blk_new w3 (.cells #[] 2 (0, 0)))
    have bF := blk_new (w3.alloc (.cells #[] 2 (0, 0))) (.cells #[] 2 (0, 0))
    rw [e1] at bF
    have gE : w3.grownBy ((w3.alloc (.cells #[] 2 (0, 0))).alloc (.cells #[] 2 (0, 0))) none := grown_t2 (World.grownBy_alloc _ _ none) (World.grownBy_alloc _ _ none)
    replace bA := blk_fr' bA gE (by simp)
    replace gA := grown_t2 gA gE
    replace hs3 := hs3.kept gE (by simp)
    clear gE e1
    go_wp2_with fail
    generalize (w3.alloc (.cells #[] 2 (0, 0))).alloc (.cells #[] 2 (0, 0)) = w4 at *
    generalize hB : w3.heap.size = B at *
    have hB4 := lt_of_block bF
    go_loopw [5, 7] (fun v i wr => ∃ k : Nat, i = .int .i64 k ∧ k ≤ n ∧ IntsR wr B v k ∧ v.ownBlock ≠ some (B + 1) ∧ wr.heap[B + 1]? = some (.cells #[] 2 (0, 0)) ∧ wr.heap[w.heap.size]? = some (.cells #[.int .i64 0, .int .i64 0] 25 (0, 0)) ∧ Src wr sb ∧ w.grownBy wr none ∧ B + 1 < wr.heap.size) (fun _ i _ => n - (intOf i).toNat)
    case atStart => exact ⟨0, rfl, Nat.zero_le _, ⟨[], ⟨rfl, .inr ⟨_, 0, #[], rfl, Nat.le_refl _, bE, Nat.le_refl _, Nat.zero_le _, rfl, rfl⟩⟩, by simp⟩, by simp [Value.ownBlock], bF, bA, hs3, gA, hB4⟩
    case round =>
      obtain ⟨k, rfl, hk, ⟨xs, hown, hxs⟩, hne, bG, bC, hsr, hgr, hsz⟩ := hrel
      by_cases hkn : k < n
      · go_wp2_with (first
          | (go_at_call 48; refine (next_any sb 7 (by omega) (by omega) _ hsr).mono ?_; rintro e w5 ⟨y, rfl, hy, hs5, hg5⟩; have hown5 := own_kept hown hg5 (by omega))
          | (at_builtin; refine wpList_append_own_at _ rfl (.tmp 28) (.tmp 32) 27 rfl B 2 i0 _ 1 8 Try.underlying27 hi hz0 hz1 hz2 rfl (by decide) _ _ _ rfl (hown5.alloc _) ⟨w5.heap.size, 0, none⟩ 1 1 [_] rfl rfl (one_cell (blk_new _ _)) (by intro u hu; simp at hu; subst hu; rfl) (by unfold maxLen; omega) (by omega) (by have := hg5.size; simp; omega) ?_; intro v' w6 hown' hgrow _ hat)
          | fail)
        have hgr5 := grown_dn hgr hg5 (by omega)
        have hy5 := hg5.size
        obtain ⟨ha, hb, hz, hs6⟩ := app_dn hgr5 (grn_refl _) (by omega) (by omega) hs5 hown5 hgrow
        have bG6 := blk_fr' (blk_alloc (.cells #[.int .i64 (y - 3)] 2 (0, 0)) (blk_fr' bG hg5 (by simp; omega))) hgrow (fun he => hne he.symm)
        go_roundw
        case rel => exact ⟨k + 1, by go_num, by omega, IntsR.snoc hxs hown', (by rcases hat with h | h <;> rw [h]; exact hne; simp; omega), bG6, hb _ _ (by omega) (blk_fr' bC hg5 (by simp; omega)), hs6, ha, by omega⟩
        case measure => simp [intOf]; omega
      · obtain rfl : k = n := by omega
        go_wp2_with fail
        refine (next_any sb 9 (by omega) (by omega) _ hsr).mono ?_
        rintro e w7 ⟨t, rfl, ht, hs7, hg7⟩
        have hR6 : IntsR wr B u5 k := ⟨xs, hown, hxs⟩
        have hR7 := hR6.kept2 hg7 (by cases hv : u5.ownBlock with | none => simp | some b => right; simp; have := (own_ge hown hv).1; omega)
        replace bG := blk_fr' bG hg7 (by simp; omega)
        replace bC := blk_fr' bC hg7 (by simp; omega)
        replace hgr := grown_dn hgr hg7 (by omega)
        have hz7 := hg7.size
        clear hg7 hown hxs bE bF bA hs3 gA hB4 hsr
        obtain ⟨gw, cw, rfl, hgB, hgl, _⟩ := hR7.read (by omega)
        have hgw : gw ≠ B + 1 := fun he => hne (by simp [Value.ownBlock, he])
        clear hne
        generalize hR : R2 k = R at *
        go_wp2_with fail
        go_loopw [6, 9] (fun v i wr => ∃ m : Nat, i = .int .i64 m ∧ m ≤ R ∧ IntsR wr (B + 1) v m ∧ v.ownBlock ≠ some gw ∧ IntsR wr B (.slice (some ⟨gw, 0, none⟩) k cw) k ∧ wr.heap[w.heap.size]? = some (.cells #[.int .i64 0, .int .i64 0] 25 (0, 0)) ∧ Src wr sb ∧ w.grownBy wr none ∧ B + 1 < wr.heap.size ∧ gw < wr.heap.size) (fun _ i _ => R - (intOf i).toNat)
        case atStart => exact ⟨0, rfl, Nat.zero_le _, ⟨[], ⟨rfl, .inr ⟨_, 0, #[], rfl, Nat.le_refl _, bG, Nat.le_refl _, Nat.zero_le _, rfl, rfl⟩⟩, by simp⟩, by simp [Value.ownBlock]; omega, hR7, bC, hs7, hgr, by omega, hgl⟩
        case round =>
          obtain ⟨m, rfl, hm, ⟨ys, hown, hys⟩, hne, hRw, bC8, hsr8, hgr8, hsz8, hgl8⟩ := hrel
          by_cases hmR : m < R
          · go_wp2_with (first
              | (go_at_call 53; refine (srows_anyd k hn4 _).mono ?_; rw [hR]; rintro e w8 ⟨rfl, hg8⟩; have hRw8 := hRw.kept hg8 (by simp); have hown8 := hown.kept hg8 (by cases u6.ownBlock <;> simp))
              | (go_at_call 62; refine (sum_anyd B k _ m (by omega) (by omega) _ hRw8).mono ?_; rintro e w9 ⟨z, rfl, hwq⟩; subst hwq)
              | (at_builtin; refine wpList_append_own_at _ rfl (.tmp 48) (.tmp 50) 27 rfl (B + 1) 2 i0 _ 1 8 Try.underlying27 hi hz0 hz1 hz2 rfl (by decide) _ _ _ rfl (hown8.alloc _) ⟨w9.heap.size, 0, none⟩ 1 1 [_] rfl rfl (one_cell (blk_new _ _)) (by intro u hu; simp at hu; subst hu; rfl) (by unfold maxLen; omega) (by omega) (by have := hg8.size; simp; omega) ?_; intro v' w10 hown' hgrow _ hat)
              | fail)
            all_goals
              have hy8 := hg8.size
              obtain ⟨ha, hb, hz, hs10⟩ := app_dn hgr8 hg8 (by omega) (by omega) (hsr8.kept hg8 (by simp)) hown8 hgrow
              have hRw10 := (hRw8.kept2 (World.grownBy_alloc w9 _ none) (.inr (by simp [Value.ownBlock]))).kept2 hgrow (.inr (fun he => hne he.symm))
              go_roundw
              case rel => exact ⟨m + 1, by go_num, by omega, IntsR.snoc hys hown', (by rcases hat with h | h <;> rw [h]; exact hne; simp; omega), hRw10, hb _ _ (by omega) (blk_fr' bC8 hg8 (by simp)), hs10, ha, by omega, by omega⟩
              case measure => simp [intOf]; omega
          · obtain rfl : m = R := by omega
            go_wp2_with (first
              | (go_at_call 53; refine (srows_anyd k hn4 _).mono ?_; rw [hR]; rintro e w8 ⟨rfl, hg8⟩)
              | fail)
            have hIR : IntsR wr (B + 1) u6 m := ⟨ys, hown, hys⟩
            rw [← hR] at hIR
            refine (of_any k (B + 1) _ hn4 _ (hIR.kept hg8 (by simp))).mono ?_
            rintro e w9 ⟨q, rfl, hg9⟩
            replace hg8 := grown_t2 hg8 hg9
            have hy8 := hg8.size
            go_wp2_with fail
            refine (bad_any sb k q hn4 _ (hsr8.kept hg8 (by simp)) (by omega)).mono ?_
            rintro e w11 ⟨p', q', rfl, hs11, hg11⟩
            have bA := blk_fr' (blk_fr' bC8 hg8 (by simp)) hg11 (by simp; omega)
            obtain ⟨k0, k1, k2, k3⟩ := res_cells bA
            go_wp2_with fail
            obtain ⟨y1, y2⟩ := ret_pq p' q' bA (grown_dn (grown_t2 hgr8 hg8) hg11 (by omega))
            refine bodyPost_ret (results_c1 rfl _ _ w.heap.size 25 _ (0, 0) rfl y1 rfl) rfl ?_
            exact ⟨_, _, rfl, y2⟩
end

section
open Go.RowKit Go.IntWalk
theorem draw_wgh (v : Value) (w : World) (h : BytesR w v) : Calls Try.prog 5 #[v] w fun e w' => ∃ p q : Int, e = .returned (.agg #[.int .i64 p, .int .i64 q]) ∧ w.grownBy w' none := by
  have bA := blk_new w (.cells #[.int .i64 0, .int .i64 0] 25 (0, 0))
  have gA := World.grownBy_alloc w (.cells #[.int .i64 0, .int .i64 0] 25 (0, 0)) none
  have hA := h.kept gA
  go_enter Try.func5, Try.ntmps5
  go_wp2_with fail
  generalize w.alloc (.cells #[.int .i64 0, .int .i64 0] 25 (0, 0)) = wA at *
  refine (draww_any _ _ hA).mono ?_
  rintro e w1 ⟨p, q, rfl, hg1⟩
  replace bA := blk_fr' bA hg1 (by simp)
  replace gA := grown_t2 gA hg1
  obtain ⟨k0, k1, k2, k3⟩ := res_cells bA
  go_wp2_with fail
  obtain ⟨y1, y2⟩ := ret_pq p q bA gA
  refine bodyPost_ret (results_c1 rfl _ _ w.heap.size 25 _ (0, 0) rfl y1 rfl) rfl ?_
  exact ⟨_, _, rfl, y2⟩
theorem one_own {w : World} {g b : Nat} {z : Int} (h : w.heap[g]? = some (.cells #[.int .i64 z] 2 (0, 0))) (hb : b ≤ g) : w.ownsRow b 2 1 (.slice (some ⟨g, 0, none⟩) 1 1) 1 [.int .i64 z] :=
  ⟨rfl, .inr ⟨g, 1, _, rfl, hb, h, Nat.le_refl _, by decide, rfl, rfl⟩⟩
theorem draw_lev (v : Value) (w : World) (h : BytesR w v) : Calls Try.prog 17 #[v] w fun e w' => ∃ p q : Int, e = .returned (.agg #[.int .i64 p, .int .i64 q]) ∧ w.grownBy w' none := by
  obtain ⟨i0, hi, hz0, hz1, hz2⟩ := info_parts Try.info2
  have bA := blk_new w (.cells #[.int .i64 0, .int .i64 0] 25 (0, 0))
  have gA := World.grownBy_alloc w (.cells #[.int .i64 0, .int .i64 0] 25 (0, 0)) none
  have hA := h.kept gA
  have hl := lt_of_block bA
  go_enter Try.func17, Try.ntmps17
  go_wp2_with fail
  generalize w.alloc (.cells #[.int .i64 0, .int .i64 0] 25 (0, 0)) = wA at *
  refine (from_b _ _ hA).mono ?_
  rintro e w1 ⟨sb, rfl, hsb1, hsb2, hs1, hg1⟩
  replace bA := blk_fr' bA hg1 (by simp)
  replace gA := grown_t2 gA hg1
  have hl2 : w.heap.size < sb := by omega
  clear hg1 hA hl hsb1
  go_wp2_with fail
  refine (next_any sb 2 (by omega) (by omega) _ hs1).mono ?_
  rintro e w2 ⟨x, rfl, hx, hs2, hg2⟩
  replace bA := blk_fr' bA hg2 (by simp; omega)
  replace gA := grown_dn gA hg2 (by omega)
  have hy2 := hg2.size
  clear hg2 hs1
  have bB := blk_new w2 (.cells #[.int .i64 x] 2 (0, 0))
  have gB := World.grownBy_alloc w2 (.cells #[.int .i64 x] 2 (0, 0)) none
  replace bA := blk_fr' bA gB (by simp)
  replace gA := grown_t2 gA gB
  replace hs2 := hs2.kept gB (by simp)
  clear gB
  have hlB := lt_of_block bB
  go_wp2_with fail
  generalize w2.alloc (.cells #[.int .i64 x] 2 (0, 0)) = w3 at *
  generalize hB : w2.heap.size = B at *
  refine (next_any sb 5 (by omega) (by omega) _ hs2).mono ?_
  rintro e w4 ⟨K, rfl, hK, hs4, hg4⟩
  replace bA := blk_fr' bA hg4 (by simp; omega)
  replace bB := blk_fr' bB hg4 (by simp; omega)
  replace gA := grown_dn gA hg4 (by omega)
  have hy4 := hg4.size
  clear hg4 hs2
  go_wp2_with fail
  go_loopw [4, 5] (fun v i wr => ∃ k m : Nat, i = .int .i64 k ∧ k + m < K + 2 ∧ K < k + m ∧ k ≤ K ∧ IntsR wr B v m ∧ wr.heap[w.heap.size]? = some (.cells #[.int .i64 0, .int .i64 0] 25 (0, 0)) ∧ Src wr sb ∧ w.grownBy wr none ∧ B < wr.heap.size) (fun _ i _ => (intOf i).toNat)
  case atStart => exact ⟨K, 1, rfl, by omega, by omega, Nat.le_refl _, ⟨_, one_own bB (Nat.le_refl _), by intro y hy; simp at hy; exact ⟨_, hy⟩⟩, bA, hs4, gA, by omega⟩
  case round =>
    obtain ⟨k, m, rfl, hk1, hk2, hk3, ⟨xs, hown, hxs⟩, bC, hsr, hgr, hsz⟩ := hrel
    by_cases hk0 : 0 < k
    · go_wp2_with (first
        | (go_at_call 48; refine (next_any sb 2 (by omega) (by omega) _ hsr).mono ?_; rintro e w5 ⟨y, rfl, hy, hs5, hg5⟩; have hown5 := own_kept hown hg5 (by omega))
        | (at_builtin; refine wpList_append_own_at _ rfl (.tmp 18) (.tmp 21) 27 rfl B 2 i0 _ 1 8 Try.underlying27 hi hz0 hz1 hz2 rfl (by decide) _ _ _ rfl (hown5.alloc _) ⟨w5.heap.size, 0, none⟩ 1 1 [_] rfl rfl (one_cell (blk_new _ _)) (by intro u hu; simp at hu; subst hu; rfl) (by unfold maxLen; omega) (by omega) (by have := hg5.size; simp; omega) ?_; intro v' w6 hown' hgrow _ hat)
        | fail)
      have hgr5 := grown_dn hgr hg5 (by omega)
      have hy5 := hg5.size
      obtain ⟨ha, hb, hz, hs6⟩ := app_dn hgr5 (grn_refl _) (by omega) (by omega) hs5 hown5 hgrow
      go_roundw
      case rel => exact ⟨k - 1, m + 1, by go_num, by omega, by omega, by omega, IntsR.snoc hxs hown', hb _ _ (by omega) (blk_fr' bC hg5 (by simp; omega)), hs6, ha, by omega⟩
      case measure => simp [intOf]; omega
    · obtain rfl : k = 0 := by omega
      have hIR : IntsR wr B u4 m := ⟨xs, hown, hxs⟩
      go_wp2_with fail
      refine (symm_any B m K _ (by omega) (by omega) _ hIR).mono ?_
      rintro e w7 ⟨q, rfl, hg7⟩
      replace bC := blk_fr' bC hg7 (by simp)
      replace hsr := hsr.kept hg7 (by simp)
      replace hgr := grown_t2 hgr hg7
      have hy7 := hg7.size
      have bF := blk_new w7 (.cells #[.int .i64 K, .int .i64 q] 25 (0, 0))
      have gF := World.grownBy_alloc w7 (.cells #[.int .i64 K, .int .i64 q] 25 (0, 0)) none
      replace bC := blk_fr' bC gF (by simp)
      replace hgr := grown_t2 hgr gF
      replace hsr := hsr.kept gF (by simp)
      have hlF := lt_of_block bF
      clear gF hg7 bA bB hs4 gA
      go_wp2_with fail
      generalize w7.alloc (.cells #[.int .i64 K, .int .i64 q] 25 (0, 0)) = w8 at *
      generalize hF : w7.heap.size = F at *
      refine (next_any sb 3 (by omega) (by omega) _ hsr).mono ?_
      rintro e w9 ⟨t, rfl, ht, hs9, hg9⟩
      replace bC := blk_fr' bC hg9 (by simp; omega)
      replace bF := blk_fr' bF hg9 (by simp; omega)
      replace hgr := grown_dn hgr hg9 (by omega)
      have hy9 := hg9.size
      clear hg9 hsr
      obtain ⟨f0, f1, f2, f3⟩ := res_cells bF
      have hK4 : K ≤ 4 := by omega
      by_cases ht0 : t = 0
      · subst ht0
        go_wp2_with fail
        refine (drawof_any sb K hK4 _ hs9 (by omega)).mono ?_
        rintro e w10 ⟨q', rfl, hs10, hg10⟩
        replace bC := blk_fr' bC hg10 (by simp; omega)
        replace bF := blk_fr' bF hg10 (by simp; omega)
        replace hgr := grown_dn hgr hg10 (by omega)
        have hy10 := hg10.size
        clear hg10 hs9 f0 f1 f2 f3
        obtain ⟨f0, f1, f2, f3⟩ := res_cells bF
        have k1 := set_grown w10 ⟨F, 0, none⟩ (.int .i64 K)
        have k2 := set_grown (w10.setCell ⟨F, 0, none⟩ (.int .i64 K)) ⟨F, 1, none⟩ (.int .i64 q')
        have bF2 := two_set1 (u := .int .i64 q') (two_set0 (u := .int .i64 K) bF)
        have bC2 := blk_fr' (blk_fr' bC k1 (by simp; omega)) k2 (by simp; omega)
        have hs2 := (hs10.kept k1 (fun k hk => by cases hk; simp; omega)).kept k2 (fun k hk => by cases hk; simp; omega)
        have hgr2 := grown_dn (grown_dn hgr k1 (by simp; omega)) k2 (by simp; omega)
        have hyk := Nat.le_trans k1.size k2.size
        go_wp2_with fail
        clear f0 f1 f2 f3
        generalize (w10.setCell ⟨F, 0, none⟩ (.int .i64 K)).setCell ⟨F, 1, none⟩ (.int .i64 q') = w11 at *
        obtain ⟨f0, f1, f2, f3⟩ := res_cells bF2
        go_wp2_with fail
        refine (bad_any sb K q' hK4 _ hs2 (by omega)).mono ?_
        rintro e w12 ⟨a, b, rfl, hs12, hg12⟩
        replace bC2 := blk_fr' bC2 hg12 (by simp; omega)
        replace hgr2 := grown_dn hgr2 hg12 (by omega)
        obtain ⟨e0, e1, e2, e3⟩ := res_cells bC2
        go_wp2_with fail
        obtain ⟨y1, y2⟩ := ret_pq a b bC2 hgr2
        refine bodyPost_ret (results_c1 rfl _ _ w.heap.size 25 _ (0, 0) rfl y1 rfl) rfl ?_
        exact ⟨_, _, rfl, y2⟩
      · go_wp2_with fail
        refine (bad_any sb K q hK4 _ hs9 (by omega)).mono ?_
        rintro e w12 ⟨a, b, rfl, hs12, hg12⟩
        replace bC := blk_fr' bC hg12 (by simp; omega)
        replace hgr := grown_dn hgr hg12 (by omega)
        obtain ⟨e0, e1, e2, e3⟩ := res_cells bC
        go_wp2_with fail
        obtain ⟨y1, y2⟩ := ret_pq a b bC hgr
        refine bodyPost_ret (results_c1 rfl _ _ w.heap.size 25 _ (0, 0) rfl y1 rfl) rfl ?_
        exact ⟨_, _, rfl, y2⟩
theorem set_blk {w : World} {g i : Nat} {cs : Array Value} {el : TypeId} {fz : Nat × Nat} {u : Value} (h : w.heap[g]? = some (.cells cs el fz)) : (w.setCell ⟨g, i, none⟩ u).heap[g]? = some (.cells (cs.setIfInBounds i u) el fz) := by
  have hlt := lt_of_block h
  have h' : w.heap[g] = .cells cs el fz := by simpa [Array.getElem?_eq_getElem hlt] using h
  show (w.heap.modify g _)[g]? = _
  rw [Array.getElem?_eq_getElem (by simpa using hlt), Array.getElem_modify_self, h']
  rfl
theorem IntsR.set0 {w : World} {b n g cp : Nat} {z : Int} (h : IntsR w b (.slice (some ⟨g, 0, none⟩) n cp) n) : IntsR (w.setCell ⟨g, 0, none⟩ (.int .i64 z)) b (.slice (some ⟨g, 0, none⟩) n cp) n := by
  obtain ⟨xs, h1, h2⟩ := h
  obtain ⟨h3, h4⟩ := h1
  rcases h4 with ⟨h5, _⟩ | ⟨g', cap, cur, h5, h6, h7, h8, h9, h10, h11⟩
  · simp at h5
  · simp only [Value.slice.injEq, Option.some.injEq, Addr.mk.injEq] at h5
    obtain ⟨⟨rfl, _⟩, _, rfl⟩ := h5
    refine ⟨xs.set 0 (.int .i64 z), ⟨by simpa using h3, .inr ⟨g, cp, _, rfl, h6, set_blk h7, h8, h9, by simpa using h10, ?_⟩⟩, fun x hx => ?_⟩
    · rw [← h11, Array.toList_setIfInBounds, List.take_set]
    · rcases List.mem_or_eq_of_mem_set hx with h | h
      · exact h2 _ h
      · exact ⟨z, h⟩
/-- What the list reads as. -/
theorem IntsR.rd {w : World} {b n : Nat} {v : Value} (h : IntsR w b v n) : ∃ L : List Int, L.length = n ∧ RdV w b v L := by
  obtain ⟨xs, ⟨h1, h2⟩, h3⟩ := h
  rcases h2 with ⟨rfl, rfl⟩ | ⟨g, cap, cur, rfl, h6, h7, h8, h9, h10, h11⟩
  · exact ⟨[], rfl, .inl ⟨rfl, _, rfl⟩⟩
  · have hl : (xs.map intOf).length = n := by simpa using h1
    refine ⟨xs.map intOf, hl, .inr ⟨g, cap, by rw [hl], h6, cur, 2, h7, by omega, by omega, fun i hi => ?_⟩⟩
    have hi' : i < xs.length := by simpa using hi
    obtain ⟨z, hz⟩ := h3 _ (List.getElem_mem hi')
    have hc : cur[i]? = some xs[i] := by
      have := congrArg (fun l => l[i]?) h11
      simp only [List.getElem?_take] at this
      rw [if_pos (by omega), List.getElem?_eq_getElem hi'] at this
      simpa using this
    rw [hc, hz]
    simp [List.getD_eq_getElem?_getD, hi', hz, intOf]
theorem RdV.weak {w : World} {b b' : Nat} {v : Value} {L : List Int} (h : RdV w b v L) (hb : b' ≤ b) : RdV w b' v L := by
  rcases h with h | ⟨g, cp, h1, h2, h3⟩
  · exact .inl h
  · exact .inr ⟨g, cp, h1, by omega, h3⟩
theorem draw_fol (v : Value) (w : World) (h : BytesR w v) : Calls Try.prog 21 #[v] w fun e w' => ∃ (u : Value) (L : List Int), e = .returned u ∧ L.length ≤ 6 ∧ RdV w' w.heap.size u L ∧ w.grownBy w' none := by
  obtain ⟨i0, hi, hz0, hz1, hz2⟩ := info_parts Try.info2
  go_enter Try.func21, Try.ntmps21
  go_wp2_with fail
  refine (from_b _ _ h).mono ?_
  rintro e w1 ⟨sb, rfl, hsb1, hsb2, hs1, gA⟩
  have bB := blk_new w1 (.cells #[] 2 (0, 0))
  have gB := World.grownBy_alloc w1 (.cells #[] 2 (0, 0)) none
  replace gA := grown_t2 gA gB
  replace hs1 := hs1.kept gB (by simp)
  have hlB := lt_of_block bB
  clear gB
  go_wp2_with fail
  generalize w1.alloc (.cells #[] 2 (0, 0)) = w2 at *
  generalize hB : w1.heap.size = B at *
  refine (next_any sb 7 (by omega) (by omega) _ hs1).mono ?_
  rintro e w3 ⟨K, rfl, hK, hs3, hg3⟩
  replace bB := blk_fr' bB hg3 (by simp; omega)
  replace gA := grown_dn gA hg3 (by omega)
  have hy3 := hg3.size
  have hK6 : K ≤ 6 := by omega
  clear hg3 hs1
  go_wp2_with fail
  go_loopw [4, 5] (fun v i wr => ∃ k m : Nat, i = .int .i64 k ∧ k + m ≤ K ∧ IntsR wr B v m ∧ Src wr sb ∧ w.grownBy wr none ∧ B < wr.heap.size) (fun _ i _ => (intOf i).toNat)
  case atStart => exact ⟨K, 0, rfl, by omega, ⟨[], ⟨rfl, .inr ⟨_, 0, #[], rfl, Nat.le_refl _, bB, Nat.le_refl _, Nat.zero_le _, rfl, rfl⟩⟩, by simp⟩, hs3, gA, by omega⟩
  case round =>
    obtain ⟨k, m, rfl, hk1, ⟨xs, hown, hxs⟩, hsr, hgr, hsz⟩ := hrel
    by_cases hk0 : 0 < k
    · go_wp2_with (first
        | (go_at_call 48; refine (next_any sb 2 (by omega) (by omega) _ hsr).mono ?_; rintro e w5 ⟨y, rfl, hy, hs5, hg5⟩; have hown5 := own_kept hown hg5 (by omega))
        | (at_builtin; refine wpList_append_own_at _ rfl (.tmp 15) (.tmp 18) 27 rfl B 2 i0 _ 1 8 Try.underlying27 hi hz0 hz1 hz2 rfl (by decide) _ _ _ rfl (hown5.alloc _) ⟨w5.heap.size, 0, none⟩ 1 1 [_] rfl rfl (one_cell (blk_new _ _)) (by intro u hu; simp at hu; subst hu; rfl) (by unfold maxLen; omega) (by omega) (by have := hg5.size; simp; omega) ?_; intro v' w6 hown' hgrow _ hat)
        | fail)
      have hgr5 := grown_dn hgr hg5 (by omega)
      have hy5 := hg5.size
      obtain ⟨ha, hb, hz, hs6⟩ := app_dn hgr5 (grn_refl _) (by omega) (by omega) hs5 hown5 hgrow
      go_roundw
      case rel => exact ⟨k - 1, m + 1, by go_num, by omega, IntsR.snoc hxs hown', hs6, ha, by omega⟩
      case measure => simp [intOf]; omega
    · obtain rfl : k = 0 := by omega
      have hIR : IntsR wr B u4 m := ⟨xs, hown, hxs⟩
      clear hown hxs
      obtain ⟨L0, hL0, hrd0⟩ := hIR.rd
      by_cases hm : 0 < m
      · obtain ⟨g, cp, rfl, hgB, hgl, hgc⟩ := hIR.read hm
        go_wp2_with fail
        refine (next_any sb 16 (by omega) (by omega) _ hsr).mono ?_
        rintro e w5 ⟨y, rfl, hy, hs5, hg5⟩
        have hIR5 := hIR.kept hg5 (by intro k hk; cases hk; omega)
        replace hgr := grown_dn hgr hg5 (by omega)
        have hy5 := hg5.size
        clear hg5 hsr
        by_cases hy0 : y = 0
        · subst hy0
          go_wp2_with fail
          refine (pick_any sb w5.heap.size 2 2 (fun _ => True) (by omega) (by omega) (by omega) _ (hs5.kept (World.grownBy_alloc _ _ none) (by simp)) (list_cells (L := [.int .i64 2, .int .i64 (-1)]) (by simp))).mono ?_
          rintro e w6 ⟨z, _, rfl, hs6, hg6⟩
          have gE := World.grownBy_alloc w5 (.cells #[.int .i64 2, .int .i64 (-1)] 2 (0, 0)) none
          have hIR6 := (hIR5.kept gE (by simp)).kept hg6 (by intro k hk; cases hk; omega)
          replace hgr := grown_dn (grown_t2 hgr gE) hg6 (by omega)
          have hy6 := (grown_t2 (gr_some gE) hg6).size
          have hIR7 := hIR6.set0 (z := z)
          obtain ⟨c7, f7⟩ : (∃ u, w6.cell? ⟨g, 0, none⟩ = some u) ∧ w6.frozen? ⟨g, 0, none⟩ = false := by
            obtain ⟨xs6, ⟨_, h⟩, _⟩ := hIR6
            rcases h with ⟨h5, _⟩ | ⟨g', cap, cur, h5, h6, h7, h8, h9, h10, _⟩
            · simp at h5
            · simp only [Value.slice.injEq, Option.some.injEq, Addr.mk.injEq] at h5
              obtain ⟨⟨rfl, _⟩, _, rfl⟩ := h5
              refine ⟨⟨cur[0]'(by omega), cell_blk h7 (Array.getElem?_eq_getElem (by omega))⟩, free_blk 0 h7⟩
          obtain ⟨u7, c7⟩ := c7
          go_wp2_with fail
          obtain ⟨L, hL, hrd⟩ := hIR7.rd
          go_ret
          refine ⟨_, L, rfl, by omega, hrd.weak (by omega), grown_dn hgr (set_grown w6 ⟨g, 0, none⟩ (.int .i64 z)) (by simp; omega)⟩
        · go_wp2_with fail
          go_ret
          obtain ⟨L, hL, hrd⟩ := hIR5.rd
          exact ⟨_, L, rfl, by omega, hrd.weak (by omega), hgr⟩
      · obtain rfl : m = 0 := by omega
        obtain ⟨o, c, rfl, _⟩ := hIR.shape
        go_wp2_with fail
        go_ret
        exact ⟨_, L0, rfl, by omega, hrd0.weak (by omega), hgr⟩
end

-- impl.packed
def m34_0 : MC := (.seq (.region [⟨(.bin .lss (.t 8) (.t 7)), (some 9), none⟩] false) (.seq (.cond (.t 9) .skip (.exit 0)) (.seq (.block 1 (.seq (.region [⟨(.mov (.t 8)), (some 10), none⟩, ⟨(.indexAddr 1 (.t 6) (.t 8)), (some 11), none⟩, ⟨(.load none (.t 11)), (some 12), none⟩, ⟨(.mov (.t 10)), (some 4), none⟩, ⟨(.mov (.t 12)), (some 5), none⟩] false) (.region [⟨(.mov (.t 3)), (some 13), none⟩, ⟨(.mov (.t 5)), (some 14), none⟩, ⟨(.mov (.t 4)), (some 15), none⟩, ⟨(.bin .shl (.t 14) (.t 15)), (some 16), none⟩, ⟨(.bin .or (.t 13) (.t 16)), (some 17), none⟩, ⟨(.mov (.t 17)), (some 3), none⟩] false))) (.region [⟨(.bin .add (.t 8) (.k (.int .i64 1))), (some 18), none⟩, ⟨(.mov (.t 18)), (some 8), none⟩] false))))
def m34 : MC := (.seq (.region [⟨(.mov (.k (.int .i64 0))), (some 2), none⟩] false) (.seq (.region [⟨(.mov (.k (.int .i64 0))), (some 3), none⟩] false) (.seq (.seq (.region [⟨(.mov (.t 0)), (some 6), none⟩, ⟨(.len (.t 6)), (some 7), none⟩, ⟨(.mov (.k (.int .i64 0))), (some 8), none⟩] false) (.block 0 (.loop m34_0))) (.seq (.region [⟨(.mov (.t 3)), (some 19), none⟩, ⟨(.mov (.t 19)), (some 2), none⟩] false) .ret))))
theorem has34 : Has cx 34 20 m34 [(.tmp 2)] :=
  ⟨⟨Try.f34, Try.f34.body.getD .skip, by kernel_rfl, by kernel_rfl, by kernel_rfl, by kernel_rfl, by kernel_rfl, by kernel_rfl⟩⟩
theorem lp34_0 (l : List Nat) (hl : l.length ≤ 16) (h01 : ∀ j, j < l.length → l.getD j 0 ≤ 1) :
    LpS cx 20 1 m34_0 [(3, .int .i64 (pk (fun j => l.getD j 0) (0) : Nat)), (6, .sl 0 0 l.length), (7, .int .i64 (l.length : Nat)), (8, .int .i64 (0 : Nat))] [⟨ints l, 1, 0, some 0, false⟩] (⟨.exit 0, [(3, .int .i64 (pk (fun j => l.getD j 0) (l.length) : Nat))], [⟨ints l, 1, 0, some 0, false⟩]⟩ : Out).x (⟨.exit 0, [(3, .int .i64 (pk (fun j => l.getD j 0) (l.length) : Nat))], [⟨ints l, 1, 0, some 0, false⟩]⟩ : Out).e (⟨.exit 0, [(3, .int .i64 (pk (fun j => l.getD j 0) (l.length) : Nat))], [⟨ints l, 1, 0, some 0, false⟩]⟩ : Out).h := by
  refine lp_st (l.length) (fun _ => ()) (fun i _ => [(3, .int .i64 (pk (fun j => l.getD j 0) (i) : Nat)), (6, .sl 0 0 l.length), (7, .int .i64 (l.length : Nat)), (8, .int .i64 (i : Nat))]) (fun i _ => [⟨ints l, 1, 0, some 0, false⟩]) (fun _ => (⟨.exit 0, [(3, .int .i64 (pk (fun j => l.getD j 0) (l.length) : Nat))], [⟨ints l, 1, 0, some 0, false⟩]⟩ : Out)) ?_ ?_ (l.length) 0 (by omega)
  · intro i u_ hi hu_
    refine ⟨(), rfl, ?_⟩
    have hlt : decide ((i : Int) < (l.length : Nat)) = true := decide_eq_true (by omega)
    have hg := h01 i hi
    have hp0 := pk_lt (g := (fun j => l.getD j 0)) (n := i) fun r hr => h01 r (by omega)
    have hp1 := R2_mono (i := i) (n := l.length) (by omega)
    have hs := sl_lt (m := l.length) hg hi
    have hp2 := or_lt (n := l.length) (show pk (fun j => l.getD j 0) i < R2 l.length by omega) hs
    have hp3 := R2_mono hl
    have hp4 : R2 16 = 65536 := by unfold R2; rfl
    have hi2 : i < 16 := by omega
    unfold m34_0
    repeat' (first
      | (refine g_op ?_; first
        | refine ep_mov rfl ?_ | refine ep_load1 rfl rfl rfl rfl ?_
        | refine ep_bin rfl rfl (by first | exact b_add (by omega) (by omega) | exact b_or (by omega) (by omega) | exact b_shl (by omega) (by omega) | exact b_lss) ?_ | refine sp_idx rfl rfl rfl (by omega) rfl ?_
        | refine ep_loadS rfl rfl rfl (by first | exact ints_get (by omega) | exact zints_get (by omega) | exact fget (by omega) | assumption) ?_)
      | (refine g_ops ?_; first | refine eo_none ?_ | refine eo_nil ?_)
      | (refine g_code ?_; first | refine ec_seq ?_ | refine ec_region ?_ | refine ec_block ?_ | refine ec_skip ?_ | refine ec_exit ?_ | refine ec_condT rfl ?_ | refine ec_condF rfl ?_ | refine ec_condTH rfl (by assumption) ?_ | refine ec_condFH rfl (by assumption) ?_)
      | refine ek_seqN ?_ | refine ek_seqX ?_ | refine ek_blkN ?_ | refine ek_blkR ?_ | refine ek_blkX ?_ | refine ek_blkY rfl ?_)
    exact rnd_on (by rfl) (scmp2 (by rfl) (by rfl) (by exact ⟨rfl, rfl, rfl⟩) (by rfl) (by first | rfl | (simp; done) | (simp [ints, prs]; done)) (by rfl) (by first | rfl | (simp; done) | (simp [ints, prs]; done)))
  · intro u_ hu_
    have hlt : decide (((l.length : Nat) : Int) < (l.length : Nat)) = false := decide_eq_false (by omega)
    unfold m34_0
    repeat' (first
      | (refine g_op ?_; first
        | refine ep_mov rfl ?_ | refine ep_load1 rfl rfl rfl rfl ?_
        | refine ep_bin rfl rfl (by first | exact b_add (by omega) (by omega) | exact b_or (by omega) (by omega) | exact b_shl (by omega) (by omega) | exact b_lss) ?_ | refine sp_idx rfl rfl rfl (by omega) rfl ?_
        | refine ep_loadS rfl rfl rfl (by first | exact ints_get (by omega) | exact zints_get (by omega) | exact fget (by omega) | assumption) ?_)
      | (refine g_ops ?_; first | refine eo_none ?_ | refine eo_nil ?_)
      | (refine g_code ?_; first | refine ec_seq ?_ | refine ec_region ?_ | refine ec_block ?_ | refine ec_skip ?_ | refine ec_exit ?_ | refine ec_condT rfl ?_ | refine ec_condF rfl ?_ | refine ec_condTH rfl (by assumption) ?_ | refine ec_condFH rfl (by assumption) ?_)
      | refine ek_seqN ?_ | refine ek_seqX ?_ | refine ek_blkN ?_ | refine ek_blkR ?_ | refine ek_blkX ?_ | refine ek_blkY rfl ?_)
    exact rnd_out (by rfl) (by simp) (scmp2 (by rfl) (by rfl) (by exact ⟨rfl, rfl, rfl⟩) (by rfl) (by first | rfl | (simp; done) | (simp [ints, prs]; done)) (by rfl) (by first | rfl | (simp; done) | (simp [ints, prs]; done)))

theorem ev34 (l : List Nat) (hl : l.length ≤ 16) (h01 : ∀ j, j < l.length → l.getD j 0 ≤ 1) : Ev cx 34 [.sl 0 0 l.length] [⟨ints l, 1, 0, some 0, false⟩] (.int .i64 (pk (fun j => l.getD j 0) l.length : Nat)) [⟨ints l, 1, 0, some 0, false⟩] := by
  have lp := lp34_0 l hl h01
  refine has34.eev rfl rfl ?_
  unfold m34
  repeat' (first
    | refine sc_loop lp rfl rfl ⟨rfl, rfl, rfl⟩ rfl rfl rfl ?_
    | (refine g_op ?_; first
      | refine ep_mov rfl ?_
      | refine ep_lenS rfl ?_ | refine ep_lenN rfl ?_ | refine ep_lenE rfl ?_)
    | (refine g_ops ?_; first | refine eo_none ?_ | refine eo_nil ?_)
    | (refine g_code ?_; first | refine ec_seq ?_ | refine ec_region ?_ | refine ec_block ?_ | refine ec_ret ?_)
    | refine ek_seqN ?_ | refine ek_seqX ?_ | refine ek_seqR ?_ | refine ek_blkN ?_ | refine ek_blkR ?_ | refine ek_blkX ?_ | refine ek_blkY rfl ?_)
  refine sfin (.inr rfl) (by rfl) (by rfl) (by exact ⟨rfl, rfl, rfl⟩) (by rfl) (by rfl) (by rfl) (by first | rfl | (simp; done) | (simp [ints, prs]; done))
-- (impl.Func).negation
def m35 : MC := (.seq (.region [⟨(.box (.t 0)), (some 1), none⟩, ⟨(.alloc [(.int .i64 0), (.int .i64 0)]), (some 2), none⟩] false) (.seq (.region [⟨(.fieldAddr 0 (.t 1)), (some 3), none⟩, ⟨(.load none (.t 3)), (some 4), none⟩, ⟨(.fieldAddr 0 (.t 1)), (some 5), none⟩, ⟨(.load none (.t 5)), (some 6), none⟩, ⟨(.call 64 [(.t 6)]), (some 7), none⟩, ⟨(.bin .sub (.t 7) (.k (.int .i64 1))), (some 8), none⟩, ⟨(.fieldAddr 1 (.t 1)), (some 9), none⟩, ⟨(.load none (.t 9)), (some 10), none⟩, ⟨(.bin .sub (.t 8) (.t 10)), (some 11), none⟩, ⟨(.build [(.int .i64 0), (.int .i64 0)] [(0, (1, (.t 4))), (1, (1, (.t 11)))]), (some 12), none⟩, ⟨(.store 2 (.t 2) (.t 12)), none, none⟩] true) .ret))
theorem has35 : Has cx 35 13 m35 [(.cell 2 (some 2))] :=
  ⟨⟨Try.f35, Try.f35.body.getD .skip, by kernel_rfl, by kernel_rfl, by kernel_rfl, by kernel_rfl, by kernel_rfl, by kernel_rfl⟩⟩
theorem ev35 (n b : Nat) (hn : n ≤ 4) (hb : b < R2 (R2 n)) : Ev cx 35 [.agg [.int .i64 n, .int .i64 b]] [] (.agg [.int .i64 n, .int .i64 ((R2 (R2 n) - 1 - b : Nat) : Int)]) [] := by
  obtain ⟨h1, h2, h3, h4⟩ := shN hn
  have hq : ((R2 (R2 n) - 1 - b : Nat) : Int) = (R2 (R2 n) : Nat) - 1 - b := by omega
  refine has35.eev rfl rfl ?_
  unfold m35
  repeat' (first
    | (refine g_op ?_; first
      | refine ep_load1 rfl rfl rfl rfl ?_ | refine ep_fieldAddr rfl ?_
      | refine ep_call0 rfl (by first | exact ev64 _ hn) rfl rfl ?_
      | refine sp_call rfl rfl rfl rfl (by first | exact ev64 _ hn) ⟨rfl, rfl, rfl, rfl⟩ rfl rfl rfl ?_
      | refine ep_bin rfl rfl (by exact b_sub (by omega) (by omega)) ?_ | refine sp_store rfl rfl rfl rfl rfl rfl rfl rfl rfl rfl ?_ | refine sp_box rfl rfl rfl rfl rfl ?_ | refine sp_alloc rfl rfl ?_
      | refine sp_build rfl rfl ?_)
    | (refine g_ops ?_; first | refine eo_none ?_ | refine eo_nil ?_)
    | (refine g_dops ?_; first | refine ed_none ?_ | refine ed_nil ?_)
    | refine ed_same rfl ?_ | refine ed_one rfl rfl rfl rfl ?_ | refine ed_two rfl rfl rfl rfl rfl rfl rfl ?_ | refine ed_write rfl rfl ?_
    | (refine g_code ?_; first | refine ec_seq ?_ | refine ec_region ?_ | refine ec_draw ?_ | refine ec_ret ?_)
    | refine ek_seqN ?_ | refine ek_seqR ?_)
  refine sfin (.inr rfl) (by rfl) (by rfl) (by exact ⟨rfl, rfl, rfl⟩) (by rfl) (by rfl) (by rw [hq]) (by first | rfl | (simp; done) | (simp [ints, prs]; done))
-- impl.FuncOf
def m9 : MC := (.seq (.region [⟨(.alloc [(.int .i64 0), (.int .i64 0)]), (some 4), none⟩, ⟨(.mov (.k (.int .i64 0))), (some 5), none⟩] false) (.seq (.seq (.region [⟨(.mov (.t 0)), (some 6), none⟩, ⟨(.call 31 [(.t 6)]), (some 7), none⟩, ⟨(.un .not (.t 7)), (some 8), none⟩, ⟨(.mov (.t 8)), (some 9), none⟩, ⟨(.mov (.t 1)), (some 10), (some (9, false))⟩, ⟨(.len (.t 10)), (some 11), (some (9, false))⟩, ⟨(.mov (.t 0)), (some 12), (some (9, false))⟩, ⟨(.call 32 [(.t 12)]), (some 13), (some (9, false))⟩, ⟨(.bin .neq (.t 11) (.t 13)), (some 14), (some (9, false))⟩, ⟨(.pick (.t 9) (.k (.bool true)) (.t 14)), (some 15), none⟩, ⟨(.mov (.t 15)), (some 16), none⟩, ⟨(.mov (.t 1)), (some 17), (some (16, false))⟩, ⟨(.call 33 [(.t 17)]), (some 18), (some (16, false))⟩, ⟨(.un .not (.t 18)), (some 19), (some (16, false))⟩, ⟨(.pick (.t 16) (.k (.bool true)) (.t 19)), (some 20), none⟩] false) (.cond (.t 20) (.seq (.region [⟨(.build [(.int .i64 0), (.int .i64 0)] []), (some 21), none⟩, ⟨(.store 2 (.t 4) (.t 21)), none, none⟩, ⟨(.mov (.k (.int .i64 2))), (some 5), none⟩] false) .ret) .skip)) (.seq (.region [⟨(.mov (.t 0)), (some 22), none⟩, ⟨(.mov (.t 1)), (some 23), none⟩, ⟨(.call 34 [(.t 23)]), (some 24), none⟩, ⟨(.build [(.int .i64 0), (.int .i64 0)] [(0, (1, (.t 22))), (1, (1, (.t 24)))]), (some 25), none⟩, ⟨(.store 2 (.t 4) (.t 25)), none, none⟩, ⟨(.mov (.k (.int .i64 0))), (some 5), none⟩] false) .ret)))
theorem has9 : Has cx 9 26 m9 [(.cell 4 (some 2)), (.tmp 5)] :=
  ⟨⟨Try.f9, Try.f9.body.getD .skip, by kernel_rfl, by kernel_rfl, by kernel_rfl, by kernel_rfl, by kernel_rfl, by kernel_rfl⟩⟩
theorem ev9 (n : Nat) (c : List Int) (hn : n ≤ 4) (hc : c.length = R2 n) (hd : digs c = true) : Ev cx 9 [.int .i64 n, .sl 0 0 c.length] [⟨zints c, 1, 0, some 0, false⟩] (.tup [.agg [.int .i64 n, .int .i64 (pk (fun j => (c.map Int.toNat).getD j 0) (R2 n) : Nat)], .int .i64 0]) [⟨zints c, 1, 0, some 0, false⟩] := by
  obtain ⟨h1, h2, h3, h4⟩ := shN hn
  obtain ⟨k1, k2⟩ := digs_nat hd
  have e0 := ev31 (n : Nat)
  rw [decide_eq_true (show (0 : Int) ≤ (n : Nat) ∧ ((n : Nat) : Int) ≤ 4 by omega)] at e0
  have e1 := ev33 c (by omega)
  rw [hd] at e1
  have e2 := ev34 (c.map Int.toNat) (by rw [List.length_map]; omega) k2
  rw [← k1, List.length_map, hc] at e2
  rw [hc] at e1 ⊢
  have q1 : (((R2 n : Nat) : Int) != (R2 n : Nat)) = false := by simp
  refine has9.eev rfl rfl ?_
  unfold m9
  repeat' (first
    | (refine g_op ?_; first
      | refine ep_mov rfl ?_
      | refine ep_call0 rfl (by first | exact e0 | exact ev32 _ hn | exact e1 | exact e2) rfl rfl ?_
      | refine sp_call rfl rfl rfl rfl (by first | exact e0 | exact ev32 _ hn | exact e1 | exact e2) ⟨rfl, rfl, rfl, rfl⟩ rfl rfl rfl ?_
      | refine ep_bin rfl rfl (by exact b_neq) ?_ | refine ep_pickT rfl rfl ?_ | refine ep_pickF rfl rfl ?_ | refine ep_pickTH rfl (by assumption) rfl ?_ | refine ep_pickFH rfl (by assumption) rfl ?_
      | refine sp_store rfl rfl rfl rfl rfl rfl rfl rfl rfl rfl ?_ | refine ep_not rfl ?_ | refine ep_lenS rfl ?_ | refine ep_lenN rfl ?_ | refine ep_lenE rfl ?_ | refine sp_alloc rfl rfl ?_ | refine sp_build rfl rfl ?_)
    | (refine g_ops ?_; first | refine eo_none ?_ | refine eo_nil ?_ | refine eo_yes rfl ?_ | refine eo_no rfl ?_ | refine eo_und rfl ?_ | refine eo_yesH rfl (by assumption) ?_ | refine eo_noH rfl (by assumption) ?_)
    | (refine g_code ?_; first | refine ec_seq ?_ | refine ec_region ?_ | refine ec_skip ?_ | refine ec_ret ?_ | refine ec_condT rfl ?_ | refine ec_condF rfl ?_ | refine ec_condTH rfl (by assumption) ?_ | refine ec_condFH rfl (by assumption) ?_)
    | refine ek_seqN ?_ | refine ek_seqR ?_)
  refine sfin (.inr rfl) (by rfl) (by rfl) (by exact ⟨rfl, rfl, rfl⟩) (by rfl) (by rfl) (by rfl) (by first | rfl | (simp; done) | (simp [ints, prs]; done))
-- impl.NegateFunc
def m10 : MC := (.seq (.region [⟨(.box (.t 0)), (some 1), none⟩, ⟨(.alloc [(.int .i64 0), (.int .i64 0)]), (some 2), none⟩, ⟨(.mov (.k (.int .i64 0))), (some 3), none⟩] false) (.seq (.seq (.region [⟨(.load (some 2) (.t 1)), (some 4), none⟩, ⟨(.call 27 [(.t 4)]), (some 5), none⟩, ⟨(.un .not (.t 5)), (some 6), none⟩] false) (.cond (.t 6) (.seq (.region [⟨(.build [(.int .i64 0), (.int .i64 0)] []), (some 7), none⟩, ⟨(.store 2 (.t 2) (.t 7)), none, none⟩, ⟨(.mov (.k (.int .i64 1))), (some 3), none⟩] false) .ret) .skip)) (.seq (.region [⟨(.load (some 2) (.t 1)), (some 8), none⟩, ⟨(.call 35 [(.t 8)]), (some 9), none⟩, ⟨(.store 2 (.t 2) (.t 9)), none, none⟩, ⟨(.mov (.k (.int .i64 0))), (some 3), none⟩] false) .ret)))
theorem has10 : Has cx 10 10 m10 [(.cell 2 (some 2)), (.tmp 3)] :=
  ⟨⟨Try.f10, Try.f10.body.getD .skip, by kernel_rfl, by kernel_rfl, by kernel_rfl, by kernel_rfl, by kernel_rfl, by kernel_rfl⟩⟩
theorem ev10 (n b : Nat) (h1 : isFn n b = true) (hn : n ≤ 4) (hb : b < R2 (R2 n)) : Ev cx 10 [.agg [.int .i64 n, .int .i64 b]] [] (.tup [.agg [.int .i64 n, .int .i64 ((R2 (R2 n) - 1 - b : Nat) : Int)], .int .i64 0]) [] := by
  have e1 := ev27 n b
  rw [h1] at e1
  have e2 := ev35 n b hn hb
  refine has10.eev rfl rfl ?_
  unfold m10
  repeat' (first
    | (refine g_op ?_; first
      | refine ep_mov rfl ?_ | refine sp_loadN rfl rfl rfl rfl rfl ?_
      | refine ep_call0 rfl (by first | exact e1 | exact e2) rfl rfl ?_
      | refine sp_call rfl rfl rfl rfl (by first | exact e1 | exact e2) ⟨rfl, rfl, rfl, rfl⟩ rfl rfl rfl ?_
      | refine sp_store rfl rfl rfl rfl rfl rfl rfl rfl rfl rfl ?_ | refine ep_not rfl ?_ | refine sp_box rfl rfl rfl rfl rfl ?_ | refine sp_alloc rfl rfl ?_ | refine sp_build rfl rfl ?_)
    | (refine g_ops ?_; first | refine eo_none ?_ | refine eo_nil ?_)
    | (refine g_code ?_; first | refine ec_seq ?_ | refine ec_region ?_ | refine ec_skip ?_ | refine ec_ret ?_ | refine ec_condT rfl ?_ | refine ec_condF rfl ?_ | refine ec_condTH rfl (by assumption) ?_ | refine ec_condFH rfl (by assumption) ?_)
    | refine ek_seqN ?_ | refine ek_seqR ?_)
  refine sfin (.inr rfl) (by rfl) (by rfl) (by exact ⟨rfl, rfl, rfl⟩) (by rfl) (by rfl) (by rfl) (by first | rfl | (simp; done) | (simp [ints, prs]; done))

theorem fnd_ok {b R : Nat} {L : List (List Int)} {l : List Int} : ∀ {k : Nat}, fnd b R L k = some l → okL b R l = true
  | 0, h => by simp [fnd] at h
  | k + 1, h => by
    rw [fnd] at h
    cases h1 : fnd b R L k with
    | some l' => rw [h1] at h; exact fnd_ok (by rw [h1]; exact h)
    | none =>
      rw [h1] at h
      simp only at h
      split at h
      · rename_i h2
        simp only [Option.some.injEq] at h; subst h; exact h2
      · simp at h
theorem fz_ok {b R n : Nat} {l : List Int} : ∀ {k : Nat}, fz b R n k = some l → okL b R l = true ∧ ∃ s, l ∈ SL n s
  | 0, h => by simp [fz] at h
  | k + 1, h => by
    rw [fz] at h
    cases h1 : fz b R n k with
    | some l' => rw [h1] at h; exact fz_ok (by rw [h1]; exact h)
    | none => rw [h1] at h; exact ⟨fnd_ok h, _, fnd_mem h (Nat.le_refl _)⟩
theorem wRes_ok {n b : Nat} {l : List Int} (hn : n ≤ 4) (h : wRes n b = some l) : okL b (R2 n) l = true ∧ l.length = n ∧ W4 l := by
  obtain ⟨h1, s, h2⟩ := fz_ok h
  exact ⟨h1, (SL_mem h2).1, W4_of hn (SL_mem h2)⟩
theorem hi_bit {l : List Int} {b r : Nat} (hr1 : bt b r = 1) : ∀ {k : Nat}, r < k → hiK l b k ≤ wsK l r l.length
  | 0, h => absurd h (by omega)
  | k + 1, h => by
    rw [hiK]
    by_cases e : r = k
    · subst e; rw [if_pos hr1]; omega
    · have := hi_bit (l := l) hr1 (show r < k by omega)
      split <;> omega
theorem lo_bit {l : List Int} {b r : Nat} (hr1 : bt b r ≠ 1) : ∀ {k : Nat}, r < k → wsK l r l.length + 1 ≤ loK l b k
  | 0, h => absurd h (by omega)
  | k + 1, h => by
    rw [loK]
    by_cases e : r = k
    · subst e; rw [if_neg hr1]; omega
    · have := lo_bit (l := l) hr1 (show r < k by omega)
      split <;> omega
theorem hi_of {l : List Int} {b : Nat} {x : Int} (hx : x ≤ 20) : ∀ {k : Nat}, (∀ r, r < k → bt b r = 1 → x ≤ wsK l r l.length) → x ≤ hiK l b k
  | 0, _ => hx
  | k + 1, h => by
    have h1 := hi_of (l := l) (b := b) hx (k := k) fun r hr => h r (by omega)
    rw [hiK]
    split
    · rename_i h2; have := h k (by omega) h2; omega
    · exact h1
theorem lo_of {l : List Int} {b : Nat} {x : Int} (hx : -20 ≤ x) : ∀ {k : Nat}, (∀ r, r < k → bt b r ≠ 1 → wsK l r l.length + 1 ≤ x) → loK l b k ≤ x
  | 0, _ => hx
  | k + 1, h => by
    have h1 := lo_of (l := l) (b := b) hx (k := k) fun r hr => h r (by omega)
    rw [loK]
    split
    · exact h1
    · rename_i h2; have := h k (by omega) h2; omega
theorem okL_of {l : List Int} {b R : Nat} (hl : W4 l) (h : ∀ r0 r1, r0 < R → r1 < R → bt b r0 ≠ 1 → bt b r1 = 1 → wsK l r0 l.length < wsK l r1 l.length) : okL b R l = true := by
  have hb := hi_le hl b R
  refine decide_eq_true (lo_of (by omega) fun r0 h0 q0 => hi_of ?_ fun r1 h1 q1 => by have := h r0 r1 h0 h1 q0 q1; omega)
  have := wsK_le hl r0 l.length
  have := hl.1
  omega
/-- A weighing makes its function. -/
theorem th_bit {n b r : Nat} {l : List Int} (hn : n ≤ 4) (h : wRes n b = some l) (hr : r < R2 n) : (if wT n b ≤ wsK l r n then 1 else 0) = bt b r := by
  obtain ⟨h1, h2, h3⟩ := wRes_ok hn h
  have hT : wT n b = hiK l b (R2 n) := by rw [wT, h]
  have hok : loK l b (R2 n) ≤ hiK l b (R2 n) := of_decide_eq_true h1
  have hbl := bt_le b r
  rw [hT, ← h2]
  rw [← h2] at hr hok
  by_cases hb : bt b r = 1
  · rw [if_pos (hi_bit hb hr), hb]
  · have := lo_bit (l := l) hb hr
    rw [if_neg (by omega)]; omega
theorem C9_mem : ∀ (l : List Int), (∀ x ∈ l, -4 ≤ x ∧ x ≤ 4) → l ∈ C9 l.length
  | [], _ => by simp [C9]
  | x :: xs, h => by
    have hx := h x (by simp)
    have ih := C9_mem xs fun y hy => h y (by simp [hy])
    rw [List.length_cons, C9, List.mem_flatMap]
    refine ⟨(x + 4).toNat, by rw [List.mem_range]; omega, ?_⟩
    rw [List.mem_map]
    exact ⟨xs, ih, by rw [mv, show ((((x + 4).toNat : Nat) : Int) - 4) = x by omega]⟩
theorem nrK_hi {l : List Int} (h : W4 l) : nrm l ≤ 4 * (l.length : Int) := (nrK_le h l.length).2
/-- A list that tells the function is found, or another is. -/
theorem wRes_some {n b : Nat} {l : List Int} (hn : n ≤ 4) (hl : l.length = n) (hb : ∀ x ∈ l, -4 ≤ x ∧ x ≤ 4) (hok : okL b (R2 n) l = true) : ∃ l', wRes n b = some l' := by
  have hW := W4_of hn ⟨hl, hb⟩
  cases h : wRes n b with
  | some l' => exact ⟨l', rfl⟩
  | none =>
    exfalso
    have key : ∀ k s, s < k → fz b (R2 n) n k = none → fnd b (R2 n) (SL n s) (SL n s).length = none := by
      intro k
      induction k with
      | zero => intro s hs; omega
      | succ k ih =>
        intro s hs hz
        rw [fz] at hz
        cases h1 : fz b (R2 n) n k with
        | some l' => rw [h1] at hz; simp at hz
        | none =>
          rw [h1] at hz
          by_cases e : s = k
          · subst e; exact hz
          · exact ih s (by omega) h1
    have h0 := nrm_nn l
    have h4 := nrK_hi hW
    have hs := key _ (nrm l).toNat (by omega) h
    rw [fnd_find _ _ _ _ (Nat.le_refl _), List.take_of_length_le (Nat.le_refl _), SL_filter] at hs
    have := List.find?_eq_none.mp hs l (List.mem_filter.mpr ⟨by rw [← hl]; exact C9_mem l hb, by simp only [beq_iff_eq]; omega⟩)
    exact this hok
theorem wsK_neg (l : List Int) (r : Nat) : ∀ k, wsK (l.map fun x => -x) r k = - wsK l r k
  | 0 => rfl
  | k + 1 => by
    rw [wsK, wsK, wsK_neg l r k]
    have : (l.map fun x => -x).getD k 0 = - l.getD k 0 := by
      rw [List.getD_eq_getElem?_getD, List.getD_eq_getElem?_getD, List.getElem?_map]
      cases l[k]? <;> simp
    rw [this, Int.neg_mul]; omega
theorem bt_neg {b n r : Nat} (hb : b < R2 n) (hr : r < n) : bt (R2 n - 1 - b) r = 1 - bt b r := by
  have key : ∀ m, pk (bt b) m + pk (fun r => 1 - bt b r) m + 1 = R2 m := by
    intro m
    induction m with
    | zero => simp [pk, R2]
    | succ m ih =>
      rw [← pk_add (fun r _ => bt_le b r), ← pk_add (g := fun r => 1 - bt b r) (fun r _ => by omega)]
      have e : R2 (m + 1) = 2 * R2 m := by unfold R2; rw [Nat.pow_succ']
      have e2 : (1 : Nat) <<< m = R2 m := by unfold R2; rw [Nat.shiftLeft_eq, Nat.one_mul]
      have hbl := bt_le b m
      rcases (show bt b m = 0 ∨ bt b m = 1 by omega) with h | h <;> simp only [h, Nat.zero_shiftLeft, e2, e, Nat.sub_self, Nat.sub_zero] <;> omega
  have h1 := key n
  rw [pk_self hb] at h1
  rw [show R2 n - 1 - b = pk (fun r => 1 - bt b r) n by omega, bt_pk (fun r _ => by omega) hr]
/-- Negations of threshold functions are threshold functions. -/
theorem wRes_neg {n b : Nat} {l : List Int} (hn : n ≤ 4) (hb : b < R2 (R2 n)) (h : wRes n b = some l) : ∃ l', wRes n (R2 (R2 n) - 1 - b) = some l' := by
  obtain ⟨h1, h2, h3⟩ := wRes_ok hn h
  have hm : ∀ x ∈ l, -4 ≤ x ∧ x ≤ 4 := by
    obtain ⟨_, s, hs⟩ := fz_ok h
    exact (SL_mem hs).2
  have hm2 : ∀ x ∈ l.map (fun x => -x), -4 ≤ x ∧ x ≤ 4 := by
    intro x hx
    obtain ⟨y, hy, rfl⟩ := List.mem_map.mp hx
    have := hm y hy
    omega
  have hl2 : (l.map fun x => -x).length = n := by rw [List.length_map, h2]
  refine wRes_some hn hl2 hm2 (okL_of (W4_of hn ⟨hl2, hm2⟩) fun r0 r1 q0 q1 z0 z1 => ?_)
  rw [bt_neg hb q0] at z0
  rw [bt_neg hb q1] at z1
  have t0 := bt_le b r0
  have hlo := lo_bit (l := l) (b := b) (r := r1) (by omega) q1
  have hhi := hi_bit (l := l) (b := b) (r := r0) (by omega) q0
  have hok : loK l b (R2 n) ≤ hiK l b (R2 n) := of_decide_eq_true h1
  rw [List.length_map, wsK_neg, wsK_neg]
  omega
theorem bt_or2 {r i k : Nat} : bt (r ||| R2 i) k = if k = i then 1 else bt r k := by
  rw [bt_tb, bt_tb, Nat.testBit_or]
  unfold R2
  rw [Nat.testBit_two_pow]
  by_cases e : k = i
  · subst e; simp
  · rw [if_neg e]; simp [show ¬ i = k from fun h => e h.symm]
theorem wsK_or {l : List Int} {r i : Nat} (h : bt r i = 0) : ∀ k, wsK l (r ||| R2 i) k = wsK l r k + if i < k then l.getD i 0 else 0
  | 0 => by simp [wsK]
  | k + 1 => by
    rw [wsK, wsK, wsK_or h k, bt_or2]
    by_cases e : k = i
    · subst e; rw [if_pos rfl, if_neg (by omega), if_pos (by omega), h]; simp
    · rw [if_neg e]
      by_cases e2 : i < k
      · rw [if_pos e2, if_pos (by omega)]; omega
      · rw [if_neg e2, if_neg (by omega)]; omega
/-- The greater weight is the stronger place. -/
theorem str_of {n b i j : Nat} {l : List Int} (hn : n ≤ 4) (h : wRes n b = some l) (hi : i < n) (hj : j < n) (hw : l.getD j 0 ≤ l.getD i 0) : strB n b i j = true := by
  obtain ⟨h1, h2, h3⟩ := wRes_ok hn h
  rw [strB, allF_iff]
  intro r _ hr
  have hr : r < R2 n := by omega
  rw [strP, Bool.not_eq_true']
  by_cases z1 : bt r i = 0
  · by_cases z2 : bt r j = 0
    · have a1 := th_bit hn h (or_lt hr (show R2 i < R2 n by have := R2_le hi; have := R2_pos i; omega))
      have a2 := th_bit hn h (or_lt hr (show R2 j < R2 n by have := R2_le hj; have := R2_pos j; omega))
      rw [wsK_or z1, if_pos hi] at a1
      rw [wsK_or z2, if_pos hj] at a2
      have : ¬ bt b (r ||| R2 i) < bt b (r ||| R2 j) := by
        rw [← a1, ← a2]
        split <;> split <;> omega
      rw [decide_eq_false this, Bool.and_false]
    · rw [decide_eq_false z2]; simp
  · rw [decide_eq_false z1]; simp
/-- Levels lead back. -/
theorem lev_back {n b : Nat} {L : List Nat} (hn : n ≤ 4) (hb : b < R2 (R2 n)) (hs : allF (lvP b) 0 (R2 n) = true) (hL : selm (fun _ => true) (lvH b) (n + 1) = L) : folR (L.map fun x => ((x : Nat) : Int)) = ⟨(n : Nat), (b : Nat), 0⟩ := by
  obtain ⟨k1, k2⟩ := selm_all (g := lvH b) (n + 1)
  rw [hL] at k1 k2
  have hlen : (L.map fun x => ((x : Nat) : Int)).length = n + 1 := by rw [List.length_map, k1]
  have hd : digs (L.map fun x => ((x : Nat) : Int)) = true := by
    rw [digs, allF_iff]
    intro j _ hj
    have hj2 : j < L.length := by rw [hlen] at hj; omega
    have := k2 j (by omega)
    have hle := bt_le b (R2 j - 1)
    rw [d01, List.getD_eq_getElem?_getD, List.getElem?_map, List.getElem?_eq_getElem hj2]
    rw [List.getD_eq_getElem?_getD, List.getElem?_eq_getElem hj2] at this
    simp only [Option.getD_some] at this
    simp only [Option.map_some, Option.getD_some, this, lvH, decide_eq_true_eq]
    omega
  have hT : ((L.map fun x => ((x : Nat) : Int)).map Int.toNat) = L := by simp [List.map_map, Function.comp_def]
  rw [folR, if_pos ⟨⟨by omega, by omega⟩, hd⟩, hT, hlen, show n + 1 - 1 = n by omega]
  have : pk (lvG L) (R2 n) = b := by
    rw [← pk_self hb]
    refine pk_congr fun r hr => ?_
    rw [allF_iff] at hs
    have h1 := hs r (Nat.zero_le _) (by omega)
    have h2 := pop_nn hn hr
    rw [lvG, k2 _ (by omega), lvH]
    simp only [lvP, beq_iff_eq] at h1
    exact h1.symm
  rw [this]

section
open Go.RowKit Go.IntWalk
theorem vr_b2 {ρ : Nat → Nat} {m : Mp} {a : Bool} {b : Int} {u : Value} (h : VR ρ m (.tup [.bool a, .int .i64 b]) u) : u = .tuple #[.bool a, .int .i64 b] := by
  simp only [VR, VRL] at h
  obtain ⟨cs, rfl, u1, t1, e1, rfl, u2, t2, rfl, rfl, rfl⟩ := h
  obtain rfl : cs = #[.bool a, .int .i64 b] := by rw [← Array.toArray_toList (xs := cs), e1]
  rfl
theorem vr_i2 {ρ : Nat → Nat} {m : Mp} {a b : Int} {u : Value} (h : VR ρ m (.tup [.int .i64 a, .int .i64 b]) u) : u = .tuple #[.int .i64 a, .int .i64 b] := by
  simp only [VR, VRL] at h
  obtain ⟨cs, rfl, u1, t1, e1, rfl, u2, t2, rfl, rfl, rfl⟩ := h
  obtain rfl : cs = #[.int .i64 a, .int .i64 b] := by rw [← Array.toArray_toList (xs := cs), e1]
  rfl
theorem vr_ai {ρ : Nat → Nat} {m : Mp} {a b c : Int} {u : Value} (h : VR ρ m (.tup [.agg [.int .i64 a, .int .i64 b], .int .i64 c]) u) : u = .tuple #[.agg #[.int .i64 a, .int .i64 b], .int .i64 c] := by
  simp only [VR, VRL] at h
  obtain ⟨cs, rfl, u1, t1, e1, ⟨ds, rfl, u3, t3, e3, rfl, u4, t4, rfl, rfl, rfl⟩, u2, t2, rfl, rfl, rfl⟩ := h
  obtain rfl : ds = #[.int .i64 a, .int .i64 b] := by rw [← Array.toArray_toList (xs := ds), e3]
  obtain rfl : cs = #[.agg #[.int .i64 a, .int .i64 b], .int .i64 c] := by rw [← Array.toArray_toList (xs := cs), e1]
  rfl
theorem vr_fn1 (p t : Int) {ρ : Nat → Nat} {m : Mp} : VRL ρ m [.agg [.int .i64 p, .int .i64 t]] [.agg #[.int .i64 p, .int .i64 t]] := by
  simp only [VR, VRL]
  exact ⟨_, _, rfl, ⟨#[.int .i64 p, .int .i64 t], rfl, _, _, rfl, rfl, _, _, rfl, rfl, rfl⟩, rfl⟩
theorem vr_fn3 (p t i j : Int) {ρ : Nat → Nat} {m : Mp} : VRL ρ m [.agg [.int .i64 p, .int .i64 t], .int .i64 i, .int .i64 j] [.agg #[.int .i64 p, .int .i64 t], .int .i64 i, .int .i64 j] := by
  simp only [VR, VRL]
  exact ⟨_, _, rfl, ⟨#[.int .i64 p, .int .i64 t], rfl, _, _, rfl, rfl, _, _, rfl, rfl, rfl⟩, _, _, rfl, rfl, _, _, rfl, rfl, rfl⟩
theorem vr_e2 {ρ : Nat → Nat} {m : Mp} {b : Int} {u : Value} (h : VR ρ m (.tup [.nils, .int .i64 b]) u) : u = .tuple #[.slice none 0 0, .int .i64 b] := by
  simp only [VR, VRL] at h
  obtain ⟨cs, rfl, u1, t1, e1, rfl, u2, t2, rfl, rfl, rfl⟩ := h
  obtain rfl : cs = #[.slice none 0 0, .int .i64 b] := by rw [← Array.toArray_toList (xs := cs), e1]
  rfl
theorem ints_z (L : List Nat) : ints L = zints (L.map fun x => ((x : Nat) : Int)) := by simp [ints, zints, List.map_map, Function.comp_def]
end
section
open Go.RowKit Go.IntWalk
theorem c_stri (p t i j : Int) (W : World) : Calls Try.prog 11 #[.agg #[.int .i64 p, .int .i64 t], .int .i64 i, .int .i64 j] W fun e w' => e = .returned (.tuple #[.bool (strR p t i j).1, .int .i64 (strR p t i j).2]) ∧ W.grownBy w' none := by
  refine (Ev.callF (vs := [.agg #[.int .i64 p, .int .i64 t], .int .i64 i, .int .i64 j]) (ev11 p t i j) (vr_fn3 p t i j) (by simp [V.idsL, V.ids]) (by simp [V.idsL, V.ids]) W).mono ?_
  rintro e w' ⟨u, rfl, hu, hg⟩
  exact ⟨by rw [vr_b2 hu], hg⟩
theorem c_strs (p t i j : Int) (W : World) : Calls Try.prog 13 #[.agg #[.int .i64 p, .int .i64 t], .int .i64 i, .int .i64 j] W fun e w' => e = .returned (.tuple #[.bool (strR p t i j).1, .int .i64 (strR p t i j).2]) ∧ W.grownBy w' none := by
  refine (Ev.callF (vs := [.agg #[.int .i64 p, .int .i64 t], .int .i64 i, .int .i64 j]) (ev13 p t i j) (vr_fn3 p t i j) (by simp [V.idsL, V.ids]) (by simp [V.idsL, V.ids]) W).mono ?_
  rintro e w' ⟨u, rfl, hu, hg⟩
  exact ⟨by rw [vr_b2 hu], hg⟩
theorem c_regi (p t : Int) (W : World) : Calls Try.prog 15 #[.agg #[.int .i64 p, .int .i64 t]] W fun e w' => e = .returned (.tuple #[.bool (regR p t).1, .int .i64 (regR p t).2]) ∧ W.grownBy w' none := by
  refine (Ev.callF (vs := [.agg #[.int .i64 p, .int .i64 t]]) (ev15 p t) (vr_fn1 p t) (by simp [V.idsL, V.ids]) (by simp [V.idsL, V.ids]) W).mono ?_
  rintro e w' ⟨u, rfl, hu, hg⟩
  exact ⟨by rw [vr_b2 hu], hg⟩
theorem c_regs (p t : Int) (W : World) : Calls Try.prog 16 #[.agg #[.int .i64 p, .int .i64 t]] W fun e w' => e = .returned (.tuple #[.bool (regR p t).1, .int .i64 (regR p t).2]) ∧ W.grownBy w' none := by
  refine (Ev.callF (vs := [.agg #[.int .i64 p, .int .i64 t]]) (ev16 p t) (vr_fn1 p t) (by simp [V.idsL, V.ids]) (by simp [V.idsL, V.ids]) W).mono ?_
  rintro e w' ⟨u, rfl, hu, hg⟩
  exact ⟨by rw [vr_b2 hu], hg⟩
theorem c_cnti (z : Int) (W : World) : Calls Try.prog 24 #[.int .i64 z] W fun e w' => e = .returned (.tuple #[.int .i64 (thC z).1, .int .i64 (thC z).2]) ∧ W.grownBy w' none := by
  refine (Ev.callF (vs := [.int .i64 z]) (ev24 z) (by simp only [VR, VRL]; exact ⟨_, _, rfl, rfl, rfl⟩) (by simp [V.idsL, V.ids]) (by simp [V.idsL, V.ids]) W).mono ?_
  rintro e w' ⟨u, rfl, hu, hg⟩
  exact ⟨by rw [vr_i2 hu], hg⟩
theorem c_cnts (z : Int) (W : World) : Calls Try.prog 25 #[.int .i64 z] W fun e w' => e = .returned (.tuple #[.int .i64 (thC z).1, .int .i64 (thC z).2]) ∧ W.grownBy w' none := by
  refine (Ev.callF (vs := [.int .i64 z]) (ev25 z) (by simp only [VR, VRL]; exact ⟨_, _, rfl, rfl, rfl⟩) (by simp [V.idsL, V.ids]) (by simp [V.idsL, V.ids]) W).mono ?_
  rintro e w' ⟨u, rfl, hu, hg⟩
  exact ⟨by rw [vr_i2 hu], hg⟩
theorem c_neg (n b : Nat) (h1 : isFn n b = true) (hn : n ≤ 4) (hb : b < R2 (R2 n)) (W : World) : Calls Try.prog 10 #[.agg #[.int .i64 n, .int .i64 b]] W fun e w' => e = .returned (.tuple #[.agg #[.int .i64 n, .int .i64 ((R2 (R2 n) - 1 - b : Nat) : Int)], .int .i64 0]) ∧ W.grownBy w' none := by
  refine (Ev.callF (vs := [.agg #[.int .i64 n, .int .i64 b]]) (ev10 n b h1 hn hb) (vr_fn1 n b) (by simp [V.idsL, V.ids]) (by simp [V.idsL, V.ids]) W).mono ?_
  rintro e w' ⟨u, rfl, hu, hg⟩
  exact ⟨by rw [vr_ai hu], hg⟩
/-- What WeighingOf returns: the weights, the threshold, the code. -/
def wofR (p t : Int) : List Int × Int × Int := if isFn p t = true then (match wRes p.toNat t.toNat with | none => ([], 0, 4) | some l => (l, wT p.toNat t.toNat, 0)) else ([], 0, 1)
theorem vr_e3 {ρ : Nat → Nat} {m : Mp} {z : V} {a b : Int} {u : Value} (hz : z = .nils ∨ z = .emp) (h : VR ρ m (.tup [z, .int .i64 a, .int .i64 b]) u) : ∃ o, u = .tuple #[.slice o 0 0, .int .i64 a, .int .i64 b] := by
  rcases hz with rfl | rfl
  · simp only [VR, VRL] at h
    obtain ⟨cs, rfl, u1, t1, e1, rfl, u2, t2, rfl, rfl, u3, t3, rfl, rfl, rfl⟩ := h
    obtain rfl : cs = #[.slice none 0 0, .int .i64 a, .int .i64 b] := by rw [← Array.toArray_toList (xs := cs), e1]
    exact ⟨_, rfl⟩
  · simp only [VR, VRL] at h
    obtain ⟨cs, rfl, u1, t1, e1, ⟨o, rfl⟩, u2, t2, rfl, rfl, u3, t3, rfl, rfl, rfl⟩ := h
    obtain rfl : cs = #[.slice (some o) 0 0, .int .i64 a, .int .i64 b] := by rw [← Array.toArray_toList (xs := cs), e1]
    exact ⟨_, rfl⟩
theorem wof_any (F : Nat) (z : V) (hz : z = .nils ∨ z = .emp)
    (hbad : ∀ p t : Int, isFn p t = false → Ev cx F [.agg [.int .i64 p, .int .i64 t]] [] (.tup [.nils, .int .i64 0, .int .i64 1]) [])
    (hnone : ∀ n b : Nat, isFn n b = true → n ≤ 4 → b < 65536 → wRes n b = none → Ev cx F [.agg [.int .i64 n, .int .i64 b]] [] (.tup [.nils, .int .i64 0, .int .i64 4]) [])
    (hnil : ∀ n b : Nat, isFn n b = true → n ≤ 4 → b < 65536 → wRes n b = some [] → Ev cx F [.agg [.int .i64 n, .int .i64 b]] [] (.tup [z, .int .i64 (wT n b), .int .i64 0]) [])
    (hcons : ∀ n b : Nat, isFn n b = true → n ≤ 4 → b < 65536 → ∀ (x : Int) (xs : List Int), wRes n b = some (x :: xs) → Ev cx F [.agg [.int .i64 n, .int .i64 b]] [] (.tup [.sl 0 0 (x :: xs).length, .int .i64 (wT n b), .int .i64 0]) [⟨zints (x :: xs), 1, 0, some 0, false⟩])
    (p t : Int) (W : World) : Calls Try.prog F #[.agg #[.int .i64 p, .int .i64 t]] W fun e w' => ∃ v, e = .returned (.tuple #[v, .int .i64 (wofR p t).2.1, .int .i64 (wofR p t).2.2]) ∧ RdV w' W.heap.size v (wofR p t).1 ∧ W.grownBy w' none := by
  cases h1 : isFn p t
  · rw [show wofR p t = ([], 0, 1) from if_neg (by rw [h1]; simp)]
    refine (Ev.callF (vs := [.agg #[.int .i64 p, .int .i64 t]]) (hbad p t h1) (vr_fn1 p t) (by simp [V.idsL, V.ids]) (by simp [V.idsL, V.ids]) W).mono ?_
    rintro e w' ⟨u, rfl, hu, hg⟩
    obtain ⟨o, rfl⟩ := vr_e3 (.inl rfl) hu
    exact ⟨_, rfl, .inl ⟨rfl, _, rfl⟩, hg⟩
  · obtain ⟨n, b, rfl, rfl, a1, a2, a3⟩ := isFn_nat h1
    cases hr : wRes n b with
    | none =>
      rw [show wofR n b = ([], 0, 4) by rw [wofR, if_pos h1, Int.toNat_natCast, Int.toNat_natCast, hr]]
      refine (Ev.callF (vs := [.agg #[.int .i64 n, .int .i64 b]]) (hnone n b h1 a1 a3 hr) (vr_fn1 n b) (by simp [V.idsL, V.ids]) (by simp [V.idsL, V.ids]) W).mono ?_
      rintro e w' ⟨u, rfl, hu, hg⟩
      obtain ⟨o, rfl⟩ := vr_e3 (.inl rfl) hu
      exact ⟨_, rfl, .inl ⟨rfl, _, rfl⟩, hg⟩
    | some l =>
      rw [show wofR n b = (l, wT n b, 0) by rw [wofR, if_pos h1, Int.toNat_natCast, Int.toNat_natCast, hr]]
      cases l with
      | nil =>
        refine (Ev.callF (vs := [.agg #[.int .i64 n, .int .i64 b]]) (hnil n b h1 a1 a3 hr) (vr_fn1 n b) (by simp [V.idsL, V.ids]) (by rcases hz with rfl | rfl <;> simp [V.idsL, V.ids]) W).mono ?_
        rintro e w' ⟨u, rfl, hu, hg⟩
        obtain ⟨o, rfl⟩ := vr_e3 hz hu
        exact ⟨_, rfl, .inl ⟨rfl, _, rfl⟩, hg⟩
      | cons x xs =>
        refine (Ev.callL (vs := [.agg #[.int .i64 n, .int .i64 b]]) (hcons n b h1 a1 a3 x xs hr) (Nat.le_refl _) (vr_fn1 n b) (by simp [V.idsL, V.ids]) (by simp [V.idsL, V.ids]) W).mono ?_
        rintro e w' ⟨v, us, rfl, hu, hv, hg⟩
        simp only [VR, VRL] at hu
        obtain ⟨u1, t1, rfl, rfl, u2, t2, rfl, rfl, rfl⟩ := hu
        rw [List.take_of_length_le (Nat.le_refl _)] at hv
        exact ⟨v, rfl, hv, hg⟩
theorem c_wofi (p t : Int) (W : World) : Calls Try.prog 6 #[.agg #[.int .i64 p, .int .i64 t]] W fun e w' => ∃ v, e = .returned (.tuple #[v, .int .i64 (wofR p t).2.1, .int .i64 (wofR p t).2.2]) ∧ RdV w' W.heap.size v (wofR p t).1 ∧ W.grownBy w' none := wof_any 6 .nils (.inl rfl) ev6_bad ev6_none ev6_nil ev6_cons p t W
theorem c_wofs (p t : Int) (W : World) : Calls Try.prog 7 #[.agg #[.int .i64 p, .int .i64 t]] W fun e w' => ∃ v, e = .returned (.tuple #[v, .int .i64 (wofR p t).2.1, .int .i64 (wofR p t).2.2]) ∧ RdV w' W.heap.size v (wofR p t).1 ∧ W.grownBy w' none := wof_any 7 .emp (.inr rfl) ev7_bad ev7_none ev7_nil ev7_cons p t W
/-- What LevelsOf returns. -/
def levR (p t : Int) : List Int × Int := if isFn p t = true then (if allF (lvP t.toNat) 0 (R2 p.toNat) = true then ((selm (fun _ => true) (lvH t.toNat) (p.toNat + 1)).map (fun x => ((x : Nat) : Int)), 0) else ([], 5)) else ([], 1)
theorem lev_any (F : Nat)
    (hbad : ∀ p t : Int, isFn p t = false → Ev cx F [.agg [.int .i64 p, .int .i64 t]] [] (.tup [.nils, .int .i64 1]) [])
    (hno : ∀ n b : Nat, isFn n b = true → n ≤ 4 → b < 65536 → allF (lvP b) 0 (R2 n) = false → Ev cx F [.agg [.int .i64 n, .int .i64 b]] [] (.tup [.nils, .int .i64 5]) [])
    (hok : ∀ n b x : Nat, ∀ xs : List Nat, isFn n b = true → n ≤ 4 → b < 65536 → allF (lvP b) 0 (R2 n) = true → selm (fun _ => true) (lvH b) (n + 1) = x :: xs → Ev cx F [.agg [.int .i64 n, .int .i64 b]] [] (.tup [.sl 0 0 (x :: xs).length, .int .i64 0]) [⟨ints (x :: xs), 1, 0, some 0, false⟩])
    (p t : Int) (W : World) : Calls Try.prog F #[.agg #[.int .i64 p, .int .i64 t]] W fun e w' => ∃ v, e = .returned (.tuple #[v, .int .i64 (levR p t).2]) ∧ RdV w' W.heap.size v (levR p t).1 ∧ W.grownBy w' none := by
  cases h1 : isFn p t
  · rw [show levR p t = ([], 1) from if_neg (by rw [h1]; simp)]
    refine (Ev.callF (vs := [.agg #[.int .i64 p, .int .i64 t]]) (hbad p t h1) (vr_fn1 p t) (by simp [V.idsL, V.ids]) (by simp [V.idsL, V.ids]) W).mono ?_
    rintro e w' ⟨u, rfl, hu, hg⟩
    obtain rfl := vr_e2 hu
    exact ⟨_, rfl, .inl ⟨rfl, _, rfl⟩, hg⟩
  · obtain ⟨n, b, rfl, rfl, a1, a2, a3⟩ := isFn_nat h1
    cases hs : allF (lvP b) 0 (R2 n)
    · rw [show levR n b = ([], 5) by rw [levR, if_pos h1, Int.toNat_natCast, Int.toNat_natCast, if_neg (by rw [hs]; simp)]]
      refine (Ev.callF (vs := [.agg #[.int .i64 n, .int .i64 b]]) (hno n b h1 a1 a3 hs) (vr_fn1 n b) (by simp [V.idsL, V.ids]) (by simp [V.idsL, V.ids]) W).mono ?_
      rintro e w' ⟨u, rfl, hu, hg⟩
      obtain rfl := vr_e2 hu
      exact ⟨_, rfl, .inl ⟨rfl, _, rfl⟩, hg⟩
    · have hk := (selm_all (g := lvH b) (n + 1)).1
      rw [show levR n b = ((selm (fun _ => true) (lvH b) (n + 1)).map (fun x => ((x : Nat) : Int)), 0) by rw [levR, if_pos h1, Int.toNat_natCast, Int.toNat_natCast, if_pos hs]]
      cases hL : selm (fun _ => true) (lvH b) (n + 1) with
      | nil => rw [hL] at hk; simp at hk
      | cons x xs =>
        have he := hok n b x xs h1 a1 a3 hs hL
        rw [ints_z] at he
        refine (Ev.callL (vs := [.agg #[.int .i64 n, .int .i64 b]]) he (by simp) (vr_fn1 n b) (by simp [V.idsL, V.ids]) (by simp [V.idsL, V.ids]) W).mono ?_
        rintro e w' ⟨v, us, rfl, hu, hv, hg⟩
        simp only [VR, VRL] at hu
        obtain ⟨u1, t1, rfl, rfl, rfl⟩ := hu
        rw [List.take_of_length_le (by simp)] at hv
        exact ⟨v, rfl, hv, hg⟩
theorem c_levi (p t : Int) (W : World) : Calls Try.prog 18 #[.agg #[.int .i64 p, .int .i64 t]] W fun e w' => ∃ v, e = .returned (.tuple #[v, .int .i64 (levR p t).2]) ∧ RdV w' W.heap.size v (levR p t).1 ∧ W.grownBy w' none := lev_any 18 ev18_bad ev18_no ev18_ok p t W
theorem c_levs (p t : Int) (W : World) : Calls Try.prog 19 #[.agg #[.int .i64 p, .int .i64 t]] W fun e w' => ∃ v, e = .returned (.tuple #[v, .int .i64 (levR p t).2]) ∧ RdV w' W.heap.size v (levR p t).1 ∧ W.grownBy w' none := lev_any 19 ev19_bad ev19_no ev19_ok p t W
/-- A call with a list that it keeps. -/
theorem c_fof (n m : Nat) (c : List Int) (hn : n ≤ 4) (hc : c.length = R2 n) (hm : m = c.length) (hd : digs c = true) (g cp : Nat) (W : World) (hb : RdB W g cp c) : Calls Try.prog 9 #[.int .i64 n, .slice (some ⟨g, 0, none⟩) m cp] W fun e w' => e = .returned (.tuple #[.agg #[.int .i64 n, .int .i64 (pk (fun j => (c.map Int.toNat).getD j 0) (R2 n) : Nat)], .int .i64 0]) ∧ RdB w' g cp c ∧ W.grownBy w' (some g) := by
  subst hm
  have hlc : c.length ≤ cp := by obtain ⟨_, _, _, h, _⟩ := hb; exact h
  refine (Ev.callA (vs := [.int .i64 n, .slice (some ⟨g, 0, none⟩) c.length cp]) (ev9 n c hn hc hd) W hb (fun sz hsz => by simp only [VR, VRL]; exact ⟨_, _, rfl, rfl, _, _, rfl, .inl ⟨cp, rfl, hlc, by omega⟩, rfl⟩) (by simp [V.idsL, V.ids]) (by simp [V.idsL, V.ids])).mono ?_
  rintro e w' ⟨u, rfl, hu, hr, hg⟩
  exact ⟨by rw [vr_ai hu], hr, hg⟩
theorem c_foli (m : Nat) (c : List Int) (hl : c.length ≤ 16) (hm : m = c.length) (g cp : Nat) (W : World) (hb : RdB W g cp c) : Calls Try.prog 20 #[.slice (some ⟨g, 0, none⟩) m cp] W fun e w' => e = .returned (.tuple #[.agg #[.int .i64 (folR c).a, .int .i64 (folR c).b], .int .i64 (folR c).c]) ∧ RdB w' g cp c ∧ W.grownBy w' (some g) := by
  subst hm
  have hlc : c.length ≤ cp := by obtain ⟨_, _, _, h, _⟩ := hb; exact h
  refine (Ev.callA (vs := [.slice (some ⟨g, 0, none⟩) c.length cp]) (ev20 c (by omega)) W hb (fun sz hsz => by simp only [VR, VRL]; exact ⟨_, _, rfl, .inl ⟨cp, rfl, hlc, by omega⟩, rfl⟩) (by simp [V.idsL, V.ids]) (by simp [V.idsL, V.ids])).mono ?_
  rintro e w' ⟨u, rfl, hu, hr, hg⟩
  exact ⟨by rw [vr_ai hu], hr, hg⟩
theorem c_fols (m : Nat) (c : List Int) (hl : c.length ≤ 16) (hm : m = c.length) (g cp : Nat) (W : World) (hb : RdB W g cp c) : Calls Try.prog 22 #[.slice (some ⟨g, 0, none⟩) m cp] W fun e w' => e = .returned (.tuple #[.agg #[.int .i64 (folR c).a, .int .i64 (folR c).b], .int .i64 (folR c).c]) ∧ RdB w' g cp c ∧ W.grownBy w' (some g) := by
  subst hm
  have hlc : c.length ≤ cp := by obtain ⟨_, _, _, h, _⟩ := hb; exact h
  refine (Ev.callA (vs := [.slice (some ⟨g, 0, none⟩) c.length cp]) (ev22 c (by omega)) W hb (fun sz hsz => by simp only [VR, VRL]; exact ⟨_, _, rfl, .inl ⟨cp, rfl, hlc, by omega⟩, rfl⟩) (by simp [V.idsL, V.ids]) (by simp [V.idsL, V.ids])).mono ?_
  rintro e w' ⟨u, rfl, hu, hr, hg⟩
  exact ⟨by rw [vr_ai hu], hr, hg⟩
end

section
open Go.RowKit Go.IntWalk
theorem RdV.shape {w : World} {b : Nat} {v : Value} {L : List Int} (h : RdV w b v L) : ∃ o cp, v = .slice o L.length cp ∧ ∀ i, i < L.length → ∃ g, o = some ⟨g, 0, none⟩ ∧ w.cell? ⟨g, i, none⟩ = some (.int .i64 (L.getD i 0)) := by
  rcases h with ⟨rfl, o, rfl⟩ | ⟨g, cp, rfl, _, h⟩
  · exact ⟨o, 0, rfl, fun i hi => absurd hi (by simp)⟩
  · exact ⟨_, cp, rfl, fun i hi => ⟨g, rfl, h.cell hi⟩⟩
theorem RdV.shapeN {w : World} {b n : Nat} {v : Value} {L : List Int} (h : RdV w b v L) (hn : L.length = n) : ∃ o cp, v = .slice o n cp ∧ ∀ i, i < n → ∃ g, o = some ⟨g, 0, none⟩ ∧ w.cell? ⟨g, i, none⟩ = some (.int .i64 (L.getD i 0)) := by
  subst hn; exact h.shape
theorem own_rdB {w : World} {B n : Nat} {v : Value} {l : List Int} (hn : l.length = n) (h0 : 0 < n) (h : w.ownsRow B 2 1 v n (zvL l)) : ∃ g cp, v = .slice (some ⟨g, 0, none⟩) n cp ∧ B ≤ g ∧ RdB w g cp l := by
  obtain ⟨h1, h2⟩ := h
  rcases h2 with ⟨_, h2⟩ | ⟨g, cap, cur, rfl, hg, hh, hc1, hc2, hc3, hc4⟩
  · omega
  · rw [Nat.mul_one] at hc3 hc4
    refine ⟨g, cap, rfl, hg, cur, 2, hh, by omega, by omega, fun i hi => ?_⟩
    have := congrArg (fun l => l[i]?) hc4
    simp only [List.getElem?_take] at this
    rw [if_pos (by omega)] at this
    rw [← Array.getElem?_toList, this]
    simp [zvL, List.getElem?_map, List.getD_eq_getElem?_getD, List.getElem?_eq_getElem hi]
/-- A fact that the walk does not use. -/
def Aside (p : Prop) : Prop := p
end
section
open Go.RowKit Go.IntWalk
theorem c_big (o : Option Addr) (n cc : Nat) (w : World) : Calls Try.prog 4 #[.slice o n cc] w fun e w' => e = .returned (.bool (decide (4096 < n))) ∧ w' = w := by
  have h : decide ((4096 : Int) < (n : Int)) = decide (4096 < n) := by rw [decide_eq_decide]; omega
  go_enter Try.func4, Try.ntmps4
  go_wp2_with fail
  go_ret
  exact ⟨rfl, rfl⟩
end
section
open Go.RowKit Go.IntWalk
theorem c_like (u v : Value) (L : List Int) (b b' : Nat) (hL : L.length ≤ 16) (w : World) (hu : RdV w b u L) (hv : RdV w b' v L) : Calls Try.prog 8 #[u, v] w fun e w' => e = .returned (.bool true) ∧ w.grownBy w' none := by
  obtain ⟨o1, cp1, rfl, h1⟩ := hu.shape
  obtain ⟨o2, cp2, rfl, h2⟩ := hv.shape
  clear hu hv
  generalize L.length = n at *
  go_enter Try.func8, Try.ntmps8
  go_wp2_with fail
  go_loopw [5] (fun i wr => ∃ k : Nat, i = .int .i64 k ∧ k ≤ n ∧ w.grownBy wr none) (fun i _ => n - (intOf i).toNat)
  case atStart => exact ⟨0, rfl, Nat.zero_le _, grn_refl w⟩
  case round =>
    obtain ⟨k, rfl, hk, hgr⟩ := hrel
    by_cases hkn : k < n
    · obtain ⟨g1, rfl, c1⟩ := h1 k hkn
      obtain ⟨g2, rfl, c2⟩ := h2 k hkn
      have d1 := (grown_t2 hgr (drew_gr wr)).cell c1 (by simp)
      have d2 := (grown_t2 hgr (drew_gr wr)).cell c2 (by simp)
      have e1 := hgr.cell c1 (by simp)
      have e2 := hgr.cell c2 (by simp)
      generalize L.getD k 0 = x at *
      go_wp2_with fail
      go_region
      all_goals go_wp2_with fail
      all_goals
        go_roundw
        case rel => exact ⟨k + 1, by go_num, by omega, grown_t2 hgr (drew_gr wr)⟩
        case measure => simp [intOf]; omega
    · obtain rfl : k = n := by omega
      go_wp2_with fail
      go_ret
      exact ⟨rfl, hgr⟩
end
section
open Go.RowKit Go.IntWalk
theorem ar_any (z : Int) (W : World) : Calls Try.prog 31 #[.int .i64 z] W fun e w' => e = .returned (.bool (decide (0 ≤ z ∧ z ≤ 4))) ∧ W.grownBy w' none := by
  refine (Ev.callF (vs := [.int .i64 z]) (ev31 z) (by simp only [VR, VRL]; exact ⟨_, _, rfl, rfl, rfl⟩) (by simp [V.idsL, V.ids]) (by simp [V.ids]) W).mono ?_
  rintro e w' ⟨u, rfl, hu, hg⟩
  simp only [VR] at hu; subst hu
  exact ⟨rfl, hg⟩
theorem c_fol0s (o : Option Addr) (w : World) : Calls Try.prog 22 #[.slice o 0 0] w fun e w' => e = .returned (.tuple #[.agg #[.int .i64 0, .int .i64 0], .int .i64 2]) ∧ w.grownBy w' none := by
  have bA := blk_new w (.cells #[.int .i64 0, .int .i64 0] 25 (0, 0))
  have gA := World.grownBy_alloc w (.cells #[.int .i64 0, .int .i64 0] 25 (0, 0)) none
  go_enter Try.func22, Try.ntmps22
  go_wp2_with fail
  generalize w.alloc (.cells #[.int .i64 0, .int .i64 0] 25 (0, 0)) = wA at *
  refine (in_anyd 0 1 5 _).mono ?_
  rintro e w1 ⟨rfl, hg1⟩
  replace bA := blk_fr' bA hg1 (by simp)
  replace gA := grown_t2 gA hg1
  obtain ⟨k0, k1, k2, k3⟩ := res_cells bA
  rw [show decide ((1 : Int) ≤ 0 ∧ (0 : Int) ≤ 5) = false from rfl]
  go_wp2_with fail
  obtain ⟨y1, y2⟩ := ret_pq 0 0 bA gA
  refine bodyPost_ret (results_c2 rfl _ _ w.heap.size 25 _ (0, 0) rfl y1 rfl) rfl ?_
  exact ⟨rfl, y2⟩
end

section
open Go.RowKit Go.IntWalk
theorem wof_ok {p t : Int} (h : (wofR p t).2.2 = 0) : ∃ (n b : Nat) (l : List Int), p = n ∧ t = b ∧ isFn n b = true ∧ n ≤ 4 ∧ b < R2 (R2 n) ∧ wRes n b = some l ∧ wofR p t = (l, wT n b, 0) := by
  cases h1 : isFn p t
  · rw [wofR, if_neg (by rw [h1]; simp)] at h; simp at h
  · obtain ⟨n, b, rfl, rfl, a1, a2, a3⟩ := isFn_nat h1
    cases hr : wRes n b with
    | none => rw [wofR, if_pos h1, Int.toNat_natCast, Int.toNat_natCast, hr] at h; simp at h
    | some l => exact ⟨n, b, l, rfl, rfl, h1, a1, a2, hr, by rw [wofR, if_pos h1, Int.toNat_natCast, Int.toNat_natCast, hr]⟩
theorem wof_len (p t : Int) : (wofR p t).1.length ≤ 16 := by
  rw [wofR]
  split
  · rename_i h1
    obtain ⟨n, b, rfl, rfl, a1, a2, a3⟩ := isFn_nat h1
    rw [Int.toNat_natCast, Int.toNat_natCast]
    cases hr : wRes n b with
    | none => simp
    | some l => have := wRes_len hr; simp; omega
  · simp
def vlK (b k : Nat) : List Int := (List.range k).map fun r => ((bt b r : Nat) : Int)
theorem vlK_s (b k : Nat) : zvL (vlK b (k + 1)) = zvL (vlK b k) ++ [.int .i64 (bt b k : Nat)] := by simp [vlK, List.range_succ, zvL]
theorem vlK_len (b k : Nat) : (vlK b k).length = k := by simp [vlK]
theorem vlK_digs (b k : Nat) : digs (vlK b k) = true := by
  rw [digs, allF_iff]
  intro j _ hj
  have hj2 : j < k := by rw [vlK_len] at hj; omega
  have := bt_le b j
  rw [d01, List.getD_eq_getElem?_getD, vlK, List.getElem?_map, List.getElem?_range hj2]
  simp only [Option.map_some, Option.getD_some, decide_eq_true_eq]
  omega
theorem vlK_pk {b k : Nat} (h : b < R2 k) : pk (fun j => ((vlK b k).map Int.toNat).getD j 0) k = b := by
  rw [← pk_self h]
  refine pk_congr fun r hr => ?_
  rw [pk_self h, List.getD_eq_getElem?_getD, vlK, List.map_map, List.getElem?_map, List.getElem?_range hr]
  simp
theorem strR_in {n b x y : Nat} (h : isFn n b = true) (hx : x < n) (hy : y < n) : strR n b x y = (strB n b x y, 0) := by
  rw [strR, if_pos h, if_pos ⟨⟨by omega, by omega⟩, ⟨by omega, by omega⟩⟩]; simp
theorem sh_w {n : Nat} (hn : n ≤ 4) : wrap64 ((2 : Int) ^ n) = ((R2 n : Nat) : Int) := by
  unfold R2
  rcases (show n = 0 ∨ n = 1 ∨ n = 2 ∨ n = 3 ∨ n = 4 by omega) with rfl | rfl | rfl | rfl | rfl <;> with_unfolding_all rfl
theorem neg_fn {n b : Nat} (hn : n ≤ 4) (hb : b < R2 (R2 n)) : isFn (n : Nat) ((R2 (R2 n) - 1 - b : Nat) : Int) = true := by
  rw [isFn, Int.toNat_natCast, decide_eq_true (by omega), decide_eq_true (by omega)]; rfl
end

section
open Go.RowKit Go.IntWalk
theorem c_fol0i (o : Option Addr) (w : World) : Calls Try.prog 20 #[.slice o 0 0] w fun e w' => e = .returned (.tuple #[.agg #[.int .i64 0, .int .i64 0], .int .i64 2]) ∧ w.grownBy w' none := by
  have bX := blk_new w (.cells #[.slice o 0 0] 27 (0, 0))
  have gX := World.grownBy_alloc w (.cells #[.slice o 0 0] 27 (0, 0)) none
  have e1 : (w.alloc (.cells #[.slice o 0 0] 27 (0, 0))).heap.size = w.heap.size + 1 := by simp
  go_enter Try.func20, Try.ntmps20
  go_wp2_with fail
  generalize w.alloc (.cells #[.slice o 0 0] 27 (0, 0)) = wX at *
  have bA := blk_new wX (.cells #[.int .i64 0, .int .i64 0] 25 (0, 0))
  have gA := World.grownBy_alloc wX (.cells #[.int .i64 0, .int .i64 0] 25 (0, 0)) none
  generalize wX.alloc (.cells #[.int .i64 0, .int .i64 0] 25 (0, 0)) = wA at *
  refine (ar_any (-1) _).mono ?_
  rw [show decide ((0 : Int) ≤ -1 ∧ (-1 : Int) ≤ 4) = false from rfl]
  rintro e w1 ⟨rfl, hg1⟩
  replace bA := blk_fr' bA hg1 (by simp)
  replace gA := grown_t2 gA hg1
  obtain ⟨y1, y2⟩ := ret_pq 0 0 bA gA
  rw [e1] at y1 y2 bA
  obtain ⟨k0, k1, k2, k3⟩ := res_cells bA
  clear e1
  go_wp2_with fail
  refine bodyPost_ret (results_c2 rfl _ _ (w.heap.size + 1) 25 _ (0, 0) rfl y1 rfl) rfl ?_
  exact ⟨rfl, grown_t2 gX y2⟩
theorem lev_len (p t : Int) : (levR p t).1.length ≤ 16 := by
  rw [levR]
  split
  · rename_i h1
    obtain ⟨n, b, rfl, rfl, a1, a2, a3⟩ := isFn_nat h1
    rw [Int.toNat_natCast, Int.toNat_natCast]
    split
    · have := (selm_all (g := lvH b) (n + 1)).1
      simp only [List.length_map, this]; omega
    · simp
  · simp
theorem lev_ok {p t : Int} (h : (levR p t).2 = 0) : folR (levR p t).1 = ⟨p, t, 0⟩ ∧ 0 < (levR p t).1.length := by
  cases h1 : isFn p t
  · rw [levR, if_neg (by rw [h1]; simp)] at h; simp at h
  · obtain ⟨n, b, rfl, rfl, a1, a2, a3⟩ := isFn_nat h1
    cases hs : allF (lvP b) 0 (R2 n)
    · rw [levR, if_pos h1, Int.toNat_natCast, Int.toNat_natCast, if_neg (by rw [hs]; simp)] at h; simp at h
    · rw [levR, if_pos h1, Int.toNat_natCast, Int.toNat_natCast, if_pos hs]
      have hk := (selm_all (g := lvH b) (n + 1)).1
      refine ⟨lev_back a1 a2 hs rfl, ?_⟩
      simp only [List.length_map, hk]; omega
end


end Go.Proofs.Ytlhhbhmobllafaa
