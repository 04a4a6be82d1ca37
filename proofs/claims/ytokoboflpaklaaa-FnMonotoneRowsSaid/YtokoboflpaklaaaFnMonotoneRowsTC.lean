/- What each function that the statement reaches returns. -/
import Derived.Test.YtokoboflpaklaaaFnMonotoneRowsTB
set_option linter.unusedVariables false
set_option linter.unusedSimpArgs false
set_option maxRecDepth 100000
set_option maxHeartbeats 4000000
namespace Go.Proofs.Ytokoboflpaklaaa
open Go Go.Proofs.Ytokoboflpaklaaa.Mi
attribute [local irreducible] code opsK opsDK gopK opK seqK blockK callK binV
attribute [local irreducible] R2 bt
-- impl.TransversalsOf
def m9 : MC := (.seq (.region [⟨(.box (.t 0)), (some 1), none⟩, ⟨(.mov (.k .nils)), (some 2), none⟩, ⟨(.mov (.k (.int .i64 0))), (some 3), none⟩] false) (.seq (.block 0 (.seq (.region [⟨(.load (some 2) (.t 1)), (some 6), none⟩, ⟨(.call 95 [(.t 6)]), (some 7), none⟩, ⟨(.un .not (.t 7)), (some 8), none⟩, ⟨(.mov (.t 8)), (some 5), none⟩] false) (.cond (.t 5) (.seq (.region [⟨(.mov (.k .nils)), (some 2), none⟩, ⟨(.mov (.k (.int .i64 1))), (some 3), none⟩] false) .ret) (.seq (.region [⟨(.load (some 2) (.t 1)), (some 10), none⟩, ⟨(.call 96 [(.t 10)]), (some 11), none⟩, ⟨(.un .not (.t 11)), (some 12), none⟩, ⟨(.mov (.t 12)), (some 9), none⟩] false) (.cond (.t 9) (.seq (.region [⟨(.mov (.k .nils)), (some 2), none⟩, ⟨(.mov (.k (.int .i64 5))), (some 3), none⟩] false) .ret) .skip))))) (.seq (.region [⟨(.load (some 2) (.t 1)), (some 13), none⟩, ⟨(.call 97 [(.t 13)]), (some 14), none⟩, ⟨(.alloc [.nils]), (some 4), none⟩, ⟨(.store 1 (.t 4) (.t 14)), none, none⟩] false) (.seq (.region [⟨(.load (some 2) (.t 1)), (some 15), none⟩, ⟨(.mkfn 99 [(.t 4)]), (some 16), none⟩, ⟨(.call 98 [(.t 15), (.t 16), (.k (.fn 102 []))]), (some 17), none⟩, ⟨(.mov (.t 17)), (some 2), none⟩, ⟨(.mov (.k (.int .i64 0))), (some 3), none⟩] false) .ret))))
theorem has9 : Has cx 9 18 m9 [(.tmp 2), (.tmp 3)] :=
  ⟨⟨Try.f9, Try.f9.body.getD .skip, by kernel_rfl, by kernel_rfl, by kernel_rfl, by kernel_rfl, by kernel_rfl, by kernel_rfl⟩⟩
theorem evgf_TransversalsOf (n b : Nat) (a1 : n ≤ 4) (a3 : b < 65536) (hmo : monoB n b = true) (L M : List Nat) (hL : selm (enP n b 1 belT) idn (R2 n) = L) (hM : selm (enP n (pk (bn (trP L)) (R2 n)) 1 belT) idn (R2 n) = M) (i1 : Ev cx 95 [.agg [.int .i64 n, .int .i64 b]] [] (.bool true) []) :
    ∃ (w : V) (hp : Heap), Ev cx 9 [.agg [.int .i64 n, .int .i64 b]] [] (.tup [w, .int .i64 0]) hp ∧
    ((w = .nils ∧ hp = [] ∧ M = []) ∨ ∃ k : Nat, k ≤ 16 ∧ w = .sl 0 0 M.length ∧ hp = [⟨ints (M ++ List.replicate k 0), 1, 0, some 0, false⟩] ∧ M.length ≤ 16) := by
  obtain ⟨h1, h2, h3, h4⟩ := shN a1
  obtain ⟨w0, hp0, e2, hw⟩ := ev97 n b a1 a3 L hL
  have e3 := ev96 n b a1 a3
  rw [hmo] at e3
  have hlt := fun j hj => (selm_lt (p := enP n b 1 belT) (n := R2 n) (j := j) hj).1
  rw [hL] at hlt
  have en := end_eq n (pk (bn (trP L)) (R2 n)) 1 belT
  rw [sel_t, hM] at en
  have hle := selm_len (trP L) idn (R2 n)
  rcases hw with ⟨rfl, rfl, rfl⟩ | ⟨k, hk, rfl, rfl, hl⟩
  · have hpk : ∀ r : Nat, r < 16 → Ev cx 99 [.int .i64 r, .ptr 0 0] [⟨[.nils], 1, 0, some 0, true⟩] (.bool (trP [] r)) [⟨[.nils], 1, 0, some 0, true⟩] := fun r _ => ev99_nils r
    cases hs : selm (trP []) idn (R2 n) with
    | nil =>
      have e4 := ends_nil_trn 102 99 n b (trP []) a1 hpk hs
      refine ⟨.nils, [], ?_, .inl ⟨rfl, rfl, (en [] hs).symm⟩⟩
      refine has9.eev rfl rfl ?_
      unfold m9
      repeat' (first
        | (refine g_op ?_; first
          | refine ep_mov rfl ?_ | refine sp_loadN rfl rfl rfl rfl rfl ?_
          | refine ep_call0 rfl (by first | exact i1 | exact e2 | exact e3 | exact e4) rfl rfl ?_
          | refine sp_call rfl rfl rfl rfl (by first | exact i1 | exact e2 | exact e3 | exact e4) ⟨rfl, rfl, rfl, rfl⟩ rfl rfl rfl ?_
          | refine sp_store rfl rfl rfl rfl rfl rfl rfl rfl rfl rfl ?_ | refine ep_not rfl ?_ | refine sp_box rfl rfl rfl rfl rfl ?_ | refine sp_alloc rfl rfl ?_ | refine ep_mkfn rfl ?_)
        | (refine g_ops ?_; first | refine eo_none ?_ | refine eo_nil ?_)
        | (refine g_code ?_; first | refine ec_seq ?_ | refine ec_region ?_ | refine ec_block ?_ | refine ec_skip ?_ | refine ec_ret ?_ | refine ec_condT rfl ?_ | refine ec_condF rfl ?_ | refine ec_condTH rfl (by assumption) ?_ | refine ec_condFH rfl (by assumption) ?_)
        | refine ek_seqN ?_ | refine ek_seqR ?_ | refine ek_blkN ?_ | refine ek_blkR ?_ | refine ek_blkX ?_ | refine ek_blkY rfl ?_)
      refine sfin (.inr rfl) (by rfl) (by rfl) (by exact ⟨rfl, rfl, rfl⟩) (by rfl) (by rfl) (by rfl) (by first | rfl | (simp; done) | (simp [ints, prs]; done))
    | cons x xs =>
      have e4 := ends_cons_trn 102 99 n b (trP []) a1 hpk belT (fun r s hr hs => ev102 r s hr hs) x xs hs
      have hE := en (x :: xs) hs
      rw [hE] at e4
      rw [hs] at hle
      have hkl := kpt_len (delQ (x :: xs) belT) (x :: xs) (x :: xs).length
      rw [show kpt (delQ (x :: xs) belT) (x :: xs) (x :: xs).length = M from hE] at hkl
      refine ⟨_, _, ?_, .inr ⟨(x :: xs).length - M.length, by omega, rfl, rfl, by omega⟩⟩
      refine has9.eev rfl rfl ?_
      unfold m9
      repeat' (first
        | (refine g_op ?_; first
          | refine ep_mov rfl ?_ | refine sp_loadN rfl rfl rfl rfl rfl ?_
          | refine ep_call0 rfl (by first | exact i1 | exact e2 | exact e3 | exact e4) rfl rfl ?_
          | refine sp_call rfl rfl rfl rfl (by first | exact i1 | exact e2 | exact e3 | exact e4) ⟨rfl, rfl, rfl, rfl⟩ rfl rfl rfl ?_
          | refine sp_store rfl rfl rfl rfl rfl rfl rfl rfl rfl rfl ?_ | refine ep_not rfl ?_ | refine sp_box rfl rfl rfl rfl rfl ?_ | refine sp_alloc rfl rfl ?_ | refine ep_mkfn rfl ?_)
        | (refine g_ops ?_; first | refine eo_none ?_ | refine eo_nil ?_)
        | (refine g_code ?_; first | refine ec_seq ?_ | refine ec_region ?_ | refine ec_block ?_ | refine ec_skip ?_ | refine ec_ret ?_ | refine ec_condT rfl ?_ | refine ec_condF rfl ?_ | refine ec_condTH rfl (by assumption) ?_ | refine ec_condFH rfl (by assumption) ?_)
        | refine ek_seqN ?_ | refine ek_seqR ?_ | refine ek_blkN ?_ | refine ek_blkR ?_ | refine ek_blkX ?_ | refine ek_blkY rfl ?_)
      refine sfin (.inr rfl) (by rfl) (by rfl) (by exact ⟨rfl, rfl, rfl⟩) (by rfl) (by rfl) (by rfl) (by first | rfl | (simp; done) | (simp [ints, prs]; done))
  · have hpk : ∀ r : Nat, r < 16 → Ev cx 99 [.int .i64 r, .ptr 0 0] [⟨[.sl 1 0 L.length], 1, 0, some 0, true⟩, ⟨ints (L ++ List.replicate k 0), 1, 1, some 0, false⟩] (.bool (trP L r)) [⟨[.sl 1 0 L.length], 1, 0, some 0, true⟩, ⟨ints (L ++ List.replicate k 0), 1, 1, some 0, false⟩] := fun r hr => by
      have hg : ∀ j, j < L.length → (L ++ List.replicate k 0).getD j 0 = L.getD j 0 := fun j hj => by
        rw [List.getD_eq_getElem?_getD, List.getElem?_append_left hj, List.getD_eq_getElem?_getD]
      have e := ev99 (L ++ List.replicate k 0) L.length r (by rw [List.length_append]; omega) (by rw [List.length_append, List.length_replicate]; omega) (fun j hj => by rw [hg j hj]; have := hlt j hj; omega) (by omega)
      have hc : allF (fun j => !(r &&& ((L ++ List.replicate k 0).getD j 0) == 0)) 0 L.length = trP L r := by
        unfold trP
        rw [Bool.eq_iff_iff, allF_iff, allF_iff]
        constructor
        · intro h j h1 h2; have := h j h1 h2; rwa [hg j (by omega)] at this
        · intro h j h1 h2; have := h j h1 h2; rwa [hg j (by omega)]
      rwa [hc] at e
    cases hs : selm (trP L) idn (R2 n) with
    | nil =>
      have e4 := ends_nil_tr 102 99 n b (trP L) a1 (L ++ List.replicate k 0) L.length hpk hs
      refine ⟨.nils, [], ?_, .inl ⟨rfl, rfl, (en [] hs).symm⟩⟩
      refine has9.eev rfl rfl ?_
      unfold m9
      repeat' (first
        | (refine g_op ?_; first
          | refine ep_mov rfl ?_ | refine sp_loadN rfl rfl rfl rfl rfl ?_
          | refine ep_call0 rfl (by first | exact i1 | exact e2 | exact e3 | exact e4) rfl rfl ?_
          | refine sp_call rfl rfl rfl rfl (by first | exact i1 | exact e2 | exact e3 | exact e4) ⟨rfl, rfl, rfl, rfl⟩ rfl rfl rfl ?_
          | refine sp_store rfl rfl rfl rfl rfl rfl rfl rfl rfl rfl ?_ | refine ep_not rfl ?_ | refine sp_box rfl rfl rfl rfl rfl ?_ | refine sp_alloc rfl rfl ?_ | refine ep_mkfn rfl ?_)
        | (refine g_ops ?_; first | refine eo_none ?_ | refine eo_nil ?_)
        | (refine g_code ?_; first | refine ec_seq ?_ | refine ec_region ?_ | refine ec_block ?_ | refine ec_skip ?_ | refine ec_ret ?_ | refine ec_condT rfl ?_ | refine ec_condF rfl ?_ | refine ec_condTH rfl (by assumption) ?_ | refine ec_condFH rfl (by assumption) ?_)
        | refine ek_seqN ?_ | refine ek_seqR ?_ | refine ek_blkN ?_ | refine ek_blkR ?_ | refine ek_blkX ?_ | refine ek_blkY rfl ?_)
      refine sfin (.inr rfl) (by rfl) (by rfl) (by exact ⟨rfl, rfl, rfl⟩) (by rfl) (by rfl) (by rfl) (by first | rfl | (simp; done) | (simp [ints, prs]; done))
    | cons x xs =>
      have e4 := ends_cons_tr 102 99 n b (trP L) a1 (L ++ List.replicate k 0) L.length hpk belT (fun r s hr hs => ev102 r s hr hs) x xs hs
      have hE := en (x :: xs) hs
      rw [hE] at e4
      rw [hs] at hle
      have hkl := kpt_len (delQ (x :: xs) belT) (x :: xs) (x :: xs).length
      rw [show kpt (delQ (x :: xs) belT) (x :: xs) (x :: xs).length = M from hE] at hkl
      refine ⟨_, _, ?_, .inr ⟨(x :: xs).length - M.length, by omega, rfl, rfl, by omega⟩⟩
      refine has9.eev rfl rfl ?_
      unfold m9
      repeat' (first
        | (refine g_op ?_; first
          | refine ep_mov rfl ?_ | refine sp_loadN rfl rfl rfl rfl rfl ?_
          | refine ep_call0 rfl (by first | exact i1 | exact e2 | exact e3 | exact e4) rfl rfl ?_
          | refine sp_call rfl rfl rfl rfl (by first | exact i1 | exact e2 | exact e3 | exact e4) ⟨rfl, rfl, rfl, rfl⟩ rfl rfl rfl ?_
          | refine sp_store rfl rfl rfl rfl rfl rfl rfl rfl rfl rfl ?_ | refine ep_not rfl ?_ | refine sp_box rfl rfl rfl rfl rfl ?_ | refine sp_alloc rfl rfl ?_ | refine ep_mkfn rfl ?_)
        | (refine g_ops ?_; first | refine eo_none ?_ | refine eo_nil ?_)
        | (refine g_code ?_; first | refine ec_seq ?_ | refine ec_region ?_ | refine ec_block ?_ | refine ec_skip ?_ | refine ec_ret ?_ | refine ec_condT rfl ?_ | refine ec_condF rfl ?_ | refine ec_condTH rfl (by assumption) ?_ | refine ec_condFH rfl (by assumption) ?_)
        | refine ek_seqN ?_ | refine ek_seqR ?_ | refine ek_blkN ?_ | refine ek_blkR ?_ | refine ek_blkX ?_ | refine ek_blkY rfl ?_)
      refine sfin (.inr rfl) (by rfl) (by rfl) (by exact ⟨rfl, rfl, rfl⟩) (by rfl) (by rfl) (by rfl) (by first | rfl | (simp; done) | (simp [ints, prs]; done))
theorem ev9_bad (p t : Int) (h1 : isFn p t = false) : Ev cx 9 [.agg [.int .i64 p, .int .i64 t]] [] (.tup [.nils, .int .i64 1]) [] := by
  have e1 := ev95 p t
  rw [h1] at e1
  refine has9.eev rfl rfl ?_
  unfold m9
  repeat' (first
    | (refine g_op ?_; first
      | refine ep_mov rfl ?_ | refine sp_loadN rfl rfl rfl rfl rfl ?_
      | refine ep_call0 rfl (by first | exact e1) rfl rfl ?_
      | refine sp_call rfl rfl rfl rfl (by first | exact e1) ⟨rfl, rfl, rfl, rfl⟩ rfl rfl rfl ?_
      | refine sp_store rfl rfl rfl rfl rfl rfl rfl rfl rfl rfl ?_ | refine ep_not rfl ?_ | refine sp_box rfl rfl rfl rfl rfl ?_ | refine sp_alloc rfl rfl ?_ | refine ep_mkfn rfl ?_)
    | (refine g_ops ?_; first | refine eo_none ?_ | refine eo_nil ?_)
    | (refine g_code ?_; first | refine ec_seq ?_ | refine ec_region ?_ | refine ec_block ?_ | refine ec_skip ?_ | refine ec_ret ?_ | refine ec_condT rfl ?_ | refine ec_condF rfl ?_ | refine ec_condTH rfl (by assumption) ?_ | refine ec_condFH rfl (by assumption) ?_)
    | refine ek_seqN ?_ | refine ek_seqR ?_ | refine ek_blkN ?_ | refine ek_blkR ?_ | refine ek_blkX ?_ | refine ek_blkY rfl ?_)
  refine sfin (.inr rfl) (by rfl) (by rfl) (by exact ⟨rfl, rfl, rfl⟩) (by rfl) (by rfl) (by rfl) (by first | rfl | (simp; done) | (simp [ints, prs]; done))
theorem ev9_non (n b : Nat) (a1 : n ≤ 4) (a3 : b < 65536) (hmo : monoB n b = false) (i1 : Ev cx 95 [.agg [.int .i64 n, .int .i64 b]] [] (.bool true) []) : Ev cx 9 [.agg [.int .i64 n, .int .i64 b]] [] (.tup [.nils, .int .i64 5]) [] := by
  have e2 := ev96 n b a1 a3
  rw [hmo] at e2
  refine has9.eev rfl rfl ?_
  unfold m9
  repeat' (first
    | (refine g_op ?_; first
      | refine ep_mov rfl ?_ | refine sp_loadN rfl rfl rfl rfl rfl ?_
      | refine ep_call0 rfl (by first | exact i1 | exact e2) rfl rfl ?_
      | refine sp_call rfl rfl rfl rfl (by first | exact i1 | exact e2) ⟨rfl, rfl, rfl, rfl⟩ rfl rfl rfl ?_
      | refine sp_store rfl rfl rfl rfl rfl rfl rfl rfl rfl rfl ?_ | refine ep_not rfl ?_ | refine sp_box rfl rfl rfl rfl rfl ?_ | refine sp_alloc rfl rfl ?_ | refine ep_mkfn rfl ?_)
    | (refine g_ops ?_; first | refine eo_none ?_ | refine eo_nil ?_)
    | (refine g_code ?_; first | refine ec_seq ?_ | refine ec_region ?_ | refine ec_block ?_ | refine ec_skip ?_ | refine ec_ret ?_ | refine ec_condT rfl ?_ | refine ec_condF rfl ?_ | refine ec_condTH rfl (by assumption) ?_ | refine ec_condFH rfl (by assumption) ?_)
    | refine ek_seqN ?_ | refine ek_seqR ?_ | refine ek_blkN ?_ | refine ek_blkR ?_ | refine ek_blkX ?_ | refine ek_blkY rfl ?_)
  refine sfin (.inr rfl) (by rfl) (by rfl) (by exact ⟨rfl, rfl, rfl⟩) (by rfl) (by rfl) (by rfl) (by first | rfl | (simp; done) | (simp [ints, prs]; done))
-- spec.l01Projection
def m162_0 : MC := (.seq (.seq (.region [⟨(.mov (.t 6)), (some 8), none⟩, ⟨(.mov (.t 0)), (some 9), none⟩, ⟨(.call 106 [(.t 9)]), (some 10), none⟩, ⟨(.bin .lss (.t 8) (.t 10)), (some 11), none⟩] false) (.cond (.t 11) .skip (.exit 0))) (.seq (.block 1 (.region [⟨(.mov (.t 5)), (some 14), none⟩, ⟨(.mov (.t 6)), (some 15), none⟩, ⟨(.mov (.t 1)), (some 16), none⟩, ⟨(.conv .u64 (.t 16)), (some 17), none⟩, ⟨(.bin .shr (.t 15) (.t 17)), (some 18), none⟩, ⟨(.bin .and (.t 18) (.k (.int .i64 1))), (some 19), none⟩, ⟨(.bslice 1 [(.int .i64 0)] 1 [(0, (1, (.t 19)))]), (some 20), none⟩, ⟨(.append 1 8 (.t 14) (.t 20)), (some 21), none⟩, ⟨(.mov (.t 21)), (some 5), none⟩] false)) (.region [⟨(.mov (.t 6)), (some 12), none⟩, ⟨(.bin .add (.t 12) (.k (.int .i64 1))), (some 13), none⟩, ⟨(.mov (.t 13)), (some 6), none⟩] false)))
def m162 : MC := (.seq (.region [⟨(.alloc [(.int .i64 0), (.int .i64 0)]), (some 4), none⟩] false) (.seq (.region [⟨.empt, (some 7), none⟩, ⟨(.mov (.t 7)), (some 5), none⟩] false) (.seq (.seq (.region [⟨(.mov (.k (.int .i64 0))), (some 6), none⟩] false) (.block 0 (.loop m162_0))) (.seq (.region [⟨(.mov (.t 0)), (some 22), none⟩, ⟨(.mov (.t 5)), (some 23), none⟩, ⟨(.call 107 [(.t 22), (.t 23)]), (some 24), none⟩, ⟨(.store 2 (.t 4) (.t 24)), none, none⟩] false) .ret))))
theorem has162 : Has cx 162 25 m162 [(.cell 4 (some 2))] :=
  ⟨⟨Try.f162, Try.f162.body.getD .skip, by kernel_rfl, by kernel_rfl, by kernel_rfl, by kernel_rfl, by kernel_rfl, by kernel_rfl⟩⟩
def a3 (fs : List (Int × Int)) : Bool := allF (fun j => !decide ((fs.getD j (0, 0)).1 > 2)) 0 fs.length
section
open Go.RowKit
theorem cell_blk {w : World} {b i : Nat} {cs : Array Value} {t : TypeId} {v : Value} (h : w.heap[b]? = some (.cells cs t (0, 0))) (hv : cs[i]? = some v) : w.cell? ⟨b, i, none⟩ = some v := by simp [World.cell?, h, hv]
theorem free_blk {w : World} {b : Nat} {cs : Array Value} {t : TypeId} (i : Nat) (h : w.heap[b]? = some (.cells cs t (0, 0))) : w.frozen? ⟨b, i, none⟩ = false := by simp [World.frozen?, h]
theorem blk_fr' {w w' : World} {b : Nat} {o : Obj} {row : Option Nat} (h : w.heap[b]? = some o) (hg : w.grownBy w' row) (hr : some b ≠ row) : w'.heap[b]? = some o := by
  have hb : b < w.heap.size := (Array.getElem?_eq_some_iff.mp h).1
  rw [hg.block b hb hr]; exact h
theorem blk_alloc {w : World} {b : Nat} {o : Obj} (x : Obj) (h : w.heap[b]? = some o) : (w.alloc x).heap[b]? = some o := blk_fr' h (World.grownBy_alloc w x none) (by simp)
theorem blk_new (w : World) (o : Obj) : (w.alloc o).heap[w.heap.size]? = some o := by
  show (w.heap.push o)[w.heap.size]? = some o
  rw [Array.getElem?_push, if_pos rfl]
theorem own_shape {w : World} {b : Nat} {e : TypeId} {sz : Nat} {v : Value} {n : Nat} {xs : List Value} (h : w.ownsRow b e sz v n xs) : ∃ o c, v = .slice o n c := by
  rcases h.2 with ⟨rfl, rfl⟩ | ⟨g, cap, cur, rfl, _⟩
  · exact ⟨_, _, rfl⟩
  · exact ⟨_, _, rfl⟩
theorem own_ge {w : World} {b : Nat} {e : TypeId} {sz : Nat} {v : Value} {n : Nat} {xs : List Value} (h : w.ownsRow b e sz v n xs) {k : Nat} (hk : v.ownBlock = some k) : b ≤ k ∧ k < w.heap.size := by
  rcases h.2 with ⟨rfl, rfl⟩ | ⟨g, cap, cur, rfl, hg, hh, _⟩
  · simp [Value.ownBlock] at hk
  · simp only [Value.ownBlock, Option.some.injEq] at hk
    subst hk; exact ⟨hg, lt_of_block hh⟩
theorem set_size (w : World) (a : Addr) (u : Value) : (w.setCell a u).heap.size = w.heap.size := by simp [World.setCell]
theorem two_set1 {w : World} {b : Nat} {x y u : Value} {t : TypeId} (h : w.heap[b]? = some (.cells #[x, y] t (0, 0))) : (w.setCell ⟨b, 1, none⟩ u).heap[b]? = some (.cells #[x, u] t (0, 0)) := by
  have hlt := lt_of_block h
  have h' : w.heap[b] = .cells #[x, y] t (0, 0) := by simpa [Array.getElem?_eq_getElem hlt] using h
  show (w.heap.modify b _)[b]? = _
  rw [Array.getElem?_eq_getElem (by simpa using hlt), Array.getElem_modify_self, h']
  rfl
theorem two_set0 {w : World} {b : Nat} {x y u : Value} {t : TypeId} (h : w.heap[b]? = some (.cells #[x, y] t (0, 0))) : (w.setCell ⟨b, 0, none⟩ u).heap[b]? = some (.cells #[u, y] t (0, 0)) := by
  have hlt := lt_of_block h
  have h' : w.heap[b] = .cells #[x, y] t (0, 0) := by simpa [Array.getElem?_eq_getElem hlt] using h
  show (w.heap.modify b _)[b]? = _
  rw [Array.getElem?_eq_getElem (by simpa using hlt), Array.getElem_modify_self, h']
  rfl
theorem below_grown {w w' : World} (h : Below w.heap.size w w') : w.grownBy w' none := ⟨h.os, h.tape, h.output, h.size, fun k hk _ => h.block k hk⟩
theorem Try.info2 : (Try.prog.info? 2).map (fun i => (i.zero, i.size, i.bytes)) = some (some (.int .i64 0), 1, 8) := by kernel_rfl
theorem one_cell {w : World} {b : Nat} {x : Value} {t : TypeId} (h : w.heap[b]? = some (.cells #[x] t (0, 0))) : ∀ j u, [x][j]? = some u → w.cell? (Addr.add ⟨b, 0, none⟩ j) = some u := by
  intro j u hj
  match j, hj with
  | 0, hj => simp at hj; subst hj; simp [Addr.add]; exact cell_blk h rfl
end

section
open Go.RowKit
def RdB (w : World) (g cp : Nat) (L : List Int) : Prop := ∃ (cs : Array Value) (el : TypeId), w.heap[g]? = some (.cells cs el (0, 0)) ∧ L.length ≤ cp ∧ cp ≤ cs.size ∧ ∀ i, i < L.length → cs[i]? = some (.int .i64 (L.getD i 0))
def RdV (w : World) (b0 : Nat) (v : Value) (L : List Int) : Prop := (L = [] ∧ ∃ o, v = .slice o 0 0) ∨ ∃ g cp, v = .slice (some ⟨g, 0, none⟩) L.length cp ∧ b0 ≤ g ∧ RdB w g cp L
theorem RdB.kept {w w' : World} {g cp : Nat} {L : List Int} {row : Option Nat} (h : RdB w g cp L) (hg : w.grownBy w' row) (hr : some g ≠ row) : RdB w' g cp L := by
  obtain ⟨cs, el, h1, h2⟩ := h
  exact ⟨cs, el, blk_fr' h1 hg hr, h2⟩
theorem RdB.cell {w : World} {g cp : Nat} {L : List Int} (h : RdB w g cp L) {i : Nat} (hi : i < L.length) : w.cell? ⟨g, i, none⟩ = some (.int .i64 (L.getD i 0)) := by
  obtain ⟨cs, el, h1, _, _, h4⟩ := h
  exact cell_blk h1 (h4 i hi)
theorem RdV.kept {w w' : World} {b0 : Nat} {v : Value} {L : List Int} (h : RdV w b0 v L) (hg : w.grownBy w' none) : RdV w' b0 v L := by
  rcases h with h | ⟨g, cp, h1, h2, h3⟩
  · exact .inl h
  · exact .inr ⟨g, cp, h1, h2, h3.kept hg (by simp)⟩
theorem inv00g {ρ : Nat → Nat} (W : World) : Inv ρ (Rcall mp0 [] W) mp0 (fun i => i < ([] : Heap).length) [] W :=
  ⟨fun i b hi => absurd hi (by simp), fun i hi => absurd hi (by simp), fun i j bi bj hi => absurd hi (by simp), fun i b p hi => absurd hi (by simp), fun i b hi => absurd hi (by simp), fun i b hi => absurd hi (by simp), fun r hr o => .inl hr,
    fun i b hi => absurd hi (by simp), fun i b hi => absurd hi (by simp)⟩
theorem keep_grown {W w' : World} (h : Keep (Rcall mp0 [] W) W w') : W.grownBy w' none :=
  ⟨h.os, h.tape, h.output, h.size, fun k hk _ => same_eq (h.blk k hk) fun o ho => by
    rcases ho with ho | ⟨i, b, p, hb, _⟩
    · omega
    · simp at hb⟩
theorem vr_flat {ρ : Nat → Nat} {m : Mp} {r : V} {u : Value} (hr : r.ids = []) (h : VR ρ m r u) : VR ρ mp0 r u := VR.agree (fun i hi => by rw [hr] at hi; simp at hi) h
theorem Ev.callF {C : Cx} {f : Nat} {args : List V} {vs : List Value} {r : V} (h : Ev C f args [] r []) (hv : VRL C.ρ mp0 args vs) (hid : V.idsL args = []) (hr : r.ids = []) (W : World) :
    Calls C.P (C.ρ f) vs.toArray W fun e w' => ∃ u, e = .returned u ∧ VR C.ρ mp0 r u ∧ W.grownBy w' none := by
  refine (h.2 mp0 W vs (inv00g W) hv (by rw [hid]; simp)).mono fun e w' he => ?_
  obtain ⟨u, m', rfl, hq⟩ := he
  exact ⟨u, rfl, vr_flat hr hq.rel, keep_grown hq.keep⟩
theorem Ev.callL {C : Cx} {f : Nat} {args : List V} {vs : List Value} {rs : List V} {n : Nat} {c : List Int} (h : Ev C f args [] (.tup (.sl 0 0 n :: rs)) [⟨zints c, 1, 0, some 0, false⟩]) (hn : n ≤ c.length) (hv : VRL C.ρ mp0 args vs) (hid : V.idsL args = []) (hr : V.idsL rs = []) (W : World) :
    Calls C.P (C.ρ f) vs.toArray W fun e w' => ∃ (v : Value) (us : List Value), e = .returned (.tuple (v :: us).toArray) ∧ VRL C.ρ mp0 rs us ∧ RdV w' W.heap.size v (c.take n) ∧ W.grownBy w' none := by
  refine (h.2 mp0 W vs (inv00g W) hv (by rw [hid]; simp)).mono fun e w' he => ?_
  obtain ⟨u, m', rfl, hq⟩ := he
  have hu := hq.rel
  simp only [VR, VRL] at hu
  obtain ⟨cs, rfl, v, us, hcs, hsl, hus⟩ := hu
  refine ⟨v, us, ?_, VRL.agree (fun i hi => by rw [hr] at hi; simp at hi) hus, ?_, keep_grown hq.keep⟩
  · rw [← hcs]
  · obtain ⟨cells, el, fz, hh, hsz, hes, hle, hget, hfz⟩ := hq.inv.blk 0 _ (by simp) rfl
    have hfz0 := hfz rfl
    subst hfz0
    have hrt := hq.inv.rts 0 _ 0 (by simp) rfl rfl 0 (Nat.le_refl _)
    have hlen : (c.take n).length = n := by rw [List.length_take]; omega
    rcases hsl with ⟨cp, rfl, h1, h2⟩ | ⟨h1, a, rfl⟩
    · right
      refine ⟨m'.b 0, cp, by rw [hlen], ?_, cells, el, hh, by rw [hlen]; exact h1, by rw [hes] at h2; simp only at h2; omega, fun i hi => ?_⟩
      · rcases hrt with h | ⟨i, b, p, hb, _⟩
        · exact h
        · simp at hb
      · rw [hlen] at hi
        obtain ⟨u, hu1, hu2⟩ := hget i (.int .i64 (c.getD i 0)) (by have := zints_get (l := c) (j := i) (by omega); simpa using this)
        simp only [VR] at hu2
        subst hu2
        rw [hu1]
        simp [List.getD_eq_getElem?_getD, List.getElem?_take, hi]
    · left
      exact ⟨List.eq_nil_of_length_eq_zero (by rw [hlen]; exact h1), _, rfl⟩
theorem Ev.callA {C : Cx} {f : Nat} {args : List V} {vs : List Value} {r : V} {c : List Int} {g cp : Nat} (h : Ev C f args [⟨zints c, 1, 0, some 0, false⟩] r [⟨zints c, 1, 0, some 0, false⟩]) (W : World) (hb : RdB W g cp c)
    (hv : ∀ sz, cp ≤ sz → VRL C.ρ ⟨fun _ => g, fun _ => sz, fun _ => 1⟩ args vs) (hid : ∀ i ∈ V.idsL args, i < 1) (hr : r.ids = []) :
    Calls C.P (C.ρ f) vs.toArray W fun e w' => ∃ u, e = .returned u ∧ VR C.ρ mp0 r u ∧ RdB w' g cp c ∧ W.grownBy w' (some g) := by
  obtain ⟨cs, el, h1, h2, h3, h4⟩ := hb
  have hl : ([⟨zints c, 1, 0, some 0, false⟩] : Heap).length = 1 := rfl
  have one : ∀ (i : Nat) (b : Blk), i < 1 → [(⟨zints c, 1, 0, some 0, false⟩ : Blk)][i]? = some b → i = 0 ∧ b = ⟨zints c, 1, 0, some 0, false⟩ := fun i b hi hb => by
    obtain rfl : i = 0 := by omega
    simp at hb; exact ⟨rfl, hb.symm⟩
  have hatom : (zints c).all V.atom = true := by simp [zints, V.atom]
  have hids : V.idsL (zints c) = [] := by
    clear h one h2 h3 h4 hatom hr hv hl
    induction c with
    | nil => rfl
    | cons x xs ih =>
      show V.idsL (.int .i64 x :: zints xs) = []
      simp only [V.idsL, V.ids, List.nil_append]; exact ih
  have hI : Inv C.ρ (Rcall ⟨fun _ => g, fun _ => cs.size, fun _ => 1⟩ [⟨zints c, 1, 0, some 0, false⟩] W) ⟨fun _ => g, fun _ => cs.size, fun _ => 1⟩ (fun i => i < ([⟨zints c, 1, 0, some 0, false⟩] : Heap).length) [⟨zints c, 1, 0, some 0, false⟩] W := by
    refine ⟨?_, ?_, ?_, ?_, ?_, ?_, ?_, ?_, ?_⟩
    · intro i b hi hb
      obtain ⟨rfl, rfl⟩ := one i b hi hb
      refine ⟨cs, el, (0, 0), h1, rfl, rfl, by rw [zints_len]; omega, fun j v hj => ?_, fun _ => rfl⟩
      have hj1 : j < c.length := by
        have := (List.getElem?_eq_some_iff.mp hj).1
        rwa [zints_len, Nat.mul_one] at this
      have hz := zints_get (l := c) (j := j) hj1
      rw [show 0 + j * 1 = j by omega, hj] at hz
      obtain rfl := Option.some.inj hz
      exact ⟨_, h4 j hj1, by simp only [VR]⟩
    · intro i hi
      obtain rfl : i = 0 := by simp at hi; omega
      exact ⟨_, rfl⟩
    · intro i j bi bj hi hj hbi hbj _
      obtain ⟨_, rfl⟩ := one i bi hi hbi
      obtain ⟨_, rfl⟩ := one j bj hj hbj
      rfl
    · intro i b p hi hb hp o ho
      obtain ⟨rfl, rfl⟩ := one i b hi hb
      exact .inr ⟨0, _, p, rfl, hp, rfl, ho⟩
    · intro i b hi hb _
      obtain ⟨rfl, rfl⟩ := one i b hi hb
      exact hids
    · intro i b hi hb j hj
      obtain ⟨rfl, rfl⟩ := one i b hi hb
      rw [hids] at hj; simp at hj
    · exact fun r hr o => .inl hr
    · intro i b hi hb
      obtain ⟨rfl, rfl⟩ := one i b hi hb
      simp
    · intro i b hi hb _
      obtain ⟨rfl, rfl⟩ := one i b hi hb
      exact hatom
  refine (h.2 _ W vs hI (hv _ h3) (by simpa using hid)).mono fun e w' he => ?_
  obtain ⟨u, m', rfl, hq⟩ := he
  have hs := hq.same 0 (by simp)
  have hg' : m'.b 0 = g := hs.1
  obtain ⟨cells, el', fz, hh, hsz, hes, hle, hget, hfz⟩ := hq.inv.blk 0 _ (by simp) rfl
  have hfz0 := hfz rfl
  subst hfz0
  rw [hg'] at hh
  have hszz : cells.size = cs.size := by rw [hsz, hs.2.1]
  refine ⟨u, rfl, vr_flat hr hq.rel, ⟨cells, el', hh, h2, by omega, fun i hi => ?_⟩, hq.keep.os, hq.keep.tape, hq.keep.output, hq.keep.size, fun k hk hne => same_eq (hq.keep.blk k hk) fun o ho => ?_⟩
  · obtain ⟨u, hu1, hu2⟩ := hget i (.int .i64 (c.getD i 0)) (by have := zints_get (l := c) (j := i) hi; simpa using this)
    simp only [VR] at hu2
    subst hu2; exact hu1
  · rcases ho with ho | ⟨i, b, p, hb, _, hgk, _⟩
    · omega
    · exact hne (by rw [← hgk])
end

section
open Go.RowKit Go.IntWalk
def Src (w : World) (sb : Nat) : Prop := ∃ (oc : Option Addr) (n cc a : Nat) (h : Int), w.heap[sb]? = some (.cells #[.slice oc n cc, .int .i64 a, .int .u64 h] 131 (0, 0)) ∧ n ≤ 4096 ∧ a ≤ n ∧ (0 < n → ∃ g o : Nat, oc = some ⟨g, o, none⟩ ∧ g < sb ∧ ∀ i, i < n → ∃ x : Nat, x < 256 ∧ w.cell? ⟨g, o + i, none⟩ = some (.int .u8 x))
theorem Src.kept {w w' : World} {sb : Nat} {row : Option Nat} (h : Src w sb) (hg : w.grownBy w' row) (hr : ∀ k, row = some k → sb < k) : Src w' sb := by
  obtain ⟨oc, n, cc, a, hh, h1, h2, h3, h4⟩ := h
  refine ⟨oc, n, cc, a, hh, blk_fr' h1 hg (fun he => by have := hr _ he.symm; omega), h2, h3, fun hn => ?_⟩
  obtain ⟨g, o, h5, h6, h7⟩ := h4 hn
  refine ⟨g, o, h5, h6, fun i hi => ?_⟩
  obtain ⟨x, hx, hc⟩ := h7 i hi
  exact ⟨x, hx, hg.cell hc (fun he => by have := hr _ he.symm; simp at this; omega)⟩
theorem set_grown (w : World) (a : Addr) (u : Value) : w.grownBy (w.setCell a u) (some a.block) := ⟨rfl, rfl, rfl, by rw [set_size]; exact Nat.le_refl _, fun k hk hne => Below.heap_setCell _ _ _ _ (fun e => hne (by rw [e]))⟩
theorem three_set {w : World} {b : Nat} {x0 x1 x2 u : Value} {t : TypeId} (h : w.heap[b]? = some (.cells #[x0, x1, x2] t (0, 0))) :
    (w.setCell ⟨b, 1, none⟩ u).heap[b]? = some (.cells #[x0, u, x2] t (0, 0)) ∧ (w.setCell ⟨b, 2, none⟩ u).heap[b]? = some (.cells #[x0, x1, u] t (0, 0)) := by
  have hlt := lt_of_block h
  have h' : w.heap[b] = .cells #[x0, x1, x2] t (0, 0) := by simpa [Array.getElem?_eq_getElem hlt] using h
  refine ⟨?_, ?_⟩
  all_goals
    show (w.heap.modify b _)[b]? = _
    rw [Array.getElem?_eq_getElem (by simpa using hlt), Array.getElem_modify_self, h']
    rfl
theorem mask_w (z : Int) : ∃ X : Nat, X ≤ 16777215 ∧ bits .and .u64 z 16777215 = (X : Int) := by
  have h : (BitVec.ofInt IntKind.u64.bits z &&& BitVec.ofInt IntKind.u64.bits 16777215).toNat ≤ 16777215 := by
    rw [BitVec.toNat_and]; exact Nat.and_le_right
  refine ⟨_, h, ?_⟩
  show IntKind.wrap .u64 (((BitVec.ofInt IntKind.u64.bits z &&& BitVec.ofInt IntKind.u64.bits 16777215).toNat : Nat) : Int) = _
  generalize (BitVec.ofInt IntKind.u64.bits z &&& BitVec.ofInt IntKind.u64.bits 16777215).toNat = y at h
  exact w_u64 (by omega) (by omega)
theorem tmod_w {X k : Int} (h0 : 0 ≤ X) (hk : 1 ≤ k) : ∃ y : Nat, X.tmod k = (y : Int) ∧ (y : Int) < k := by
  have h1 := Int.tmod_nonneg k h0
  have h2 := Int.tmod_lt_of_pos X (show 0 < k by omega)
  obtain ⟨y, hy⟩ := Int.eq_ofNat_of_zero_le h1
  exact ⟨y, hy, by omega⟩
theorem drew_gr (w : World) : w.grownBy w.drew none := ⟨rfl, rfl, rfl, Nat.le_refl _, fun _ _ _ => rfl⟩
theorem gr_some {w w' : World} {k : Nat} (h : w.grownBy w' none) : w.grownBy w' (some k) := ⟨h.os, h.tape, h.output, h.size, fun j hj _ => h.block j hj (by simp)⟩
theorem grown_t2 {a b c : World} {row : Option Nat} (h1 : a.grownBy b row) (h2 : b.grownBy c row) : a.grownBy c row :=
  ⟨h2.os.trans h1.os, h2.tape.trans h1.tape, h2.output.trans h1.output, Nat.le_trans h1.size h2.size, fun k hk hne => (h2.block k (Nat.lt_of_lt_of_le hk h1.size) hne).trans (h1.block k hk hne)⟩
theorem next_any (sb : Nat) (k : Int) (hk : 1 ≤ k) (hk2 : k ≤ 4611686018427387904) (w : World) (hs : Src w sb) : Calls Try.prog 120 #[.pointer (some ⟨sb, 0, none⟩), .int .i64 k] w fun e w' => ∃ x : Nat, e = .returned (.int .i64 x) ∧ (x : Int) < k ∧ Src w' sb ∧ w.grownBy w' (some sb) := by
  obtain ⟨oc, n, cc, a, h, h1, h2, h3, h4⟩ := hs
  have c0 := cell_blk (i := 0) (v := .slice oc n cc) h1 rfl
  have c1 := cell_blk (i := 1) (v := .int .i64 a) h1 rfl
  have c2 := cell_blk (i := 2) (v := .int .u64 h) h1 rfl
  have f1 := free_blk 1 h1
  have f2 := free_blk 2 h1
  go_enter Try.func120, Try.ntmps120
  go_wp2_with fail
  generalize IntKind.u64.wrap (IntKind.u64.wrap (h * 6364136223846793005) + 1442695040888963407) = h'
  obtain ⟨X, hX, hXe⟩ := mask_w (h' / 8589934592)
  have b1 := (three_set (u := .int .u64 h') h1).2
  have g1 : w.grownBy (w.setCell ⟨sb, 2, none⟩ (.int .u64 h')) (some sb) := set_grown w ⟨sb, 2, none⟩ _
  have h4' : 0 < n → ∃ g o : Nat, oc = some ⟨g, o, none⟩ ∧ g < sb ∧ ∀ i, i < n → ∃ x : Nat, x < 256 ∧ (w.setCell ⟨sb, 2, none⟩ (.int .u64 h')).cell? ⟨g, o + i, none⟩ = some (.int .u8 x) := fun hn => by
    obtain ⟨g, o, h5, h6, h7⟩ := h4 hn
    refine ⟨g, o, h5, h6, fun i hi => ?_⟩
    obtain ⟨x, hx, hc⟩ := h7 i hi
    exact ⟨x, hx, g1.cell hc (by simp; omega)⟩
  generalize w.setCell ⟨sb, 2, none⟩ (.int .u64 h') = w1 at *
  have d0 := cell_blk (i := 0) (v := .slice oc n cc) b1 rfl
  have d1 := cell_blk (i := 1) (v := .int .i64 a) b1 rfl
  clear c0 c1 c2 f1 f2 h1 h4
  have e1 := free_blk 1 b1
  have hsrc : ∀ (W : World) (row : Option Nat) (a' : Nat), W.heap[sb]? = some (.cells #[.slice oc n cc, .int .i64 a', .int .u64 h'] 131 (0, 0)) → a' ≤ n → w1.grownBy W (some sb) → Src W sb := fun W row a' hb ha hg => by
    refine ⟨oc, n, cc, a', h', hb, h2, ha, fun hn => ?_⟩
    obtain ⟨g, o, h5, h6, h7⟩ := h4' hn
    refine ⟨g, o, h5, h6, fun i hi => ?_⟩
    obtain ⟨x, hx, hc⟩ := h7 i hi
    exact ⟨x, hx, hg.cell hc (by simp; omega)⟩
  rw [hXe, show wrap64 (X : Int) = X from wrap64_in _ (by omega)]
  have gd1 := drew_gr w1
  have gd2 := drew_gr w1.drew
  by_cases han : a < n
  · obtain ⟨g, o, rfl, h6, h7⟩ := h4' (by omega)
    obtain ⟨x, hx, hc⟩ := h7 a han
    obtain ⟨y, hy, hyk⟩ := tmod_w (show 0 ≤ (X : Int) + (x : Int) by omega) hk
    go_region
    all_goals go_wp2_with fail
    have b2 := blk_fr' (blk_fr' b1 gd1 (by simp)) gd2 (by simp)
    have q0 := cell_blk (i := 0) (v := .slice (some ⟨g, o, none⟩) n cc) (blk_fr' b1 gd1 (by simp)) rfl
    have q1 := cell_blk (i := 1) (v := .int .i64 a) (blk_fr' b1 gd1 (by simp)) rfl
    have qc := gd1.cell hc (by simp)
    have r1 := cell_blk (i := 1) (v := .int .i64 a) b2 rfl
    have r1f := free_blk 1 b2
    go_region
    all_goals go_wp2_with fail
    all_goals go_ret
    all_goals
      have b3 := (three_set (u := .int .i64 ((a + 1 : Nat) : Int)) b1).1
      have g3 : w1.grownBy (w1.setCell ⟨sb, 1, none⟩ (.int .i64 ((a + 1 : Nat) : Int))) (some sb) := set_grown w1 ⟨sb, 1, none⟩ _
      have g4 := grown_t2 g3 (grown_t2 (gr_some (drew_gr _)) (gr_some (drew_gr _)))
      exact ⟨y, rfl, hyk, hsrc _ none (a + 1) (blk_fr' (blk_fr' b3 (drew_gr _) (by simp)) (drew_gr _) (by simp)) (by omega) g4, grown_t2 g1 g4⟩
  · obtain ⟨y, hy, hyk⟩ := tmod_w (show 0 ≤ (X : Int) by omega) hk
    go_region
    all_goals go_wp2_with fail
    all_goals go_ret
    all_goals exact ⟨y, rfl, hyk, hsrc _ none a (blk_fr' b1 gd1 (by simp)) h3 (gr_some gd1), grown_t2 g1 (gr_some gd1)⟩
end

section
open Go.RowKit Go.IntWalk
theorem pick_any (sb g cp n : Nat) (P : Int → Prop) (hL : 0 < n) (hL2 : n ≤ 64) (hne : sb < g) (w : World) (hs : Src w sb) (hc : ∀ i, i < n → ∃ z, P z ∧ w.cell? ⟨g, i, none⟩ = some (.int .i64 z)) :
    Calls Try.prog 121 #[.pointer (some ⟨sb, 0, none⟩), .slice (some ⟨g, 0, none⟩) n cp] w fun e w' => ∃ x, P x ∧ e = .returned (.int .i64 x) ∧ Src w' sb ∧ w.grownBy w' (some sb) := by
  go_enter Try.func121, Try.ntmps121
  go_wp2_with (first
    | (go_at_call 120; refine (next_any sb _ (by omega) (by omega) _ hs).mono ?_; rintro e w1 ⟨x, rfl, hx, hs1, hg1⟩; obtain ⟨z, hz, hcz⟩ := hc x (by omega); have hck := hg1.cell hcz (by simp; omega); have hxn : x < n := (by omega))
    | fail)
  go_ret
  exact ⟨z, hz, rfl, hs1, hg1⟩
theorem list_cells {w : World} {L : List Value} {T : TypeId} (h : ∀ v ∈ L, ∃ z : Int, v = .int .i64 z) : ∀ i, i < L.length → ∃ z : Int, True ∧ (w.alloc (.cells L.toArray T (0, 0))).cell? ⟨w.heap.size, i, none⟩ = some (.int .i64 z) := fun i hi => by
  obtain ⟨z, hz⟩ := h L[i] (List.getElem_mem _)
  exact ⟨z, trivial, cell_blk (blk_new _ _) (by rw [← hz]; simp [hi])⟩
theorem list_cellsD {w : World} {L : List Value} {T : TypeId} (h : ∀ v ∈ L, ∃ z : Int, v = .int .i64 z) : ∀ i, i < L.length → ∃ z : Int, True ∧ ((w.alloc (.cells L.toArray T (0, 0))).drew).cell? ⟨w.heap.size, i, none⟩ = some (.int .i64 z) := fun i hi => by
  obtain ⟨z, _, hz⟩ := list_cells (T := T) (w := w) h i hi
  exact ⟨z, trivial, (drew_gr _).cell hz (by simp)⟩
theorem grown_up {a b c : World} {sb k : Nat} (h1 : a.grownBy b (some sb)) (h2 : b.grownBy c (some k)) (hk : a.heap.size ≤ k) : a.grownBy c (some sb) :=
  ⟨h2.os.trans h1.os, h2.tape.trans h1.tape, h2.output.trans h1.output, Nat.le_trans h1.size h2.size, fun j hj hne => (h2.block j (Nat.lt_of_lt_of_le hj h1.size) (fun e => by cases e; omega)).trans (h1.block j hj hne)⟩
theorem results_c1 {fn : Func} {p : Tmp} (h : fn.results = #[.cell p 25]) (tmps : Array Value) (w : World) (g : Nat) (e : TypeId) (cs : Array Value) (fr : Nat × Nat)
    (hp : tmps.getD p undef = .pointer (some ⟨g, 0, none⟩)) (hg : w.heap[g]? = some (.cells cs e fr)) (hi : cs.size = 2) : (results fn tmps).run Try.prog w = .ok (.agg cs) w :=
  results_cell_row h tmps w g e cs fr _ hp hg Try.underlying25 rfl (by rw [show (Try.prog.info? 25).map (·.size) = some 2 by kernel_rfl, hi])
theorem sall_any (n : Nat) (hn : n ≤ 4) (W : World) : Calls Try.prog 130 #[.int .i64 n] W fun e w' => e = .returned (.int .i64 ((R2 (R2 n) : Nat) - 1)) ∧ W.grownBy w' none := by
  refine (Ev.callF (vs := [.int .i64 n]) (ev130 n hn) (by simp only [VR, VRL]; exact ⟨_, _, rfl, rfl, rfl⟩) (by simp [V.idsL, V.ids]) (by simp [V.ids]) W).mono ?_
  rintro e w' ⟨u, rfl, hu, hg⟩
  simp only [VR] at hu; subst hu
  exact ⟨rfl, hg⟩
theorem bad_any (sb n : Nat) (t : Int) (hn : n ≤ 4) (w : World) (hs : Src w sb) (hsb : sb < w.heap.size) :
    Calls Try.prog 144 #[.pointer (some ⟨sb, 0, none⟩), .agg #[.int .i64 n, .int .i64 t]] w fun e w' => ∃ p q : Int, e = .returned (.agg #[.int .i64 p, .int .i64 q]) ∧ Src w' sb ∧ w.grownBy w' (some sb) := by
  obtain ⟨h16, hh2, h3, h4⟩ := shN hn
  have hR := hh2
  generalize hRR : R2 (R2 n) = R at *
  have gA : w.grownBy ((w.alloc (.cells #[.int .i64 n, .int .i64 t] 25 (0, 0))).alloc (.cells #[.int .i64 0, .int .i64 0] 25 (0, 0))) none := grown_t2 (World.grownBy_alloc _ _ none) (World.grownBy_alloc _ _ none)
  have bA := blk_alloc (.cells #[.int .i64 0, .int .i64 0] 25 (0, 0)) (blk_new w (.cells #[.int .i64 n, .int .i64 t] 25 (0, 0)))
  have bB := blk_new (w.alloc (.cells #[.int .i64 n, .int .i64 t] 25 (0, 0))) (.cells #[.int .i64 0, .int .i64 0] 25 (0, 0))
  have hz : (w.alloc (.cells #[.int .i64 n, .int .i64 t] 25 (0, 0))).heap.size = w.heap.size + 1 := by simp
  rw [hz] at bB
  have hsA := hs.kept gA (by simp)
  go_enter Try.func144, Try.ntmps144
  go_wp2_with fail
  generalize (w.alloc (.cells #[.int .i64 n, .int .i64 t] 25 (0, 0))).alloc (.cells #[.int .i64 0, .int .i64 0] 25 (0, 0)) = wA at *
  refine (next_any sb 50 (by omega) (by omega) _ hsA).mono ?_
  rintro e w1 ⟨x, rfl, hx, hs1, hg1⟩
  have b1 := blk_fr' bA hg1 (by simp; omega)
  have b2 := blk_fr' bB hg1 (by simp; omega)
  have hgw1 := grown_t2 (gr_some gA) hg1
  have hz1 := hgw1.size
  have c10 := cell_blk (i := 0) (v := .int .i64 n) b1 rfl
  have c11 := cell_blk (i := 1) (v := .int .i64 t) b1 rfl
  have c20 := cell_blk (i := 0) (v := .int .i64 0) b2 rfl
  have c21 := cell_blk (i := 1) (v := .int .i64 0) b2 rfl
  have f20 := free_blk 0 b2
  have f21 := free_blk 1 b2
  clear hs hsA gA bA bB hg1 hz
  go_wp2_with fail
  · have gD : w1.grownBy (w1.alloc (.cells #[.int .i64 (-1), .int .i64 5, .int .i64 1099511627776] 2 (0, 0))).drew none := grown_t2 (World.grownBy_alloc _ _ none) (drew_gr _)
    have hsD := hs1.kept gD (by simp)
    have hcD := list_cellsD (w := w1) (T := 2) (L := [.int .i64 (-1), .int .i64 5, .int .i64 1099511627776]) (by simp)
    have b1D := blk_fr' b1 gD (by simp)
    have b2D := blk_fr' b2 gD (by simp)
    have q11 := cell_blk (i := 1) (v := .int .i64 t) b1D rfl
    have q11' := cell_blk (i := 1) (v := .int .i64 t) (blk_fr' b1 (drew_gr _) (by simp)) rfl
    go_region_with (go_at_call 121; refine (pick_any sb w1.heap.size 3 3 (fun _ => True) (by omega) (by omega) (by omega) _ hsD hcD).mono ?_; rintro e w2 ⟨z, _, rfl, hs2, hg2⟩; have b1E := blk_fr' b1D hg2 (by simp; omega); have b2E := blk_fr' b2D hg2 (by simp; omega); have r11 := cell_blk (i := 1) (v := .int .i64 t) b1E rfl; have r20 := cell_blk (i := 0) (v := .int .i64 0) b2E rfl; have r21 := cell_blk (i := 1) (v := .int .i64 0) b2E rfl; have s20 := free_blk 0 b2E; have s21 := free_blk 1 b2E)
    all_goals go_wp2_with fail
    all_goals
      refine bodyPost_ret (results_c1 rfl _ _ (w.heap.size + 1) 25 #[.int .i64 z, .int .i64 t] (0, 0) rfl (two_set1 (two_set0 b2E)) rfl) rfl ?_
      have k1 := set_grown w2 ⟨w.heap.size + 1, 0, none⟩ (.int .i64 z)
      have k2 := set_grown (w2.setCell ⟨w.heap.size + 1, 0, none⟩ (.int .i64 z)) ⟨w.heap.size + 1, 1, none⟩ (.int .i64 t)
      exact ⟨_, _, rfl, (hs2.kept k1 (fun k hk => by cases hk; simp; omega)).kept k2 (fun k hk => by cases hk; simp; omega), grown_up (grown_t2 (grown_t2 hgw1 (gr_some gD)) hg2) (grown_t2 k1 k2) (by simp)⟩
  · have q10' := cell_blk (i := 0) (v := .int .i64 n) (blk_fr' b1 (drew_gr _) (by simp)) rfl
    have hsz1 : w1.drew.heap.size = w1.heap.size := rfl
    have hwR : IntKind.i64.wrap (R : Int) = (R : Int) := wrap_id (by omega) (by omega)
    go_region_with (first
      | (go_at_call 130; refine (sall_any n hn _).mono ?_; rw [hRR]; rintro e w2 ⟨rfl, hgA⟩; have b1A := blk_fr' (blk_fr' b1 (drew_gr _) (by simp)) hgA (by simp); have b2A := blk_fr' (blk_fr' b2 (drew_gr _) (by simp)) hgA (by simp); have t10 := cell_blk (i := 0) (v := .int .i64 n) b1A rfl; have hsA := (hs1.kept (drew_gr _) (by simp)).kept hgA (by simp); have hsB := hsA.kept (World.grownBy_alloc w2 (.cells #[.int .i64 (-1), .int .i64 R, .int .i64 1099511627776] 2 (0, 0)) none) (by simp); have hcB := list_cells (w := w2) (T := 2) (L := [.int .i64 (-1), .int .i64 R, .int .i64 1099511627776]) (by simp); have b1B := blk_alloc (.cells #[.int .i64 (-1), .int .i64 R, .int .i64 1099511627776] 2 (0, 0)) b1A; have b2B := blk_alloc (.cells #[.int .i64 (-1), .int .i64 R, .int .i64 1099511627776] 2 (0, 0)) b2A; have u10 := cell_blk (i := 0) (v := .int .i64 n) b1B rfl; have hzA := hgA.size)
      | (go_at_call 121; refine (pick_any sb w2.heap.size 3 3 (fun _ => True) (by omega) (by omega) (by omega) _ hsB hcB).mono ?_; rintro e w3 ⟨z, _, rfl, hs3, hg3⟩; have b1F := blk_fr' b1B hg3 (by simp; omega); have b2F := blk_fr' b2B hg3 (by simp; omega); have r10 := cell_blk (i := 0) (v := .int .i64 n) b1F rfl; have r20 := cell_blk (i := 0) (v := .int .i64 0) b2F rfl; have r21 := cell_blk (i := 1) (v := .int .i64 0) b2F rfl; have s20 := free_blk 0 b2F; have s21 := free_blk 1 b2F))
    all_goals go_wp2_with fail
    all_goals
      refine bodyPost_ret (results_c1 rfl _ _ (w.heap.size + 1) 25 #[.int .i64 n, .int .i64 z] (0, 0) rfl (two_set1 (two_set0 b2F)) rfl) rfl ?_
      have k1 := set_grown w3 ⟨w.heap.size + 1, 0, none⟩ (.int .i64 (n : Int))
      have k2 := set_grown (w3.setCell ⟨w.heap.size + 1, 0, none⟩ (.int .i64 (n : Int))) ⟨w.heap.size + 1, 1, none⟩ (.int .i64 z)
      exact ⟨_, _, rfl, (hs3.kept k1 (fun k hk => by cases hk; simp; omega)).kept k2 (fun k hk => by cases hk; simp; omega), grown_up (grown_t2 (grown_t2 hgw1 (gr_some (grown_t2 (drew_gr w1) (grown_t2 hgA (World.grownBy_alloc w2 (.cells #[.int .i64 (-1), .int .i64 R, .int .i64 1099511627776] 2 (0, 0)) none))))) hg3) (grown_t2 k1 k2) (by simp)⟩
  · refine bodyPost_ret (results_c1 rfl _ _ (w.heap.size + 1) 25 #[.int .i64 n, .int .i64 t] (0, 0) rfl (two_set1 (two_set0 b2)) rfl) rfl ?_
    have g1 := set_grown w1 ⟨w.heap.size + 1, 0, none⟩ (.int .i64 (n : Int))
    have g2 := set_grown (w1.setCell ⟨w.heap.size + 1, 0, none⟩ (.int .i64 (n : Int))) ⟨w.heap.size + 1, 1, none⟩ (.int .i64 t)
    exact ⟨n, t, rfl, (hs1.kept g1 (fun k hk => by cases hk; simp; omega)).kept g2 (fun k hk => by cases hk; simp; omega), grown_up hgw1 (grown_t2 g1 g2) (by simp)⟩
end

section
open Go.RowKit Go.IntWalk
theorem from_any (oc : Option Addr) (n cc : Nat) (hn : n ≤ 4096) (w : World) (hb : 0 < n → ∃ g o : Nat, oc = some ⟨g, o, none⟩ ∧ g < w.heap.size ∧ ∀ i, i < n → ∃ x : Nat, x < 256 ∧ w.cell? ⟨g, o + i, none⟩ = some (.int .u8 x)) :
    Calls Try.prog 94 #[.slice oc n cc] w fun e w' => ∃ sb, e = .returned (.pointer (some ⟨sb, 0, none⟩)) ∧ w.heap.size ≤ sb ∧ sb < w'.heap.size ∧ Src w' sb ∧ w.grownBy w' none := by
  go_enter Try.func94, Try.ntmps94
  go_wp2_with fail
  have hB : ∀ z : Int, (w.alloc (.cells #[.slice oc n cc, .int .i64 0, .int .u64 z] 131 (0, 0))).heap[w.heap.size]? = some (.cells #[.slice oc n cc, .int .i64 0, .int .u64 z] 131 (0, 0)) := fun z => blk_new _ _
  go_loopw [4] (fun i wr => ∃ (k : Nat) (h : Int), i = .int .i64 k ∧ k ≤ n ∧ wr.heap[w.heap.size]? = some (.cells #[.slice oc n cc, .int .i64 0, .int .u64 h] 131 (0, 0)) ∧ w.grownBy wr none ∧ w.heap.size < wr.heap.size) (fun i _ => n - (intOf i).toNat)
  case atStart => exact ⟨0, _, rfl, Nat.zero_le _, hB _, World.grownBy_alloc _ _ _, by simp⟩
  case round =>
    obtain ⟨k, h, rfl, hk, hbk, hgr, hsz⟩ := hrel
    by_cases hkn : k < n
    · obtain ⟨g, o, rfl, hg, hc⟩ := hb (by omega)
      obtain ⟨x, hx, hcx⟩ := hc k hkn
      have hck := hgr.cell hcx (by simp)
      have b1 := blk_fr' hbk (drew_gr wr) (by simp)
      have c2 := cell_blk (i := 2) (v := .int .u64 h) b1 rfl
      have f2 := free_blk 2 b1
      have hckd := (drew_gr wr).cell hck (by simp)
      go_wp2_with fail
      go_region
      all_goals go_wp2_with fail
      all_goals
        go_roundw
        case rel =>
          refine ⟨k + 1, IntKind.u64.wrap (IntKind.u64.wrap (IntKind.u64.wrap (h * 1099511628211) + ↑x) + 149), by go_num, by omega, ?_, ?_, ?_⟩
          · first
              | exact (three_set b1).2
              | exact blk_fr' (three_set hbk).2 (drew_gr _) (by simp)
          · first
              | exact below_grown ((((Below.refl w.heap.size w).grown hgr (Nat.le_refl _) (fun k hk => by cases hk)).drew).setCell (by simp) _)
              | exact below_grown ((((Below.refl w.heap.size w).grown hgr (Nat.le_refl _) (fun k hk => by cases hk)).setCell (by simp) _).drew)
          · first
              | (rw [set_size]; exact hsz)
              | (show _ < (wr.setCell _ _).heap.size; rw [set_size]; exact hsz)
        case measure => simp [intOf]; omega
    · obtain rfl : k = n := by omega
      go_wp2_with fail
      go_ret
      refine ⟨_, rfl, Nat.le_refl _, hsz, ⟨oc, k, cc, 0, h, hbk, hn, Nat.zero_le _, fun hn => ?_⟩, hgr⟩
      obtain ⟨g, o, h5, h6, h7⟩ := hb hn
      refine ⟨g, o, h5, h6, fun i hi => ?_⟩
      obtain ⟨x, hx, hc⟩ := h7 i hi
      exact ⟨x, hx, hgr.cell hc (by simp)⟩
def IntsR (w : World) (b : Nat) (v : Value) (n : Nat) : Prop := ∃ xs : List Value, w.ownsRow b 2 1 v n xs ∧ ∀ x ∈ xs, ∃ z : Int, x = .int .i64 z
theorem IntsR.kept {w w' : World} {b n : Nat} {v : Value} {row : Option Nat} (h : IntsR w b v n) (hg : w.grownBy w' row) (hr : ∀ k, row = some k → k < b) : IntsR w' b v n := by
  obtain ⟨xs, h1, h2⟩ := h
  refine ⟨xs, h1.kept hg ?_, h2⟩
  cases hv : v.ownBlock with
  | none => exact .inl rfl
  | some g => exact .inr fun he => by have := (own_ge h1 hv).1; have := hr g he.symm; omega
theorem IntsR.snoc {b n : Nat} {v' : Value} {w' : World} {xs : List Value} {z : Int} (h2 : ∀ x ∈ xs, ∃ z : Int, x = .int .i64 z) (h : w'.ownsRow b 2 1 v' (n + 1) (xs ++ [.int .i64 z])) : IntsR w' b v' (n + 1) :=
  ⟨_, h, fun x hx => by
    rcases List.mem_append.mp hx with h | h
    · exact h2 x h
    · simp at h; exact ⟨z, h⟩⟩
theorem own_cellsR {w : World} {b : Nat} {e : TypeId} {g cap n : Nat} {xs : List Value} (h : w.ownsRow b e 1 (.slice (some ⟨g, 0, none⟩) n cap) n xs) {j : Nat} (hj : j < n) : w.cell? ⟨g, j, none⟩ = some (xs.getD j undef) := by
  have hl := h.1
  rcases h.2 with ⟨h1, _⟩ | ⟨g', cap', cur, hv, hg, hh, h1, h2, h3, h4⟩
  · simp at h1
  · simp only [Value.slice.injEq, Option.some.injEq, Addr.mk.injEq] at hv
    obtain ⟨⟨rfl, _⟩, _, rfl⟩ := hv
    subst h4
    refine cell_blk hh ?_
    rw [List.getD_eq_getElem?_getD, List.getElem?_take, if_pos (by omega), Array.getElem?_toList]
    rw [Array.getElem?_eq_getElem (by omega)]; rfl
theorem IntsR.read {w : World} {b n : Nat} {v : Value} (h : IntsR w b v n) (hn : 0 < n) : ∃ g cp, v = .slice (some ⟨g, 0, none⟩) n cp ∧ b ≤ g ∧ g < w.heap.size ∧ ∀ i, i < n → ∃ z : Int, w.cell? ⟨g, i, none⟩ = some (.int .i64 z) := by
  obtain ⟨xs, h1, h2⟩ := h
  rcases h1.2 with ⟨_, h3⟩ | ⟨g, cap, cur, rfl, hg, hh, _⟩
  · omega
  · refine ⟨g, cap, rfl, hg, lt_of_block hh, fun i hi => ?_⟩
    have hl := h1.1
    have hm : xs.getD i undef ∈ xs := by rw [List.getD_eq_getElem?_getD, List.getElem?_eq_getElem (by omega)]; exact List.getElem_mem _
    obtain ⟨z, hz⟩ := h2 _ hm
    exact ⟨z, by rw [own_cellsR h1 hi, hz]⟩
theorem srows_anyd (n : Nat) (hn : n ≤ 4) (W : World) : Calls Try.prog 106 #[.int .i64 n] W fun e w' => e = .returned (.int .i64 (R2 n : Nat)) ∧ W.grownBy w' none := by
  refine (Ev.callF (vs := [.int .i64 n]) (ev106 n hn) (by simp only [VR, VRL]; exact ⟨_, _, rfl, rfl, rfl⟩) (by simp [V.idsL, V.ids]) (by simp [V.ids]) W).mono ?_
  rintro e w' ⟨u, rfl, hu, hg⟩
  simp only [VR] at hu; subst hu
  exact ⟨rfl, hg⟩
theorem of_any (n b : Nat) (v : Value) (hn : n ≤ 4) (w : World) (hv : IntsR w b v (R2 n)) :
    Calls Try.prog 107 #[.int .i64 n, v] w fun e w' => ∃ q : Int, e = .returned (.agg #[.int .i64 n, .int .i64 q]) ∧ w.grownBy w' none := by
  obtain ⟨h16, hh2, h3, h4⟩ := shN hn
  obtain ⟨g, cp, rfl, hbg, hgl, hc⟩ := hv.read (by omega)
  generalize hR : R2 n = R at *
  go_enter Try.func107, Try.ntmps107
  have bA := blk_alloc (.cells #[.int .i64 n, .int .i64 0] 25 (0, 0)) (blk_new w (.cells #[.int .i64 0, .int .i64 0] 25 (0, 0)))
  have bB := blk_new (w.alloc (.cells #[.int .i64 0, .int .i64 0] 25 (0, 0))) (.cells #[.int .i64 n, .int .i64 0] 25 (0, 0))
  rw [show (w.alloc (.cells #[.int .i64 0, .int .i64 0] 25 (0, 0))).heap.size = w.heap.size + 1 by simp] at bB
  have gA : w.grownBy ((w.alloc (.cells #[.int .i64 0, .int .i64 0] 25 (0, 0))).alloc (.cells #[.int .i64 n, .int .i64 0] 25 (0, 0))) none := grown_t2 (World.grownBy_alloc _ _ none) (World.grownBy_alloc _ _ none)
  go_wp2_with fail
  generalize (w.alloc (.cells #[.int .i64 0, .int .i64 0] 25 (0, 0))).alloc (.cells #[.int .i64 n, .int .i64 0] 25 (0, 0)) = wA at *
  go_loopw [6] (fun i wr => ∃ (k : Nat) (q : Int), i = .int .i64 k ∧ k ≤ R ∧ wr.heap[w.heap.size]? = some (.cells #[.int .i64 0, .int .i64 0] 25 (0, 0)) ∧ wr.heap[w.heap.size + 1]? = some (.cells #[.int .i64 n, .int .i64 q] 25 (0, 0)) ∧ w.grownBy wr none) (fun i _ => R - (intOf i).toNat)
  case atStart => exact ⟨0, 0, rfl, Nat.zero_le _, bA, bB, gA⟩
  case round =>
    obtain ⟨k, q, rfl, hk, bC, bD, hgr⟩ := hrel
    by_cases hkn : k < R
    · obtain ⟨z, hz⟩ := hc k hkn
      go_wp2_with (first
        | (go_at_call 106; refine (srows_anyd n hn _).mono ?_; rw [hR]; rintro e w1 ⟨rfl, hg1⟩)
        | fail)
      have hg2 := grown_t2 (grown_t2 hgr hg1) (drew_gr w1)
      have b1 := blk_fr' (blk_fr' bC hg1 (by simp)) (drew_gr w1) (by simp)
      have b2 := blk_fr' (blk_fr' bD hg1 (by simp)) (drew_gr w1) (by simp)
      have c21 := cell_blk (i := 1) (v := .int .i64 q) b2 rfl
      have f21 := free_blk 1 b2
      have hcz := hg2.cell hz (by simp)
      go_region
      all_goals go_wp2_with fail
      all_goals
        have d1 := blk_fr' bC hg1 (by simp)
        have d2 := blk_fr' bD hg1 (by simp)
        have hgs := set_grown w1 ⟨w.heap.size + 1, 1, none⟩ (.int .i64 (wrap64 (q + wrap64 (z * 2 ^ k))))
        go_roundw
        case rel =>
          exact ⟨k + 1, wrap64 (q + wrap64 (z * 2 ^ k)), by go_num, by omega, blk_fr' (blk_fr' d1 hgs (by simp)) (drew_gr _) (by simp), blk_fr' (two_set1 d2) (drew_gr _) (by simp),
            below_grown ((((Below.refl w.heap.size w).grown hgr (Nat.le_refl _) (fun k hk => by cases hk)).grown hg1 hgr.size (fun k hk => by cases hk)).setCell (by simp) _ |>.drew)⟩
        case measure => simp [intOf]; omega
    · obtain rfl : k = R := by omega
      go_wp2_with (first
        | (go_at_call 106; refine (srows_anyd n hn _).mono ?_; rw [hR]; rintro e w1 ⟨rfl, hg1⟩; have b1 := blk_fr' bC hg1 (by simp); have b2 := blk_fr' bD hg1 (by simp); have c10 := cell_blk (i := 0) (v := .int .i64 0) b1 rfl; have c11 := cell_blk (i := 1) (v := .int .i64 0) b1 rfl; have f10 := free_blk 0 b1; have f11 := free_blk 1 b1; have c20 := cell_blk (i := 0) (v := .int .i64 n) b2 rfl; have c21 := cell_blk (i := 1) (v := .int .i64 q) b2 rfl)
        | fail)
      refine bodyPost_ret (results_c1 rfl _ _ w.heap.size 25 #[.int .i64 n, .int .i64 q] (0, 0) rfl (two_set1 (two_set0 b1)) rfl) rfl ?_
      exact ⟨q, rfl, below_grown ((((Below.refl w.heap.size w).grown hgr (Nat.le_refl _) (fun k hk => by cases hk)).grown hg1 hgr.size (fun k hk => by cases hk)).setCell (by simp) _ |>.setCell (by simp) _)⟩
end

section
open Go.RowKit Go.IntWalk
theorem app_end {w wr w1 w3 : World} {B n : Nat} {v : Value} {xs : List Value} {X : Obj} (hgr : w.grownBy wr none) (hg1 : wr.grownBy w1 none) (hB : w.heap.size ≤ B) (hBl : B ≤ w1.heap.size) (hown1 : w1.ownsRow B 2 1 v n xs) (hgrow : (w1.alloc X).grownBy w3 v.ownBlock) :
    w.grownBy w3 none ∧ (∀ j o, j < B → w1.heap[j]? = some o → w3.heap[j]? = some o) ∧ w1.heap.size < w3.heap.size := by
  refine ⟨below_grown (((((Below.refl w.heap.size w).grown hgr (Nat.le_refl _) (fun k hk => by cases hk)).grown hg1 hgr.size (fun k hk => by cases hk)).alloc (by omega) _).grown hgrow (by simp; omega) (fun j hj => by have := (own_ge hown1 hj).1; omega)), fun j o hj ho => blk_fr' (blk_alloc _ ho) hgrow (fun he => by have := (own_ge hown1 he.symm).1; omega), ?_⟩
  have := hgrow.size
  simp at this; omega
theorem ret_pair {w w2 : World} {n : Nat} {q : Int} (g : Nat) (hb : w2.heap[g]? = some (.cells #[.int .i64 0, .int .i64 0] 25 (0, 0))) (hg : w.grownBy w2 none) (hgl : w.heap.size ≤ g) :
    ((w2.setCell ⟨g, 0, none⟩ (.int .i64 (n : Int))).setCell ⟨g, 1, none⟩ (.int .i64 q)).heap[g]? = some (.cells #[.int .i64 (n : Int), .int .i64 q] 25 (0, 0)) ∧ w.grownBy ((w2.setCell ⟨g, 0, none⟩ (.int .i64 (n : Int))).setCell ⟨g, 1, none⟩ (.int .i64 q)) none :=
  ⟨two_set1 (two_set0 hb), below_grown ((((Below.refl w.heap.size w).grown hg (Nat.le_refl _) (fun k hk => by cases hk)).setCell hgl _).setCell hgl _)⟩
theorem proj_any (n i : Nat) (hn : n ≤ 4) (hi4 : i ≤ 16) (w : World) : Calls Try.prog 162 #[.int .i64 n, .int .i64 i] w fun e w' => ∃ q : Int, e = .returned (.agg #[.int .i64 n, .int .i64 q]) ∧ w.grownBy w' none := by
  obtain ⟨i0, hi, hz0, hz1, hz2⟩ := info_parts Try.info2
  obtain ⟨h16, hh2, h3, h4⟩ := shN hn
  generalize hR : R2 n = R at *
  go_enter Try.func162, Try.ntmps162
  have bA := blk_alloc (.cells #[] 2 (0, 0)) (blk_new w (.cells #[.int .i64 0, .int .i64 0] 25 (0, 0)))
  have bB := blk_new (w.alloc (.cells #[.int .i64 0, .int .i64 0] 25 (0, 0))) (.cells #[] 2 (0, 0))
  rw [show (w.alloc (.cells #[.int .i64 0, .int .i64 0] 25 (0, 0))).heap.size = w.heap.size + 1 by simp] at bB
  have gA : w.grownBy ((w.alloc (.cells #[.int .i64 0, .int .i64 0] 25 (0, 0))).alloc (.cells #[] 2 (0, 0))) none := grown_t2 (World.grownBy_alloc _ _ none) (World.grownBy_alloc _ _ none)
  go_wp2_with fail
  generalize (w.alloc (.cells #[.int .i64 0, .int .i64 0] 25 (0, 0))).alloc (.cells #[] 2 (0, 0)) = wA at *
  go_loopw [5, 6] (fun v r wr => ∃ k : Nat, r = .int .i64 k ∧ k ≤ R ∧ IntsR wr (w.heap.size + 1) v k ∧ wr.heap[w.heap.size]? = some (.cells #[.int .i64 0, .int .i64 0] 25 (0, 0)) ∧ w.grownBy wr none ∧ w.heap.size < wr.heap.size) (fun _ r _ => R - (intOf r).toNat)
  case atStart => exact ⟨0, rfl, Nat.zero_le _, ⟨[], ⟨rfl, .inr ⟨_, 0, #[], rfl, Nat.le_refl _, bB, Nat.le_refl _, Nat.zero_le _, rfl, rfl⟩⟩, by simp⟩, bA, gA, lt_of_block bA⟩
  case round =>
    obtain ⟨k, rfl, hk, ⟨xs, hown, hxs⟩, bC, hgr, hsz⟩ := hrel
    by_cases hkn : k < R
    · go_wp2_with (first
        | (go_at_call 106; refine (srows_anyd n hn _).mono ?_; rw [hR]; rintro e w1 ⟨rfl, hg1⟩; have hown1 := hown.kept hg1 (by cases u5.ownBlock <;> simp))
        | (at_builtin; refine wpList_append_own _ rfl (.tmp 14) (.tmp 20) 27 rfl (w.heap.size + 1) 2 i0 _ 1 8 Try.underlying27 hi hz0 hz1 hz2 rfl (by decide) _ _ _ rfl (hown1.alloc _) ⟨w1.heap.size, 0, none⟩ 1 1 [_] rfl rfl (one_cell (blk_new _ _)) (by intro u hu; simp at hu; subst hu; rfl) (by unfold maxLen; omega) (by omega) (by have := hg1.size; simp; omega) ?_; intro v' w3 hown' hgrow _)
        | fail)
      obtain ⟨ha, hb, hz⟩ := app_end hgr hg1 (by omega) (by have := hg1.size; omega) hown1 hgrow
      go_roundw
      case rel => exact ⟨k + 1, by go_num, by omega, IntsR.snoc hxs hown', hb _ _ (by omega) (blk_fr' bC hg1 (by simp)), ha, by have := hg1.size; omega⟩
      case measure => simp [intOf]; omega
    · obtain rfl : k = R := by omega
      go_wp2_with (first
        | (go_at_call 106; refine (srows_anyd n hn _).mono ?_; rw [hR]; rintro e w1 ⟨rfl, hg1⟩)
        | fail)
      have b1 := blk_fr' bC hg1 (by simp)
      refine (of_any n (w.heap.size + 1) _ hn _ (by rw [hR]; exact ⟨xs, hown.kept hg1 (by cases u5.ownBlock <;> simp), hxs⟩)).mono ?_
      rintro e w2 ⟨q, rfl, hg2⟩
      have b2 := blk_fr' b1 hg2 (by simp)
      have c0 := cell_blk (i := 0) (v := .int .i64 0) b2 rfl
      have c1 := cell_blk (i := 1) (v := .int .i64 0) b2 rfl
      have f0 := free_blk 0 b2
      have f1 := free_blk 1 b2
      go_wp2_with fail
      obtain ⟨hp, hq⟩ := ret_pair (n := n) (q := q) _ b2 (grown_t2 (grown_t2 hgr hg1) hg2) (Nat.le_refl _)
      refine bodyPost_ret (results_c1 rfl _ _ w.heap.size 25 _ (0, 0) rfl hp rfl) rfl ?_
      exact ⟨q, rfl, hq⟩
theorem const_any (n i : Nat) (hn : n ≤ 4) (hi4 : i ≤ 16) (w : World) : Calls Try.prog 164 #[.int .i64 n, .int .i64 i] w fun e w' => ∃ q : Int, e = .returned (.agg #[.int .i64 n, .int .i64 q]) ∧ w.grownBy w' none := by
  go_enter Try.func164, Try.ntmps164
  have bA := blk_new w (.cells #[.int .i64 0, .int .i64 0] 25 (0, 0))
  have gA := World.grownBy_alloc w (.cells #[.int .i64 0, .int .i64 0] 25 (0, 0)) none
  go_wp2_with fail
  generalize w.alloc (.cells #[.int .i64 0, .int .i64 0] 25 (0, 0)) = wA at *
  refine (sall_any n hn _).mono ?_
  rintro e w1 ⟨rfl, hg1⟩
  have b2 := blk_fr' bA hg1 (by simp)
  have c0 := cell_blk (i := 0) (v := .int .i64 0) b2 rfl
  have c1 := cell_blk (i := 1) (v := .int .i64 0) b2 rfl
  have f0 := free_blk 0 b2
  have f1 := free_blk 1 b2
  go_wp2_with fail
  obtain ⟨hp, hq⟩ := ret_pair (n := n) (q := wrap64 (↑i * (↑(R2 (R2 n)) - 1))) _ b2 (grown_t2 gA hg1) (Nat.le_refl _)
  refine bodyPost_ret (results_c1 rfl _ _ w.heap.size 25 _ (0, 0) rfl hp rfl) rfl ?_
  exact ⟨_, rfl, hq⟩
theorem sat_anyd (n : Int) (b : Int) (r : Nat) (hr : r ≤ 16) (W : World) : Calls Try.prog 157 #[.agg #[.int .i64 n, .int .i64 b], .int .i64 r] W fun e w' => ∃ z : Int, e = .returned (.int .i64 z) ∧ W.grownBy w' none := by
  go_enter Try.func157, Try.ntmps157
  go_wp2_with fail
  go_ret
  exact ⟨_, rfl, World.grownBy_alloc _ _ _⟩
theorem weight_any (n : Nat) (b : Int) (hn : n ≤ 4) (w : World) : Calls Try.prog 193 #[.agg #[.int .i64 n, .int .i64 b]] w fun e w' => ∃ z : Int, e = .returned (.int .i64 z) ∧ w.grownBy w' none := by
  obtain ⟨h16, hh2, h3, h4⟩ := shN hn
  generalize hR : R2 n = R at *
  go_enter Try.func193, Try.ntmps193
  have bA := blk_new w (.cells #[.int .i64 n, .int .i64 b] 25 (0, 0))
  have gA := World.grownBy_alloc w (.cells #[.int .i64 n, .int .i64 b] 25 (0, 0)) none
  go_wp2_with fail
  generalize w.alloc (.cells #[.int .i64 n, .int .i64 b] 25 (0, 0)) = wA at *
  go_loopw [3, 4] (fun s r wr => ∃ (k : Nat) (z : Int), r = .int .i64 k ∧ k ≤ R ∧ s = .int .i64 z ∧ wr.heap[w.heap.size]? = some (.cells #[.int .i64 n, .int .i64 b] 25 (0, 0)) ∧ w.grownBy wr none) (fun _ r _ => R - (intOf r).toNat)
  case atStart => exact ⟨0, 0, rfl, Nat.zero_le _, rfl, bA, gA⟩
  case round =>
    obtain ⟨k, z, rfl, hk, rfl, bC, hgr⟩ := hrel
    have c0 := cell_blk (i := 0) (v := .int .i64 n) bC rfl
    by_cases hkn : k < R
    · go_wp2_with (first
        | (go_at_call 106; refine (srows_anyd n hn _).mono ?_; rw [hR]; rintro e w1 ⟨rfl, hg1⟩; have b1 := blk_fr' bC hg1 (by simp); have c10 := cell_blk (i := 0) (v := .int .i64 n) b1 rfl; have c11 := cell_blk (i := 1) (v := .int .i64 b) b1 rfl)
        | (go_at_call 157; refine (sat_anyd n b k (by omega) _).mono ?_; rintro e w2 ⟨y, rfl, hg2⟩)
        | fail)
      go_roundw
      case rel => exact ⟨k + 1, _, by go_num, by omega, rfl, blk_fr' b1 hg2 (by simp), grown_t2 (grown_t2 hgr hg1) hg2⟩
      case measure => simp [intOf]; omega
    · obtain rfl : k = R := by omega
      go_wp2_with (first
        | (go_at_call 106; refine (srows_anyd n hn _).mono ?_; rw [hR]; rintro e w1 ⟨rfl, hg1⟩)
        | fail)
      go_ret
      exact ⟨z, rfl, grown_t2 hgr hg1⟩
theorem bits_hi (k n : Nat) (hk : k < 16) (h2 : k < R2 (n + 1)) : bits .and .i64 ((k : Int) / 2 ^ n) 1 = if k < R2 n then 0 else 1 := by
  have e : ((k : Int) / 2 ^ n) = ((k / 2 ^ n : Nat) : Int) := by simp
  have hp : R2 (n + 1) = 2 * 2 ^ n := by unfold R2; rw [Nat.pow_succ]; omega
  have hp2 : R2 n = 2 ^ n := by unfold R2; rfl
  have hpos : 0 < 2 ^ n := Nat.pow_pos (by omega)
  rw [e]
  by_cases h : k < R2 n
  · rw [if_pos h, Nat.div_eq_of_lt (by omega)]; rfl
  · rw [if_neg h, show k / 2 ^ n = 1 by rw [Nat.div_eq_iff hpos]; omega]; rfl
theorem fix_any (n m : Nat) (b : Int) (hn : m ≤ 4) (hm : m = n + 1) (w : World) : Calls Try.prog 153 #[.agg #[.int .i64 m, .int .i64 b], .int .i64 (n : Nat), .int .i64 0] w fun e w' => ∃ q : Int, e = .returned (.agg #[.int .i64 n, .int .i64 q]) ∧ w.grownBy w' none := by
  obtain ⟨i0, hi, hz0, hz1, hz2⟩ := info_parts Try.info2
  obtain ⟨h16, hh2, h3, h4⟩ := shN hn
  have hbits := fun k hk (hk2 : k < R2 m) => bits_hi k n hk (by rw [← hm]; exact hk2)
  have hle : R2 n ≤ R2 m := by unfold R2; exact Nat.pow_le_pow_right (by omega) (by omega)
  have hmn : (m : Int) - 1 = (n : Int) := by omega
  have hn3 : n ≤ 3 := by omega
  clear hm
  generalize hR : R2 m = R at *
  generalize hr : R2 n = r at *
  go_enter Try.func153, Try.ntmps153
  have e1 : (w.alloc (.cells #[.int .i64 m, .int .i64 b] 25 (0, 0))).heap.size = w.heap.size + 1 := by simp
  have e2 : ((w.alloc (.cells #[.int .i64 m, .int .i64 b] 25 (0, 0))).alloc (.cells #[.int .i64 0, .int .i64 0] 25 (0, 0))).heap.size = w.heap.size + 2 := by simp
  have bA := blk_alloc (.cells #[] 2 (0, 0)) (blk_alloc (.cells #[.int .i64 0, .int .i64 0] 25 (0, 0)) (blk_new w (.cells #[.int .i64 m, .int .i64 b] 25 (0, 0))))
  have bB := blk_alloc (.cells #[] 2 (0, 0)) (blk_new (w.alloc (.cells #[.int .i64 m, .int .i64 b] 25 (0, 0))) (.cells #[.int .i64 0, .int .i64 0] 25 (0, 0)))
  have bC := blk_new ((w.alloc (.cells #[.int .i64 m, .int .i64 b] 25 (0, 0))).alloc (.cells #[.int .i64 0, .int .i64 0] 25 (0, 0))) (.cells #[] 2 (0, 0))
  rw [e1] at bB
  rw [e2] at bC
  have gA : w.grownBy (((w.alloc (.cells #[.int .i64 m, .int .i64 b] 25 (0, 0))).alloc (.cells #[.int .i64 0, .int .i64 0] 25 (0, 0))).alloc (.cells #[] 2 (0, 0))) none := grown_t2 (grown_t2 (World.grownBy_alloc _ _ none) (World.grownBy_alloc _ _ none)) (World.grownBy_alloc _ _ none)
  go_wp2_with fail
  generalize ((w.alloc (.cells #[.int .i64 m, .int .i64 b] 25 (0, 0))).alloc (.cells #[.int .i64 0, .int .i64 0] 25 (0, 0))).alloc (.cells #[] 2 (0, 0)) = wA at *
  clear e1 e2
  go_loopw [7, 8] (fun v i wr => ∃ k : Nat, i = .int .i64 k ∧ k ≤ R ∧ IntsR wr (w.heap.size + 2) v (min k r) ∧ wr.heap[w.heap.size]? = some (.cells #[.int .i64 m, .int .i64 b] 25 (0, 0)) ∧ wr.heap[w.heap.size + 1]? = some (.cells #[.int .i64 0, .int .i64 0] 25 (0, 0)) ∧ w.grownBy wr none ∧ w.heap.size + 1 < wr.heap.size) (fun _ i _ => R - (intOf i).toNat)
  case atStart => exact ⟨0, rfl, Nat.zero_le _, ⟨[], ⟨by simp, .inr ⟨_, 0, #[], by simp, Nat.le_refl _, bC, by simp, Nat.zero_le _, rfl, by simp⟩⟩, by simp⟩, bA, bB, gA, lt_of_block bB⟩
  case round =>
    obtain ⟨k, rfl, hk, hIR, bD, bE, hgr, hsz⟩ := hrel
    have c0 := cell_blk (i := 0) (v := .int .i64 m) bD rfl
    have c1 := cell_blk (i := 1) (v := .int .i64 b) bD rfl
    by_cases hkn : k < R
    · have hb := hbits k (by omega) (by omega)
      by_cases hkr : k < r
      · rw [if_pos hkr] at hb
        rw [show min k r = k by omega] at hIR
        obtain ⟨xs, hown, hxs⟩ := hIR
        go_wp2_with (first
          | (go_at_call 106; refine (srows_anyd m hn _).mono ?_; rw [hR]; rintro e w0 ⟨rfl, hg0⟩; have hown0 := hown.kept hg0 (by cases u7.ownBlock <;> simp); have b0 := blk_fr' bD hg0 (by simp); have b0' := blk_fr' bE hg0 (by simp); have d0 := cell_blk (i := 0) (v := .int .i64 m) b0 rfl; have d1 := cell_blk (i := 1) (v := .int .i64 b) b0 rfl)
          | (go_at_call 157; refine (sat_anyd m b k (by omega) _).mono ?_; rintro e w1 ⟨y, rfl, hg1⟩; have hown1 := hown0.kept hg1 (by cases u7.ownBlock <;> simp))
          | (at_builtin; refine wpList_append_own _ rfl (.tmp 24) (.tmp 28) 27 rfl (w.heap.size + 2) 2 i0 _ 1 8 Try.underlying27 hi hz0 hz1 hz2 rfl (by decide) _ _ _ rfl (hown1.alloc _) ⟨w1.heap.size, 0, none⟩ 1 1 [_] rfl rfl (one_cell (blk_new _ _)) (by intro u hu; simp at hu; subst hu; rfl) (by unfold maxLen; omega) (by omega) (by have := hg1.size; have := hg0.size; simp; omega) ?_; intro v' w3 hown' hgrow _)
          | fail)
        obtain ⟨ha, hb', hz⟩ := app_end (grown_t2 hgr hg0) hg1 (by omega) (by have := hg1.size; have := hg0.size; omega) hown1 hgrow
        go_roundw
        case rel => exact ⟨k + 1, by go_num, by omega, by rw [show min (k + 1) r = k + 1 by omega]; exact IntsR.snoc hxs hown', hb' _ _ (by omega) (blk_fr' b0 hg1 (by simp)), hb' _ _ (by omega) (blk_fr' b0' hg1 (by simp)), ha, by have := hg1.size; have := hg0.size; omega⟩
        case measure => simp [intOf]; omega
      · rw [if_neg hkr] at hb
        rw [show min k r = min (k + 1) r by omega] at hIR
        go_wp2_with (first
          | (go_at_call 106; refine (srows_anyd m hn _).mono ?_; rw [hR]; rintro e w0 ⟨rfl, hg0⟩)
          | fail)
        go_roundw
        case rel => exact ⟨k + 1, by go_num, by omega, hIR.kept hg0 (by simp), blk_fr' bD hg0 (by simp), blk_fr' bE hg0 (by simp), grown_t2 hgr hg0, by have := hg0.size; omega⟩
        case measure => simp [intOf]; omega
    · obtain rfl : k = R := by omega
      rw [show min k r = r by omega] at hIR
      go_wp2_with (first
        | (go_at_call 106; refine (srows_anyd m hn _).mono ?_; rw [hR]; rintro e w0 ⟨rfl, hg0⟩; have b0 := blk_fr' bD hg0 (by simp); have b0' := blk_fr' bE hg0 (by simp); have d0 := cell_blk (i := 0) (v := .int .i64 m) b0 rfl)
        | fail)
      refine (of_any n (w.heap.size + 2) _ (by omega) _ (by rw [hr]; exact hIR.kept hg0 (by simp))).mono ?_
      rintro e w2 ⟨q, rfl, hg2⟩
      have b2 := blk_fr' b0' hg2 (by simp)
      have d0' := cell_blk (i := 0) (v := .int .i64 0) b2 rfl
      have d1' := cell_blk (i := 1) (v := .int .i64 0) b2 rfl
      have f0 := free_blk 0 b2
      have f1 := free_blk 1 b2
      go_wp2_with fail
      obtain ⟨hp, hq⟩ := ret_pair (n := n) (q := q) _ b2 (grown_t2 (grown_t2 hgr hg0) hg2) (by omega)
      refine bodyPost_ret (results_c1 rfl _ _ (w.heap.size + 1) 25 _ (0, 0) rfl hp rfl) rfl ?_
      exact ⟨q, rfl, hq⟩
theorem dual_any (n : Nat) (b : Int) (hn : n ≤ 4) (w : World) : Calls Try.prog 196 #[.agg #[.int .i64 n, .int .i64 b]] w fun e w' => ∃ q : Int, e = .returned (.agg #[.int .i64 n, .int .i64 q]) ∧ w.grownBy w' none := by
  obtain ⟨i0, hi, hz0, hz1, hz2⟩ := info_parts Try.info2
  obtain ⟨h16, hh2, h3, h4⟩ := shN hn
  generalize hR : R2 n = R at *
  go_enter Try.func196, Try.ntmps196
  have e1 : (w.alloc (.cells #[.int .i64 n, .int .i64 b] 25 (0, 0))).heap.size = w.heap.size + 1 := by simp
  have e2 : ((w.alloc (.cells #[.int .i64 n, .int .i64 b] 25 (0, 0))).alloc (.cells #[.int .i64 0, .int .i64 0] 25 (0, 0))).heap.size = w.heap.size + 2 := by simp
  have bA := blk_alloc (.cells #[] 2 (0, 0)) (blk_alloc (.cells #[.int .i64 0, .int .i64 0] 25 (0, 0)) (blk_new w (.cells #[.int .i64 n, .int .i64 b] 25 (0, 0))))
  have bB := blk_alloc (.cells #[] 2 (0, 0)) (blk_new (w.alloc (.cells #[.int .i64 n, .int .i64 b] 25 (0, 0))) (.cells #[.int .i64 0, .int .i64 0] 25 (0, 0)))
  have bC := blk_new ((w.alloc (.cells #[.int .i64 n, .int .i64 b] 25 (0, 0))).alloc (.cells #[.int .i64 0, .int .i64 0] 25 (0, 0))) (.cells #[] 2 (0, 0))
  rw [e1] at bB
  rw [e2] at bC
  have gA : w.grownBy (((w.alloc (.cells #[.int .i64 n, .int .i64 b] 25 (0, 0))).alloc (.cells #[.int .i64 0, .int .i64 0] 25 (0, 0))).alloc (.cells #[] 2 (0, 0))) none := grown_t2 (grown_t2 (World.grownBy_alloc _ _ none) (World.grownBy_alloc _ _ none)) (World.grownBy_alloc _ _ none)
  have cA := cell_blk (i := 0) (v := .int .i64 n) bA rfl
  go_wp2_with fail
  generalize ((w.alloc (.cells #[.int .i64 n, .int .i64 b] 25 (0, 0))).alloc (.cells #[.int .i64 0, .int .i64 0] 25 (0, 0))).alloc (.cells #[] 2 (0, 0)) = wA at *
  clear e1 e2
  refine (srows_anyd n hn _).mono ?_
  rw [hR]
  rintro e w1 ⟨rfl, hg1⟩
  replace bA := blk_fr' bA hg1 (by simp)
  replace bB := blk_fr' bB hg1 (by simp)
  replace bC := blk_fr' bC hg1 (by simp)
  replace gA := grown_t2 gA hg1
  clear hg1 cA
  go_wp2_with fail
  go_loopw [3, 5] (fun v r wr => ∃ k : Nat, r = .int .i64 k ∧ k ≤ R ∧ IntsR wr (w.heap.size + 2) v k ∧ wr.heap[w.heap.size]? = some (.cells #[.int .i64 n, .int .i64 b] 25 (0, 0)) ∧ wr.heap[w.heap.size + 1]? = some (.cells #[.int .i64 0, .int .i64 0] 25 (0, 0)) ∧ w.grownBy wr none ∧ w.heap.size + 1 < wr.heap.size) (fun _ r _ => R - (intOf r).toNat)
  case atStart => exact ⟨0, rfl, Nat.zero_le _, ⟨[], ⟨rfl, .inr ⟨_, 0, #[], rfl, Nat.le_refl _, bC, Nat.le_refl _, Nat.zero_le _, rfl, rfl⟩⟩, by simp⟩, bA, bB, gA, lt_of_block bB⟩
  case round =>
    obtain ⟨k, rfl, hk, ⟨xs, hown, hxs⟩, bD, bE, hgr, hsz⟩ := hrel
    have c0 := cell_blk (i := 0) (v := .int .i64 n) bD rfl
    have c1 := cell_blk (i := 1) (v := .int .i64 b) bD rfl
    by_cases hkn : k < R
    · have hRk : (R : Int) - 1 - k = ((R - 1 - k : Nat) : Int) := by omega
      go_wp2_with (first
        | (go_at_call 157; first | (rw [hRk]) | skip; refine (sat_anyd n b (R - 1 - k) (by omega) _).mono ?_; rintro e w1 ⟨y, rfl, hg1⟩; have hown1 := hown.kept hg1 (by cases u3.ownBlock <;> simp))
        | (at_builtin; refine wpList_append_own _ rfl (.tmp 15) (.tmp 23) 27 rfl (w.heap.size + 2) 2 i0 _ 1 8 Try.underlying27 hi hz0 hz1 hz2 rfl (by decide) _ _ _ rfl (hown1.alloc _) ⟨w1.heap.size, 0, none⟩ 1 1 [_] rfl rfl (one_cell (blk_new _ _)) (by intro u hu; simp at hu; subst hu; rfl) (by unfold maxLen; omega) (by omega) (by have := hg1.size; simp; omega) ?_; intro v' w3 hown' hgrow _)
        | fail)
      obtain ⟨ha, hb, hz⟩ := app_end hgr hg1 (by omega) (by have := hg1.size; omega) hown1 hgrow
      go_roundw
      case rel => exact ⟨k + 1, by go_num, by omega, IntsR.snoc hxs hown', hb _ _ (by omega) (blk_fr' bD hg1 (by simp)), hb _ _ (by omega) (blk_fr' bE hg1 (by simp)), ha, by have := hg1.size; omega⟩
      case measure => simp [intOf]; omega
    · obtain rfl : k = R := by omega
      go_wp2_with fail
      refine (of_any n (w.heap.size + 2) _ hn _ (by rw [hR]; exact ⟨xs, hown, hxs⟩)).mono ?_
      rintro e w2 ⟨q, rfl, hg2⟩
      have b2 := blk_fr' bE hg2 (by simp)
      have d0 := cell_blk (i := 0) (v := .int .i64 0) b2 rfl
      have d1 := cell_blk (i := 1) (v := .int .i64 0) b2 rfl
      have f0 := free_blk 0 b2
      have f1 := free_blk 1 b2
      go_wp2_with fail
      obtain ⟨hp, hq⟩ := ret_pair (n := n) (q := q) _ b2 (grown_t2 hgr hg2) (by omega)
      refine bodyPost_ret (results_c1 rfl _ _ (w.heap.size + 1) 25 _ (0, 0) rfl hp rfl) rfl ?_
      exact ⟨q, rfl, hq⟩
end

section
open Go.RowKit Go.IntWalk
theorem in_anyd (z a b : Int) (W : World) : Calls Try.prog 122 #[.int .i64 z, .int .i64 a, .int .i64 b] W fun e w' => e = .returned (.bool (decide (a ≤ z ∧ z ≤ b))) ∧ W.grownBy w' none := by
  refine (Ev.callF (vs := [.int .i64 z, .int .i64 a, .int .i64 b]) (ev122 z a b) (by simp only [VR, VRL]; exact ⟨_, _, rfl, rfl, _, _, rfl, rfl, _, _, rfl, rfl, rfl⟩) (by simp [V.idsL, V.ids]) (by simp [V.ids]) W).mono ?_
  rintro e w' ⟨u, rfl, hu, hg⟩
  simp only [VR] at hu; subst hu
  exact ⟨rfl, hg⟩
theorem bits_any (n b : Nat) (v : Value) (hn : n ≤ 16) (hn1 : 0 < n) (w : World) (hv : IntsR w b v n) : Calls Try.prog 156 #[v] w fun e w' => ∃ ok : Bool, e = .returned (.bool ok) ∧ w.grownBy w' none := by
  obtain ⟨g, cp, rfl, hbg, hgl, hc⟩ := hv.read hn1
  go_enter Try.func156, Try.ntmps156
  go_wp2_with fail
  go_loopw [3] (fun i wr => ∃ k : Nat, i = .int .i64 k ∧ k ≤ n ∧ w.grownBy wr none) (fun i _ => n - (intOf i).toNat)
  case atStart => exact ⟨0, rfl, Nat.zero_le _, ⟨rfl, rfl, rfl, Nat.le_refl _, fun _ _ _ => rfl⟩⟩
  case round =>
    obtain ⟨k, rfl, hk, hgr⟩ := hrel
    by_cases hkn : k < n
    · obtain ⟨z, hz⟩ := hc k hkn
      have hcz := hgr.cell hz (by simp)
      cases hd : decide ((0 : Int) ≤ z ∧ z ≤ 1)
      · go_wp2_with (first
          | (go_at_call 122; refine (in_anyd z 0 1 _).mono ?_; rw [hd]; rintro e w1 ⟨rfl, hg1⟩)
          | fail)
        go_ret
        exact ⟨_, rfl, grown_t2 hgr hg1⟩
      · go_wp2_with (first
          | (go_at_call 122; refine (in_anyd z 0 1 _).mono ?_; rw [hd]; rintro e w1 ⟨rfl, hg1⟩)
          | fail)
        go_roundw
        case rel => exact ⟨k + 1, by go_num, by omega, grown_t2 hgr hg1⟩
        case measure => simp [intOf]; omega
    · obtain rfl : k = n := by omega
      go_wp2_with fail
      go_ret
      exact ⟨_, rfl, hgr⟩
def knL : List ByteArray := [⟨#[48, 58, 48]⟩, ⟨#[48, 58, 49]⟩, ⟨#[49, 58, 48, 49]⟩, ⟨#[49, 58, 49, 48]⟩, ⟨#[50, 58, 48, 48, 48, 49]⟩, ⟨#[50, 58, 48, 49, 49, 49]⟩, ⟨#[50, 58, 48, 49, 49, 48]⟩, ⟨#[50, 58, 49, 49, 49, 48]⟩, ⟨#[50, 58, 49, 48, 48, 48]⟩, ⟨#[50, 58, 49, 48, 48, 49]⟩, ⟨#[50, 58, 49, 48, 49, 49]⟩, ⟨#[51, 58, 48, 48, 48, 49, 48, 49, 49, 49]⟩, ⟨#[51, 58, 48, 49, 49, 48, 49, 48, 48, 49]⟩, ⟨#[51, 58, 48, 48, 48, 49, 49, 48, 49, 49]⟩]
theorem known_any (w : World) : Calls Try.prog 194 #[] w fun e w' => e = .returned (.slice (some ⟨w.heap.size, 0, none⟩) 14 14) ∧ w.heap.size < w'.heap.size ∧ w.grownBy w' none ∧ ∀ i, i < 14 → ∃ s : ByteArray, w'.cell? ⟨w.heap.size, i, none⟩ = some (.string s) := by
  go_enter Try.func194, Try.ntmps194
  go_wp2_with fail
  go_ret
  refine ⟨rfl, by simp, World.grownBy_alloc _ _ _, fun i hi => ?_⟩
  have hb := blk_new w (.cells (knL.map Value.string).toArray 9 (0, 0))
  exact ⟨knL.getD i ⟨#[]⟩, cell_blk hb (by
    have : i < knL.length := hi
    simp [List.getD_eq_getElem?_getD, this])⟩
theorem results_c2 {fn : Func} {p t : Tmp} (h : fn.results = #[.cell p 25, .tmp t]) (tmps : Array Value) (w : World) (g : Nat) (e : TypeId) (cs : Array Value) (fr : Nat × Nat)
    (hp : tmps.getD p undef = .pointer (some ⟨g, 0, none⟩)) (hg : w.heap[g]? = some (.cells cs e fr)) (hi : cs.size = 2) : (results fn tmps).run Try.prog w = .ok (.tuple #[.agg cs, tmps.getD t undef]) w := by
  have hp' : tmps[p]?.getD undef = .pointer (some ⟨g, 0, none⟩) := by simpa using hp
  simp [results, h, hp', asAddr, run_loadVar_row w g e 25 cs fr _ hg Try.underlying25 rfl (by rw [show (Try.prog.info? 25).map (·.size) = some 2 by kernel_rfl, hi]), Result.andThen]
theorem read_anyd (s : ByteArray) (w : World) : Calls Try.prog 195 #[.string s] w fun e w' => ∃ (p q : Int) (ok : Value), e = .returned (.tuple #[.agg #[.int .i64 p, .int .i64 q], ok]) ∧ w.grownBy w' none := by
  have bA := blk_new w (.cells #[.int .i64 0, .int .i64 0] 25 (0, 0))
  have gA := World.grownBy_alloc w (.cells #[.int .i64 0, .int .i64 0] 25 (0, 0)) none
  by_cases h3 : s.size < 3
  · go_enter Try.func195, Try.ntmps195
    go_wp2_with fail
    refine bodyPost_ret (results_c2 rfl _ _ w.heap.size 25 _ (0, 0) rfl bA rfl) rfl ?_
    first
      | exact ⟨⟨_, _, _, rfl⟩, gA⟩
      | exact ⟨_, _, _, rfl, gA⟩
  · have hlen : 3 ≤ s.size := by omega
    by_cases hc : (s[1].toNat : Int) = 58
    · have hs0 : (s[0].toNat : Int) < 256 := by have := s[0].toNat_lt; omega
      have bB := blk_alloc (.cells #[] 2 (0, 0)) bA
      have bC := blk_new (w.alloc (.cells #[.int .i64 0, .int .i64 0] 25 (0, 0))) (.cells #[] 2 (0, 0))
      rw [show (w.alloc (.cells #[.int .i64 0, .int .i64 0] 25 (0, 0))).heap.size = w.heap.size + 1 by simp] at bC
      have gB := grown_t2 gA (World.grownBy_alloc (w.alloc (.cells #[.int .i64 0, .int .i64 0] 25 (0, 0))) (.cells #[] 2 (0, 0)) none)
      have hback : ∀ (W : World), W.heap[w.heap.size]? = some (.cells #[.int .i64 0, .int .i64 0] 25 (0, 0)) → w.grownBy W none → ∀ x y : Int, ((W.setCell ⟨w.heap.size, 0, none⟩ (.int .i64 x)).setCell ⟨w.heap.size, 1, none⟩ (.int .i64 y)).heap[w.heap.size]? = some (.cells #[.int .i64 x, .int .i64 y] 25 (0, 0)) ∧ w.grownBy ((W.setCell ⟨w.heap.size, 0, none⟩ (.int .i64 x)).setCell ⟨w.heap.size, 1, none⟩ (.int .i64 y)) none := fun W hb hg x y =>
        ⟨two_set1 (two_set0 hb), below_grown ((((Below.refl w.heap.size w).grown hg (Nat.le_refl _) (fun k hk => by cases hk)).setCell (Nat.le_refl _) _).setCell (Nat.le_refl _) _)⟩
      cases hin : decide ((0 : Int) ≤ (s[0].toNat : Int) - 48 ∧ (s[0].toNat : Int) - 48 ≤ 4)
      · go_enter Try.func195, Try.ntmps195
        go_wp2_with (first
          | (go_at_call 122; refine (in_anyd _ 0 4 _).mono ?_; rw [hin]; rintro e w1 ⟨rfl, hg1⟩; have b1 := blk_fr' bB hg1 (by simp); have c0 := cell_blk (i := 0) (v := .int .i64 0) b1 rfl; have c1 := cell_blk (i := 1) (v := .int .i64 0) b1 rfl; have f0 := free_blk 0 b1; have f1 := free_blk 1 b1)
          | fail)
        obtain ⟨hp, hq⟩ := hback _ b1 (grown_t2 gB hg1) 0 0
        refine bodyPost_ret (results_c2 rfl _ _ w.heap.size 25 _ (0, 0) rfl hp rfl) rfl ?_
        exact ⟨_, _, _, rfl, hq⟩
      · obtain ⟨h0, h4⟩ := of_decide_eq_true hin
        obtain ⟨n, hn⟩ := Int.eq_ofNat_of_zero_le h0
        have hn4 : n ≤ 4 := by omega
        obtain ⟨h16, hh2, h3', h4'⟩ := shN hn4
        have hzw : (s[0].toNat : Int) - 48 = (n : Int) := hn
        generalize hR : R2 n = R at *
        obtain ⟨i0, hi, hz0, hz1, hz2⟩ := info_parts Try.info2
        by_cases hsz : (s.size : Int) = 2 + (R : Int)
        · have hszN : s.size = 2 + R := by omega
          go_enter Try.func195, Try.ntmps195
          go_wp2_with (first
            | (go_at_call 122; refine (in_anyd _ 0 4 _).mono ?_; rw [show decide ((0 : Int) ≤ (n : Int) ∧ (n : Int) ≤ 4) = true from decide_eq_true (by omega)]; rintro e w1 ⟨rfl, hg1⟩)
            | (go_at_call 106; refine (srows_anyd n hn4 _).mono ?_; rw [hR]; rintro e w2 ⟨rfl, hg2⟩)
            | fail)
          replace bB := blk_fr' (blk_fr' bB hg1 (by simp)) hg2 (by simp)
          replace bC := blk_fr' (blk_fr' bC hg1 (by simp)) hg2 (by simp)
          replace gB := grown_t2 (grown_t2 gB hg1) hg2
          clear hg1 hg2
          go_loopw [5, 6] (fun v i wr => ∃ k : Nat, i = .int .i64 (2 + (k : Int)) ∧ k ≤ R ∧ IntsR wr (w.heap.size + 1) v k ∧ wr.heap[w.heap.size]? = some (.cells #[.int .i64 0, .int .i64 0] 25 (0, 0)) ∧ w.grownBy wr none ∧ w.heap.size < wr.heap.size) (fun _ i _ => R + 2 - (intOf i).toNat)
          case atStart => exact ⟨0, rfl, Nat.zero_le _, ⟨[], ⟨rfl, .inr ⟨_, 0, #[], rfl, Nat.le_refl _, bC, Nat.le_refl _, Nat.zero_le _, rfl, rfl⟩⟩, by simp⟩, bB, gB, lt_of_block bB⟩
          case round =>
            obtain ⟨k, rfl, hk, hIR, bD, hgr, hsz'⟩ := hrel
            by_cases hkn : k < R
            · obtain ⟨xs, hown, hxs⟩ := hIR
              have hidx : 2 + k < s.size := by omega
              go_wp2_with (first
                | (at_builtin; refine wpList_append_own _ rfl (.tmp 39) (.tmp 45) 27 rfl (w.heap.size + 1) 2 i0 _ 1 8 Try.underlying27 hi hz0 hz1 hz2 rfl (by decide) _ _ _ rfl (hown.alloc _) ⟨wr.heap.size, 0, none⟩ 1 1 [_] rfl rfl (one_cell (blk_new _ _)) (by intro u hu; simp at hu; subst hu; rfl) (by unfold maxLen; omega) (by omega) (by simp; omega) ?_; intro v' w3 hown' hgrow _)
                | fail)
              obtain ⟨ha, hb', hz⟩ := app_end hgr (show wr.grownBy wr none from ⟨rfl, rfl, rfl, Nat.le_refl _, fun _ _ _ => rfl⟩) (by omega) (by omega) hown hgrow
              go_roundw
              case rel => exact ⟨k + 1, by go_num, by omega, IntsR.snoc hxs hown', hb' _ _ (by omega) bD, ha, by omega⟩
              case measure => simp [intOf]; omega
            · obtain rfl : k = R := by omega
              have hIR' := hIR
              rw [← hR] at hIR'
              go_wp2_with (first
                | (go_at_call 156; refine (bits_any k (w.heap.size + 1) _ (by omega) (by omega) _ hIR).mono ?_; rintro e w4 ⟨ok, rfl, hg4⟩; have b4 := blk_fr' bD hg4 (by simp); have c0 := cell_blk (i := 0) (v := .int .i64 0) b4 rfl; have c1 := cell_blk (i := 1) (v := .int .i64 0) b4 rfl; have f0 := free_blk 0 b4; have f1 := free_blk 1 b4)
                | fail)
              · obtain ⟨hp, hq⟩ := hback _ b4 (grown_t2 hgr hg4) 0 0
                refine bodyPost_ret (results_c2 rfl _ _ w.heap.size 25 _ (0, 0) rfl hp rfl) rfl ?_
                first
                  | exact ⟨⟨_, _, _, rfl⟩, hq⟩
                  | exact ⟨_, _, _, rfl, hq⟩
              · refine (of_any n (w.heap.size + 1) _ hn4 _ (hIR'.kept hg4 (by simp))).mono ?_
                rintro e w5 ⟨q, rfl, hg5⟩
                have b5 := blk_fr' b4 hg5 (by simp)
                have d0 := cell_blk (i := 0) (v := .int .i64 0) b5 rfl
                have d1 := cell_blk (i := 1) (v := .int .i64 0) b5 rfl
                have e0 := free_blk 0 b5
                have e1 := free_blk 1 b5
                go_wp2_with fail
                obtain ⟨hp, hq⟩ := hback _ b5 (grown_t2 (grown_t2 hgr hg4) hg5) n q
                refine bodyPost_ret (results_c2 rfl _ _ w.heap.size 25 _ (0, 0) rfl hp rfl) rfl ?_
                first
                  | exact ⟨⟨_, _, _, rfl⟩, hq⟩
                  | exact ⟨_, _, _, rfl, hq⟩
        · have hsq : ((s.size : Int) == 2 + (R : Int)) = false := by simpa using hsz
          go_enter Try.func195, Try.ntmps195
          go_wp2_with (first
            | (go_at_call 122; refine (in_anyd _ 0 4 _).mono ?_; rw [show decide ((0 : Int) ≤ (n : Int) ∧ (n : Int) ≤ 4) = true from decide_eq_true (by omega)]; rintro e w1 ⟨rfl, hg1⟩; have b1 := blk_fr' bB hg1 (by simp))
            | (go_at_call 106; refine (srows_anyd n hn4 _).mono ?_; rw [hR]; rintro e w2 ⟨rfl, hg2⟩; have b2 := blk_fr' b1 hg2 (by simp); have c0 := cell_blk (i := 0) (v := .int .i64 0) b2 rfl; have c1 := cell_blk (i := 1) (v := .int .i64 0) b2 rfl; have f0 := free_blk 0 b2; have f1 := free_blk 1 b2)
            | fail)
          obtain ⟨hp, hq⟩ := hback _ b2 (grown_t2 (grown_t2 gB hg1) hg2) 0 0
          refine bodyPost_ret (results_c2 rfl _ _ w.heap.size 25 _ (0, 0) rfl hp rfl) rfl ?_
          first
            | exact ⟨⟨_, _, _, rfl⟩, hq⟩
            | exact ⟨_, _, _, rfl, hq⟩
    · have hb8 : ((s[1].toNat : Int) == 58) = false := by simpa using hc
      have hb9 : ((s[1].toNat : Int) != 58) = true := by simpa using hc
      go_enter Try.func195, Try.ntmps195
      have c0 := cell_blk (i := 0) (v := .int .i64 0) bA rfl
      have c1 := cell_blk (i := 1) (v := .int .i64 0) bA rfl
      go_wp2_with fail
      all_goals
        refine bodyPost_ret (results_c2 rfl _ _ w.heap.size 25 _ (0, 0) rfl bA rfl) rfl ?_
        first
          | exact ⟨⟨_, _, _, rfl⟩, gA⟩
          | exact ⟨_, _, _, rfl, gA⟩
end

section
open Go.RowKit Go.IntWalk
theorem drw_end {w W : World} {sb : Nat} (p q : Int) (hb : W.heap[w.heap.size]? = some (.cells #[.int .i64 0, .int .i64 0] 25 (0, 0))) (hg : w.grownBy W (some sb)) (hs : Src W sb) (hsb : sb < w.heap.size) :
    ((W.setCell ⟨w.heap.size, 0, none⟩ (.int .i64 p)).setCell ⟨w.heap.size, 1, none⟩ (.int .i64 q)).heap[w.heap.size]? = some (.cells #[.int .i64 p, .int .i64 q] 25 (0, 0)) ∧ Src ((W.setCell ⟨w.heap.size, 0, none⟩ (.int .i64 p)).setCell ⟨w.heap.size, 1, none⟩ (.int .i64 q)) sb ∧ w.grownBy ((W.setCell ⟨w.heap.size, 0, none⟩ (.int .i64 p)).setCell ⟨w.heap.size, 1, none⟩ (.int .i64 q)) (some sb) := by
  have k1 := set_grown W ⟨w.heap.size, 0, none⟩ (.int .i64 p)
  have k2 := set_grown (W.setCell ⟨w.heap.size, 0, none⟩ (.int .i64 p)) ⟨w.heap.size, 1, none⟩ (.int .i64 q)
  exact ⟨two_set1 (two_set0 hb), (hs.kept k1 (fun k hk => by cases hk; simp; omega)).kept k2 (fun k hk => by cases hk; simp; omega), grown_up hg (grown_t2 k1 k2) (by simp)⟩
theorem res_cells {W : World} {g : Nat} {x y : Value} (hb : W.heap[g]? = some (.cells #[x, y] 25 (0, 0))) : W.cell? ⟨g, 0, none⟩ = some x ∧ W.cell? ⟨g, 1, none⟩ = some y ∧ W.frozen? ⟨g, 0, none⟩ = false ∧ W.frozen? ⟨g, 1, none⟩ = false :=
  ⟨cell_blk hb rfl, cell_blk hb rfl, free_blk 0 hb, free_blk 1 hb⟩
theorem app_end2 {w wr w1 w3 : World} {B n sb : Nat} {v : Value} {xs : List Value} {X : Obj} (hgr : w.grownBy wr (some sb)) (hg1 : wr.grownBy w1 none) (hB : w.heap.size ≤ B) (hsB : sb < B) (hs1 : Src w1 sb) (hown1 : w1.ownsRow B 2 1 v n xs) (hgrow : (w1.alloc X).grownBy w3 v.ownBlock) :
    w.grownBy w3 (some sb) ∧ (∀ j o, j < B → w1.heap[j]? = some o → w3.heap[j]? = some o) ∧ w1.heap.size < w3.heap.size ∧ Src w3 sb := by
  have hk : ∀ k, v.ownBlock = some k → B ≤ k := fun k hk => (own_ge hown1 hk).1
  refine ⟨?_, fun j o hj ho => blk_fr' (blk_alloc _ ho) hgrow (fun he => by have := hk _ he.symm; omega), ?_, (hs1.kept (World.grownBy_alloc w1 X none) (by simp)).kept hgrow (fun k he => by have := hk _ he; omega)⟩
  · have h1 := grown_t2 (grown_t2 hgr (gr_some hg1)) (gr_some (World.grownBy_alloc w1 X none))
    cases hv : v.ownBlock with
    | none => rw [hv] at hgrow; exact grown_t2 h1 (gr_some hgrow)
    | some k => rw [hv] at hgrow; exact grown_up h1 hgrow (by have := hk _ hv; omega)
  · have := hgrow.size
    simp at this; omega
theorem drawof_any (sb n : Nat) (hn : n ≤ 4) (w : World) (hs : Src w sb) (hsb : sb < w.heap.size) :
    Calls Try.prog 133 #[.pointer (some ⟨sb, 0, none⟩), .int .i64 n] w fun e w' => ∃ q : Int, e = .returned (.agg #[.int .i64 n, .int .i64 q]) ∧ Src w' sb ∧ w.grownBy w' (some sb) := by
  obtain ⟨i0, hi, hz0, hz1, hz2⟩ := info_parts Try.info2
  obtain ⟨h16, hh2, h3, h4⟩ := shN hn
  generalize hRR : R2 (R2 n) = M at *
  generalize hR : R2 n = R at *
  have bA := blk_new w (.cells #[.int .i64 0, .int .i64 0] 25 (0, 0))
  have gA := World.grownBy_alloc w (.cells #[.int .i64 0, .int .i64 0] 25 (0, 0)) none
  have hsA := hs.kept gA (by simp)
  have e1 : (w.alloc (.cells #[.int .i64 0, .int .i64 0] 25 (0, 0))).heap.size = w.heap.size + 1 := by simp
  go_enter Try.func133, Try.ntmps133
  go_wp2_with fail
  generalize w.alloc (.cells #[.int .i64 0, .int .i64 0] 25 (0, 0)) = wA at *
  refine (sall_any n hn _).mono ?_
  rw [hR, hRR]
  rintro e w1 ⟨rfl, hg1⟩
  replace bA := blk_fr' bA hg1 (by simp)
  replace gA := grown_t2 gA hg1
  replace hsA := hsA.kept hg1 (by simp)
  have hy1 := hg1.size
  clear hg1
  go_wp2_with fail
  refine (next_any sb M (by omega) (by omega) _ hsA).mono ?_
  rintro e w2 ⟨q0, rfl, hq0, hs2, hg2⟩
  replace bA := blk_fr' bA hg2 (by simp; omega)
  replace gA := grown_t2 (gr_some (k := sb) gA) hg2
  have hz2' := hg2.size
  have hz2a := gA.size
  clear hg2 hsA
  have bB := blk_new w2 (.cells #[.int .i64 n, .int .i64 q0] 25 (0, 0))
  have gB := World.grownBy_alloc w2 (.cells #[.int .i64 n, .int .i64 q0] 25 (0, 0)) none
  replace bA := blk_fr' bA gB (by simp)
  replace gA := grown_t2 gA (gr_some gB)
  have hsB := hs2.kept gB (by simp)
  have hzB : w2.heap.size < (w2.alloc (.cells #[.int .i64 n, .int .i64 q0] 25 (0, 0))).heap.size := by simp
  clear gB hs2
  go_wp2_with fail
  generalize w2.alloc (.cells #[.int .i64 n, .int .i64 q0] 25 (0, 0)) = wB at *
  refine (next_any sb 8 (by omega) (by omega) _ hsB).mono ?_
  rintro e w3 ⟨x, rfl, hx, hs3, hg3⟩
  replace bA := blk_fr' bA hg3 (by simp; omega)
  replace bB := blk_fr' bB hg3 (by simp; omega)
  replace gA := grown_t2 gA hg3
  have hz3 := hg3.size
  have hzA := gA.size
  generalize hgb : w2.heap.size = gb at *
  clear hg3 hsB e1
  obtain ⟨k0, k1, k2, k3⟩ := res_cells bA
  obtain ⟨o0, o1, _, _⟩ := res_cells bB
  obtain rfl | rfl | rfl | rfl | rfl | rfl | hx6 : x = 0 ∨ x = 1 ∨ x = 2 ∨ x = 3 ∨ x = 4 ∨ x = 5 ∨ 6 ≤ x := by omega
  · by_cases hn0 : 0 < n
    · go_wp2_with fail
      refine (next_any sb n (by omega) (by omega) _ hs3).mono ?_
      rintro e w4 ⟨x1, rfl, hx1, hs4, hg4⟩
      replace bA := blk_fr' bA hg4 (by simp; omega)
      replace gA := grown_t2 gA hg4
      clear k0 k1 k2 k3 o0 o1
      go_wp2_with fail
      refine (proj_any n x1 hn (by omega) _).mono ?_
      rintro e w5 ⟨q1, rfl, hg5⟩
      replace bA := blk_fr' bA hg5 (by simp)
      replace gA := grown_t2 gA (gr_some hg5)
      have hs5 := hs4.kept hg5 (by simp)
      obtain ⟨k0, k1, k2, k3⟩ := res_cells bA
      go_wp2_with fail
      obtain ⟨y1, y2, y3⟩ := drw_end n q1 bA gA hs5 hsb
      refine bodyPost_ret (results_c1 rfl _ _ w.heap.size 25 _ (0, 0) rfl y1 rfl) rfl ?_
      exact ⟨_, rfl, y2, y3⟩
    · obtain rfl : n = 0 := by omega
      go_wp2_with fail
      obtain ⟨y1, y2, y3⟩ := drw_end (0 : Nat) q0 bA gA hs3 hsb
      refine bodyPost_ret (results_c1 rfl _ _ w.heap.size 25 _ (0, 0) rfl y1 rfl) rfl ?_
      exact ⟨_, rfl, y2, y3⟩
  · go_wp2_with fail
    refine (next_any sb 2 (by omega) (by omega) _ hs3).mono ?_
    rintro e w4 ⟨x1, rfl, hx1, hs4, hg4⟩
    replace bA := blk_fr' bA hg4 (by simp; omega)
    replace gA := grown_t2 gA hg4
    clear k0 k1 k2 k3 o0 o1
    go_wp2_with fail
    refine (const_any n x1 hn (by omega) _).mono ?_
    rintro e w5 ⟨q1, rfl, hg5⟩
    replace bA := blk_fr' bA hg5 (by simp)
    replace gA := grown_t2 gA (gr_some hg5)
    have hs5 := hs4.kept hg5 (by simp)
    obtain ⟨k0, k1, k2, k3⟩ := res_cells bA
    go_wp2_with fail
    obtain ⟨y1, y2, y3⟩ := drw_end n q1 bA gA hs5 hsb
    refine bodyPost_ret (results_c1 rfl _ _ w.heap.size 25 _ (0, 0) rfl y1 rfl) rfl ?_
    exact ⟨_, rfl, y2, y3⟩
  · go_wp2_with fail
    refine (srows_anyd n hn _).mono ?_
    rw [hR]
    rintro e w4 ⟨rfl, hg4⟩
    replace bA := blk_fr' bA hg4 (by simp)
    replace gA := grown_t2 gA (gr_some hg4)
    have hs4 := hs3.kept hg4 (by simp)
    have hz4 := hg4.size
    clear k0 k1 k2 k3 o0 o1
    clear hg4
    go_wp2_with fail
    refine (next_any sb R (by omega) (by omega) _ hs4).mono ?_
    rintro e w5 ⟨mask, rfl, hmask, hs5, hg5⟩
    replace bA := blk_fr' bA hg5 (by simp; omega)
    replace gA := grown_t2 gA hg5
    have hz5 := hg5.size
    clear hg5 hs4
    have bE := blk_new w5 (.cells #[] 2 (0, 0))
    have gE := World.grownBy_alloc w5 (.cells #[] 2 (0, 0)) none
    replace bA := blk_fr' bA gE (by simp)
    replace gA := grown_t2 gA (gr_some gE)
    replace hs5 := hs5.kept gE (by simp)
    have hzE : w5.heap.size < (w5.alloc (.cells #[] 2 (0, 0))).heap.size := by simp
    clear gE
    go_wp2_with fail
    generalize w5.alloc (.cells #[] 2 (0, 0)) = wE at *
    generalize hB : w5.heap.size = B at *
    refine (next_any sb 2 (by omega) (by omega) _ hs5).mono ?_
    rintro e w7 ⟨one, rfl, hone, hs7, hg7⟩
    replace bA := blk_fr' bA hg7 (by simp; omega)
    replace bE := blk_fr' bE hg7 (by simp; omega)
    replace gA := grown_t2 gA hg7
    have hz7 := hg7.size
    clear hg7 hs5 hs3 bB
    go_wp2_with fail
    go_loopw [7, 9] (fun v r wr => ∃ k : Nat, r = .int .i64 k ∧ k ≤ R ∧ IntsR wr B v k ∧ wr.heap[w.heap.size]? = some (.cells #[.int .i64 0, .int .i64 0] 25 (0, 0)) ∧ Src wr sb ∧ w.grownBy wr (some sb) ∧ B < wr.heap.size) (fun _ r _ => R - (intOf r).toNat)
    case atStart => exact ⟨0, rfl, Nat.zero_le _, ⟨[], ⟨rfl, .inr ⟨_, 0, #[], rfl, Nat.le_refl _, bE, Nat.le_refl _, Nat.zero_le _, rfl, rfl⟩⟩, by simp⟩, bA, hs7, gA, by omega⟩
    case round =>
      obtain ⟨k, rfl, hk, ⟨xs, hown, hxs⟩, bC, hsr, hgr, hsz⟩ := hrel
      by_cases hkn : k < R
      · go_wp2_with (first
          | (go_at_call 106; refine (srows_anyd n hn _).mono ?_; rw [hR]; rintro e w8 ⟨rfl, hg8⟩; have hown8 := hown.kept hg8 (by cases u7.ownBlock <;> simp))
          | (go_at_call 193; refine (weight_any 4 _ (by omega) _).mono ?_; rintro e w9 ⟨z, rfl, hg9⟩; have hown9 := hown8.kept hg9 (by cases u7.ownBlock <;> simp))
          | (at_builtin; refine wpList_append_own _ rfl (.tmp 57) (.tmp 66) 27 rfl B 2 i0 _ 1 8 Try.underlying27 hi hz0 hz1 hz2 rfl (by decide) _ _ _ rfl (hown9.alloc _) ⟨w9.heap.size, 0, none⟩ 1 1 [_] rfl rfl (one_cell (blk_new _ _)) (by intro u hu; simp at hu; subst hu; rfl) (by unfold maxLen; omega) (by omega) (by have := hg8.size; have := hg9.size; simp; omega) ?_; intro v' w10 hown' hgrow _)
          | fail)
        obtain ⟨ha, hb, hz, hs10⟩ := app_end2 hgr (grown_t2 hg8 hg9) (by omega) (by omega) ((hsr.kept hg8 (by simp)).kept hg9 (by simp)) hown9 hgrow
        go_roundw
        case rel => exact ⟨k + 1, by go_num, by omega, IntsR.snoc hxs hown', hb _ _ (by omega) (blk_fr' (blk_fr' bC hg8 (by simp)) hg9 (by simp)), hs10, ha, by have := hg8.size; have := hg9.size; omega⟩
        case measure => simp [intOf]; omega
      · obtain rfl : k = R := by omega
        go_wp2_with (first
          | (go_at_call 106; refine (srows_anyd n hn _).mono ?_; rw [hR]; rintro e w8 ⟨rfl, hg8⟩)
          | fail)
        refine (of_any n B _ hn _ (by rw [hR]; exact ⟨xs, hown.kept hg8 (by cases u7.ownBlock <;> simp), hxs⟩)).mono ?_
        rintro e w9 ⟨q1, rfl, hg9⟩
        replace bA := blk_fr' (blk_fr' bC hg8 (by simp)) hg9 (by simp)
        obtain ⟨k0, k1, k2, k3⟩ := res_cells bA
        go_wp2_with fail
        obtain ⟨y1, y2, y3⟩ := drw_end n q1 bA (grown_t2 (grown_t2 hgr (gr_some hg8)) (gr_some hg9)) ((hsr.kept hg8 (by simp)).kept hg9 (by simp)) hsb
        refine bodyPost_ret (results_c1 rfl _ _ w.heap.size 25 _ (0, 0) rfl y1 rfl) rfl ?_
        exact ⟨_, rfl, y2, y3⟩
  · go_wp2_with fail
    have bE := blk_new w3 (.cells #[] 2 (0, 0))
    have gE := World.grownBy_alloc w3 (.cells #[] 2 (0, 0)) none
    replace bA := blk_fr' bA gE (by simp)
    replace gA := grown_t2 gA (gr_some gE)
    replace hs3 := hs3.kept gE (by simp)
    have hzE : w3.heap.size < (w3.alloc (.cells #[] 2 (0, 0))).heap.size := by simp
    clear gE
    generalize w3.alloc (.cells #[] 2 (0, 0)) = wE at *
    generalize hB : w3.heap.size = B at *
    refine (srows_anyd n hn _).mono ?_
    rw [hR]
    rintro e w4 ⟨rfl, hg4⟩
    replace bA := blk_fr' bA hg4 (by simp)
    replace gA := grown_t2 gA (gr_some hg4)
    have hs4 := hs3.kept hg4 (by simp)
    have hz4 := hg4.size
    clear k0 k1 k2 k3 o0 o1
    replace bE := blk_fr' bE hg4 (by simp)
    clear hg4
    go_wp2_with fail
    refine (next_any sb R (by omega) (by omega) _ hs4).mono ?_
    rintro e w5 ⟨first, rfl, hfirst, hs5, hg5⟩
    replace bA := blk_fr' bA hg5 (by simp; omega)
    replace gA := grown_t2 gA hg5
    have hz5 := hg5.size
    replace bE := blk_fr' bE hg5 (by simp; omega)
    clear hg5 hs4
    go_wp2_with fail
    refine (srows_anyd n hn _).mono ?_
    rw [hR]
    rintro e w6 ⟨rfl, hg6⟩
    replace bA := blk_fr' bA hg6 (by simp)
    replace gA := grown_t2 gA (gr_some hg6)
    have hs6 := hs5.kept hg6 (by simp)
    have hz6 := hg6.size
    replace bE := blk_fr' bE hg6 (by simp)
    clear hg6
    go_wp2_with fail
    refine (next_any sb R (by omega) (by omega) _ hs6).mono ?_
    rintro e w7 ⟨second, rfl, hsecond, hs7, hg7⟩
    replace bA := blk_fr' bA hg7 (by simp; omega)
    replace gA := grown_t2 gA hg7
    have hz7 := hg7.size
    replace bE := blk_fr' bE hg7 (by simp; omega)
    clear hg7 hs6
    clear hs3 hs5 bB
    go_wp2_with fail
    go_loopw [10, 13] (fun v r wr => ∃ k : Nat, r = .int .i64 k ∧ k ≤ R ∧ IntsR wr B v k ∧ wr.heap[w.heap.size]? = some (.cells #[.int .i64 0, .int .i64 0] 25 (0, 0)) ∧ Src wr sb ∧ w.grownBy wr (some sb) ∧ B < wr.heap.size) (fun _ r _ => R - (intOf r).toNat)
    case atStart => exact ⟨0, rfl, Nat.zero_le _, ⟨[], ⟨rfl, .inr ⟨_, 0, #[], rfl, Nat.le_refl _, bE, Nat.le_refl _, Nat.zero_le _, rfl, rfl⟩⟩, by simp⟩, bA, hs7, gA, by omega⟩
    case round =>
      obtain ⟨k, rfl, hk, ⟨xs, hown, hxs⟩, bC, hsr, hgr, hsz⟩ := hrel
      by_cases hkn : k < R
      · generalize hA1 : bits .and .i64 (k : Int) (first : Int) = A1
        generalize hA2 : bits .and .i64 (k : Int) (second : Int) = A2
        by_cases h1 : A1 = (first : Int)
        · go_wp2_with (first
            | (go_at_call 106; refine (srows_anyd n hn _).mono ?_; rw [hR]; rintro e w8 ⟨rfl, hg8⟩; have hown8 := hown.kept hg8 (by cases u10.ownBlock <;> simp))
            | (at_builtin; refine wpList_append_own _ rfl (.tmp 100) (.tmp 101) 27 rfl B 2 i0 _ 1 8 Try.underlying27 hi hz0 hz1 hz2 rfl (by decide) _ _ _ rfl (hown8.alloc _) ⟨w8.heap.size, 0, none⟩ 1 1 [_] rfl rfl (one_cell (blk_new _ _)) (by intro u hu; simp at hu; subst hu; rfl) (by unfold maxLen; omega) (by omega) (by have := hg8.size; simp; omega) ?_; intro v' w10 hown' hgrow _)
            | fail)
          obtain ⟨ha, hb, hz, hs10⟩ := app_end2 hgr hg8 (by omega) (by omega) (hsr.kept hg8 (by simp)) hown8 hgrow
          go_roundw
          case rel => exact ⟨k + 1, by go_num, by omega, IntsR.snoc hxs hown', hb _ _ (by omega) (blk_fr' bC hg8 (by simp)), hs10, ha, by have := hg8.size; omega⟩
          case measure => simp [intOf]; omega
        · by_cases h2 : A2 = (second : Int)
          · go_wp2_with (first
              | (go_at_call 106; refine (srows_anyd n hn _).mono ?_; rw [hR]; rintro e w8 ⟨rfl, hg8⟩; have hown8 := hown.kept hg8 (by cases u10.ownBlock <;> simp))
              | (at_builtin; refine wpList_append_own _ rfl (.tmp 100) (.tmp 101) 27 rfl B 2 i0 _ 1 8 Try.underlying27 hi hz0 hz1 hz2 rfl (by decide) _ _ _ rfl (hown8.alloc _) ⟨w8.heap.size, 0, none⟩ 1 1 [_] rfl rfl (one_cell (blk_new _ _)) (by intro u hu; simp at hu; subst hu; rfl) (by unfold maxLen; omega) (by omega) (by have := hg8.size; simp; omega) ?_; intro v' w10 hown' hgrow _)
              | fail)
            obtain ⟨ha, hb, hz, hs10⟩ := app_end2 hgr hg8 (by omega) (by omega) (hsr.kept hg8 (by simp)) hown8 hgrow
            go_roundw
            case rel => exact ⟨k + 1, by go_num, by omega, IntsR.snoc hxs hown', hb _ _ (by omega) (blk_fr' bC hg8 (by simp)), hs10, ha, by have := hg8.size; omega⟩
            case measure => simp [intOf]; omega
          · have h1b : (A1 == (first : Int)) = false := by simpa using h1
            have h2b : (A2 == (second : Int)) = false := by simpa using h2
            go_wp2_with (first
              | (go_at_call 106; refine (srows_anyd n hn _).mono ?_; rw [hR]; rintro e w8 ⟨rfl, hg8⟩; have hown8 := hown.kept hg8 (by cases u10.ownBlock <;> simp))
              | (at_builtin; refine wpList_append_own _ rfl (.tmp 103) (.tmp 104) 27 rfl B 2 i0 _ 1 8 Try.underlying27 hi hz0 hz1 hz2 rfl (by decide) _ _ _ rfl (hown8.alloc _) ⟨w8.heap.size, 0, none⟩ 1 1 [_] rfl rfl (one_cell (blk_new _ _)) (by intro u hu; simp at hu; subst hu; rfl) (by unfold maxLen; omega) (by omega) (by have := hg8.size; simp; omega) ?_; intro v' w10 hown' hgrow _)
              | fail)
            obtain ⟨ha, hb, hz, hs10⟩ := app_end2 hgr hg8 (by omega) (by omega) (hsr.kept hg8 (by simp)) hown8 hgrow
            go_roundw
            case rel => exact ⟨k + 1, by go_num, by omega, IntsR.snoc hxs hown', hb _ _ (by omega) (blk_fr' bC hg8 (by simp)), hs10, ha, by have := hg8.size; omega⟩
            case measure => simp [intOf]; omega
      · obtain rfl : k = R := by omega
        go_wp2_with (first
          | (go_at_call 106; refine (srows_anyd n hn _).mono ?_; rw [hR]; rintro e w8 ⟨rfl, hg8⟩)
          | fail)
        refine (of_any n B _ hn _ (by rw [hR]; exact ⟨xs, hown.kept hg8 (by cases u10.ownBlock <;> simp), hxs⟩)).mono ?_
        rintro e w9 ⟨q1, rfl, hg9⟩
        replace bA := blk_fr' (blk_fr' bC hg8 (by simp)) hg9 (by simp)
        obtain ⟨k0, k1, k2, k3⟩ := res_cells bA
        go_wp2_with fail
        obtain ⟨y1, y2, y3⟩ := drw_end n q1 bA (grown_t2 (grown_t2 hgr (gr_some hg8)) (gr_some hg9)) ((hsr.kept hg8 (by simp)).kept hg9 (by simp)) hsb
        refine bodyPost_ret (results_c1 rfl _ _ w.heap.size 25 _ (0, 0) rfl y1 rfl) rfl ?_
        exact ⟨_, rfl, y2, y3⟩
  · go_wp2_with fail
    refine (known_any _).mono ?_
    rintro e w4 ⟨rfl, hkl, hg4, hks⟩
    replace bA := blk_fr' bA hg4 (by simp)
    replace bB := blk_fr' bB hg4 (by simp)
    replace gA := grown_t2 gA (gr_some hg4)
    have hs4 := hs3.kept hg4 (by simp)
    have hz4 := hg4.size
    generalize hkb : w3.heap.size = kb at *
    clear k0 k1 k2 k3 o0 o1 hg4
    go_wp2_with fail
    refine (next_any sb 14 (by omega) (by omega) _ hs4).mono ?_
    rintro e w5 ⟨x1, rfl, hx1, hs5, hg5⟩
    obtain ⟨str, hstr⟩ := hks x1 (by omega)
    have hcs := hg5.cell hstr (by simp; omega)
    replace bA := blk_fr' bA hg5 (by simp; omega)
    replace bB := blk_fr' bB hg5 (by simp; omega)
    replace gA := grown_t2 gA hg5
    have hz5 := hg5.size
    clear hg5 hs4
    go_wp2_with fail
    refine (read_anyd str _).mono ?_
    rintro e w6 ⟨p, q1, ok, rfl, hg6⟩
    replace bA := blk_fr' bA hg6 (by simp)
    replace bB := blk_fr' bB hg6 (by simp)
    replace gA := grown_t2 gA (gr_some hg6)
    have hs6 := hs5.kept hg6 (by simp)
    have hz6 := hg6.size
    have bC := blk_new w6 (.cells #[.int .i64 p, .int .i64 q1] 25 (0, 0))
    have gC := World.grownBy_alloc w6 (.cells #[.int .i64 p, .int .i64 q1] 25 (0, 0)) none
    replace bA := blk_fr' bA gC (by simp)
    replace bB := blk_fr' bB gC (by simp)
    replace gA := grown_t2 gA (gr_some gC)
    have hs7 := hs6.kept gC (by simp)
    obtain ⟨c0, c1, _, _⟩ := res_cells bC
    obtain ⟨k0, k1, k2, k3⟩ := res_cells bA
    obtain ⟨o0, o1, _, _⟩ := res_cells bB
    by_cases hpn : p = (n : Int)
    · subst hpn
      go_wp2_with fail
      obtain ⟨y1, y2, y3⟩ := drw_end n q1 bA gA hs7 hsb
      refine bodyPost_ret (results_c1 rfl _ _ w.heap.size 25 _ (0, 0) rfl y1 rfl) rfl ?_
      exact ⟨_, rfl, y2, y3⟩
    · go_wp2_with fail
      obtain ⟨y1, y2, y3⟩ := drw_end n q0 bA gA hs7 hsb
      refine bodyPost_ret (results_c1 rfl _ _ w.heap.size 25 _ (0, 0) rfl y1 rfl) rfl ?_
      exact ⟨_, rfl, y2, y3⟩
  · by_cases hn0 : 0 < n
    · obtain ⟨m, hm⟩ : ∃ m, m < n ∧ n < m + 2 := ⟨n - 1, by omega⟩
      have hmn : (n : Int) - 1 = (m : Int) := by omega
      obtain ⟨h16', hh2', h3', h4'⟩ := shN (show m ≤ 4 by omega)
      have hm3 : m ≤ 3 := by omega
      generalize hRm : R2 m = r at *
      have hwm : IntKind.i64.wrap (m : Int) = (m : Int) := wrap_id (by omega) (by omega)
      have hwr : IntKind.u64.wrap (r : Int) = (r : Int) := w_u64 (by omega) (by omega)
      go_wp2_with fail
      refine (fix_any m n q0 hn (by omega) _).mono ?_
      rintro e w4 ⟨q1, rfl, hg4⟩
      replace bA := blk_fr' bA hg4 (by simp)
      replace gA := grown_t2 gA (gr_some hg4)
      have hs4 := hs3.kept hg4 (by simp)
      clear k0 k1 k2 k3 o0 o1 hg4 hm
      have bC := blk_new w4 (.cells #[.int .i64 m, .int .i64 q1] 25 (0, 0))
      have gC := World.grownBy_alloc w4 (.cells #[.int .i64 m, .int .i64 q1] 25 (0, 0)) none
      replace bA := blk_fr' bA gC (by simp)
      replace gA := grown_t2 gA (gr_some gC)
      replace hs4 := hs4.kept gC (by simp)
      clear gC
      go_wp2_with fail
      generalize w4.alloc (.cells #[.int .i64 m, .int .i64 q1] 25 (0, 0)) = w5 at *
      obtain ⟨c0, c1, _, _⟩ := res_cells bC
      have hfd : ∀ (q2 : Int) (w : World), (Instr.field 25 (.agg #[.int .i64 m, .int .i64 q2]) 1).run Try.prog w = .ok (.int .i64 q2) w := fun _ _ => by kernel_rfl
      have bA1 := blk_fr' bA (drew_gr w5) (by simp)
      have bC1 := blk_fr' bC (drew_gr w5) (by simp)
      obtain ⟨d0, d1, _, _⟩ := res_cells bC1
      have gD := grown_t2 gA (gr_some (drew_gr w5))
      have hsD := hs4.kept (drew_gr w5) (by simp)
      go_region_with (first
        | (go_at_call 196; refine (dual_any m q1 (by omega) _).mono ?_; rintro e w6 ⟨q2, rfl, hg6⟩; have bA2 := blk_fr' bA1 hg6 (by simp); have bC2 := blk_fr' bC1 hg6 (by simp); obtain ⟨e0, e1, _, _⟩ := res_cells bC2)
        | (go_at_call 106; refine (srows_anyd m (by omega) _).mono ?_; rw [hRm]; rintro e w7 ⟨rfl, hg7⟩; have bA3 := blk_fr' bA2 hg7 (by simp); have bC3 := blk_fr' bC2 hg7 (by simp); obtain ⟨f0, f1, _, _⟩ := res_cells bC3; obtain ⟨k0, k1, k2, k3⟩ := res_cells bA3))
      all_goals go_wp2_with fail
      all_goals
        obtain ⟨y1, y2, y3⟩ := drw_end n (IntKind.i64.wrap (q1 + IntKind.i64.wrap (q2 * 2 ^ r))) bA3 (grown_t2 (grown_t2 gD (gr_some hg6)) (gr_some hg7)) ((hsD.kept hg6 (by simp)).kept hg7 (by simp)) hsb
        refine bodyPost_ret (results_c1 rfl _ _ w.heap.size 25 _ (0, 0) rfl y1 rfl) rfl ?_
        exact ⟨_, rfl, y2, y3⟩
    · obtain rfl : n = 0 := by omega
      go_wp2_with fail
      obtain ⟨y1, y2, y3⟩ := drw_end (0 : Nat) q0 bA gA hs3 hsb
      refine bodyPost_ret (results_c1 rfl _ _ w.heap.size 25 _ (0, 0) rfl y1 rfl) rfl ?_
      exact ⟨_, rfl, y2, y3⟩
  · go_wp2_with fail
    obtain ⟨y1, y2, y3⟩ := drw_end n q0 bA gA hs3 hsb
    refine bodyPost_ret (results_c1 rfl _ _ w.heap.size 25 _ (0, 0) rfl y1 rfl) rfl ?_
    exact ⟨_, rfl, y2, y3⟩
end

section
open Go.RowKit Go.IntWalk
theorem grn_refl (w : World) : w.grownBy w none := ⟨rfl, rfl, rfl, Nat.le_refl _, fun _ _ _ => rfl⟩
theorem has_anyd (r s : Int) (w : World) : Calls Try.prog 189 #[.int .i64 r, .int .i64 s] w fun e w' => ∃ ok : Bool, e = .returned (.bool ok) ∧ w' = w := by
  go_enter Try.func189, Try.ntmps189
  go_wp2_with fail
  go_ret
  exact ⟨_, rfl, rfl⟩
theorem IntsR.shape {w : World} {b n : Nat} {v : Value} (h : IntsR w b v n) : ∃ o c, v = .slice o n c ∧ ∀ i, i < n → ∃ (g : Nat) (z : Int), o = some ⟨g, 0, none⟩ ∧ w.cell? ⟨g, i, none⟩ = some (.int .i64 z) := by
  by_cases hn : 0 < n
  · obtain ⟨g, cp, rfl, _, _, hc⟩ := h.read hn
    exact ⟨_, _, rfl, fun i hi => by obtain ⟨z, hz⟩ := hc i hi; exact ⟨g, z, rfl, hz⟩⟩
  · obtain ⟨xs, h1, _⟩ := h
    obtain ⟨o, c, rfl⟩ := own_shape h1
    exact ⟨_, _, rfl, fun i hi => by omega⟩
theorem made_any (n b m : Nat) (v : Value) (hn : n ≤ 4) (hm : m ≤ 16) (w : World) (hv : IntsR w b v m) :
    Calls Try.prog 123 #[.int .i64 n, v] w fun e w' => ∃ q : Int, e = .returned (.agg #[.int .i64 n, .int .i64 q]) ∧ w.grownBy w' none := by
  obtain ⟨i0, hi, hz0, hz1, hz2⟩ := info_parts Try.info2
  obtain ⟨h16, hh2, h3, h4⟩ := shN hn
  obtain ⟨o, cp, rfl, hc⟩ := hv.shape
  clear hv
  generalize hR : R2 n = R at *
  go_enter Try.func123, Try.ntmps123
  have bA := blk_alloc (.cells #[] 2 (0, 0)) (blk_new w (.cells #[.int .i64 0, .int .i64 0] 25 (0, 0)))
  have bB := blk_new (w.alloc (.cells #[.int .i64 0, .int .i64 0] 25 (0, 0))) (.cells #[] 2 (0, 0))
  rw [show (w.alloc (.cells #[.int .i64 0, .int .i64 0] 25 (0, 0))).heap.size = w.heap.size + 1 by simp] at bB
  have gA : w.grownBy ((w.alloc (.cells #[.int .i64 0, .int .i64 0] 25 (0, 0))).alloc (.cells #[] 2 (0, 0))) none := grown_t2 (World.grownBy_alloc _ _ none) (World.grownBy_alloc _ _ none)
  go_wp2_with fail
  generalize (w.alloc (.cells #[.int .i64 0, .int .i64 0] 25 (0, 0))).alloc (.cells #[] 2 (0, 0)) = wA at *
  go_loopw [5, 6] (fun v r wr => ∃ k : Nat, r = .int .i64 k ∧ k ≤ R ∧ IntsR wr (w.heap.size + 1) v k ∧ wr.heap[w.heap.size]? = some (.cells #[.int .i64 0, .int .i64 0] 25 (0, 0)) ∧ w.grownBy wr none ∧ w.heap.size < wr.heap.size) (fun _ r _ => R - (intOf r).toNat)
  case atStart => exact ⟨0, rfl, Nat.zero_le _, ⟨[], ⟨rfl, .inr ⟨_, 0, #[], rfl, Nat.le_refl _, bB, Nat.le_refl _, Nat.zero_le _, rfl, rfl⟩⟩, by simp⟩, bA, gA, lt_of_block bA⟩
  case round =>
    obtain ⟨k, rfl, hk, ⟨xs, hown, hxs⟩, bC, hgr, hsz⟩ := hrel
    by_cases hkn : k < R
    · go_wp2_with (first
        | (go_at_call 106; refine (srows_anyd n hn _).mono ?_; rw [hR]; rintro e w1 ⟨rfl, hg1⟩; have hown1 := hown.kept hg1 (by cases u5.ownBlock <;> simp))
        | fail)
      have hgr1 := grown_t2 hgr hg1
      go_loopw [7, 8] (fun x i wr => ∃ (j : Nat) (z : Int), i = .int .i64 j ∧ j ≤ m ∧ x = .int .i64 z ∧ wr = w1) (fun _ i _ => m - (intOf i).toNat)
      case atStart => exact ⟨0, 0, rfl, Nat.zero_le _, rfl, rfl⟩
      case round =>
        obtain ⟨j, z, rfl, hj, rfl, hwq⟩ := hrel
        subst hwq
        by_cases hjm : j < m
        · obtain ⟨g, y, rfl, hy⟩ := hc j hjm
          have hcy := hgr1.cell hy (by simp)
          go_wp2_with (first
            | (go_at_call 189; refine (has_anyd _ _ _).mono ?_; rintro e w2 ⟨ok, rfl, rfl⟩)
            | fail)
          all_goals
            go_roundw
            case rel => first | exact ⟨j + 1, _, by go_num, by omega, rfl, trivial⟩ | exact ⟨j + 1, _, by go_num, by omega, rfl, rfl⟩
            case measure => simp [intOf]; omega
        · obtain rfl : j = m := by omega
          go_wp2_with (first
            | (at_builtin; refine wpList_append_own _ rfl (.tmp 28) (.tmp 30) 27 rfl (w.heap.size + 1) 2 i0 _ 1 8 Try.underlying27 hi hz0 hz1 hz2 rfl (by decide) _ _ _ rfl (hown1.alloc _) ⟨wr.heap.size, 0, none⟩ 1 1 [_] rfl rfl (one_cell (blk_new _ _)) (by intro u hu; simp at hu; subst hu; rfl) (by unfold maxLen; omega) (by omega) (by have := hg1.size; simp; omega) ?_; intro v' w3 hown' hgrow _)
            | fail)
          obtain ⟨ha, hb, hz⟩ := app_end hgr hg1 (by omega) (by have := hg1.size; omega) hown1 hgrow
          go_roundw
          case rel => exact ⟨k + 1, by go_num, by omega, IntsR.snoc hxs hown', hb _ _ (by omega) (blk_fr' bC hg1 (by simp)), ha, by have := hg1.size; omega⟩
          case measure => simp [intOf]; omega
    · obtain rfl : k = R := by omega
      go_wp2_with (first
        | (go_at_call 106; refine (srows_anyd n hn _).mono ?_; rw [hR]; rintro e w1 ⟨rfl, hg1⟩)
        | fail)
      have b1 := blk_fr' bC hg1 (by simp)
      refine (of_any n (w.heap.size + 1) _ hn _ (by rw [hR]; exact ⟨xs, hown.kept hg1 (by cases u5.ownBlock <;> simp), hxs⟩)).mono ?_
      rintro e w2 ⟨q, rfl, hg2⟩
      have b2 := blk_fr' b1 hg2 (by simp)
      obtain ⟨k0, k1, k2, k3⟩ := res_cells b2
      go_wp2_with fail
      obtain ⟨hp, hq⟩ := ret_pair (n := n) (q := q) _ b2 (grown_t2 (grown_t2 hgr hg1) hg2) (Nat.le_refl _)
      refine bodyPost_ret (results_c1 rfl _ _ w.heap.size 25 _ (0, 0) rfl hp rfl) rfl ?_
      exact ⟨q, rfl, hq⟩
theorem drawof7_any (sb n : Nat) (hn : n ≤ 4) (w : World) (hs : Src w sb) (hsb : sb < w.heap.size) :
    Calls Try.prog 181 #[.pointer (some ⟨sb, 0, none⟩), .int .i64 n] w fun e w' => ∃ q : Int, e = .returned (.agg #[.int .i64 n, .int .i64 q]) ∧ Src w' sb ∧ w.grownBy w' (some sb) := by
  obtain ⟨i0, hi, hz0, hz1, hz2⟩ := info_parts Try.info2
  obtain ⟨h16, hh2, h3, h4⟩ := shN hn
  have bA := blk_new w (.cells #[.int .i64 0, .int .i64 0] 25 (0, 0))
  have gA := World.grownBy_alloc w (.cells #[.int .i64 0, .int .i64 0] 25 (0, 0)) none
  have hsA := hs.kept gA (by simp)
  have hyA := gA.size
  go_enter Try.func181, Try.ntmps181
  go_wp2_with fail
  generalize w.alloc (.cells #[.int .i64 0, .int .i64 0] 25 (0, 0)) = wA at *
  refine (next_any sb 4 (by omega) (by omega) _ hsA).mono ?_
  rintro e w1 ⟨x, rfl, hx, hs1, hg1⟩
  replace bA := blk_fr' bA hg1 (by simp; omega)
  replace gA := grown_t2 (gr_some (k := sb) gA) hg1
  have hy1 := hg1.size
  have hyw := gA.size
  have hyl := lt_of_block bA
  clear hg1 hsA
  by_cases hx0 : x = 0
  · subst hx0
    go_wp2_with fail
    refine (drawof_any sb n hn _ hs1 (by omega)).mono ?_
    rintro e w2 ⟨q, rfl, hs2, hg2⟩
    replace bA := blk_fr' bA hg2 (by simp; omega)
    obtain ⟨k0, k1, k2, k3⟩ := res_cells bA
    go_wp2_with fail
    obtain ⟨y1, y2, y3⟩ := drw_end n q bA (grown_t2 gA hg2) hs2 hsb
    refine bodyPost_ret (results_c1 rfl _ _ w.heap.size 25 _ (0, 0) rfl y1 rfl) rfl ?_
    exact ⟨_, rfl, y2, y3⟩
  · go_wp2_with fail
    have bE := blk_new w1 (.cells #[] 2 (0, 0))
    have gE := World.grownBy_alloc w1 (.cells #[] 2 (0, 0)) none
    replace bA := blk_fr' bA gE (by simp)
    replace gA := grown_t2 gA (gr_some gE)
    replace hs1 := hs1.kept gE (by simp)
    have hzE : w1.heap.size < (w1.alloc (.cells #[] 2 (0, 0))).heap.size := by simp
    clear gE
    generalize w1.alloc (.cells #[] 2 (0, 0)) = wE at *
    generalize hB : w1.heap.size = B at *
    refine (next_any sb 5 (by omega) (by omega) _ hs1).mono ?_
    rintro e w2 ⟨t, rfl, ht, hs2, hg2⟩
    replace bA := blk_fr' bA hg2 (by simp; omega)
    replace bE := blk_fr' bE hg2 (by simp; omega)
    replace gA := grown_t2 gA hg2
    have hz3 := hg2.size
    clear hg2 hs1
    go_wp2_with fail
    go_loopw [5, 6] (fun v r wr => ∃ k m : Nat, r = .int .i64 k ∧ m + k ≤ 4 ∧ IntsR wr B v m ∧ wr.heap[w.heap.size]? = some (.cells #[.int .i64 0, .int .i64 0] 25 (0, 0)) ∧ Src wr sb ∧ w.grownBy wr (some sb) ∧ B < wr.heap.size) (fun _ r _ => (intOf r).toNat)
    case atStart => exact ⟨t, 0, rfl, by omega, ⟨[], ⟨rfl, .inr ⟨_, 0, #[], rfl, Nat.le_refl _, bE, Nat.le_refl _, Nat.zero_le _, rfl, rfl⟩⟩, by simp⟩, bA, hs2, gA, by omega⟩
    case round =>
      obtain ⟨k, m, rfl, hk, ⟨xs, hown, hxs⟩, bC, hsr, hgr, hsz⟩ := hrel
      by_cases hkn : 0 < k
      · have hk1 : (k : Int) - 1 = ((k - 1 : Nat) : Int) := by omega
        go_wp2_with (first
          | (go_at_call 106; refine (srows_anyd n hn _).mono ?_; rintro e w3 ⟨rfl, hg3⟩; have hs3 := hsr.kept hg3 (by simp))
          | (go_at_call 120; refine (next_any sb _ (by omega) (by omega) _ hs3).mono ?_; rintro e w4 ⟨z, rfl, hz, hs4, hg4⟩; have hown4 := (hown.kept hg3 (by cases u5.ownBlock <;> simp)).kept hg4 (by cases hv : u5.ownBlock with | none => simp | some b => right; simp; have := (own_ge hown hv).1; omega))
          | (at_builtin; refine wpList_append_own _ rfl (.tmp 20) (.tmp 25) 27 rfl B 2 i0 _ 1 8 Try.underlying27 hi hz0 hz1 hz2 rfl (by decide) _ _ _ rfl (hown4.alloc _) ⟨w4.heap.size, 0, none⟩ 1 1 [_] rfl rfl (one_cell (blk_new _ _)) (by intro u hu; simp at hu; subst hu; rfl) (by unfold maxLen; omega) (by omega) (by have := hg3.size; have := hg4.size; simp; omega) ?_; intro v' w10 hown' hgrow _)
          | fail)
        have hg34 := grown_t2 (gr_some hg3) hg4
        obtain ⟨ha, hb, hz, hs10⟩ := app_end2 (grown_t2 hgr hg34) (grn_refl _) (by omega) (by omega) hs4 hown4 hgrow
        go_roundw
        case rel => exact ⟨k - 1, m + 1, by go_num, by omega, IntsR.snoc hxs hown', hb _ _ (by omega) (blk_fr' bC hg34 (by simp; omega)), hs10, ha, by have := hg34.size; omega⟩
        case measure => simp [intOf]; omega
      · obtain rfl : k = 0 := by omega
        go_wp2_with fail
        refine (made_any n B m _ hn (by omega) _ ⟨xs, hown, hxs⟩).mono ?_
        rintro e w9 ⟨q, rfl, hg9⟩
        replace bA := blk_fr' bC hg9 (by simp)
        obtain ⟨k0, k1, k2, k3⟩ := res_cells bA
        go_wp2_with fail
        obtain ⟨y1, y2, y3⟩ := drw_end n q bA (grown_t2 hgr (gr_some hg9)) (hsr.kept hg9 (by simp)) hsb
        refine bodyPost_ret (results_c1 rfl _ _ w.heap.size 25 _ (0, 0) rfl y1 rfl) rfl ?_
        exact ⟨_, rfl, y2, y3⟩
theorem list_cellsP {w : World} {T : TypeId} (P : Int → Prop) (L : List Value) (h : ∀ v ∈ L, ∃ z : Int, P z ∧ v = .int .i64 z) : ∀ i, i < L.length → ∃ z : Int, P z ∧ (w.alloc (.cells L.toArray T (0, 0))).cell? ⟨w.heap.size, i, none⟩ = some (.int .i64 z) := fun i hi => by
  obtain ⟨z, hz, he⟩ := h _ (List.getElem_mem hi)
  exact ⟨z, hz, cell_blk (blk_new _ _) (by rw [← he]; simp [hi])⟩
end

section
open Go.RowKit Go.IntWalk
theorem draw7_any (sb : Nat) (w : World) (hs : Src w sb) (hsb : sb < w.heap.size) :
    Calls Try.prog 93 #[.pointer (some ⟨sb, 0, none⟩)] w fun e w' => ∃ p q : Int, e = .returned (.agg #[.int .i64 p, .int .i64 q]) ∧ Src w' sb ∧ w.grownBy w' (some sb) := by
  have bA := blk_new w (.cells #[.int .i64 0, .int .i64 0] 25 (0, 0))
  have gA := World.grownBy_alloc w (.cells #[.int .i64 0, .int .i64 0] 25 (0, 0)) none
  have hsA := hs.kept gA (by simp)
  have hyA := gA.size
  have e1 : (w.alloc (.cells #[.int .i64 0, .int .i64 0] 25 (0, 0))).heap.size = w.heap.size + 1 := by simp
  go_enter Try.func93, Try.ntmps93
  go_wp2_with fail
  generalize w.alloc (.cells #[.int .i64 0, .int .i64 0] 25 (0, 0)) = wA at *
  rw [← e1]
  refine (pick_any sb wA.heap.size 7 7 (fun z => 0 ≤ z ∧ z ≤ 4) (by omega) (by omega) (by omega) _ (hsA.kept (World.grownBy_alloc _ _ none) (by simp)) (list_cellsP _ [.int .i64 0, .int .i64 1, .int .i64 2, .int .i64 3, .int .i64 3, .int .i64 4, .int .i64 4] (by simp))).mono ?_
  rintro e w1 ⟨z, ⟨hz0, hz4⟩, rfl, hs1, hg1⟩
  obtain ⟨n, rfl⟩ := Int.eq_ofNat_of_zero_le hz0
  have hn4 : n ≤ 4 := by omega
  have gE := World.grownBy_alloc wA (.cells #[.int .i64 0, .int .i64 1, .int .i64 2, .int .i64 3, .int .i64 3, .int .i64 4, .int .i64 4] 2 (0, 0)) none
  replace hg1 := grown_t2 (gr_some (k := sb) gE) hg1
  replace bA := blk_fr' bA hg1 (by simp; omega)
  replace gA := grown_t2 (gr_some (k := sb) gA) hg1
  have hyw := gA.size
  clear hg1 hsA gE
  go_wp2_with fail
  refine (drawof7_any sb n hn4 _ hs1 (by omega)).mono ?_
  rintro e w2 ⟨q, rfl, hs2, hg2⟩
  replace bA := blk_fr' bA hg2 (by simp; omega)
  replace gA := grown_t2 gA hg2
  have hyw2 := gA.size
  clear hg2 hs1
  go_wp2_with fail
  refine (bad_any sb n q hn4 _ hs2 (by omega)).mono ?_
  rintro e w3 ⟨p', q', rfl, hs3, hg3⟩
  replace bA := blk_fr' bA hg3 (by simp; omega)
  replace gA := grown_t2 gA hg3
  obtain ⟨k0, k1, k2, k3⟩ := res_cells bA
  go_wp2_with fail
  obtain ⟨y1, y2, y3⟩ := drw_end p' q' bA gA hs3 hsb
  refine bodyPost_ret (results_c1 rfl _ _ w.heap.size 25 _ (0, 0) rfl y1 rfl) rfl ?_
  exact ⟨_, _, rfl, y2, y3⟩
end

section
open Go.RowKit Go.IntWalk
def BytesR (w : World) (v : Value) : Prop := ∃ (oc : Option Addr) (n cc : Nat), v = .slice oc n cc ∧ n ≤ 4096 ∧ (0 < n → ∃ g o : Nat, oc = some ⟨g, o, none⟩ ∧ g < w.heap.size ∧ ∀ i, i < n → ∃ x : Nat, x < 256 ∧ w.cell? ⟨g, o + i, none⟩ = some (.int .u8 x))
theorem BytesR.kept {w w' : World} {v : Value} (h : BytesR w v) (hg : w.grownBy w' none) : BytesR w' v := by
  obtain ⟨oc, n, cc, h1, h2, h3⟩ := h
  refine ⟨oc, n, cc, h1, h2, fun hn => ?_⟩
  obtain ⟨g, o, h4, h5, h6⟩ := h3 hn
  refine ⟨g, o, h4, Nat.lt_of_lt_of_le h5 hg.size, fun i hi => ?_⟩
  obtain ⟨x, hx, hc⟩ := h6 i hi
  exact ⟨x, hx, hg.cell hc (by simp)⟩
theorem from_b (v : Value) (w : World) (h : BytesR w v) : Calls Try.prog 94 #[v] w fun e w' => ∃ sb, e = .returned (.pointer (some ⟨sb, 0, none⟩)) ∧ w.heap.size ≤ sb ∧ sb < w'.heap.size ∧ Src w' sb ∧ w.grownBy w' none := by
  obtain ⟨oc, n, cc, rfl, h2, h3⟩ := h
  exact from_any oc n cc h2 w h3
theorem grown_dn {a b c : World} {sb : Nat} (h1 : a.grownBy b none) (h2 : b.grownBy c (some sb)) (hk : a.heap.size ≤ sb) : a.grownBy c none :=
  ⟨h2.os.trans h1.os, h2.tape.trans h1.tape, h2.output.trans h1.output, Nat.le_trans h1.size h2.size, fun j hj _ => (h2.block j (Nat.lt_of_lt_of_le hj h1.size) (fun e => by cases e; omega)).trans (h1.block j hj (by simp))⟩
end

section
open Go.RowKit Go.IntWalk
theorem ret_pq {w w2 : World} (p q : Int) (hb : w2.heap[w.heap.size]? = some (.cells #[.int .i64 0, .int .i64 0] 25 (0, 0))) (hg : w.grownBy w2 none) :
    ((w2.setCell ⟨w.heap.size, 0, none⟩ (.int .i64 p)).setCell ⟨w.heap.size, 1, none⟩ (.int .i64 q)).heap[w.heap.size]? = some (.cells #[.int .i64 p, .int .i64 q] 25 (0, 0)) ∧ w.grownBy ((w2.setCell ⟨w.heap.size, 0, none⟩ (.int .i64 p)).setCell ⟨w.heap.size, 1, none⟩ (.int .i64 q)) none :=
  ⟨two_set1 (two_set0 hb), below_grown ((((Below.refl w.heap.size w).grown hg (Nat.le_refl _) (fun k hk => by cases hk)).setCell (Nat.le_refl _) _).setCell (Nat.le_refl _) _)⟩
end

section
open Go.RowKit Go.IntWalk
theorem app_dn {w wr w1 w3 : World} {B n sb : Nat} {v : Value} {xs : List Value} {X : Obj} (hgr : w.grownBy wr none) (hg1 : wr.grownBy w1 none) (hB : w.heap.size ≤ B) (hsB : sb < B) (hs1 : Src w1 sb) (hown1 : w1.ownsRow B 2 1 v n xs) (hgrow : (w1.alloc X).grownBy w3 v.ownBlock) :
    w.grownBy w3 none ∧ (∀ j o, j < B → w1.heap[j]? = some o → w3.heap[j]? = some o) ∧ w1.heap.size < w3.heap.size ∧ Src w3 sb := by
  have hk : ∀ k, v.ownBlock = some k → B ≤ k := fun k hk => (own_ge hown1 hk).1
  refine ⟨?_, fun j o hj ho => blk_fr' (blk_alloc _ ho) hgrow (fun he => by have := hk _ he.symm; omega), ?_, (hs1.kept (World.grownBy_alloc w1 X none) (by simp)).kept hgrow (fun k he => by have := hk _ he; omega)⟩
  · have h1 := grown_t2 (grown_t2 hgr hg1) (World.grownBy_alloc w1 X none)
    cases hv : v.ownBlock with
    | none => rw [hv] at hgrow; exact grown_t2 h1 hgrow
    | some k => rw [hv] at hgrow; exact grown_dn h1 hgrow (by have := hk _ hv; omega)
  · have := hgrow.size
    simp at this; omega
theorem own_kept {w w' : World} {B sb n : Nat} {v : Value} {xs : List Value} (h : w.ownsRow B 2 1 v n xs) (hg : w.grownBy w' (some sb)) (hsb : sb < B) : w'.ownsRow B 2 1 v n xs :=
  h.kept hg (by cases hv : v.ownBlock with | none => simp | some b => right; simp; have := (own_ge h hv).1; omega)
theorem IntsR.kept2 {w w' : World} {b n : Nat} {v : Value} {row : Option Nat} (h : IntsR w b v n) (hg : w.grownBy w' row) (hr : v.ownBlock = none ∨ v.ownBlock ≠ row) : IntsR w' b v n := by
  obtain ⟨xs, h1, h2⟩ := h
  exact ⟨xs, h1.kept hg hr, h2⟩
end

section
open Go.RowKit Go.IntWalk
end

section
open Go.RowKit Go.IntWalk
theorem vr_b2 {ρ : Nat → Nat} {m : Mp} {a : Bool} {b : Int} {u : Value} (h : VR ρ m (.tup [.bool a, .int .i64 b]) u) : u = .tuple #[.bool a, .int .i64 b] := by
  simp only [VR, VRL] at h
  obtain ⟨cs, rfl, u1, t1, e1, rfl, u2, t2, rfl, rfl, rfl⟩ := h
  obtain rfl : cs = #[.bool a, .int .i64 b] := by rw [← Array.toArray_toList (xs := cs), e1]
  rfl
theorem vr_i2 {ρ : Nat → Nat} {m : Mp} {a b : Int} {u : Value} (h : VR ρ m (.tup [.int .i64 a, .int .i64 b]) u) : u = .tuple #[.int .i64 a, .int .i64 b] := by
  simp only [VR, VRL] at h
  obtain ⟨cs, rfl, u1, t1, e1, rfl, u2, t2, rfl, rfl, rfl⟩ := h
  obtain rfl : cs = #[.int .i64 a, .int .i64 b] := by rw [← Array.toArray_toList (xs := cs), e1]
  rfl
theorem vr_ai {ρ : Nat → Nat} {m : Mp} {a b c : Int} {u : Value} (h : VR ρ m (.tup [.agg [.int .i64 a, .int .i64 b], .int .i64 c]) u) : u = .tuple #[.agg #[.int .i64 a, .int .i64 b], .int .i64 c] := by
  simp only [VR, VRL] at h
  obtain ⟨cs, rfl, u1, t1, e1, ⟨ds, rfl, u3, t3, e3, rfl, u4, t4, rfl, rfl, rfl⟩, u2, t2, rfl, rfl, rfl⟩ := h
  obtain rfl : ds = #[.int .i64 a, .int .i64 b] := by rw [← Array.toArray_toList (xs := ds), e3]
  obtain rfl : cs = #[.agg #[.int .i64 a, .int .i64 b], .int .i64 c] := by rw [← Array.toArray_toList (xs := cs), e1]
  rfl
theorem vr_fn1 (p t : Int) {ρ : Nat → Nat} {m : Mp} : VRL ρ m [.agg [.int .i64 p, .int .i64 t]] [.agg #[.int .i64 p, .int .i64 t]] := by
  simp only [VR, VRL]
  exact ⟨_, _, rfl, ⟨#[.int .i64 p, .int .i64 t], rfl, _, _, rfl, rfl, _, _, rfl, rfl, rfl⟩, rfl⟩
theorem vr_e2 {ρ : Nat → Nat} {m : Mp} {b : Int} {u : Value} (h : VR ρ m (.tup [.nils, .int .i64 b]) u) : u = .tuple #[.slice none 0 0, .int .i64 b] := by
  simp only [VR, VRL] at h
  obtain ⟨cs, rfl, u1, t1, e1, rfl, u2, t2, rfl, rfl, rfl⟩ := h
  obtain rfl : cs = #[.slice none 0 0, .int .i64 b] := by rw [← Array.toArray_toList (xs := cs), e1]
  rfl
theorem ints_z (L : List Nat) : ints L = zints (L.map fun x => ((x : Nat) : Int)) := by simp [ints, zints, List.map_map, Function.comp_def]
end
section
open Go.RowKit Go.IntWalk
theorem RdV.shape {w : World} {b : Nat} {v : Value} {L : List Int} (h : RdV w b v L) : ∃ o cp, v = .slice o L.length cp ∧ ∀ i, i < L.length → ∃ g, o = some ⟨g, 0, none⟩ ∧ w.cell? ⟨g, i, none⟩ = some (.int .i64 (L.getD i 0)) := by
  rcases h with ⟨rfl, o, rfl⟩ | ⟨g, cp, rfl, _, h⟩
  · exact ⟨o, 0, rfl, fun i hi => absurd hi (by simp)⟩
  · exact ⟨_, cp, rfl, fun i hi => ⟨g, rfl, h.cell hi⟩⟩
end
section
open Go.RowKit Go.IntWalk
theorem c_big (o : Option Addr) (n cc : Nat) (w : World) : Calls Try.prog 7 #[.slice o n cc] w fun e w' => e = .returned (.bool (decide (4096 < n))) ∧ w' = w := by
  have h : decide ((4096 : Int) < (n : Int)) = decide (4096 < n) := by rw [decide_eq_decide]; omega
  go_enter Try.func7, Try.ntmps7
  go_wp2_with fail
  go_ret
  exact ⟨rfl, rfl⟩
end
section
open Go.RowKit Go.IntWalk
theorem c_like (u v : Value) (L : List Int) (b b' : Nat) (hL : L.length ≤ 16) (w : World) (hu : RdV w b u L) (hv : RdV w b' v L) : Calls Try.prog 11 #[u, v] w fun e w' => e = .returned (.bool true) ∧ w.grownBy w' none := by
  obtain ⟨o1, cp1, rfl, h1⟩ := hu.shape
  obtain ⟨o2, cp2, rfl, h2⟩ := hv.shape
  clear hu hv
  generalize L.length = n at *
  go_enter Try.func11, Try.ntmps11
  go_wp2_with fail
  go_loopw [5] (fun i wr => ∃ k : Nat, i = .int .i64 k ∧ k ≤ n ∧ w.grownBy wr none) (fun i _ => n - (intOf i).toNat)
  case atStart => exact ⟨0, rfl, Nat.zero_le _, grn_refl w⟩
  case round =>
    obtain ⟨k, rfl, hk, hgr⟩ := hrel
    by_cases hkn : k < n
    · obtain ⟨g1, rfl, c1⟩ := h1 k hkn
      obtain ⟨g2, rfl, c2⟩ := h2 k hkn
      have d1 := (grown_t2 hgr (drew_gr wr)).cell c1 (by simp)
      have d2 := (grown_t2 hgr (drew_gr wr)).cell c2 (by simp)
      have e1 := hgr.cell c1 (by simp)
      have e2 := hgr.cell c2 (by simp)
      generalize L.getD k 0 = x at *
      go_wp2_with fail
      go_region
      all_goals go_wp2_with fail
      all_goals
        go_roundw
        case rel => exact ⟨k + 1, by go_num, by omega, grown_t2 hgr (drew_gr wr)⟩
        case measure => simp [intOf]; omega
    · obtain rfl : k = n := by omega
      go_wp2_with fail
      go_ret
      exact ⟨rfl, hgr⟩
end
-- impl.DualOf
def m14 : MC := (.seq (.region [⟨(.box (.t 0)), (some 1), none⟩, ⟨(.alloc [(.int .i64 0), (.int .i64 0)]), (some 2), none⟩, ⟨(.mov (.k (.int .i64 0))), (some 3), none⟩] false) (.seq (.seq (.region [⟨(.load (some 2) (.t 1)), (some 4), none⟩, ⟨(.call 95 [(.t 4)]), (some 5), none⟩, ⟨(.un .not (.t 5)), (some 6), none⟩] false) (.cond (.t 6) (.seq (.region [⟨(.build [(.int .i64 0), (.int .i64 0)] []), (some 7), none⟩, ⟨(.store 2 (.t 2) (.t 7)), none, none⟩, ⟨(.mov (.k (.int .i64 1))), (some 3), none⟩] false) .ret) .skip)) (.seq (.region [⟨(.load (some 2) (.t 1)), (some 8), none⟩, ⟨(.call 116 [(.t 8)]), (some 9), none⟩, ⟨(.store 2 (.t 2) (.t 9)), none, none⟩, ⟨(.mov (.k (.int .i64 0))), (some 3), none⟩] false) .ret)))
theorem has14 : Has cx 14 10 m14 [(.cell 2 (some 2)), (.tmp 3)] :=
  ⟨⟨Try.f14, Try.f14.body.getD .skip, by kernel_rfl, by kernel_rfl, by kernel_rfl, by kernel_rfl, by kernel_rfl, by kernel_rfl⟩⟩
theorem ev14 (n b : Nat) (h1 : isFn n b = true) (hn : n ≤ 4) (hb : b < 65536) : Ev cx 14 [.agg [.int .i64 n, .int .i64 b]] [] (.tup [.agg [.int .i64 n, .int .i64 (pk (dualG n b) (R2 n) : Nat)], .int .i64 0]) [] := by
  have e1 := ev95 n b
  rw [h1] at e1
  have e2 := ev116 n b hn hb
  refine has14.eev rfl rfl ?_
  unfold m14
  repeat' (first
    | (refine g_op ?_; first
      | refine ep_mov rfl ?_ | refine sp_loadN rfl rfl rfl rfl rfl ?_
      | refine ep_call0 rfl (by first | exact e1 | exact e2) rfl rfl ?_
      | refine sp_call rfl rfl rfl rfl (by first | exact e1 | exact e2) ⟨rfl, rfl, rfl, rfl⟩ rfl rfl rfl ?_
      | refine sp_store rfl rfl rfl rfl rfl rfl rfl rfl rfl rfl ?_ | refine ep_not rfl ?_ | refine sp_box rfl rfl rfl rfl rfl ?_ | refine sp_alloc rfl rfl ?_ | refine sp_build rfl rfl ?_)
    | (refine g_ops ?_; first | refine eo_none ?_ | refine eo_nil ?_)
    | (refine g_code ?_; first | refine ec_seq ?_ | refine ec_region ?_ | refine ec_skip ?_ | refine ec_ret ?_ | refine ec_condT rfl ?_ | refine ec_condF rfl ?_ | refine ec_condTH rfl (by assumption) ?_ | refine ec_condFH rfl (by assumption) ?_)
    | refine ek_seqN ?_ | refine ek_seqR ?_)
  refine sfin (.inr rfl) (by rfl) (by rfl) (by exact ⟨rfl, rfl, rfl⟩) (by rfl) (by rfl) (by rfl) (by first | rfl | (simp; done) | (simp [ints, prs]; done))
theorem lpix_frn1 (n : Nat) (hn : n ≤ 4) (o : Out) (ho : (match firstF (fun i => !(fun _ => false) i) 0 (0) with | none => (⟨.exit 0, [], [⟨[.int .i64 (n : Nat)], 1, 0, some 0, true⟩]⟩ : Out) | some x => ⟨.ret, [(4, .int .i64 (x : Nat))], [⟨[.int .i64 (n : Nat)], 1, 0, some 0, true⟩]⟩) = o) :
    LpS cx 19 1 m188_0 [(0, .nils), (1, .fn 109 [.ptr 0 0]), (7, .int .i64 (0 : Nat)), (8, .int .i64 (0 : Nat))] [⟨[.int .i64 (n : Nat)], 1, 0, some 0, true⟩] o.x o.e o.h := by
  refine lp_brk (0) (fun i => !(fun _ => false) i) (fun _ => ()) (fun i _ => [(0, .nils), (1, .fn 109 [.ptr 0 0]), (7, .int .i64 (0 : Nat)), (8, .int .i64 (i : Nat))]) (fun i _ => [⟨[.int .i64 (n : Nat)], 1, 0, some 0, true⟩]) (fun _ => ⟨.exit 0, [], [⟨[.int .i64 (n : Nat)], 1, 0, some 0, true⟩]⟩) (fun i _ => ⟨.ret, [(4, .int .i64 (i : Nat))], [⟨[.int .i64 (n : Nat)], 1, 0, some 0, true⟩]⟩) ?_ ?_ ?_ (0) 0 o (by omega) (fun h => by rw [← ho, firstF_none fun x h1 h2 => h x h1 (by omega)]) (fun x h1 h2 h3 h4 => by rw [← ho, firstF_some h1 (by omega) h3 h4])
  · intro i s hi hs hp
    exact absurd hi (by simp)
  · intro i s hi hs hp
    exact absurd hi (by simp)
  · intro s hs
    have hlt : decide (((0 : Nat) : Int) < (0 : Nat)) = false := decide_eq_false (by omega)
    unfold m188_0
    repeat' (first
      | (refine g_op ?_; first
        | refine ep_mov rfl ?_ | refine ep_load1 rfl rfl rfl rfl ?_
        | refine sp_callv rfl rfl rfl rfl rfl rfl (by first | exact e0) ⟨rfl, rfl, rfl, rfl⟩ rfl rfl rfl ?_
        | refine sp_callb rfl rfl rfl rfl rfl rfl (by first | exact e0) ⟨rfl, rfl, rfl, rfl⟩ rfl rfl rfl ?_
        | refine ep_bin rfl rfl (by first | exact b_add (by omega) (by omega) | exact b_lss) ?_ | refine sp_idx rfl rfl rfl (by omega) rfl ?_ | refine ep_loadS rfl rfl rfl (by first | exact ints_get (by omega) | exact zints_get (by omega) | exact fget (by omega) | assumption) ?_)
      | (refine g_ops ?_; first | refine eo_none ?_ | refine eo_nil ?_)
      | (refine g_code ?_; first | refine ec_seq ?_ | refine ec_region ?_ | refine ec_block ?_ | refine ec_skip ?_ | refine ec_exit ?_ | refine ec_ret ?_ | refine ec_condT rfl ?_ | refine ec_condF rfl ?_ | refine ec_condTH rfl (by assumption) ?_ | refine ec_condFH rfl (by assumption) ?_)
      | refine ek_seqN ?_ | refine ek_seqX ?_ | refine ek_seqR ?_ | refine ek_blkN ?_ | refine ek_blkR ?_ | refine ek_blkX ?_ | refine ek_blkY rfl ?_)
    exact rnd_out (by rfl) (by simp) (scmp2 (by rfl) (by rfl) (by exact ⟨rfl, rfl, rfl⟩) (by rfl) (by first | rfl | (simp; done) | (simp [ints, prs]; done)) (by rfl) (by first | rfl | (simp; done) | (simp [ints, prs]; done)))
theorem evix_frn1 (n : Nat) (hn : n ≤ 4) : Ev cx 188 [.nils, .fn 109 [.ptr 0 0]] [⟨[.int .i64 (n : Nat)], 1, 0, some 0, true⟩] (.int .i64 (match firstF (fun i => !(fun _ => false) i) 0 (0) with | none => -1 | some x => ((x : Nat) : Int))) [⟨[.int .i64 (n : Nat)], 1, 0, some 0, true⟩] := by
  cases hs : firstF (fun i => !(fun _ => false) i) 0 (0) with
  | none =>
    have lp := lpix_frn1 n hn _ (by rw [hs])
    refine has188.eev rfl rfl ?_
    unfold m188
    repeat' (first
      | refine sc_loop lp rfl rfl ⟨rfl, rfl, rfl⟩ rfl rfl rfl ?_
      | (refine g_op ?_; first
        | refine ep_mov rfl ?_
        | refine ep_lenS rfl ?_ | refine ep_lenN rfl ?_ | refine ep_lenE rfl ?_)
      | (refine g_ops ?_; first | refine eo_none ?_ | refine eo_nil ?_)
      | (refine g_code ?_; first | refine ec_seq ?_ | refine ec_region ?_ | refine ec_block ?_ | refine ec_ret ?_)
      | refine ek_seqN ?_ | refine ek_seqX ?_ | refine ek_seqR ?_ | refine ek_blkN ?_ | refine ek_blkR ?_ | refine ek_blkX ?_ | refine ek_blkY rfl ?_)
    refine sfin (.inr rfl) (by rfl) (by rfl) (by exact ⟨rfl, rfl, rfl⟩) (by rfl) (by rfl) (by rfl) (by first | rfl | (simp; done) | (simp [ints, prs]; done))
  | some x =>
    have lp := lpix_frn1 n hn _ (by rw [hs])
    refine has188.eev rfl rfl ?_
    unfold m188
    repeat' (first
      | refine sc_loop lp rfl rfl ⟨rfl, rfl, rfl⟩ rfl rfl rfl ?_
      | (refine g_op ?_; first
        | refine ep_mov rfl ?_
        | refine ep_lenS rfl ?_ | refine ep_lenN rfl ?_ | refine ep_lenE rfl ?_)
      | (refine g_ops ?_; first | refine eo_none ?_ | refine eo_nil ?_)
      | (refine g_code ?_; first | refine ec_seq ?_ | refine ec_region ?_ | refine ec_block ?_ | refine ec_ret ?_)
      | refine ek_seqN ?_ | refine ek_seqX ?_ | refine ek_seqR ?_ | refine ek_blkN ?_ | refine ek_blkR ?_ | refine ek_blkX ?_ | refine ek_blkY rfl ?_)
    refine sfin (.inr rfl) (by rfl) (by rfl) (by exact ⟨rfl, rfl, rfl⟩) (by rfl) (by rfl) (by rfl) (by first | rfl | (simp; done) | (simp [ints, prs]; done))
theorem evcf_frn1 (n : Nat) (hn : n ≤ 4) : Ev cx 100 [.nils, .fn 109 [.ptr 0 0]] [⟨[.int .i64 (n : Nat)], 1, 0, some 0, true⟩] (.bool (!allF (fun i => !(fun _ => false) i) 0 (0))) [⟨[.int .i64 (n : Nat)], 1, 0, some 0, true⟩] := by
  have e1 := evix_frn1 n hn
  cases hs : firstF (fun i => !(fun _ => false) i) 0 (0) with
  | none =>
    rw [hs] at e1
    refine has100.eev rfl rfl ?_
    unfold m100
    repeat' (first
      | (refine g_op ?_; first
        | refine ep_mov rfl ?_
        | refine ep_call0 rfl (by first | exact e1) rfl rfl ?_
        | refine sp_call rfl rfl rfl rfl (by first | exact e1) ⟨rfl, rfl, rfl, rfl⟩ rfl rfl rfl ?_
        | refine ep_bin rfl rfl (by exact b_geq) ?_)
      | (refine g_ops ?_; first | refine eo_none ?_ | refine eo_nil ?_)
      | (refine g_code ?_; first | refine ec_seq ?_ | refine ec_region ?_ | refine ec_ret ?_)
      | refine ek_seqN ?_ | refine ek_seqR ?_)
    refine sfin (.inr rfl) (by rfl) (by rfl) (by exact ⟨rfl, rfl, rfl⟩) (by rfl) (by rfl) (by rw [firstF_allT hs]; rfl) (by first | rfl | (simp; done) | (simp [ints, prs]; done))
  | some x =>
    rw [hs] at e1
    have hge : decide (((x : Nat) : Int) ≥ 0) = true := decide_eq_true (by omega)
    refine has100.eev rfl rfl ?_
    unfold m100
    repeat' (first
      | (refine g_op ?_; first
        | refine ep_mov rfl ?_
        | refine ep_call0 rfl (by first | exact e1) rfl rfl ?_
        | refine sp_call rfl rfl rfl rfl (by first | exact e1) ⟨rfl, rfl, rfl, rfl⟩ rfl rfl rfl ?_
        | refine ep_bin rfl rfl (by exact b_geq) ?_)
      | (refine g_ops ?_; first | refine eo_none ?_ | refine eo_nil ?_)
      | (refine g_code ?_; first | refine ec_seq ?_ | refine ec_region ?_ | refine ec_ret ?_)
      | refine ek_seqN ?_ | refine ek_seqR ?_)
    refine sfin (.inr rfl) (by rfl) (by rfl) (by exact ⟨rfl, rfl, rfl⟩) (by rfl) (by rfl) (by rw [firstF_allF hs]; first | rfl | exact congrArg V.bool hge) (by first | rfl | (simp; done) | (simp [ints, prs]; done))

theorem lpix_frn2 (r : Nat) (o : Out) (ho : (match firstF (fun i => !(fun _ => false) i) 0 (0) with | none => (⟨.exit 0, [], [⟨[.int .i64 (r : Nat)], 1, 0, some 0, true⟩]⟩ : Out) | some x => ⟨.ret, [(4, .int .i64 (x : Nat))], [⟨[.int .i64 (r : Nat)], 1, 0, some 0, true⟩]⟩) = o) :
    LpS cx 19 1 m188_0 [(0, .nils), (1, .fn 115 [.ptr 0 0]), (7, .int .i64 (0 : Nat)), (8, .int .i64 (0 : Nat))] [⟨[.int .i64 (r : Nat)], 1, 0, some 0, true⟩] o.x o.e o.h := by
  refine lp_brk (0) (fun i => !(fun _ => false) i) (fun _ => ()) (fun i _ => [(0, .nils), (1, .fn 115 [.ptr 0 0]), (7, .int .i64 (0 : Nat)), (8, .int .i64 (i : Nat))]) (fun i _ => [⟨[.int .i64 (r : Nat)], 1, 0, some 0, true⟩]) (fun _ => ⟨.exit 0, [], [⟨[.int .i64 (r : Nat)], 1, 0, some 0, true⟩]⟩) (fun i _ => ⟨.ret, [(4, .int .i64 (i : Nat))], [⟨[.int .i64 (r : Nat)], 1, 0, some 0, true⟩]⟩) ?_ ?_ ?_ (0) 0 o (by omega) (fun h => by rw [← ho, firstF_none fun x h1 h2 => h x h1 (by omega)]) (fun x h1 h2 h3 h4 => by rw [← ho, firstF_some h1 (by omega) h3 h4])
  · intro i s hi hs hp
    exact absurd hi (by simp)
  · intro i s hi hs hp
    exact absurd hi (by simp)
  · intro s hs
    have hlt : decide (((0 : Nat) : Int) < (0 : Nat)) = false := decide_eq_false (by omega)
    unfold m188_0
    repeat' (first
      | (refine g_op ?_; first
        | refine ep_mov rfl ?_ | refine ep_load1 rfl rfl rfl rfl ?_
        | refine sp_callv rfl rfl rfl rfl rfl rfl (by first | exact e0) ⟨rfl, rfl, rfl, rfl⟩ rfl rfl rfl ?_
        | refine sp_callb rfl rfl rfl rfl rfl rfl (by first | exact e0) ⟨rfl, rfl, rfl, rfl⟩ rfl rfl rfl ?_
        | refine ep_bin rfl rfl (by first | exact b_add (by omega) (by omega) | exact b_lss) ?_ | refine sp_idx rfl rfl rfl (by omega) rfl ?_ | refine ep_loadS rfl rfl rfl (by first | exact ints_get (by omega) | exact zints_get (by omega) | exact fget (by omega) | assumption) ?_)
      | (refine g_ops ?_; first | refine eo_none ?_ | refine eo_nil ?_)
      | (refine g_code ?_; first | refine ec_seq ?_ | refine ec_region ?_ | refine ec_block ?_ | refine ec_skip ?_ | refine ec_exit ?_ | refine ec_ret ?_ | refine ec_condT rfl ?_ | refine ec_condF rfl ?_ | refine ec_condTH rfl (by assumption) ?_ | refine ec_condFH rfl (by assumption) ?_)
      | refine ek_seqN ?_ | refine ek_seqX ?_ | refine ek_seqR ?_ | refine ek_blkN ?_ | refine ek_blkR ?_ | refine ek_blkX ?_ | refine ek_blkY rfl ?_)
    exact rnd_out (by rfl) (by simp) (scmp2 (by rfl) (by rfl) (by exact ⟨rfl, rfl, rfl⟩) (by rfl) (by first | rfl | (simp; done) | (simp [ints, prs]; done)) (by rfl) (by first | rfl | (simp; done) | (simp [ints, prs]; done)))
theorem evix_frn2 (r : Nat) : Ev cx 188 [.nils, .fn 115 [.ptr 0 0]] [⟨[.int .i64 (r : Nat)], 1, 0, some 0, true⟩] (.int .i64 (match firstF (fun i => !(fun _ => false) i) 0 (0) with | none => -1 | some x => ((x : Nat) : Int))) [⟨[.int .i64 (r : Nat)], 1, 0, some 0, true⟩] := by
  cases hs : firstF (fun i => !(fun _ => false) i) 0 (0) with
  | none =>
    have lp := lpix_frn2 r _ (by rw [hs])
    refine has188.eev rfl rfl ?_
    unfold m188
    repeat' (first
      | refine sc_loop lp rfl rfl ⟨rfl, rfl, rfl⟩ rfl rfl rfl ?_
      | (refine g_op ?_; first
        | refine ep_mov rfl ?_
        | refine ep_lenS rfl ?_ | refine ep_lenN rfl ?_ | refine ep_lenE rfl ?_)
      | (refine g_ops ?_; first | refine eo_none ?_ | refine eo_nil ?_)
      | (refine g_code ?_; first | refine ec_seq ?_ | refine ec_region ?_ | refine ec_block ?_ | refine ec_ret ?_)
      | refine ek_seqN ?_ | refine ek_seqX ?_ | refine ek_seqR ?_ | refine ek_blkN ?_ | refine ek_blkR ?_ | refine ek_blkX ?_ | refine ek_blkY rfl ?_)
    refine sfin (.inr rfl) (by rfl) (by rfl) (by exact ⟨rfl, rfl, rfl⟩) (by rfl) (by rfl) (by rfl) (by first | rfl | (simp; done) | (simp [ints, prs]; done))
  | some x =>
    have lp := lpix_frn2 r _ (by rw [hs])
    refine has188.eev rfl rfl ?_
    unfold m188
    repeat' (first
      | refine sc_loop lp rfl rfl ⟨rfl, rfl, rfl⟩ rfl rfl rfl ?_
      | (refine g_op ?_; first
        | refine ep_mov rfl ?_
        | refine ep_lenS rfl ?_ | refine ep_lenN rfl ?_ | refine ep_lenE rfl ?_)
      | (refine g_ops ?_; first | refine eo_none ?_ | refine eo_nil ?_)
      | (refine g_code ?_; first | refine ec_seq ?_ | refine ec_region ?_ | refine ec_block ?_ | refine ec_ret ?_)
      | refine ek_seqN ?_ | refine ek_seqX ?_ | refine ek_seqR ?_ | refine ek_blkN ?_ | refine ek_blkR ?_ | refine ek_blkX ?_ | refine ek_blkY rfl ?_)
    refine sfin (.inr rfl) (by rfl) (by rfl) (by exact ⟨rfl, rfl, rfl⟩) (by rfl) (by rfl) (by rfl) (by first | rfl | (simp; done) | (simp [ints, prs]; done))
theorem evcf_frn2 (r : Nat) : Ev cx 100 [.nils, .fn 115 [.ptr 0 0]] [⟨[.int .i64 (r : Nat)], 1, 0, some 0, true⟩] (.bool (!allF (fun i => !(fun _ => false) i) 0 (0))) [⟨[.int .i64 (r : Nat)], 1, 0, some 0, true⟩] := by
  have e1 := evix_frn2 r
  cases hs : firstF (fun i => !(fun _ => false) i) 0 (0) with
  | none =>
    rw [hs] at e1
    refine has100.eev rfl rfl ?_
    unfold m100
    repeat' (first
      | (refine g_op ?_; first
        | refine ep_mov rfl ?_
        | refine ep_call0 rfl (by first | exact e1) rfl rfl ?_
        | refine sp_call rfl rfl rfl rfl (by first | exact e1) ⟨rfl, rfl, rfl, rfl⟩ rfl rfl rfl ?_
        | refine ep_bin rfl rfl (by exact b_geq) ?_)
      | (refine g_ops ?_; first | refine eo_none ?_ | refine eo_nil ?_)
      | (refine g_code ?_; first | refine ec_seq ?_ | refine ec_region ?_ | refine ec_ret ?_)
      | refine ek_seqN ?_ | refine ek_seqR ?_)
    refine sfin (.inr rfl) (by rfl) (by rfl) (by exact ⟨rfl, rfl, rfl⟩) (by rfl) (by rfl) (by rw [firstF_allT hs]; rfl) (by first | rfl | (simp; done) | (simp [ints, prs]; done))
  | some x =>
    rw [hs] at e1
    have hge : decide (((x : Nat) : Int) ≥ 0) = true := decide_eq_true (by omega)
    refine has100.eev rfl rfl ?_
    unfold m100
    repeat' (first
      | (refine g_op ?_; first
        | refine ep_mov rfl ?_
        | refine ep_call0 rfl (by first | exact e1) rfl rfl ?_
        | refine sp_call rfl rfl rfl rfl (by first | exact e1) ⟨rfl, rfl, rfl, rfl⟩ rfl rfl rfl ?_
        | refine ep_bin rfl rfl (by exact b_geq) ?_)
      | (refine g_ops ?_; first | refine eo_none ?_ | refine eo_nil ?_)
      | (refine g_code ?_; first | refine ec_seq ?_ | refine ec_region ?_ | refine ec_ret ?_)
      | refine ek_seqN ?_ | refine ek_seqR ?_)
    refine sfin (.inr rfl) (by rfl) (by rfl) (by exact ⟨rfl, rfl, rfl⟩) (by rfl) (by rfl) (by rw [firstF_allF hs]; first | rfl | exact congrArg V.bool hge) (by first | rfl | (simp; done) | (simp [ints, prs]; done))

theorem ev113_n (r : Nat) : Ev cx 113 [.int .i64 r, .ptr 0 0] [⟨[.nils], 1, 0, some 0, true⟩] (.int .i64 (0 : Nat)) [⟨[.nils], 1, 0, some 0, true⟩] := by
  have e1 := evcf_frn2 r
  rw [show allF (fun i => !(fun _ => false) i) 0 0 = true from rfl] at e1
  have e2 := ev114 false
  refine has113.eev rfl rfl ?_
  unfold m113
  repeat' (first
    | (refine g_op ?_; first
      | refine ep_mov rfl ?_ | refine ep_load1 rfl rfl rfl rfl ?_
      | refine ep_call0 rfl (by first | exact e1 | exact e2) rfl rfl ?_
      | refine sp_call rfl rfl rfl rfl (by first | exact e1 | exact e2) ⟨rfl, rfl, rfl, rfl⟩ rfl rfl rfl ?_
      | refine sp_box rfl rfl rfl rfl rfl ?_ | refine ep_mkfn rfl ?_)
    | (refine g_ops ?_; first | refine eo_none ?_ | refine eo_nil ?_)
    | (refine g_code ?_; first | refine ec_seq ?_ | refine ec_region ?_ | refine ec_ret ?_)
    | refine ek_seqN ?_ | refine ek_seqR ?_)
  refine sfin (.inr rfl) (by rfl) (by rfl) (by exact ⟨rfl, rfl, rfl⟩) (by rfl) (by rfl) (by rfl) (by first | rfl | (simp; done) | (simp [ints, prs]; done))

theorem lpfb_frn (n : Nat) (hn : n ≤ 4) :
    LpS cx 25 1 m112_0 [(1, .fn 113 [.ptr 0 0]), (4, .ptr 1 0), (5, .ptr 2 0), (10, .int .i64 (R2 (n) : Nat)), (11, .int .i64 (0 : Nat))] [⟨[.nils], 1, 0, some 0, true⟩, ⟨[.int .i64 0, .int .i64 0], 1, 1, some 0, true⟩, ⟨[.int .i64 (n : Nat), .int .i64 (pk (fun _ => 0) (0) : Nat)], 1, 2, some 0, true⟩] (⟨.exit 0, [(4, .ptr 1 0), (5, .ptr 2 0)], [⟨[.nils], 1, 0, some 0, true⟩, ⟨[.int .i64 0, .int .i64 0], 1, 1, some 0, true⟩, ⟨[.int .i64 (n : Nat), .int .i64 (pk (fun _ => 0) (R2 (n)) : Nat)], 1, 2, some 0, true⟩]⟩ : Out).x (⟨.exit 0, [(4, .ptr 1 0), (5, .ptr 2 0)], [⟨[.nils], 1, 0, some 0, true⟩, ⟨[.int .i64 0, .int .i64 0], 1, 1, some 0, true⟩, ⟨[.int .i64 (n : Nat), .int .i64 (pk (fun _ => 0) (R2 (n)) : Nat)], 1, 2, some 0, true⟩]⟩ : Out).e (⟨.exit 0, [(4, .ptr 1 0), (5, .ptr 2 0)], [⟨[.nils], 1, 0, some 0, true⟩, ⟨[.int .i64 0, .int .i64 0], 1, 1, some 0, true⟩, ⟨[.int .i64 (n : Nat), .int .i64 (pk (fun _ => 0) (R2 (n)) : Nat)], 1, 2, some 0, true⟩]⟩ : Out).h := by
  obtain ⟨h1, h2, h3, h4⟩ := shN hn
  have hgl : ∀ r, r < R2 (n) → (fun _ => 0) r ≤ 1 := fun r _ => Nat.zero_le _
  refine lp_st (R2 (n)) (fun _ => ()) (fun i _ => [(1, .fn 113 [.ptr 0 0]), (4, .ptr 1 0), (5, .ptr 2 0), (10, .int .i64 (R2 (n) : Nat)), (11, .int .i64 (i : Nat))]) (fun i _ => [⟨[.nils], 1, 0, some 0, true⟩, ⟨[.int .i64 0, .int .i64 0], 1, 1, some 0, true⟩, ⟨[.int .i64 (n : Nat), .int .i64 (pk (fun _ => 0) (i) : Nat)], 1, 2, some 0, true⟩]) (fun _ => (⟨.exit 0, [(4, .ptr 1 0), (5, .ptr 2 0)], [⟨[.nils], 1, 0, some 0, true⟩, ⟨[.int .i64 0, .int .i64 0], 1, 1, some 0, true⟩, ⟨[.int .i64 (n : Nat), .int .i64 (pk (fun _ => 0) (R2 (n)) : Nat)], 1, 2, some 0, true⟩]⟩ : Out)) ?_ ?_ (R2 (n)) 0 (by omega)
  · intro i u_ hi hu_
    refine ⟨(), rfl, ?_⟩
    have hlt : decide ((i : Int) < (R2 (n) : Nat)) = true := decide_eq_true (by omega)
    have hg := hgl i hi
    have hp0 := pk_lt (g := fun _ => 0) (n := i) fun r hr => hgl r (by omega)
    have hp1 := R2_mono (i := i) (n := R2 (n)) (by omega)
    have hs := sl_lt hg hi
    have hp2 := or_lt (n := R2 (n)) (show pk (fun _ => 0) i < R2 (R2 (n)) by omega) hs
    unfold m112_0
    repeat' (first
      | (refine g_op ?_; first
        | refine ep_mov rfl ?_ | refine ep_load1 rfl rfl rfl rfl ?_ | refine ep_fieldAddr rfl ?_
        | refine sp_callv rfl rfl rfl rfl rfl rfl (by first | exact ev113_n i) ⟨rfl, rfl, rfl, rfl⟩ rfl rfl rfl ?_
        | refine sp_callb rfl rfl rfl rfl rfl rfl (by first | exact ev113_n i) ⟨rfl, rfl, rfl, rfl⟩ rfl rfl rfl ?_
        | refine ep_bin rfl rfl (by first | exact b_add (by omega) (by omega) | exact b_or (by omega) (by omega) | exact b_shl (by omega) (by omega) | exact b_lss) ?_ | refine sp_store rfl rfl rfl rfl rfl rfl rfl rfl rfl rfl ?_)
      | (refine g_ops ?_; first | refine eo_none ?_ | refine eo_nil ?_)
      | (refine g_dops ?_; first | refine ed_none ?_ | refine ed_nil ?_)
      | refine ed_same rfl ?_ | refine ed_one rfl rfl rfl rfl ?_ | refine ed_two rfl rfl rfl rfl rfl rfl rfl ?_ | refine ed_write rfl rfl ?_
      | (refine g_code ?_; first | refine ec_seq ?_ | refine ec_region ?_ | refine ec_draw ?_ | refine ec_block ?_ | refine ec_skip ?_ | refine ec_exit ?_ | refine ec_condT rfl ?_ | refine ec_condF rfl ?_ | refine ec_condTH rfl (by assumption) ?_ | refine ec_condFH rfl (by assumption) ?_)
      | refine ek_seqN ?_ | refine ek_seqX ?_ | refine ek_blkN ?_ | refine ek_blkR ?_ | refine ek_blkX ?_ | refine ek_blkY rfl ?_)
    exact rnd_on (by rfl) (scmp2 (by rfl) (by rfl) (by exact ⟨rfl, rfl, rfl⟩) (by rfl) (by first | rfl | (simp; done) | (simp [ints, prs]; done)) (by rfl) (by first | rfl | (simp; done) | (simp [ints, prs]; done)))
  · intro u_ hu_
    have hlt : decide (((R2 (n) : Nat) : Int) < (R2 (n) : Nat)) = false := decide_eq_false (by omega)
    unfold m112_0
    repeat' (first
      | (refine g_op ?_; first
        | refine ep_mov rfl ?_ | refine ep_load1 rfl rfl rfl rfl ?_ | refine ep_fieldAddr rfl ?_
        | refine sp_callv rfl rfl rfl rfl rfl rfl (by first | exact ev113_n i) ⟨rfl, rfl, rfl, rfl⟩ rfl rfl rfl ?_
        | refine sp_callb rfl rfl rfl rfl rfl rfl (by first | exact ev113_n i) ⟨rfl, rfl, rfl, rfl⟩ rfl rfl rfl ?_
        | refine ep_bin rfl rfl (by first | exact b_add (by omega) (by omega) | exact b_or (by omega) (by omega) | exact b_shl (by omega) (by omega) | exact b_lss) ?_ | refine sp_store rfl rfl rfl rfl rfl rfl rfl rfl rfl rfl ?_)
      | (refine g_ops ?_; first | refine eo_none ?_ | refine eo_nil ?_)
      | (refine g_dops ?_; first | refine ed_none ?_ | refine ed_nil ?_)
      | refine ed_same rfl ?_ | refine ed_one rfl rfl rfl rfl ?_ | refine ed_two rfl rfl rfl rfl rfl rfl rfl ?_ | refine ed_write rfl rfl ?_
      | (refine g_code ?_; first | refine ec_seq ?_ | refine ec_region ?_ | refine ec_draw ?_ | refine ec_block ?_ | refine ec_skip ?_ | refine ec_exit ?_ | refine ec_condT rfl ?_ | refine ec_condF rfl ?_ | refine ec_condTH rfl (by assumption) ?_ | refine ec_condFH rfl (by assumption) ?_)
      | refine ek_seqN ?_ | refine ek_seqX ?_ | refine ek_blkN ?_ | refine ek_blkR ?_ | refine ek_blkX ?_ | refine ek_blkY rfl ?_)
    exact rnd_out (by rfl) (by simp) (scmp2 (by rfl) (by rfl) (by exact ⟨rfl, rfl, rfl⟩) (by rfl) (by first | rfl | (simp; done) | (simp [ints, prs]; done)) (by rfl) (by first | rfl | (simp; done) | (simp [ints, prs]; done)))
theorem evfb_frn (n : Nat) (hn : n ≤ 4) : Ev cx 112 [.int .i64 (n : Nat), .fn 113 [.ptr 0 0]] [⟨[.nils], 1, 0, some 0, true⟩] (.agg [.int .i64 (n : Nat), .int .i64 (pk (fun _ => 0) (R2 (n)) : Nat)]) [⟨[.nils], 1, 0, some 0, true⟩] := by
  obtain ⟨h1, h2, h3, h4⟩ := shN hn
  have lp := lpfb_frn n hn
  refine has112.eev rfl rfl ?_
  unfold m112
  repeat' (first
    | refine sc_loop lp rfl rfl ⟨rfl, rfl, rfl⟩ rfl rfl rfl ?_
    | (refine g_op ?_; first
      | refine ep_mov rfl ?_ | refine sp_loadN rfl rfl rfl rfl rfl ?_
      | refine ep_call0 rfl (by first | exact ev111 _ hn) rfl rfl ?_
      | refine sp_call rfl rfl rfl rfl (by first | exact ev111 _ hn) ⟨rfl, rfl, rfl, rfl⟩ rfl rfl rfl ?_
      | refine sp_store rfl rfl rfl rfl rfl rfl rfl rfl rfl rfl ?_ | refine sp_alloc rfl rfl ?_ | refine sp_build rfl rfl ?_)
    | (refine g_ops ?_; first | refine eo_none ?_ | refine eo_nil ?_)
    | (refine g_code ?_; first | refine ec_seq ?_ | refine ec_region ?_ | refine ec_block ?_ | refine ec_ret ?_)
    | refine ek_seqN ?_ | refine ek_seqX ?_ | refine ek_seqR ?_ | refine ek_blkN ?_ | refine ek_blkR ?_ | refine ek_blkX ?_ | refine ek_blkY rfl ?_)
  refine sfin (.inr rfl) (by rfl) (by rfl) (by exact ⟨rfl, rfl, rfl⟩) (by rfl) (by rfl) (by rfl) (by first | rfl | (simp; done) | (simp [ints, prs]; done))

theorem ev13_n (n : Nat) (hn : n ≤ 4) : Ev cx 13 [.int .i64 n, .nils] [] (rr (forR n [])) [] := by
  have e1 := ev108 (n : Nat)
  rw [decide_eq_true (show (0 : Int) ≤ (n : Nat) ∧ ((n : Nat) : Int) ≤ 4 by omega)] at e1
  have e2 := evcf_frn1 n hn
  rw [show allF (fun i => !(fun _ => false) i) 0 0 = true from rfl] at e2
  have e3 := evfb_frn n hn
  have hf : forR n [] = ⟨(n : Nat), (pk (fun _ => 0) (R2 n) : Nat), 0⟩ := by
    rw [forR, if_pos ⟨⟨by omega, by omega⟩, by simp, rfl⟩, Int.toNat_natCast]
    first | rfl | (congr 2; first | done | exact pk_congr fun r _ => rfl)
  rw [hf]
  refine has13.eev rfl rfl ?_
  unfold m13
  repeat' (first
    | (refine g_op ?_; first
      | refine ep_mov rfl ?_ | refine ep_load1 rfl rfl rfl rfl ?_
      | refine ep_call0 rfl (by first | exact e1 | exact e2 | exact e3) rfl rfl ?_
      | refine sp_call rfl rfl rfl rfl (by first | exact e1 | exact e2 | exact e3) ⟨rfl, rfl, rfl, rfl⟩ rfl rfl rfl ?_
      | refine ep_bin rfl rfl (by exact b_gtr) ?_ | refine ep_pickT rfl rfl ?_ | refine ep_pickF rfl rfl ?_ | refine ep_pickTH rfl (by assumption) rfl ?_ | refine ep_pickFH rfl (by assumption) rfl ?_
      | refine sp_store rfl rfl rfl rfl rfl rfl rfl rfl rfl rfl ?_ | refine ep_not rfl ?_ | refine ep_lenS rfl ?_ | refine ep_lenN rfl ?_ | refine ep_lenE rfl ?_ | refine sp_box rfl rfl rfl rfl rfl ?_
      | refine sp_alloc rfl rfl ?_ | refine sp_build rfl rfl ?_ | refine ep_mkfn rfl ?_)
    | (refine g_ops ?_; first | refine eo_none ?_ | refine eo_nil ?_ | refine eo_yes rfl ?_ | refine eo_no rfl ?_ | refine eo_und rfl ?_ | refine eo_yesH rfl (by assumption) ?_ | refine eo_noH rfl (by assumption) ?_)
    | (refine g_code ?_; first | refine ec_seq ?_ | refine ec_region ?_ | refine ec_skip ?_ | refine ec_ret ?_ | refine ec_condT rfl ?_ | refine ec_condF rfl ?_ | refine ec_condTH rfl (by assumption) ?_ | refine ec_condFH rfl (by assumption) ?_)
    | refine ek_seqN ?_ | refine ek_seqR ?_)
  refine sfin (.inr rfl) (by rfl) (by rfl) (by exact ⟨rfl, rfl, rfl⟩) (by rfl) (by rfl) (by rfl) (by first | rfl | (simp; done) | (simp [ints, prs]; done))
theorem lpix_fre1 (n : Nat) (hn : n ≤ 4) (o : Out) (ho : (match firstF (fun i => !(fun _ => false) i) 0 (0) with | none => (⟨.exit 0, [], [⟨[.int .i64 (n : Nat)], 1, 0, some 0, true⟩]⟩ : Out) | some x => ⟨.ret, [(4, .int .i64 (x : Nat))], [⟨[.int .i64 (n : Nat)], 1, 0, some 0, true⟩]⟩) = o) :
    LpS cx 19 1 m188_0 [(0, .emp), (1, .fn 109 [.ptr 0 0]), (7, .int .i64 (0 : Nat)), (8, .int .i64 (0 : Nat))] [⟨[.int .i64 (n : Nat)], 1, 0, some 0, true⟩] o.x o.e o.h := by
  refine lp_brk (0) (fun i => !(fun _ => false) i) (fun _ => ()) (fun i _ => [(0, .emp), (1, .fn 109 [.ptr 0 0]), (7, .int .i64 (0 : Nat)), (8, .int .i64 (i : Nat))]) (fun i _ => [⟨[.int .i64 (n : Nat)], 1, 0, some 0, true⟩]) (fun _ => ⟨.exit 0, [], [⟨[.int .i64 (n : Nat)], 1, 0, some 0, true⟩]⟩) (fun i _ => ⟨.ret, [(4, .int .i64 (i : Nat))], [⟨[.int .i64 (n : Nat)], 1, 0, some 0, true⟩]⟩) ?_ ?_ ?_ (0) 0 o (by omega) (fun h => by rw [← ho, firstF_none fun x h1 h2 => h x h1 (by omega)]) (fun x h1 h2 h3 h4 => by rw [← ho, firstF_some h1 (by omega) h3 h4])
  · intro i s hi hs hp
    exact absurd hi (by simp)
  · intro i s hi hs hp
    exact absurd hi (by simp)
  · intro s hs
    have hlt : decide (((0 : Nat) : Int) < (0 : Nat)) = false := decide_eq_false (by omega)
    unfold m188_0
    repeat' (first
      | (refine g_op ?_; first
        | refine ep_mov rfl ?_ | refine ep_load1 rfl rfl rfl rfl ?_
        | refine sp_callv rfl rfl rfl rfl rfl rfl (by first | exact e0) ⟨rfl, rfl, rfl, rfl⟩ rfl rfl rfl ?_
        | refine sp_callb rfl rfl rfl rfl rfl rfl (by first | exact e0) ⟨rfl, rfl, rfl, rfl⟩ rfl rfl rfl ?_
        | refine ep_bin rfl rfl (by first | exact b_add (by omega) (by omega) | exact b_lss) ?_ | refine sp_idx rfl rfl rfl (by omega) rfl ?_ | refine ep_loadS rfl rfl rfl (by first | exact ints_get (by omega) | exact zints_get (by omega) | exact fget (by omega) | assumption) ?_)
      | (refine g_ops ?_; first | refine eo_none ?_ | refine eo_nil ?_)
      | (refine g_code ?_; first | refine ec_seq ?_ | refine ec_region ?_ | refine ec_block ?_ | refine ec_skip ?_ | refine ec_exit ?_ | refine ec_ret ?_ | refine ec_condT rfl ?_ | refine ec_condF rfl ?_ | refine ec_condTH rfl (by assumption) ?_ | refine ec_condFH rfl (by assumption) ?_)
      | refine ek_seqN ?_ | refine ek_seqX ?_ | refine ek_seqR ?_ | refine ek_blkN ?_ | refine ek_blkR ?_ | refine ek_blkX ?_ | refine ek_blkY rfl ?_)
    exact rnd_out (by rfl) (by simp) (scmp2 (by rfl) (by rfl) (by exact ⟨rfl, rfl, rfl⟩) (by rfl) (by first | rfl | (simp; done) | (simp [ints, prs]; done)) (by rfl) (by first | rfl | (simp; done) | (simp [ints, prs]; done)))
theorem evix_fre1 (n : Nat) (hn : n ≤ 4) : Ev cx 188 [.emp, .fn 109 [.ptr 0 0]] [⟨[.int .i64 (n : Nat)], 1, 0, some 0, true⟩] (.int .i64 (match firstF (fun i => !(fun _ => false) i) 0 (0) with | none => -1 | some x => ((x : Nat) : Int))) [⟨[.int .i64 (n : Nat)], 1, 0, some 0, true⟩] := by
  cases hs : firstF (fun i => !(fun _ => false) i) 0 (0) with
  | none =>
    have lp := lpix_fre1 n hn _ (by rw [hs])
    refine has188.eev rfl rfl ?_
    unfold m188
    repeat' (first
      | refine sc_loop lp rfl rfl ⟨rfl, rfl, rfl⟩ rfl rfl rfl ?_
      | (refine g_op ?_; first
        | refine ep_mov rfl ?_
        | refine ep_lenS rfl ?_ | refine ep_lenN rfl ?_ | refine ep_lenE rfl ?_)
      | (refine g_ops ?_; first | refine eo_none ?_ | refine eo_nil ?_)
      | (refine g_code ?_; first | refine ec_seq ?_ | refine ec_region ?_ | refine ec_block ?_ | refine ec_ret ?_)
      | refine ek_seqN ?_ | refine ek_seqX ?_ | refine ek_seqR ?_ | refine ek_blkN ?_ | refine ek_blkR ?_ | refine ek_blkX ?_ | refine ek_blkY rfl ?_)
    refine sfin (.inr rfl) (by rfl) (by rfl) (by exact ⟨rfl, rfl, rfl⟩) (by rfl) (by rfl) (by rfl) (by first | rfl | (simp; done) | (simp [ints, prs]; done))
  | some x =>
    have lp := lpix_fre1 n hn _ (by rw [hs])
    refine has188.eev rfl rfl ?_
    unfold m188
    repeat' (first
      | refine sc_loop lp rfl rfl ⟨rfl, rfl, rfl⟩ rfl rfl rfl ?_
      | (refine g_op ?_; first
        | refine ep_mov rfl ?_
        | refine ep_lenS rfl ?_ | refine ep_lenN rfl ?_ | refine ep_lenE rfl ?_)
      | (refine g_ops ?_; first | refine eo_none ?_ | refine eo_nil ?_)
      | (refine g_code ?_; first | refine ec_seq ?_ | refine ec_region ?_ | refine ec_block ?_ | refine ec_ret ?_)
      | refine ek_seqN ?_ | refine ek_seqX ?_ | refine ek_seqR ?_ | refine ek_blkN ?_ | refine ek_blkR ?_ | refine ek_blkX ?_ | refine ek_blkY rfl ?_)
    refine sfin (.inr rfl) (by rfl) (by rfl) (by exact ⟨rfl, rfl, rfl⟩) (by rfl) (by rfl) (by rfl) (by first | rfl | (simp; done) | (simp [ints, prs]; done))
theorem evcf_fre1 (n : Nat) (hn : n ≤ 4) : Ev cx 100 [.emp, .fn 109 [.ptr 0 0]] [⟨[.int .i64 (n : Nat)], 1, 0, some 0, true⟩] (.bool (!allF (fun i => !(fun _ => false) i) 0 (0))) [⟨[.int .i64 (n : Nat)], 1, 0, some 0, true⟩] := by
  have e1 := evix_fre1 n hn
  cases hs : firstF (fun i => !(fun _ => false) i) 0 (0) with
  | none =>
    rw [hs] at e1
    refine has100.eev rfl rfl ?_
    unfold m100
    repeat' (first
      | (refine g_op ?_; first
        | refine ep_mov rfl ?_
        | refine ep_call0 rfl (by first | exact e1) rfl rfl ?_
        | refine sp_call rfl rfl rfl rfl (by first | exact e1) ⟨rfl, rfl, rfl, rfl⟩ rfl rfl rfl ?_
        | refine ep_bin rfl rfl (by exact b_geq) ?_)
      | (refine g_ops ?_; first | refine eo_none ?_ | refine eo_nil ?_)
      | (refine g_code ?_; first | refine ec_seq ?_ | refine ec_region ?_ | refine ec_ret ?_)
      | refine ek_seqN ?_ | refine ek_seqR ?_)
    refine sfin (.inr rfl) (by rfl) (by rfl) (by exact ⟨rfl, rfl, rfl⟩) (by rfl) (by rfl) (by rw [firstF_allT hs]; rfl) (by first | rfl | (simp; done) | (simp [ints, prs]; done))
  | some x =>
    rw [hs] at e1
    have hge : decide (((x : Nat) : Int) ≥ 0) = true := decide_eq_true (by omega)
    refine has100.eev rfl rfl ?_
    unfold m100
    repeat' (first
      | (refine g_op ?_; first
        | refine ep_mov rfl ?_
        | refine ep_call0 rfl (by first | exact e1) rfl rfl ?_
        | refine sp_call rfl rfl rfl rfl (by first | exact e1) ⟨rfl, rfl, rfl, rfl⟩ rfl rfl rfl ?_
        | refine ep_bin rfl rfl (by exact b_geq) ?_)
      | (refine g_ops ?_; first | refine eo_none ?_ | refine eo_nil ?_)
      | (refine g_code ?_; first | refine ec_seq ?_ | refine ec_region ?_ | refine ec_ret ?_)
      | refine ek_seqN ?_ | refine ek_seqR ?_)
    refine sfin (.inr rfl) (by rfl) (by rfl) (by exact ⟨rfl, rfl, rfl⟩) (by rfl) (by rfl) (by rw [firstF_allF hs]; first | rfl | exact congrArg V.bool hge) (by first | rfl | (simp; done) | (simp [ints, prs]; done))

theorem lpix_fre2 (r : Nat) (o : Out) (ho : (match firstF (fun i => !(fun _ => false) i) 0 (0) with | none => (⟨.exit 0, [], [⟨[.int .i64 (r : Nat)], 1, 0, some 0, true⟩]⟩ : Out) | some x => ⟨.ret, [(4, .int .i64 (x : Nat))], [⟨[.int .i64 (r : Nat)], 1, 0, some 0, true⟩]⟩) = o) :
    LpS cx 19 1 m188_0 [(0, .emp), (1, .fn 115 [.ptr 0 0]), (7, .int .i64 (0 : Nat)), (8, .int .i64 (0 : Nat))] [⟨[.int .i64 (r : Nat)], 1, 0, some 0, true⟩] o.x o.e o.h := by
  refine lp_brk (0) (fun i => !(fun _ => false) i) (fun _ => ()) (fun i _ => [(0, .emp), (1, .fn 115 [.ptr 0 0]), (7, .int .i64 (0 : Nat)), (8, .int .i64 (i : Nat))]) (fun i _ => [⟨[.int .i64 (r : Nat)], 1, 0, some 0, true⟩]) (fun _ => ⟨.exit 0, [], [⟨[.int .i64 (r : Nat)], 1, 0, some 0, true⟩]⟩) (fun i _ => ⟨.ret, [(4, .int .i64 (i : Nat))], [⟨[.int .i64 (r : Nat)], 1, 0, some 0, true⟩]⟩) ?_ ?_ ?_ (0) 0 o (by omega) (fun h => by rw [← ho, firstF_none fun x h1 h2 => h x h1 (by omega)]) (fun x h1 h2 h3 h4 => by rw [← ho, firstF_some h1 (by omega) h3 h4])
  · intro i s hi hs hp
    exact absurd hi (by simp)
  · intro i s hi hs hp
    exact absurd hi (by simp)
  · intro s hs
    have hlt : decide (((0 : Nat) : Int) < (0 : Nat)) = false := decide_eq_false (by omega)
    unfold m188_0
    repeat' (first
      | (refine g_op ?_; first
        | refine ep_mov rfl ?_ | refine ep_load1 rfl rfl rfl rfl ?_
        | refine sp_callv rfl rfl rfl rfl rfl rfl (by first | exact e0) ⟨rfl, rfl, rfl, rfl⟩ rfl rfl rfl ?_
        | refine sp_callb rfl rfl rfl rfl rfl rfl (by first | exact e0) ⟨rfl, rfl, rfl, rfl⟩ rfl rfl rfl ?_
        | refine ep_bin rfl rfl (by first | exact b_add (by omega) (by omega) | exact b_lss) ?_ | refine sp_idx rfl rfl rfl (by omega) rfl ?_ | refine ep_loadS rfl rfl rfl (by first | exact ints_get (by omega) | exact zints_get (by omega) | exact fget (by omega) | assumption) ?_)
      | (refine g_ops ?_; first | refine eo_none ?_ | refine eo_nil ?_)
      | (refine g_code ?_; first | refine ec_seq ?_ | refine ec_region ?_ | refine ec_block ?_ | refine ec_skip ?_ | refine ec_exit ?_ | refine ec_ret ?_ | refine ec_condT rfl ?_ | refine ec_condF rfl ?_ | refine ec_condTH rfl (by assumption) ?_ | refine ec_condFH rfl (by assumption) ?_)
      | refine ek_seqN ?_ | refine ek_seqX ?_ | refine ek_seqR ?_ | refine ek_blkN ?_ | refine ek_blkR ?_ | refine ek_blkX ?_ | refine ek_blkY rfl ?_)
    exact rnd_out (by rfl) (by simp) (scmp2 (by rfl) (by rfl) (by exact ⟨rfl, rfl, rfl⟩) (by rfl) (by first | rfl | (simp; done) | (simp [ints, prs]; done)) (by rfl) (by first | rfl | (simp; done) | (simp [ints, prs]; done)))
theorem evix_fre2 (r : Nat) : Ev cx 188 [.emp, .fn 115 [.ptr 0 0]] [⟨[.int .i64 (r : Nat)], 1, 0, some 0, true⟩] (.int .i64 (match firstF (fun i => !(fun _ => false) i) 0 (0) with | none => -1 | some x => ((x : Nat) : Int))) [⟨[.int .i64 (r : Nat)], 1, 0, some 0, true⟩] := by
  cases hs : firstF (fun i => !(fun _ => false) i) 0 (0) with
  | none =>
    have lp := lpix_fre2 r _ (by rw [hs])
    refine has188.eev rfl rfl ?_
    unfold m188
    repeat' (first
      | refine sc_loop lp rfl rfl ⟨rfl, rfl, rfl⟩ rfl rfl rfl ?_
      | (refine g_op ?_; first
        | refine ep_mov rfl ?_
        | refine ep_lenS rfl ?_ | refine ep_lenN rfl ?_ | refine ep_lenE rfl ?_)
      | (refine g_ops ?_; first | refine eo_none ?_ | refine eo_nil ?_)
      | (refine g_code ?_; first | refine ec_seq ?_ | refine ec_region ?_ | refine ec_block ?_ | refine ec_ret ?_)
      | refine ek_seqN ?_ | refine ek_seqX ?_ | refine ek_seqR ?_ | refine ek_blkN ?_ | refine ek_blkR ?_ | refine ek_blkX ?_ | refine ek_blkY rfl ?_)
    refine sfin (.inr rfl) (by rfl) (by rfl) (by exact ⟨rfl, rfl, rfl⟩) (by rfl) (by rfl) (by rfl) (by first | rfl | (simp; done) | (simp [ints, prs]; done))
  | some x =>
    have lp := lpix_fre2 r _ (by rw [hs])
    refine has188.eev rfl rfl ?_
    unfold m188
    repeat' (first
      | refine sc_loop lp rfl rfl ⟨rfl, rfl, rfl⟩ rfl rfl rfl ?_
      | (refine g_op ?_; first
        | refine ep_mov rfl ?_
        | refine ep_lenS rfl ?_ | refine ep_lenN rfl ?_ | refine ep_lenE rfl ?_)
      | (refine g_ops ?_; first | refine eo_none ?_ | refine eo_nil ?_)
      | (refine g_code ?_; first | refine ec_seq ?_ | refine ec_region ?_ | refine ec_block ?_ | refine ec_ret ?_)
      | refine ek_seqN ?_ | refine ek_seqX ?_ | refine ek_seqR ?_ | refine ek_blkN ?_ | refine ek_blkR ?_ | refine ek_blkX ?_ | refine ek_blkY rfl ?_)
    refine sfin (.inr rfl) (by rfl) (by rfl) (by exact ⟨rfl, rfl, rfl⟩) (by rfl) (by rfl) (by rfl) (by first | rfl | (simp; done) | (simp [ints, prs]; done))
theorem evcf_fre2 (r : Nat) : Ev cx 100 [.emp, .fn 115 [.ptr 0 0]] [⟨[.int .i64 (r : Nat)], 1, 0, some 0, true⟩] (.bool (!allF (fun i => !(fun _ => false) i) 0 (0))) [⟨[.int .i64 (r : Nat)], 1, 0, some 0, true⟩] := by
  have e1 := evix_fre2 r
  cases hs : firstF (fun i => !(fun _ => false) i) 0 (0) with
  | none =>
    rw [hs] at e1
    refine has100.eev rfl rfl ?_
    unfold m100
    repeat' (first
      | (refine g_op ?_; first
        | refine ep_mov rfl ?_
        | refine ep_call0 rfl (by first | exact e1) rfl rfl ?_
        | refine sp_call rfl rfl rfl rfl (by first | exact e1) ⟨rfl, rfl, rfl, rfl⟩ rfl rfl rfl ?_
        | refine ep_bin rfl rfl (by exact b_geq) ?_)
      | (refine g_ops ?_; first | refine eo_none ?_ | refine eo_nil ?_)
      | (refine g_code ?_; first | refine ec_seq ?_ | refine ec_region ?_ | refine ec_ret ?_)
      | refine ek_seqN ?_ | refine ek_seqR ?_)
    refine sfin (.inr rfl) (by rfl) (by rfl) (by exact ⟨rfl, rfl, rfl⟩) (by rfl) (by rfl) (by rw [firstF_allT hs]; rfl) (by first | rfl | (simp; done) | (simp [ints, prs]; done))
  | some x =>
    rw [hs] at e1
    have hge : decide (((x : Nat) : Int) ≥ 0) = true := decide_eq_true (by omega)
    refine has100.eev rfl rfl ?_
    unfold m100
    repeat' (first
      | (refine g_op ?_; first
        | refine ep_mov rfl ?_
        | refine ep_call0 rfl (by first | exact e1) rfl rfl ?_
        | refine sp_call rfl rfl rfl rfl (by first | exact e1) ⟨rfl, rfl, rfl, rfl⟩ rfl rfl rfl ?_
        | refine ep_bin rfl rfl (by exact b_geq) ?_)
      | (refine g_ops ?_; first | refine eo_none ?_ | refine eo_nil ?_)
      | (refine g_code ?_; first | refine ec_seq ?_ | refine ec_region ?_ | refine ec_ret ?_)
      | refine ek_seqN ?_ | refine ek_seqR ?_)
    refine sfin (.inr rfl) (by rfl) (by rfl) (by exact ⟨rfl, rfl, rfl⟩) (by rfl) (by rfl) (by rw [firstF_allF hs]; first | rfl | exact congrArg V.bool hge) (by first | rfl | (simp; done) | (simp [ints, prs]; done))

theorem ev113_e (r : Nat) : Ev cx 113 [.int .i64 r, .ptr 0 0] [⟨[.emp], 1, 0, some 0, true⟩] (.int .i64 (0 : Nat)) [⟨[.emp], 1, 0, some 0, true⟩] := by
  have e1 := evcf_fre2 r
  rw [show allF (fun i => !(fun _ => false) i) 0 0 = true from rfl] at e1
  have e2 := ev114 false
  refine has113.eev rfl rfl ?_
  unfold m113
  repeat' (first
    | (refine g_op ?_; first
      | refine ep_mov rfl ?_ | refine ep_load1 rfl rfl rfl rfl ?_
      | refine ep_call0 rfl (by first | exact e1 | exact e2) rfl rfl ?_
      | refine sp_call rfl rfl rfl rfl (by first | exact e1 | exact e2) ⟨rfl, rfl, rfl, rfl⟩ rfl rfl rfl ?_
      | refine sp_box rfl rfl rfl rfl rfl ?_ | refine ep_mkfn rfl ?_)
    | (refine g_ops ?_; first | refine eo_none ?_ | refine eo_nil ?_)
    | (refine g_code ?_; first | refine ec_seq ?_ | refine ec_region ?_ | refine ec_ret ?_)
    | refine ek_seqN ?_ | refine ek_seqR ?_)
  refine sfin (.inr rfl) (by rfl) (by rfl) (by exact ⟨rfl, rfl, rfl⟩) (by rfl) (by rfl) (by rfl) (by first | rfl | (simp; done) | (simp [ints, prs]; done))

theorem lpfb_fre (n : Nat) (hn : n ≤ 4) :
    LpS cx 25 1 m112_0 [(1, .fn 113 [.ptr 0 0]), (4, .ptr 1 0), (5, .ptr 2 0), (10, .int .i64 (R2 (n) : Nat)), (11, .int .i64 (0 : Nat))] [⟨[.emp], 1, 0, some 0, true⟩, ⟨[.int .i64 0, .int .i64 0], 1, 1, some 0, true⟩, ⟨[.int .i64 (n : Nat), .int .i64 (pk (fun _ => 0) (0) : Nat)], 1, 2, some 0, true⟩] (⟨.exit 0, [(4, .ptr 1 0), (5, .ptr 2 0)], [⟨[.emp], 1, 0, some 0, true⟩, ⟨[.int .i64 0, .int .i64 0], 1, 1, some 0, true⟩, ⟨[.int .i64 (n : Nat), .int .i64 (pk (fun _ => 0) (R2 (n)) : Nat)], 1, 2, some 0, true⟩]⟩ : Out).x (⟨.exit 0, [(4, .ptr 1 0), (5, .ptr 2 0)], [⟨[.emp], 1, 0, some 0, true⟩, ⟨[.int .i64 0, .int .i64 0], 1, 1, some 0, true⟩, ⟨[.int .i64 (n : Nat), .int .i64 (pk (fun _ => 0) (R2 (n)) : Nat)], 1, 2, some 0, true⟩]⟩ : Out).e (⟨.exit 0, [(4, .ptr 1 0), (5, .ptr 2 0)], [⟨[.emp], 1, 0, some 0, true⟩, ⟨[.int .i64 0, .int .i64 0], 1, 1, some 0, true⟩, ⟨[.int .i64 (n : Nat), .int .i64 (pk (fun _ => 0) (R2 (n)) : Nat)], 1, 2, some 0, true⟩]⟩ : Out).h := by
  obtain ⟨h1, h2, h3, h4⟩ := shN hn
  have hgl : ∀ r, r < R2 (n) → (fun _ => 0) r ≤ 1 := fun r _ => Nat.zero_le _
  refine lp_st (R2 (n)) (fun _ => ()) (fun i _ => [(1, .fn 113 [.ptr 0 0]), (4, .ptr 1 0), (5, .ptr 2 0), (10, .int .i64 (R2 (n) : Nat)), (11, .int .i64 (i : Nat))]) (fun i _ => [⟨[.emp], 1, 0, some 0, true⟩, ⟨[.int .i64 0, .int .i64 0], 1, 1, some 0, true⟩, ⟨[.int .i64 (n : Nat), .int .i64 (pk (fun _ => 0) (i) : Nat)], 1, 2, some 0, true⟩]) (fun _ => (⟨.exit 0, [(4, .ptr 1 0), (5, .ptr 2 0)], [⟨[.emp], 1, 0, some 0, true⟩, ⟨[.int .i64 0, .int .i64 0], 1, 1, some 0, true⟩, ⟨[.int .i64 (n : Nat), .int .i64 (pk (fun _ => 0) (R2 (n)) : Nat)], 1, 2, some 0, true⟩]⟩ : Out)) ?_ ?_ (R2 (n)) 0 (by omega)
  · intro i u_ hi hu_
    refine ⟨(), rfl, ?_⟩
    have hlt : decide ((i : Int) < (R2 (n) : Nat)) = true := decide_eq_true (by omega)
    have hg := hgl i hi
    have hp0 := pk_lt (g := fun _ => 0) (n := i) fun r hr => hgl r (by omega)
    have hp1 := R2_mono (i := i) (n := R2 (n)) (by omega)
    have hs := sl_lt hg hi
    have hp2 := or_lt (n := R2 (n)) (show pk (fun _ => 0) i < R2 (R2 (n)) by omega) hs
    unfold m112_0
    repeat' (first
      | (refine g_op ?_; first
        | refine ep_mov rfl ?_ | refine ep_load1 rfl rfl rfl rfl ?_ | refine ep_fieldAddr rfl ?_
        | refine sp_callv rfl rfl rfl rfl rfl rfl (by first | exact ev113_e i) ⟨rfl, rfl, rfl, rfl⟩ rfl rfl rfl ?_
        | refine sp_callb rfl rfl rfl rfl rfl rfl (by first | exact ev113_e i) ⟨rfl, rfl, rfl, rfl⟩ rfl rfl rfl ?_
        | refine ep_bin rfl rfl (by first | exact b_add (by omega) (by omega) | exact b_or (by omega) (by omega) | exact b_shl (by omega) (by omega) | exact b_lss) ?_ | refine sp_store rfl rfl rfl rfl rfl rfl rfl rfl rfl rfl ?_)
      | (refine g_ops ?_; first | refine eo_none ?_ | refine eo_nil ?_)
      | (refine g_dops ?_; first | refine ed_none ?_ | refine ed_nil ?_)
      | refine ed_same rfl ?_ | refine ed_one rfl rfl rfl rfl ?_ | refine ed_two rfl rfl rfl rfl rfl rfl rfl ?_ | refine ed_write rfl rfl ?_
      | (refine g_code ?_; first | refine ec_seq ?_ | refine ec_region ?_ | refine ec_draw ?_ | refine ec_block ?_ | refine ec_skip ?_ | refine ec_exit ?_ | refine ec_condT rfl ?_ | refine ec_condF rfl ?_ | refine ec_condTH rfl (by assumption) ?_ | refine ec_condFH rfl (by assumption) ?_)
      | refine ek_seqN ?_ | refine ek_seqX ?_ | refine ek_blkN ?_ | refine ek_blkR ?_ | refine ek_blkX ?_ | refine ek_blkY rfl ?_)
    exact rnd_on (by rfl) (scmp2 (by rfl) (by rfl) (by exact ⟨rfl, rfl, rfl⟩) (by rfl) (by first | rfl | (simp; done) | (simp [ints, prs]; done)) (by rfl) (by first | rfl | (simp; done) | (simp [ints, prs]; done)))
  · intro u_ hu_
    have hlt : decide (((R2 (n) : Nat) : Int) < (R2 (n) : Nat)) = false := decide_eq_false (by omega)
    unfold m112_0
    repeat' (first
      | (refine g_op ?_; first
        | refine ep_mov rfl ?_ | refine ep_load1 rfl rfl rfl rfl ?_ | refine ep_fieldAddr rfl ?_
        | refine sp_callv rfl rfl rfl rfl rfl rfl (by first | exact ev113_e i) ⟨rfl, rfl, rfl, rfl⟩ rfl rfl rfl ?_
        | refine sp_callb rfl rfl rfl rfl rfl rfl (by first | exact ev113_e i) ⟨rfl, rfl, rfl, rfl⟩ rfl rfl rfl ?_
        | refine ep_bin rfl rfl (by first | exact b_add (by omega) (by omega) | exact b_or (by omega) (by omega) | exact b_shl (by omega) (by omega) | exact b_lss) ?_ | refine sp_store rfl rfl rfl rfl rfl rfl rfl rfl rfl rfl ?_)
      | (refine g_ops ?_; first | refine eo_none ?_ | refine eo_nil ?_)
      | (refine g_dops ?_; first | refine ed_none ?_ | refine ed_nil ?_)
      | refine ed_same rfl ?_ | refine ed_one rfl rfl rfl rfl ?_ | refine ed_two rfl rfl rfl rfl rfl rfl rfl ?_ | refine ed_write rfl rfl ?_
      | (refine g_code ?_; first | refine ec_seq ?_ | refine ec_region ?_ | refine ec_draw ?_ | refine ec_block ?_ | refine ec_skip ?_ | refine ec_exit ?_ | refine ec_condT rfl ?_ | refine ec_condF rfl ?_ | refine ec_condTH rfl (by assumption) ?_ | refine ec_condFH rfl (by assumption) ?_)
      | refine ek_seqN ?_ | refine ek_seqX ?_ | refine ek_blkN ?_ | refine ek_blkR ?_ | refine ek_blkX ?_ | refine ek_blkY rfl ?_)
    exact rnd_out (by rfl) (by simp) (scmp2 (by rfl) (by rfl) (by exact ⟨rfl, rfl, rfl⟩) (by rfl) (by first | rfl | (simp; done) | (simp [ints, prs]; done)) (by rfl) (by first | rfl | (simp; done) | (simp [ints, prs]; done)))
theorem evfb_fre (n : Nat) (hn : n ≤ 4) : Ev cx 112 [.int .i64 (n : Nat), .fn 113 [.ptr 0 0]] [⟨[.emp], 1, 0, some 0, true⟩] (.agg [.int .i64 (n : Nat), .int .i64 (pk (fun _ => 0) (R2 (n)) : Nat)]) [⟨[.emp], 1, 0, some 0, true⟩] := by
  obtain ⟨h1, h2, h3, h4⟩ := shN hn
  have lp := lpfb_fre n hn
  refine has112.eev rfl rfl ?_
  unfold m112
  repeat' (first
    | refine sc_loop lp rfl rfl ⟨rfl, rfl, rfl⟩ rfl rfl rfl ?_
    | (refine g_op ?_; first
      | refine ep_mov rfl ?_ | refine sp_loadN rfl rfl rfl rfl rfl ?_
      | refine ep_call0 rfl (by first | exact ev111 _ hn) rfl rfl ?_
      | refine sp_call rfl rfl rfl rfl (by first | exact ev111 _ hn) ⟨rfl, rfl, rfl, rfl⟩ rfl rfl rfl ?_
      | refine sp_store rfl rfl rfl rfl rfl rfl rfl rfl rfl rfl ?_ | refine sp_alloc rfl rfl ?_ | refine sp_build rfl rfl ?_)
    | (refine g_ops ?_; first | refine eo_none ?_ | refine eo_nil ?_)
    | (refine g_code ?_; first | refine ec_seq ?_ | refine ec_region ?_ | refine ec_block ?_ | refine ec_ret ?_)
    | refine ek_seqN ?_ | refine ek_seqX ?_ | refine ek_seqR ?_ | refine ek_blkN ?_ | refine ek_blkR ?_ | refine ek_blkX ?_ | refine ek_blkY rfl ?_)
  refine sfin (.inr rfl) (by rfl) (by rfl) (by exact ⟨rfl, rfl, rfl⟩) (by rfl) (by rfl) (by rfl) (by first | rfl | (simp; done) | (simp [ints, prs]; done))

theorem ev13_e (n : Nat) (hn : n ≤ 4) : Ev cx 13 [.int .i64 n, .emp] [] (rr (forR n [])) [] := by
  have e1 := ev108 (n : Nat)
  rw [decide_eq_true (show (0 : Int) ≤ (n : Nat) ∧ ((n : Nat) : Int) ≤ 4 by omega)] at e1
  have e2 := evcf_fre1 n hn
  rw [show allF (fun i => !(fun _ => false) i) 0 0 = true from rfl] at e2
  have e3 := evfb_fre n hn
  have hf : forR n [] = ⟨(n : Nat), (pk (fun _ => 0) (R2 n) : Nat), 0⟩ := by
    rw [forR, if_pos ⟨⟨by omega, by omega⟩, by simp, rfl⟩, Int.toNat_natCast]
    first | rfl | (congr 2; first | done | exact pk_congr fun r _ => rfl)
  rw [hf]
  refine has13.eev rfl rfl ?_
  unfold m13
  repeat' (first
    | (refine g_op ?_; first
      | refine ep_mov rfl ?_ | refine ep_load1 rfl rfl rfl rfl ?_
      | refine ep_call0 rfl (by first | exact e1 | exact e2 | exact e3) rfl rfl ?_
      | refine sp_call rfl rfl rfl rfl (by first | exact e1 | exact e2 | exact e3) ⟨rfl, rfl, rfl, rfl⟩ rfl rfl rfl ?_
      | refine ep_bin rfl rfl (by exact b_gtr) ?_ | refine ep_pickT rfl rfl ?_ | refine ep_pickF rfl rfl ?_ | refine ep_pickTH rfl (by assumption) rfl ?_ | refine ep_pickFH rfl (by assumption) rfl ?_
      | refine sp_store rfl rfl rfl rfl rfl rfl rfl rfl rfl rfl ?_ | refine ep_not rfl ?_ | refine ep_lenS rfl ?_ | refine ep_lenN rfl ?_ | refine ep_lenE rfl ?_ | refine sp_box rfl rfl rfl rfl rfl ?_
      | refine sp_alloc rfl rfl ?_ | refine sp_build rfl rfl ?_ | refine ep_mkfn rfl ?_)
    | (refine g_ops ?_; first | refine eo_none ?_ | refine eo_nil ?_ | refine eo_yes rfl ?_ | refine eo_no rfl ?_ | refine eo_und rfl ?_ | refine eo_yesH rfl (by assumption) ?_ | refine eo_noH rfl (by assumption) ?_)
    | (refine g_code ?_; first | refine ec_seq ?_ | refine ec_region ?_ | refine ec_skip ?_ | refine ec_ret ?_ | refine ec_condT rfl ?_ | refine ec_condF rfl ?_ | refine ec_condTH rfl (by assumption) ?_ | refine ec_condFH rfl (by assumption) ?_)
    | refine ek_seqN ?_ | refine ek_seqR ?_)
  refine sfin (.inr rfl) (by rfl) (by rfl) (by exact ⟨rfl, rfl, rfl⟩) (by rfl) (by rfl) (by rfl) (by first | rfl | (simp; done) | (simp [ints, prs]; done))

section
open Go.RowKit
def RdPB (w : World) (g cp : Nat) (L : List (Int × Int)) : Prop := ∃ (cs : Array Value) (el : TypeId), w.heap[g]? = some (.cells cs el (0, 0)) ∧ L.length ≤ cp ∧ cp * 2 ≤ cs.size ∧ ∀ i, i < L.length → cs[i * 2]? = some (.int .i64 (L.getD i (0, 0)).1) ∧ cs[i * 2 + 1]? = some (.int .i64 (L.getD i (0, 0)).2)
def RdP (w : World) (b0 : Nat) (v : Value) (L : List (Int × Int)) : Prop := (L = [] ∧ ∃ o, v = .slice o 0 0) ∨ ∃ g cp, v = .slice (some ⟨g, 0, none⟩) L.length cp ∧ b0 ≤ g ∧ RdPB w g cp L
theorem RdPB.kept {w w' : World} {g cp : Nat} {L : List (Int × Int)} {row : Option Nat} (h : RdPB w g cp L) (hg : w.grownBy w' row) (hr : some g ≠ row) : RdPB w' g cp L := by
  obtain ⟨cs, el, h1, h2⟩ := h
  exact ⟨cs, el, blk_fr' h1 hg hr, h2⟩
theorem RdPB.cell {w : World} {g cp : Nat} {L : List (Int × Int)} (h : RdPB w g cp L) {i : Nat} (hi : i < L.length) : w.cell? ⟨g, i * 2, none⟩ = some (.int .i64 (L.getD i (0, 0)).1) ∧ w.cell? ⟨g, i * 2 + 1, none⟩ = some (.int .i64 (L.getD i (0, 0)).2) := by
  obtain ⟨cs, el, h1, _, _, h4⟩ := h
  exact ⟨cell_blk h1 (h4 i hi).1, cell_blk h1 (h4 i hi).2⟩
theorem RdP.kept {w w' : World} {b0 : Nat} {v : Value} {L : List (Int × Int)} (h : RdP w b0 v L) (hg : w.grownBy w' none) : RdP w' b0 v L := by
  rcases h with h | ⟨g, cp, h1, h2, h3⟩
  · exact .inl h
  · exact .inr ⟨g, cp, h1, h2, h3.kept hg (by simp)⟩
theorem fns_at : ∀ {c : List (Int × Int)} {i : Nat}, i < c.length → (fns c)[i * 2]? = some (.int .i64 (c.getD i (0, 0)).1) ∧ (fns c)[i * 2 + 1]? = some (.int .i64 (c.getD i (0, 0)).2)
  | [], i, h => by simp at h
  | x :: xs, 0, _ => ⟨rfl, rfl⟩
  | x :: xs, i + 1, h => by
    have ih := fns_at (c := xs) (i := i) (by simpa using h)
    have e : fns (x :: xs) = .int .i64 x.1 :: .int .i64 x.2 :: fns xs := rfl
    rw [e, show (i + 1) * 2 = i * 2 + 1 + 1 by omega]
    simpa using ih
theorem prs_fns (n : Nat) : ∀ l : List Nat, prs n l = fns (l.map fun (x : Nat) => ((n : Int), (x : Int)))
  | [] => rfl
  | x :: xs => by
    show V.int .i64 n :: V.int .i64 x :: prs n xs = _
    rw [prs_fns n xs]; rfl
theorem Ev.callLP {C : Cx} {f : Nat} {args : List V} {vs : List Value} {rs : List V} {n : Nat} {c : List (Int × Int)} (h : Ev C f args [] (.tup (.sl 0 0 n :: rs)) [⟨fns c, 2, 0, some 0, false⟩]) (hn : n ≤ c.length) (hv : VRL C.ρ mp0 args vs) (hid : V.idsL args = []) (hr : V.idsL rs = []) (W : World) :
    Calls C.P (C.ρ f) vs.toArray W fun e w' => ∃ (v : Value) (us : List Value), e = .returned (.tuple (v :: us).toArray) ∧ VRL C.ρ mp0 rs us ∧ RdP w' W.heap.size v (c.take n) ∧ W.grownBy w' none := by
  refine (h.2 mp0 W vs (inv00g W) hv (by rw [hid]; simp)).mono fun e w' he => ?_
  obtain ⟨u, m', rfl, hq⟩ := he
  have hu := hq.rel
  simp only [VR, VRL] at hu
  obtain ⟨cs, rfl, v, us, hcs, hsl, hus⟩ := hu
  refine ⟨v, us, ?_, VRL.agree (fun i hi => by rw [hr] at hi; simp at hi) hus, ?_, keep_grown hq.keep⟩
  · rw [← hcs]
  · obtain ⟨cells, el, fz, hh, hsz, hes, hle, hget, hfz⟩ := hq.inv.blk 0 _ (by simp) rfl
    have hfz0 := hfz rfl
    subst hfz0
    have hrt := hq.inv.rts 0 _ 0 (by simp) rfl rfl 0 (Nat.le_refl _)
    have hlen : (c.take n).length = n := by rw [List.length_take]; omega
    rcases hsl with ⟨cp, rfl, h1, h2⟩ | ⟨h1, a, rfl⟩
    · right
      refine ⟨m'.b 0, cp, by rw [hlen], ?_, cells, el, hh, by rw [hlen]; exact h1, by rw [hes] at h2; simp only at h2; omega, fun i hi => ?_⟩
      · rcases hrt with h | ⟨i, b, p, hb, _⟩
        · exact h
        · simp at hb
      · rw [hlen] at hi
        obtain ⟨k1, k2⟩ := fns_at (c := c) (i := i) (by omega)
        obtain ⟨u1, hu1, hv1⟩ := hget _ _ k1
        obtain ⟨u2, hu2, hv2⟩ := hget _ _ k2
        simp only [VR] at hv1 hv2
        subst hv1 hv2
        rw [hu1, hu2]
        simp [List.getD_eq_getElem?_getD, List.getElem?_take, hi]
    · left
      exact ⟨List.eq_nil_of_length_eq_zero (by rw [hlen]; exact h1), _, rfl⟩
end

theorem selm_in {p : Nat → Bool} {n s : Nat} : s ∈ selm p idn n ↔ s < n ∧ p s = true := by
  simp only [selm, List.mem_map, List.mem_filter, List.mem_range, idn]
  constructor
  · rintro ⟨a, ⟨h1, h2⟩, rfl⟩; exact ⟨h1, h2⟩
  · rintro ⟨h1, h2⟩; exact ⟨s, ⟨h1, h2⟩, rfl⟩
theorem hasR_iff {l : List Nat} {r : Nat} : hasR l r = true ↔ ∃ s ∈ l, r &&& s = s := by
  rw [hasR, Bool.not_eq_true', ← Bool.not_eq_true, allF_iff]
  constructor
  · intro h
    apply Classical.byContradiction
    intro hn
    apply h
    intro j _ hj
    have hj2 : j < l.length := by omega
    rw [Bool.not_eq_true', beq_eq_false_iff_ne]
    intro he
    apply hn
    rw [List.getD_eq_getElem?_getD, List.getElem?_eq_getElem hj2] at he
    exact ⟨l[j], List.getElem_mem hj2, he⟩
  · rintro ⟨s, hs, he⟩ h
    obtain ⟨j, hj, rfl⟩ := List.getElem_of_mem hs
    have := h j (Nat.zero_le _) (by omega)
    rw [Bool.not_eq_true', beq_eq_false_iff_ne, List.getD_eq_getElem?_getD, List.getElem?_eq_getElem hj] at this
    exact this he
theorem trP_iff {l : List Nat} {r : Nat} : trP l r = true ↔ ∀ s ∈ l, r &&& s ≠ 0 := by
  rw [trP, allF_iff]
  constructor
  · intro h s hs
    obtain ⟨j, hj, rfl⟩ := List.getElem_of_mem hs
    have := h j (Nat.zero_le _) (by omega)
    rw [Bool.not_eq_true', beq_eq_false_iff_ne, List.getD_eq_getElem?_getD, List.getElem?_eq_getElem hj] at this
    exact this
  · intro h j _ hj
    have hj2 : j < l.length := by omega
    rw [Bool.not_eq_true', beq_eq_false_iff_ne, List.getD_eq_getElem?_getD, List.getElem?_eq_getElem hj2]
    exact h _ (List.getElem_mem hj2)
theorem and_tr {r s t : Nat} (h1 : r &&& s = s) (h2 : s &&& t = t) : r &&& t = t := by
  have : r &&& (s &&& t) = s &&& t := by rw [← Nat.and_assoc, h1]
  rwa [h2] at this
theorem and_le' {r s : Nat} (h : r &&& s = s) : s ≤ r := by rw [← h]; exact Nat.and_le_left
theorem bt_01 (b r : Nat) : bt b r = 0 ∨ bt b r = 1 := by have := bt_le b r; omega
def fill (s r : Nat) : Nat → Nat
  | 0 => s
  | k + 1 => if r.testBit k then fill s r k ||| R2 k else fill s r k
theorem fill_tb (s r : Nat) : ∀ k i, (fill s r k).testBit i = (s.testBit i || (decide (i < k) && r.testBit i))
  | 0, i => by simp [fill]
  | k + 1, i => by
    rw [fill]
    by_cases h : r.testBit k = true
    · rw [if_pos h, Nat.testBit_or, fill_tb s r k i]
      unfold R2
      rw [Nat.testBit_two_pow]
      by_cases e : k = i
      · subst e; simp [h]
      · rw [decide_eq_false e, show decide (i < k + 1) = decide (i < k) from decide_eq_decide.mpr (by omega)]; simp
    · rw [if_neg h, fill_tb s r k i]
      by_cases e : i = k
      · subst e
        have h' : r.testBit i = false := by simpa using h
        simp [h']
      · rw [show decide (i < k + 1) = decide (i < k) from decide_eq_decide.mpr (by omega)]
theorem mono_sub {n b s r : Nat} (hm : monoB n b = true) (hr : r < R2 n) (hs : r &&& s = s) (h1 : bt b s = 1) : bt b r = 1 := by
  have hsr : s < R2 n := Nat.lt_of_le_of_lt (and_le' hs) hr
  have key : ∀ k, k ≤ n → fill s r k < R2 n ∧ bt b (fill s r k) = 1 := by
    intro k
    induction k with
    | zero => intro _; exact ⟨hsr, h1⟩
    | succ k ih =>
      intro hk
      obtain ⟨i1, i2⟩ := ih (by omega)
      rw [fill]
      split
      · have hp := R2_le (show k < n by omega)
        have hpp := R2_pos k
        refine ⟨or_lt i1 (by omega), ?_⟩
        rw [monoB, allF_iff] at hm
        have h2 := hm _ (Nat.zero_le _) (show fill s r k < 0 + R2 n by omega)
        rw [allF_iff] at h2
        have h3 := h2 k (Nat.zero_le _) (by omega)
        simp only [monoP, decide_eq_true_eq] at h3
        have := bt_le b (fill s r k ||| R2 k)
        omega
      · exact ⟨i1, i2⟩
  have hf : fill s r n = r := by
    apply Nat.eq_of_testBit_eq
    intro i
    rw [fill_tb]
    have hsi : s.testBit i = true → r.testBit i = true := by
      intro h
      rw [← hs, Nat.testBit_and, Bool.and_eq_true] at h
      exact h.1
    by_cases hi : i < n
    · rw [decide_eq_true hi, Bool.true_and]
      cases h : s.testBit i
      · simp
      · rw [hsi h]; rfl
    · rw [tb_ge hsr (by omega), tb_ge hr (by omega)]; simp
  have := (key n (Nat.le_refl _)).2
  rwa [hf] at this
theorem least_below {n b : Nat} : ∀ r, r < R2 n → bt b r = 1 → ∃ s, s < R2 n ∧ enP n b 1 belT s = true ∧ r &&& s = s := by
  intro r
  induction r using Nat.strongRecOn with
  | _ r ih =>
    intro hr h1
    cases hE : enP n b 1 belT r with
    | true => exact ⟨r, hr, hE, Nat.and_self r⟩
    | false =>
      rw [enP, h1] at hE
      simp only [beq_self_eq_true, Bool.true_and] at hE
      rw [← Bool.not_eq_true, allF_iff] at hE
      apply Classical.byContradiction
      intro hn
      apply hE
      intro s _ hs
      have hs : s < R2 n := by omega
      rw [enQ]
      by_cases e : s = r
      · subst e; simp
      · by_cases h2 : bt b s = 1
        · by_cases h3 : r &&& s = s
          · exfalso
            have hle := and_le' h3
            obtain ⟨t, t1, t2, t3⟩ := ih s (by omega) hs h2
            exact hn ⟨t, t1, t2, and_tr h3 t3⟩
          · have : (r &&& s == s) = false := by simpa using h3
            simp [belT, this]
        · have : (bt b s != 1) = true := by simpa using h2
          simp [this]
theorem least_makes {n b : Nat} (hm : monoB n b = true) (hb : b < R2 (R2 n)) : pk (bn (hasR (selm (enP n b 1 belT) idn (R2 n)))) (R2 n) = b := by
  rw [← pk_self hb]
  refine pk_congr fun r hr => ?_
  rw [pk_self hb]
  have key : hasR (selm (enP n b 1 belT) idn (R2 n)) r = true ↔ bt b r = 1 := by
    rw [hasR_iff]
    constructor
    · rintro ⟨s, hs, h2⟩
      obtain ⟨h3, h4⟩ := selm_in.mp hs
      rw [enP, Bool.and_eq_true, beq_iff_eq] at h4
      exact mono_sub hm hr h2 (by omega)
    · intro h1
      obtain ⟨s, h2, h3, h4⟩ := least_below r hr h1
      exact ⟨s, selm_in.mpr ⟨h2, h3⟩, h4⟩
  unfold bn
  rcases bt_01 b r with h | h
  · rw [if_neg (fun h2 => by have := key.mp h2; omega), h]
  · rw [if_pos (key.mpr h), h]
theorem cp_tb {n r i : Nat} (hr : r < R2 n) : (R2 n - 1 - r).testBit i = (decide (i < n) && !r.testBit i) := by
  unfold R2 at *
  rw [show 2 ^ n - 1 - r = 2 ^ n - (r + 1) by omega]
  exact Nat.testBit_two_pow_sub_succ hr i
theorem cp_lt {n r : Nat} : R2 n - 1 - r < R2 n := by have := R2_pos n; omega
theorem cp_sub {n r l : Nat} (hr : r < R2 n) (hl : l < R2 n) : (R2 n - 1 - r) &&& l = l ↔ r &&& l = 0 := by
  constructor
  · intro h
    apply Nat.eq_of_testBit_eq
    intro i
    rw [Nat.testBit_and, Nat.zero_testBit]
    cases hli : l.testBit i
    · simp
    · rw [← h, Nat.testBit_and, cp_tb hr, Bool.and_eq_true, Bool.and_eq_true, Bool.not_eq_true'] at hli
      rw [hli.1.2]; rfl
  · intro h
    apply Nat.eq_of_testBit_eq
    intro i
    rw [Nat.testBit_and, cp_tb hr]
    cases hli : l.testBit i
    · simp
    · have h2 : (r &&& l).testBit i = false := by rw [h, Nat.zero_testBit]
      rw [Nat.testBit_and, hli, Bool.and_true] at h2
      by_cases hi : i < n
      · simp [hi, h2]
      · rw [tb_ge hl (by omega)] at hli; simp at hli
theorem cp_cp {n r s : Nat} (hr : r < R2 n) (hs : s < R2 n) : (R2 n - 1 - r) &&& (R2 n - 1 - s) = R2 n - 1 - s ↔ s &&& r = r := by
  have h2 := cp_sub (n := n) (r := R2 n - 1 - s) (l := r) cp_lt hr
  rw [show R2 n - 1 - (R2 n - 1 - s) = s by omega] at h2
  rw [cp_sub hr cp_lt, Nat.and_comm, h2]
def dlB (n b : Nat) : Nat := pk (fun r => 1 - bt b (R2 n - 1 - r)) (R2 n)
theorem dual_bt {n b r : Nat} (hr : r < R2 n) : bt (dlB n b) r = 1 - bt b (R2 n - 1 - r) := bt_pk (fun r _ => by have := bt_le b (R2 n - 1 - r); omega) hr
theorem dual_lt (n b : Nat) : dlB n b < R2 (R2 n) := pk_lt fun r _ => by have := bt_le b (R2 n - 1 - r); omega
theorem tr_dual {n b : Nat} (hm : monoB n b = true) : pk (bn (trP (selm (enP n b 1 belT) idn (R2 n)))) (R2 n) = dlB n b := by
  refine pk_congr fun r hr => ?_
  have hc := cp_lt (n := n) (r := r)
  have key : trP (selm (enP n b 1 belT) idn (R2 n)) r = true ↔ bt b (R2 n - 1 - r) = 0 := by
    rw [trP_iff]
    constructor
    · intro h
      rcases bt_01 b (R2 n - 1 - r) with h2 | h2
      · exact h2
      · obtain ⟨s, s1, s2, s3⟩ := least_below _ hc h2
        exact absurd ((cp_sub hr s1).mp s3) (h s (selm_in.mpr ⟨s1, s2⟩))
    · intro h s hs h0
      obtain ⟨h3, h4⟩ := selm_in.mp hs
      rw [enP, Bool.and_eq_true, beq_iff_eq] at h4
      have := mono_sub hm hc ((cp_sub hr h3).mpr h0) (by omega)
      omega
  unfold bn
  rcases bt_01 b (R2 n - 1 - r) with h | h
  · rw [if_pos (key.mpr h), h]
  · rw [if_neg (fun h2 => by have := key.mp h2; omega), h]
theorem mono_of {n b : Nat} (h : ∀ r i, r < R2 n → i < n → bt b r = 1 → bt b (r ||| R2 i) = 1) : monoB n b = true := by
  rw [monoB, allF_iff]
  intro r _ hr
  rw [allF_iff]
  intro i _ hi
  simp only [monoP, decide_eq_true_eq]
  have h1 := h r i (by omega) (by omega)
  have h2 := bt_le b r
  rcases bt_01 b r with e | e
  · omega
  · have := h1 e; omega
theorem or_sub (r x : Nat) : (r ||| x) &&& r = r := by
  apply Nat.eq_of_testBit_eq; intro i
  rw [Nat.testBit_and, Nat.testBit_or]
  cases r.testBit i <;> simp
theorem or_in {n r i : Nat} (hr : r < R2 n) (hi : i < n) : r ||| R2 i < R2 n := or_lt hr (by have := R2_le hi; have := R2_pos i; omega)
theorem mono_dual {n b : Nat} (hm : monoB n b = true) : monoB n (dlB n b) = true := by
  refine mono_of fun r i hr hi h1 => ?_
  have h2 := or_in hr hi
  rw [dual_bt hr] at h1
  rw [dual_bt h2]
  rcases bt_01 b (R2 n - 1 - (r ||| R2 i)) with e | e
  · rw [e]
  · have h3 := mono_sub hm (cp_lt (n := n) (r := r)) ((cp_cp hr h2).mpr (or_sub r (R2 i))) e
    omega
theorem mono_rows (n : Nat) (l : List Nat) : monoB n (pk (bn (hasR l)) (R2 n)) = true := by
  have hle : ∀ r, r < R2 n → bn (hasR l) r ≤ 1 := fun r _ => by unfold bn; split <;> omega
  refine mono_of fun r i hr hi h1 => ?_
  have h2 := or_in hr hi
  rw [bt_pk hle hr] at h1
  rw [bt_pk hle h2]
  have h3 : hasR l r = true := by
    cases h : hasR l r
    · rw [bn, h] at h1; simp at h1
    · rfl
  rw [hasR_iff] at h3
  obtain ⟨s, hs, h4⟩ := h3
  have h5 : hasR l (r ||| R2 i) = true := hasR_iff.mpr ⟨s, hs, and_tr (or_sub r (R2 i)) h4⟩
  rw [bn, h5]; rfl
theorem allF_rev {p q : Nat → Bool} {n : Nat} (h : ∀ s, s < n → p s = q (n - 1 - s)) : allF p 0 n = allF q 0 n := by
  rw [Bool.eq_iff_iff, allF_iff, allF_iff]
  constructor
  · intro k s _ hs
    have := k (n - 1 - s) (Nat.zero_le _) (by omega)
    rw [h _ (by omega)] at this
    rwa [show n - 1 - (n - 1 - s) = s by omega] at this
  · intro k s _ hs
    rw [h s (by omega)]
    exact k _ (Nat.zero_le _) (by omega)
theorem greatest_dual {n b r : Nat} (hr : r < R2 n) : enP n b 0 belF r = enP n (dlB n b) 1 belT (R2 n - 1 - r) := by
  have hc := cp_lt (n := n) (r := r)
  have hcc : R2 n - 1 - (R2 n - 1 - r) = r := by omega
  rw [enP, enP, dual_bt hc, hcc]
  congr 1
  · rcases bt_01 b r with e | e <;> rw [e] <;> rfl
  · refine allF_rev fun s hs => ?_
    have hsc := cp_lt (n := n) (r := s)
    rw [enQ, enQ, dual_bt hsc, show R2 n - 1 - (R2 n - 1 - s) = s by omega]
    congr 1
    · rw [Bool.eq_iff_iff, beq_iff_eq, beq_iff_eq]; omega
    · congr 1
      · rcases bt_01 b s with e | e <;> rw [e] <;> rfl
      · congr 1
        rw [Bool.eq_iff_iff]
        simp only [belF, belT, beq_iff_eq]
        exact (cp_cp hr hs).symm
theorem range_rev (n : Nat) : (List.range n).reverse = (List.range n).map fun i => n - 1 - i := by
  apply List.ext_getElem
  · simp
  · intro i h1 h2
    simp
theorem count_rev {p q : Nat → Bool} {n : Nat} (h : ∀ r, r < n → p r = q (n - 1 - r)) : (selm p idn n).length = (selm q idn n).length := by
  have e1 : (selm p idn n).length = ((List.range n).filter p).length := by simp [selm]
  have e2 : (selm q idn n).length = ((List.range n).filter q).length := by simp [selm]
  have e3 : ((List.range n).filter q).length = ((List.range n).reverse.filter q).length := by rw [List.filter_reverse, List.length_reverse]
  rw [e1, e2, e3, range_rev, List.filter_map, List.length_map]
  congr 1
  refine List.filter_congr fun r hr => ?_
  rw [List.mem_range] at hr
  exact h r hr
theorem greatest_len {n b : Nat} : (selm (enP n b 0 belF) idn (R2 n)).length = (selm (enP n (dlB n b) 1 belT) idn (R2 n)).length := count_rev fun r hr => greatest_dual hr

section
open Go.RowKit Go.IntWalk
theorem draw_tra (v : Value) (w : World) (h : BytesR w v) : Calls Try.prog 8 #[v] w fun e w' => ∃ p q : Int, e = .returned (.agg #[.int .i64 p, .int .i64 q]) ∧ w.grownBy w' none := by
  have bA := blk_new w (.cells #[.int .i64 0, .int .i64 0] 25 (0, 0))
  have gA := World.grownBy_alloc w (.cells #[.int .i64 0, .int .i64 0] 25 (0, 0)) none
  have hA := h.kept gA
  have hl := lt_of_block bA
  go_enter Try.func8, Try.ntmps8
  go_wp2_with fail
  generalize w.alloc (.cells #[.int .i64 0, .int .i64 0] 25 (0, 0)) = wA at *
  refine (from_b _ _ hA).mono ?_
  rintro e w1 ⟨sb, rfl, hsb1, hsb2, hs1, hg1⟩
  replace bA := blk_fr' bA hg1 (by simp)
  replace gA := grown_t2 gA hg1
  go_wp2_with fail
  refine (draw7_any sb _ hs1 hsb2).mono ?_
  rintro e w2 ⟨p, q, rfl, hs2, hg2⟩
  replace bA := blk_fr' bA hg2 (by simp; omega)
  replace gA := grown_dn gA hg2 (by omega)
  obtain ⟨k0, k1, k2, k3⟩ := res_cells bA
  go_wp2_with fail
  obtain ⟨y1, y2⟩ := ret_pq p q bA gA
  refine bodyPost_ret (results_c1 rfl _ _ w.heap.size 25 _ (0, 0) rfl y1 rfl) rfl ?_
  exact ⟨_, _, rfl, y2⟩
end
section
open Go.RowKit Go.IntWalk
theorem draw_mon (v : Value) (w : World) (h : BytesR w v) : Calls Try.prog 24 #[v] w fun e w' => ∃ p q : Int, e = .returned (.agg #[.int .i64 p, .int .i64 q]) ∧ w.grownBy w' none := by
  have bA := blk_new w (.cells #[.int .i64 0, .int .i64 0] 25 (0, 0))
  have gA := World.grownBy_alloc w (.cells #[.int .i64 0, .int .i64 0] 25 (0, 0)) none
  have hA := h.kept gA
  have hl := lt_of_block bA
  go_enter Try.func24, Try.ntmps24
  go_wp2_with fail
  generalize w.alloc (.cells #[.int .i64 0, .int .i64 0] 25 (0, 0)) = wA at *
  refine (from_b _ _ hA).mono ?_
  rintro e w1 ⟨sb, rfl, hsb1, hsb2, hs1, hg1⟩
  replace bA := blk_fr' bA hg1 (by simp)
  replace gA := grown_t2 gA hg1
  go_wp2_with fail
  refine (draw7_any sb _ hs1 hsb2).mono ?_
  rintro e w2 ⟨p, q, rfl, hs2, hg2⟩
  replace bA := blk_fr' bA hg2 (by simp; omega)
  replace gA := grown_dn gA hg2 (by omega)
  obtain ⟨k0, k1, k2, k3⟩ := res_cells bA
  go_wp2_with fail
  obtain ⟨y1, y2⟩ := ret_pq p q bA gA
  refine bodyPost_ret (results_c1 rfl _ _ w.heap.size 25 _ (0, 0) rfl y1 rfl) rfl ?_
  exact ⟨_, _, rfl, y2⟩
end
section
open Go.RowKit Go.IntWalk
theorem draw_gre (v : Value) (w : World) (h : BytesR w v) : Calls Try.prog 27 #[v] w fun e w' => ∃ p q : Int, e = .returned (.agg #[.int .i64 p, .int .i64 q]) ∧ w.grownBy w' none := by
  have bA := blk_new w (.cells #[.int .i64 0, .int .i64 0] 25 (0, 0))
  have gA := World.grownBy_alloc w (.cells #[.int .i64 0, .int .i64 0] 25 (0, 0)) none
  have hA := h.kept gA
  have hl := lt_of_block bA
  go_enter Try.func27, Try.ntmps27
  go_wp2_with fail
  generalize w.alloc (.cells #[.int .i64 0, .int .i64 0] 25 (0, 0)) = wA at *
  refine (from_b _ _ hA).mono ?_
  rintro e w1 ⟨sb, rfl, hsb1, hsb2, hs1, hg1⟩
  replace bA := blk_fr' bA hg1 (by simp)
  replace gA := grown_t2 gA hg1
  go_wp2_with fail
  refine (draw7_any sb _ hs1 hsb2).mono ?_
  rintro e w2 ⟨p, q, rfl, hs2, hg2⟩
  replace bA := blk_fr' bA hg2 (by simp; omega)
  replace gA := grown_dn gA hg2 (by omega)
  obtain ⟨k0, k1, k2, k3⟩ := res_cells bA
  go_wp2_with fail
  obtain ⟨y1, y2⟩ := ret_pq p q bA gA
  refine bodyPost_ret (results_c1 rfl _ _ w.heap.size 25 _ (0, 0) rfl y1 rfl) rfl ?_
  exact ⟨_, _, rfl, y2⟩
end
section
open Go.RowKit Go.IntWalk
theorem draw_mfs (v : Value) (w : World) (h : BytesR w v) : Calls Try.prog 19 #[v] w fun e w' => ∃ z : Int, e = .returned (.int .i64 z) ∧ w.grownBy w' none := by
  go_enter Try.func19, Try.ntmps19
  go_wp2_with fail
  refine (from_b _ _ h).mono ?_
  rintro e w1 ⟨sb, rfl, hsb1, hsb2, hs1, hg1⟩
  go_wp2_with fail
  refine (next_any sb 5 (by omega) (by omega) _ hs1).mono ?_
  rintro e w2 ⟨x, rfl, hx, hs2, hg2⟩
  have hy2 := hg2.size
  replace hg1 := grown_dn hg1 hg2 (by omega)
  go_wp2_with fail
  refine (pick_any sb w2.heap.size 8 8 (fun _ => True) (by omega) (by omega) (by omega) _ (hs2.kept (World.grownBy_alloc _ _ none) (by simp)) (list_cells (L := [.int .i64 0, .int .i64 1, .int .i64 2, .int .i64 3, .int .i64 3, .int .i64 (-1), .int .i64 5, .int .i64 x]) (by simp))).mono ?_
  rintro e w3 ⟨z, _, rfl, hs3, hg3⟩
  go_wp2_with fail
  go_ret
  exact ⟨z, rfl, grown_dn (grown_t2 hg1 (World.grownBy_alloc _ _ none)) hg3 (by omega)⟩
end

section
open Go.RowKit Go.IntWalk
def castL (L : List Nat) : List Int := L.map fun x => ((x : Nat) : Int)
theorem castL_len (L : List Nat) : (castL L).length = L.length := by simp [castL]
theorem ints_pad (L : List Nat) (k : Nat) : ints (L ++ List.replicate k 0) = zints (castL L ++ List.replicate k 0) := by
  rw [ints_z, List.map_append]; simp [castL]
theorem vr_z2 {ρ : Nat → Nat} {m : Mp} {z : V} {b : Int} {u : Value} (hz : z = .nils ∨ z = .emp) (h : VR ρ m (.tup [z, .int .i64 b]) u) : ∃ o, u = .tuple #[.slice o 0 0, .int .i64 b] := by
  rcases hz with rfl | rfl
  · exact ⟨_, vr_e2 h⟩
  · simp only [VR, VRL] at h
    obtain ⟨cs, rfl, u1, t1, e1, ⟨o, rfl⟩, u2, t2, rfl, rfl, rfl⟩ := h
    obtain rfl : cs = #[.slice (some o) 0 0, .int .i64 b] := by rw [← Array.toArray_toList (xs := cs), e1]
    exact ⟨_, rfl⟩
theorem own_nil {F : Nat} {z : V} {p t c : Int} (hz : z = .nils ∨ z = .emp) (h : Ev cx F [.agg [.int .i64 p, .int .i64 t]] [] (.tup [z, .int .i64 c]) []) (W : World) :
    Calls Try.prog F #[.agg #[.int .i64 p, .int .i64 t]] W fun e w' => ∃ v, e = .returned (.tuple #[v, .int .i64 c]) ∧ RdV w' W.heap.size v [] ∧ W.grownBy w' none := by
  refine (Ev.callF (vs := [.agg #[.int .i64 p, .int .i64 t]]) h (vr_fn1 p t) (by simp [V.idsL, V.ids]) (by rcases hz with rfl | rfl <;> simp [V.idsL, V.ids]) W).mono ?_
  rintro e w' ⟨u, rfl, hu, hg⟩
  obtain ⟨o, rfl⟩ := vr_z2 hz hu
  exact ⟨_, rfl, .inl ⟨rfl, _, rfl⟩, hg⟩
theorem own_lst {F n : Nat} {p t c : Int} {L : List Int} (h : Ev cx F [.agg [.int .i64 p, .int .i64 t]] [] (.tup [.sl 0 0 n, .int .i64 c]) [⟨zints L, 1, 0, some 0, false⟩]) (hn : n ≤ L.length) (W : World) :
    Calls Try.prog F #[.agg #[.int .i64 p, .int .i64 t]] W fun e w' => ∃ v, e = .returned (.tuple #[v, .int .i64 c]) ∧ RdV w' W.heap.size v (L.take n) ∧ W.grownBy w' none := by
  refine (Ev.callL (vs := [.agg #[.int .i64 p, .int .i64 t]]) h hn (vr_fn1 p t) (by simp [V.idsL, V.ids]) (by simp [V.idsL, V.ids]) W).mono ?_
  rintro e w' ⟨v, us, rfl, hu, hv, hg⟩
  simp only [VR, VRL] at hu
  obtain ⟨u1, t1, rfl, rfl, rfl⟩ := hu
  exact ⟨v, rfl, hv, hg⟩
theorem own_pad {F : Nat} {p t : Int} {M : List Nat} (h : ∃ (w : V) (hp : Heap), Ev cx F [.agg [.int .i64 p, .int .i64 t]] [] (.tup [w, .int .i64 0]) hp ∧
    ((w = .nils ∧ hp = [] ∧ M = []) ∨ ∃ k : Nat, k ≤ 16 ∧ w = .sl 0 0 M.length ∧ hp = [⟨ints (M ++ List.replicate k 0), 1, 0, some 0, false⟩] ∧ M.length ≤ 16)) (W : World) :
    Calls Try.prog F #[.agg #[.int .i64 p, .int .i64 t]] W fun e w' => ∃ v, e = .returned (.tuple #[v, .int .i64 0]) ∧ RdV w' W.heap.size v (castL M) ∧ W.grownBy w' none := by
  obtain ⟨w, hp, he, h⟩ := h
  rcases h with ⟨rfl, rfl, rfl⟩ | ⟨k, _, rfl, rfl, _⟩
  · exact own_nil (.inl rfl) he W
  · rw [ints_pad] at he
    have := own_lst he (by simp [castL]) W
    rwa [List.take_append_of_le_length (by simp [castL]), List.take_of_length_le (by simp [castL])] at this
theorem own_emp {F : Nat} {p t : Int} {M : List Nat} (h : Ev cx F [.agg [.int .i64 p, .int .i64 t]] [] (.tup [slV .emp 0 M, .int .i64 0]) (slH 0 1 ints M)) (W : World) :
    Calls Try.prog F #[.agg #[.int .i64 p, .int .i64 t]] W fun e w' => ∃ v, e = .returned (.tuple #[v, .int .i64 0]) ∧ RdV w' W.heap.size v (castL M) ∧ W.grownBy w' none := by
  cases M with
  | nil => exact own_nil (.inr rfl) h W
  | cons x xs =>
    have he : Ev cx F [.agg [.int .i64 p, .int .i64 t]] [] (.tup [.sl 0 0 (x :: xs).length, .int .i64 0]) [⟨ints (x :: xs), 1, 0, some 0, false⟩] := h
    rw [ints_z] at he
    have := own_lst he (by simp) W
    rwa [List.take_of_length_le (by simp)] at this
end
section
open Go.RowKit Go.IntWalk
theorem gf_bad (p t : Int) (h1 : isFn p t = false) : Ev cx 15 [.agg [.int .i64 p, .int .i64 t]] [] (.tup [.nils, .int .i64 1]) [] := by
  have e1 := ev95 p t
  rw [h1] at e1
  refine has15.eev rfl rfl ?_
  unfold m15
  repeat' (first
    | (refine g_op ?_; first
      | refine ep_mov rfl ?_ | refine sp_loadN rfl rfl rfl rfl rfl ?_
      | refine ep_call0 rfl (by first | exact e1) rfl rfl ?_
      | refine sp_call rfl rfl rfl rfl (by first | exact e1) ⟨rfl, rfl, rfl, rfl⟩ rfl rfl rfl ?_
      | refine ep_not rfl ?_ | refine sp_box rfl rfl rfl rfl rfl ?_ | refine ep_mkfn rfl ?_)
    | (refine g_ops ?_; first | refine eo_none ?_ | refine eo_nil ?_)
    | (refine g_code ?_; first | refine ec_seq ?_ | refine ec_region ?_ | refine ec_skip ?_ | refine ec_ret ?_ | refine ec_condT rfl ?_ | refine ec_condF rfl ?_ | refine ec_condTH rfl (by assumption) ?_ | refine ec_condFH rfl (by assumption) ?_)
    | refine ek_seqN ?_ | refine ek_seqR ?_)
  refine sfin (.inr rfl) (by rfl) (by rfl) (by exact ⟨rfl, rfl, rfl⟩) (by rfl) (by rfl) (by rfl) (by first | rfl | (simp; done) | (simp [ints, prs]; done))
def ltL (n b : Nat) : List Nat := selm (enP n b 1 belT) idn (R2 n)
def gfL (n b : Nat) : List Nat := selm (enP n b 0 belF) idn (R2 n)
def traR (p t : Int) : List Int × Int := if isFn p t = true then (if monoB p.toNat t.toNat = true then (castL (ltL p.toNat (dlB p.toNat t.toNat)), 0) else ([], 5)) else ([], 1)
def ltR (p t : Int) : List Int × Int := if isFn p t = true then (castL (ltL p.toNat t.toNat), 0) else ([], 1)
def gfR (p t : Int) : List Int × Int := if isFn p t = true then (castL (gfL p.toNat t.toNat), 0) else ([], 1)
theorem c_trai (p t : Int) (W : World) : Calls Try.prog 9 #[.agg #[.int .i64 p, .int .i64 t]] W fun e w' => ∃ v, e = .returned (.tuple #[v, .int .i64 (traR p t).2]) ∧ RdV w' W.heap.size v (traR p t).1 ∧ W.grownBy w' none := by
  cases h1 : isFn p t
  · rw [show traR p t = ([], 1) from if_neg (by rw [h1]; simp)]
    exact own_nil (.inl rfl) (ev9_bad p t h1) W
  · have e1 := ev95 p t
    rw [h1] at e1
    obtain ⟨n, b, rfl, rfl, a1, a2, a3⟩ := isFn_nat h1
    rw [show traR n b = if monoB n b = true then (castL (ltL n (dlB n b)), 0) else ([], 5) by rw [traR, if_pos h1, Int.toNat_natCast, Int.toNat_natCast]]
    cases hm : monoB n b
    · exact own_nil (.inl rfl) (ev9_non n b a1 a3 hm e1) W
    · exact own_pad (evgf_TransversalsOf n b a1 a3 hm _ (ltL n (dlB n b)) rfl (by rw [tr_dual hm]; rfl) e1) W
theorem c_tras (p t : Int) (W : World) : Calls Try.prog 10 #[.agg #[.int .i64 p, .int .i64 t]] W fun e w' => ∃ v, e = .returned (.tuple #[v, .int .i64 (traR p t).2]) ∧ RdV w' W.heap.size v (traR p t).1 ∧ W.grownBy w' none := by
  cases h1 : isFn p t
  · rw [show traR p t = ([], 1) from if_neg (by rw [h1]; simp)]
    exact own_nil (.inl rfl) (ev10_bad p t h1) W
  · have e1 := ev103 p t
    rw [h1] at e1
    obtain ⟨n, b, rfl, rfl, a1, a2, a3⟩ := isFn_nat h1
    rw [show traR n b = if monoB n b = true then (castL (ltL n (dlB n b)), 0) else ([], 5) by rw [traR, if_pos h1, Int.toNat_natCast, Int.toNat_natCast]]
    cases hm : monoB n b
    · exact own_nil (.inl rfl) (ev10_non n b a1 a3 hm e1) W
    · exact own_emp (ev10 n b a1 a3 hm _ (ltL n (dlB n b)) rfl (by rw [tr_dual hm]; rfl) e1) W
theorem c_lti (p t : Int) (W : World) : Calls Try.prog 12 #[.agg #[.int .i64 p, .int .i64 t]] W fun e w' => ∃ v, e = .returned (.tuple #[v, .int .i64 (ltR p t).2]) ∧ RdV w' W.heap.size v (ltR p t).1 ∧ W.grownBy w' none := by
  cases h1 : isFn p t
  · rw [show ltR p t = ([], 1) from if_neg (by rw [h1]; simp)]
    exact own_nil (.inl rfl) (ev12_bad p t h1) W
  · have e1 := ev95 p t
    rw [h1] at e1
    obtain ⟨n, b, rfl, rfl, a1, a2, a3⟩ := isFn_nat h1
    rw [show ltR n b = (castL (ltL n b), 0) by rw [ltR, if_pos h1, Int.toNat_natCast, Int.toNat_natCast]]
    exact own_pad (evgf_LeastTrueRows n b a1 a2 a3 _ rfl e1) W
theorem c_lts (p t : Int) (W : World) : Calls Try.prog 26 #[.agg #[.int .i64 p, .int .i64 t]] W fun e w' => ∃ v, e = .returned (.tuple #[v, .int .i64 (ltR p t).2]) ∧ RdV w' W.heap.size v (ltR p t).1 ∧ W.grownBy w' none := by
  cases h1 : isFn p t
  · rw [show ltR p t = ([], 1) from if_neg (by rw [h1]; simp)]
    exact own_nil (.inl rfl) (ev26_bad p t h1) W
  · have e1 := ev103 p t
    rw [h1] at e1
    obtain ⟨n, b, rfl, rfl, a1, a2, a3⟩ := isFn_nat h1
    rw [show ltR n b = (castL (ltL n b), 0) by rw [ltR, if_pos h1, Int.toNat_natCast, Int.toNat_natCast]]
    exact own_emp (ev26 n b a1 a3 _ rfl e1) W
theorem c_gfi (p t : Int) (W : World) : Calls Try.prog 15 #[.agg #[.int .i64 p, .int .i64 t]] W fun e w' => ∃ v, e = .returned (.tuple #[v, .int .i64 (gfR p t).2]) ∧ RdV w' W.heap.size v (gfR p t).1 ∧ W.grownBy w' none := by
  cases h1 : isFn p t
  · rw [show gfR p t = ([], 1) from if_neg (by rw [h1]; simp)]
    exact own_nil (.inl rfl) (gf_bad p t h1) W
  · have e1 := ev95 p t
    rw [h1] at e1
    obtain ⟨n, b, rfl, rfl, a1, a2, a3⟩ := isFn_nat h1
    rw [show gfR n b = (castL (gfL n b), 0) by rw [gfR, if_pos h1, Int.toNat_natCast, Int.toNat_natCast]]
    exact own_pad (evgf_GreatestFalseRows n b a1 a2 a3 _ rfl e1) W
theorem c_gfs (p t : Int) (W : World) : Calls Try.prog 28 #[.agg #[.int .i64 p, .int .i64 t]] W fun e w' => ∃ v, e = .returned (.tuple #[v, .int .i64 (gfR p t).2]) ∧ RdV w' W.heap.size v (gfR p t).1 ∧ W.grownBy w' none := by
  cases h1 : isFn p t
  · rw [show gfR p t = ([], 1) from if_neg (by rw [h1]; simp)]
    exact own_nil (.inl rfl) (ev28_bad p t h1) W
  · have e1 := ev103 p t
    rw [h1] at e1
    obtain ⟨n, b, rfl, rfl, a1, a2, a3⟩ := isFn_nat h1
    rw [show gfR n b = (castL (gfL n b), 0) by rw [gfR, if_pos h1, Int.toNat_natCast, Int.toNat_natCast]]
    exact own_emp (ev28 n b a1 a3 _ rfl e1) W
theorem c_dual (n b : Nat) (h1 : isFn n b = true) (hn : n ≤ 4) (hb : b < 65536) (W : World) : Calls Try.prog 14 #[.agg #[.int .i64 n, .int .i64 b]] W fun e w' => e = .returned (.tuple #[.agg #[.int .i64 n, .int .i64 (dlB n b : Nat)], .int .i64 0]) ∧ W.grownBy w' none := by
  refine (Ev.callF (vs := [.agg #[.int .i64 n, .int .i64 b]]) (ev14 n b h1 hn hb) (vr_fn1 n b) (by simp [V.idsL, V.ids]) (by simp [V.idsL, V.ids]) W).mono ?_
  rintro e w' ⟨u, rfl, hu, hg⟩
  exact ⟨by rw [vr_ai hu]; rfl, hg⟩
theorem c_moni (p t : Int) (W : World) : Calls Try.prog 16 #[.agg #[.int .i64 p, .int .i64 t]] W fun e w' => e = .returned (.tuple #[.bool (monoR p t).1, .int .i64 (monoR p t).2]) ∧ W.grownBy w' none := by
  refine (Ev.callF (vs := [.agg #[.int .i64 p, .int .i64 t]]) (ev16 p t) (vr_fn1 p t) (by simp [V.idsL, V.ids]) (by simp [V.idsL, V.ids]) W).mono ?_
  rintro e w' ⟨u, rfl, hu, hg⟩
  exact ⟨by rw [vr_b2 hu], hg⟩
theorem c_mons (p t : Int) (W : World) : Calls Try.prog 25 #[.agg #[.int .i64 p, .int .i64 t]] W fun e w' => e = .returned (.tuple #[.bool (monoR p t).1, .int .i64 (monoR p t).2]) ∧ W.grownBy w' none := by
  refine (Ev.callF (vs := [.agg #[.int .i64 p, .int .i64 t]]) (ev25 p t) (vr_fn1 p t) (by simp [V.idsL, V.ids]) (by simp [V.idsL, V.ids]) W).mono ?_
  rintro e w' ⟨u, rfl, hu, hg⟩
  exact ⟨by rw [vr_b2 hu], hg⟩
theorem c_cnm (z : Int) (W : World) : Calls Try.prog 22 #[.int .i64 z] W fun e w' => e = .returned (.tuple #[.int .i64 ((mfL z).length : Nat), .int .i64 (mfC z)]) ∧ W.grownBy w' none := by
  refine (Ev.callF (vs := [.int .i64 z]) (ev22 z) (by simp only [VR, VRL]; exact ⟨_, _, rfl, rfl, rfl⟩) (by simp [V.idsL, V.ids]) (by simp [V.idsL, V.ids]) W).mono ?_
  rintro e w' ⟨u, rfl, hu, hg⟩
  exact ⟨by rw [vr_i2 hu], hg⟩
def mfP (z : Int) : List (Int × Int) := (mfL z).map fun (x : Nat) => (((z.toNat : Nat) : Int), (x : Int))
theorem mf_any (F : Nat) (z : Int) (s : V) (hs : s = .nils ∨ s = .emp) (h : Ev cx F [.int .i64 z] [] (.tup [slV s 0 (mfL z), .int .i64 (mfC z)]) (slH 0 2 (prs z.toNat) (mfL z))) (W : World) :
    Calls Try.prog F #[.int .i64 z] W fun e w' => ∃ v, e = .returned (.tuple #[v, .int .i64 (mfC z)]) ∧ RdP w' W.heap.size v (mfP z) ∧ W.grownBy w' none := by
  unfold mfP
  cases hm : mfL z with
  | nil =>
    rw [hm] at h
    have h' : Ev cx F [.int .i64 z] [] (.tup [s, .int .i64 (mfC z)]) [] := h
    refine (Ev.callF (vs := [.int .i64 z]) h' (by simp only [VR, VRL]; exact ⟨_, _, rfl, rfl, rfl⟩) (by simp [V.idsL, V.ids]) (by rcases hs with rfl | rfl <;> simp [V.idsL, V.ids]) W).mono ?_
    rintro e w' ⟨u, rfl, hu, hg⟩
    obtain ⟨o, rfl⟩ := vr_z2 hs hu
    exact ⟨_, rfl, .inl ⟨rfl, _, rfl⟩, hg⟩
  | cons x xs =>
    rw [hm] at h
    have h' : Ev cx F [.int .i64 z] [] (.tup [.sl 0 0 (x :: xs).length, .int .i64 (mfC z)]) [⟨prs z.toNat (x :: xs), 2, 0, some 0, false⟩] := h
    rw [prs_fns] at h'
    refine (Ev.callLP (vs := [.int .i64 z]) h' (by simp) (by simp only [VR, VRL]; exact ⟨_, _, rfl, rfl, rfl⟩) (by simp [V.idsL, V.ids]) (by simp [V.idsL, V.ids]) W).mono ?_
    rintro e w' ⟨v, us, rfl, hu, hv, hg⟩
    simp only [VR, VRL] at hu
    obtain ⟨u1, t1, rfl, rfl, rfl⟩ := hu
    rw [List.take_of_length_le (by simp)] at hv
    exact ⟨v, rfl, hv, hg⟩
theorem c_mfi (z : Int) (W : World) : Calls Try.prog 20 #[.int .i64 z] W fun e w' => ∃ v, e = .returned (.tuple #[v, .int .i64 (mfC z)]) ∧ RdP w' W.heap.size v (mfP z) ∧ W.grownBy w' none := mf_any _ z .nils (.inl rfl) (ev20 z) W
theorem c_mfs (z : Int) (W : World) : Calls Try.prog 21 #[.int .i64 z] W fun e w' => ∃ v, e = .returned (.tuple #[v, .int .i64 (mfC z)]) ∧ RdP w' W.heap.size v (mfP z) ∧ W.grownBy w' none := mf_any _ z _ (by split <;> simp) (ev21 z) W
theorem c_fri (m : Nat) (z : Int) (c : List Int) (hl : c.length ≤ 32) (hm : m = c.length) (g cp : Nat) (W : World) (hb : RdB W g cp c) : Calls Try.prog 13 #[.int .i64 z, .slice (some ⟨g, 0, none⟩) m cp] W fun e w' => e = .returned (.tuple #[.agg #[.int .i64 (forR z c).a, .int .i64 (forR z c).b], .int .i64 (forR z c).c]) ∧ RdB w' g cp c ∧ W.grownBy w' (some g) := by
  subst hm
  have hlc : c.length ≤ cp := by obtain ⟨_, _, _, h, _⟩ := hb; exact h
  refine (Ev.callA (vs := [.int .i64 z, .slice (some ⟨g, 0, none⟩) c.length cp]) (ev13 z c (by omega)) W hb (fun sz hsz => by simp only [VR, VRL]; exact ⟨_, _, rfl, rfl, _, _, rfl, .inl ⟨cp, rfl, hlc, by omega⟩, rfl⟩) (by simp [V.idsL, V.ids]) (by simp [V.idsL, V.ids])).mono ?_
  rintro e w' ⟨u, rfl, hu, hr, hg⟩
  exact ⟨by rw [vr_ai hu], hr, hg⟩
theorem c_frs (m : Nat) (z : Int) (c : List Int) (hl : c.length ≤ 32) (hm : m = c.length) (g cp : Nat) (W : World) (hb : RdB W g cp c) : Calls Try.prog 18 #[.int .i64 z, .slice (some ⟨g, 0, none⟩) m cp] W fun e w' => e = .returned (.tuple #[.agg #[.int .i64 (forR z c).a, .int .i64 (forR z c).b], .int .i64 (forR z c).c]) ∧ RdB w' g cp c ∧ W.grownBy w' (some g) := by
  subst hm
  have hlc : c.length ≤ cp := by obtain ⟨_, _, _, h, _⟩ := hb; exact h
  refine (Ev.callA (vs := [.int .i64 z, .slice (some ⟨g, 0, none⟩) c.length cp]) (ev18 z c (by omega)) W hb (fun sz hsz => by simp only [VR, VRL]; exact ⟨_, _, rfl, rfl, _, _, rfl, .inl ⟨cp, rfl, hlc, by omega⟩, rfl⟩) (by simp [V.idsL, V.ids]) (by simp [V.idsL, V.ids])).mono ?_
  rintro e w' ⟨u, rfl, hu, hr, hg⟩
  exact ⟨by rw [vr_ai hu], hr, hg⟩
theorem c_fr0 (n : Nat) (hn : n ≤ 4) (o : Option Addr) (W : World) : Calls Try.prog 13 #[.int .i64 n, .slice o 0 0] W fun e w' => e = .returned (.tuple #[.agg #[.int .i64 (forR n []).a, .int .i64 (forR n []).b], .int .i64 (forR n []).c]) ∧ W.grownBy w' none := by
  cases o with
  | none =>
    refine (Ev.callF (vs := [.int .i64 n, .slice none 0 0]) (ev13_n n hn) (by simp only [VR, VRL]; exact ⟨_, _, rfl, rfl, _, _, rfl, rfl, rfl⟩) (by simp [V.idsL, V.ids]) (by simp [V.idsL, V.ids]) W).mono ?_
    rintro e w' ⟨u, rfl, hu, hg⟩
    exact ⟨by rw [vr_ai hu], hg⟩
  | some a =>
    refine (Ev.callF (vs := [.int .i64 n, .slice (some a) 0 0]) (ev13_e n hn) (by simp only [VR, VRL]; exact ⟨_, _, rfl, rfl, _, _, rfl, ⟨a, rfl⟩, rfl⟩) (by simp [V.idsL, V.ids]) (by simp [V.idsL, V.ids]) W).mono ?_
    rintro e w' ⟨u, rfl, hu, hg⟩
    exact ⟨by rw [vr_ai hu], hg⟩
end

section
open Go.RowKit Go.IntWalk
theorem IntsR.rdB {w : World} {b n g cp : Nat} (h : IntsR w b (.slice (some ⟨g, 0, none⟩) n cp) n) : ∃ L : List Int, L.length = n ∧ b ≤ g ∧ RdB w g cp L := by
  obtain ⟨xs, ⟨h1, h2⟩, h3⟩ := h
  rcases h2 with ⟨h4, _⟩ | ⟨g', cap, cur, h4, h6, h7, h8, h9, h10, h11⟩
  · simp at h4
  · simp only [Value.slice.injEq, Option.some.injEq, Addr.mk.injEq] at h4
    obtain ⟨⟨rfl, _⟩, _, rfl⟩ := h4
    have hl : (xs.map intOf).length = n := by simpa using h1
    refine ⟨xs.map intOf, hl, h6, cur, 2, h7, by omega, by omega, fun i hi => ?_⟩
    have hi' : i < xs.length := by simpa using hi
    obtain ⟨z, hz⟩ := h3 _ (List.getElem_mem hi')
    have hc : cur[i]? = some xs[i] := by
      have := congrArg (fun l => l[i]?) h11
      simp only [List.getElem?_take] at this
      rw [if_pos (by omega), List.getElem?_eq_getElem hi'] at this
      simpa using this
    rw [hc, hz]
    simp [List.getD_eq_getElem?_getD, hi', hz, intOf]
theorem own_sl {w : World} {b e sz n : Nat} {v : Value} {xs : List Value} (h : w.ownsRow b e sz v n xs) (hn : 0 < n) : ∃ g cp, v = .slice (some ⟨g, 0, none⟩) n cp := by
  rcases h.2 with ⟨_, h2⟩ | ⟨g, cp, cur, h1, _⟩
  · omega
  · exact ⟨g, cp, h1⟩
theorem draw_for (v : Value) (w : World) (h : BytesR w v) : Calls Try.prog 17 #[v] w fun e w' => ∃ (z : Int) (g cp : Nat) (L : List Int), e = .returned (.tuple #[.int .i64 z, .slice (some ⟨g, 0, none⟩) L.length cp]) ∧ L.length ≤ 32 ∧ w.heap.size ≤ g ∧ RdB w' g cp L ∧ w.grownBy w' none := by
  obtain ⟨i0, hi, hz0, hz1, hz2⟩ := info_parts Try.info2
  go_enter Try.func17, Try.ntmps17
  go_wp2_with fail
  refine (from_b _ _ h).mono ?_
  rintro e w1 ⟨sb, rfl, hsb1, hsb2, hs1, gA⟩
  go_wp2_with fail
  refine (next_any sb 5 (by omega) (by omega) _ hs1).mono ?_
  rintro e w2 ⟨n0, rfl, hn0, hs2, hg2⟩
  replace gA := grown_dn gA hg2 (by omega)
  have hy2 := hg2.size
  have hn4 : n0 ≤ 4 := by omega
  obtain ⟨h16, hh2, h3, h4⟩ := shN hn4
  clear hg2 hs1
  have bB := blk_new w2 (.cells #[] 2 (0, 0))
  have gB := World.grownBy_alloc w2 (.cells #[] 2 (0, 0)) none
  have e1 : (w2.alloc (.cells #[] 2 (0, 0))).heap.size = w2.heap.size + 1 := by simp
  replace gA := grown_t2 gA gB
  replace hs2 := hs2.kept gB (by simp)
  clear gB
  go_wp2_with fail
  generalize w2.alloc (.cells #[] 2 (0, 0)) = w3 at *
  generalize hB : w2.heap.size = B at *
  rw [← e1]
  refine (pick_any sb w3.heap.size 3 3 (fun z => 4 ≤ z ∧ z ≤ 19) (by omega) (by omega) (by omega) _ (hs2.kept (World.grownBy_alloc _ _ none) (by simp)) (list_cellsP _ [.int .i64 4, .int .i64 8, .int .i64 19] (by simp))).mono ?_
  rintro e w4 ⟨z, ⟨hz4, hz19⟩, rfl, hs4, hg4⟩
  obtain ⟨K0, rfl⟩ := Int.eq_ofNat_of_zero_le (show 0 ≤ z by omega)
  have gE := World.grownBy_alloc w3 (.cells #[.int .i64 4, .int .i64 8, .int .i64 19] 2 (0, 0)) none
  replace hg4 := grown_t2 (gr_some (k := sb) gE) hg4
  replace bB := blk_fr' bB hg4 (by simp; omega)
  replace gA := grown_dn gA hg4 (by omega)
  have hy4 := hg4.size
  clear hg4 gE hs2
  go_wp2_with fail
  refine (next_any sb K0 (by omega) (by omega) _ hs4).mono ?_
  rintro e w5 ⟨K, rfl, hK, hs5, hg5⟩
  replace bB := blk_fr' bB hg5 (by simp; omega)
  replace gA := grown_dn gA hg5 (by omega)
  have hy5 := hg5.size
  have hK18 : K ≤ 18 := by omega
  have hlB : B < w5.heap.size := by omega
  clear hg5 hs4 hK hz4 hz19 e1
  go_wp2_with fail
  go_loopw [6, 7] (fun v i wr => ∃ k m : Nat, i = .int .i64 k ∧ k + m ≤ 18 ∧ IntsR wr B v m ∧ (∃ g cp, v = .slice (some ⟨g, 0, none⟩) m cp) ∧ Src wr sb ∧ w.grownBy wr none ∧ B < wr.heap.size) (fun _ i _ => (intOf i).toNat)
  case atStart => exact ⟨K, 0, rfl, by omega, ⟨[], ⟨rfl, .inr ⟨_, 0, #[], rfl, Nat.le_refl _, bB, Nat.le_refl _, Nat.zero_le _, rfl, rfl⟩⟩, by simp⟩, ⟨_, _, rfl⟩, hs5, gA, hlB⟩
  case round =>
    obtain ⟨k, m, rfl, hk1, ⟨xs, hown, hxs⟩, ⟨g, cp, rfl⟩, hsr, hgr, hsz⟩ := hrel
    by_cases hk0 : 0 < k
    · go_wp2_with (first
        | (go_at_call 106; refine (srows_anyd n0 hn4 _).mono ?_; rintro e w6 ⟨rfl, hg6⟩; have hs6 := hsr.kept hg6 (by simp); have hown6 := hown.kept hg6 (by simp [Value.ownBlock]))
        | (go_at_call 120; refine (next_any sb _ (by omega) (by omega) _ hs6).mono ?_; rintro e w7 ⟨y, rfl, hy, hs7, hg7⟩; have hown7 := own_kept hown6 hg7 (by omega))
        | (at_builtin; refine wpList_append_own_at _ rfl (.tmp 22) (.tmp 27) 27 rfl B 2 i0 _ 1 8 Try.underlying27 hi hz0 hz1 hz2 rfl (by decide) _ _ _ rfl (hown7.alloc _) ⟨w7.heap.size, 0, none⟩ 1 1 [_] rfl rfl (one_cell (blk_new _ _)) (by intro u hu; simp at hu; subst hu; rfl) (by unfold maxLen; omega) (by omega) (by have := hg6.size; have := hg7.size; simp; omega) ?_; intro v' w8 hown' hgrow _ hat)
        | fail)
      have hgr7 := grown_dn (grown_t2 hgr hg6) hg7 (by omega)
      have hy6 := hg6.size
      have hy7 := hg7.size
      obtain ⟨ha, hb, hz, hs8⟩ := app_dn hgr7 (grn_refl _) (by omega) (by omega) hs7 hown7 hgrow
      go_roundw
      case rel => exact ⟨k - 1, m + 1, by go_num, by omega, IntsR.snoc hxs hown', own_sl hown' (by omega), hs8, ha, by omega⟩
      case measure => simp [intOf]; omega
    · obtain rfl : k = 0 := by omega
      have hIR : IntsR wr B (.slice (some ⟨g, 0, none⟩) m cp) m := ⟨xs, hown, hxs⟩
      go_wp2_with fail
      refine (next_any sb 24 (by omega) (by omega) _ hsr).mono ?_
      rintro e w6 ⟨y, rfl, hy, hs6, hg6⟩
      replace hIR := hIR.kept2 hg6 (.inr (by simp [Value.ownBlock]; have := (own_ge hown (k := g) rfl).1; omega))
      replace hgr := grown_dn hgr hg6 (by omega)
      have hy6 := hg6.size
      clear hg6 hsr hown hxs
      by_cases hy0 : y = 0
      · subst hy0
        go_wp2_with fail
        refine (pick_any sb w6.heap.size 2 2 (fun _ => True) (by omega) (by omega) (by omega) _ (hs6.kept (World.grownBy_alloc _ _ none) (by simp)) (list_cells (L := [.int .i64 (-1), .int .i64 5]) (by simp))).mono ?_
        rintro e w7 ⟨z, _, rfl, hs7, hg7⟩
        have gE := World.grownBy_alloc w6 (.cells #[.int .i64 (-1), .int .i64 5] 2 (0, 0)) none
        have hgB := (hIR.rdB).choose_spec.2.1
        replace hIR := (hIR.kept gE (by simp)).kept2 hg7 (.inr (by simp [Value.ownBlock]; omega))
        replace hgr := grown_dn (grown_t2 hgr gE) hg7 (by omega)
        go_wp2_with fail
        go_ret2
        obtain ⟨L, hL, hLg, hrd⟩ := hIR.rdB
        exact ⟨z, g, cp, L, by rw [hL]; rfl, by omega, by omega, hrd, hgr⟩
      · by_cases hy1 : y = 1
        · subst hy1
          have hgB := (hIR.rdB).choose_spec.2.1
          go_wp2_with (first
            | (go_at_call 106; refine (srows_anyd n0 hn4 _).mono ?_; rintro e w7 ⟨rfl, hg7⟩; have hs7 := hs6.kept hg7 (by simp); have hI7 := hIR.kept hg7 (by simp))
            | fail)
          have hgr7 := grown_t2 hgr hg7
          have hy7 := hg7.size
          refine (pick_any sb w7.heap.size 2 2 (fun _ => True) (by omega) (by omega) (by omega) _ (hs7.kept (World.grownBy_alloc _ _ none) (by simp)) (list_cells (L := [.int .i64 (-1), .int .i64 (R2 n0 : Nat)]) (by simp))).mono ?_
          rintro e w8 ⟨z, _, rfl, hs8, hg8⟩
          have gE := World.grownBy_alloc w7 (.cells #[.int .i64 (-1), .int .i64 (R2 n0 : Nat)] 2 (0, 0)) none
          obtain ⟨xs, hown, hxs⟩ := (hI7.kept gE (by simp)).kept2 hg8 (.inr (by simp [Value.ownBlock]; omega))
          have hgr8 := grown_dn (grown_t2 hgr7 gE) hg8 (by omega)
          have hy8 := (grown_t2 (gr_some (k := sb) gE) hg8).size
          clear hI7 hIR hg7 hg8 gE hs6 hs7
          go_wp2_with (first
            | (at_builtin; refine wpList_append_own_at _ rfl (.tmp 38) (.tmp 44) 27 rfl B 2 i0 _ 1 8 Try.underlying27 hi hz0 hz1 hz2 rfl (by decide) _ _ _ rfl (hown.alloc _) ⟨w8.heap.size, 0, none⟩ 1 1 [_] rfl rfl (one_cell (blk_new _ _)) (by intro u hu; simp at hu; subst hu; rfl) (by unfold maxLen; omega) (by omega) (by simp; omega) ?_; intro v' w9 hown' hgrow _ hat)
            | fail)
          obtain ⟨ha, hb, hz, hs9⟩ := app_dn hgr8 (grn_refl _) (by omega) (by omega) hs8 hown hgrow
          obtain ⟨g', cp', rfl⟩ := own_sl hown' (by omega)
          go_ret2
          obtain ⟨L, hL, hLg, hrd⟩ := (IntsR.snoc hxs hown').rdB
          exact ⟨_, g', cp', L, by rw [hL]; rfl, by omega, by omega, hrd, ha⟩
        · go_wp2_with fail
          go_ret2
          obtain ⟨L, hL, hLg, hrd⟩ := hIR.rdB
          exact ⟨_, g, cp, L, by rw [hL]; rfl, by omega, by omega, hrd, hgr⟩
theorem RdP.shape {w : World} {b : Nat} {v : Value} {L : List (Int × Int)} (h : RdP w b v L) : ∃ o cp, v = .slice o L.length cp ∧ ∀ i, i < L.length → ∃ g, o = some ⟨g, 0, none⟩ ∧ w.cell? ⟨g, i * 2, none⟩ = some (.int .i64 (L.getD i (0, 0)).1) ∧ w.cell? ⟨g, i * 2 + 1, none⟩ = some (.int .i64 (L.getD i (0, 0)).2) := by
  rcases h with ⟨rfl, o, rfl⟩ | ⟨g, cp, rfl, _, h⟩
  · exact ⟨o, 0, rfl, fun i hi => absurd hi (by simp)⟩
  · exact ⟨_, cp, rfl, fun i hi => ⟨g, rfl, h.cell hi⟩⟩
theorem c_f5 (u v : Value) (L : List (Int × Int)) (b b' : Nat) (hL : L.length ≤ 65536) (w : World) (hu : RdP w b u L) (hv : RdP w b' v L) : Calls Try.prog 23 #[u, v] w fun e w' => e = .returned (.bool true) ∧ w.grownBy w' none := by
  obtain ⟨o1, cp1, rfl, h1⟩ := hu.shape
  obtain ⟨o2, cp2, rfl, h2⟩ := hv.shape
  clear hu hv
  generalize L.length = n at *
  go_enter Try.func23, Try.ntmps23
  go_wp2_with fail
  go_loopw [5] (fun i wr => ∃ k : Nat, i = .int .i64 k ∧ k ≤ n ∧ w.grownBy wr none) (fun i _ => n - (intOf i).toNat)
  case atStart => exact ⟨0, rfl, Nat.zero_le _, grn_refl w⟩
  case round =>
    obtain ⟨k, rfl, hk, hgr⟩ := hrel
    by_cases hkn : k < n
    · obtain ⟨g1, rfl, c1, c1'⟩ := h1 k hkn
      obtain ⟨g2, rfl, c2, c2'⟩ := h2 k hkn
      have d1 := (grown_t2 hgr (drew_gr wr)).cell c1 (by simp)
      have d2 := (grown_t2 hgr (drew_gr wr)).cell c2 (by simp)
      have e1 := (grown_t2 hgr (drew_gr wr)).cell c1' (by simp)
      have e2 := (grown_t2 hgr (drew_gr wr)).cell c2' (by simp)
      have d3 := hgr.cell c1 (by simp)
      have d4 := hgr.cell c2 (by simp)
      have e3 := hgr.cell c1' (by simp)
      have e4 := hgr.cell c2' (by simp)
      generalize (L.getD k (0, 0)).1 = x at *
      generalize (L.getD k (0, 0)).2 = x' at *
      go_wp2_with fail
      go_region
      all_goals go_wp2_with fail
      all_goals
        go_roundw
        case rel => exact ⟨k + 1, by go_num, by omega, grown_t2 hgr (drew_gr wr)⟩
        case measure => simp [intOf]; omega
    · obtain rfl : k = n := by omega
      go_wp2_with fail
      go_ret
      exact ⟨rfl, hgr⟩
end

section
open Go.RowKit Go.IntWalk
theorem RdV.keptS {w w' w0 : World} {b g : Nat} {v : Value} {L : List Int} (h0 : RdV w0 b v L) (h : RdV w b v L) (hg : w.grownBy w' (some g)) (hlt : w0.heap.size ≤ g) : RdV w' b v L := by
  rcases h with h | ⟨g1, cp, rfl, hb, hrd⟩
  · exact .inl h
  · rcases h0 with ⟨rfl, o, he⟩ | ⟨g2, cp2, he, _, hrd2⟩
    · exact .inl ⟨rfl, o, he⟩
    · simp only [Value.slice.injEq, Option.some.injEq, Addr.mk.injEq] at he
      obtain ⟨⟨rfl, _⟩, _, rfl⟩ := he
      refine .inr ⟨g1, cp, rfl, hb, hrd.kept hg ?_⟩
      have : g1 < w0.heap.size := by obtain ⟨_, _, h, _⟩ := hrd2; exact lt_of_block h
      simp; omega
theorem selm_ltm {p : Nat → Bool} {n j : Nat} (hj : j < (selm p idn n).length) : (selm p idn n).getD j 0 < n := by
  rw [List.getD_eq_getElem?_getD, List.getElem?_eq_getElem hj]
  exact (selm_in.mp (List.getElem_mem hj)).1
theorem castL_back (L : List Nat) : (castL L).map Int.toNat = L := by simp [castL, List.map_map, Function.comp_def]
theorem castL_rows {n : Nat} {p : Nat → Bool} : rowsOK n (castL (selm p idn (R2 n))) = true := by
  rw [rowsOK, allF_iff]
  intro j _ hj
  rw [castL_len] at hj
  have h1 := selm_ltm (p := p) (n := R2 n) (j := j) (by omega)
  have e : (castL (selm p idn (R2 n))).getD j 0 = (((selm p idn (R2 n)).getD j 0 : Nat) : Int) := by
    rw [castL, List.getD_eq_getElem?_getD, List.getD_eq_getElem?_getD, List.getElem?_map, List.getElem?_eq_getElem (by omega)]; rfl
  rw [inR, e, decide_eq_true_eq]
  omega
theorem ltL_len (n b : Nat) (hn : n ≤ 4) : (ltL n b).length ≤ 16 := by
  have := selm_len (enP n b 1 belT) idn (R2 n)
  have := (shN hn).1
  unfold ltL; omega
theorem gfL_len (n b : Nat) (hn : n ≤ 4) : (gfL n b).length ≤ 16 := by
  have := selm_len (enP n b 0 belF) idn (R2 n)
  have := (shN hn).1
  unfold gfL; omega
theorem lt_in {n b : Nat} (h : isFn n b = true) : ltR n b = (castL (ltL n b), 0) := by rw [ltR, if_pos h, Int.toNat_natCast, Int.toNat_natCast]
theorem gf_in {n b : Nat} (h : isFn n b = true) : gfR n b = (castL (gfL n b), 0) := by rw [gfR, if_pos h, Int.toNat_natCast, Int.toNat_natCast]
theorem ltR_len (p t : Int) : (ltR p t).1.length ≤ 16 := by
  cases h1 : isFn p t
  · rw [ltR, if_neg (by rw [h1]; simp)]; simp
  · obtain ⟨n, b, rfl, rfl, a1, a2, a3⟩ := isFn_nat h1
    rw [lt_in h1]; simp only [castL_len]; exact ltL_len n b a1
theorem gfR_len (p t : Int) : (gfR p t).1.length ≤ 16 := by
  cases h1 : isFn p t
  · rw [gfR, if_neg (by rw [h1]; simp)]; simp
  · obtain ⟨n, b, rfl, rfl, a1, a2, a3⟩ := isFn_nat h1
    rw [gf_in h1]; simp only [castL_len]; exact gfL_len n b a1
theorem fn_in {n b : Nat} (hn : n ≤ 4) (hb : b < R2 (R2 n)) : isFn (n : Nat) (b : Nat) = true := by
  rw [isFn, Int.toNat_natCast, decide_eq_true (by omega), decide_eq_true (by omega)]; rfl
theorem tra_len (p t : Int) : (traR p t).1.length ≤ 16 := by
  cases h1 : isFn p t
  · rw [traR, if_neg (by rw [h1]; simp)]; simp
  · obtain ⟨n, b, rfl, rfl, a1, a2, a3⟩ := isFn_nat h1
    rw [traR, if_pos h1, Int.toNat_natCast, Int.toNat_natCast]
    split
    · simp only [castL_len]; exact ltL_len _ _ a1
    · simp
theorem tra_ok {p t : Int} (h : (traR p t).2 = 0) : ∃ n b : Nat, p = n ∧ t = b ∧ isFn n b = true ∧ n ≤ 4 ∧ b < R2 (R2 n) ∧ b < 65536 ∧ monoB n b = true ∧ (traR p t).1 = castL (ltL n (dlB n b)) := by
  cases h1 : isFn p t
  · rw [traR, if_neg (by rw [h1]; simp)] at h; simp at h
  · obtain ⟨n, b, rfl, rfl, a1, a2, a3⟩ := isFn_nat h1
    rw [traR, if_pos h1, Int.toNat_natCast, Int.toNat_natCast] at h ⊢
    cases hm : monoB n b
    · rw [hm] at h; simp at h
    · exact ⟨n, b, rfl, rfl, h1, a1, a2, a3, hm, rfl⟩
theorem mk_ok {n b : Nat} (hn : n ≤ 4) (hb : b < R2 (R2 n)) (hm : monoB n b = true) : forR n (castL (ltL n b)) = ⟨(n : Nat), (b : Nat), 0⟩ := by
  rw [forR, if_pos ⟨⟨by omega, by omega⟩, by rw [castL_len]; exact ltL_len n b hn, by rw [Int.toNat_natCast]; exact castL_rows⟩, Int.toNat_natCast, castL_back]
  rw [show pk (bn (hasR (ltL n b))) (R2 n) = b from least_makes hm hb]
theorem for_ok {z : Int} {c : List Int} (h : (forR z c).c = 0) : monoR (forR z c).a (forR z c).b = (true, 0) := by
  rw [forR] at h ⊢
  by_cases hc : (0 ≤ z ∧ z ≤ 4) ∧ c.length ≤ 16 ∧ rowsOK z.toNat c = true
  · rw [if_pos hc]
    obtain ⟨n, rfl⟩ := Int.eq_ofNat_of_zero_le hc.1.1
    have hn : n ≤ 4 := by omega
    simp only [Int.toNat_natCast]
    have hlt : pk (bn (hasR (c.map Int.toNat))) (R2 n) < R2 (R2 n) := pk_lt fun r _ => by unfold bn; split <;> omega
    rw [monoR, if_pos (fn_in hn hlt), Int.toNat_natCast, Int.toNat_natCast, mono_rows]
  · rw [if_neg hc] at h; simp at h
theorem mfP_len (z : Int) : (mfP z).length = (mfL z).length ∧ (mfP z).length ≤ 65536 := by
  refine ⟨by simp [mfP], ?_⟩
  simp only [mfP, List.length_map, mfL]
  split
  · rename_i h
    have h1 := selm_len (monoB z.toNat) idn (R2 (R2 z.toNat))
    have h2 := (shN (show z.toNat ≤ 4 by omega)).2.1
    unfold monoL; omega
  · simp
theorem mono_in {n b : Nat} (h : isFn n b = true) : monoR n b = (monoB n b, 0) := by rw [monoR, if_pos h, Int.toNat_natCast, Int.toNat_natCast]
end


end Go.Proofs.Ytokoboflpaklaaa
