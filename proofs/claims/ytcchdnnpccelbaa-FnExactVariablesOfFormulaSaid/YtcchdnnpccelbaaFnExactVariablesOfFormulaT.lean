/- What each function that the statement reaches returns. -/
import Derived.Test.YtcchdnnpccelbaaMiD
import Derived.Test.YtcchdnnpccelbaaChecked
import Derived.KernelRfl
import Derived.WalkKit
import Derived.WalkSpells
import Derived.Maps.RangeWalk
import Derived.Maps.OwnSet
import Derived.Lib.Strings
import Derived.Lib.Slices
import Derived.Lib.Walk
import Derived.Lib.Bytealg
import Derived.OwnWalk
set_option linter.unusedVariables false
set_option linter.unusedSimpArgs false
set_option maxRecDepth 100000
set_option maxHeartbeats 4000000
namespace Go.Proofs.Ytcchdnnpccelbaa
open Go Go.Proofs.Ytcchdnnpccelbaa.Mi
noncomputable def cx : Cx := ⟨Try.prog, id, id, by kernel_rfl⟩
attribute [local irreducible] code opsK opsDK gopK opK seqK blockK callK binV
def R2 (n : Nat) : Nat := 2 ^ n
attribute [local irreducible] R2
def bt (b r : Nat) : Nat := (b >>> r) &&& 1
attribute [local irreducible] bt
def ints (l : List Nat) : List V := l.map fun (x : Nat) => .int .i64 (x : Int)
def zints (l : List Int) : List V := l.map fun x => .int .i64 x
def prs (n : Nat) (l : List Nat) : List V := l.flatMap fun (b : Nat) => [.int .i64 n, .int .i64 b]
theorem ints_len (l : List Nat) : (ints l).length = l.length * 1 := by simp [ints]
theorem zints_len (l : List Int) : (zints l).length = l.length * 1 := by simp [zints]
theorem prs_len (n : Nat) : ∀ (l : List Nat), (prs n l).length = l.length * 2
  | [] => rfl
  | x :: xs => by have := prs_len n xs; simp [prs] at this ⊢; omega
def selm (p : Nat → Bool) (g : Nat → Nat) (n : Nat) : List Nat := ((List.range n).filter p).map g
theorem selm_t {p : Nat → Bool} {g : Nat → Nat} {i : Nat} (h : p i = true) : selm p g (i + 1) = selm p g i ++ [g i] := by
  simp [selm, List.range_succ, List.filter_append, h]
theorem selm_f {p : Nat → Bool} {g : Nat → Nat} {i : Nat} (h : p i = false) : selm p g (i + 1) = selm p g i := by
  simp [selm, List.range_succ, List.filter_append, h]
theorem selm_len (p : Nat → Bool) (g : Nat → Nat) : ∀ n, (selm p g n).length ≤ n
  | 0 => by simp [selm]
  | n + 1 => by
    have := selm_len p g n
    cases h : p n with
    | true => rw [selm_t h]; simp; omega
    | false => rw [selm_f h]; omega
def slV (z : V) (k : Nat) (l : List Nat) : V := match l with | [] => z | x :: xs => .sl k 0 (x :: xs).length
def slH (k es : Nat) (c : List Nat → List V) (l : List Nat) : List Blk := match l with | [] => [] | x :: xs => [⟨c (x :: xs), es, k, some 0, false⟩]
abbrev idn : Nat → Nat := fun i => i
/-- A set of numbers as bits. -/
theorem ints_get {l : List Nat} {j : Nat} (h : j < l.length) : (ints l)[0 + j * 1]? = some (.int .i64 (l.getD j 0 : Nat)) := by
  simp [ints, h]
theorem zints_get {l : List Int} {j : Nat} (h : j < l.length) : (zints l)[0 + j * 1]? = some (.int .i64 (l.getD j 0)) := by
  simp [zints, h]
theorem prs_get {n : Nat} : ∀ {l : List Nat} {j : Nat} (_ : j < l.length), [V.int .i64 (n : Nat), V.int .i64 (l.getD j 0 : Nat)].length = 2 ∧ (0 + j * 2) + 2 ≤ (prs n l).length ∧ ((prs n l).drop (0 + j * 2)).take 2 = [V.int .i64 (n : Nat), V.int .i64 (l.getD j 0 : Nat)]
  | [], j, h => by simp at h
  | x :: xs, 0, h => by simp [prs]
  | x :: xs, j + 1, h => by
    obtain ⟨_, h2, h3⟩ := prs_get (n := n) (l := xs) (j := j) (by simpa using h)
    have e : (0 + (j + 1) * 2) = (0 + j * 2) + 2 := by omega
    rw [e]
    have e2 : prs n (x :: xs) = .int .i64 (n : Nat) :: .int .i64 (x : Nat) :: prs n xs := by simp [prs]
    rw [e2]
    refine ⟨rfl, by simp; omega, ?_⟩
    rw [List.drop_succ_cons, List.drop_succ_cons, h3]; simp
def fns (l : List (Int × Int)) : List V := l.flatMap fun (f : Int × Int) => [.int .i64 f.1, .int .i64 f.2]
theorem fns_get : ∀ {l : List (Int × Int)} {j : Nat} (_ : j < l.length), [V.int .i64 (l.getD j (0, 0)).1, V.int .i64 (l.getD j (0, 0)).2].length = 2 ∧ (0 + j * 2) + 2 ≤ (fns l).length ∧ ((fns l).drop (0 + j * 2)).take 2 = [V.int .i64 (l.getD j (0, 0)).1, V.int .i64 (l.getD j (0, 0)).2]
  | [], j, h => by simp at h
  | x :: xs, 0, h => by simp [fns]
  | x :: xs, j + 1, h => by
    obtain ⟨_, h2, h3⟩ := fns_get (l := xs) (j := j) (by simpa using h)
    have e : (0 + (j + 1) * 2) = (0 + j * 2) + 2 := by omega
    rw [e]
    have e2 : fns (x :: xs) = .int .i64 x.1 :: .int .i64 x.2 :: fns xs := by simp [fns]
    rw [e2]
    refine ⟨rfl, by simp; omega, ?_⟩
    rw [List.drop_succ_cons, List.drop_succ_cons, h3]; simp
theorem fget {o j : Nat} {l : List Int} (h : j < l.length) : (List.replicate o V.any ++ nums .i64 l)[o + j * 1]? = some (.int .i64 (l.getD j 0)) := by
  rw [List.getElem?_append_right (by simp)]
  simp [nums, h]
-- laws.eqInt64S
def m11_0 : MC := (.seq (.seq (.region [⟨(.mov (.t 5)), (some 11), none⟩, ⟨(.mov (.t 0)), (some 12), none⟩, ⟨(.len (.t 12)), (some 13), none⟩, ⟨(.bin .lss (.t 11) (.t 13)), (some 14), none⟩] false) (.cond (.t 14) .skip (.exit 0))) (.seq (.block 1 (.seq (.region [⟨(.mov (.t 0)), (some 17), none⟩, ⟨(.mov (.t 5)), (some 18), none⟩, ⟨(.indexAddr 1 (.t 17) (.t 18)), (some 19), none⟩, ⟨(.load none (.t 19)), (some 20), none⟩, ⟨(.mov (.t 1)), (some 21), none⟩, ⟨(.mov (.t 5)), (some 22), none⟩, ⟨(.indexAddr 1 (.t 21) (.t 22)), (some 23), none⟩, ⟨(.load none (.t 23)), (some 24), none⟩, ⟨(.bin .neq (.t 20) (.t 24)), (some 25), none⟩] true) (.cond (.t 25) (.seq (.region [⟨(.mov (.k (.bool false))), (some 4), none⟩] false) .ret) .skip))) (.region [⟨(.mov (.t 5)), (some 15), none⟩, ⟨(.bin .add (.t 15) (.k (.int .i64 1))), (some 16), none⟩, ⟨(.mov (.t 16)), (some 5), none⟩] false)))
def m11 : MC := (.seq (.region [⟨(.mov (.k (.bool false))), (some 4), none⟩] false) (.seq (.seq (.region [⟨(.mov (.t 0)), (some 6), none⟩, ⟨(.len (.t 6)), (some 7), none⟩, ⟨(.mov (.t 1)), (some 8), none⟩, ⟨(.len (.t 8)), (some 9), none⟩, ⟨(.bin .neq (.t 7) (.t 9)), (some 10), none⟩] false) (.cond (.t 10) (.seq (.region [⟨(.mov (.k (.bool false))), (some 4), none⟩] false) .ret) .skip)) (.seq (.seq (.region [⟨(.mov (.k (.int .i64 0))), (some 5), none⟩] false) (.block 0 (.loop m11_0))) (.seq (.region [⟨(.mov (.k (.bool true))), (some 4), none⟩] false) .ret))))
theorem has11 : Has cx 11 26 m11 [(.tmp 4)] :=
  ⟨⟨Try.f11, Try.f11.body.getD .skip, by kernel_rfl, by kernel_rfl, by kernel_rfl, by kernel_rfl, by kernel_rfl, by kernel_rfl⟩⟩
theorem lp11_0 (n : Nat) (c d : List V) (f : Nat → Int) (p q : Option Nat) (hn : n ≤ 1048576) (hc : ∀ j, j < n → c[0 + j * 1]? = some (.int .i64 (f j))) (hd : ∀ j, j < n → d[0 + j * 1]? = some (.int .i64 (f j))) :
    LpS cx 26 2 m11_0 [(0, .sl 0 0 n), (1, .sl 1 0 n), (5, .int .i64 (0 : Nat))] [⟨c, 1, 0, p, false⟩, ⟨d, 1, 1, q, false⟩] (⟨.exit 0, [], [⟨c, 1, 0, p, false⟩, ⟨d, 1, 1, q, false⟩]⟩ : Out).x (⟨.exit 0, [], [⟨c, 1, 0, p, false⟩, ⟨d, 1, 1, q, false⟩]⟩ : Out).e (⟨.exit 0, [], [⟨c, 1, 0, p, false⟩, ⟨d, 1, 1, q, false⟩]⟩ : Out).h := by
  refine lp_st (n) (fun _ => ()) (fun i _ => [(0, .sl 0 0 n), (1, .sl 1 0 n), (5, .int .i64 (i : Nat))]) (fun i _ => [⟨c, 1, 0, p, false⟩, ⟨d, 1, 1, q, false⟩]) (fun _ => (⟨.exit 0, [], [⟨c, 1, 0, p, false⟩, ⟨d, 1, 1, q, false⟩]⟩ : Out)) ?_ ?_ (n) 0 (by omega)
  · intro i u_ hi hu_
    refine ⟨(), rfl, ?_⟩
    have hlt : decide ((i : Int) < (n : Nat)) = true := decide_eq_true (by omega)
    have hc1 := hc i hi
    have hd1 := hd i hi
    have hq : (f i != f i) = false := by simp
    unfold m11_0
    repeat' (first
      | (refine g_op ?_; first
        | refine ep_mov rfl ?_ | refine ep_load1 rfl rfl rfl rfl ?_
        | refine ep_bin rfl rfl (by first | exact b_add (by omega) (by omega) | exact b_lss | exact b_neq) ?_ | refine ep_lenS rfl ?_ | refine ep_lenN rfl ?_ | refine ep_lenE rfl ?_ | refine sp_idx rfl rfl rfl (by omega) rfl ?_
        | refine ep_loadS rfl rfl rfl (by first | exact ints_get (by omega) | exact zints_get (by omega) | exact fget (by omega) | assumption) ?_)
      | (refine g_ops ?_; first | refine eo_none ?_ | refine eo_nil ?_)
      | (refine g_dops ?_; first | refine ed_none ?_ | refine ed_nil ?_)
      | refine ed_same rfl ?_ | refine ed_one rfl rfl rfl rfl ?_ | refine ed_two rfl rfl rfl rfl rfl rfl rfl ?_ | refine ed_write rfl rfl ?_
      | (refine g_code ?_; first | refine ec_seq ?_ | refine ec_region ?_ | refine ec_draw ?_ | refine ec_block ?_ | refine ec_skip ?_ | refine ec_exit ?_ | refine ec_ret ?_ | refine ec_condT rfl ?_ | refine ec_condF rfl ?_ | refine ec_condTH rfl (by assumption) ?_ | refine ec_condFH rfl (by assumption) ?_)
      | refine ek_seqN ?_ | refine ek_seqX ?_ | refine ek_seqR ?_ | refine ek_blkN ?_ | refine ek_blkR ?_ | refine ek_blkX ?_ | refine ek_blkY rfl ?_)
    exact rnd_on (by rfl) (scmp2 (by rfl) (by rfl) (by exact ⟨rfl, rfl, rfl⟩) (by rfl) (by first | rfl | (simp; done) | (simp [ints, prs]; done)) (by rfl) (by first | rfl | (simp; done) | (simp [ints, prs]; done)))
  · intro u_ hu_
    have hlt : decide (((n : Nat) : Int) < (n : Nat)) = false := decide_eq_false (by omega)
    unfold m11_0
    repeat' (first
      | (refine g_op ?_; first
        | refine ep_mov rfl ?_ | refine ep_load1 rfl rfl rfl rfl ?_
        | refine ep_bin rfl rfl (by first | exact b_add (by omega) (by omega) | exact b_lss | exact b_neq) ?_ | refine ep_lenS rfl ?_ | refine ep_lenN rfl ?_ | refine ep_lenE rfl ?_ | refine sp_idx rfl rfl rfl (by omega) rfl ?_
        | refine ep_loadS rfl rfl rfl (by first | exact ints_get (by omega) | exact zints_get (by omega) | exact fget (by omega) | assumption) ?_)
      | (refine g_ops ?_; first | refine eo_none ?_ | refine eo_nil ?_)
      | (refine g_dops ?_; first | refine ed_none ?_ | refine ed_nil ?_)
      | refine ed_same rfl ?_ | refine ed_one rfl rfl rfl rfl ?_ | refine ed_two rfl rfl rfl rfl rfl rfl rfl ?_ | refine ed_write rfl rfl ?_
      | (refine g_code ?_; first | refine ec_seq ?_ | refine ec_region ?_ | refine ec_draw ?_ | refine ec_block ?_ | refine ec_skip ?_ | refine ec_exit ?_ | refine ec_ret ?_ | refine ec_condT rfl ?_ | refine ec_condF rfl ?_ | refine ec_condTH rfl (by assumption) ?_ | refine ec_condFH rfl (by assumption) ?_)
      | refine ek_seqN ?_ | refine ek_seqX ?_ | refine ek_seqR ?_ | refine ek_blkN ?_ | refine ek_blkR ?_ | refine ek_blkX ?_ | refine ek_blkY rfl ?_)
    exact rnd_out (by rfl) (by simp) (scmp2 (by rfl) (by rfl) (by exact ⟨rfl, rfl, rfl⟩) (by rfl) (by first | rfl | (simp; done) | (simp [ints, prs]; done)) (by rfl) (by first | rfl | (simp; done) | (simp [ints, prs]; done)))

theorem ev11 (n : Nat) (c d : List V) (f : Nat → Int) (p q : Option Nat) (hn : n ≤ 1048576) (hc : ∀ j, j < n → c[0 + j * 1]? = some (.int .i64 (f j))) (hd : ∀ j, j < n → d[0 + j * 1]? = some (.int .i64 (f j))) :
    Ev cx 11 [.sl 0 0 n, .sl 1 0 n] [⟨c, 1, 0, p, false⟩, ⟨d, 1, 1, q, false⟩] (.bool true) [⟨c, 1, 0, p, false⟩, ⟨d, 1, 1, q, false⟩] := by
  have lp := lp11_0 n c d f p q hn hc hd
  have hq : (((n : Nat) : Int) != (n : Nat)) = false := by simp
  refine has11.eev rfl rfl ?_
  unfold m11
  repeat' (first
    | refine sc_loop lp rfl rfl ⟨rfl, rfl, rfl⟩ rfl rfl rfl ?_
    | (refine g_op ?_; first
      | refine ep_mov rfl ?_
      | refine ep_bin rfl rfl (by exact b_neq) ?_ | refine ep_lenS rfl ?_ | refine ep_lenN rfl ?_ | refine ep_lenE rfl ?_)
    | (refine g_ops ?_; first | refine eo_none ?_ | refine eo_nil ?_)
    | (refine g_code ?_; first | refine ec_seq ?_ | refine ec_region ?_ | refine ec_block ?_ | refine ec_skip ?_ | refine ec_ret ?_ | refine ec_condT rfl ?_ | refine ec_condF rfl ?_ | refine ec_condTH rfl (by assumption) ?_ | refine ec_condFH rfl (by assumption) ?_)
    | refine ek_seqN ?_ | refine ek_seqX ?_ | refine ek_seqR ?_ | refine ek_blkN ?_ | refine ek_blkR ?_ | refine ek_blkX ?_ | refine ek_blkY rfl ?_)
  refine sfin (.inr rfl) (by rfl) (by rfl) (by exact ⟨rfl, rfl, rfl⟩) (by rfl) (by rfl) (by rfl) (by first | rfl | (simp; done) | (simp [ints, prs]; done))
theorem lp11_0_nils_nils  :
    LpS cx 26 0 m11_0 [(0, .nils), (1, .nils), (5, .int .i64 (0 : Nat))] [] (⟨.exit 0, [], []⟩ : Out).x (⟨.exit 0, [], []⟩ : Out).e (⟨.exit 0, [], []⟩ : Out).h := by
  refine lp_st (0) (fun _ => ()) (fun i _ => [(0, .nils), (1, .nils), (5, .int .i64 (i : Nat))]) (fun i _ => []) (fun _ => (⟨.exit 0, [], []⟩ : Out)) ?_ ?_ (0) 0 (by omega)
  · intro i u_ hi hu_
    refine ⟨(), rfl, ?_⟩
    exact absurd hi (by simp)
  · intro u_ hu_
    have hlt : decide (((0 : Nat) : Int) < (0 : Nat)) = false := decide_eq_false (by omega)
    unfold m11_0
    repeat' (first
      | (refine g_op ?_; first
        | refine ep_mov rfl ?_ | refine ep_load1 rfl rfl rfl rfl ?_
        | refine ep_bin rfl rfl (by first | exact b_add (by omega) (by omega) | exact b_lss | exact b_neq) ?_ | refine ep_lenS rfl ?_ | refine ep_lenN rfl ?_ | refine ep_lenE rfl ?_ | refine sp_idx rfl rfl rfl (by omega) rfl ?_
        | refine ep_loadS rfl rfl rfl (by first | exact ints_get (by omega) | exact zints_get (by omega) | exact fget (by omega) | assumption) ?_)
      | (refine g_ops ?_; first | refine eo_none ?_ | refine eo_nil ?_)
      | (refine g_dops ?_; first | refine ed_none ?_ | refine ed_nil ?_)
      | refine ed_same rfl ?_ | refine ed_one rfl rfl rfl rfl ?_ | refine ed_two rfl rfl rfl rfl rfl rfl rfl ?_ | refine ed_write rfl rfl ?_
      | (refine g_code ?_; first | refine ec_seq ?_ | refine ec_region ?_ | refine ec_draw ?_ | refine ec_block ?_ | refine ec_skip ?_ | refine ec_exit ?_ | refine ec_ret ?_ | refine ec_condT rfl ?_ | refine ec_condF rfl ?_ | refine ec_condTH rfl (by assumption) ?_ | refine ec_condFH rfl (by assumption) ?_)
      | refine ek_seqN ?_ | refine ek_seqX ?_ | refine ek_seqR ?_ | refine ek_blkN ?_ | refine ek_blkR ?_ | refine ek_blkX ?_ | refine ek_blkY rfl ?_)
    exact rnd_out (by rfl) (by simp) (scmp2 (by rfl) (by rfl) (by exact ⟨rfl, rfl, rfl⟩) (by rfl) (by first | rfl | (simp; done) | (simp [ints, prs]; done)) (by rfl) (by first | rfl | (simp; done) | (simp [ints, prs]; done)))

theorem ev11_nils_nils : Ev cx 11 [.nils, .nils] [] (.bool true) [] := by
  have lp := lp11_0_nils_nils
  refine has11.eev rfl rfl ?_
  unfold m11
  repeat' (first
    | refine sc_loop lp rfl rfl ⟨rfl, rfl, rfl⟩ rfl rfl rfl ?_
    | (refine g_op ?_; first
      | refine ep_mov rfl ?_
      | refine ep_bin rfl rfl (by exact b_neq) ?_ | refine ep_lenS rfl ?_ | refine ep_lenN rfl ?_ | refine ep_lenE rfl ?_)
    | (refine g_ops ?_; first | refine eo_none ?_ | refine eo_nil ?_)
    | (refine g_code ?_; first | refine ec_seq ?_ | refine ec_region ?_ | refine ec_block ?_ | refine ec_skip ?_ | refine ec_ret ?_ | refine ec_condT rfl ?_ | refine ec_condF rfl ?_ | refine ec_condTH rfl (by assumption) ?_ | refine ec_condFH rfl (by assumption) ?_)
    | refine ek_seqN ?_ | refine ek_seqX ?_ | refine ek_seqR ?_ | refine ek_blkN ?_ | refine ek_blkR ?_ | refine ek_blkX ?_ | refine ek_blkY rfl ?_)
  refine sfin (.inr rfl) (by rfl) (by rfl) (by exact ⟨rfl, rfl, rfl⟩) (by rfl) (by rfl) (by rfl) (by first | rfl | (simp; done) | (simp [ints, prs]; done))
theorem lp11_0_nils_emp  :
    LpS cx 26 0 m11_0 [(0, .nils), (1, .emp), (5, .int .i64 (0 : Nat))] [] (⟨.exit 0, [], []⟩ : Out).x (⟨.exit 0, [], []⟩ : Out).e (⟨.exit 0, [], []⟩ : Out).h := by
  refine lp_st (0) (fun _ => ()) (fun i _ => [(0, .nils), (1, .emp), (5, .int .i64 (i : Nat))]) (fun i _ => []) (fun _ => (⟨.exit 0, [], []⟩ : Out)) ?_ ?_ (0) 0 (by omega)
  · intro i u_ hi hu_
    refine ⟨(), rfl, ?_⟩
    exact absurd hi (by simp)
  · intro u_ hu_
    have hlt : decide (((0 : Nat) : Int) < (0 : Nat)) = false := decide_eq_false (by omega)
    unfold m11_0
    repeat' (first
      | (refine g_op ?_; first
        | refine ep_mov rfl ?_ | refine ep_load1 rfl rfl rfl rfl ?_
        | refine ep_bin rfl rfl (by first | exact b_add (by omega) (by omega) | exact b_lss | exact b_neq) ?_ | refine ep_lenS rfl ?_ | refine ep_lenN rfl ?_ | refine ep_lenE rfl ?_ | refine sp_idx rfl rfl rfl (by omega) rfl ?_
        | refine ep_loadS rfl rfl rfl (by first | exact ints_get (by omega) | exact zints_get (by omega) | exact fget (by omega) | assumption) ?_)
      | (refine g_ops ?_; first | refine eo_none ?_ | refine eo_nil ?_)
      | (refine g_dops ?_; first | refine ed_none ?_ | refine ed_nil ?_)
      | refine ed_same rfl ?_ | refine ed_one rfl rfl rfl rfl ?_ | refine ed_two rfl rfl rfl rfl rfl rfl rfl ?_ | refine ed_write rfl rfl ?_
      | (refine g_code ?_; first | refine ec_seq ?_ | refine ec_region ?_ | refine ec_draw ?_ | refine ec_block ?_ | refine ec_skip ?_ | refine ec_exit ?_ | refine ec_ret ?_ | refine ec_condT rfl ?_ | refine ec_condF rfl ?_ | refine ec_condTH rfl (by assumption) ?_ | refine ec_condFH rfl (by assumption) ?_)
      | refine ek_seqN ?_ | refine ek_seqX ?_ | refine ek_seqR ?_ | refine ek_blkN ?_ | refine ek_blkR ?_ | refine ek_blkX ?_ | refine ek_blkY rfl ?_)
    exact rnd_out (by rfl) (by simp) (scmp2 (by rfl) (by rfl) (by exact ⟨rfl, rfl, rfl⟩) (by rfl) (by first | rfl | (simp; done) | (simp [ints, prs]; done)) (by rfl) (by first | rfl | (simp; done) | (simp [ints, prs]; done)))

theorem ev11_nils_emp : Ev cx 11 [.nils, .emp] [] (.bool true) [] := by
  have lp := lp11_0_nils_emp
  refine has11.eev rfl rfl ?_
  unfold m11
  repeat' (first
    | refine sc_loop lp rfl rfl ⟨rfl, rfl, rfl⟩ rfl rfl rfl ?_
    | (refine g_op ?_; first
      | refine ep_mov rfl ?_
      | refine ep_bin rfl rfl (by exact b_neq) ?_ | refine ep_lenS rfl ?_ | refine ep_lenN rfl ?_ | refine ep_lenE rfl ?_)
    | (refine g_ops ?_; first | refine eo_none ?_ | refine eo_nil ?_)
    | (refine g_code ?_; first | refine ec_seq ?_ | refine ec_region ?_ | refine ec_block ?_ | refine ec_skip ?_ | refine ec_ret ?_ | refine ec_condT rfl ?_ | refine ec_condF rfl ?_ | refine ec_condTH rfl (by assumption) ?_ | refine ec_condFH rfl (by assumption) ?_)
    | refine ek_seqN ?_ | refine ek_seqX ?_ | refine ek_seqR ?_ | refine ek_blkN ?_ | refine ek_blkR ?_ | refine ek_blkX ?_ | refine ek_blkY rfl ?_)
  refine sfin (.inr rfl) (by rfl) (by rfl) (by exact ⟨rfl, rfl, rfl⟩) (by rfl) (by rfl) (by rfl) (by first | rfl | (simp; done) | (simp [ints, prs]; done))
def d01 (z : Int) : Bool := decide (0 ≤ z ∧ z ≤ 1)
def mkc (c : List V) (i : Nat) : List V := ints ((List.range i).map fun x => x + 1) ++ c.drop i
theorem mkc_len {c : List V} {i : Nat} (h : i ≤ c.length) : (mkc c i).length = c.length := by simp [mkc, ints]; omega
theorem mkc_get {c : List V} {i j : Nat} (h : j < i) : (mkc c i)[j]? = some (.int .i64 ((j + 1 : Nat) : Int)) := by
  rw [mkc, List.getElem?_append_left (by simp [ints]; omega)]
  simp [ints, h]
theorem mkc_set {c : List V} {i : Nat} (h : i < c.length) : (mkc c i).take i ++ [V.int .i64 ((i + 1 : Nat) : Int)] ++ (mkc c i).drop (i + 1) = mkc c (i + 1) := by
  have e1 : (ints ((List.range i).map fun x => x + 1)).length = i := by simp [ints]
  unfold mkc
  rw [List.take_append_of_le_length (by omega), List.take_of_length_le (by omega), List.drop_append, List.drop_eq_nil_of_le (by omega), e1, show i + 1 - i = 1 by omega, List.nil_append, List.drop_drop, List.range_succ, List.map_append]
  simp [ints]
theorem mkc_set1 {c : List V} {i : Nat} (h : i < c.length) : (mkc c i).take (0 + i * 1) ++ [V.int .i64 ((i + 1 : Nat) : Int)] ++ (mkc c i).drop (0 + i * 1 + 1) = mkc c (i + 1) := by
  rw [show 0 + i * 1 = i by omega]; exact mkc_set h
theorem mkc_0 (c : List V) : mkc c 0 = c := by simp [mkc, ints]
-- laws.markInt64S
def m12_0 : MC := (.seq (.seq (.region [⟨(.mov (.t 5)), (some 6), none⟩, ⟨(.mov (.t 0)), (some 7), none⟩, ⟨(.len (.t 7)), (some 8), none⟩, ⟨(.bin .lss (.t 6) (.t 8)), (some 9), none⟩] false) (.cond (.t 9) .skip (.exit 0))) (.seq (.block 1 (.seq (.region [⟨(.mov (.t 0)), (some 12), none⟩, ⟨(.mov (.t 5)), (some 13), none⟩, ⟨(.mov (.t 1)), (some 14), none⟩, ⟨(.indexAddr 1 (.t 12) (.t 13)), (some 15), none⟩, ⟨(.store 1 (.t 15) (.t 14)), none, none⟩] false) (.region [⟨(.mov (.t 1)), (some 16), none⟩, ⟨(.bin .add (.t 16) (.k (.int .i64 1))), (some 17), none⟩, ⟨(.mov (.t 17)), (some 1), none⟩] false))) (.region [⟨(.mov (.t 5)), (some 10), none⟩, ⟨(.bin .add (.t 10) (.k (.int .i64 1))), (some 11), none⟩, ⟨(.mov (.t 11)), (some 5), none⟩] false)))
def m12 : MC := (.seq (.region [⟨(.mov (.k (.int .i64 0))), (some 4), none⟩] false) (.seq (.seq (.region [⟨(.mov (.k (.int .i64 0))), (some 5), none⟩] false) (.block 0 (.loop m12_0))) (.seq (.region [⟨(.mov (.t 1)), (some 18), none⟩, ⟨(.mov (.t 18)), (some 4), none⟩] false) .ret)))
theorem has12 : Has cx 12 19 m12 [(.tmp 4)] :=
  ⟨⟨Try.f12, Try.f12.body.getD .skip, by kernel_rfl, by kernel_rfl, by kernel_rfl, by kernel_rfl, by kernel_rfl, by kernel_rfl⟩⟩
theorem lp12_0 (n : Nat) (c : List V) (hn : n ≤ 1048576) (hl : c.length = n * 1) :
    LpS cx 19 1 m12_0 [(0, .sl 0 0 n), (1, .int .i64 ((0) + 1 : Nat)), (5, .int .i64 (0 : Nat))] [⟨mkc c (0), 1, 0, some 0, false⟩] (⟨.exit 0, [(1, .int .i64 ((n) + 1 : Nat))], [⟨mkc c (n), 1, 0, some 0, false⟩]⟩ : Out).x (⟨.exit 0, [(1, .int .i64 ((n) + 1 : Nat))], [⟨mkc c (n), 1, 0, some 0, false⟩]⟩ : Out).e (⟨.exit 0, [(1, .int .i64 ((n) + 1 : Nat))], [⟨mkc c (n), 1, 0, some 0, false⟩]⟩ : Out).h := by
  refine lp_st (n) (fun _ => ()) (fun i _ => [(0, .sl 0 0 n), (1, .int .i64 ((i) + 1 : Nat)), (5, .int .i64 (i : Nat))]) (fun i _ => [⟨mkc c (i), 1, 0, some 0, false⟩]) (fun _ => (⟨.exit 0, [(1, .int .i64 ((n) + 1 : Nat))], [⟨mkc c (n), 1, 0, some 0, false⟩]⟩ : Out)) ?_ ?_ (n) 0 (by omega)
  · intro i u_ hi hu_
    refine ⟨(), rfl, ?_⟩
    have hlt : decide ((i : Int) < (n : Nat)) = true := decide_eq_true (by omega)
    have b1 : binV .add (.int .i64 (i + 1 : Nat)) (.int .i64 1) = some (.int .i64 ((i + 1) + 1 : Nat)) := b_addN (b := 1) (by omega)
    have l1 := mkc_len (c := c) (i := i) (by omega)
    unfold m12_0
    repeat' (first
      | refine sp_storeS rfl rfl rfl rfl rfl rfl rfl (Nat.zero_le _) (by omega) (mkc_set1 (by omega)) rfl ?_
      | (refine g_op ?_; first
        | refine ep_mov rfl ?_
        | refine ep_bin rfl rfl (by first | exact b1 | exact b_add (by omega) (by omega) | exact b_lss) ?_ | refine sp_store rfl rfl rfl rfl rfl rfl rfl rfl rfl rfl ?_ | refine ep_lenS rfl ?_ | refine ep_lenN rfl ?_
        | refine ep_lenE rfl ?_ | refine sp_idx rfl rfl rfl (by omega) rfl ?_)
      | (refine g_ops ?_; first | refine eo_none ?_ | refine eo_nil ?_)
      | (refine g_code ?_; first | refine ec_seq ?_ | refine ec_region ?_ | refine ec_block ?_ | refine ec_skip ?_ | refine ec_exit ?_ | refine ec_condT rfl ?_ | refine ec_condF rfl ?_ | refine ec_condTH rfl (by assumption) ?_ | refine ec_condFH rfl (by assumption) ?_)
      | refine ek_seqN ?_ | refine ek_seqX ?_ | refine ek_blkN ?_ | refine ek_blkR ?_ | refine ek_blkX ?_ | refine ek_blkY rfl ?_)
    exact rnd_on (by rfl) (scmp2 (by rfl) (by rfl) (by exact ⟨rfl, rfl, rfl⟩) (by rfl) (by first | rfl | (simp; done) | (simp [ints, prs]; done)) (by rfl) (by first | rfl | (simp; done) | (simp [ints, prs]; done)))
  · intro u_ hu_
    have hlt : decide (((n : Nat) : Int) < (n : Nat)) = false := decide_eq_false (by omega)
    unfold m12_0
    repeat' (first
      | (refine g_op ?_; first
        | refine ep_mov rfl ?_
        | refine ep_bin rfl rfl (by first | exact b_add (by omega) (by omega) | exact b_lss) ?_ | refine sp_store rfl rfl rfl rfl rfl rfl rfl rfl rfl rfl ?_ | refine ep_lenS rfl ?_ | refine ep_lenN rfl ?_
        | refine ep_lenE rfl ?_ | refine sp_idx rfl rfl rfl (by omega) rfl ?_)
      | (refine g_ops ?_; first | refine eo_none ?_ | refine eo_nil ?_)
      | (refine g_code ?_; first | refine ec_seq ?_ | refine ec_region ?_ | refine ec_block ?_ | refine ec_skip ?_ | refine ec_exit ?_ | refine ec_condT rfl ?_ | refine ec_condF rfl ?_ | refine ec_condTH rfl (by assumption) ?_ | refine ec_condFH rfl (by assumption) ?_)
      | refine ek_seqN ?_ | refine ek_seqX ?_ | refine ek_blkN ?_ | refine ek_blkR ?_ | refine ek_blkX ?_ | refine ek_blkY rfl ?_)
    exact rnd_out (by rfl) (by simp) (scmp2 (by rfl) (by rfl) (by exact ⟨rfl, rfl, rfl⟩) (by rfl) (by first | rfl | (simp; done) | (simp [ints, prs]; done)) (by rfl) (by first | rfl | (simp; done) | (simp [ints, prs]; done)))

theorem ev12 (n : Nat) (c : List V) (hn : n ≤ 1048576) (hl : c.length = n * 1) : Ev cx 12 [.sl 0 0 n, .int .i64 1] [⟨c, 1, 0, some 0, false⟩] (.int .i64 (n + 1 : Nat)) [⟨mkc c n, 1, 0, some 0, false⟩] := by
  have lp := lp12_0 n c hn hl
  rw [mkc_0] at lp
  refine has12.eev rfl rfl ?_
  unfold m12
  repeat' (first
    | refine sc_loop lp rfl rfl ⟨rfl, rfl, rfl⟩ rfl rfl rfl ?_
    | (refine g_op ?_; first
      | refine ep_mov rfl ?_)
    | (refine g_ops ?_; first | refine eo_none ?_ | refine eo_nil ?_)
    | (refine g_code ?_; first | refine ec_seq ?_ | refine ec_region ?_ | refine ec_block ?_ | refine ec_ret ?_)
    | refine ek_seqN ?_ | refine ek_seqX ?_ | refine ek_seqR ?_ | refine ek_blkN ?_ | refine ek_blkR ?_ | refine ek_blkX ?_ | refine ek_blkY rfl ?_)
  refine sfin (.inr rfl) (by rfl) (by rfl) (by exact ⟨rfl, rfl, rfl⟩) (by rfl) (by rfl) (by rfl) (by first | rfl | (simp; done) | (simp [ints, prs]; done))
theorem lp12_0_nils  :
    LpS cx 19 0 m12_0 [(0, .nils), (1, .int .i64 1), (5, .int .i64 (0 : Nat))] [] (⟨.exit 0, [(1, .int .i64 1)], []⟩ : Out).x (⟨.exit 0, [(1, .int .i64 1)], []⟩ : Out).e (⟨.exit 0, [(1, .int .i64 1)], []⟩ : Out).h := by
  refine lp_st (0) (fun _ => ()) (fun i _ => [(0, .nils), (1, .int .i64 1), (5, .int .i64 (i : Nat))]) (fun i _ => []) (fun _ => (⟨.exit 0, [(1, .int .i64 1)], []⟩ : Out)) ?_ ?_ (0) 0 (by omega)
  · intro i u_ hi hu_
    refine ⟨(), rfl, ?_⟩
    exact absurd hi (by simp)
  · intro u_ hu_
    have hlt : decide (((0 : Nat) : Int) < (0 : Nat)) = false := decide_eq_false (by omega)
    unfold m12_0
    repeat' (first
      | (refine g_op ?_; first
        | refine ep_mov rfl ?_
        | refine ep_bin rfl rfl (by first | exact b_add (by omega) (by omega) | exact b_lss) ?_ | refine sp_store rfl rfl rfl rfl rfl rfl rfl rfl rfl rfl ?_ | refine ep_lenS rfl ?_ | refine ep_lenN rfl ?_
        | refine ep_lenE rfl ?_ | refine sp_idx rfl rfl rfl (by omega) rfl ?_)
      | (refine g_ops ?_; first | refine eo_none ?_ | refine eo_nil ?_)
      | (refine g_code ?_; first | refine ec_seq ?_ | refine ec_region ?_ | refine ec_block ?_ | refine ec_skip ?_ | refine ec_exit ?_ | refine ec_condT rfl ?_ | refine ec_condF rfl ?_ | refine ec_condTH rfl (by assumption) ?_ | refine ec_condFH rfl (by assumption) ?_)
      | refine ek_seqN ?_ | refine ek_seqX ?_ | refine ek_blkN ?_ | refine ek_blkR ?_ | refine ek_blkX ?_ | refine ek_blkY rfl ?_)
    exact rnd_out (by rfl) (by simp) (scmp2 (by rfl) (by rfl) (by exact ⟨rfl, rfl, rfl⟩) (by rfl) (by first | rfl | (simp; done) | (simp [ints, prs]; done)) (by rfl) (by first | rfl | (simp; done) | (simp [ints, prs]; done)))

theorem ev12_nils : Ev cx 12 [.nils, .int .i64 1] [] (.int .i64 1) [] := by
  have lp := lp12_0_nils
  refine has12.eev rfl rfl ?_
  unfold m12
  repeat' (first
    | refine sc_loop lp rfl rfl ⟨rfl, rfl, rfl⟩ rfl rfl rfl ?_
    | (refine g_op ?_; first
      | refine ep_mov rfl ?_)
    | (refine g_ops ?_; first | refine eo_none ?_ | refine eo_nil ?_)
    | (refine g_code ?_; first | refine ec_seq ?_ | refine ec_region ?_ | refine ec_block ?_ | refine ec_ret ?_)
    | refine ek_seqN ?_ | refine ek_seqX ?_ | refine ek_seqR ?_ | refine ek_blkN ?_ | refine ek_blkR ?_ | refine ek_blkX ?_ | refine ek_blkY rfl ?_)
  refine sfin (.inr rfl) (by rfl) (by rfl) (by exact ⟨rfl, rfl, rfl⟩) (by rfl) (by rfl) (by rfl) (by first | rfl | (simp; done) | (simp [ints, prs]; done))
-- laws.heldInt64S
def m13_0 : MC := (.seq (.seq (.region [⟨(.mov (.t 5)), (some 6), none⟩, ⟨(.mov (.t 0)), (some 7), none⟩, ⟨(.len (.t 7)), (some 8), none⟩, ⟨(.bin .lss (.t 6) (.t 8)), (some 9), none⟩] false) (.cond (.t 9) .skip (.exit 0))) (.seq (.block 1 (.seq (.seq (.region [⟨(.mov (.t 0)), (some 12), none⟩, ⟨(.mov (.t 5)), (some 13), none⟩, ⟨(.indexAddr 1 (.t 12) (.t 13)), (some 14), none⟩, ⟨(.load none (.t 14)), (some 15), none⟩, ⟨(.mov (.t 1)), (some 16), none⟩, ⟨(.bin .neq (.t 15) (.t 16)), (some 17), none⟩] false) (.cond (.t 17) (.seq (.region [⟨(.mov (.k (.int .i64 (-1)))), (some 4), none⟩] false) .ret) .skip)) (.region [⟨(.mov (.t 1)), (some 18), none⟩, ⟨(.bin .add (.t 18) (.k (.int .i64 1))), (some 19), none⟩, ⟨(.mov (.t 19)), (some 1), none⟩] false))) (.region [⟨(.mov (.t 5)), (some 10), none⟩, ⟨(.bin .add (.t 10) (.k (.int .i64 1))), (some 11), none⟩, ⟨(.mov (.t 11)), (some 5), none⟩] false)))
def m13 : MC := (.seq (.region [⟨(.mov (.k (.int .i64 0))), (some 4), none⟩] false) (.seq (.seq (.region [⟨(.mov (.k (.int .i64 0))), (some 5), none⟩] false) (.block 0 (.loop m13_0))) (.seq (.region [⟨(.mov (.t 1)), (some 20), none⟩, ⟨(.mov (.t 20)), (some 4), none⟩] false) .ret)))
theorem has13 : Has cx 13 21 m13 [(.tmp 4)] :=
  ⟨⟨Try.f13, Try.f13.body.getD .skip, by kernel_rfl, by kernel_rfl, by kernel_rfl, by kernel_rfl, by kernel_rfl, by kernel_rfl⟩⟩
theorem lp13_0 (n : Nat) (c : List V) (hn : n ≤ 1048576) :
    LpS cx 21 1 m13_0 [(0, .sl 0 0 n), (1, .int .i64 ((0) + 1 : Nat)), (5, .int .i64 (0 : Nat))] [⟨mkc c n, 1, 0, some 0, false⟩] (⟨.exit 0, [(1, .int .i64 ((n) + 1 : Nat))], [⟨mkc c n, 1, 0, some 0, false⟩]⟩ : Out).x (⟨.exit 0, [(1, .int .i64 ((n) + 1 : Nat))], [⟨mkc c n, 1, 0, some 0, false⟩]⟩ : Out).e (⟨.exit 0, [(1, .int .i64 ((n) + 1 : Nat))], [⟨mkc c n, 1, 0, some 0, false⟩]⟩ : Out).h := by
  refine lp_st (n) (fun _ => ()) (fun i _ => [(0, .sl 0 0 n), (1, .int .i64 ((i) + 1 : Nat)), (5, .int .i64 (i : Nat))]) (fun i _ => [⟨mkc c n, 1, 0, some 0, false⟩]) (fun _ => (⟨.exit 0, [(1, .int .i64 ((n) + 1 : Nat))], [⟨mkc c n, 1, 0, some 0, false⟩]⟩ : Out)) ?_ ?_ (n) 0 (by omega)
  · intro i u_ hi hu_
    refine ⟨(), rfl, ?_⟩
    have hlt : decide ((i : Int) < (n : Nat)) = true := decide_eq_true (by omega)
    have b1 : binV .add (.int .i64 (i + 1 : Nat)) (.int .i64 1) = some (.int .i64 ((i + 1) + 1 : Nat)) := b_addN (b := 1) (by omega)
    have m1 : (mkc c n)[0 + i * 1]? = some (.int .i64 (i + 1 : Nat)) := by rw [show 0 + i * 1 = i by omega, mkc_get (by omega)]
    have q1 : (((i + 1 : Nat) : Int) != (i + 1 : Nat)) = false := by simp
    unfold m13_0
    repeat' (first
      | refine ep_loadS rfl rfl rfl m1 ?_
      | (refine g_op ?_; first
        | refine ep_mov rfl ?_ | refine ep_load1 rfl rfl rfl rfl ?_
        | refine ep_bin rfl rfl (by first | exact b1 | exact b_add (by omega) (by omega) | exact b_lss | exact b_neq) ?_ | refine ep_lenS rfl ?_ | refine ep_lenN rfl ?_ | refine ep_lenE rfl ?_ | refine sp_idx rfl rfl rfl (by omega) rfl ?_
        | refine ep_loadS rfl rfl rfl (by first | exact ints_get (by omega) | exact zints_get (by omega) | exact fget (by omega) | assumption) ?_)
      | (refine g_ops ?_; first | refine eo_none ?_ | refine eo_nil ?_)
      | (refine g_code ?_; first | refine ec_seq ?_ | refine ec_region ?_ | refine ec_block ?_ | refine ec_skip ?_ | refine ec_exit ?_ | refine ec_ret ?_ | refine ec_condT rfl ?_ | refine ec_condF rfl ?_ | refine ec_condTH rfl (by assumption) ?_ | refine ec_condFH rfl (by assumption) ?_)
      | refine ek_seqN ?_ | refine ek_seqX ?_ | refine ek_seqR ?_ | refine ek_blkN ?_ | refine ek_blkR ?_ | refine ek_blkX ?_ | refine ek_blkY rfl ?_)
    exact rnd_on (by rfl) (scmp2 (by rfl) (by rfl) (by exact ⟨rfl, rfl, rfl⟩) (by rfl) (by first | rfl | (simp; done) | (simp [ints, prs]; done)) (by rfl) (by first | rfl | (simp; done) | (simp [ints, prs]; done)))
  · intro u_ hu_
    have hlt : decide (((n : Nat) : Int) < (n : Nat)) = false := decide_eq_false (by omega)
    unfold m13_0
    repeat' (first
      | (refine g_op ?_; first
        | refine ep_mov rfl ?_ | refine ep_load1 rfl rfl rfl rfl ?_
        | refine ep_bin rfl rfl (by first | exact b_add (by omega) (by omega) | exact b_lss | exact b_neq) ?_ | refine ep_lenS rfl ?_ | refine ep_lenN rfl ?_ | refine ep_lenE rfl ?_ | refine sp_idx rfl rfl rfl (by omega) rfl ?_
        | refine ep_loadS rfl rfl rfl (by first | exact ints_get (by omega) | exact zints_get (by omega) | exact fget (by omega) | assumption) ?_)
      | (refine g_ops ?_; first | refine eo_none ?_ | refine eo_nil ?_)
      | (refine g_code ?_; first | refine ec_seq ?_ | refine ec_region ?_ | refine ec_block ?_ | refine ec_skip ?_ | refine ec_exit ?_ | refine ec_ret ?_ | refine ec_condT rfl ?_ | refine ec_condF rfl ?_ | refine ec_condTH rfl (by assumption) ?_ | refine ec_condFH rfl (by assumption) ?_)
      | refine ek_seqN ?_ | refine ek_seqX ?_ | refine ek_seqR ?_ | refine ek_blkN ?_ | refine ek_blkR ?_ | refine ek_blkX ?_ | refine ek_blkY rfl ?_)
    exact rnd_out (by rfl) (by simp) (scmp2 (by rfl) (by rfl) (by exact ⟨rfl, rfl, rfl⟩) (by rfl) (by first | rfl | (simp; done) | (simp [ints, prs]; done)) (by rfl) (by first | rfl | (simp; done) | (simp [ints, prs]; done)))

theorem ev13 (n : Nat) (c : List V) (hn : n ≤ 1048576) : Ev cx 13 [.sl 0 0 n, .int .i64 1] [⟨mkc c n, 1, 0, some 0, false⟩] (.int .i64 (n + 1 : Nat)) [⟨mkc c n, 1, 0, some 0, false⟩] := by
  have lp := lp13_0 n c hn
  refine has13.eev rfl rfl ?_
  unfold m13
  repeat' (first
    | refine sc_loop lp rfl rfl ⟨rfl, rfl, rfl⟩ rfl rfl rfl ?_
    | (refine g_op ?_; first
      | refine ep_mov rfl ?_)
    | (refine g_ops ?_; first | refine eo_none ?_ | refine eo_nil ?_)
    | (refine g_code ?_; first | refine ec_seq ?_ | refine ec_region ?_ | refine ec_block ?_ | refine ec_ret ?_)
    | refine ek_seqN ?_ | refine ek_seqX ?_ | refine ek_seqR ?_ | refine ek_blkN ?_ | refine ek_blkR ?_ | refine ek_blkX ?_ | refine ek_blkY rfl ?_)
  refine sfin (.inr rfl) (by rfl) (by rfl) (by exact ⟨rfl, rfl, rfl⟩) (by rfl) (by rfl) (by rfl) (by first | rfl | (simp; done) | (simp [ints, prs]; done))
theorem lp13_0_nils  :
    LpS cx 21 0 m13_0 [(0, .nils), (1, .int .i64 1), (5, .int .i64 (0 : Nat))] [] (⟨.exit 0, [(1, .int .i64 1)], []⟩ : Out).x (⟨.exit 0, [(1, .int .i64 1)], []⟩ : Out).e (⟨.exit 0, [(1, .int .i64 1)], []⟩ : Out).h := by
  refine lp_st (0) (fun _ => ()) (fun i _ => [(0, .nils), (1, .int .i64 1), (5, .int .i64 (i : Nat))]) (fun i _ => []) (fun _ => (⟨.exit 0, [(1, .int .i64 1)], []⟩ : Out)) ?_ ?_ (0) 0 (by omega)
  · intro i u_ hi hu_
    refine ⟨(), rfl, ?_⟩
    exact absurd hi (by simp)
  · intro u_ hu_
    have hlt : decide (((0 : Nat) : Int) < (0 : Nat)) = false := decide_eq_false (by omega)
    unfold m13_0
    repeat' (first
      | (refine g_op ?_; first
        | refine ep_mov rfl ?_ | refine ep_load1 rfl rfl rfl rfl ?_
        | refine ep_bin rfl rfl (by first | exact b_add (by omega) (by omega) | exact b_lss | exact b_neq) ?_ | refine ep_lenS rfl ?_ | refine ep_lenN rfl ?_ | refine ep_lenE rfl ?_ | refine sp_idx rfl rfl rfl (by omega) rfl ?_
        | refine ep_loadS rfl rfl rfl (by first | exact ints_get (by omega) | exact zints_get (by omega) | exact fget (by omega) | assumption) ?_)
      | (refine g_ops ?_; first | refine eo_none ?_ | refine eo_nil ?_)
      | (refine g_code ?_; first | refine ec_seq ?_ | refine ec_region ?_ | refine ec_block ?_ | refine ec_skip ?_ | refine ec_exit ?_ | refine ec_ret ?_ | refine ec_condT rfl ?_ | refine ec_condF rfl ?_ | refine ec_condTH rfl (by assumption) ?_ | refine ec_condFH rfl (by assumption) ?_)
      | refine ek_seqN ?_ | refine ek_seqX ?_ | refine ek_seqR ?_ | refine ek_blkN ?_ | refine ek_blkR ?_ | refine ek_blkX ?_ | refine ek_blkY rfl ?_)
    exact rnd_out (by rfl) (by simp) (scmp2 (by rfl) (by rfl) (by exact ⟨rfl, rfl, rfl⟩) (by rfl) (by first | rfl | (simp; done) | (simp [ints, prs]; done)) (by rfl) (by first | rfl | (simp; done) | (simp [ints, prs]; done)))

theorem ev13_nils : Ev cx 13 [.nils, .int .i64 1] [] (.int .i64 1) [] := by
  have lp := lp13_0_nils
  refine has13.eev rfl rfl ?_
  unfold m13
  repeat' (first
    | refine sc_loop lp rfl rfl ⟨rfl, rfl, rfl⟩ rfl rfl rfl ?_
    | (refine g_op ?_; first
      | refine ep_mov rfl ?_)
    | (refine g_ops ?_; first | refine eo_none ?_ | refine eo_nil ?_)
    | (refine g_code ?_; first | refine ec_seq ?_ | refine ec_region ?_ | refine ec_block ?_ | refine ec_ret ?_)
    | refine ek_seqN ?_ | refine ek_seqX ?_ | refine ek_seqR ?_ | refine ek_blkN ?_ | refine ek_blkR ?_ | refine ek_blkX ?_ | refine ek_blkY rfl ?_)
  refine sfin (.inr rfl) (by rfl) (by rfl) (by exact ⟨rfl, rfl, rfl⟩) (by rfl) (by rfl) (by rfl) (by first | rfl | (simp; done) | (simp [ints, prs]; done))
theorem k_lite_ib (s : ByteArray) (c : Int) (w : World) :
    Calls Try.prog 50 #[.string s, .int .u8 c] w fun e w' => e = .returned (.int .i64 (Lib.indexByte s.data.toList c.toNat.toUInt8)) ∧ w' = w := by
  go_enter Try.func50, Try.ntmps50
  go_wp2
  rw [run_callFunc_extern Try.func55 (by kernel_rfl) (by kernel_rfl) (by kernel_rfl) (e := Extern.BytealgIndexByte.indexByte) (by kernel_rfl), Lib.run_indexByteString]
  simp only [Result.andThen]
  rw [Oper.upon_value]
  go_wp2
  go_ret
  exact ⟨rfl, rfl⟩
theorem k_ib (s : ByteArray) (c : Int) (w : World) :
    Calls Try.prog 54 #[.string s, .int .u8 c] w fun e w' => e = .returned (.int .i64 (Lib.indexByte s.data.toList c.toNat.toUInt8)) ∧ w' = w := by
  go_enter Try.func54, Try.ntmps54
  go_wp2_with (go_at_call 50; refine (k_lite_ib _ _ _).mono ?_; rintro e w' ⟨rfl, rfl⟩)
  go_ret
  exact ⟨rfl, rfl⟩
theorem k_lite_ix (s : ByteArray) (c : UInt8) (w : World) :
    Calls Try.prog 47 #[.string s, .string ⟨#[c]⟩] w fun e w' => e = .returned (.int .i64 (Lib.indexByte s.data.toList c)) ∧ w' = w := by
  go_enter Try.func47, Try.ntmps47
  go_wp2_with (go_at_call 50; refine (k_lite_ib _ _ _).mono ?_; rintro e w' ⟨rfl, rfl⟩)
  · have h : ([c] == s.toList) = true := by assumption
    go_ret
    refine ⟨?_, rfl⟩
    have e : s.data.toList = [c] := by rw [← Lib.toList_data]; exact (beq_iff_eq.1 h).symm
    rw [e]
    simp [Lib.indexByte]
  · go_ret
    exact ⟨rfl, rfl⟩
theorem k_ix (s : ByteArray) (c : UInt8) (w : World) :
    Calls Try.prog 37 #[.string s, .string ⟨#[c]⟩] w fun e w' => e = .returned (.int .i64 (Lib.indexByte s.data.toList c)) ∧ w' = w := by
  go_enter Try.func37, Try.ntmps37
  go_wp2_with (go_at_call 47; refine (k_lite_ix _ _ _).mono ?_; rintro e w' ⟨rfl, rfl⟩)
  go_ret
  exact ⟨rfl, rfl⟩
theorem k_has (s : ByteArray) (c : UInt8) (w : World) :
    Calls Try.prog 27 #[.string s, .string ⟨#[c]⟩] w fun e w' => e = .returned (.bool (decide (0 ≤ Lib.indexByte s.data.toList c))) ∧ w' = w := by
  go_enter Try.func27, Try.ntmps27
  go_wp2_with (go_at_call 37; refine (k_ix _ _ _).mono ?_; rintro e w' ⟨rfl, rfl⟩)
  go_ret
  exact ⟨rfl, rfl⟩
def isV (c : UInt8) : Bool := c == 97 || c == 98 || c == 99 || c == 100
def plc (c : UInt8) : Int :=
  if isV c || c == 48 || c == 49 then 0 else if c == 33 then 1 else if c == 38 || c == 124 || c == 94 then 2 else if c == 63 || c == 77 then 3 else -1
theorem ib_letters (c : UInt8) : decide (Lib.indexByte [97, 98, 99, 100] c ≥ 0) = isV c := by
  unfold isV
  by_cases h1 : c = 97
  · subst h1; decide
  by_cases h2 : c = 98
  · subst h2; decide
  by_cases h3 : c = 99
  · subst h3; decide
  by_cases h4 : c = 100
  · subst h4; decide
  have e : Lib.indexByte [97, 98, 99, 100] c = -1 := by
    simp only [Lib.indexByte, beq_iff_eq, Ne.symm h1, Ne.symm h2, Ne.symm h3, Ne.symm h4, if_false, if_true]
  rw [e]; simp [h1, h2, h3, h4]
def plN (i x : Int) : Int := if 0 ≤ i ∨ x = 48 ∨ x = 49 then 0 else if x = 33 then 1 else if x = 38 ∨ x = 124 ∨ x = 94 then 2 else if x = 63 ∨ x = 77 then 3 else -1
theorem plN_eq (c : UInt8) : plN (Lib.indexByte [97, 98, 99, 100] c) (c.toNat : Int) = plc c := by
  have h := ib_letters c
  have e : ∀ k : UInt8, (c == k) = decide ((c.toNat : Int) = (k.toNat : Int)) := fun k => by
    rw [Bool.eq_iff_iff]
    simp only [beq_iff_eq, decide_eq_true_eq]
    constructor
    · intro h; rw [h]
    · intro h; exact UInt8.toNat_inj.mp (by omega)
  unfold plN plc
  rw [← h]
  simp only [e, Bool.or_eq_true, decide_eq_true_eq, or_assoc, ge_iff_le]
  rfl
theorem places_any0 (c : UInt8) (w : World) : Calls Try.prog 49 #[.int .u8 (c.toNat : Int)] w fun e w' => e = .returned (.int .i64 (plN (Lib.indexByte [97, 98, 99, 100] c) (c.toNat : Int))) ∧ w' = w := by
  go_enter Try.func49, Try.ntmps49
  go_wp2_with (go_at_call 54; refine (k_ib _ _ _).mono ?_; rintro e w' ⟨rfl, rfl⟩)
  all_goals
    go_ret
    refine ⟨?_, rfl⟩
    congr 1
    generalize Lib.indexByte [97, 98, 99, 100] c = i at *
    generalize (c.toNat : Int) = x at *
    simp only [beq_iff_eq, beq_eq_false_iff_ne, ne_eq] at *
    have e : ∀ z : Int, plN i x = z → Value.int .i64 z = Value.int .i64 (plN i x) := fun z h => by rw [h]
    refine e _ ?_
    unfold plN
    (repeat' split) <;> omega
theorem places_any (c : UInt8) (w : World) : Calls Try.prog 49 #[.int .u8 (c.toNat : Int)] w fun e w' => e = .returned (.int .i64 (plc c)) ∧ w' = w := by
  rw [← plN_eq]; exact places_any0 c w

section
open Go.RowKit
theorem plc_le (c : UInt8) : -1 ≤ plc c ∧ plc c ≤ 3 := by unfold plc; (repeat' split) <;> omega
/-- What is left of a text behind k formulas. -/
def rdK : List UInt8 → Nat → Option (List UInt8)
  | l, 0 => some l
  | [], _ + 1 => none
  | c :: l, k + 1 => if plc c < 0 then none else rdK l ((plc c).toNat + k)
theorem rdK_add : ∀ (l : List UInt8) (a b : Nat), rdK l (a + b) = (rdK l a).bind fun r => rdK r b
  | l, 0, b => by cases l <;> simp [rdK]
  | [], a + 1, b => by rw [show a + 1 + b = (a + b) + 1 by omega]; rfl
  | c :: l, a + 1, b => by
    rw [show a + 1 + b = (a + b) + 1 by omega, rdK, rdK]
    split
    · rfl
    · rw [← Nat.add_assoc, rdK_add l _ b]
theorem rdK_len : ∀ (l : List UInt8) (a : Nat) (r : List UInt8), rdK l a = some r → r.length + a ≤ l.length
  | l, 0, r, h => by
    have : l = r := by cases l <;> simpa [rdK] using h
    subst this; simp
  | [], a + 1, r, h => by simp [rdK] at h
  | c :: l, a + 1, r, h => by
    rw [rdK] at h
    split at h
    · simp at h
    · have := rdK_len l _ r h
      simp only [List.length_cons]; omega
theorem rdK_s (l : List UInt8) (a : Nat) : rdK l (a + 1) = (rdK l a).bind fun r => rdK r 1 := rdK_add l a 1
def rdS (s : ByteArray) : ByteArray × Bool := match rdK s.data.toList 1 with | none => (⟨#[]⟩, false) | some r => (⟨r.toArray⟩, true)
theorem bytes_cons {s : ByteArray} (h : 0 < s.size) : s.data.toList = s[0] :: (s.extract 1 s.size).data.toList := by
  obtain ⟨⟨l⟩⟩ := s
  cases l with
  | nil => simp [ByteArray.size] at h
  | cons c l =>
    rw [ByteArray.extract_mk]
    show c :: l = _ :: _
    congr 1
    simp only [List.extract_toArray, List.extract_eq_take_drop, List.drop_succ_cons, List.drop_zero]
    rw [List.take_of_length_le]
    show l.length ≤ (c :: l).length - 1
    simp
theorem toL_nil {s : ByteArray} (h : 0 < s.size) : s.toList.isEmpty = false := by
  rw [Lib.toList_data, bytes_cons h]; rfl
theorem rdS_bad {s : ByteArray} (h : 0 < s.size) (hp : plc s[0] < 0) : rdS s = (⟨#[]⟩, false) := by
  unfold rdS; rw [bytes_cons h, rdK, if_pos hp]
theorem cell_blk {w : World} {b i : Nat} {cs : Array Value} {t : TypeId} {v : Value} (h : w.heap[b]? = some (.cells cs t (0, 0))) (hv : cs[i]? = some v) : w.cell? ⟨b, i, none⟩ = some v := by simp [World.cell?, h, hv]
theorem free_blk {w : World} {b : Nat} {cs : Array Value} {t : TypeId} (i : Nat) (h : w.heap[b]? = some (.cells cs t (0, 0))) : w.frozen? ⟨b, i, none⟩ = false := by simp [World.frozen?, h]
theorem blk_fr' {w w' : World} {b : Nat} {o : Obj} {row : Option Nat} (h : w.heap[b]? = some o) (hg : w.grownBy w' row) (hr : some b ≠ row) : w'.heap[b]? = some o := by
  have hb : b < w.heap.size := (Array.getElem?_eq_some_iff.mp h).1
  rw [hg.block b hb hr]; exact h
theorem blk_alloc {w : World} {b : Nat} {o : Obj} (x : Obj) (h : w.heap[b]? = some o) : (w.alloc x).heap[b]? = some o := blk_fr' h (World.grownBy_alloc w x none) (by simp)
theorem blk_new (w : World) (o : Obj) : (w.alloc o).heap[w.heap.size]? = some o := by
  show (w.heap.push o)[w.heap.size]? = some o
  rw [Array.getElem?_push, if_pos rfl]
theorem own_shape {w : World} {b : Nat} {e : TypeId} {sz : Nat} {v : Value} {n : Nat} {xs : List Value} (h : w.ownsRow b e sz v n xs) : ∃ o c, v = .slice o n c := by
  rcases h.2 with ⟨rfl, rfl⟩ | ⟨g, cap, cur, rfl, _⟩
  · exact ⟨_, _, rfl⟩
  · exact ⟨_, _, rfl⟩
theorem own_ge {w : World} {b : Nat} {e : TypeId} {sz : Nat} {v : Value} {n : Nat} {xs : List Value} (h : w.ownsRow b e sz v n xs) {k : Nat} (hk : v.ownBlock = some k) : b ≤ k ∧ k < w.heap.size := by
  rcases h.2 with ⟨rfl, rfl⟩ | ⟨g, cap, cur, rfl, hg, hh, _⟩
  · simp [Value.ownBlock] at hk
  · simp only [Value.ownBlock, Option.some.injEq] at hk
    subst hk; exact ⟨hg, lt_of_block hh⟩
theorem set_size (w : World) (a : Addr) (u : Value) : (w.setCell a u).heap.size = w.heap.size := by simp [World.setCell]
theorem blk_set {w : World} {b : Nat} {o : Obj} {a : Addr} (u : Value) (h : w.heap[b]? = some o) (hne : b ≠ a.block) : (w.setCell a u).heap[b]? = some o := by
  rw [Below.heap_setCell _ _ _ _ hne]; exact h
theorem two_set1 {w : World} {b : Nat} {x y u : Value} {t : TypeId} (h : w.heap[b]? = some (.cells #[x, y] t (0, 0))) : (w.setCell ⟨b, 1, none⟩ u).heap[b]? = some (.cells #[x, u] t (0, 0)) := by
  have hlt := lt_of_block h
  have h' : w.heap[b] = .cells #[x, y] t (0, 0) := by simpa [Array.getElem?_eq_getElem hlt] using h
  show (w.heap.modify b _)[b]? = _
  rw [Array.getElem?_eq_getElem (by simpa using hlt), Array.getElem_modify_self, h']
  rfl
theorem two_set0 {w : World} {b : Nat} {x y u : Value} {t : TypeId} (h : w.heap[b]? = some (.cells #[x, y] t (0, 0))) : (w.setCell ⟨b, 0, none⟩ u).heap[b]? = some (.cells #[u, y] t (0, 0)) := by
  have hlt := lt_of_block h
  have h' : w.heap[b] = .cells #[x, y] t (0, 0) := by simpa [Array.getElem?_eq_getElem hlt] using h
  show (w.heap.modify b _)[b]? = _
  rw [Array.getElem?_eq_getElem (by simpa using hlt), Array.getElem_modify_self, h']
  rfl
theorem below_grown {w w' : World} (h : Below w.heap.size w w') : w.grownBy w' none := ⟨h.os, h.tape, h.output, h.size, fun k hk _ => h.block k hk⟩
def RdRel (w wr : World) (c : UInt8) (k : Nat) (o : Option Addr) (cp : Nat) (xs : List Value) : Prop :=
  wr.heap[w.heap.size]? = some (.cells #[.int .u8 0, .slice none 0 0] 58 (0, 0)) ∧ wr.heap[w.heap.size + 1]? = some (.cells #[.int .u8 (c.toNat : Int), .slice o k cp] 58 (0, 0)) ∧ wr.ownsRow (w.heap.size + 2) 58 2 (.slice o k cp) k xs ∧ Below w.heap.size w wr ∧ w.heap.size + 2 ≤ wr.heap.size
theorem rd_app {w wr w1 : World} {c : UInt8} {k : Nat} {o : Option Addr} {cp : Nat} {xs : List Value} (h : RdRel w wr c k o cp xs) {X : Obj} (hg : (wr.alloc X).grownBy w1 none) (u1 u2 : Value) (a b : Value) :
    RdRel w (((w1.setCell ⟨wr.heap.size, 0, none⟩ u1).setCell ⟨wr.heap.size, 1, none⟩ u2).alloc (.cells #[a, b] 58 (0, 0))) c k o cp xs ∧ (((w1.setCell ⟨wr.heap.size, 0, none⟩ u1).setCell ⟨wr.heap.size, 1, none⟩ u2).alloc (.cells #[a, b] 58 (0, 0))).heap[w1.heap.size]? = some (.cells #[a, b] 58 (0, 0)) := by
  obtain ⟨h1, h2, h3, h4, h5⟩ := h
  have hs : wr.heap.size + 1 ≤ w1.heap.size := by have := hg.size; simpa using this
  have hne : Value.ownBlock (.slice o k cp) ≠ some wr.heap.size := fun he => by
    have := (own_ge h3 he).2; omega
  refine ⟨⟨?_, ?_, ?_, ?_, ?_⟩, ?_⟩
  · exact blk_alloc _ (blk_set _ (blk_set _ (blk_fr' (blk_alloc _ h1) hg (by simp)) (by simp; omega)) (by simp; omega))
  · exact blk_alloc _ (blk_set _ (blk_set _ (blk_fr' (blk_alloc _ h2) hg (by simp)) (by simp; omega)) (by simp; omega))
  · exact (ownsRow_setCell_other (ownsRow_setCell_other ((h3.alloc _).kept hg (by cases o <;> simp [Value.ownBlock])) hne _) hne _).alloc _
  · exact ((((h4.alloc (by omega) _).grown hg (by simp; omega) (fun k hk => by cases hk)).setCell (by simp; omega) _).setCell (by simp; omega) _).alloc (by simp [set_size]; omega) _
  · simp [set_size]; omega
  · have := blk_new ((w1.setCell ⟨wr.heap.size, 0, none⟩ u1).setCell ⟨wr.heap.size, 1, none⟩ u2) (.cells #[a, b] 58 (0, 0))
    rwa [set_size, set_size] at this
theorem rd_grow {w wr w3 : World} {c : UInt8} {k : Nat} {o o2 : Option Addr} {cp c2 : Nat} {xs ys : List Value} (h : RdRel w wr c k o cp xs) (hown : w3.ownsRow (w.heap.size + 2) 58 2 (.slice o2 (k + 1) c2) (k + 1) ys) (hg : wr.grownBy w3 (Value.ownBlock (.slice o k cp))) :
    w3.heap[w.heap.size + 1]? = some (.cells #[.int .u8 (c.toNat : Int), .slice o k cp] 58 (0, 0)) ∧ RdRel w (w3.setCell ⟨w.heap.size + 1, 1, none⟩ (.slice o2 (k + 1) c2)) c (k + 1) o2 c2 ys := by
  obtain ⟨h1, h2, h3, h4, h5⟩ := h
  have hne : ∀ j, j < w.heap.size + 2 → some j ≠ Value.ownBlock (.slice o k cp) := fun j hj he => by
    have := (own_ge h3 he.symm).1; omega
  have g2 := blk_fr' h2 hg (hne _ (by omega))
  refine ⟨g2, blk_set _ (blk_fr' h1 hg (hne _ (by omega))) (by simp), two_set1 g2, ?_, ?_, ?_⟩
  · exact ownsRow_setCell_other hown (fun he => by have := (own_ge hown he).1; simp at this) _
  · exact (h4.grown hg (by omega) (fun j hj => by have := (own_ge h3 hj).1; omega)).setCell (by simp) _
  · have := hg.size; simp [set_size]; omega
theorem Try.info58 : (Try.prog.info? 58).map (fun i => (i.zero, i.size, i.bytes)) = some (some (.agg #[.int .u8 0, .slice none 0 0]), 2, 32) := by kernel_rfl
theorem rdS_ok {r : ByteArray} (h : (rdS r).2 = true) : rdK r.data.toList 1 = some (rdS r).1.data.toList := by
  unfold rdS at h ⊢
  cases hr : rdK r.data.toList 1 with
  | none => rw [hr] at h; exact absurd h Bool.false_ne_true
  | some q => rfl
theorem rdS_no {r : ByteArray} (h : (rdS r).2 = false) : rdK r.data.toList 1 = none := by
  unfold rdS at h
  cases hr : rdK r.data.toList 1 with
  | none => rfl
  | some q => rw [hr] at h; exact absurd h (fun h => Bool.false_ne_true h.symm)
theorem bsz_v (s : ByteArray) : s.size = s.data.toList.length := by obtain ⟨⟨l⟩⟩ := s; rfl
theorem bext {s : ByteArray} {l : List UInt8} (h : s.data.toList = l) : s = ⟨l.toArray⟩ := by
  obtain ⟨⟨x⟩⟩ := s; subst h; rfl
theorem two_cells {w : World} {b : Nat} {x y : Value} {t : TypeId} (h : w.heap[b]? = some (.cells #[x, y] t (0, 0))) : ∀ j u, [x, y][j]? = some u → w.cell? (Addr.add ⟨b, 0, none⟩ j) = some u := by
  intro j u hj
  match j, hj with
  | 0, hj => simp at hj; subst hj; simp [Addr.add]; exact cell_blk h rfl
  | 1, hj => simp at hj; subst hj; simp [Addr.add]; exact cell_blk h rfl
theorem sz58 : (Try.prog.info? 58).map (·.size) = some 2 := by kernel_rfl
theorem results_ctt {fn : Func} {p t u : Tmp} (h : fn.results = #[.cell p 58, .tmp t, .tmp u]) (tmps : Array Value) (w : World) (g : Nat) (e : TypeId) (cs : Array Value) (fr : Nat × Nat)
    (hp : tmps.getD p undef = .pointer (some ⟨g, 0, none⟩)) (hg : w.heap[g]? = some (.cells cs e fr)) (hi : cs.size = 2) :
    (results fn tmps).run Try.prog w = .ok (.tuple #[.agg cs, tmps.getD t undef, tmps.getD u undef]) w := by
  have hp' : tmps[p]?.getD undef = .pointer (some ⟨g, 0, none⟩) := by simpa using hp
  simp [results, h, hp', asAddr, run_loadVar_row w g e 58 cs fr _ hg Try.underlying58 rfl (by rw [sz58, hi]), Result.andThen]
theorem results_ct {fn : Func} {p t : Tmp} (h : fn.results = #[.cell p 58, .tmp t]) (tmps : Array Value) (w : World) (g : Nat) (e : TypeId) (cs : Array Value) (fr : Nat × Nat)
    (hp : tmps.getD p undef = .pointer (some ⟨g, 0, none⟩)) (hg : w.heap[g]? = some (.cells cs e fr)) (hi : cs.size = 2) :
    (results fn tmps).run Try.prog w = .ok (.tuple #[.agg cs, tmps.getD t undef]) w := by
  have hp' : tmps[p]?.getD undef = .pointer (some ⟨g, 0, none⟩) := by simpa using hp
  simp [results, h, hp', asAddr, run_loadVar_row w g e 58 cs fr _ hg Try.underlying58 rfl (by rw [sz58, hi]), Result.andThen]
theorem read_nil (w : World) : Calls Try.prog 46 #[.string ⟨#[]⟩] w fun e w' => ∃ (z : Int) (o : Option Addr) (m c : Nat), e = .returned (.tuple #[.agg #[.int .u8 z, .slice o m c], .string (rdS ⟨#[]⟩).1, .bool (rdS ⟨#[]⟩).2]) ∧ w.grownBy w' none := by
  go_enter Try.func46, Try.ntmps46
  go_wp2_with fail
  refine bodyPost_ret (results_ctt rfl _ _ w.heap.size 58 #[.int .u8 0, .slice none 0 0] (0, 0) rfl (blk_new _ _) rfl) rfl ?_
  exact ⟨0, none, 0, 0, rfl, World.grownBy_alloc _ _ _⟩
theorem read_any : ∀ (n : Nat) (s : ByteArray) (w : World), s.size ≤ n → Calls Try.prog 46 #[.string s] w fun e w' => ∃ (z : Int) (o : Option Addr) (m c : Nat), e = .returned (.tuple #[.agg #[.int .u8 z, .slice o m c], .string (rdS s).1, .bool (rdS s).2]) ∧ w.grownBy w' none := by
  intro n
  induction n with
  | zero =>
    intro s w hs
    have h0 : s.size = 0 := by omega
    have he : s = ⟨#[]⟩ := bext (List.eq_nil_of_length_eq_zero (by rw [← bsz_v]; exact h0))
    subst he
    exact read_nil w
  | succ n ih =>
    intro s w hs
    by_cases h0 : s.size = 0
    · exact (bext (List.eq_nil_of_length_eq_zero (by rw [← bsz_v]; exact h0)) : s = ⟨#[]⟩) ▸ read_nil w
    · have hpos : 0 < s.size := by omega
      have he := toL_nil hpos
      obtain ⟨i0, hi, hz0, hz1, hz2⟩ := info_parts Try.info58
      by_cases hp : plc s[0] < 0
      · go_enter Try.func46, Try.ntmps46
        go_wp2_with (first
          | (go_at_call 49; refine (places_any _ _).mono ?_; rintro e w' ⟨rfl, rfl⟩)
          | fail)
        refine bodyPost_ret (results_ctt rfl _ _ w.heap.size 58 #[.int .u8 0, .slice none 0 0] (0, 0) rfl (blk_new _ _) rfl) rfl ?_
        refine ⟨0, none, 0, 0, ?_, World.grownBy_alloc _ _ _⟩
        rw [rdS_bad hpos hp]
        rfl
      · go_enter Try.func46, Try.ntmps46
        go_wp2_with (first
          | (go_at_call 49; refine (places_any _ _).mono ?_; rintro e w' ⟨rfl, rfl⟩)
          | fail)
        have hl0 := bytes_cons hpos
        have hlz : (s.extract 1 s.size).size = s.size - 1 := by rw [ByteArray.size_extract]; omega
        generalize s[0] = c at *
        generalize s.extract 1 s.size = l at *
        have hln : l.size ≤ n := by omega
        have hR : ∀ (k : Nat) (r : List UInt8), (k : Int) = plc c → rdK l.data.toList k = some r → rdS s = (⟨r.toArray⟩, true) := by
          intro k r hk hr
          unfold rdS
          rw [hl0, rdK, if_neg (by omega), Nat.add_zero, show (plc c).toNat = k by omega, hr]
        have hN : ∀ (k : Nat), (k : Int) ≤ plc c → rdK l.data.toList k = none → rdS s = (⟨#[]⟩, false) := by
          intro k hk hr
          unfold rdS
          rw [hl0, rdK, if_neg (by omega), Nat.add_zero, show (plc c).toNat = k + ((plc c).toNat - k) by omega, rdK_add, hr]
          rfl
        have hp3 := plc_le c
        obtain ⟨P, hP⟩ := Int.eq_ofNat_of_zero_le (show 0 ≤ plc c by omega)
        have hP3 : P ≤ 3 := by omega
        rw [hP]
        go_loopw [6, 26] (fun v i wr => ∃ (k : Nat) (r : ByteArray) (o : Option Addr) (cp : Nat) (xs : List Value), v = .string r ∧ i = .int .i64 k ∧ k ≤ P ∧ rdK l.data.toList k = some r.data.toList ∧ r.size ≤ n ∧ RdRel w wr c k o cp xs) (fun _ i _ => P - (intOf i).toNat)
        case atStart =>
          refine ⟨0, l, none, 0, [], rfl, rfl, Nat.zero_le _, by cases l.data.toList <;> rfl, hln, blk_alloc _ (blk_new _ _), ?_, World.ownsRow_nil _ _ _ _, ((Below.refl _ _).alloc (by simp) _).alloc (by simp) _, by simp⟩
          have := blk_new (w.alloc (.cells #[.int .u8 0, .slice none 0 0] 58)) (.cells #[.int .u8 (c.toNat : Int), .slice none 0 0] 58 (0, 0))
          simpa using this
        case round =>
          obtain ⟨k, r, o, cp, xs, rfl, rfl, hk, hrd, hrn, hrr⟩ := hrel
          have hb0 := hrr.1; have hb1 := hrr.2.1; have hbel := hrr.2.2.2.1; have hsz := hrr.2.2.2.2
          have c00 := cell_blk (i := 0) (v := .int .u8 0) hb0 rfl; have c01 := cell_blk (i := 1) (v := .slice none 0 0) hb0 rfl; have f00 := free_blk 0 hb0; have f01 := free_blk 1 hb0
          have c10 := cell_blk (i := 0) (v := .int .u8 (c.toNat : Int)) hb1 rfl; have c11 := cell_blk (i := 1) (v := .slice o k cp) hb1 rfl; have f10 := free_blk 0 hb1; have f11 := free_blk 1 hb1
          by_cases hkp : k < P
          · cases hok : (rdS r).2
            · go_wp2_with (first
                | (go_at_call 46; refine (ih r _ hrn).mono ?_; rintro e w1 ⟨z, o', m', c', rfl, hg⟩; rw [hok]; have h70 := blk_fr' (blk_new _ _) hg (by simp); have hb0' := blk_fr' (blk_alloc _ hb0) hg (by simp); have d00 := cell_blk (i := 0) (v := .int .u8 0) hb0' rfl; have d01 := cell_blk (i := 1) (v := .slice none 0 0) hb0' rfl; have g00 := free_blk 0 hb0'; have g01 := free_blk 1 hb0'; have d70 := cell_blk (i := 0) (v := .int .u8 0) h70 rfl; have d71 := cell_blk (i := 1) (v := .slice none 0 0) h70 rfl; have g70 := free_blk 0 h70; have g71 := free_blk 1 h70)
                | fail)
              have hs1 : wr.heap.size + 1 ≤ w1.heap.size := by have := hg.size; simpa using this
              refine bodyPost_ret (results_ctt rfl _ _ w.heap.size 58 #[.int .u8 0, .slice none 0 0] (0, 0) rfl (two_set1 (two_set0 (blk_set _ (blk_set _ hb0' (by simp; omega)) (by simp; omega)))) rfl) rfl ?_
              refine ⟨0, none, 0, 0, ?_, below_grown (((((((hbel.alloc (by omega) _).grown hg (by simp; omega) (fun k hk => by cases hk)).setCell (by simp; omega) _).setCell (by simp; omega) _).setCell (by simp) _).setCell (by simp) _))⟩
              rw [hN (k + 1) (by omega) (by rw [rdK_s, hrd]; exact rdS_no hok)]
              rfl
            · have hxl := hrr.2.2.1.1
              go_wp2_with (first
                | (go_at_call 46; refine (ih r _ hrn).mono ?_; rintro e w1 ⟨z, o', m', c', rfl, hg⟩; rw [hok]; have h70 := blk_fr' (blk_new _ _) hg (by simp); have hb1' := blk_fr' (blk_alloc _ hb1) hg (by simp); have d10 := cell_blk (i := 0) (v := .int .u8 (c.toNat : Int)) hb1' rfl; have d11 := cell_blk (i := 1) (v := .slice o k cp) hb1' rfl; have g10 := free_blk 0 hb1'; have g11 := free_blk 1 hb1'; have d70 := cell_blk (i := 0) (v := .int .u8 0) h70 rfl; have d71 := cell_blk (i := 1) (v := .slice none 0 0) h70 rfl; have g70 := free_blk 0 h70; have g71 := free_blk 1 h70; have happ := rd_app hrr hg (.int .u8 z) (.slice o' m' c') (.int .u8 z) (.slice o' m' c'))
                | (at_builtin; (refine wpList_append_own _ rfl (.tmp 38) (.tmp 40) 56 rfl (w.heap.size + 2) 58 i0 _ 2 32 Try.underlying56 hi hz0 hz1 hz2 rfl (by decide) _ _ _ rfl happ.1.2.2.1 ⟨w1.heap.size, 0, none⟩ 1 1 [.int .u8 z, .slice o' m' c'] rfl rfl (two_cells happ.2) (by intro u hu; simp at hu; rcases hu with rfl | rfl <;> rfl) (by unfold maxLen; omega) (by omega) (by have := happ.1.2.2.2.2; omega) ?_; intro v' w3 hown' hgrow _; obtain ⟨o2, c2, rfl⟩ := own_shape hown'; have hst := rd_grow happ.1 hown' hgrow; have e10 := cell_blk (i := 1) (v := .slice o k cp) hst.1 rfl; have k10 := free_blk 1 hst.1))
                | fail)
              go_roundw
              case rel =>
                refine ⟨k + 1, (rdS r).1, o2, c2, _, rfl, by go_num, by omega, by rw [rdK_s, hrd]; exact rdS_ok hok, ?_, hst.2⟩
                have h1 := rdK_len _ _ _ (rdS_ok hok)
                rw [bsz_v] at hrn ⊢; omega
              case measure => simp [intOf]; omega
          · obtain rfl : k = P := by omega
            go_wp2_with fail
            refine bodyPost_ret (results_ctt rfl _ _ w.heap.size 58 #[.int .u8 (c.toNat : Int), .slice o k cp] (0, 0) rfl (two_set1 (two_set0 hb0)) rfl) rfl ?_
            first
              | refine ⟨⟨c.toNat, o, k, cp, ?_⟩, below_grown ((hbel.setCell (by simp) _).setCell (by simp) _)⟩
              | refine ⟨c.toNat, o, k, cp, ?_, below_grown ((hbel.setCell (by simp) _).setCell (by simp) _)⟩
            rw [hR k r.data.toList hP.symm hrd]
            rfl
end
section
open Go.RowKit
def isFm (s : ByteArray) : Bool := if 60 < s.size then false else (rdS s).2 && (rdS s).1.toList.isEmpty
theorem parse_any (s : ByteArray) (w : World) : Calls Try.prog 36 #[.string s] w fun e w' => ∃ f : Value, e = .returned (.tuple #[f, .bool (isFm s)]) ∧ w.grownBy w' none ∧ ∃ (z : Int) (o : Option Addr) (m c : Nat), f = .agg #[.int .u8 z, .slice o m c] := by
  by_cases h : 60 < s.size
  · have e0 : isFm s = false := if_pos h
    rw [e0]
    go_enter Try.func36, Try.ntmps36
    go_wp2_with fail
    refine bodyPost_ret (results_ct rfl _ _ w.heap.size 58 #[.int .u8 0, .slice none 0 0] (0, 0) rfl (blk_new _ _) rfl) rfl ?_
    exact ⟨_, rfl, World.grownBy_alloc _ _ _, _, _, _, _, rfl⟩
  · have e0 : isFm s = ((rdS s).2 && (rdS s).1.toList.isEmpty) := if_neg h
    rw [e0]
    cases hok : (rdS s).2
    all_goals
     go_enter Try.func36, Try.ntmps36
     have c00 := cell_blk (i := 0) (v := .int .u8 0) (blk_new w (.cells #[.int .u8 0, .slice none 0 0] 58 (0, 0))) rfl
     have c01 := cell_blk (i := 1) (v := .slice none 0 0) (blk_new w (.cells #[.int .u8 0, .slice none 0 0] 58 (0, 0))) rfl
     go_wp2_with (first
      | (go_at_call 46; refine (read_any _ s _ (Nat.le_refl _)).mono ?_; rintro e w1 ⟨z, o, m, c, rfl, hg⟩; rw [hok]; have hb0 := blk_alloc (.cells #[.int .u8 z, .slice o m c] 58 (0, 0)) (blk_fr' (blk_new w (.cells #[.int .u8 0, .slice none 0 0] 58 (0, 0))) hg (by simp)); have hb1 := blk_new w1 (.cells #[.int .u8 z, .slice o m c] 58 (0, 0)); have d10 := cell_blk (i := 0) (v := .int .u8 z) hb1 rfl; have d11 := cell_blk (i := 1) (v := .slice o m c) hb1 rfl; have d00 := cell_blk (i := 0) (v := .int .u8 0) hb0 rfl; have d01 := cell_blk (i := 1) (v := .slice none 0 0) hb0 rfl; have g00 := free_blk 0 hb0; have g01 := free_blk 1 hb0; have hs1 : w.heap.size + 1 ≤ w1.heap.size := (by have := hg.size; simpa using this))
      | fail)
     refine bodyPost_ret (results_ct rfl _ _ w.heap.size 58 #[.int .u8 z, .slice o m c] (0, 0) rfl (two_set1 (two_set0 hb0)) rfl) rfl ?_
     refine ⟨_, rfl, below_grown (((((Below.refl w.heap.size w).alloc (Nat.le_refl _) _).grown hg (by simp) (fun k hk => by cases hk)).alloc (by omega) _).setCell (by simp) _ |>.setCell (by simp) _), _, _, _, _, rfl⟩
theorem isfm_any (s : ByteArray) (w : World) : Calls Try.prog 26 #[.string s] w fun e w' => e = .returned (.bool (isFm s)) ∧ w.grownBy w' none := by
  go_enter Try.func26, Try.ntmps26
  go_wp2_with (first
    | (go_at_call 36; refine (parse_any s _).mono ?_; rintro e w1 ⟨f, rfl, hg, z, o, m, c, rfl⟩)
    | fail)
  go_ret
  exact ⟨rfl, below_grown (((Below.refl _ _).grown hg (Nat.le_refl _) (fun k hk => by cases hk)).alloc hg.size _)⟩
end
section
open Go.RowKit
def lc (k : Nat) : UInt8 := UInt8.ofNat (97 + k)
def vh (s : ByteArray) (i : Nat) : Bool := decide (0 ≤ Lib.indexByte s.data.toList (lc i))
def vL (s : ByteArray) (k : Nat) : List Nat := selm (vh s) idn k
def itSet (w : World) (b : Nat) (s : ByteArray) (p : Nat) : World := { w with heap := w.heap.setIfInBounds b (.stringIter s p) }
theorem run_next_at {w : World} {b : Nat} {s : ByteArray} {pos : Nat} (hb : w.heap[b]? = some (.stringIter s pos)) (ty : TypeId) (h : pos < s.size) (ha : (s[pos]'h).toNat < 128) :
    (Instr.next (.pointer (some ⟨b, 0, none⟩)) true ty).run Try.prog w = .ok (.tuple #[.bool true, .int .i64 pos, .int .i32 (s[pos]'h).toNat]) (itSet w b s (pos + 1)) := by
  simp only [Instr.next, getObj, setObj, Sem.run_bind, Sem.run, hb, Result.andThen, h, if_true, decode_ascii s pos h ha]
  simp [goInt, Sem.run, itSet, hb]
theorem run_next_no {w : World} {b : Nat} {s : ByteArray} {pos : Nat} (hb : w.heap[b]? = some (.stringIter s pos)) (ty : TypeId) (h : ¬ pos < s.size) :
    (Instr.next (.pointer (some ⟨b, 0, none⟩)) true ty).run Try.prog w = .ok (.tuple #[.bool false]) w := by
  simp [Instr.next, getObj, Sem.run, hb, h]
theorem itSet_grown (w : World) (b : Nat) (s : ByteArray) (p : Nat) : w.grownBy (itSet w b s p) (some b) :=
  ⟨rfl, rfl, rfl, by simp [itSet], fun k hk hne => by
    show (w.heap.setIfInBounds b _)[k]? = _
    rw [Array.getElem?_setIfInBounds_ne (fun e => hne (by rw [e]))]⟩
theorem itSet_at {w : World} {b : Nat} {s : ByteArray} {p q : Nat} (hb : w.heap[b]? = some (.stringIter s p)) : (itSet w b s q).heap[b]? = some (.stringIter s q) := by
  show (w.heap.setIfInBounds b _)[b]? = _
  rw [Array.getElem?_setIfInBounds_self, if_pos (lt_of_block hb)]
theorem Try.info2 : (Try.prog.info? 2).map (fun i => (i.zero, i.size, i.bytes)) = some (some (.int .i64 0), 1, 8) := by kernel_rfl
theorem one_cell {w : World} {b : Nat} {x : Value} {t : TypeId} (h : w.heap[b]? = some (.cells #[x] t (0, 0))) : ∀ j u, [x][j]? = some u → w.cell? (Addr.add ⟨b, 0, none⟩ j) = some u := by
  intro j u hj
  match j, hj with
  | 0, hj => simp at hj; subst hj; simp [Addr.add]; exact cell_blk h rfl
theorem ownsRow_mono {w : World} {b b' : Nat} {e : TypeId} {sz : Nat} {v : Value} {n : Nat} {xs : List Value} (h : w.ownsRow b e sz v n xs) (hb : b' ≤ b) : w.ownsRow b' e sz v n xs := by
  obtain ⟨h1, h2⟩ := h
  refine ⟨h1, ?_⟩
  rcases h2 with h2 | ⟨g, cap, cur, hv, hg, r⟩
  · exact .inl h2
  · exact .inr ⟨g, cap, cur, hv, by omega, r⟩
abbrev abcd : ByteArray := ⟨#[97, 98, 99, 100]⟩
theorem abcd_lt : ∀ (k : Nat) (h : k < abcd.size), (abcd[k]'h).toNat < 128
  | 0, _ => by show (97 : UInt8).toNat < 128; decide
  | 1, _ => by show (98 : UInt8).toNat < 128; decide
  | 2, _ => by show (99 : UInt8).toNat < 128; decide
  | 3, _ => by show (100 : UInt8).toNat < 128; decide
  | k + 4, h => absurd h (by show ¬ k + 4 < 4; omega)
def vals (L : List Nat) : List Value := L.map fun x => Value.int .i64 (x : Nat)
theorem vars_impl (s : ByteArray) (w : World) (hf : isFm s = true) : Calls Try.prog 15 #[.string s] w fun e w' => ∃ v, e = .returned (.tuple #[v, .int .i64 0]) ∧ w'.ownsRow w.heap.size 2 1 v (vL s 4).length (vals (vL s 4)) ∧ (vL s 4 = [] → v = .slice none 0 0) ∧ Below w.heap.size w w' := by
  obtain ⟨i0, hi, hz0, hz1, hz2⟩ := info_parts Try.info2
  go_enter Try.func15, Try.ntmps15
  go_wp2_with (first
    | (go_at_call 26; refine (isfm_any s _).mono ?_; rintro e w1 ⟨rfl, hg⟩; rw [hf])
    | fail)
  have hs1 := hg.size
  go_loopw [4] (fun v wr => ∃ k : Nat, k ≤ 4 ∧ wr.heap[w1.heap.size]? = some (.stringIter abcd k) ∧ wr.ownsRow (w1.heap.size + 1) 2 1 v (vL s k).length (vals (vL s k)) ∧ (vL s k = [] → v = .slice none 0 0) ∧ Below w.heap.size w wr ∧ w1.heap.size + 1 ≤ wr.heap.size) (fun _ wr => 4 - wr.iterPos w1.heap.size)
  case atStart => exact ⟨0, by omega, w1.iter_heap abcd 0, World.ownsRow_nil _ _ _ _, fun _ => rfl, (((Below.refl _ _).grown hg (Nat.le_refl _) (fun k hk => by cases hk)).alloc hs1 _), by simp [World.iter]⟩
  case round =>
    obtain ⟨k, hk, hit, hown, hnil, hbel, hsz⟩ := hrel
    by_cases hk4 : k < 4
    · have hx : abcd.extract k (k + 1) = ⟨#[lc k]⟩ := by
        rcases (show k = 0 ∨ k = 1 ∨ k = 2 ∨ k = 3 by omega) with rfl | rfl | rfl | rfl <;> rfl
      have hlt : k < abcd.size := hk4
      have hnx : ∀ ty, (Instr.next (.pointer (some ⟨w1.heap.size, 0, none⟩)) true ty).run Try.prog wr = .ok (.tuple #[.bool true, .int .i64 k, .int .i32 (abcd[k]'hlt).toNat]) (itSet wr w1.heap.size abcd (k + 1)) := fun ty => run_next_at hit ty hlt (abcd_lt k hlt)
      have hgi := itSet_grown wr w1.heap.size abcd (k + 1)
      have hit2 := itSet_at (q := k + 1) hit
      have hne : ∀ {W : World} {v : Value} {n : Nat} {xs : List Value}, W.ownsRow (w1.heap.size + 1) 2 1 v n xs → v.ownBlock ≠ some w1.heap.size := fun h he => by have := (own_ge h he).1; omega
      have hown2 := hown.kept hgi (.inr (hne hown))
      have hbel2 := hbel.grown hgi hbel.size (fun j hj => by cases hj; omega)
      have hsz2 : wr.heap.size ≤ (itSet wr w1.heap.size abcd (k + 1)).heap.size := hgi.size
      cases hv : vh s k
      · have hL : vL s (k + 1) = vL s k := selm_f hv
        go_wp2_with (first
          | (go_at_call 27; refine (k_has s _ _).mono ?_; rintro e w' ⟨rfl, rfl⟩; rw [show decide (0 ≤ Lib.indexByte s.data.toList (lc k)) = false from hv])
          | fail)
        go_roundw
        case rel => exact ⟨k + 1, by omega, hit2, by rw [hL]; exact hown2, by rw [hL]; exact hnil, hbel2, by omega⟩
        case measure => simp only [World.iterPos, hit2, hit]; omega
      · have hL : vL s (k + 1) = vL s k ++ [k] := selm_t hv
        have hlen : (vL s k).length ≤ 4 := Nat.le_trans (selm_len _ _ _) hk
        go_wp2_with (first
          | (go_at_call 27; refine (k_has s _ _).mono ?_; rintro e w' ⟨rfl, rfl⟩; rw [show decide (0 ≤ Lib.indexByte s.data.toList (lc k)) = true from hv])
          | (at_builtin; (refine wpList_append_own _ rfl (.tmp 19) (.tmp 21) 27 rfl (w1.heap.size + 1) 2 i0 _ 1 8 Try.underlying27 hi hz0 hz1 hz2 rfl (by decide) _ _ _ rfl (hown2.alloc _) ⟨(itSet wr w1.heap.size abcd (k + 1)).heap.size, 0, none⟩ 1 1 [.int .i64 k] rfl rfl (one_cell (blk_new _ _)) (by intro u hu; simp at hu; subst hu; rfl) (by unfold maxLen; omega) (by omega) (by simp; omega) ?_; intro v' w3 hown' hgrow _))
          | fail)
        have hit3 := blk_fr' (blk_alloc (.cells #[.int .i64 (k : Int)] 2 (0, 0)) hit2) hgrow (fun h => hne hown2 h.symm)
        have hsz3 := hgrow.size
        have hsz4 : (itSet wr w1.heap.size abcd (k + 1)).heap.size + 1 ≤ w3.heap.size := by simpa using hsz3
        go_roundw
        case rel =>
          refine ⟨k + 1, by omega, hit3, by rw [hL, List.length_append]; simpa [vals] using hown', fun h => absurd h (by rw [hL]; simp), ((hbel2.alloc (by omega) _).grown hgrow (by simp; omega) (fun j hj => by have := (own_ge hown2 hj).1; omega)), by omega⟩
        case measure => simp only [World.iterPos, hit3, hit]; omega
    · obtain rfl : k = 4 := by omega
      have hnx : ∀ ty, (Instr.next (.pointer (some ⟨w1.heap.size, 0, none⟩)) true ty).run Try.prog wr = .ok (.tuple #[.bool false]) wr := fun ty => run_next_no hit ty (by decide)
      go_wp2_with fail
      go_ret2
      exact ⟨_, rfl, ownsRow_mono hown (by omega), hnil, hbel⟩
end
section
open Go.RowKit
def plV (x : Int) : Int := if x = 97 ∨ x = 98 ∨ x = 99 ∨ x = 100 ∨ x = 48 ∨ x = 49 then 0 else if x = 33 then 1 else if x = 38 ∨ x = 124 ∨ x = 94 then 2 else if x = 63 ∨ x = 77 then 3 else -1
theorem beq_int (c k : UInt8) : (c == k) = decide ((c.toNat : Int) = (k.toNat : Int)) := by
  rw [Bool.eq_iff_iff]
  simp only [beq_iff_eq, decide_eq_true_eq]
  constructor
  · intro h; rw [h]
  · intro h; exact UInt8.toNat_inj.mp (by omega)
theorem plV_eq (c : UInt8) : plV (c.toNat : Int) = plc c := by
  unfold plV plc isV
  simp only [beq_int, Bool.or_eq_true, decide_eq_true_eq, or_assoc]
  rfl
theorem splaces_any0 (c : UInt8) (w : World) : Calls Try.prog 45 #[.int .u8 (c.toNat : Int)] w fun e w' => e = .returned (.int .i64 (plV (c.toNat : Int))) ∧ w' = w := by
  go_enter Try.func45, Try.ntmps45
  go_wp2_with fail
  all_goals
    go_ret
    refine ⟨?_, rfl⟩
    congr 1
    generalize (c.toNat : Int) = x at *
    (try simp only [beq_iff_eq, beq_eq_false_iff_ne, ne_eq] at *)
    have e : ∀ z : Int, plV x = z → Value.int .i64 z = Value.int .i64 (plV x) := fun z h => by rw [h]
    refine e _ ?_
    unfold plV
    (repeat' split) <;> omega
theorem splaces_any (c : UInt8) (w : World) : Calls Try.prog 45 #[.int .u8 (c.toNat : Int)] w fun e w' => e = .returned (.int .i64 (plc c)) ∧ w' = w := by
  rw [← plV_eq]; exact splaces_any0 c w
theorem rdK_suf : ∀ (l : List UInt8) (a : Nat) (r : List UInt8), rdK l a = some r → r = l.drop (l.length - r.length)
  | l, 0, r, h => by
    have : l = r := by cases l <;> simpa [rdK] using h
    subst this; simp
  | [], a + 1, r, h => by simp [rdK] at h
  | c :: l, a + 1, r, h => by
    rw [rdK] at h
    split at h
    · simp at h
    · have h1 := rdK_suf l _ r h
      have h2 := rdK_len l _ r h
      rw [List.length_cons, show l.length + 1 - r.length = (l.length - r.length) + 1 by omega, List.drop_succ_cons]
      exact h1
def enK (s : ByteArray) : Option (List UInt8) → Int
  | none => -1
  | some r => ((s.size - r.length : Nat) : Int)
theorem end_any (s : ByteArray) (hs : s.size ≤ 60) : ∀ (n a : Nat) (w : World), s.size - a ≤ n → a ≤ s.size → Calls Try.prog 35 #[.string s, .int .i64 a] w fun e w' => e = .returned (.int .i64 (enK s (rdK (s.data.toList.drop a) 1))) ∧ w' = w := by
  intro n
  induction n with
  | zero =>
    intro a w h1 h2
    have h3 : s.size ≤ a := by omega
    rw [show rdK (s.data.toList.drop a) 1 = none by rw [List.drop_eq_nil_of_le (by rw [← bsz_v]; omega)]; rfl]
    go_enter Try.func35, Try.ntmps35
    go_wp2_with fail
    go_ret
    exact ⟨rfl, rfl⟩
  | succ n ih =>
    intro a w h1 h2
    by_cases h3 : s.size ≤ a
    · rw [show rdK (s.data.toList.drop a) 1 = none by rw [List.drop_eq_nil_of_le (by rw [← bsz_v]; omega)]; rfl]
      go_enter Try.func35, Try.ntmps35
      go_wp2_with fail
      go_ret
      exact ⟨rfl, rfl⟩
    · have hlt : a < s.size := by omega
      have hd : s.data.toList.drop a = s[a] :: s.data.toList.drop (a + 1) := by
        rw [List.drop_eq_getElem_cons (by rw [← bsz_v]; omega)]; rfl
      rw [hd, rdK]
      by_cases hp : plc s[a] < 0
      · rw [if_pos hp]
        go_enter Try.func35, Try.ntmps35
        go_wp2_with (first
          | (go_at_call 45; refine (splaces_any _ _).mono ?_; rintro e w' ⟨rfl, rfl⟩)
          | fail)
        go_ret
        exact ⟨rfl, rfl⟩
      · rw [if_neg hp, Nat.add_zero]
        obtain ⟨P, hP⟩ := Int.eq_ofNat_of_zero_le (show 0 ≤ plc s[a] by omega)
        have hP3 : P ≤ 3 := by have := plc_le s[a]; omega
        go_enter Try.func35, Try.ntmps35
        go_wp2_with (first
          | (go_at_call 45; refine (splaces_any _ _).mono ?_; rintro e w' ⟨rfl, rfl⟩)
          | fail)
        have hPt : (plc s[a]).toNat = P := by omega
        go_loopw [1, 5] (fun v i wr => ∃ q m : Nat, v = .int .i64 q ∧ i = .int .i64 m ∧ m ≤ P ∧ q ≤ s.size ∧ a + 1 ≤ q ∧ rdK (s.data.toList.drop (a + 1)) P = rdK (s.data.toList.drop q) m ∧ wr = w') (fun _ i _ => (intOf i).toNat)
        case atStart => exact ⟨a + 1, P, by go_num, rfl, Nat.le_refl _, by omega, by omega, rfl, rfl⟩
        case round =>
          obtain ⟨q, m, rfl, rfl, hm, hq, haq, hrd, rfl⟩ := hrel
          cases m with
          | zero =>
            go_wp2_with fail
            go_ret
            refine ⟨?_, rfl⟩
            rw [hPt, show P + 0 = P from rfl, hrd]
            show Ending.returned (.int .i64 q) = _
            rw [show rdK (s.data.toList.drop q) 0 = some (s.data.toList.drop q) by cases s.data.toList.drop q <;> rfl]
            show _ = Ending.returned (.int .i64 ((s.size - (s.data.toList.drop q).length : Nat) : Int))
            rw [List.length_drop, ← bsz_v, show s.size - (s.size - q) = q by omega]
          | succ m =>
            rw [show m + 1 = 1 + m by omega, rdK_add] at hrd
            cases hr : rdK (s.data.toList.drop q) 1 with
            | none =>
              go_wp2_with (first
                | (go_at_call 35; refine (ih q _ (by omega) hq).mono ?_; rw [hr, show enK s none = -1 from rfl]; rintro e w' ⟨rfl, rfl⟩)
                | fail)
              go_ret
              refine ⟨?_, rfl⟩
              rw [hPt, show P + 0 = P from rfl, hrd, hr]
              rfl
            | some r =>
              obtain ⟨q', hq'⟩ : ∃ q', q' = s.size - r.length := ⟨_, rfl⟩
              have he : enK s (some r) = ((q' : Nat) : Int) := by rw [hq']; rfl
              have hr1 := rdK_len _ _ _ hr
              have hr2 := rdK_suf _ _ _ hr
              rw [hr] at hrd
              rw [List.length_drop, ← bsz_v] at hr1 hr2
              rw [List.drop_drop, show q + (s.size - q - r.length) = q' by omega] at hr2
              have hq1 : q' ≤ s.size := by omega
              have hq2 : q < q' := by omega
              have hq3 : rdK (s.data.toList.drop (a + 1)) P = rdK (s.data.toList.drop q') m := by rw [hrd, ← hr2]; rfl
              clear hr2 hq' hrd
              go_wp2_with (first
                | (go_at_call 35; refine (ih q _ (by omega) hq).mono ?_; rw [hr, he]; rintro e w' ⟨rfl, rfl⟩)
                | fail)
              go_roundw
              case rel => exact ⟨q', m, rfl, by go_num, by omega, hq1, by omega, hq3, by first | rfl | trivial⟩
              case measure => simp [intOf]; (try omega)
def l05B (s : ByteArray) : Bool := if 1 ≤ s.size ∧ s.size ≤ 60 then (enK s (rdK s.data.toList 1) == (s.size : Int)) else false
theorem sis_any (s : ByteArray) (w : World) : Calls Try.prog 25 #[.string s] w fun e w' => e = .returned (.bool (l05B s)) ∧ w' = w := by
  by_cases h : 1 ≤ s.size ∧ s.size ≤ 60
  · rw [show l05B s = (enK s (rdK s.data.toList 1) == (s.size : Int)) from if_pos h]
    obtain ⟨h1, h2⟩ := h
    go_enter Try.func25, Try.ntmps25
    go_wp2_with (first
      | (go_at_call 35; refine (end_any s h2 _ 0 _ (Nat.le_refl _) (Nat.zero_le _)).mono ?_; rw [List.drop_zero]; rintro e w' ⟨rfl, rfl⟩)
      | fail)
    all_goals
      go_ret
      exact ⟨rfl, rfl⟩
  · rw [show l05B s = false from if_neg h]
    go_enter Try.func25, Try.ntmps25
    go_wp2_with fail
    all_goals
      go_ret
      exact ⟨rfl, rfl⟩
end
section
open Go.RowKit
theorem fm_eq (s : ByteArray) : l05B s = isFm s := by
  unfold l05B isFm rdS
  have hz := bsz_v s
  by_cases h : 60 < s.size
  · rw [if_pos h, if_neg (by omega)]
  · rw [if_neg h]
    cases hr : rdK s.data.toList 1 with
    | none =>
      by_cases h1 : 1 ≤ s.size ∧ s.size ≤ 60
      · rw [if_pos h1]
        show ((-1 : Int) == (s.size : Int)) = false
        simp only [beq_eq_false_iff_ne, ne_eq]; omega
      · rw [if_neg h1]; rfl
    | some r =>
      have h1 := rdK_len _ _ _ hr
      rw [if_pos (by omega)]
      show (((s.size - r.length : Nat) : Int) == (s.size : Int)) = (⟨r.toArray⟩ : ByteArray).toList.isEmpty
      rw [Lib.toList_data]
      show _ = r.isEmpty
      cases r with
      | nil => simp
      | cons x xs => simp only [List.isEmpty_cons, beq_eq_false_iff_ne, ne_eq]; simp only [List.length_cons] at *; omega
theorem ib_any (c : UInt8) : ∀ l : List UInt8, -1 ≤ Lib.indexByte l c ∧ decide (0 ≤ Lib.indexByte l c) = l.any (fun x => x == c)
  | [] => ⟨Int.le_refl _, rfl⟩
  | b :: l => by
    obtain ⟨h1, h2⟩ := ib_any c l
    rw [Lib.indexByte, List.any_cons, ← h2]
    by_cases hb : (b == c) = true
    · rw [if_pos hb, hb]; simp
    · rw [if_neg hb]
      rw [Bool.eq_false_iff.mpr hb, Bool.false_or]
      by_cases h3 : (Lib.indexByte l c == -1) = true
      · rw [if_pos h3]
        have : Lib.indexByte l c = -1 := by simpa using h3
        rw [this]; decide
      · rw [if_neg h3]
        have : Lib.indexByte l c ≠ -1 := by simpa using h3
        refine ⟨by omega, ?_⟩
        rw [decide_eq_true (show (0 : Int) ≤ Lib.indexByte l c by omega), decide_eq_true (by omega)]
def vt (s : ByteArray) (k j : Nat) : Bool := (s.data.toList.take k).any (fun x => x == lc j)
theorem vt_s {s : ByteArray} {k : Nat} (h : k < s.size) (j : Nat) : vt s (k + 1) j = (vt s k j || s[k] == lc j) := by
  unfold vt
  rw [List.take_succ_eq_append_getElem (by rw [← bsz_v]; exact h), List.any_append]
  simp only [List.any_cons, List.any_nil, Bool.or_false]
  rfl
theorem vt_all (s : ByteArray) (j : Nat) : vt s s.size j = vh s j := by
  unfold vt vh
  rw [List.take_of_length_le (by rw [← bsz_v]; exact Nat.le_refl _)]
  exact ((ib_any (lc j) s.data.toList).2).symm
def mets (f : Nat → Bool) : Obj := .cells #[.bool (f 0), .bool (f 1), .bool (f 2), .bool (f 3)] 4 (0, 0)
theorem lc_lo {c : UInt8} (h : (c.toNat : Int) < 97) {j : Nat} (hj : j < 4) : (c == lc j) = false := by
  simp only [beq_eq_false_iff_ne, ne_eq]
  intro e; subst e
  rcases (show j = 0 ∨ j = 1 ∨ j = 2 ∨ j = 3 by omega) with rfl | rfl | rfl | rfl <;> revert h <;> decide
theorem lc_hi {c : UInt8} (h : 100 < (c.toNat : Int)) {j : Nat} (hj : j < 4) : (c == lc j) = false := by
  simp only [beq_eq_false_iff_ne, ne_eq]
  intro e; subst e
  rcases (show j = 0 ∨ j = 1 ∨ j = 2 ∨ j = 3 by omega) with rfl | rfl | rfl | rfl <;> revert h <;> decide
theorem mets_s {s : ByteArray} {k : Nat} (h : k < s.size) : mets (vt s (k + 1)) = .cells #[.bool (vt s k 0 || s[k] == 97), .bool (vt s k 1 || s[k] == 98), .bool (vt s k 2 || s[k] == 99), .bool (vt s k 3 || s[k] == 100)] 4 (0, 0) := by
  unfold mets
  rw [vt_s h, vt_s h, vt_s h, vt_s h]; rfl
theorem mk4 (w : World) : (Instr.makeSlice 46 (.int .i64 4) (.int .i64 4)).run Try.prog w = .ok (.slice (some ⟨w.heap.size, 0, none⟩) 4 4) (w.alloc (mets fun _ => false)) := by
  obtain ⟨i0, hi, hz0, hz1, hz2⟩ := info_parts (show (Try.prog.info? 4).map (fun i => (i.zero, i.size, i.bytes)) = some (some (.bool false), 1, 1) by kernel_rfl)
  rw [run_make w 46 4 i0 (.bool false) Try.underlying46 hi hz0 .i64 .i64 4 4 (by omega) (by omega) (by rw [hz2]; omega) (by omega), hz1, show madeCells (Value.bool false).cells (Int.toNat 4 * 1) = #[.bool false, .bool false, .bool false, .bool false] by kernel_rfl]
  rfl
theorem four_set {w : World} {b : Nat} {x0 x1 x2 x3 u : Value} {t : TypeId} (h : w.heap[b]? = some (.cells #[x0, x1, x2, x3] t (0, 0))) :
    (w.setCell ⟨b, 0, none⟩ u).heap[b]? = some (.cells #[u, x1, x2, x3] t (0, 0)) ∧ (w.setCell ⟨b, 1, none⟩ u).heap[b]? = some (.cells #[x0, u, x2, x3] t (0, 0)) ∧ (w.setCell ⟨b, 2, none⟩ u).heap[b]? = some (.cells #[x0, x1, u, x3] t (0, 0)) ∧ (w.setCell ⟨b, 3, none⟩ u).heap[b]? = some (.cells #[x0, x1, x2, u] t (0, 0)) := by
  have hlt := lt_of_block h
  have h' : w.heap[b] = .cells #[x0, x1, x2, x3] t (0, 0) := by simpa [Array.getElem?_eq_getElem hlt] using h
  refine ⟨?_, ?_, ?_, ?_⟩
  all_goals
    show (w.heap.modify b _)[b]? = _
    rw [Array.getElem?_eq_getElem (by simpa using hlt), Array.getElem_modify_self, h']
    rfl
theorem u8_4 {c : UInt8} (h1 : 97 ≤ (c.toNat : Int)) (h2 : (c.toNat : Int) ≤ 100) : c = 97 ∨ c = 98 ∨ c = 99 ∨ c = 100 := by
  have e : ∀ k : UInt8, c.toNat = k.toNat → c = k := fun k h => UInt8.toNat_inj.mp h
  rcases (show c.toNat = 97 ∨ c.toNat = 98 ∨ c.toNat = 99 ∨ c.toNat = 100 by omega) with h | h | h | h
  · exact .inl (e 97 h)
  · exact .inr (.inl (e 98 h))
  · exact .inr (.inr (.inl (e 99 h)))
  · exact .inr (.inr (.inr (e 100 h)))
theorem vars_spec (s : ByteArray) (w : World) (hf : l05B s = true) : Calls Try.prog 14 #[.string s] w fun e w' => ∃ v, e = .returned (.tuple #[v, .int .i64 0]) ∧ w'.ownsRow w.heap.size 2 1 v (vL s 4).length (vals (vL s 4)) ∧ (vL s 4 = [] → ∃ a, v = .slice (some a) 0 0) ∧ Below w.heap.size w w' := by
  have hs60 : s.size ≤ 60 := by
    unfold l05B at hf; split at hf
    · omega
    · simp at hf
  obtain ⟨i0, hi, hz0, hz1, hz2⟩ := info_parts Try.info2
  have hmk := mk4
  go_enter Try.func14, Try.ntmps14
  go_wp2_with (first
    | (go_at_call 25; refine (sis_any s _).mono ?_; rintro e w1 ⟨rfl, rfl⟩; rw [hf])
    | fail)
  go_loopw [6] (fun i wr => ∃ k : Nat, i = .int .i64 k ∧ k ≤ s.size ∧ wr.heap[w1.heap.size]? = some (mets (vt s k)) ∧ wr.heap[w1.heap.size + 1]? = some (.cells #[] 2 (0, 0)) ∧ Below w1.heap.size w1 wr ∧ wr.heap.size = w1.heap.size + 2) (fun i _ => s.size - (intOf i).toNat)
  case atStart =>
    refine ⟨0, rfl, Nat.zero_le _, ?_, ?_, ((Below.refl _ _).alloc (Nat.le_refl _) _).alloc (by simp) _, by simp⟩
    · exact blk_alloc _ (blk_new w1 _)
    · have := blk_new (w1.alloc (mets fun _ => false)) (.cells #[] 2 (0, 0))
      simpa using this
  case round =>
    obtain ⟨k, rfl, hk, hM, hE, hbel, hsz⟩ := hrel
    by_cases hks : k < s.size
    · have hno : ∀ (h : ∀ j, j < 4 → (s[k] == lc j) = false), mets (vt s (k + 1)) = mets (vt s k) := fun h => by
        unfold mets; rw [vt_s hks, vt_s hks, vt_s hks, vt_s hks, h 0 (by omega), h 1 (by omega), h 2 (by omega), h 3 (by omega)]
        simp only [Bool.or_false]
      by_cases hlo : (s[k].toNat : Int) < 97
      · go_wp2_with fail
        go_roundw
        case rel => exact ⟨k + 1, by go_num, by omega, by rw [hno fun j hj => lc_lo hlo hj]; exact hM, hE, hbel, hsz⟩
        case measure => simp [intOf]; omega
      · by_cases hhi : 100 < (s[k].toNat : Int)
        · go_wp2_with fail
          go_roundw
          case rel => exact ⟨k + 1, by go_num, by omega, by rw [hno fun j hj => lc_hi hhi hj]; exact hM, hE, hbel, hsz⟩
          case measure => simp [intOf]; omega
        · have f0 := free_blk 0 hM; have f1 := free_blk 1 hM; have f2 := free_blk 2 hM; have f3 := free_blk 3 hM
          have c0 := cell_blk (i := 0) (v := .bool (vt s k 0)) hM rfl; have c1 := cell_blk (i := 1) (v := .bool (vt s k 1)) hM rfl; have c2 := cell_blk (i := 2) (v := .bool (vt s k 2)) hM rfl; have c3 := cell_blk (i := 3) (v := .bool (vt s k 3)) hM rfl
          have hst := four_set (u := .bool true) hM
          have hE2 : ∀ o u, (wr.setCell ⟨w1.heap.size, o, none⟩ u).heap[w1.heap.size + 1]? = some (.cells #[] 2 (0, 0)) := fun o u => blk_set u hE (by simp)
          have hb2 : ∀ o u, Below w1.heap.size w1 (wr.setCell ⟨w1.heap.size, o, none⟩ u) := fun o u => hbel.setCell (by simp) u
          have hz2' : ∀ o u, (wr.setCell ⟨w1.heap.size, o, none⟩ u).heap.size = w1.heap.size + 2 := fun o u => by rw [set_size]; exact hsz
          rcases (show s[k] = 97 ∨ s[k] = 98 ∨ s[k] = 99 ∨ s[k] = 100 from u8_4 (by omega) (by omega)) with hc | hc | hc | hc
          all_goals
            have hm := mets_s hks; rw [hc] at hm
            simp only [show ((97 : UInt8) == 98) = false from rfl, show ((97 : UInt8) == 99) = false from rfl, show ((97 : UInt8) == 100) = false from rfl, show ((98 : UInt8) == 97) = false from rfl, show ((98 : UInt8) == 99) = false from rfl, show ((98 : UInt8) == 100) = false from rfl, show ((99 : UInt8) == 97) = false from rfl, show ((99 : UInt8) == 98) = false from rfl, show ((99 : UInt8) == 100) = false from rfl, show ((100 : UInt8) == 97) = false from rfl, show ((100 : UInt8) == 98) = false from rfl, show ((100 : UInt8) == 99) = false from rfl, beq_self_eq_true, Bool.or_false, Bool.or_true] at hm
            go_wp2_with fail
            go_roundw
            case rel => exact ⟨k + 1, by go_num, by omega, by rw [hm]; first | exact hst.1 | exact hst.2.1 | exact hst.2.2.1 | exact hst.2.2.2, hE2 _ _, hb2 _ _, hz2' _ _⟩
            case measure => simp [intOf]; omega
    · obtain rfl : k = s.size := by omega
      go_wp2_with fail
      have hv : mets (vt s s.size) = mets (vh s) := by unfold mets; rw [vt_all, vt_all, vt_all, vt_all]
      rw [hv] at hM
      obtain ⟨w0, rfl⟩ : ∃ w0 : World, w0 = wr := ⟨_, rfl⟩
      go_loopw [5, 7] (fun v i wr => ∃ k : Nat, i = .int .i64 k ∧ k ≤ 4 ∧ wr.heap[w1.heap.size]? = some (mets (vh s)) ∧ wr.ownsRow (w1.heap.size + 1) 2 1 v (vL s k).length (vals (vL s k)) ∧ (vL s k = [] → v = .slice (some ⟨w1.heap.size + 1, 0, none⟩) 0 0) ∧ Below w1.heap.size w1 wr ∧ w1.heap.size + 2 ≤ wr.heap.size) (fun _ i _ => 4 - (intOf i).toNat)
      case atStart =>
        refine ⟨0, rfl, by omega, hM, ⟨rfl, .inr ⟨w1.heap.size + 1, 0, #[], rfl, Nat.le_refl _, hE, Nat.le_refl _, Nat.zero_le _, rfl, rfl⟩⟩, fun _ => rfl, hbel, by omega⟩
      case round =>
        obtain ⟨k, rfl, hk, hM, hown, hnil, hbel, hsz⟩ := hrel
        by_cases hk4 : k < 4
        · have hck : wr.cell? ⟨w1.heap.size, k, none⟩ = some (.bool (vh s k)) := by
            rcases (show k = 0 ∨ k = 1 ∨ k = 2 ∨ k = 3 by omega) with rfl | rfl | rfl | rfl <;> exact cell_blk hM rfl
          cases hv : vh s k
          · have hL : vL s (k + 1) = vL s k := selm_f hv
            rw [hv] at hck
            go_wp2_with fail
            go_roundw
            case rel => exact ⟨k + 1, by go_num, by omega, hM, by rw [hL]; exact hown, by rw [hL]; exact hnil, hbel, by omega⟩
            case measure => simp [intOf]; omega
          · have hL : vL s (k + 1) = vL s k ++ [k] := selm_t hv
            rw [hv] at hck
            have hlen : (vL s k).length ≤ 4 := Nat.le_trans (selm_len _ _ _) hk
            go_wp2_with (first
              | (at_builtin; refine wpList_append_own _ rfl (.tmp 43) (.tmp 45) 27 rfl (w1.heap.size + 1) 2 i0 _ 1 8 Try.underlying27 hi hz0 hz1 hz2 rfl (by decide) _ _ _ rfl (hown.alloc _) ⟨wr.heap.size, 0, none⟩ 1 1 [.int .i64 k] rfl rfl (one_cell (blk_new _ _)) (by intro u hu; simp at hu; subst hu; rfl) (by unfold maxLen; omega) (by omega) (by simp; omega) ?_; intro v' w3 hown' hgrow _)
              | fail)
            have hM3 := blk_fr' (blk_alloc (.cells #[.int .i64 (k : Int)] 2 (0, 0)) hM) hgrow (fun h => by have := (own_ge hown h.symm).1; omega)
            have hsz3 := hgrow.size
            have hsz4 : wr.heap.size + 1 ≤ w3.heap.size := by simpa using hsz3
            go_roundw
            case rel =>
              exact ⟨k + 1, by go_num, by omega, hM3, by rw [hL, List.length_append]; simpa [vals] using hown', fun h => absurd h (by rw [hL]; simp), ((hbel.alloc (by omega) _).grown hgrow (by simp; omega) (fun j hj => by have := (own_ge hown hj).1; omega)), by omega⟩
            case measure => simp [intOf]; omega
        · obtain rfl : k = 4 := by omega
          go_wp2_with fail
          go_ret2
          exact ⟨_, rfl, ownsRow_mono hown (by omega), fun h => ⟨_, hnil h⟩, hbel⟩
end

theorem ep_slen {C : Cx} {e : Env} {h : Heap} {P : V → Heap → List Ans → Prop} {x : X} {s : ByteArray} (hx : x.ev e = some (.str s)) (k : ∃ A, P (.int .i64 s.size) h A) : ∃ A, opK (Ev C) (.slen x) e h A P := by
  obtain ⟨A, k⟩ := k
  exact ⟨A, by simp only [opK, hx]; exact k⟩
theorem ints_ids : ∀ L : List Nat, V.idsL (ints L) = []
  | [] => rfl
  | x :: xs => by
    show V.idsL (.int .i64 (x : Nat) :: ints xs) = []
    simp only [V.idsL, V.ids, List.nil_append]
    exact ints_ids xs
theorem vals_ints {L : List Nat} {cur : Array Value} (h : cur.toList.take L.length = vals L) {m : Mp} {ρ : Nat → Nat} : ∀ (j : Nat) (v : V), (ints L)[j]? = some v → ∃ u, cur[j]? = some u ∧ VR ρ m v u := by
  intro j v hv
  have hj : j < L.length := by
    have := (List.getElem?_eq_some_iff.mp hv).1
    rwa [ints_len, Nat.mul_one] at this
  have e : (cur.toList.take L.length)[j]? = (vals L)[j]? := by rw [h]
  rw [List.getElem?_take, if_pos hj] at e
  have e2 : v = .int .i64 (L.getD j 0 : Nat) := by
    have := ints_get (l := L) (j := j) hj
    rw [show 0 + j * 1 = j by omega] at this
    rw [this] at hv; exact (Option.some.inj hv).symm
  subst e2
  refine ⟨.int .i64 (L.getD j 0 : Nat), ?_, by simp only [VR]⟩
  rw [← Array.getElem?_toList, e]
  simp [vals, List.getElem?_map, List.getD_eq_getElem?_getD, List.getElem?_eq_getElem hj]
/-- A function that returns a list of numbers of its own making, and a code. -/
theorem Ev.ofRow {C : Cx} {f : Nat} {args : List V} {vs : List Value} {x : Int} {L : List Nat} {e0 : TypeId} {z : V}
    (hf : ∃ fn, C.P.funcs[C.ρ f]? = some fn ∧ (fn.name == "runtime.NumGoroutine") = false ∧ fn.body.isNone = false)
    (hv : ∀ (m : Mp) (us : List Value), VRL C.ρ m args us → us = vs)
    (h : ∀ W : World, Calls C.P (C.ρ f) vs.toArray W fun e w' => ∃ v, e = .returned (.tuple #[v, .int .i64 x]) ∧ w'.ownsRow W.heap.size e0 1 v L.length (vals L) ∧ (L = [] → ∀ m : Mp, VR C.ρ m z v) ∧ RowKit.Below W.heap.size W w')
    (hzi : L = [] → z.ids = []) : Ev C f args [] (.tup [slV z 0 L, .int .i64 x]) (slH 0 1 ints L) := by
  refine ⟨hf, fun m W us hI hr hi => ?_⟩
  obtain rfl := hv m us hr
  refine (h W).mono fun e w' he => ?_
  obtain ⟨v, rfl, hown, hnil, hb⟩ := he
  cases L with
  | nil =>
    refine ⟨_, m, rfl, ?_, by simp [V.ids, V.idsL, slV, hzi rfl], ?_, ?_, fun i _ => ⟨rfl, rfl, rfl⟩, Nat.le_refl _, fun i b _ hb => absurd hb (by simp [slH]), fun i b b' hb => absurd hb (by simp)⟩
    · simp only [VR, VRL]
      exact ⟨_, rfl, v, _, rfl, hnil rfl m, _, _, rfl, rfl, rfl⟩
    · exact ⟨fun i b hi => absurd hi (by simp [slH]), fun i hi => absurd hi (by simp [slH]), fun i j bi bj hi => absurd hi (by simp [slH]), fun i b p hi => absurd hi (by simp [slH]), fun i b hi => absurd hi (by simp [slH]), fun i b hi => absurd hi (by simp [slH]), fun r hr o => .inl (Nat.le_trans hb.size hr),
        fun i b hi => absurd hi (by simp [slH]), fun i b hi => absurd hi (by simp [slH])⟩
    · exact ⟨hb.os, hb.tape, hb.output, hb.size, fun r hr => .inl (hb.block r hr).symm⟩
  | cons y ys =>
    generalize hL : y :: ys = L at *
    have hLne : L ≠ [] := by rw [← hL]; simp
    have eV : slV z 0 L = .sl 0 0 L.length := by rw [← hL]; rfl
    have eH : slH 0 1 ints L = [⟨ints L, 1, 0, some 0, false⟩] := by rw [← hL]; rfl
    rw [eV, eH]
    obtain ⟨_, h2⟩ := hown
    rcases h2 with ⟨_, h2⟩ | ⟨g, cap, cur, rfl, hg, hh, hc1, hc2, hc3, hc4⟩
    · exact absurd (List.eq_nil_of_length_eq_zero h2) hLne
    · rw [Nat.mul_one] at hc3 hc4
      have one : ∀ (i : Nat) (b : Blk), i < 1 → [(⟨ints L, 1, 0, some 0, false⟩ : Blk)][i]? = some b → i = 0 ∧ b = ⟨ints L, 1, 0, some 0, false⟩ := fun i b hi hb => by
        obtain rfl : i = 0 := by omega
        simp at hb; exact ⟨rfl, hb.symm⟩
      have hatom : (ints L).all V.atom = true := by simp [ints, V.atom]
      refine ⟨_, ⟨fun _ => g, fun _ => cur.size, fun _ => 1⟩, rfl, ?_, ?_, ?_, ?_, fun i hi => absurd hi (by simp), by simp, ?_, fun i b b' hb => absurd hb (by simp)⟩
      · simp only [VR, VRL]
        exact ⟨_, rfl, _, _, rfl, .inl ⟨cap, rfl, hc1, by omega⟩, _, _, rfl, rfl, rfl⟩
      · intro i hi
        simp [V.ids, V.idsL] at hi
        subst hi; simp
      · refine ⟨?_, ?_, ?_, ?_, ?_, ?_, ?_, ?_, ?_⟩
        · intro i b hi hb
          obtain ⟨rfl, rfl⟩ := one i b hi hb
          exact ⟨cur, e0, (0, 0), hh, rfl, rfl, by rw [ints_len]; omega, vals_ints hc4, fun _ => rfl⟩
        · intro i hi
          obtain rfl : i = 0 := by simp at hi; omega
          exact ⟨_, rfl⟩
        · intro i j bi bj hi hj hbi hbj _
          obtain ⟨_, rfl⟩ := one i bi hi hbi
          obtain ⟨_, rfl⟩ := one j bj hj hbj
          rfl
        · intro i b p hi hb hp o ho
          exact .inl hg
        · intro i b hi hb _
          obtain ⟨rfl, rfl⟩ := one i b hi hb
          exact ints_ids L
        · intro i b hi hb j hj
          obtain ⟨rfl, rfl⟩ := one i b hi hb
          rw [ints_ids L] at hj; simp at hj
        · exact fun r hr o => .inl (Nat.le_trans hb.size hr)
        · intro i b hi hb
          obtain ⟨rfl, rfl⟩ := one i b hi hb
          simp
        · intro i b hi hb _
          obtain ⟨rfl, rfl⟩ := one i b hi hb
          exact hatom
      · exact ⟨hb.os, hb.tape, hb.output, hb.size, fun r hr => .inl (hb.block r hr).symm⟩
      · intro i b _ hb
        have hi : i < 1 := by
          have := (List.getElem?_eq_some_iff.mp hb).1; simpa using this
        obtain ⟨rfl, rfl⟩ := one i b hi hb
        rfl
-- impl.VariablesOfFormula
theorem vars_impl_no (s : ByteArray) (w : World) (h : isFm s = false) : Calls Try.prog 15 #[.string s] w fun e w' => e = .returned (.tuple #[.slice none 0 0, .int .i64 6]) ∧ RowKit.Below w.heap.size w w' := by
  go_enter Try.func15, Try.ntmps15
  go_wp2_with (first
    | (go_at_call 26; refine (isfm_any s _).mono ?_; rintro e w1 ⟨rfl, hg⟩; rw [h])
    | fail)
  go_ret2
  exact ⟨rfl, (RowKit.Below.refl _ _).grown hg (Nat.le_refl _) (fun k hk => by cases hk)⟩
theorem ev15_ok (s : ByteArray) (h : isFm s = true) : Ev cx 15 [.str s] [] (.tup [slV .nils 0 (vL s 4), .int .i64 0]) (slH 0 1 ints (vL s 4)) := by
  refine Ev.ofRow (vs := [.string s]) (e0 := 2) ⟨_, Try.func15, by kernel_rfl, by kernel_rfl⟩ ?_ (fun W => ?_) (fun _ => rfl)
  · intro m us hr
    simp only [VR, VRL] at hr
    obtain ⟨_, _, rfl, rfl, rfl⟩ := hr
    rfl
  · refine (vars_impl s W h).mono ?_
    rintro e w' ⟨v, rfl, h1, h2, h3⟩
    exact ⟨v, rfl, h1, fun hL m => by rw [h2 hL]; simp only [VR], h3⟩
theorem ev15_no (s : ByteArray) (h : isFm s = false) : Ev cx 15 [.str s] [] (.tup [.nils, .int .i64 6]) [] := by
  refine Ev.ofRow (L := []) (vs := [.string s]) (e0 := 2) ⟨_, Try.func15, by kernel_rfl, by kernel_rfl⟩ ?_ (fun W => ?_) (fun _ => rfl)
  · intro m us hr
    simp only [VR, VRL] at hr
    obtain ⟨_, _, rfl, rfl, rfl⟩ := hr
    rfl
  · refine (vars_impl_no s W h).mono ?_
    rintro e w' ⟨rfl, hb⟩
    exact ⟨_, rfl, World.ownsRow_nil _ _ _ _, fun _ m => by simp only [VR], hb⟩
-- spec.VariablesOfFormula
theorem vars_spec_no (s : ByteArray) (w : World) (h : isFm s = false) : Calls Try.prog 14 #[.string s] w fun e w' => e = .returned (.tuple #[.slice none 0 0, .int .i64 6]) ∧ RowKit.Below w.heap.size w w' := by
  have h' : l05B s = false := by rw [fm_eq]; exact h
  go_enter Try.func14, Try.ntmps14
  go_wp2_with (first
    | (go_at_call 25; refine (sis_any s _).mono ?_; rintro e w1 ⟨rfl, hg⟩; rw [h'])
    | fail)
  go_ret2
  exact ⟨rfl, by subst hg; exact RowKit.Below.refl _ _⟩
theorem ev14_ok (s : ByteArray) (h : isFm s = true) : Ev cx 14 [.str s] [] (.tup [slV .emp 0 (vL s 4), .int .i64 0]) (slH 0 1 ints (vL s 4)) := by
  refine Ev.ofRow (vs := [.string s]) (e0 := 2) ⟨_, Try.func14, by kernel_rfl, by kernel_rfl⟩ ?_ (fun W => ?_) (fun _ => rfl)
  · intro m us hr
    simp only [VR, VRL] at hr
    obtain ⟨_, _, rfl, rfl, rfl⟩ := hr
    rfl
  · refine (vars_spec s W (by rw [fm_eq]; exact h)).mono ?_
    rintro e w' ⟨v, rfl, h1, h2, h3⟩
    exact ⟨v, rfl, h1, fun hL m => by obtain ⟨a, ha⟩ := h2 hL; simp only [VR]; exact ⟨a, ha⟩, h3⟩
theorem ev14_no (s : ByteArray) (h : isFm s = false) : Ev cx 14 [.str s] [] (.tup [.nils, .int .i64 6]) [] := by
  have h' : l05B s = false := by rw [fm_eq]; exact h
  refine Ev.ofRow (L := []) (vs := [.string s]) (e0 := 2) ⟨_, Try.func14, by kernel_rfl, by kernel_rfl⟩ ?_ (fun W => ?_) (fun _ => rfl)
  · intro m us hr
    simp only [VR, VRL] at hr
    obtain ⟨_, _, rfl, rfl, rfl⟩ := hr
    rfl
  · refine (vars_spec_no s W h).mono ?_
    rintro e w' ⟨rfl, hb⟩
    exact ⟨_, rfl, World.ownsRow_nil _ _ _ _, fun _ m => by simp only [VR], hb⟩
-- laws.FnExactVariablesOfFormula
def m5 : MC := (.seq (.region [⟨(.mov (.k (.bool false))), (some 2), none⟩] false) (.seq (.seq (.region [⟨(.mov (.t 0)), (some 11), none⟩, ⟨(.slen (.t 11)), (some 12), none⟩, ⟨(.bin .gtr (.t 12) (.k (.int .i64 1048576))), (some 13), none⟩] false) (.cond (.t 13) (.seq (.region [⟨(.mov (.k (.bool true))), (some 2), none⟩] false) .ret) .skip)) (.seq (.region [⟨(.mov (.t 0)), (some 15), none⟩, ⟨(.call 14 [(.t 15)]), (some 16), none⟩, ⟨(.mov (.t 16)), (some 14), none⟩, ⟨(.extract (.t 14) 0), (some 17), none⟩, ⟨(.extract (.t 14) 1), (some 18), none⟩, ⟨(.mov (.t 17)), (some 3), none⟩, ⟨(.mov (.t 18)), (some 4), none⟩] false) (.seq (.region [⟨(.mov (.t 0)), (some 20), none⟩, ⟨(.call 15 [(.t 20)]), (some 21), none⟩, ⟨(.mov (.t 21)), (some 19), none⟩, ⟨(.extract (.t 19) 0), (some 22), none⟩, ⟨(.extract (.t 19) 1), (some 23), none⟩, ⟨(.mov (.t 22)), (some 5), none⟩, ⟨(.mov (.t 23)), (some 6), none⟩] false) (.seq (.seq (.region [⟨(.mov (.t 5)), (some 24), none⟩, ⟨(.mov (.t 3)), (some 25), none⟩, ⟨(.call 11 [(.t 24), (.t 25)]), (some 26), none⟩, ⟨(.un .not (.t 26)), (some 27), none⟩, ⟨(.mov (.t 27)), (some 28), none⟩, ⟨(.mov (.t 6)), (some 29), (some (28, false))⟩, ⟨(.mov (.t 4)), (some 30), (some (28, false))⟩, ⟨(.bin .neq (.t 29) (.t 30)), (some 31), (some (28, false))⟩, ⟨(.pick (.t 28) (.k (.bool true)) (.t 31)), (some 32), none⟩] false) (.cond (.t 32) (.seq (.region [⟨(.mov (.k (.bool false))), (some 2), none⟩] false) .ret) .skip)) (.seq (.region [⟨(.mov (.k (.int .i64 1))), (some 7), none⟩] false) (.seq (.region [⟨(.mov (.t 5)), (some 33), none⟩, ⟨(.mov (.t 7)), (some 34), none⟩, ⟨(.call 12 [(.t 33), (.t 34)]), (some 35), none⟩, ⟨(.mov (.t 35)), (some 7), none⟩] false) (.seq (.region [⟨(.mov (.k (.int .i64 1))), (some 8), none⟩] false) (.seq (.region [⟨(.mov (.t 5)), (some 36), none⟩, ⟨(.mov (.t 8)), (some 37), none⟩, ⟨(.call 13 [(.t 36), (.t 37)]), (some 38), none⟩, ⟨(.mov (.t 38)), (some 8), none⟩] false) (.seq (.seq (.region [⟨(.mov (.t 8)), (some 39), none⟩, ⟨(.bin .lss (.t 39) (.k (.int .i64 0))), (some 40), none⟩] false) (.cond (.t 40) (.seq (.region [⟨(.mov (.k (.bool false))), (some 2), none⟩] false) .ret) .skip)) (.seq (.seq (.region [⟨(.mov (.t 8)), (some 41), none⟩, ⟨(.mov (.t 7)), (some 42), none⟩, ⟨(.bin .neq (.t 41) (.t 42)), (some 43), none⟩] false) (.cond (.t 43) (.seq (.region [⟨(.mov (.k (.bool false))), (some 2), none⟩] false) .ret) .skip)) (.seq (.region [⟨(.mov (.t 0)), (some 45), none⟩, ⟨(.call 15 [(.t 45)]), (some 46), none⟩, ⟨(.mov (.t 46)), (some 44), none⟩, ⟨(.extract (.t 44) 0), (some 47), none⟩, ⟨(.extract (.t 44) 1), (some 48), none⟩, ⟨(.mov (.t 47)), (some 9), none⟩, ⟨(.mov (.t 48)), (some 10), none⟩] false) (.seq (.seq (.region [⟨(.mov (.t 9)), (some 49), none⟩, ⟨(.mov (.t 3)), (some 50), none⟩, ⟨(.call 11 [(.t 49), (.t 50)]), (some 51), none⟩, ⟨(.un .not (.t 51)), (some 52), none⟩, ⟨(.mov (.t 52)), (some 53), none⟩, ⟨(.mov (.t 10)), (some 54), (some (53, false))⟩, ⟨(.mov (.t 4)), (some 55), (some (53, false))⟩, ⟨(.bin .neq (.t 54) (.t 55)), (some 56), (some (53, false))⟩, ⟨(.pick (.t 53) (.k (.bool true)) (.t 56)), (some 57), none⟩] false) (.cond (.t 57) (.seq (.region [⟨(.mov (.k (.bool false))), (some 2), none⟩] false) .ret) .skip)) (.seq (.region [⟨(.mov (.k (.int .i64 1))), (some 8), none⟩] false) (.seq (.region [⟨(.mov (.t 5)), (some 58), none⟩, ⟨(.mov (.t 8)), (some 59), none⟩, ⟨(.call 13 [(.t 58), (.t 59)]), (some 60), none⟩, ⟨(.mov (.t 60)), (some 8), none⟩] false) (.seq (.seq (.region [⟨(.mov (.t 8)), (some 61), none⟩, ⟨(.bin .lss (.t 61) (.k (.int .i64 0))), (some 62), none⟩] false) (.cond (.t 62) (.seq (.region [⟨(.mov (.k (.bool false))), (some 2), none⟩] false) .ret) .skip)) (.seq (.seq (.region [⟨(.mov (.t 8)), (some 63), none⟩, ⟨(.mov (.t 7)), (some 64), none⟩, ⟨(.bin .neq (.t 63) (.t 64)), (some 65), none⟩] false) (.cond (.t 65) (.seq (.region [⟨(.mov (.k (.bool false))), (some 2), none⟩] false) .ret) .skip)) (.seq (.region [⟨(.mov (.k (.bool true))), (some 2), none⟩] false) .ret))))))))))))))))))
theorem has5 : Has cx 5 66 m5 [(.tmp 2)] :=
  ⟨⟨Try.f5, Try.f5.body.getD .skip, by kernel_rfl, by kernel_rfl, by kernel_rfl, by kernel_rfl, by kernel_rfl, by kernel_rfl⟩⟩
theorem ev5 (s : ByteArray) : Ev cx 5 [.str s] [] (.bool true) [] := by
  by_cases hs : s.size > 1048576
  · have q0 : decide (((s.size : Nat) : Int) > 1048576) = true := decide_eq_true (by omega)
    refine has5.eev rfl rfl ?_
    unfold m5
    repeat' (first
      | refine ep_slen rfl ?_
      | (refine g_op ?_; first
        | refine ep_mov rfl ?_
        | refine ep_bin rfl rfl (by first | exact b_lss | exact b_gtr | exact b_neq) ?_ | refine ep_pickT rfl rfl ?_ | refine ep_pickF rfl rfl ?_ | refine ep_pickTH rfl (by assumption) rfl ?_ | refine ep_pickFH rfl (by assumption) rfl ?_
        | refine ep_extract rfl rfl ?_ | refine ep_not rfl ?_)
      | (refine g_ops ?_; first | refine eo_none ?_ | refine eo_nil ?_ | refine eo_yes rfl ?_ | refine eo_no rfl ?_ | refine eo_und rfl ?_ | refine eo_yesH rfl (by assumption) ?_ | refine eo_noH rfl (by assumption) ?_)
      | (refine g_code ?_; first | refine ec_seq ?_ | refine ec_region ?_ | refine ec_skip ?_ | refine ec_ret ?_ | refine ec_condT rfl ?_ | refine ec_condF rfl ?_ | refine ec_condTH rfl (by assumption) ?_ | refine ec_condFH rfl (by assumption) ?_)
      | refine ek_seqN ?_ | refine ek_seqR ?_)
    refine sfin (.inr rfl) (by rfl) (by rfl) (by exact ⟨rfl, rfl, rfl⟩) (by rfl) (by rfl) (by rfl) (by first | rfl | (simp; done) | (simp [ints, prs]; done))
  have q0 : decide (((s.size : Nat) : Int) > 1048576) = false := decide_eq_false (by omega)
  cases hf : isFm s
  · refine has5.eev rfl rfl ?_
    unfold m5
    repeat' (first
      | refine ep_slen rfl ?_
      | (refine g_op ?_; first
        | refine ep_mov rfl ?_
        | refine ep_call0 rfl (by first | exact ev14_no s hf | exact ev15_no s hf | exact ev11_nils_nils | exact ev12_nils | exact ev13_nils) rfl rfl ?_
        | refine sp_call rfl rfl rfl rfl (by first | exact ev14_no s hf | exact ev15_no s hf | exact ev11_nils_nils | exact ev12_nils | exact ev13_nils) ⟨rfl, rfl, rfl, rfl⟩ rfl rfl rfl ?_
        | refine ep_bin rfl rfl (by first | exact b_lss | exact b_gtr | exact b_neq) ?_ | refine ep_pickT rfl rfl ?_ | refine ep_pickF rfl rfl ?_ | refine ep_pickTH rfl (by assumption) rfl ?_ | refine ep_pickFH rfl (by assumption) rfl ?_
        | refine ep_extract rfl rfl ?_ | refine ep_not rfl ?_)
      | (refine g_ops ?_; first | refine eo_none ?_ | refine eo_nil ?_ | refine eo_yes rfl ?_ | refine eo_no rfl ?_ | refine eo_und rfl ?_ | refine eo_yesH rfl (by assumption) ?_ | refine eo_noH rfl (by assumption) ?_)
      | (refine g_code ?_; first | refine ec_seq ?_ | refine ec_region ?_ | refine ec_skip ?_ | refine ec_ret ?_ | refine ec_condT rfl ?_ | refine ec_condF rfl ?_ | refine ec_condTH rfl (by assumption) ?_ | refine ec_condFH rfl (by assumption) ?_)
      | refine ek_seqN ?_ | refine ek_seqR ?_)
    refine sfin (.inr rfl) (by rfl) (by rfl) (by exact ⟨rfl, rfl, rfl⟩) (by rfl) (by rfl) (by rfl) (by first | rfl | (simp; done) | (simp [ints, prs]; done))
  have e1 := ev14_ok s hf
  have e2 := ev15_ok s hf
  have hl : (vL s 4).length ≤ 4 := selm_len _ _ _
  cases hL : vL s 4 with
  | nil =>
    rw [hL] at e1 e2
    refine has5.eev rfl rfl ?_
    unfold m5
    repeat' (first
      | refine ep_slen rfl ?_
      | (refine g_op ?_; first
        | refine ep_mov rfl ?_
        | refine ep_call0 rfl (by first | exact e1 | exact e2 | exact ev11_nils_emp | exact ev12_nils | exact ev13_nils) rfl rfl ?_
        | refine sp_call rfl rfl rfl rfl (by first | exact e1 | exact e2 | exact ev11_nils_emp | exact ev12_nils | exact ev13_nils) ⟨rfl, rfl, rfl, rfl⟩ rfl rfl rfl ?_
        | refine ep_bin rfl rfl (by first | exact b_lss | exact b_gtr | exact b_neq) ?_ | refine ep_pickT rfl rfl ?_ | refine ep_pickF rfl rfl ?_ | refine ep_pickTH rfl (by assumption) rfl ?_ | refine ep_pickFH rfl (by assumption) rfl ?_
        | refine ep_extract rfl rfl ?_ | refine ep_not rfl ?_)
      | (refine g_ops ?_; first | refine eo_none ?_ | refine eo_nil ?_ | refine eo_yes rfl ?_ | refine eo_no rfl ?_ | refine eo_und rfl ?_ | refine eo_yesH rfl (by assumption) ?_ | refine eo_noH rfl (by assumption) ?_)
      | (refine g_code ?_; first | refine ec_seq ?_ | refine ec_region ?_ | refine ec_skip ?_ | refine ec_ret ?_ | refine ec_condT rfl ?_ | refine ec_condF rfl ?_ | refine ec_condTH rfl (by assumption) ?_ | refine ec_condFH rfl (by assumption) ?_)
      | refine ek_seqN ?_ | refine ek_seqR ?_)
    refine sfin (.inr rfl) (by rfl) (by rfl) (by exact ⟨rfl, rfl, rfl⟩) (by rfl) (by rfl) (by rfl) (by first | rfl | (simp; done) | (simp [ints, prs]; done))
  | cons x xs =>
    rw [hL] at e1 e2 hl
    have e3 := ev11 (x :: xs).length (ints (x :: xs)) (ints (x :: xs)) (fun j => (((x :: xs).getD j 0 : Nat) : Int)) (some 0) (some 0) (by omega) (fun j hj => ints_get hj) (fun j hj => ints_get hj)
    have e4 := ev12 (x :: xs).length (ints (x :: xs)) (by omega) (ints_len _)
    have e5 := ev13 (x :: xs).length (ints (x :: xs)) (by omega)
    have q2 : ((((x :: xs).length + 1 : Nat) : Int) != ((x :: xs).length + 1 : Nat)) = false := by simp
    have q1 : decide ((((x :: xs).length + 1 : Nat) : Int) < 0) = false := decide_eq_false (by omega)
    refine has5.eev rfl rfl ?_
    unfold m5
    repeat' (first
      | refine ep_slen rfl ?_
      | (refine g_op ?_; first
        | refine ep_mov rfl ?_
        | refine ep_call0 rfl (by first | exact e1 | exact e2 | exact e3 | exact e4 | exact e5) rfl rfl ?_
        | refine sp_call rfl rfl rfl rfl (by first | exact e1 | exact e2 | exact e3 | exact e4 | exact e5) ⟨rfl, rfl, rfl, rfl⟩ rfl rfl rfl ?_
        | refine ep_bin rfl rfl (by first | exact b_lss | exact b_gtr | exact b_neq) ?_ | refine ep_pickT rfl rfl ?_ | refine ep_pickF rfl rfl ?_ | refine ep_pickTH rfl (by assumption) rfl ?_ | refine ep_pickFH rfl (by assumption) rfl ?_
        | refine ep_extract rfl rfl ?_ | refine ep_not rfl ?_)
      | (refine g_ops ?_; first | refine eo_none ?_ | refine eo_nil ?_ | refine eo_yes rfl ?_ | refine eo_no rfl ?_ | refine eo_und rfl ?_ | refine eo_yesH rfl (by assumption) ?_ | refine eo_noH rfl (by assumption) ?_)
      | (refine g_code ?_; first | refine ec_seq ?_ | refine ec_region ?_ | refine ec_skip ?_ | refine ec_ret ?_ | refine ec_condT rfl ?_ | refine ec_condF rfl ?_ | refine ec_condTH rfl (by assumption) ?_ | refine ec_condFH rfl (by assumption) ?_)
      | refine ek_seqN ?_ | refine ek_seqR ?_)
    refine sfin (.inr rfl) (by rfl) (by rfl) (by exact ⟨rfl, rfl, rfl⟩) (by rfl) (by rfl) (by rfl) (by first | rfl | (simp; done) | (simp [ints, prs]; done))


end Go.Proofs.Ytcchdnnpccelbaa
