/- What each function that the statement reaches returns. -/
import Derived.Test.YtadmbjneagdfdabMiD
import Derived.Test.YtadmbjneagdfdabChecked
import Derived.KernelRfl
set_option linter.unusedVariables false
set_option linter.unusedSimpArgs false
set_option maxRecDepth 100000
set_option maxHeartbeats 4000000
namespace Go.Proofs.Ytadmbjneagdfdab
open Go Go.Proofs.Ytadmbjneagdfdab.Mi
noncomputable def cx : Cx := ⟨Try.prog, id, id, by kernel_rfl⟩
attribute [local irreducible] code opsK opsDK gopK opK seqK blockK callK binV
def R2 (n : Nat) : Nat := 2 ^ n
theorem shR (n : Nat) : 1 <<< n = R2 n := by simp [R2, Nat.shiftLeft_eq]
theorem shN {n : Nat} (h : n ≤ 4) : R2 n ≤ 16 ∧ R2 (R2 n) ≤ 65536 ∧ 1 ≤ R2 n ∧ 1 ≤ R2 (R2 n) := by
  have : n = 0 ∨ n = 1 ∨ n = 2 ∨ n = 3 ∨ n = 4 := by omega
  rcases this with rfl | rfl | rfl | rfl | rfl <;> decide
theorem b_shl1 {k' : IntKind} {y : Nat} (h : R2 y < 9223372036854775808) (hy : y ≤ 64) : binV .shl (.int .i64 1) (.int k' y) = some (.int .i64 (R2 y : Nat)) := by
  rw [← shR]; exact b_shl (x := 1) (by rw [shR]; exact h) hy
attribute [local irreducible] R2
def isRel (p t : Int) : Bool := decide (1 ≤ p ∧ p ≤ 4) && decide (0 ≤ t ∧ t ≤ (R2 (R2 p.toNat) : Nat) - 1)
def isFn (p t : Int) : Bool := decide (0 ≤ p ∧ p ≤ 4) && decide (0 ≤ t ∧ t ≤ (R2 (R2 p.toNat) : Nat) - 1)
-- impl.within
def m34 : MC := (.seq (.region [⟨(.mov (.k (.bool false))), (some 6), none⟩] false) (.seq (.region [⟨(.mov (.t 0)), (some 7), none⟩, ⟨(.mov (.t 1)), (some 8), none⟩, ⟨(.bin .geq (.t 7) (.t 8)), (some 9), none⟩, ⟨(.mov (.t 9)), (some 10), none⟩, ⟨(.mov (.t 0)), (some 11), (some (10, true))⟩, ⟨(.mov (.t 2)), (some 12), (some (10, true))⟩, ⟨(.bin .leq (.t 11) (.t 12)), (some 13), (some (10, true))⟩, ⟨(.pick (.t 10) (.t 13) (.k (.bool false))), (some 14), none⟩, ⟨(.mov (.t 14)), (some 6), none⟩] false) .ret))
theorem has34 : Has cx 34 15 m34 [(.tmp 6)] :=
  ⟨⟨Try.f34, Try.f34.body.getD .skip, by kernel_rfl, by kernel_rfl, by kernel_rfl, by kernel_rfl, by kernel_rfl, by kernel_rfl⟩⟩
theorem ev34 (z lo hi : Int) : Ev cx 34 [.int .i64 z, .int .i64 lo, .int .i64 hi] [] (.bool (decide (lo ≤ z ∧ z ≤ hi))) [] := by
  by_cases h1 : lo ≤ z
  · have h2 : decide (z ≥ lo) = true := decide_eq_true h1
    refine has34.eev rfl rfl ?_
    unfold m34
    repeat' (first
      | (refine g_op ?_; first
        | refine ep_mov rfl ?_
        | refine ep_bin rfl rfl (by first | exact b_add (by omega) (by omega) | exact b_sub (by omega) (by omega) | exact b_and (by omega) (by omega) | exact b_or (by omega) (by omega) | exact b_shr (by omega) | exact b_shl (by omega) (by omega) | exact b_lss | exact b_leq | exact b_gtr | exact b_geq | exact b_eql | exact b_neq) ?_
        | refine ep_pickT rfl rfl ?_ | refine ep_pickF rfl rfl ?_ | refine ep_pickTH rfl (by assumption) rfl ?_ | refine ep_pickFH rfl (by assumption) rfl ?_)
      | (refine g_ops ?_; first | refine eo_none ?_ | refine eo_nil ?_ | refine eo_yes rfl ?_ | refine eo_no rfl ?_ | refine eo_und rfl ?_ | refine eo_yesH rfl (by assumption) ?_ | refine eo_noH rfl (by assumption) ?_)
      | (refine g_code ?_; first | refine ec_seq ?_ | refine ec_region ?_ | refine ec_ret ?_)
      | refine ek_seqN ?_ | refine ek_seqR ?_)
    refine sfin (.inr rfl) (by rfl) (by rfl) (by exact ⟨rfl, rfl, rfl⟩) (by rfl) (by rfl) (by exact congrArg V.bool (by simp [h1])) (by first | rfl | (simp; done) | (simp [ints, prs]; done))
  · have h2 : decide (z ≥ lo) = false := decide_eq_false h1
    refine has34.eev rfl rfl ?_
    unfold m34
    repeat' (first
      | (refine g_op ?_; first
        | refine ep_mov rfl ?_
        | refine ep_bin rfl rfl (by first | exact b_add (by omega) (by omega) | exact b_sub (by omega) (by omega) | exact b_and (by omega) (by omega) | exact b_or (by omega) (by omega) | exact b_shr (by omega) | exact b_shl (by omega) (by omega) | exact b_lss | exact b_leq | exact b_gtr | exact b_geq | exact b_eql | exact b_neq) ?_
        | refine ep_pickT rfl rfl ?_ | refine ep_pickF rfl rfl ?_ | refine ep_pickTH rfl (by assumption) rfl ?_ | refine ep_pickFH rfl (by assumption) rfl ?_)
      | (refine g_ops ?_; first | refine eo_none ?_ | refine eo_nil ?_ | refine eo_yes rfl ?_ | refine eo_no rfl ?_ | refine eo_und rfl ?_ | refine eo_yesH rfl (by assumption) ?_ | refine eo_noH rfl (by assumption) ?_)
      | (refine g_code ?_; first | refine ec_seq ?_ | refine ec_region ?_ | refine ec_ret ?_)
      | refine ek_seqN ?_ | refine ek_seqR ?_)
    refine sfin (.inr rfl) (by rfl) (by rfl) (by exact ⟨rfl, rfl, rfl⟩) (by rfl) (by rfl) (by exact congrArg V.bool (by simp [h1])) (by first | rfl | (simp; done) | (simp [ints, prs]; done))
-- spec.l01In
def m31 : MC := (.seq (.region [⟨(.mov (.k (.bool false))), (some 6), none⟩] false) (.seq (.region [⟨(.mov (.t 0)), (some 7), none⟩, ⟨(.mov (.t 1)), (some 8), none⟩, ⟨(.bin .geq (.t 7) (.t 8)), (some 9), none⟩, ⟨(.mov (.t 9)), (some 10), none⟩, ⟨(.mov (.t 0)), (some 11), (some (10, true))⟩, ⟨(.mov (.t 2)), (some 12), (some (10, true))⟩, ⟨(.bin .leq (.t 11) (.t 12)), (some 13), (some (10, true))⟩, ⟨(.pick (.t 10) (.t 13) (.k (.bool false))), (some 14), none⟩, ⟨(.mov (.t 14)), (some 6), none⟩] false) .ret))
theorem has31 : Has cx 31 15 m31 [(.tmp 6)] :=
  ⟨⟨Try.f31, Try.f31.body.getD .skip, by kernel_rfl, by kernel_rfl, by kernel_rfl, by kernel_rfl, by kernel_rfl, by kernel_rfl⟩⟩
theorem ev31 (z lo hi : Int) : Ev cx 31 [.int .i64 z, .int .i64 lo, .int .i64 hi] [] (.bool (decide (lo ≤ z ∧ z ≤ hi))) [] := by
  by_cases h1 : lo ≤ z
  · have h2 : decide (z ≥ lo) = true := decide_eq_true h1
    refine has31.eev rfl rfl ?_
    unfold m31
    repeat' (first
      | (refine g_op ?_; first
        | refine ep_mov rfl ?_
        | refine ep_bin rfl rfl (by first | exact b_add (by omega) (by omega) | exact b_sub (by omega) (by omega) | exact b_and (by omega) (by omega) | exact b_or (by omega) (by omega) | exact b_shr (by omega) | exact b_shl (by omega) (by omega) | exact b_lss | exact b_leq | exact b_gtr | exact b_geq | exact b_eql | exact b_neq) ?_
        | refine ep_pickT rfl rfl ?_ | refine ep_pickF rfl rfl ?_ | refine ep_pickTH rfl (by assumption) rfl ?_ | refine ep_pickFH rfl (by assumption) rfl ?_)
      | (refine g_ops ?_; first | refine eo_none ?_ | refine eo_nil ?_ | refine eo_yes rfl ?_ | refine eo_no rfl ?_ | refine eo_und rfl ?_ | refine eo_yesH rfl (by assumption) ?_ | refine eo_noH rfl (by assumption) ?_)
      | (refine g_code ?_; first | refine ec_seq ?_ | refine ec_region ?_ | refine ec_ret ?_)
      | refine ek_seqN ?_ | refine ek_seqR ?_)
    refine sfin (.inr rfl) (by rfl) (by rfl) (by exact ⟨rfl, rfl, rfl⟩) (by rfl) (by rfl) (by exact congrArg V.bool (by simp [h1])) (by first | rfl | (simp; done) | (simp [ints, prs]; done))
  · have h2 : decide (z ≥ lo) = false := decide_eq_false h1
    refine has31.eev rfl rfl ?_
    unfold m31
    repeat' (first
      | (refine g_op ?_; first
        | refine ep_mov rfl ?_
        | refine ep_bin rfl rfl (by first | exact b_add (by omega) (by omega) | exact b_sub (by omega) (by omega) | exact b_and (by omega) (by omega) | exact b_or (by omega) (by omega) | exact b_shr (by omega) | exact b_shl (by omega) (by omega) | exact b_lss | exact b_leq | exact b_gtr | exact b_geq | exact b_eql | exact b_neq) ?_
        | refine ep_pickT rfl rfl ?_ | refine ep_pickF rfl rfl ?_ | refine ep_pickTH rfl (by assumption) rfl ?_ | refine ep_pickFH rfl (by assumption) rfl ?_)
      | (refine g_ops ?_; first | refine eo_none ?_ | refine eo_nil ?_ | refine eo_yes rfl ?_ | refine eo_no rfl ?_ | refine eo_und rfl ?_ | refine eo_yesH rfl (by assumption) ?_ | refine eo_noH rfl (by assumption) ?_)
      | (refine g_code ?_; first | refine ec_seq ?_ | refine ec_region ?_ | refine ec_ret ?_)
      | refine ek_seqN ?_ | refine ek_seqR ?_)
    refine sfin (.inr rfl) (by rfl) (by rfl) (by exact ⟨rfl, rfl, rfl⟩) (by rfl) (by rfl) (by exact congrArg V.bool (by simp [h1])) (by first | rfl | (simp; done) | (simp [ints, prs]; done))
-- impl.rowsOf
def m44 : MC := (.seq (.region [⟨(.mov (.k (.int .i64 0))), (some 2), none⟩] false) (.seq (.region [⟨(.mov (.t 0)), (some 3), none⟩, ⟨(.bin .shl (.k (.int .i64 1)) (.t 3)), (some 4), none⟩, ⟨(.mov (.t 4)), (some 2), none⟩] false) .ret))
theorem has44 : Has cx 44 5 m44 [(.tmp 2)] :=
  ⟨⟨Try.f44, Try.f44.body.getD .skip, by kernel_rfl, by kernel_rfl, by kernel_rfl, by kernel_rfl, by kernel_rfl, by kernel_rfl⟩⟩
theorem ev44 (n : Nat) (h : n ≤ 4) : Ev cx 44 [.int .i64 n] [] (.int .i64 (R2 n : Nat)) [] := by
  obtain ⟨h1, h2, h3, h4⟩ := shN h
  refine has44.eev rfl rfl ?_
  unfold m44
  repeat' (first
    | (refine g_op ?_; first
      | refine ep_mov rfl ?_
      | refine ep_bin rfl rfl (by first | exact b_shl1 (by omega) (by omega) | exact b_add (by omega) (by omega) | exact b_sub (by omega) (by omega) | exact b_and (by omega) (by omega) | exact b_or (by omega) (by omega) | exact b_shr (by omega) | exact b_shl (by omega) (by omega) | exact b_lss | exact b_leq | exact b_gtr | exact b_geq | exact b_eql | exact b_neq) ?_)
    | (refine g_ops ?_; first | refine eo_none ?_ | refine eo_nil ?_)
    | (refine g_code ?_; first | refine ec_seq ?_ | refine ec_region ?_ | refine ec_ret ?_)
    | refine ek_seqN ?_ | refine ek_seqR ?_)
  refine sfin (.inr rfl) (by rfl) (by rfl) (by exact ⟨rfl, rfl, rfl⟩) (by rfl) (by rfl) (by rfl) (by first | rfl | (simp; done) | (simp [ints, prs]; done))
-- spec.l01Rows
def m39 : MC := (.seq (.region [⟨(.mov (.k (.int .i64 0))), (some 2), none⟩] false) (.seq (.region [⟨(.mov (.t 0)), (some 3), none⟩, ⟨(.conv .u64 (.t 3)), (some 4), none⟩, ⟨(.bin .shl (.k (.int .i64 1)) (.t 4)), (some 5), none⟩, ⟨(.mov (.t 5)), (some 2), none⟩] false) .ret))
theorem has39 : Has cx 39 6 m39 [(.tmp 2)] :=
  ⟨⟨Try.f39, Try.f39.body.getD .skip, by kernel_rfl, by kernel_rfl, by kernel_rfl, by kernel_rfl, by kernel_rfl, by kernel_rfl⟩⟩
theorem ev39 (n : Nat) (h : n ≤ 4) : Ev cx 39 [.int .i64 n] [] (.int .i64 (R2 n : Nat)) [] := by
  obtain ⟨h1, h2, h3, h4⟩ := shN h
  refine has39.eev rfl rfl ?_
  unfold m39
  repeat' (first
    | (refine g_op ?_; first
      | refine ep_mov rfl ?_
      | refine ep_bin rfl rfl (by first | exact b_shl1 (by omega) (by omega) | exact b_add (by omega) (by omega) | exact b_sub (by omega) (by omega) | exact b_and (by omega) (by omega) | exact b_or (by omega) (by omega) | exact b_shr (by omega) | exact b_shl (by omega) (by omega) | exact b_lss | exact b_leq | exact b_gtr | exact b_geq | exact b_eql | exact b_neq) ?_
      | refine ep_conv rfl (by first | exact w_u64 (by omega) (by omega) | exact wrap_id (by omega) (by omega) | rfl) ?_)
    | (refine g_ops ?_; first | refine eo_none ?_ | refine eo_nil ?_)
    | (refine g_code ?_; first | refine ec_seq ?_ | refine ec_region ?_ | refine ec_ret ?_)
    | refine ek_seqN ?_ | refine ek_seqR ?_)
  refine sfin (.inr rfl) (by rfl) (by rfl) (by exact ⟨rfl, rfl, rfl⟩) (by rfl) (by rfl) (by rfl) (by first | rfl | (simp; done) | (simp [ints, prs]; done))
-- impl.isArity
def m41 : MC := (.seq (.region [⟨(.mov (.k (.bool false))), (some 2), none⟩] false) (.seq (.region [⟨(.mov (.t 0)), (some 3), none⟩, ⟨(.call 34 [(.t 3), (.k (.int .i64 0)), (.k (.int .i64 4))]), (some 4), none⟩, ⟨(.mov (.t 4)), (some 2), none⟩] false) .ret))
theorem has41 : Has cx 41 5 m41 [(.tmp 2)] :=
  ⟨⟨Try.f41, Try.f41.body.getD .skip, by kernel_rfl, by kernel_rfl, by kernel_rfl, by kernel_rfl, by kernel_rfl, by kernel_rfl⟩⟩
theorem ev41 (z : Int) : Ev cx 41 [.int .i64 z] [] (.bool (decide (0 ≤ z ∧ z ≤ 4))) [] := by
  refine has41.eev rfl rfl ?_
  unfold m41
  repeat' (first
    | (refine g_op ?_; first
      | refine ep_mov rfl ?_
      | refine ep_call0 rfl (by first | exact ev34 _ _ _) rfl rfl ?_
      | refine sp_call rfl rfl rfl rfl (by first | exact ev34 _ _ _) ⟨rfl, rfl, rfl, rfl⟩ rfl rfl rfl ?_)
    | (refine g_ops ?_; first | refine eo_none ?_ | refine eo_nil ?_)
    | (refine g_code ?_; first | refine ec_seq ?_ | refine ec_region ?_ | refine ec_ret ?_)
    | refine ek_seqN ?_ | refine ek_seqR ?_)
  refine sfin (.inr rfl) (by rfl) (by rfl) (by exact ⟨rfl, rfl, rfl⟩) (by rfl) (by rfl) (by rfl) (by first | rfl | (simp; done) | (simp [ints, prs]; done))
structure RR where
  a : Int
  b : Int
  c : Int
abbrev rr (x : RR) : V := .tup [.agg [.int .i64 x.a, .int .i64 x.b], .int .i64 x.c]
theorem isRel_nat {p t : Int} (h : isRel p t = true) : ∃ n b : Nat, p = n ∧ t = b ∧ 1 ≤ n ∧ n ≤ 4 ∧ b < R2 (R2 n) ∧ b < 65536 := by
  simp only [isRel, Bool.and_eq_true, decide_eq_true_eq] at h
  obtain ⟨⟨h1, h2⟩, h3, h4⟩ := h
  obtain ⟨n, rfl⟩ := Int.eq_ofNat_of_zero_le (show 0 ≤ p by omega)
  obtain ⟨b, rfl⟩ := Int.eq_ofNat_of_zero_le h3
  simp only [Int.toNat_natCast] at h4
  obtain ⟨_, q, _⟩ := shN (n := n) (by omega)
  exact ⟨n, b, rfl, rfl, by omega, by omega, by omega, by omega⟩
theorem isFn_nat {p t : Int} (h : isFn p t = true) : ∃ n b : Nat, p = n ∧ t = b ∧ n ≤ 4 ∧ b < R2 (R2 n) ∧ b < 65536 := by
  simp only [isFn, Bool.and_eq_true, decide_eq_true_eq] at h
  obtain ⟨⟨h1, h2⟩, h3, h4⟩ := h
  obtain ⟨n, rfl⟩ := Int.eq_ofNat_of_zero_le (show 0 ≤ p by omega)
  obtain ⟨b, rfl⟩ := Int.eq_ofNat_of_zero_le h3
  simp only [Int.toNat_natCast] at h4
  obtain ⟨_, q, _⟩ := shN (n := n) (by omega)
  exact ⟨n, b, rfl, rfl, by omega, by omega, by omega⟩
def meetR (p t q s : Int) : RR := if isRel p t = true ∧ isRel q s = true then (if p = q then ⟨p, (t.toNat &&& s.toNat : Nat), 0⟩ else ⟨0, 0, 2⟩) else ⟨0, 0, 1⟩
def bt (b r : Nat) : Nat := (b >>> r) &&& 1
theorem bt_le (b r : Nat) : bt b r ≤ 1 := by unfold bt; exact Nat.and_le_right
theorem shr_lt {b r : Nat} (h : b < 9223372036854775808) : b >>> r < 9223372036854775808 := Nat.lt_of_le_of_lt (Nat.shiftRight_le b r) h
theorem b_bt {b r : Nat} (h : b < 9223372036854775808) : binV .and (.int .i64 (b >>> r : Nat)) (.int .i64 1) = some (.int .i64 (bt b r : Nat)) := b_and (y := 1) (shr_lt h) (by omega)
theorem R2_le {j n : Nat} (h : j < n) : 2 * R2 j ≤ R2 n := by
  unfold R2; rw [← Nat.pow_succ']; exact Nat.pow_le_pow_right (by omega) (by omega)
theorem or_lt {x y n : Nat} (hx : x < R2 n) (hy : y < R2 n) : x ||| y < R2 n := by unfold R2 at *; exact Nat.or_lt_two_pow hx hy
attribute [local irreducible] bt
def monoP (b r i : Nat) : Bool := decide (¬ (bt b r > bt b (r ||| R2 i)))
def monoB (n b : Nat) : Bool := allF (fun r => allF (monoP b r) 0 n) 0 (R2 n)
def monoR (p t : Int) : Bool × Int := if isFn p t = true then (monoB p.toNat t.toNat, 0) else (false, 1)
def strP (b i j r : Nat) : Bool := !(decide (bt r i = 0) && decide (bt r j = 0) && decide (bt b (r ||| R2 i) < bt b (r ||| R2 j)))
def strB (n b i j : Nat) : Bool := allF (strP b i j) 0 (R2 n)
theorem and_R2 (r i : Nat) : (r &&& R2 i = 0) ↔ bt r i = 0 := by
  have h2 : bt r i = 0 ↔ r.testBit i = false := by
    unfold bt
    rw [Nat.testBit_eq_decide_div_mod_eq, Nat.shiftRight_eq_div_pow, Nat.and_one_is_mod]
    simp only [decide_eq_false_iff_not]
    omega
  rw [h2]
  unfold R2
  constructor
  · intro h
    have := congrArg (fun x => x.testBit i) h
    simpa [Nat.testBit_and, Nat.testBit_two_pow_self] using this
  · intro h
    apply Nat.eq_of_testBit_eq
    intro k
    rw [Nat.testBit_and, Nat.testBit_two_pow, Nat.zero_testBit]
    by_cases e : i = k
    · subst e; simp [h]
    · simp [e]
def strR (p t i j : Int) : Bool × Int := if isFn p t = true then (if (0 ≤ i ∧ i ≤ p - 1) ∧ (0 ≤ j ∧ j ≤ p - 1) then (strB p.toNat t.toNat i.toNat j.toNat, 0) else (false, 2)) else (false, 1)
def ints (l : List Nat) : List V := l.map fun (x : Nat) => .int .i64 (x : Int)
def zints (l : List Int) : List V := l.map fun x => .int .i64 x
def prs (n : Nat) (l : List Nat) : List V := l.flatMap fun (b : Nat) => [.int .i64 n, .int .i64 b]
theorem ints_len (l : List Nat) : (ints l).length = l.length * 1 := by simp [ints]
theorem zints_len (l : List Int) : (zints l).length = l.length * 1 := by simp [zints]
theorem prs_len (n : Nat) : ∀ (l : List Nat), (prs n l).length = l.length * 2
  | [] => rfl
  | x :: xs => by have := prs_len n xs; simp [prs] at this ⊢; omega
def selm (p : Nat → Bool) (g : Nat → Nat) (n : Nat) : List Nat := ((List.range n).filter p).map g
theorem selm_t {p : Nat → Bool} {g : Nat → Nat} {i : Nat} (h : p i = true) : selm p g (i + 1) = selm p g i ++ [g i] := by
  simp [selm, List.range_succ, List.filter_append, h]
theorem selm_f {p : Nat → Bool} {g : Nat → Nat} {i : Nat} (h : p i = false) : selm p g (i + 1) = selm p g i := by
  simp [selm, List.range_succ, List.filter_append, h]
theorem selm_len (p : Nat → Bool) (g : Nat → Nat) : ∀ n, (selm p g n).length ≤ n
  | 0 => by simp [selm]
  | n + 1 => by
    have := selm_len p g n
    cases h : p n with
    | true => rw [selm_t h]; simp; omega
    | false => rw [selm_f h]; omega
theorem selm_congr {p q : Nat → Bool} {g h : Nat → Nat} : ∀ (n : Nat), (∀ i, i < n → p i = q i ∧ (p i = true → g i = h i)) → selm p g n = selm q h n
  | 0, _ => rfl
  | n + 1, hh => by
    have ih := selm_congr n fun i hi => hh i (by omega)
    obtain ⟨h1, h2⟩ := hh n (by omega)
    cases hp : p n with
    | true => rw [selm_t hp, selm_t (by rw [← h1]; exact hp), ih, h2 hp]
    | false => rw [selm_f hp, selm_f (by rw [← h1]; exact hp), ih]
def slV (z : V) (k : Nat) (l : List Nat) : V := match l with | [] => z | x :: xs => .sl k 0 (x :: xs).length
def slH (k es : Nat) (c : List Nat → List V) (l : List Nat) : List Blk := match l with | [] => [] | x :: xs => [⟨c (x :: xs), es, k, some 0, false⟩]
abbrev idn : Nat → Nat := fun i => i
def monoL (n : Nat) : List Nat := selm (monoB n) idn (R2 (R2 n))
theorem bt_tb (b r : Nat) : bt b r = (b.testBit r).toNat := by
  unfold bt
  rw [Nat.testBit, Nat.and_comm]
  have : 1 &&& b >>> r = (b >>> r) % 2 := by rw [Nat.and_comm, Nat.and_one_is_mod]
  rw [this]
  have := Nat.mod_two_eq_zero_or_one (b >>> r)
  rcases this with h | h <;> rw [h] <;> rfl
def pk (g : Nat → Nat) : Nat → Nat
  | 0 => 0
  | n + 1 => pk g n ||| (g n <<< n)
theorem pk_tb {g : Nat → Nat} : ∀ {n : Nat}, (∀ r, r < n → g r ≤ 1) → ∀ r, (pk g n).testBit r = (decide (r < n) && decide (g r = 1))
  | 0, _, r => by simp [pk]
  | n + 1, h, r => by
    rw [pk, Nat.testBit_or, pk_tb (fun r hr => h r (by omega)), Nat.testBit_shiftLeft]
    have hn := h n (by omega)
    by_cases e : r = n
    · subst e
      have : g r = 0 ∨ g r = 1 := by omega
      rcases this with h | h <;> simp [h]
    · by_cases hl : r < n
      · have : ¬ n ≤ r := by omega
        have : r < n + 1 := by omega
        simp [*]
      · have h1 : n ≤ r := by omega
        have h2 : ¬ r < n + 1 := by omega
        simp only [hl, h1, h2, decide_false, Bool.false_and, Bool.false_or, ge_iff_le, decide_true, Bool.true_and]
        exact Nat.testBit_lt_two_pow (Nat.lt_of_le_of_lt hn (Nat.one_lt_two_pow (by omega)))
theorem lt_R2 {x n : Nat} (h : ∀ r, n ≤ r → x.testBit r = false) : x < R2 n := by
  unfold R2; exact Nat.lt_pow_two_of_testBit x fun i hi => h i hi
theorem pk_lt {g : Nat → Nat} {n : Nat} (h : ∀ r, r < n → g r ≤ 1) : pk g n < R2 n := by
  refine lt_R2 fun r hr => ?_
  rw [pk_tb h]; have : ¬ r < n := by omega
  simp [this]
theorem sl_lt {x i m : Nat} (hx : x ≤ 1) (hi : i < m) : x <<< i < R2 m := by
  rw [Nat.shiftLeft_eq]; unfold R2
  have h1 : 2 ^ i < 2 ^ m := Nat.pow_lt_pow_right (by omega) hi
  have h2 : x * 2 ^ i ≤ 1 * 2 ^ i := Nat.mul_le_mul_right _ hx
  omega
theorem R2_mono {i n : Nat} (h : i ≤ n) : R2 i ≤ R2 n := by unfold R2; exact Nat.pow_le_pow_right (by omega) h
theorem tb_ge {x n r : Nat} (h : x < R2 n) (hr : n ≤ r) : x.testBit r = false := by
  unfold R2 at h
  exact Nat.testBit_lt_two_pow (Nat.lt_of_lt_of_le h (Nat.pow_le_pow_right (by omega) hr))
theorem ext_bt {x y n : Nat} (hx : x < R2 n) (hy : y < R2 n) (h : ∀ r, r < n → bt x r = bt y r) : x = y := by
  apply Nat.eq_of_testBit_eq
  intro r
  by_cases hr : r < n
  · have := h r hr
    rw [bt_tb, bt_tb] at this
    revert this; cases x.testBit r <;> cases y.testBit r <;> simp
  · rw [tb_ge hx (by omega), tb_ge hy (by omega)]
theorem bt_pk {g : Nat → Nat} {n : Nat} (h : ∀ r, r < n → g r ≤ 1) {r : Nat} (hr : r < n) : bt (pk g n) r = g r := by
  rw [bt_tb, pk_tb h]
  have := h r hr
  have : g r = 0 ∨ g r = 1 := by omega
  rcases this with h | h <;> simp [h, hr]
theorem pk_add {g : Nat → Nat} {n : Nat} (h : ∀ r, r < n → g r ≤ 1) : pk g n + (g n <<< n) = pk g (n + 1) := by
  have hl := pk_lt h
  rw [pk, Nat.or_comm, Nat.shiftLeft_eq, Nat.add_comm]
  unfold R2 at hl
  rw [Nat.mul_comm (g n), Nat.two_pow_add_eq_or_of_lt hl]
theorem pk_congr {g h : Nat → Nat} : ∀ {n : Nat}, (∀ r, r < n → g r = h r) → pk g n = pk h n
  | 0, _ => rfl
  | n + 1, hh => by rw [pk, pk, pk_congr fun r hr => hh r (by omega), hh n (by omega)]
theorem pk_self {b n : Nat} (h : b < R2 n) : pk (bt b) n = b :=
  ext_bt (pk_lt fun r _ => bt_le b r) h fun r hr => bt_pk (fun r _ => bt_le b r) hr
def bn (P : Nat → Bool) (t : Nat) : Nat := if P t then 1 else 0
theorem bn_le (P : Nat → Bool) (t : Nat) : bn P t ≤ 1 := by unfold bn; split <;> omega
/-- A set of numbers as bits. -/
def orA (h : Nat → Nat) : Nat → Nat
  | 0 => 0
  | n + 1 => orA h n ||| R2 (h n)
theorem R2_tb (a t : Nat) : (R2 a).testBit t = decide (a = t) := by unfold R2; rw [Nat.testBit_two_pow]
theorem orA_tb (h : Nat → Nat) : ∀ (n t : Nat), (orA h n).testBit t = decide (∃ r, r < n ∧ h r = t)
  | 0, t => by simp [orA]
  | n + 1, t => by
    rw [orA, Nat.testBit_or, orA_tb h n, R2_tb, ← Bool.decide_or]
    apply decide_eq_decide.mpr
    constructor
    · rintro (⟨r, h1, h2⟩ | h)
      · exact ⟨r, by omega, h2⟩
      · exact ⟨n, by omega, h⟩
    · rintro ⟨r, h1, h2⟩
      by_cases e : r = n
      · subst e; exact .inr h2
      · exact .inl ⟨r, by omega, h2⟩
theorem orA_lt {h : Nat → Nat} {n m : Nat} (hh : ∀ r, r < n → h r < m) : orA h n < R2 m := by
  refine lt_R2 fun t ht => ?_
  rw [orA_tb]; simp only [decide_eq_false_iff_not]
  rintro ⟨r, h1, h2⟩
  have := hh r h1; omega
theorem orA_eq {h : Nat → Nat} {n m : Nat} {P : Nat → Bool} (hh : ∀ r, r < n → h r < m) (hp : ∀ t, t < m → (P t = true ↔ ∃ r, r < n ∧ h r = t)) : orA h n = pk (bn P) m := by
  apply Nat.eq_of_testBit_eq
  intro t
  rw [orA_tb, pk_tb fun r _ => bn_le P r]
  by_cases ht : t < m
  · simp only [ht, decide_true, Bool.true_and]
    apply decide_eq_decide.mpr
    rw [← hp t ht]; unfold bn
    cases P t <;> simp
  · simp only [ht, decide_false, Bool.false_and, decide_eq_false_iff_not]
    rintro ⟨r, h1, h2⟩
    have := hh r h1; omega

-- impl.funcBy
def m45_0 : MC := (.seq (.region [⟨(.bin .lss (.t 11) (.t 10)), (some 12), none⟩] false) (.seq (.cond (.t 12) .skip (.exit 0)) (.seq (.block 1 (.seq (.region [⟨(.mov (.t 11)), (some 13), none⟩, ⟨(.mov (.t 13)), (some 6), none⟩] false) (.region [⟨(.fieldAddr 1 (.t 5)), (some 14), none⟩, ⟨(.load none (.t 14)), (some 15), none⟩, ⟨(.mov (.t 1)), (some 16), none⟩, ⟨(.mov (.t 6)), (some 17), none⟩, ⟨(.callv (.t 16) [(.t 17)]), (some 18), none⟩, ⟨(.mov (.t 6)), (some 19), none⟩, ⟨(.bin .shl (.t 18) (.t 19)), (some 20), none⟩, ⟨(.bin .or (.t 15) (.t 20)), (some 21), none⟩, ⟨(.fieldAddr 1 (.t 5)), (some 22), none⟩, ⟨(.store 1 (.t 22) (.t 21)), none, none⟩] true))) (.region [⟨(.bin .add (.t 11) (.k (.int .i64 1))), (some 23), none⟩, ⟨(.mov (.t 23)), (some 11), none⟩] false))))
def m45 : MC := (.seq (.region [⟨(.alloc [(.int .i64 0), (.int .i64 0)]), (some 4), none⟩] false) (.seq (.region [⟨(.mov (.t 0)), (some 7), none⟩, ⟨(.build [(.int .i64 0), (.int .i64 0)] [(0, (1, (.t 7)))]), (some 8), none⟩, ⟨(.alloc [(.int .i64 0), (.int .i64 0)]), (some 5), none⟩, ⟨(.store 2 (.t 5) (.t 8)), none, none⟩] false) (.seq (.seq (.region [⟨(.mov (.t 0)), (some 9), none⟩, ⟨(.call 44 [(.t 9)]), (some 10), none⟩, ⟨(.mov (.k (.int .i64 0))), (some 11), none⟩] false) (.block 0 (.loop m45_0))) (.seq (.region [⟨(.load (some 2) (.t 5)), (some 24), none⟩, ⟨(.store 2 (.t 4) (.t 24)), none, none⟩] false) .ret))))
theorem has45 : Has cx 45 25 m45 [(.cell 4 (some 2))] :=
  ⟨⟨Try.f45, Try.f45.body.getD .skip, by kernel_rfl, by kernel_rfl, by kernel_rfl, by kernel_rfl, by kernel_rfl, by kernel_rfl⟩⟩

def graphP (n b t : Nat) : Bool := ((bt b (t &&& (R2 n - 1)) : Nat) : Int) == ((t >>> n : Nat) : Int)
theorem and_m1 {n : Nat} (t : Nat) : t &&& (R2 n - 1) = t % R2 n := by unfold R2; exact Nat.and_two_pow_sub_one_eq_mod t n
theorem R2_pos (n : Nat) : 1 ≤ R2 n := by unfold R2; exact Nat.one_le_two_pow
def graphH (n b r : Nat) : Nat := r ||| (bt b r <<< n)
theorem graphH_eq {n b r : Nat} (hr : r < R2 n) : graphH n b r = bt b r * R2 n + r := by
  unfold graphH R2 at *
  rw [Nat.or_comm, Nat.shiftLeft_eq, Nat.mul_comm, ← Nat.two_pow_add_eq_or_of_lt hr]
theorem R2_succ (n : Nat) : R2 (n + 1) = 2 * R2 n := by unfold R2; rw [Nat.pow_succ]; omega
theorem graph_eq (n b : Nat) : orA (graphH n b) (R2 n) = pk (bn (graphP n b)) (R2 (n + 1)) := by
  refine orA_eq (fun r hr => ?_) fun t ht => ?_
  · rw [graphH_eq hr, R2_succ]
    have := bt_le b r
    have : bt b r = 0 ∨ bt b r = 1 := by omega
    rcases this with h | h <;> rw [h] <;> omega
  · have hp := R2_pos n
    have e1 : t >>> n = t / R2 n := by unfold R2; exact Nat.shiftRight_eq_div_pow t n
    simp only [graphP, and_m1, e1, beq_iff_eq, Int.natCast_inj]
    constructor
    · intro h
      refine ⟨t % R2 n, Nat.mod_lt _ hp, ?_⟩
      rw [graphH_eq (Nat.mod_lt _ hp), h, Nat.mul_comm]
      exact Nat.div_add_mod t (R2 n)
    · rintro ⟨r, hr, rfl⟩
      rw [graphH_eq hr]
      rw [Nat.mul_comm, Nat.mul_add_mod, Nat.mod_eq_of_lt hr, Nat.mul_add_div hp, Nat.div_eq_of_lt hr, Nat.add_zero]
def pop (b : Nat) : Nat → Nat
  | 0 => 0
  | n + 1 => pop b n + bt b n
def swar (b : Nat) : Nat :=
  (fun x1 : Nat => (fun x2 => (fun x3 => (fun x4 => (fun x5 => (fun x6 => x6 &&& 127) (x5 + x5 >>> 32)) (x4 + x4 >>> 16)) (x3 + x3 >>> 8)) ((x2 >>> 4 + x2) &&& 1085102592571150095)) ((x1 >>> 2 &&& 3689348814741910323) + (x1 &&& 3689348814741910323))) ((b >>> 1 &&& 6148914691236517205) + (b &&& 6148914691236517205))
theorem pop_le (b : Nat) : ∀ n, pop b n ≤ n
  | 0 => by simp [pop]
  | n + 1 => by have := pop_le b n; have := bt_le b n; simp only [pop]; omega
theorem and_le_r (x y : Nat) : x &&& y ≤ y := Nat.and_le_right
theorem and_le_l (x y : Nat) : x &&& y ≤ x := Nat.and_le_left
theorem shr_le (x y : Nat) : x >>> y ≤ x := Nat.shiftRight_le x y
-- math/bits.OnesCount64
def m80 : MC := (.seq (.region [⟨(.mov (.k (.int .i64 0))), (some 2), none⟩] false) (.seq (.region [⟨(.mov (.t 0)), (some 3), none⟩, ⟨(.bin .shr (.t 3) (.k (.int .u64 1))), (some 4), none⟩, ⟨(.bin .and (.t 4) (.k (.int .u64 6148914691236517205))), (some 5), none⟩, ⟨(.mov (.t 0)), (some 6), none⟩, ⟨(.bin .and (.t 6) (.k (.int .u64 6148914691236517205))), (some 7), none⟩, ⟨(.bin .add (.t 5) (.t 7)), (some 8), none⟩, ⟨(.mov (.t 8)), (some 0), none⟩] false) (.seq (.region [⟨(.mov (.t 0)), (some 9), none⟩, ⟨(.bin .shr (.t 9) (.k (.int .u64 2))), (some 10), none⟩, ⟨(.bin .and (.t 10) (.k (.int .u64 3689348814741910323))), (some 11), none⟩, ⟨(.mov (.t 0)), (some 12), none⟩, ⟨(.bin .and (.t 12) (.k (.int .u64 3689348814741910323))), (some 13), none⟩, ⟨(.bin .add (.t 11) (.t 13)), (some 14), none⟩, ⟨(.mov (.t 14)), (some 0), none⟩] false) (.seq (.region [⟨(.mov (.t 0)), (some 15), none⟩, ⟨(.bin .shr (.t 15) (.k (.int .u64 4))), (some 16), none⟩, ⟨(.mov (.t 0)), (some 17), none⟩, ⟨(.bin .add (.t 16) (.t 17)), (some 18), none⟩, ⟨(.bin .and (.t 18) (.k (.int .u64 1085102592571150095))), (some 19), none⟩, ⟨(.mov (.t 19)), (some 0), none⟩] false) (.seq (.region [⟨(.mov (.t 0)), (some 20), none⟩, ⟨(.mov (.t 0)), (some 21), none⟩, ⟨(.bin .shr (.t 21) (.k (.int .u64 8))), (some 22), none⟩, ⟨(.bin .add (.t 20) (.t 22)), (some 23), none⟩, ⟨(.mov (.t 23)), (some 0), none⟩] false) (.seq (.region [⟨(.mov (.t 0)), (some 24), none⟩, ⟨(.mov (.t 0)), (some 25), none⟩, ⟨(.bin .shr (.t 25) (.k (.int .u64 16))), (some 26), none⟩, ⟨(.bin .add (.t 24) (.t 26)), (some 27), none⟩, ⟨(.mov (.t 27)), (some 0), none⟩] false) (.seq (.region [⟨(.mov (.t 0)), (some 28), none⟩, ⟨(.mov (.t 0)), (some 29), none⟩, ⟨(.bin .shr (.t 29) (.k (.int .u64 32))), (some 30), none⟩, ⟨(.bin .add (.t 28) (.t 30)), (some 31), none⟩, ⟨(.mov (.t 31)), (some 0), none⟩] false) (.seq (.region [⟨(.mov (.t 0)), (some 32), none⟩, ⟨(.conv .i64 (.t 32)), (some 33), none⟩, ⟨(.bin .and (.t 33) (.k (.int .i64 127))), (some 34), none⟩, ⟨(.mov (.t 34)), (some 2), none⟩] false) .ret))))))))
theorem has80 : Has cx 80 35 m80 [(.tmp 2)] :=
  ⟨⟨Try.f80, Try.f80.body.getD .skip, by kernel_rfl, by kernel_rfl, by kernel_rfl, by kernel_rfl, by kernel_rfl, by kernel_rfl⟩⟩
theorem ev80 (b : Nat) (h : b < 65536) (hsw : swar b = pop b 16) : Ev cx 80 [.int .u64 b] [] (.int .i64 (pop b 16 : Nat)) [] := by
  rw [← hsw]
  unfold swar
  have a1 := shr_le b 1
  have a2 := and_le_l (b >>> 1) 6148914691236517205
  have a3 := and_le_l b 6148914691236517205
  generalize hx1 : (b >>> 1 &&& 6148914691236517205) + (b &&& 6148914691236517205) = x1
  have b1 := shr_le x1 2
  have b2 := and_le_l (x1 >>> 2) 3689348814741910323
  have b3 := and_le_l x1 3689348814741910323
  generalize hx2 : (x1 >>> 2 &&& 3689348814741910323) + (x1 &&& 3689348814741910323) = x2
  have c1 := shr_le x2 4
  have c2 := and_le_l (x2 >>> 4 + x2) 1085102592571150095
  generalize hx3 : (x2 >>> 4 + x2) &&& 1085102592571150095 = x3
  have d1 := shr_le x3 8
  generalize hx4 : x3 + x3 >>> 8 = x4
  have d2 := shr_le x4 16
  generalize hx5 : x4 + x4 >>> 16 = x5
  have d3 := shr_le x5 32
  generalize hx6 : x5 + x5 >>> 32 = x6
  have d4 := and_le_r x6 127
  have s1 : binV .add (.int .u64 (b >>> 1 &&& 6148914691236517205 : Nat)) (.int .u64 (b &&& 6148914691236517205 : Nat)) = some (.int .u64 (x1 : Nat)) := by rw [← hx1]; exact b_addU (by omega)
  have s2 : binV .add (.int .u64 (x1 >>> 2 &&& 3689348814741910323 : Nat)) (.int .u64 (x1 &&& 3689348814741910323 : Nat)) = some (.int .u64 (x2 : Nat)) := by rw [← hx2]; exact b_addU (by omega)
  have s3 : binV .and (.int .u64 (x2 >>> 4 + x2 : Nat)) (.int .u64 1085102592571150095) = some (.int .u64 (x3 : Nat)) := by rw [← hx3]; exact b_andU (y := 1085102592571150095) (by omega) (by omega)
  have s4 : binV .add (.int .u64 (x3 : Nat)) (.int .u64 (x3 >>> 8 : Nat)) = some (.int .u64 (x4 : Nat)) := by rw [← hx4]; exact b_addU (by omega)
  have s5 : binV .add (.int .u64 (x4 : Nat)) (.int .u64 (x4 >>> 16 : Nat)) = some (.int .u64 (x5 : Nat)) := by rw [← hx5]; exact b_addU (by omega)
  have s6 : binV .add (.int .u64 (x5 : Nat)) (.int .u64 (x5 >>> 32 : Nat)) = some (.int .u64 (x6 : Nat)) := by rw [← hx6]; exact b_addU (by omega)
  have hc : IntKind.i64.wrap (x6 : Nat) = (x6 : Nat) := wrap_id (by omega) (by omega)
  refine has80.eev rfl rfl ?_
  unfold m80
  repeat' (first
    | (refine g_op ?_; first
      | refine ep_mov rfl ?_
      | refine ep_bin rfl rfl (by first | exact s1 | exact s2 | exact s3 | exact s4 | exact s5 | exact s6 | exact b_shrU (y := 1) (by omega) | exact b_shrU (y := 2) (by omega) | exact b_shrU (y := 4) (by omega) | exact b_shrU (y := 8) (by omega) | exact b_shrU (y := 16) (by omega) | exact b_shrU (y := 32) (by omega) | exact b_andU (y := 6148914691236517205) (by omega) (by omega) | exact b_andU (y := 3689348814741910323) (by omega) (by omega) | exact b_addU (by omega) | exact b_and (y := 127) (by omega) (by omega) | exact b_add (by omega) (by omega) | exact b_sub (by omega) (by omega) | exact b_and (by omega) (by omega) | exact b_or (by omega) (by omega) | exact b_shr (by omega) | exact b_shl (by omega) (by omega) | exact b_lss | exact b_leq | exact b_gtr | exact b_geq | exact b_eql | exact b_neq) ?_
      | refine ep_conv rfl (by first | exact w_u64 (by omega) (by omega) | exact wrap_id (by omega) (by omega) | rfl) ?_)
    | (refine g_ops ?_; first | refine eo_none ?_ | refine eo_nil ?_)
    | (refine g_code ?_; first | refine ec_seq ?_ | refine ec_region ?_ | refine ec_ret ?_)
    | refine ek_seqN ?_ | refine ek_seqR ?_)
  refine sfin (.inr rfl) (by rfl) (by rfl) (by exact ⟨rfl, rfl, rfl⟩) (by rfl) (by rfl) (by (subst hx6; subst hx5; subst hx4; subst hx3; subst hx2; rfl)) (by first | rfl | (simp; done) | (simp [ints, prs]; done))
-- impl.ones
def m63 : MC := (.seq (.region [⟨(.mov (.k (.int .i64 0))), (some 2), none⟩] false) (.seq (.region [⟨(.mov (.t 0)), (some 3), none⟩, ⟨(.conv .u64 (.t 3)), (some 4), none⟩, ⟨(.call 80 [(.t 4)]), (some 5), none⟩, ⟨(.mov (.t 5)), (some 2), none⟩] false) .ret))
theorem has63 : Has cx 63 6 m63 [(.tmp 2)] :=
  ⟨⟨Try.f63, Try.f63.body.getD .skip, by kernel_rfl, by kernel_rfl, by kernel_rfl, by kernel_rfl, by kernel_rfl, by kernel_rfl⟩⟩
theorem swar16 : ∀ b : Nat, b < 16 → swar b = pop b 16 := by decide +kernel
theorem ev63 (b : Nat) (h : b < 65536) (hsw : swar b = pop b 16) : Ev cx 63 [.int .i64 b] [] (.int .i64 (pop b 16 : Nat)) [] := by
  refine has63.eev rfl rfl ?_
  unfold m63
  repeat' (first
    | (refine g_op ?_; first
      | refine ep_mov rfl ?_
      | refine ep_call0 rfl (by first | exact ev80 _ h hsw) rfl rfl ?_
      | refine sp_call rfl rfl rfl rfl (by first | exact ev80 _ h hsw) ⟨rfl, rfl, rfl, rfl⟩ rfl rfl rfl ?_
      | refine ep_conv rfl (by first | exact w_u64 (by omega) (by omega) | exact wrap_id (by omega) (by omega) | rfl) ?_)
    | (refine g_ops ?_; first | refine eo_none ?_ | refine eo_nil ?_)
    | (refine g_code ?_; first | refine ec_seq ?_ | refine ec_region ?_ | refine ec_ret ?_)
    | refine ek_seqN ?_ | refine ek_seqR ?_)
  refine sfin (.inr rfl) (by rfl) (by rfl) (by exact ⟨rfl, rfl, rfl⟩) (by rfl) (by rfl) (by rfl) (by first | rfl | (simp; done) | (simp [ints, prs]; done))
theorem pop_ge {b n : Nat} (h : b < R2 n) : ∀ m, n ≤ m → pop b m = pop b n
  | 0, hm => by have : n = 0 := by omega
                subst this; rfl
  | m + 1, hm => by
    by_cases e : n = m + 1
    · subst e; rfl
    · rw [pop, pop_ge h m (by omega), bt_tb, tb_ge h (by omega)]; rfl
theorem sel_pop (b : Nat) : ∀ n, (selm (fun r => bt b r == 1) idn n).length = pop b n
  | 0 => rfl
  | n + 1 => by
    have ih := sel_pop b n
    have := bt_le b n
    cases hp : (bt b n == 1) with
    | true => rw [selm_t (p := fun r => bt b r == 1) hp, List.length_append, ih, pop]; simp at hp; simp [hp]
    | false => rw [selm_f (p := fun r => bt b r == 1) hp, ih, pop]; simp at hp; omega
def tupL (n b : Nat) : List Nat := selm (fun r => bt b r == 1) idn (R2 n)
def cntR (p t : Int) : Int × Int := if isRel p t = true then (((pop t.toNat 16 : Nat) : Int), (0 : Int)) else (0, 1)
theorem wf64 {z : Int} (h : (Lit.int .i64 z).wf = true) : -9223372036854775808 ≤ z ∧ z < 9223372036854775808 := by
  simp only [Lit.wf, IntKind.min, IntKind.max, IntKind.signed, IntKind.bits, Bool.and_eq_true, decide_eq_true_eq] at h
  simp at h; omega
theorem ieq (x y : Nat) : (((x : Nat) : Int) == ((y : Nat) : Int)) = (x == y) := by rw [Bool.eq_iff_iff]; simp only [beq_iff_eq]; omega
theorem ine (x y : Nat) : (((x : Nat) : Int) != ((y : Nat) : Int)) = (x != y) := by rw [bne, bne, ieq]
theorem ieq1 (x : Nat) : (((x : Nat) : Int) == 1) = (x == 1) := ieq x 1
theorem ieq0 (x : Nat) : (((x : Nat) : Int) == 0) = (x == 0) := ieq x 0
theorem ints_get {l : List Nat} {j : Nat} (h : j < l.length) : (ints l)[0 + j * 1]? = some (.int .i64 (l.getD j 0 : Nat)) := by
  simp [ints, h]
theorem zints_get {l : List Int} {j : Nat} (h : j < l.length) : (zints l)[0 + j * 1]? = some (.int .i64 (l.getD j 0)) := by
  simp [zints, h]
theorem prs_get {n : Nat} : ∀ {l : List Nat} {j : Nat} (_ : j < l.length), [V.int .i64 (n : Nat), V.int .i64 (l.getD j 0 : Nat)].length = 2 ∧ (0 + j * 2) + 2 ≤ (prs n l).length ∧ ((prs n l).drop (0 + j * 2)).take 2 = [V.int .i64 (n : Nat), V.int .i64 (l.getD j 0 : Nat)]
  | [], j, h => by simp at h
  | x :: xs, 0, h => by simp [prs]
  | x :: xs, j + 1, h => by
    obtain ⟨_, h2, h3⟩ := prs_get (n := n) (l := xs) (j := j) (by simpa using h)
    have e : (0 + (j + 1) * 2) = (0 + j * 2) + 2 := by omega
    rw [e]
    have e2 : prs n (x :: xs) = .int .i64 (n : Nat) :: .int .i64 (x : Nat) :: prs n xs := by simp [prs]
    rw [e2]
    refine ⟨rfl, by simp; omega, ?_⟩
    rw [List.drop_succ_cons, List.drop_succ_cons, h3]; simp
def fns (l : List (Int × Int)) : List V := l.flatMap fun (f : Int × Int) => [.int .i64 f.1, .int .i64 f.2]
theorem fns_len : ∀ (l : List (Int × Int)), (fns l).length = l.length * 2
  | [] => rfl
  | x :: xs => by have := fns_len xs; simp [fns] at this ⊢; omega
theorem fns_get : ∀ {l : List (Int × Int)} {j : Nat} (_ : j < l.length), [V.int .i64 (l.getD j (0, 0)).1, V.int .i64 (l.getD j (0, 0)).2].length = 2 ∧ (0 + j * 2) + 2 ≤ (fns l).length ∧ ((fns l).drop (0 + j * 2)).take 2 = [V.int .i64 (l.getD j (0, 0)).1, V.int .i64 (l.getD j (0, 0)).2]
  | [], j, h => by simp at h
  | x :: xs, 0, h => by simp [fns]
  | x :: xs, j + 1, h => by
    obtain ⟨_, h2, h3⟩ := fns_get (l := xs) (j := j) (by simpa using h)
    have e : (0 + (j + 1) * 2) = (0 + j * 2) + 2 := by omega
    rw [e]
    have e2 : fns (x :: xs) = .int .i64 x.1 :: .int .i64 x.2 :: fns xs := by simp [fns]
    rw [e2]
    refine ⟨rfl, by simp; omega, ?_⟩
    rw [List.drop_succ_cons, List.drop_succ_cons, h3]; simp
theorem xor_lt {x y n : Nat} (hx : x < R2 n) (hy : y < R2 n) : x ^^^ y < R2 n := by unfold R2 at *; exact Nat.xor_lt_two_pow hx hy
theorem selm_all {g : Nat → Nat} (n : Nat) : (selm (fun _ => true) g n).length = n ∧ ∀ r, r < n → (selm (fun _ => true) g n).getD r 0 = g r := by
  have e : selm (fun _ => true) g n = (List.range n).map g := by unfold selm; rw [List.filter_eq_self.mpr (fun _ _ => rfl)]
  rw [e]; refine ⟨by simp, fun r hr => by simp [List.getD_eq_getElem?_getD, hr]⟩
def essP (b i r : Nat) : Bool := bt b r == bt b (r ^^^ R2 i)
def ess (n b i : Nat) : Bool := !allF (essP b i) 0 (R2 n)
def essL (n b : Nat) : List Nat := selm (ess n b) idn n
-- spec.l01Of
def m68_0 : MC := (.seq (.seq (.region [⟨(.mov (.t 6)), (some 9), none⟩, ⟨(.mov (.t 0)), (some 10), none⟩, ⟨(.call 39 [(.t 10)]), (some 11), none⟩, ⟨(.bin .lss (.t 9) (.t 11)), (some 12), none⟩] false) (.cond (.t 12) .skip (.exit 0))) (.seq (.block 1 (.region [⟨(.fieldAddr 1 (.t 5)), (some 15), none⟩, ⟨(.load none (.t 15)), (some 16), none⟩, ⟨(.mov (.t 1)), (some 17), none⟩, ⟨(.mov (.t 6)), (some 18), none⟩, ⟨(.indexAddr 1 (.t 17) (.t 18)), (some 19), none⟩, ⟨(.load none (.t 19)), (some 20), none⟩, ⟨(.mov (.t 6)), (some 21), none⟩, ⟨(.conv .u64 (.t 21)), (some 22), none⟩, ⟨(.bin .shl (.t 20) (.t 22)), (some 23), none⟩, ⟨(.bin .add (.t 16) (.t 23)), (some 24), none⟩, ⟨(.fieldAddr 1 (.t 5)), (some 25), none⟩, ⟨(.store 1 (.t 25) (.t 24)), none, none⟩] true)) (.region [⟨(.mov (.t 6)), (some 13), none⟩, ⟨(.bin .add (.t 13) (.k (.int .i64 1))), (some 14), none⟩, ⟨(.mov (.t 14)), (some 6), none⟩] false)))
def m68 : MC := (.seq (.region [⟨(.alloc [(.int .i64 0), (.int .i64 0)]), (some 4), none⟩] false) (.seq (.region [⟨(.mov (.t 0)), (some 7), none⟩, ⟨(.build [(.int .i64 0), (.int .i64 0)] [(0, (1, (.t 7)))]), (some 8), none⟩, ⟨(.alloc [(.int .i64 0), (.int .i64 0)]), (some 5), none⟩, ⟨(.store 2 (.t 5) (.t 8)), none, none⟩] false) (.seq (.seq (.region [⟨(.mov (.k (.int .i64 0))), (some 6), none⟩] false) (.block 0 (.loop m68_0))) (.seq (.region [⟨(.load (some 2) (.t 5)), (some 26), none⟩, ⟨(.store 2 (.t 4) (.t 26)), none, none⟩] false) .ret))))
theorem has68 : Has cx 68 27 m68 [(.cell 4 (some 2))] :=
  ⟨⟨Try.f68, Try.f68.body.getD .skip, by kernel_rfl, by kernel_rfl, by kernel_rfl, by kernel_rfl, by kernel_rfl, by kernel_rfl⟩⟩
theorem lp68_0 (n p : Nat) (l : List Nat) (hn : n ≤ 4) (hl : R2 n ≤ l.length) (h01 : ∀ r, r < R2 n → l.getD r 0 ≤ 1) :
    LpS cx 27 1 m68_0 [(0, .int .i64 (n : Nat)), (1, .sl 0 0 l.length), (4, .ptr 1 0), (5, .ptr 2 0), (6, .int .i64 (0 : Nat))] [⟨ints l, 1, 0, some p, false⟩, ⟨[.int .i64 0, .int .i64 0], 1, 1, some 0, true⟩, ⟨[.int .i64 (n : Nat), .int .i64 (pk (fun r => l.getD r 0) (0) : Nat)], 1, 2, some 0, true⟩] (⟨.exit 0, [(4, .ptr 1 0), (5, .ptr 2 0)], [⟨ints l, 1, 0, some p, false⟩, ⟨[.int .i64 0, .int .i64 0], 1, 1, some 0, true⟩, ⟨[.int .i64 (n : Nat), .int .i64 (pk (fun r => l.getD r 0) (R2 n) : Nat)], 1, 2, some 0, true⟩]⟩ : Out).x (⟨.exit 0, [(4, .ptr 1 0), (5, .ptr 2 0)], [⟨ints l, 1, 0, some p, false⟩, ⟨[.int .i64 0, .int .i64 0], 1, 1, some 0, true⟩, ⟨[.int .i64 (n : Nat), .int .i64 (pk (fun r => l.getD r 0) (R2 n) : Nat)], 1, 2, some 0, true⟩]⟩ : Out).e (⟨.exit 0, [(4, .ptr 1 0), (5, .ptr 2 0)], [⟨ints l, 1, 0, some p, false⟩, ⟨[.int .i64 0, .int .i64 0], 1, 1, some 0, true⟩, ⟨[.int .i64 (n : Nat), .int .i64 (pk (fun r => l.getD r 0) (R2 n) : Nat)], 1, 2, some 0, true⟩]⟩ : Out).h := by
  obtain ⟨h1, h2, h3, h4⟩ := shN hn
  refine lp_st (R2 n) (fun _ => ()) (fun i _ => [(0, .int .i64 (n : Nat)), (1, .sl 0 0 l.length), (4, .ptr 1 0), (5, .ptr 2 0), (6, .int .i64 (i : Nat))]) (fun i _ => [⟨ints l, 1, 0, some p, false⟩, ⟨[.int .i64 0, .int .i64 0], 1, 1, some 0, true⟩, ⟨[.int .i64 (n : Nat), .int .i64 (pk (fun r => l.getD r 0) (i) : Nat)], 1, 2, some 0, true⟩]) (fun _ => (⟨.exit 0, [(4, .ptr 1 0), (5, .ptr 2 0)], [⟨ints l, 1, 0, some p, false⟩, ⟨[.int .i64 0, .int .i64 0], 1, 1, some 0, true⟩, ⟨[.int .i64 (n : Nat), .int .i64 (pk (fun r => l.getD r 0) (R2 n) : Nat)], 1, 2, some 0, true⟩]⟩ : Out)) ?_ ?_ (R2 n) 0 (by omega)
  · intro i s hi hs
    refine ⟨(), rfl, ?_⟩
    have hlt : decide ((i : Int) < (R2 n : Nat)) = true := decide_eq_true (by omega)
    have hg := h01 i hi
    have hp0 := pk_lt (g := fun r => l.getD r 0) (n := i + 1) fun r hr => h01 r (by omega)
    have hp3 := pk_add (g := fun r => l.getD r 0) (n := i) fun r hr => h01 r (by omega)
    have hp1 := R2_mono (i := i + 1) (n := R2 n) (by omega)
    have hs1 := sl_lt hg hi
    have hb0 : binV .add (.int .i64 (pk (fun r => l.getD r 0) i : Nat)) (.int .i64 (l.getD i 0 <<< i : Nat)) = some (.int .i64 (pk (fun r => l.getD r 0) (i + 1) : Nat)) := by
      rw [← hp3] at hp0 ⊢; exact b_addN (by omega)
    unfold m68_0
    repeat' (first
      | (refine g_op ?_; first
        | refine ep_mov rfl ?_ | refine ep_load1 rfl rfl rfl rfl ?_ | refine ep_fieldAddr rfl ?_
        | refine ep_call0 rfl (by first | exact ev39 _ hn) rfl rfl ?_
        | refine sp_call rfl rfl rfl rfl (by first | exact ev39 _ hn) ⟨rfl, rfl, rfl, rfl⟩ rfl rfl rfl ?_
        | refine ep_bin rfl rfl (by first | exact hb0 | exact b_shl (x := l.getD i 0) (by omega) (by omega) | exact b_add (by omega) (by omega) | exact b_sub (by omega) (by omega) | exact b_and (by omega) (by omega) | exact b_or (by omega) (by omega) | exact b_shr (by omega) | exact b_shl (by omega) (by omega) | exact b_lss | exact b_leq | exact b_gtr | exact b_geq | exact b_eql | exact b_neq) ?_
        | refine sp_store rfl rfl rfl rfl rfl rfl rfl rfl rfl rfl ?_ | refine ep_conv rfl (by first | exact w_u64 (by omega) (by omega) | exact wrap_id (by omega) (by omega) | rfl) ?_ | refine sp_idx rfl rfl rfl (by omega) rfl ?_
        | refine ep_loadS rfl rfl rfl (by first | exact ints_get (by omega) | exact zints_get (by omega) | exact fget (by omega) | assumption) ?_)
      | (refine g_ops ?_; first | refine eo_none ?_ | refine eo_nil ?_)
      | (refine g_dops ?_; first | refine ed_none ?_ | refine ed_nil ?_)
      | refine ed_same rfl ?_ | refine ed_one rfl rfl rfl rfl ?_ | refine ed_two rfl rfl rfl rfl rfl rfl rfl ?_ | refine ed_write rfl rfl ?_
      | (refine g_code ?_; first | refine ec_seq ?_ | refine ec_region ?_ | refine ec_draw ?_ | refine ec_block ?_ | refine ec_skip ?_ | refine ec_exit ?_ | refine ec_condT rfl ?_ | refine ec_condF rfl ?_ | refine ec_condTH rfl (by assumption) ?_ | refine ec_condFH rfl (by assumption) ?_)
      | refine ek_seqN ?_ | refine ek_seqX ?_ | refine ek_blkN ?_ | refine ek_blkR ?_ | refine ek_blkX ?_ | refine ek_blkY rfl ?_)
    exact rnd_on (by rfl) (scmp2 (by rfl) (by rfl) (by exact ⟨rfl, rfl, rfl⟩) (by rfl) (by first | rfl | (simp; done) | (simp [ints, prs]; done)) (by rfl) (by first | rfl | (simp; done) | (simp [ints, prs]; done)))
  · intro s hs
    have hlt : decide (((R2 n : Nat) : Int) < (R2 n : Nat)) = false := decide_eq_false (by omega)
    unfold m68_0
    repeat' (first
      | (refine g_op ?_; first
        | refine ep_mov rfl ?_ | refine ep_load1 rfl rfl rfl rfl ?_ | refine ep_fieldAddr rfl ?_
        | refine ep_call0 rfl (by first | exact ev39 _ hn) rfl rfl ?_
        | refine sp_call rfl rfl rfl rfl (by first | exact ev39 _ hn) ⟨rfl, rfl, rfl, rfl⟩ rfl rfl rfl ?_
        | refine ep_bin rfl rfl (by first | exact hb0 | exact b_shl (x := l.getD i 0) (by omega) (by omega) | exact b_add (by omega) (by omega) | exact b_sub (by omega) (by omega) | exact b_and (by omega) (by omega) | exact b_or (by omega) (by omega) | exact b_shr (by omega) | exact b_shl (by omega) (by omega) | exact b_lss | exact b_leq | exact b_gtr | exact b_geq | exact b_eql | exact b_neq) ?_
        | refine sp_store rfl rfl rfl rfl rfl rfl rfl rfl rfl rfl ?_ | refine ep_conv rfl (by first | exact w_u64 (by omega) (by omega) | exact wrap_id (by omega) (by omega) | rfl) ?_ | refine sp_idx rfl rfl rfl (by omega) rfl ?_
        | refine ep_loadS rfl rfl rfl (by first | exact ints_get (by omega) | exact zints_get (by omega) | exact fget (by omega) | assumption) ?_)
      | (refine g_ops ?_; first | refine eo_none ?_ | refine eo_nil ?_)
      | (refine g_dops ?_; first | refine ed_none ?_ | refine ed_nil ?_)
      | refine ed_same rfl ?_ | refine ed_one rfl rfl rfl rfl ?_ | refine ed_two rfl rfl rfl rfl rfl rfl rfl ?_ | refine ed_write rfl rfl ?_
      | (refine g_code ?_; first | refine ec_seq ?_ | refine ec_region ?_ | refine ec_draw ?_ | refine ec_block ?_ | refine ec_skip ?_ | refine ec_exit ?_ | refine ec_condT rfl ?_ | refine ec_condF rfl ?_ | refine ec_condTH rfl (by assumption) ?_ | refine ec_condFH rfl (by assumption) ?_)
      | refine ek_seqN ?_ | refine ek_seqX ?_ | refine ek_blkN ?_ | refine ek_blkR ?_ | refine ek_blkX ?_ | refine ek_blkY rfl ?_)
    exact rnd_out (by rfl) (by simp) (scmp2 (by rfl) (by rfl) (by exact ⟨rfl, rfl, rfl⟩) (by rfl) (by first | rfl | (simp; done) | (simp [ints, prs]; done)) (by rfl) (by first | rfl | (simp; done) | (simp [ints, prs]; done)))

theorem ev68 (n p : Nat) (l : List Nat) (hn : n ≤ 4) (hl : R2 n ≤ l.length) (h01 : ∀ r, r < R2 n → l.getD r 0 ≤ 1) : Ev cx 68 [.int .i64 n, .sl 0 0 l.length] [⟨ints l, 1, 0, some p, false⟩] (.agg [.int .i64 n, .int .i64 (pk (fun r => l.getD r 0) (R2 n) : Nat)]) [⟨ints l, 1, 0, some p, false⟩] := by
  have lp := lp68_0 n p l hn hl h01
  refine has68.eev rfl rfl ?_
  unfold m68
  repeat' (first
    | refine sc_loop lp rfl rfl ⟨rfl, rfl, rfl⟩ rfl rfl rfl ?_
    | (refine g_op ?_; first
      | refine ep_mov rfl ?_ | refine sp_loadN rfl rfl rfl rfl rfl ?_
      | refine sp_store rfl rfl rfl rfl rfl rfl rfl rfl rfl rfl ?_ | refine sp_alloc rfl rfl ?_ | refine sp_build rfl rfl ?_)
    | (refine g_ops ?_; first | refine eo_none ?_ | refine eo_nil ?_)
    | (refine g_code ?_; first | refine ec_seq ?_ | refine ec_region ?_ | refine ec_block ?_ | refine ec_ret ?_)
    | refine ek_seqN ?_ | refine ek_seqX ?_ | refine ek_seqR ?_ | refine ek_blkN ?_ | refine ek_blkR ?_ | refine ek_blkX ?_ | refine ek_blkY rfl ?_)
  refine sfin (.inr rfl) (by rfl) (by rfl) (by exact ⟨rfl, rfl, rfl⟩) (by rfl) (by rfl) (by rfl) (by first | rfl | (simp; done) | (simp [ints, prs]; done))
def rowsIV (n i v : Nat) : List Nat := selm (fun r => bt r i == v) idn (R2 n)
def fixL (n b i v : Nat) : List Nat := selm (fun r => bt r i == v) (bt b) (R2 n)
def fixv (n b i v : Nat) : Nat := pk (fun r => (fixL n b i v).getD r 0) (R2 (n - 1))
theorem selm_map (p : Nat → Bool) (g : Nat → Nat) (n : Nat) : selm p g n = (selm p idn n).map g := by simp [selm, idn]
theorem fixL_map (n b i v : Nat) : fixL n b i v = (rowsIV n i v).map (bt b) := selm_map _ _ _
theorem rowsIV_len : ∀ n, n ≤ 4 → ∀ i, i < n → ∀ v, v ≤ 1 → (rowsIV n i v).length = R2 (n - 1) := by decide +kernel
theorem rowsIV_01 : ∀ n, n ≤ 4 → ∀ i, i < n → ∀ k, k < R2 (n - 1) → (rowsIV n i 1).getD k 0 = (rowsIV n i 0).getD k 0 ^^^ R2 i ∧ (rowsIV n i 0).getD k 0 < R2 n ∧ (rowsIV n i 1).getD k 0 < R2 n ∧ bt ((rowsIV n i 0).getD k 0) i = 0 ∧ bt ((rowsIV n i 1).getD k 0) i = 1 := by decide +kernel
theorem rowsIV_ex : ∀ n, n ≤ 4 → ∀ i, i < n → ∀ r, r < R2 n → ∃ k, k < R2 (n - 1) ∧ (r = (rowsIV n i 0).getD k 0 ∧ r ^^^ R2 i = (rowsIV n i 1).getD k 0 ∨ r = (rowsIV n i 1).getD k 0 ∧ r ^^^ R2 i = (rowsIV n i 0).getD k 0) := by decide +kernel
theorem fixL_len {n b i v : Nat} (hn : n ≤ 4) (hi : i < n) (hv : v ≤ 1) : (fixL n b i v).length = R2 (n - 1) := by rw [fixL_map, List.length_map, rowsIV_len n hn i hi v hv]
theorem fixL_get {n b i v k : Nat} (hn : n ≤ 4) (hi : i < n) (hv : v ≤ 1) (hk : k < R2 (n - 1)) : (fixL n b i v).getD k 0 = bt b ((rowsIV n i v).getD k 0) := by
  have hl := rowsIV_len n hn i hi v hv
  rw [fixL_map, List.getD_eq_getElem?_getD, List.getD_eq_getElem?_getD, List.getElem?_map, List.getElem?_eq_getElem (by omega)]; rfl
theorem fixL_le {n b i v : Nat} (hn : n ≤ 4) (hi : i < n) (hv : v ≤ 1) : ∀ r, r < R2 (n - 1) → (fixL n b i v).getD r 0 ≤ 1 := fun r hr => by rw [fixL_get hn hi hv hr]; exact bt_le _ _
theorem fix_ess {n b i : Nat} (hn : n ≤ 4) (hi : i < n) : fixv n b i 0 = fixv n b i 1 ↔ ess n b i = false := by
  have e1 : ess n b i = false ↔ ∀ r, r < R2 n → bt b r = bt b (r ^^^ R2 i) := by
    simp only [ess, Bool.not_eq_false', allF_iff, essP, beq_iff_eq]
    exact ⟨fun h r hr => h r (Nat.zero_le _) (by omega), fun h r _ hr => h r (by omega)⟩
  rw [e1]
  constructor
  · intro h r hr
    have key : ∀ k, k < R2 (n - 1) → bt b ((rowsIV n i 0).getD k 0) = bt b ((rowsIV n i 1).getD k 0) := by
      intro k hk
      have := congrArg (fun x => bt x k) h
      simp only [fixv] at this
      rw [bt_pk (fixL_le hn hi (by omega)) hk, bt_pk (fixL_le hn hi (by omega)) hk, fixL_get hn hi (by omega) hk, fixL_get hn hi (by omega) hk] at this
      exact this
    obtain ⟨k, hk, ⟨h1, h2⟩ | ⟨h1, h2⟩⟩ := rowsIV_ex n hn i hi r hr
    · rw [h2, h1]; exact key k hk
    · rw [h2, h1]; exact (key k hk).symm
  · intro h
    refine pk_congr fun k hk => ?_
    obtain ⟨h1, h2, _⟩ := rowsIV_01 n hn i hi k hk
    rw [fixL_get hn hi (by omega) hk, fixL_get hn hi (by omega) hk, h1]; exact h _ h2
def unR (p t : Int) : Bool × Int := if isFn p t = true then (decide (((essL p.toNat t.toNat).length : Int) ≤ 1), 0) else (false, 1)
theorem allF_succ (p : Nat → Bool) : ∀ (n i : Nat), allF p i (n + 1) = (allF p i n && p (i + n))
  | 0, i => by simp [allF]
  | n + 1, i => by
    rw [allF, allF_succ p n (i + 1), allF, Bool.and_assoc, show i + 1 + n = i + (n + 1) by omega]
theorem allF_s (p : Nat → Bool) (n : Nat) : allF p 0 (n + 1) = (allF p 0 n && p n) := by rw [allF_succ, Nat.zero_add]
def regI (n b i : Nat) : Bool := allF (fun j => strB n b i j || strB n b j i) 0 i
def regB (n b : Nat) : Bool := allF (regI n b) 0 n
def prodP (n b c t : Nat) : Bool := (bt b (t &&& (R2 n - 1)) == 1) && (bt c (t >>> n) == 1)
theorem tupL_mem {n b x : Nat} : x ∈ tupL n b ↔ x < R2 n ∧ bt b x = 1 := by
  simp [tupL, selm, List.mem_range, idn]
theorem getD_mem {l : List Nat} {i : Nat} (h : i < l.length) : l.getD i 0 ∈ l := by
  rw [List.getD_eq_getElem?_getD, List.getElem?_eq_getElem h]; exact List.getElem_mem h
theorem mem_getD {l : List Nat} {x : Nat} (h : x ∈ l) : ∃ i, i < l.length ∧ l.getD i 0 = x := by
  obtain ⟨i, hi, rfl⟩ := List.getElem_of_mem h
  exact ⟨i, hi, by rw [List.getD_eq_getElem?_getD, List.getElem?_eq_getElem hi]; rfl⟩
theorem tup_le {n b : Nat} : (tupL n b).length ≤ R2 n := selm_len _ _ _
def prH (n : Nat) (l1 l2 : List Nat) (i q : Nat) : Nat := l1.getD i 0 ||| (l2.getD q 0 <<< n)
def prO (n : Nat) (l1 l2 : List Nat) : Nat → Nat
  | 0 => 0
  | i + 1 => prO n l1 l2 i ||| orA (prH n l1 l2 i) l2.length
theorem prH_lt {n m : Nat} {l1 l2 : List Nat} (h1 : ∀ i, i < l1.length → l1.getD i 0 < R2 n) (h2 : ∀ i, i < l2.length → l2.getD i 0 < R2 m) {i q : Nat} (hi : i < l1.length) (hq : q < l2.length) :
    prH n l1 l2 i q = l2.getD q 0 * R2 n + l1.getD i 0 ∧ prH n l1 l2 i q < R2 (n + m) := by
  have a := h1 i hi
  have b := h2 q hq
  have e : prH n l1 l2 i q = l2.getD q 0 * R2 n + l1.getD i 0 := by
    unfold prH R2 at *
    rw [Nat.or_comm, Nat.shiftLeft_eq, Nat.mul_comm, ← Nat.two_pow_add_eq_or_of_lt a]
  refine ⟨e, ?_⟩
  rw [e, show R2 (n + m) = R2 m * R2 n by unfold R2; rw [Nat.pow_add, Nat.mul_comm]]
  have : (l2.getD q 0 + 1) * R2 n ≤ R2 m * R2 n := Nat.mul_le_mul_right _ b
  rw [Nat.add_mul] at this; omega
theorem prO_lt {n m : Nat} {l1 l2 : List Nat} (h1 : ∀ i, i < l1.length → l1.getD i 0 < R2 n) (h2 : ∀ i, i < l2.length → l2.getD i 0 < R2 m) : ∀ i, i ≤ l1.length → prO n l1 l2 i < R2 (R2 (n + m))
  | 0, _ => by rw [prO]; exact R2_pos _
  | i + 1, h => by rw [prO]; exact or_lt (prO_lt h1 h2 i (by omega)) (orA_lt fun q hq => (prH_lt h1 h2 (by omega) hq).2)
theorem prO_tb (n : Nat) (l1 l2 : List Nat) (t : Nat) : ∀ i, (prO n l1 l2 i).testBit t = true ↔ ∃ x q, x < i ∧ q < l2.length ∧ prH n l1 l2 x q = t
  | 0 => by simp [prO]
  | i + 1 => by
    rw [prO, Nat.testBit_or, Bool.or_eq_true, prO_tb n l1 l2 t i, orA_tb, decide_eq_true_eq]
    constructor
    · rintro (⟨x, q, h1, h2, h3⟩ | ⟨q, h2, h3⟩)
      · exact ⟨x, q, by omega, h2, h3⟩
      · exact ⟨i, q, by omega, h2, h3⟩
    · rintro ⟨x, q, h1, h2, h3⟩
      by_cases e : x = i
      · subst e; exact .inr ⟨q, h2, h3⟩
      · exact .inl ⟨x, q, by omega, h2, h3⟩
theorem tup_lt {n b : Nat} : ∀ i, i < (tupL n b).length → (tupL n b).getD i 0 < R2 n := fun i hi => (tupL_mem.mp (getD_mem hi)).1
theorem prod_eq (n b m c : Nat) : prO n (tupL n b) (tupL m c) (tupL n b).length = pk (bn (prodP n b c)) (R2 (n + m)) := by
  apply Nat.eq_of_testBit_eq
  intro t
  rw [Bool.eq_iff_iff, prO_tb, pk_tb fun r _ => bn_le _ r, Bool.and_eq_true, decide_eq_true_eq, decide_eq_true_eq]
  have hp := R2_pos n
  have e1 : t >>> n = t / R2 n := by unfold R2; exact Nat.shiftRight_eq_div_pow t n
  have e2 : R2 (n + m) = R2 n * R2 m := by unfold R2; rw [Nat.pow_add]
  have hb : bn (prodP n b c) t = 1 ↔ bt b (t % R2 n) = 1 ∧ bt c (t / R2 n) = 1 := by
    unfold bn prodP; rw [and_m1, e1]
    by_cases x : bt b (t % R2 n) = 1 <;> by_cases y : bt c (t / R2 n) = 1 <;> simp [x, y]
  rw [hb]
  constructor
  · rintro ⟨x, q, hx, hq, rfl⟩
    obtain ⟨p1, p2⟩ := prH_lt tup_lt tup_lt hx hq
    obtain ⟨q1, q2⟩ := tupL_mem.mp (getD_mem hx)
    obtain ⟨r1, r2⟩ := tupL_mem.mp (getD_mem hq)
    refine ⟨p2, ?_⟩
    rw [p1]
    generalize (tupL n b).getD x 0 = u at *
    generalize (tupL m c).getD q 0 = w at *
    rw [Nat.mul_comm, Nat.mul_add_mod, Nat.mod_eq_of_lt q1, Nat.mul_add_div hp, Nat.div_eq_of_lt q1, Nat.add_zero]
    exact ⟨q2, r2⟩
  · rintro ⟨h1, h2, h3⟩
    have hd : t / R2 n < R2 m := Nat.div_lt_of_lt_mul (by rw [← e2]; exact h1)
    obtain ⟨x, hx, ex⟩ := mem_getD (tupL_mem.mpr ⟨Nat.mod_lt t hp, h2⟩)
    obtain ⟨q, hq, eq⟩ := mem_getD (tupL_mem.mpr ⟨hd, h3⟩)
    refine ⟨x, q, hx, hq, ?_⟩
    rw [(prH_lt tup_lt tup_lt hx hq).1, ex, eq, Nat.mul_comm]
    exact Nat.div_add_mod t (R2 n)
def firstF (p : Nat → Bool) : Nat → Nat → Option Nat
  | _, 0 => none
  | i, j + 1 => if p i = true then firstF p (i + 1) j else some i
theorem firstF_none {p : Nat → Bool} : ∀ {j i : Nat}, (∀ x, i ≤ x → x < i + j → p x = true) → firstF p i j = none
  | 0, _, _ => rfl
  | j + 1, i, h => by
    rw [firstF, if_pos (h i (Nat.le_refl _) (by omega))]
    exact firstF_none fun x h1 h2 => h x (by omega) (by omega)
theorem firstF_some {p : Nat → Bool} : ∀ {j i x : Nat}, i ≤ x → x < i + j → p x = false → (∀ y, i ≤ y → y < x → p y = true) → firstF p i j = some x
  | 0, i, x, h1, h2, _, _ => by omega
  | j + 1, i, x, h1, h2, h3, h4 => by
    rw [firstF]
    by_cases e : i = x
    · subst e; rw [h3]; rfl
    · rw [if_pos (h4 i (Nat.le_refl _) (by omega))]
      exact firstF_some (by omega) (by omega) h3 fun y g1 g2 => h4 y (by omega) g2
theorem firstF_allT {p : Nat → Bool} : ∀ {j i : Nat}, firstF p i j = none → allF p i j = true
  | 0, _, _ => rfl
  | j + 1, i, h => by
    rw [firstF] at h
    by_cases e : p i = true
    · rw [if_pos e] at h; rw [allF, e, firstF_allT h]; rfl
    · rw [if_neg e] at h; simp at h
theorem firstF_allF {p : Nat → Bool} : ∀ {j i x : Nat}, firstF p i j = some x → allF p i j = false
  | 0, _, _, h => by simp [firstF] at h
  | j + 1, i, x, h => by
    rw [firstF] at h
    by_cases e : p i = true
    · rw [if_pos e] at h; rw [allF, e, firstF_allF h]; rfl
    · rw [allF]; simp [e]
theorem fget {o j : Nat} {l : List Int} (h : j < l.length) : (List.replicate o V.any ++ nums .i64 l)[o + j * 1]? = some (.int .i64 (l.getD j 0)) := by
  rw [List.getElem?_append_right (by simp)]
  simp [nums, h]
def zcp (c : List Int) (i : Nat) : List Int := c.take i ++ List.replicate (c.length - i) 0
theorem zcp_len {c : List Int} {i : Nat} (h : i ≤ c.length) : (zcp c i).length = c.length := by simp [zcp]; omega
theorem zcp_mk (c : List Int) : zints (zcp c 0) = (List.replicate c.length [V.int .i64 0]).flatten := by
  simp only [zcp, List.take_zero, List.nil_append, Nat.sub_zero]
  induction c.length with
  | zero => rfl
  | succ n ih => simp only [List.replicate_succ, zints, List.map_cons, List.flatten_cons, List.singleton_append] at ih ⊢; rw [ih]
theorem zcp_end (c : List Int) : zcp c c.length = c := by simp [zcp]
theorem zcp_set {c : List Int} {i : Nat} (h : i < c.length) : (zints (zcp c i)).take (0 + i * 1) ++ [V.int .i64 (c.getD i 0)] ++ (zints (zcp c i)).drop (0 + i * 1 + 1) = zints (zcp c (i + 1)) := by
  have e1 : List.replicate (c.length - i) (0 : Int) = 0 :: List.replicate (c.length - (i + 1)) 0 := by
    rw [show c.length - i = (c.length - (i + 1)) + 1 by omega, List.replicate_succ]
  have e2 : c.take (i + 1) = c.take i ++ [c.getD i 0] := by
    rw [List.take_add_one, List.getElem?_eq_getElem h, List.getD_eq_getElem?_getD, List.getElem?_eq_getElem h]; rfl
  have e3 : ((c.take i).map fun x => V.int .i64 x).length = i := by simp; omega
  simp only [zcp, zints, List.map_append, e1, e2, Nat.zero_add, Nat.mul_one, List.map_cons]
  rw [List.take_append_of_le_length (by omega), List.take_of_length_le (by omega)]
  rw [List.drop_append, e3, List.drop_eq_nil_of_le (by omega), show i + 1 - i = 1 by omega]
  simp
-- laws.toInt64S
def m14_0 : MC := (.seq (.seq (.region [⟨(.mov (.t 4)), (some 8), none⟩, ⟨(.mov (.t 0)), (some 9), none⟩, ⟨(.len (.t 9)), (some 10), none⟩, ⟨(.bin .lss (.t 8) (.t 10)), (some 11), none⟩] false) (.cond (.t 11) .skip (.exit 0))) (.seq (.block 1 (.region [⟨(.mov (.t 3)), (some 14), none⟩, ⟨(.mov (.t 4)), (some 15), none⟩, ⟨(.mov (.t 0)), (some 16), none⟩, ⟨(.mov (.t 4)), (some 17), none⟩, ⟨(.indexAddr 1 (.t 16) (.t 17)), (some 18), none⟩, ⟨(.load none (.t 18)), (some 19), none⟩, ⟨(.indexAddr 1 (.t 14) (.t 15)), (some 20), none⟩, ⟨(.store 1 (.t 20) (.t 19)), none, none⟩] false)) (.region [⟨(.mov (.t 4)), (some 12), none⟩, ⟨(.bin .add (.t 12) (.k (.int .i64 1))), (some 13), none⟩, ⟨(.mov (.t 13)), (some 4), none⟩] false)))
def m14 : MC := (.seq (.region [⟨(.mov (.k .nils)), (some 2), none⟩] false) (.seq (.region [⟨(.mov (.t 0)), (some 5), none⟩, ⟨(.len (.t 5)), (some 6), none⟩, ⟨(.make 1 8 [(.int .i64 0)] (.t 6)), (some 7), none⟩, ⟨(.mov (.t 7)), (some 3), none⟩] false) (.seq (.seq (.region [⟨(.mov (.k (.int .i64 0))), (some 4), none⟩] false) (.block 0 (.loop m14_0))) (.seq (.region [⟨(.mov (.t 3)), (some 21), none⟩, ⟨(.mov (.t 21)), (some 2), none⟩] false) .ret))))
theorem has14 : Has cx 14 22 m14 [(.tmp 2)] :=
  ⟨⟨Try.f14, Try.f14.body.getD .skip, by kernel_rfl, by kernel_rfl, by kernel_rfl, by kernel_rfl, by kernel_rfl, by kernel_rfl⟩⟩
theorem lp14_0 (o : Nat) (c : List Int) (hlen : c.length ≤ 1048576) :
    LpS cx 22 1 m14_0 [(0, .sl 0 o c.length), (3, .sl 1 0 c.length), (4, .int .i64 (0 : Nat))] [⟨List.replicate o .any ++ nums .i64 c, 0, 0, none, false⟩, ⟨zints (zcp c (0)), 1, 1, some 0, false⟩] (⟨.exit 0, [(3, .sl 1 0 c.length)], [⟨List.replicate o .any ++ nums .i64 c, 0, 0, none, false⟩, ⟨zints (zcp c (c.length)), 1, 1, some 0, false⟩]⟩ : Out).x (⟨.exit 0, [(3, .sl 1 0 c.length)], [⟨List.replicate o .any ++ nums .i64 c, 0, 0, none, false⟩, ⟨zints (zcp c (c.length)), 1, 1, some 0, false⟩]⟩ : Out).e (⟨.exit 0, [(3, .sl 1 0 c.length)], [⟨List.replicate o .any ++ nums .i64 c, 0, 0, none, false⟩, ⟨zints (zcp c (c.length)), 1, 1, some 0, false⟩]⟩ : Out).h := by
  refine lp_st (c.length) (fun _ => ()) (fun i _ => [(0, .sl 0 o c.length), (3, .sl 1 0 c.length), (4, .int .i64 (i : Nat))]) (fun i _ => [⟨List.replicate o .any ++ nums .i64 c, 0, 0, none, false⟩, ⟨zints (zcp c (i)), 1, 1, some 0, false⟩]) (fun _ => (⟨.exit 0, [(3, .sl 1 0 c.length)], [⟨List.replicate o .any ++ nums .i64 c, 0, 0, none, false⟩, ⟨zints (zcp c (c.length)), 1, 1, some 0, false⟩]⟩ : Out)) ?_ ?_ (c.length) 0 (by omega)
  · intro i s hi hs
    refine ⟨(), rfl, ?_⟩
    have hlt : decide ((i : Int) < (c.length : Nat)) = true := decide_eq_true (by omega)
    unfold m14_0
    repeat' (first
      | refine sp_storeS rfl rfl rfl rfl rfl rfl rfl (Nat.zero_le _) (by rw [zints_len, zcp_len (by omega)]; omega) (zcp_set hi) rfl ?_
      | (refine g_op ?_; first
        | refine ep_mov rfl ?_ | refine ep_load1 rfl rfl rfl rfl ?_
        | refine ep_bin rfl rfl (by first | exact b_add (by omega) (by omega) | exact b_sub (by omega) (by omega) | exact b_and (by omega) (by omega) | exact b_or (by omega) (by omega) | exact b_shr (by omega) | exact b_shl (by omega) (by omega) | exact b_lss | exact b_leq | exact b_gtr | exact b_geq | exact b_eql | exact b_neq) ?_
        | refine sp_store rfl rfl rfl rfl rfl rfl rfl rfl rfl rfl ?_ | refine ep_lenS rfl ?_ | refine ep_lenN rfl ?_ | refine ep_lenE rfl ?_ | refine sp_idx rfl rfl rfl (by omega) rfl ?_ | refine ep_loadS rfl rfl rfl (by first | exact ints_get (by omega) | exact zints_get (by omega) | exact fget (by omega) | assumption) ?_)
      | (refine g_ops ?_; first | refine eo_none ?_ | refine eo_nil ?_)
      | (refine g_code ?_; first | refine ec_seq ?_ | refine ec_region ?_ | refine ec_block ?_ | refine ec_skip ?_ | refine ec_exit ?_ | refine ec_condT rfl ?_ | refine ec_condF rfl ?_ | refine ec_condTH rfl (by assumption) ?_ | refine ec_condFH rfl (by assumption) ?_)
      | refine ek_seqN ?_ | refine ek_seqX ?_ | refine ek_blkN ?_ | refine ek_blkR ?_ | refine ek_blkX ?_ | refine ek_blkY rfl ?_)
    exact rnd_on (by rfl) (scmp2 (by rfl) (by rfl) (by exact ⟨rfl, rfl, rfl⟩) (by rfl) (by first | rfl | (simp; done) | (simp [ints, prs]; done)) (by rfl) (by first | rfl | (simp; done) | (simp [ints, prs]; done)))
  · intro s hs
    have hlt : decide (((c.length : Nat) : Int) < (c.length : Nat)) = false := decide_eq_false (by omega)
    unfold m14_0
    repeat' (first
      | (refine g_op ?_; first
        | refine ep_mov rfl ?_ | refine ep_load1 rfl rfl rfl rfl ?_
        | refine ep_bin rfl rfl (by first | exact b_add (by omega) (by omega) | exact b_sub (by omega) (by omega) | exact b_and (by omega) (by omega) | exact b_or (by omega) (by omega) | exact b_shr (by omega) | exact b_shl (by omega) (by omega) | exact b_lss | exact b_leq | exact b_gtr | exact b_geq | exact b_eql | exact b_neq) ?_
        | refine sp_store rfl rfl rfl rfl rfl rfl rfl rfl rfl rfl ?_ | refine ep_lenS rfl ?_ | refine ep_lenN rfl ?_ | refine ep_lenE rfl ?_ | refine sp_idx rfl rfl rfl (by omega) rfl ?_ | refine ep_loadS rfl rfl rfl (by first | exact ints_get (by omega) | exact zints_get (by omega) | exact fget (by omega) | assumption) ?_)
      | (refine g_ops ?_; first | refine eo_none ?_ | refine eo_nil ?_)
      | (refine g_code ?_; first | refine ec_seq ?_ | refine ec_region ?_ | refine ec_block ?_ | refine ec_skip ?_ | refine ec_exit ?_ | refine ec_condT rfl ?_ | refine ec_condF rfl ?_ | refine ec_condTH rfl (by assumption) ?_ | refine ec_condFH rfl (by assumption) ?_)
      | refine ek_seqN ?_ | refine ek_seqX ?_ | refine ek_blkN ?_ | refine ek_blkR ?_ | refine ek_blkX ?_ | refine ek_blkY rfl ?_)
    exact rnd_out (by rfl) (by simp) (scmp2 (by rfl) (by rfl) (by exact ⟨rfl, rfl, rfl⟩) (by rfl) (by first | rfl | (simp; done) | (simp [ints, prs]; done)) (by rfl) (by first | rfl | (simp; done) | (simp [ints, prs]; done)))

theorem lp14_0_nils  :
    LpS cx 22 0 m14_0 [(0, .nils), (3, .sl 0 0 0), (4, .int .i64 (0 : Nat))] [⟨zints [], 1, 0, some 0, false⟩] (⟨.exit 0, [(3, .sl 0 0 0)], [⟨zints [], 1, 0, some 0, false⟩]⟩ : Out).x (⟨.exit 0, [(3, .sl 0 0 0)], [⟨zints [], 1, 0, some 0, false⟩]⟩ : Out).e (⟨.exit 0, [(3, .sl 0 0 0)], [⟨zints [], 1, 0, some 0, false⟩]⟩ : Out).h := by
  refine lp_st (0) (fun _ => ()) (fun i _ => [(0, .nils), (3, .sl 0 0 0), (4, .int .i64 (i : Nat))]) (fun i _ => [⟨zints [], 1, 0, some 0, false⟩]) (fun _ => (⟨.exit 0, [(3, .sl 0 0 0)], [⟨zints [], 1, 0, some 0, false⟩]⟩ : Out)) ?_ ?_ (0) 0 (by omega)
  · intro i s hi hs
    refine ⟨(), rfl, ?_⟩
    exact absurd hi (by simp)
  · intro s hs
    have hlt : decide (((0 : Nat) : Int) < (0 : Nat)) = false := decide_eq_false (by omega)
    unfold m14_0
    repeat' (first
      | (refine g_op ?_; first
        | refine ep_mov rfl ?_ | refine ep_load1 rfl rfl rfl rfl ?_
        | refine ep_bin rfl rfl (by first | exact b_add (by omega) (by omega) | exact b_sub (by omega) (by omega) | exact b_and (by omega) (by omega) | exact b_or (by omega) (by omega) | exact b_shr (by omega) | exact b_shl (by omega) (by omega) | exact b_lss | exact b_leq | exact b_gtr | exact b_geq | exact b_eql | exact b_neq) ?_
        | refine sp_store rfl rfl rfl rfl rfl rfl rfl rfl rfl rfl ?_ | refine ep_lenS rfl ?_ | refine ep_lenN rfl ?_ | refine ep_lenE rfl ?_ | refine sp_idx rfl rfl rfl (by omega) rfl ?_ | refine ep_loadS rfl rfl rfl (by first | exact ints_get (by omega) | exact zints_get (by omega) | exact fget (by omega) | assumption) ?_)
      | (refine g_ops ?_; first | refine eo_none ?_ | refine eo_nil ?_)
      | (refine g_code ?_; first | refine ec_seq ?_ | refine ec_region ?_ | refine ec_block ?_ | refine ec_skip ?_ | refine ec_exit ?_ | refine ec_condT rfl ?_ | refine ec_condF rfl ?_ | refine ec_condTH rfl (by assumption) ?_ | refine ec_condFH rfl (by assumption) ?_)
      | refine ek_seqN ?_ | refine ek_seqX ?_ | refine ek_blkN ?_ | refine ek_blkR ?_ | refine ek_blkX ?_ | refine ek_blkY rfl ?_)
    exact rnd_out (by rfl) (by simp) (scmp2 (by rfl) (by rfl) (by exact ⟨rfl, rfl, rfl⟩) (by rfl) (by first | rfl | (simp; done) | (simp [ints, prs]; done)) (by rfl) (by first | rfl | (simp; done) | (simp [ints, prs]; done)))

theorem lp14_0_emp  :
    LpS cx 22 0 m14_0 [(0, .emp), (3, .sl 0 0 0), (4, .int .i64 (0 : Nat))] [⟨zints [], 1, 0, some 0, false⟩] (⟨.exit 0, [(3, .sl 0 0 0)], [⟨zints [], 1, 0, some 0, false⟩]⟩ : Out).x (⟨.exit 0, [(3, .sl 0 0 0)], [⟨zints [], 1, 0, some 0, false⟩]⟩ : Out).e (⟨.exit 0, [(3, .sl 0 0 0)], [⟨zints [], 1, 0, some 0, false⟩]⟩ : Out).h := by
  refine lp_st (0) (fun _ => ()) (fun i _ => [(0, .emp), (3, .sl 0 0 0), (4, .int .i64 (i : Nat))]) (fun i _ => [⟨zints [], 1, 0, some 0, false⟩]) (fun _ => (⟨.exit 0, [(3, .sl 0 0 0)], [⟨zints [], 1, 0, some 0, false⟩]⟩ : Out)) ?_ ?_ (0) 0 (by omega)
  · intro i s hi hs
    refine ⟨(), rfl, ?_⟩
    exact absurd hi (by simp)
  · intro s hs
    have hlt : decide (((0 : Nat) : Int) < (0 : Nat)) = false := decide_eq_false (by omega)
    unfold m14_0
    repeat' (first
      | (refine g_op ?_; first
        | refine ep_mov rfl ?_ | refine ep_load1 rfl rfl rfl rfl ?_
        | refine ep_bin rfl rfl (by first | exact b_add (by omega) (by omega) | exact b_sub (by omega) (by omega) | exact b_and (by omega) (by omega) | exact b_or (by omega) (by omega) | exact b_shr (by omega) | exact b_shl (by omega) (by omega) | exact b_lss | exact b_leq | exact b_gtr | exact b_geq | exact b_eql | exact b_neq) ?_
        | refine sp_store rfl rfl rfl rfl rfl rfl rfl rfl rfl rfl ?_ | refine ep_lenS rfl ?_ | refine ep_lenN rfl ?_ | refine ep_lenE rfl ?_ | refine sp_idx rfl rfl rfl (by omega) rfl ?_ | refine ep_loadS rfl rfl rfl (by first | exact ints_get (by omega) | exact zints_get (by omega) | exact fget (by omega) | assumption) ?_)
      | (refine g_ops ?_; first | refine eo_none ?_ | refine eo_nil ?_)
      | (refine g_code ?_; first | refine ec_seq ?_ | refine ec_region ?_ | refine ec_block ?_ | refine ec_skip ?_ | refine ec_exit ?_ | refine ec_condT rfl ?_ | refine ec_condF rfl ?_ | refine ec_condTH rfl (by assumption) ?_ | refine ec_condFH rfl (by assumption) ?_)
      | refine ek_seqN ?_ | refine ek_seqX ?_ | refine ek_blkN ?_ | refine ek_blkR ?_ | refine ek_blkX ?_ | refine ek_blkY rfl ?_)
    exact rnd_out (by rfl) (by simp) (scmp2 (by rfl) (by rfl) (by exact ⟨rfl, rfl, rfl⟩) (by rfl) (by first | rfl | (simp; done) | (simp [ints, prs]; done)) (by rfl) (by first | rfl | (simp; done) | (simp [ints, prs]; done)))

theorem ev14 (o : Nat) (c : List Int) (hlen : c.length ≤ 1048576) : Ev cx 14 [.sl 0 o c.length] [fblk o (nums .i64 c)] (.sl 1 0 c.length) [fblk o (nums .i64 c), ⟨zints c, 1, 1, some 0, false⟩] := by
  have lp := lp14_0 o c hlen
  rw [zcp_end] at lp
  refine has14.eev rfl rfl ?_
  unfold m14
  repeat' (first
    | refine sp_make (l := zints (zcp c 0)) rfl rfl (by omega) (zcp_mk c) rfl rfl ?_
    | refine sc_loop lp rfl rfl ⟨rfl, rfl, rfl⟩ rfl rfl rfl ?_
    | (refine g_op ?_; first
      | refine ep_mov rfl ?_
      | refine ep_lenS rfl ?_ | refine ep_lenN rfl ?_ | refine ep_lenE rfl ?_)
    | (refine g_ops ?_; first | refine eo_none ?_ | refine eo_nil ?_)
    | (refine g_code ?_; first | refine ec_seq ?_ | refine ec_region ?_ | refine ec_block ?_ | refine ec_ret ?_)
    | refine ek_seqN ?_ | refine ek_seqX ?_ | refine ek_seqR ?_ | refine ek_blkN ?_ | refine ek_blkR ?_ | refine ek_blkX ?_ | refine ek_blkY rfl ?_)
  refine sfin (.inr rfl) (by rfl) (by rfl) (by exact ⟨rfl, rfl, rfl⟩) (by rfl) (by rfl) (by rfl) (by first | rfl | (simp; done) | (simp [ints, prs]; done))
theorem ev14_nils : Ev cx 14 [.nils] [] (.sl 0 0 0) [⟨zints [], 1, 0, some 0, false⟩] := by
  have lp := lp14_0_nils
  refine has14.eev rfl rfl ?_
  unfold m14
  repeat' (first
    | refine sp_make (mm := 0) (l := zints []) rfl rfl (by omega) (zcp_mk []) rfl rfl ?_
    | refine sc_loop lp rfl rfl ⟨rfl, rfl, rfl⟩ rfl rfl rfl ?_
    | (refine g_op ?_; first
      | refine ep_mov rfl ?_
      | refine ep_lenS rfl ?_ | refine ep_lenN rfl ?_ | refine ep_lenE rfl ?_)
    | (refine g_ops ?_; first | refine eo_none ?_ | refine eo_nil ?_)
    | (refine g_code ?_; first | refine ec_seq ?_ | refine ec_region ?_ | refine ec_block ?_ | refine ec_ret ?_)
    | refine ek_seqN ?_ | refine ek_seqX ?_ | refine ek_seqR ?_ | refine ek_blkN ?_ | refine ek_blkR ?_ | refine ek_blkX ?_ | refine ek_blkY rfl ?_)
  refine sfin (.inr rfl) (by rfl) (by rfl) (by exact ⟨rfl, rfl, rfl⟩) (by rfl) (by rfl) (by rfl) (by first | rfl | (simp; done) | (simp [ints, prs]; done))
theorem ev14_emp : Ev cx 14 [.emp] [] (.sl 0 0 0) [⟨zints [], 1, 0, some 0, false⟩] := by
  have lp := lp14_0_emp
  refine has14.eev rfl rfl ?_
  unfold m14
  repeat' (first
    | refine sp_make (mm := 0) (l := zints []) rfl rfl (by omega) (zcp_mk []) rfl rfl ?_
    | refine sc_loop lp rfl rfl ⟨rfl, rfl, rfl⟩ rfl rfl rfl ?_
    | (refine g_op ?_; first
      | refine ep_mov rfl ?_
      | refine ep_lenS rfl ?_ | refine ep_lenN rfl ?_ | refine ep_lenE rfl ?_)
    | (refine g_ops ?_; first | refine eo_none ?_ | refine eo_nil ?_)
    | (refine g_code ?_; first | refine ec_seq ?_ | refine ec_region ?_ | refine ec_block ?_ | refine ec_ret ?_)
    | refine ek_seqN ?_ | refine ek_seqX ?_ | refine ek_seqR ?_ | refine ek_blkN ?_ | refine ek_blkR ?_ | refine ek_blkX ?_ | refine ek_blkY rfl ?_)
  refine sfin (.inr rfl) (by rfl) (by rfl) (by exact ⟨rfl, rfl, rfl⟩) (by rfl) (by rfl) (by rfl) (by first | rfl | (simp; done) | (simp [ints, prs]; done))
-- laws.eqInt64S
def m17_0 : MC := (.seq (.seq (.region [⟨(.mov (.t 5)), (some 11), none⟩, ⟨(.mov (.t 0)), (some 12), none⟩, ⟨(.len (.t 12)), (some 13), none⟩, ⟨(.bin .lss (.t 11) (.t 13)), (some 14), none⟩] false) (.cond (.t 14) .skip (.exit 0))) (.seq (.block 1 (.seq (.region [⟨(.mov (.t 0)), (some 17), none⟩, ⟨(.mov (.t 5)), (some 18), none⟩, ⟨(.indexAddr 1 (.t 17) (.t 18)), (some 19), none⟩, ⟨(.load none (.t 19)), (some 20), none⟩, ⟨(.mov (.t 1)), (some 21), none⟩, ⟨(.mov (.t 5)), (some 22), none⟩, ⟨(.indexAddr 1 (.t 21) (.t 22)), (some 23), none⟩, ⟨(.load none (.t 23)), (some 24), none⟩, ⟨(.bin .neq (.t 20) (.t 24)), (some 25), none⟩] true) (.cond (.t 25) (.seq (.region [⟨(.mov (.k (.bool false))), (some 4), none⟩] false) .ret) .skip))) (.region [⟨(.mov (.t 5)), (some 15), none⟩, ⟨(.bin .add (.t 15) (.k (.int .i64 1))), (some 16), none⟩, ⟨(.mov (.t 16)), (some 5), none⟩] false)))
def m17 : MC := (.seq (.region [⟨(.mov (.k (.bool false))), (some 4), none⟩] false) (.seq (.seq (.region [⟨(.mov (.t 0)), (some 6), none⟩, ⟨(.len (.t 6)), (some 7), none⟩, ⟨(.mov (.t 1)), (some 8), none⟩, ⟨(.len (.t 8)), (some 9), none⟩, ⟨(.bin .neq (.t 7) (.t 9)), (some 10), none⟩] false) (.cond (.t 10) (.seq (.region [⟨(.mov (.k (.bool false))), (some 4), none⟩] false) .ret) .skip)) (.seq (.seq (.region [⟨(.mov (.k (.int .i64 0))), (some 5), none⟩] false) (.block 0 (.loop m17_0))) (.seq (.region [⟨(.mov (.k (.bool true))), (some 4), none⟩] false) .ret))))
theorem has17 : Has cx 17 26 m17 [(.tmp 4)] :=
  ⟨⟨Try.f17, Try.f17.body.getD .skip, by kernel_rfl, by kernel_rfl, by kernel_rfl, by kernel_rfl, by kernel_rfl, by kernel_rfl⟩⟩
theorem lp17_0 (n : Nat) (c d : List V) (f : Nat → Int) (p q : Option Nat) (hn : n ≤ 1048576) (hc : ∀ j, j < n → c[0 + j * 1]? = some (.int .i64 (f j))) (hd : ∀ j, j < n → d[0 + j * 1]? = some (.int .i64 (f j))) :
    LpS cx 26 2 m17_0 [(0, .sl 0 0 n), (1, .sl 1 0 n), (5, .int .i64 (0 : Nat))] [⟨c, 1, 0, p, false⟩, ⟨d, 1, 1, q, false⟩] (⟨.exit 0, [], [⟨c, 1, 0, p, false⟩, ⟨d, 1, 1, q, false⟩]⟩ : Out).x (⟨.exit 0, [], [⟨c, 1, 0, p, false⟩, ⟨d, 1, 1, q, false⟩]⟩ : Out).e (⟨.exit 0, [], [⟨c, 1, 0, p, false⟩, ⟨d, 1, 1, q, false⟩]⟩ : Out).h := by
  refine lp_st (n) (fun _ => ()) (fun i _ => [(0, .sl 0 0 n), (1, .sl 1 0 n), (5, .int .i64 (i : Nat))]) (fun i _ => [⟨c, 1, 0, p, false⟩, ⟨d, 1, 1, q, false⟩]) (fun _ => (⟨.exit 0, [], [⟨c, 1, 0, p, false⟩, ⟨d, 1, 1, q, false⟩]⟩ : Out)) ?_ ?_ (n) 0 (by omega)
  · intro i s hi hs
    refine ⟨(), rfl, ?_⟩
    have hlt : decide ((i : Int) < (n : Nat)) = true := decide_eq_true (by omega)
    have hc1 := hc i hi
    have hd1 := hd i hi
    have hq : (f i != f i) = false := by simp
    unfold m17_0
    repeat' (first
      | (refine g_op ?_; first
        | refine ep_mov rfl ?_ | refine ep_load1 rfl rfl rfl rfl ?_
        | refine ep_bin rfl rfl (by first | exact b_add (by omega) (by omega) | exact b_sub (by omega) (by omega) | exact b_and (by omega) (by omega) | exact b_or (by omega) (by omega) | exact b_shr (by omega) | exact b_shl (by omega) (by omega) | exact b_lss | exact b_leq | exact b_gtr | exact b_geq | exact b_eql | exact b_neq) ?_
        | refine ep_lenS rfl ?_ | refine ep_lenN rfl ?_ | refine ep_lenE rfl ?_ | refine sp_idx rfl rfl rfl (by omega) rfl ?_ | refine ep_loadS rfl rfl rfl (by first | exact ints_get (by omega) | exact zints_get (by omega) | exact fget (by omega) | assumption) ?_)
      | (refine g_ops ?_; first | refine eo_none ?_ | refine eo_nil ?_)
      | (refine g_dops ?_; first | refine ed_none ?_ | refine ed_nil ?_)
      | refine ed_same rfl ?_ | refine ed_one rfl rfl rfl rfl ?_ | refine ed_two rfl rfl rfl rfl rfl rfl rfl ?_ | refine ed_write rfl rfl ?_
      | (refine g_code ?_; first | refine ec_seq ?_ | refine ec_region ?_ | refine ec_draw ?_ | refine ec_block ?_ | refine ec_skip ?_ | refine ec_exit ?_ | refine ec_ret ?_ | refine ec_condT rfl ?_ | refine ec_condF rfl ?_ | refine ec_condTH rfl (by assumption) ?_ | refine ec_condFH rfl (by assumption) ?_)
      | refine ek_seqN ?_ | refine ek_seqX ?_ | refine ek_seqR ?_ | refine ek_blkN ?_ | refine ek_blkR ?_ | refine ek_blkX ?_ | refine ek_blkY rfl ?_)
    exact rnd_on (by rfl) (scmp2 (by rfl) (by rfl) (by exact ⟨rfl, rfl, rfl⟩) (by rfl) (by first | rfl | (simp; done) | (simp [ints, prs]; done)) (by rfl) (by first | rfl | (simp; done) | (simp [ints, prs]; done)))
  · intro s hs
    have hlt : decide (((n : Nat) : Int) < (n : Nat)) = false := decide_eq_false (by omega)
    unfold m17_0
    repeat' (first
      | (refine g_op ?_; first
        | refine ep_mov rfl ?_ | refine ep_load1 rfl rfl rfl rfl ?_
        | refine ep_bin rfl rfl (by first | exact b_add (by omega) (by omega) | exact b_sub (by omega) (by omega) | exact b_and (by omega) (by omega) | exact b_or (by omega) (by omega) | exact b_shr (by omega) | exact b_shl (by omega) (by omega) | exact b_lss | exact b_leq | exact b_gtr | exact b_geq | exact b_eql | exact b_neq) ?_
        | refine ep_lenS rfl ?_ | refine ep_lenN rfl ?_ | refine ep_lenE rfl ?_ | refine sp_idx rfl rfl rfl (by omega) rfl ?_ | refine ep_loadS rfl rfl rfl (by first | exact ints_get (by omega) | exact zints_get (by omega) | exact fget (by omega) | assumption) ?_)
      | (refine g_ops ?_; first | refine eo_none ?_ | refine eo_nil ?_)
      | (refine g_dops ?_; first | refine ed_none ?_ | refine ed_nil ?_)
      | refine ed_same rfl ?_ | refine ed_one rfl rfl rfl rfl ?_ | refine ed_two rfl rfl rfl rfl rfl rfl rfl ?_ | refine ed_write rfl rfl ?_
      | (refine g_code ?_; first | refine ec_seq ?_ | refine ec_region ?_ | refine ec_draw ?_ | refine ec_block ?_ | refine ec_skip ?_ | refine ec_exit ?_ | refine ec_ret ?_ | refine ec_condT rfl ?_ | refine ec_condF rfl ?_ | refine ec_condTH rfl (by assumption) ?_ | refine ec_condFH rfl (by assumption) ?_)
      | refine ek_seqN ?_ | refine ek_seqX ?_ | refine ek_seqR ?_ | refine ek_blkN ?_ | refine ek_blkR ?_ | refine ek_blkX ?_ | refine ek_blkY rfl ?_)
    exact rnd_out (by rfl) (by simp) (scmp2 (by rfl) (by rfl) (by exact ⟨rfl, rfl, rfl⟩) (by rfl) (by first | rfl | (simp; done) | (simp [ints, prs]; done)) (by rfl) (by first | rfl | (simp; done) | (simp [ints, prs]; done)))

theorem ev17 (n : Nat) (c d : List V) (f : Nat → Int) (p q : Option Nat) (hn : n ≤ 1048576) (hc : ∀ j, j < n → c[0 + j * 1]? = some (.int .i64 (f j))) (hd : ∀ j, j < n → d[0 + j * 1]? = some (.int .i64 (f j))) :
    Ev cx 17 [.sl 0 0 n, .sl 1 0 n] [⟨c, 1, 0, p, false⟩, ⟨d, 1, 1, q, false⟩] (.bool true) [⟨c, 1, 0, p, false⟩, ⟨d, 1, 1, q, false⟩] := by
  have lp := lp17_0 n c d f p q hn hc hd
  have hq : (((n : Nat) : Int) != (n : Nat)) = false := by simp
  refine has17.eev rfl rfl ?_
  unfold m17
  repeat' (first
    | refine sc_loop lp rfl rfl ⟨rfl, rfl, rfl⟩ rfl rfl rfl ?_
    | (refine g_op ?_; first
      | refine ep_mov rfl ?_
      | refine ep_bin rfl rfl (by first | exact b_add (by omega) (by omega) | exact b_sub (by omega) (by omega) | exact b_and (by omega) (by omega) | exact b_or (by omega) (by omega) | exact b_shr (by omega) | exact b_shl (by omega) (by omega) | exact b_lss | exact b_leq | exact b_gtr | exact b_geq | exact b_eql | exact b_neq) ?_
      | refine ep_lenS rfl ?_ | refine ep_lenN rfl ?_ | refine ep_lenE rfl ?_)
    | (refine g_ops ?_; first | refine eo_none ?_ | refine eo_nil ?_)
    | (refine g_code ?_; first | refine ec_seq ?_ | refine ec_region ?_ | refine ec_block ?_ | refine ec_skip ?_ | refine ec_ret ?_ | refine ec_condT rfl ?_ | refine ec_condF rfl ?_ | refine ec_condTH rfl (by assumption) ?_ | refine ec_condFH rfl (by assumption) ?_)
    | refine ek_seqN ?_ | refine ek_seqX ?_ | refine ek_seqR ?_ | refine ek_blkN ?_ | refine ek_blkR ?_ | refine ek_blkX ?_ | refine ek_blkY rfl ?_)
  refine sfin (.inr rfl) (by rfl) (by rfl) (by exact ⟨rfl, rfl, rfl⟩) (by rfl) (by rfl) (by rfl) (by first | rfl | (simp; done) | (simp [ints, prs]; done))
theorem lp17_0_nils_nils  :
    LpS cx 26 0 m17_0 [(0, .nils), (1, .nils), (5, .int .i64 (0 : Nat))] [] (⟨.exit 0, [], []⟩ : Out).x (⟨.exit 0, [], []⟩ : Out).e (⟨.exit 0, [], []⟩ : Out).h := by
  refine lp_st (0) (fun _ => ()) (fun i _ => [(0, .nils), (1, .nils), (5, .int .i64 (i : Nat))]) (fun i _ => []) (fun _ => (⟨.exit 0, [], []⟩ : Out)) ?_ ?_ (0) 0 (by omega)
  · intro i s hi hs
    refine ⟨(), rfl, ?_⟩
    exact absurd hi (by simp)
  · intro s hs
    have hlt : decide (((0 : Nat) : Int) < (0 : Nat)) = false := decide_eq_false (by omega)
    unfold m17_0
    repeat' (first
      | (refine g_op ?_; first
        | refine ep_mov rfl ?_ | refine ep_load1 rfl rfl rfl rfl ?_
        | refine ep_bin rfl rfl (by first | exact b_add (by omega) (by omega) | exact b_sub (by omega) (by omega) | exact b_and (by omega) (by omega) | exact b_or (by omega) (by omega) | exact b_shr (by omega) | exact b_shl (by omega) (by omega) | exact b_lss | exact b_leq | exact b_gtr | exact b_geq | exact b_eql | exact b_neq) ?_
        | refine ep_lenS rfl ?_ | refine ep_lenN rfl ?_ | refine ep_lenE rfl ?_ | refine sp_idx rfl rfl rfl (by omega) rfl ?_ | refine ep_loadS rfl rfl rfl (by first | exact ints_get (by omega) | exact zints_get (by omega) | exact fget (by omega) | assumption) ?_)
      | (refine g_ops ?_; first | refine eo_none ?_ | refine eo_nil ?_)
      | (refine g_dops ?_; first | refine ed_none ?_ | refine ed_nil ?_)
      | refine ed_same rfl ?_ | refine ed_one rfl rfl rfl rfl ?_ | refine ed_two rfl rfl rfl rfl rfl rfl rfl ?_ | refine ed_write rfl rfl ?_
      | (refine g_code ?_; first | refine ec_seq ?_ | refine ec_region ?_ | refine ec_draw ?_ | refine ec_block ?_ | refine ec_skip ?_ | refine ec_exit ?_ | refine ec_ret ?_ | refine ec_condT rfl ?_ | refine ec_condF rfl ?_ | refine ec_condTH rfl (by assumption) ?_ | refine ec_condFH rfl (by assumption) ?_)
      | refine ek_seqN ?_ | refine ek_seqX ?_ | refine ek_seqR ?_ | refine ek_blkN ?_ | refine ek_blkR ?_ | refine ek_blkX ?_ | refine ek_blkY rfl ?_)
    exact rnd_out (by rfl) (by simp) (scmp2 (by rfl) (by rfl) (by exact ⟨rfl, rfl, rfl⟩) (by rfl) (by first | rfl | (simp; done) | (simp [ints, prs]; done)) (by rfl) (by first | rfl | (simp; done) | (simp [ints, prs]; done)))

theorem ev17_nils_nils : Ev cx 17 [.nils, .nils] [] (.bool true) [] := by
  have lp := lp17_0_nils_nils
  refine has17.eev rfl rfl ?_
  unfold m17
  repeat' (first
    | refine sc_loop lp rfl rfl ⟨rfl, rfl, rfl⟩ rfl rfl rfl ?_
    | (refine g_op ?_; first
      | refine ep_mov rfl ?_
      | refine ep_bin rfl rfl (by first | exact b_add (by omega) (by omega) | exact b_sub (by omega) (by omega) | exact b_and (by omega) (by omega) | exact b_or (by omega) (by omega) | exact b_shr (by omega) | exact b_shl (by omega) (by omega) | exact b_lss | exact b_leq | exact b_gtr | exact b_geq | exact b_eql | exact b_neq) ?_
      | refine ep_lenS rfl ?_ | refine ep_lenN rfl ?_ | refine ep_lenE rfl ?_)
    | (refine g_ops ?_; first | refine eo_none ?_ | refine eo_nil ?_)
    | (refine g_code ?_; first | refine ec_seq ?_ | refine ec_region ?_ | refine ec_block ?_ | refine ec_skip ?_ | refine ec_ret ?_ | refine ec_condT rfl ?_ | refine ec_condF rfl ?_ | refine ec_condTH rfl (by assumption) ?_ | refine ec_condFH rfl (by assumption) ?_)
    | refine ek_seqN ?_ | refine ek_seqX ?_ | refine ek_seqR ?_ | refine ek_blkN ?_ | refine ek_blkR ?_ | refine ek_blkX ?_ | refine ek_blkY rfl ?_)
  refine sfin (.inr rfl) (by rfl) (by rfl) (by exact ⟨rfl, rfl, rfl⟩) (by rfl) (by rfl) (by rfl) (by first | rfl | (simp; done) | (simp [ints, prs]; done))
theorem lp17_0_nils_emp  :
    LpS cx 26 0 m17_0 [(0, .nils), (1, .emp), (5, .int .i64 (0 : Nat))] [] (⟨.exit 0, [], []⟩ : Out).x (⟨.exit 0, [], []⟩ : Out).e (⟨.exit 0, [], []⟩ : Out).h := by
  refine lp_st (0) (fun _ => ()) (fun i _ => [(0, .nils), (1, .emp), (5, .int .i64 (i : Nat))]) (fun i _ => []) (fun _ => (⟨.exit 0, [], []⟩ : Out)) ?_ ?_ (0) 0 (by omega)
  · intro i s hi hs
    refine ⟨(), rfl, ?_⟩
    exact absurd hi (by simp)
  · intro s hs
    have hlt : decide (((0 : Nat) : Int) < (0 : Nat)) = false := decide_eq_false (by omega)
    unfold m17_0
    repeat' (first
      | (refine g_op ?_; first
        | refine ep_mov rfl ?_ | refine ep_load1 rfl rfl rfl rfl ?_
        | refine ep_bin rfl rfl (by first | exact b_add (by omega) (by omega) | exact b_sub (by omega) (by omega) | exact b_and (by omega) (by omega) | exact b_or (by omega) (by omega) | exact b_shr (by omega) | exact b_shl (by omega) (by omega) | exact b_lss | exact b_leq | exact b_gtr | exact b_geq | exact b_eql | exact b_neq) ?_
        | refine ep_lenS rfl ?_ | refine ep_lenN rfl ?_ | refine ep_lenE rfl ?_ | refine sp_idx rfl rfl rfl (by omega) rfl ?_ | refine ep_loadS rfl rfl rfl (by first | exact ints_get (by omega) | exact zints_get (by omega) | exact fget (by omega) | assumption) ?_)
      | (refine g_ops ?_; first | refine eo_none ?_ | refine eo_nil ?_)
      | (refine g_dops ?_; first | refine ed_none ?_ | refine ed_nil ?_)
      | refine ed_same rfl ?_ | refine ed_one rfl rfl rfl rfl ?_ | refine ed_two rfl rfl rfl rfl rfl rfl rfl ?_ | refine ed_write rfl rfl ?_
      | (refine g_code ?_; first | refine ec_seq ?_ | refine ec_region ?_ | refine ec_draw ?_ | refine ec_block ?_ | refine ec_skip ?_ | refine ec_exit ?_ | refine ec_ret ?_ | refine ec_condT rfl ?_ | refine ec_condF rfl ?_ | refine ec_condTH rfl (by assumption) ?_ | refine ec_condFH rfl (by assumption) ?_)
      | refine ek_seqN ?_ | refine ek_seqX ?_ | refine ek_seqR ?_ | refine ek_blkN ?_ | refine ek_blkR ?_ | refine ek_blkX ?_ | refine ek_blkY rfl ?_)
    exact rnd_out (by rfl) (by simp) (scmp2 (by rfl) (by rfl) (by exact ⟨rfl, rfl, rfl⟩) (by rfl) (by first | rfl | (simp; done) | (simp [ints, prs]; done)) (by rfl) (by first | rfl | (simp; done) | (simp [ints, prs]; done)))

theorem ev17_nils_emp : Ev cx 17 [.nils, .emp] [] (.bool true) [] := by
  have lp := lp17_0_nils_emp
  refine has17.eev rfl rfl ?_
  unfold m17
  repeat' (first
    | refine sc_loop lp rfl rfl ⟨rfl, rfl, rfl⟩ rfl rfl rfl ?_
    | (refine g_op ?_; first
      | refine ep_mov rfl ?_
      | refine ep_bin rfl rfl (by first | exact b_add (by omega) (by omega) | exact b_sub (by omega) (by omega) | exact b_and (by omega) (by omega) | exact b_or (by omega) (by omega) | exact b_shr (by omega) | exact b_shl (by omega) (by omega) | exact b_lss | exact b_leq | exact b_gtr | exact b_geq | exact b_eql | exact b_neq) ?_
      | refine ep_lenS rfl ?_ | refine ep_lenN rfl ?_ | refine ep_lenE rfl ?_)
    | (refine g_ops ?_; first | refine eo_none ?_ | refine eo_nil ?_)
    | (refine g_code ?_; first | refine ec_seq ?_ | refine ec_region ?_ | refine ec_block ?_ | refine ec_skip ?_ | refine ec_ret ?_ | refine ec_condT rfl ?_ | refine ec_condF rfl ?_ | refine ec_condTH rfl (by assumption) ?_ | refine ec_condFH rfl (by assumption) ?_)
    | refine ek_seqN ?_ | refine ek_seqX ?_ | refine ek_seqR ?_ | refine ek_blkN ?_ | refine ek_blkR ?_ | refine ek_blkX ?_ | refine ek_blkY rfl ?_)
  refine sfin (.inr rfl) (by rfl) (by rfl) (by exact ⟨rfl, rfl, rfl⟩) (by rfl) (by rfl) (by rfl) (by first | rfl | (simp; done) | (simp [ints, prs]; done))
theorem lp17_0_emp_nils  :
    LpS cx 26 0 m17_0 [(0, .emp), (1, .nils), (5, .int .i64 (0 : Nat))] [] (⟨.exit 0, [], []⟩ : Out).x (⟨.exit 0, [], []⟩ : Out).e (⟨.exit 0, [], []⟩ : Out).h := by
  refine lp_st (0) (fun _ => ()) (fun i _ => [(0, .emp), (1, .nils), (5, .int .i64 (i : Nat))]) (fun i _ => []) (fun _ => (⟨.exit 0, [], []⟩ : Out)) ?_ ?_ (0) 0 (by omega)
  · intro i s hi hs
    refine ⟨(), rfl, ?_⟩
    exact absurd hi (by simp)
  · intro s hs
    have hlt : decide (((0 : Nat) : Int) < (0 : Nat)) = false := decide_eq_false (by omega)
    unfold m17_0
    repeat' (first
      | (refine g_op ?_; first
        | refine ep_mov rfl ?_ | refine ep_load1 rfl rfl rfl rfl ?_
        | refine ep_bin rfl rfl (by first | exact b_add (by omega) (by omega) | exact b_sub (by omega) (by omega) | exact b_and (by omega) (by omega) | exact b_or (by omega) (by omega) | exact b_shr (by omega) | exact b_shl (by omega) (by omega) | exact b_lss | exact b_leq | exact b_gtr | exact b_geq | exact b_eql | exact b_neq) ?_
        | refine ep_lenS rfl ?_ | refine ep_lenN rfl ?_ | refine ep_lenE rfl ?_ | refine sp_idx rfl rfl rfl (by omega) rfl ?_ | refine ep_loadS rfl rfl rfl (by first | exact ints_get (by omega) | exact zints_get (by omega) | exact fget (by omega) | assumption) ?_)
      | (refine g_ops ?_; first | refine eo_none ?_ | refine eo_nil ?_)
      | (refine g_dops ?_; first | refine ed_none ?_ | refine ed_nil ?_)
      | refine ed_same rfl ?_ | refine ed_one rfl rfl rfl rfl ?_ | refine ed_two rfl rfl rfl rfl rfl rfl rfl ?_ | refine ed_write rfl rfl ?_
      | (refine g_code ?_; first | refine ec_seq ?_ | refine ec_region ?_ | refine ec_draw ?_ | refine ec_block ?_ | refine ec_skip ?_ | refine ec_exit ?_ | refine ec_ret ?_ | refine ec_condT rfl ?_ | refine ec_condF rfl ?_ | refine ec_condTH rfl (by assumption) ?_ | refine ec_condFH rfl (by assumption) ?_)
      | refine ek_seqN ?_ | refine ek_seqX ?_ | refine ek_seqR ?_ | refine ek_blkN ?_ | refine ek_blkR ?_ | refine ek_blkX ?_ | refine ek_blkY rfl ?_)
    exact rnd_out (by rfl) (by simp) (scmp2 (by rfl) (by rfl) (by exact ⟨rfl, rfl, rfl⟩) (by rfl) (by first | rfl | (simp; done) | (simp [ints, prs]; done)) (by rfl) (by first | rfl | (simp; done) | (simp [ints, prs]; done)))

theorem ev17_emp_nils : Ev cx 17 [.emp, .nils] [] (.bool true) [] := by
  have lp := lp17_0_emp_nils
  refine has17.eev rfl rfl ?_
  unfold m17
  repeat' (first
    | refine sc_loop lp rfl rfl ⟨rfl, rfl, rfl⟩ rfl rfl rfl ?_
    | (refine g_op ?_; first
      | refine ep_mov rfl ?_
      | refine ep_bin rfl rfl (by first | exact b_add (by omega) (by omega) | exact b_sub (by omega) (by omega) | exact b_and (by omega) (by omega) | exact b_or (by omega) (by omega) | exact b_shr (by omega) | exact b_shl (by omega) (by omega) | exact b_lss | exact b_leq | exact b_gtr | exact b_geq | exact b_eql | exact b_neq) ?_
      | refine ep_lenS rfl ?_ | refine ep_lenN rfl ?_ | refine ep_lenE rfl ?_)
    | (refine g_ops ?_; first | refine eo_none ?_ | refine eo_nil ?_)
    | (refine g_code ?_; first | refine ec_seq ?_ | refine ec_region ?_ | refine ec_block ?_ | refine ec_skip ?_ | refine ec_ret ?_ | refine ec_condT rfl ?_ | refine ec_condF rfl ?_ | refine ec_condTH rfl (by assumption) ?_ | refine ec_condFH rfl (by assumption) ?_)
    | refine ek_seqN ?_ | refine ek_seqX ?_ | refine ek_seqR ?_ | refine ek_blkN ?_ | refine ek_blkR ?_ | refine ek_blkX ?_ | refine ek_blkY rfl ?_)
  refine sfin (.inr rfl) (by rfl) (by rfl) (by exact ⟨rfl, rfl, rfl⟩) (by rfl) (by rfl) (by rfl) (by first | rfl | (simp; done) | (simp [ints, prs]; done))
theorem lp17_0_emp_emp  :
    LpS cx 26 0 m17_0 [(0, .emp), (1, .emp), (5, .int .i64 (0 : Nat))] [] (⟨.exit 0, [], []⟩ : Out).x (⟨.exit 0, [], []⟩ : Out).e (⟨.exit 0, [], []⟩ : Out).h := by
  refine lp_st (0) (fun _ => ()) (fun i _ => [(0, .emp), (1, .emp), (5, .int .i64 (i : Nat))]) (fun i _ => []) (fun _ => (⟨.exit 0, [], []⟩ : Out)) ?_ ?_ (0) 0 (by omega)
  · intro i s hi hs
    refine ⟨(), rfl, ?_⟩
    exact absurd hi (by simp)
  · intro s hs
    have hlt : decide (((0 : Nat) : Int) < (0 : Nat)) = false := decide_eq_false (by omega)
    unfold m17_0
    repeat' (first
      | (refine g_op ?_; first
        | refine ep_mov rfl ?_ | refine ep_load1 rfl rfl rfl rfl ?_
        | refine ep_bin rfl rfl (by first | exact b_add (by omega) (by omega) | exact b_sub (by omega) (by omega) | exact b_and (by omega) (by omega) | exact b_or (by omega) (by omega) | exact b_shr (by omega) | exact b_shl (by omega) (by omega) | exact b_lss | exact b_leq | exact b_gtr | exact b_geq | exact b_eql | exact b_neq) ?_
        | refine ep_lenS rfl ?_ | refine ep_lenN rfl ?_ | refine ep_lenE rfl ?_ | refine sp_idx rfl rfl rfl (by omega) rfl ?_ | refine ep_loadS rfl rfl rfl (by first | exact ints_get (by omega) | exact zints_get (by omega) | exact fget (by omega) | assumption) ?_)
      | (refine g_ops ?_; first | refine eo_none ?_ | refine eo_nil ?_)
      | (refine g_dops ?_; first | refine ed_none ?_ | refine ed_nil ?_)
      | refine ed_same rfl ?_ | refine ed_one rfl rfl rfl rfl ?_ | refine ed_two rfl rfl rfl rfl rfl rfl rfl ?_ | refine ed_write rfl rfl ?_
      | (refine g_code ?_; first | refine ec_seq ?_ | refine ec_region ?_ | refine ec_draw ?_ | refine ec_block ?_ | refine ec_skip ?_ | refine ec_exit ?_ | refine ec_ret ?_ | refine ec_condT rfl ?_ | refine ec_condF rfl ?_ | refine ec_condTH rfl (by assumption) ?_ | refine ec_condFH rfl (by assumption) ?_)
      | refine ek_seqN ?_ | refine ek_seqX ?_ | refine ek_seqR ?_ | refine ek_blkN ?_ | refine ek_blkR ?_ | refine ek_blkX ?_ | refine ek_blkY rfl ?_)
    exact rnd_out (by rfl) (by simp) (scmp2 (by rfl) (by rfl) (by exact ⟨rfl, rfl, rfl⟩) (by rfl) (by first | rfl | (simp; done) | (simp [ints, prs]; done)) (by rfl) (by first | rfl | (simp; done) | (simp [ints, prs]; done)))

theorem ev17_emp_emp : Ev cx 17 [.emp, .emp] [] (.bool true) [] := by
  have lp := lp17_0_emp_emp
  refine has17.eev rfl rfl ?_
  unfold m17
  repeat' (first
    | refine sc_loop lp rfl rfl ⟨rfl, rfl, rfl⟩ rfl rfl rfl ?_
    | (refine g_op ?_; first
      | refine ep_mov rfl ?_
      | refine ep_bin rfl rfl (by first | exact b_add (by omega) (by omega) | exact b_sub (by omega) (by omega) | exact b_and (by omega) (by omega) | exact b_or (by omega) (by omega) | exact b_shr (by omega) | exact b_shl (by omega) (by omega) | exact b_lss | exact b_leq | exact b_gtr | exact b_geq | exact b_eql | exact b_neq) ?_
      | refine ep_lenS rfl ?_ | refine ep_lenN rfl ?_ | refine ep_lenE rfl ?_)
    | (refine g_ops ?_; first | refine eo_none ?_ | refine eo_nil ?_)
    | (refine g_code ?_; first | refine ec_seq ?_ | refine ec_region ?_ | refine ec_block ?_ | refine ec_skip ?_ | refine ec_ret ?_ | refine ec_condT rfl ?_ | refine ec_condF rfl ?_ | refine ec_condTH rfl (by assumption) ?_ | refine ec_condFH rfl (by assumption) ?_)
    | refine ek_seqN ?_ | refine ek_seqX ?_ | refine ek_seqR ?_ | refine ek_blkN ?_ | refine ek_blkR ?_ | refine ek_blkX ?_ | refine ek_blkY rfl ?_)
  refine sfin (.inr rfl) (by rfl) (by rfl) (by exact ⟨rfl, rfl, rfl⟩) (by rfl) (by rfl) (by rfl) (by first | rfl | (simp; done) | (simp [ints, prs]; done))

def inR (n : Nat) (r : Int) : Bool := decide (0 ≤ r ∧ r ≤ (R2 n : Nat) - 1)
-- slices.IndexFunc[[]int64,int64]
def m69_0 : MC := (.seq (.region [⟨(.bin .lss (.t 8) (.t 7)), (some 9), none⟩] false) (.seq (.cond (.t 9) .skip (.exit 0)) (.seq (.block 1 (.seq (.region [⟨(.mov (.t 8)), (some 10), none⟩, ⟨(.mov (.t 10)), (some 5), none⟩] false) (.seq (.region [⟨(.mov (.t 1)), (some 11), none⟩, ⟨(.mov (.t 0)), (some 12), none⟩, ⟨(.mov (.t 5)), (some 13), none⟩, ⟨(.indexAddr 1 (.t 12) (.t 13)), (some 14), none⟩, ⟨(.load none (.t 14)), (some 15), none⟩, ⟨(.callv (.t 11) [(.t 15)]), (some 16), none⟩] false) (.cond (.t 16) (.seq (.region [⟨(.mov (.t 5)), (some 17), none⟩, ⟨(.mov (.t 17)), (some 4), none⟩] false) .ret) .skip)))) (.region [⟨(.bin .add (.t 8) (.k (.int .i64 1))), (some 18), none⟩, ⟨(.mov (.t 18)), (some 8), none⟩] false))))
def m69 : MC := (.seq (.region [⟨(.mov (.k (.int .i64 0))), (some 4), none⟩] false) (.seq (.seq (.region [⟨(.mov (.t 0)), (some 6), none⟩, ⟨(.len (.t 6)), (some 7), none⟩, ⟨(.mov (.k (.int .i64 0))), (some 8), none⟩] false) (.block 0 (.loop m69_0))) (.seq (.region [⟨(.mov (.k (.int .i64 (-1)))), (some 4), none⟩] false) .ret)))
theorem has69 : Has cx 69 19 m69 [(.tmp 4)] :=
  ⟨⟨Try.f69, Try.f69.body.getD .skip, by kernel_rfl, by kernel_rfl, by kernel_rfl, by kernel_rfl, by kernel_rfl, by kernel_rfl⟩⟩

-- slices.ContainsFunc[[]int64,int64]
def m42 : MC := (.seq (.region [⟨(.mov (.k (.bool false))), (some 4), none⟩] false) (.seq (.region [⟨(.mov (.t 0)), (some 5), none⟩, ⟨(.mov (.t 1)), (some 6), none⟩, ⟨(.call 69 [(.t 5), (.t 6)]), (some 7), none⟩, ⟨(.bin .geq (.t 7) (.k (.int .i64 0))), (some 8), none⟩, ⟨(.mov (.t 8)), (some 4), none⟩] false) .ret))
theorem has42 : Has cx 42 9 m42 [(.tmp 4)] :=
  ⟨⟨Try.f42, Try.f42.body.getD .skip, by kernel_rfl, by kernel_rfl, by kernel_rfl, by kernel_rfl, by kernel_rfl, by kernel_rfl⟩⟩

-- laws.eqFunc
def m16 : MC := (.seq (.region [⟨(.box (.t 0)), (some 2), none⟩, ⟨(.box (.t 1)), (some 3), none⟩, ⟨(.mov (.k (.bool false))), (some 4), none⟩] false) (.seq (.seq (.region [⟨(.fieldAddr 0 (.t 2)), (some 5), none⟩, ⟨(.load none (.t 5)), (some 6), none⟩, ⟨(.fieldAddr 0 (.t 3)), (some 7), none⟩, ⟨(.load none (.t 7)), (some 8), none⟩, ⟨(.bin .neq (.t 6) (.t 8)), (some 9), none⟩] false) (.cond (.t 9) (.seq (.region [⟨(.mov (.k (.bool false))), (some 4), none⟩] false) .ret) .skip)) (.seq (.seq (.region [⟨(.fieldAddr 1 (.t 2)), (some 10), none⟩, ⟨(.load none (.t 10)), (some 11), none⟩, ⟨(.fieldAddr 1 (.t 3)), (some 12), none⟩, ⟨(.load none (.t 12)), (some 13), none⟩, ⟨(.bin .neq (.t 11) (.t 13)), (some 14), none⟩] false) (.cond (.t 14) (.seq (.region [⟨(.mov (.k (.bool false))), (some 4), none⟩] false) .ret) .skip)) (.seq (.region [⟨(.mov (.k (.bool true))), (some 4), none⟩] false) .ret))))
theorem has16 : Has cx 16 15 m16 [(.tmp 4)] :=
  ⟨⟨Try.f16, Try.f16.body.getD .skip, by kernel_rfl, by kernel_rfl, by kernel_rfl, by kernel_rfl, by kernel_rfl, by kernel_rfl⟩⟩
theorem ev16 (a b : Int) : Ev cx 16 [.agg [.int .i64 a, .int .i64 b], .agg [.int .i64 a, .int .i64 b]] [] (.bool true) [] := by
  have h1 : (a != a) = false := by simp
  have h2 : (b != b) = false := by simp
  refine has16.eev rfl rfl ?_
  unfold m16
  repeat' (first
    | (refine g_op ?_; first
      | refine ep_mov rfl ?_ | refine ep_load1 rfl rfl rfl rfl ?_ | refine ep_fieldAddr rfl ?_
      | refine ep_bin rfl rfl (by first | exact b_add (by omega) (by omega) | exact b_sub (by omega) (by omega) | exact b_and (by omega) (by omega) | exact b_or (by omega) (by omega) | exact b_shr (by omega) | exact b_shl (by omega) (by omega) | exact b_lss | exact b_leq | exact b_gtr | exact b_geq | exact b_eql | exact b_neq) ?_
      | refine sp_box rfl rfl rfl rfl rfl ?_)
    | (refine g_ops ?_; first | refine eo_none ?_ | refine eo_nil ?_)
    | (refine g_code ?_; first | refine ec_seq ?_ | refine ec_region ?_ | refine ec_skip ?_ | refine ec_ret ?_ | refine ec_condT rfl ?_ | refine ec_condF rfl ?_ | refine ec_condTH rfl (by assumption) ?_ | refine ec_condFH rfl (by assumption) ?_)
    | refine ek_seqN ?_ | refine ek_seqR ?_)
  refine sfin (.inr rfl) (by rfl) (by rfl) (by exact ⟨rfl, rfl, rfl⟩) (by rfl) (by rfl) (by rfl) (by first | rfl | (simp; done) | (simp [ints, prs]; done))
def d01 (z : Int) : Bool := decide (0 ≤ z ∧ z ≤ 1)
def digs (c : List Int) : Bool := allF (fun j => d01 (c.getD j 0)) 0 c.length
-- impl.areDigits$1
def m79 : MC := (.seq (.region [⟨(.mov (.k (.bool false))), (some 2), none⟩] false) (.seq (.region [⟨(.mov (.t 0)), (some 3), none⟩, ⟨(.call 34 [(.t 3), (.k (.int .i64 0)), (.k (.int .i64 1))]), (some 4), none⟩, ⟨(.un .not (.t 4)), (some 5), none⟩, ⟨(.mov (.t 5)), (some 2), none⟩] false) .ret))
theorem has79 : Has cx 79 6 m79 [(.tmp 2)] :=
  ⟨⟨Try.f79, Try.f79.body.getD .skip, by kernel_rfl, by kernel_rfl, by kernel_rfl, by kernel_rfl, by kernel_rfl, by kernel_rfl⟩⟩
theorem ev79 (z : Int) : Ev cx 79 [.int .i64 z] [] (.bool (!d01 z)) [] := by
  refine has79.eev rfl rfl ?_
  unfold m79
  repeat' (first
    | (refine g_op ?_; first
      | refine ep_mov rfl ?_
      | refine ep_call0 rfl (by first | exact ev34 _ _ _) rfl rfl ?_
      | refine sp_call rfl rfl rfl rfl (by first | exact ev34 _ _ _) ⟨rfl, rfl, rfl, rfl⟩ rfl rfl rfl ?_
      | refine ep_not rfl ?_)
    | (refine g_ops ?_; first | refine eo_none ?_ | refine eo_nil ?_)
    | (refine g_code ?_; first | refine ec_seq ?_ | refine ec_region ?_ | refine ec_ret ?_)
    | refine ek_seqN ?_ | refine ek_seqR ?_)
  refine sfin (.inr rfl) (by rfl) (by rfl) (by exact ⟨rfl, rfl, rfl⟩) (by rfl) (by rfl) (by rfl) (by first | rfl | (simp; done) | (simp [ints, prs]; done))
theorem lpix_dig (c : List Int) (hlen : c.length ≤ 1048576) (o : Out) (ho : (match firstF (fun i => !(fun j => !d01 (c.getD j 0)) i) 0 (c.length) with | none => (⟨.exit 0, [], [⟨zints c, 1, 0, some 0, false⟩]⟩ : Out) | some x => ⟨.ret, [(4, .int .i64 (x : Nat))], [⟨zints c, 1, 0, some 0, false⟩]⟩) = o) :
    LpS cx 19 1 m69_0 [(0, .sl 0 0 c.length), (1, .fn 79 []), (7, .int .i64 (c.length : Nat)), (8, .int .i64 (0 : Nat))] [⟨zints c, 1, 0, some 0, false⟩] o.x o.e o.h := by
  refine lp_brk (c.length) (fun i => !(fun j => !d01 (c.getD j 0)) i) (fun _ => ()) (fun i _ => [(0, .sl 0 0 c.length), (1, .fn 79 []), (7, .int .i64 (c.length : Nat)), (8, .int .i64 (i : Nat))]) (fun i _ => [⟨zints c, 1, 0, some 0, false⟩]) (fun _ => ⟨.exit 0, [], [⟨zints c, 1, 0, some 0, false⟩]⟩) (fun i _ => ⟨.ret, [(4, .int .i64 (i : Nat))], [⟨zints c, 1, 0, some 0, false⟩]⟩) ?_ ?_ ?_ (c.length) 0 o (by omega) (fun h => by rw [← ho, firstF_none fun x h1 h2 => h x h1 (by omega)]) (fun x h1 h2 h3 h4 => by rw [← ho, firstF_some h1 (by omega) h3 h4])
  · intro i s hi hs hp
    have hlt : decide ((i : Int) < (c.length : Nat)) = true := decide_eq_true (by omega)
    have hp' : (!(fun j => !d01 (c.getD j 0)) i) = true := hp
    refine ⟨(), rfl, ?_⟩
    have e0 := ev79 (c.getD i 0)
    have hq : (!d01 (c.getD i 0)) = !((!(fun j => !d01 (c.getD j 0)) i)) := by simp
    rw [hp'] at hq
    rw [hq] at e0
    unfold m69_0
    repeat' (first
      | (refine g_op ?_; first
        | refine ep_mov rfl ?_ | refine ep_load1 rfl rfl rfl rfl ?_
        | refine sp_callv rfl rfl rfl rfl rfl rfl (by first | exact e0) ⟨rfl, rfl, rfl, rfl⟩ rfl rfl rfl ?_
        | refine ep_bin rfl rfl (by first | exact b_add (by omega) (by omega) | exact b_sub (by omega) (by omega) | exact b_and (by omega) (by omega) | exact b_or (by omega) (by omega) | exact b_shr (by omega) | exact b_shl (by omega) (by omega) | exact b_lss | exact b_leq | exact b_gtr | exact b_geq | exact b_eql | exact b_neq) ?_
        | refine sp_idx rfl rfl rfl (by omega) rfl ?_ | refine ep_loadS rfl rfl rfl (by first | exact ints_get (by omega) | exact zints_get (by omega) | exact fget (by omega) | assumption) ?_)
      | (refine g_ops ?_; first | refine eo_none ?_ | refine eo_nil ?_)
      | (refine g_code ?_; first | refine ec_seq ?_ | refine ec_region ?_ | refine ec_block ?_ | refine ec_skip ?_ | refine ec_exit ?_ | refine ec_ret ?_ | refine ec_condT rfl ?_ | refine ec_condF rfl ?_ | refine ec_condTH rfl (by assumption) ?_ | refine ec_condFH rfl (by assumption) ?_)
      | refine ek_seqN ?_ | refine ek_seqX ?_ | refine ek_seqR ?_ | refine ek_blkN ?_ | refine ek_blkR ?_ | refine ek_blkX ?_ | refine ek_blkY rfl ?_)
    exact rnd_on (by rfl) (scmp2 (by rfl) (by rfl) (by exact ⟨rfl, rfl, rfl⟩) (by rfl) (by first | rfl | (simp; done) | (simp [ints, prs]; done)) (by rfl) (by first | rfl | (simp; done) | (simp [ints, prs]; done)))
  · intro i s hi hs hp
    have hlt : decide ((i : Int) < (c.length : Nat)) = true := decide_eq_true (by omega)
    have hp' : (!(fun j => !d01 (c.getD j 0)) i) = false := hp
    have e0 := ev79 (c.getD i 0)
    have hq : (!d01 (c.getD i 0)) = !((!(fun j => !d01 (c.getD j 0)) i)) := by simp
    rw [hp'] at hq
    rw [hq] at e0
    unfold m69_0
    repeat' (first
      | (refine g_op ?_; first
        | refine ep_mov rfl ?_ | refine ep_load1 rfl rfl rfl rfl ?_
        | refine sp_callv rfl rfl rfl rfl rfl rfl (by first | exact e0) ⟨rfl, rfl, rfl, rfl⟩ rfl rfl rfl ?_
        | refine ep_bin rfl rfl (by first | exact b_add (by omega) (by omega) | exact b_sub (by omega) (by omega) | exact b_and (by omega) (by omega) | exact b_or (by omega) (by omega) | exact b_shr (by omega) | exact b_shl (by omega) (by omega) | exact b_lss | exact b_leq | exact b_gtr | exact b_geq | exact b_eql | exact b_neq) ?_
        | refine sp_idx rfl rfl rfl (by omega) rfl ?_ | refine ep_loadS rfl rfl rfl (by first | exact ints_get (by omega) | exact zints_get (by omega) | exact fget (by omega) | assumption) ?_)
      | (refine g_ops ?_; first | refine eo_none ?_ | refine eo_nil ?_)
      | (refine g_code ?_; first | refine ec_seq ?_ | refine ec_region ?_ | refine ec_block ?_ | refine ec_skip ?_ | refine ec_exit ?_ | refine ec_ret ?_ | refine ec_condT rfl ?_ | refine ec_condF rfl ?_ | refine ec_condTH rfl (by assumption) ?_ | refine ec_condFH rfl (by assumption) ?_)
      | refine ek_seqN ?_ | refine ek_seqX ?_ | refine ek_seqR ?_ | refine ek_blkN ?_ | refine ek_blkR ?_ | refine ek_blkX ?_ | refine ek_blkY rfl ?_)
    exact rnd_out (by rfl) (by simp) (scmp2 (by rfl) (by rfl) (by exact ⟨rfl, rfl, rfl⟩) (by rfl) (by first | rfl | (simp; done) | (simp [ints, prs]; done)) (by rfl) (by first | rfl | (simp; done) | (simp [ints, prs]; done)))
  · intro s hs
    have hlt : decide (((c.length : Nat) : Int) < (c.length : Nat)) = false := decide_eq_false (by omega)
    unfold m69_0
    repeat' (first
      | (refine g_op ?_; first
        | refine ep_mov rfl ?_ | refine ep_load1 rfl rfl rfl rfl ?_
        | refine sp_callv rfl rfl rfl rfl rfl rfl (by first | exact e0) ⟨rfl, rfl, rfl, rfl⟩ rfl rfl rfl ?_
        | refine ep_bin rfl rfl (by first | exact b_add (by omega) (by omega) | exact b_sub (by omega) (by omega) | exact b_and (by omega) (by omega) | exact b_or (by omega) (by omega) | exact b_shr (by omega) | exact b_shl (by omega) (by omega) | exact b_lss | exact b_leq | exact b_gtr | exact b_geq | exact b_eql | exact b_neq) ?_
        | refine sp_idx rfl rfl rfl (by omega) rfl ?_ | refine ep_loadS rfl rfl rfl (by first | exact ints_get (by omega) | exact zints_get (by omega) | exact fget (by omega) | assumption) ?_)
      | (refine g_ops ?_; first | refine eo_none ?_ | refine eo_nil ?_)
      | (refine g_code ?_; first | refine ec_seq ?_ | refine ec_region ?_ | refine ec_block ?_ | refine ec_skip ?_ | refine ec_exit ?_ | refine ec_ret ?_ | refine ec_condT rfl ?_ | refine ec_condF rfl ?_ | refine ec_condTH rfl (by assumption) ?_ | refine ec_condFH rfl (by assumption) ?_)
      | refine ek_seqN ?_ | refine ek_seqX ?_ | refine ek_seqR ?_ | refine ek_blkN ?_ | refine ek_blkR ?_ | refine ek_blkX ?_ | refine ek_blkY rfl ?_)
    exact rnd_out (by rfl) (by simp) (scmp2 (by rfl) (by rfl) (by exact ⟨rfl, rfl, rfl⟩) (by rfl) (by first | rfl | (simp; done) | (simp [ints, prs]; done)) (by rfl) (by first | rfl | (simp; done) | (simp [ints, prs]; done)))
theorem evix_dig (c : List Int) (hlen : c.length ≤ 1048576) : Ev cx 69 [.sl 0 0 c.length, .fn 79 []] [⟨zints c, 1, 0, some 0, false⟩] (.int .i64 (match firstF (fun i => !(fun j => !d01 (c.getD j 0)) i) 0 (c.length) with | none => -1 | some x => ((x : Nat) : Int))) [⟨zints c, 1, 0, some 0, false⟩] := by
  cases hs : firstF (fun i => !(fun j => !d01 (c.getD j 0)) i) 0 (c.length) with
  | none =>
    have lp := lpix_dig c hlen _ (by rw [hs])
    refine has69.eev rfl rfl ?_
    unfold m69
    repeat' (first
      | refine sc_loop lp rfl rfl ⟨rfl, rfl, rfl⟩ rfl rfl rfl ?_
      | (refine g_op ?_; first
        | refine ep_mov rfl ?_
        | refine ep_lenS rfl ?_ | refine ep_lenN rfl ?_ | refine ep_lenE rfl ?_)
      | (refine g_ops ?_; first | refine eo_none ?_ | refine eo_nil ?_)
      | (refine g_code ?_; first | refine ec_seq ?_ | refine ec_region ?_ | refine ec_block ?_ | refine ec_ret ?_)
      | refine ek_seqN ?_ | refine ek_seqX ?_ | refine ek_seqR ?_ | refine ek_blkN ?_ | refine ek_blkR ?_ | refine ek_blkX ?_ | refine ek_blkY rfl ?_)
    refine sfin (.inr rfl) (by rfl) (by rfl) (by exact ⟨rfl, rfl, rfl⟩) (by rfl) (by rfl) (by rfl) (by first | rfl | (simp; done) | (simp [ints, prs]; done))
  | some x =>
    have lp := lpix_dig c hlen _ (by rw [hs])
    refine has69.eev rfl rfl ?_
    unfold m69
    repeat' (first
      | refine sc_loop lp rfl rfl ⟨rfl, rfl, rfl⟩ rfl rfl rfl ?_
      | (refine g_op ?_; first
        | refine ep_mov rfl ?_
        | refine ep_lenS rfl ?_ | refine ep_lenN rfl ?_ | refine ep_lenE rfl ?_)
      | (refine g_ops ?_; first | refine eo_none ?_ | refine eo_nil ?_)
      | (refine g_code ?_; first | refine ec_seq ?_ | refine ec_region ?_ | refine ec_block ?_ | refine ec_ret ?_)
      | refine ek_seqN ?_ | refine ek_seqX ?_ | refine ek_seqR ?_ | refine ek_blkN ?_ | refine ek_blkR ?_ | refine ek_blkX ?_ | refine ek_blkY rfl ?_)
    refine sfin (.inr rfl) (by rfl) (by rfl) (by exact ⟨rfl, rfl, rfl⟩) (by rfl) (by rfl) (by rfl) (by first | rfl | (simp; done) | (simp [ints, prs]; done))
theorem evcf_dig (c : List Int) (hlen : c.length ≤ 1048576) : Ev cx 42 [.sl 0 0 c.length, .fn 79 []] [⟨zints c, 1, 0, some 0, false⟩] (.bool (!allF (fun i => !(fun j => !d01 (c.getD j 0)) i) 0 (c.length))) [⟨zints c, 1, 0, some 0, false⟩] := by
  have e1 := evix_dig c hlen
  cases hs : firstF (fun i => !(fun j => !d01 (c.getD j 0)) i) 0 (c.length) with
  | none =>
    rw [hs] at e1
    refine has42.eev rfl rfl ?_
    unfold m42
    repeat' (first
      | (refine g_op ?_; first
        | refine ep_mov rfl ?_
        | refine ep_call0 rfl (by first | exact e1) rfl rfl ?_
        | refine sp_call rfl rfl rfl rfl (by first | exact e1) ⟨rfl, rfl, rfl, rfl⟩ rfl rfl rfl ?_
        | refine ep_bin rfl rfl (by first | exact b_add (by omega) (by omega) | exact b_sub (by omega) (by omega) | exact b_and (by omega) (by omega) | exact b_or (by omega) (by omega) | exact b_shr (by omega) | exact b_shl (by omega) (by omega) | exact b_lss | exact b_leq | exact b_gtr | exact b_geq | exact b_eql | exact b_neq) ?_)
      | (refine g_ops ?_; first | refine eo_none ?_ | refine eo_nil ?_)
      | (refine g_code ?_; first | refine ec_seq ?_ | refine ec_region ?_ | refine ec_ret ?_)
      | refine ek_seqN ?_ | refine ek_seqR ?_)
    refine sfin (.inr rfl) (by rfl) (by rfl) (by exact ⟨rfl, rfl, rfl⟩) (by rfl) (by rfl) (by rw [firstF_allT hs]; rfl) (by first | rfl | (simp; done) | (simp [ints, prs]; done))
  | some x =>
    rw [hs] at e1
    have hge : decide (((x : Nat) : Int) ≥ 0) = true := decide_eq_true (by omega)
    refine has42.eev rfl rfl ?_
    unfold m42
    repeat' (first
      | (refine g_op ?_; first
        | refine ep_mov rfl ?_
        | refine ep_call0 rfl (by first | exact e1) rfl rfl ?_
        | refine sp_call rfl rfl rfl rfl (by first | exact e1) ⟨rfl, rfl, rfl, rfl⟩ rfl rfl rfl ?_
        | refine ep_bin rfl rfl (by first | exact b_add (by omega) (by omega) | exact b_sub (by omega) (by omega) | exact b_and (by omega) (by omega) | exact b_or (by omega) (by omega) | exact b_shr (by omega) | exact b_shl (by omega) (by omega) | exact b_lss | exact b_leq | exact b_gtr | exact b_geq | exact b_eql | exact b_neq) ?_)
      | (refine g_ops ?_; first | refine eo_none ?_ | refine eo_nil ?_)
      | (refine g_code ?_; first | refine ec_seq ?_ | refine ec_region ?_ | refine ec_ret ?_)
      | refine ek_seqN ?_ | refine ek_seqR ?_)
    refine sfin (.inr rfl) (by rfl) (by rfl) (by exact ⟨rfl, rfl, rfl⟩) (by rfl) (by rfl) (by rw [firstF_allF hs]; first | rfl | exact congrArg V.bool hge) (by first | rfl | (simp; done) | (simp [ints, prs]; done))

-- impl.areDigits
def m61 : MC := (.seq (.region [⟨(.mov (.k (.bool false))), (some 2), none⟩] false) (.seq (.region [⟨(.mov (.t 0)), (some 3), none⟩, ⟨(.call 42 [(.t 3), (.k (.fn 79 []))]), (some 4), none⟩, ⟨(.un .not (.t 4)), (some 5), none⟩, ⟨(.mov (.t 5)), (some 2), none⟩] false) .ret))
theorem has61 : Has cx 61 6 m61 [(.tmp 2)] :=
  ⟨⟨Try.f61, Try.f61.body.getD .skip, by kernel_rfl, by kernel_rfl, by kernel_rfl, by kernel_rfl, by kernel_rfl, by kernel_rfl⟩⟩
theorem ev61 (c : List Int) (hlen : c.length ≤ 1048576) : Ev cx 61 [.sl 0 0 c.length] [⟨zints c, 1, 0, some 0, false⟩] (.bool (digs c)) [⟨zints c, 1, 0, some 0, false⟩] := by
  have e2 := evcf_dig c hlen
  rw [show (fun i => !(fun j => !d01 (c.getD j 0)) i) = fun j => d01 (c.getD j 0) by funext j; simp] at e2
  rw [show allF (fun j => d01 (c.getD j 0)) 0 c.length = digs c from rfl] at e2
  refine has61.eev rfl rfl ?_
  unfold m61
  repeat' (first
    | (refine g_op ?_; first
      | refine ep_mov rfl ?_
      | refine ep_call0 rfl (by first | exact e2) rfl rfl ?_
      | refine sp_call rfl rfl rfl rfl (by first | exact e2) ⟨rfl, rfl, rfl, rfl⟩ rfl rfl rfl ?_
      | refine ep_not rfl ?_)
    | (refine g_ops ?_; first | refine eo_none ?_ | refine eo_nil ?_)
    | (refine g_code ?_; first | refine ec_seq ?_ | refine ec_region ?_ | refine ec_ret ?_)
    | refine ek_seqN ?_ | refine ek_seqR ?_)
  refine sfin (.inr rfl) (by rfl) (by rfl) (by exact ⟨rfl, rfl, rfl⟩) (by rfl) (by rfl) (by exact congrArg V.bool (by simp)) (by first | rfl | (simp; done) | (simp [ints, prs]; done))
-- spec.l01Bits
def m59_0 : MC := (.seq (.seq (.region [⟨(.mov (.t 3)), (some 4), none⟩, ⟨(.mov (.t 0)), (some 5), none⟩, ⟨(.len (.t 5)), (some 6), none⟩, ⟨(.bin .lss (.t 4) (.t 6)), (some 7), none⟩] false) (.cond (.t 7) .skip (.exit 0))) (.seq (.block 1 (.seq (.region [⟨(.mov (.t 0)), (some 10), none⟩, ⟨(.mov (.t 3)), (some 11), none⟩, ⟨(.indexAddr 1 (.t 10) (.t 11)), (some 12), none⟩, ⟨(.load none (.t 12)), (some 13), none⟩, ⟨(.call 31 [(.t 13), (.k (.int .i64 0)), (.k (.int .i64 1))]), (some 14), none⟩, ⟨(.un .not (.t 14)), (some 15), none⟩] false) (.cond (.t 15) (.seq (.region [⟨(.mov (.k (.bool false))), (some 2), none⟩] false) .ret) .skip))) (.region [⟨(.mov (.t 3)), (some 8), none⟩, ⟨(.bin .add (.t 8) (.k (.int .i64 1))), (some 9), none⟩, ⟨(.mov (.t 9)), (some 3), none⟩] false)))
def m59 : MC := (.seq (.region [⟨(.mov (.k (.bool false))), (some 2), none⟩] false) (.seq (.seq (.region [⟨(.mov (.k (.int .i64 0))), (some 3), none⟩] false) (.block 0 (.loop m59_0))) (.seq (.region [⟨(.mov (.k (.bool true))), (some 2), none⟩] false) .ret)))
theorem has59 : Has cx 59 16 m59 [(.tmp 2)] :=
  ⟨⟨Try.f59, Try.f59.body.getD .skip, by kernel_rfl, by kernel_rfl, by kernel_rfl, by kernel_rfl, by kernel_rfl, by kernel_rfl⟩⟩
theorem lp59_0 (c : List Int) (hlen : c.length ≤ 1048576) (o : Out) (ho : (if allF (fun j => d01 (c.getD j 0)) 0 (c.length) = true then (⟨.exit 0, [], [⟨zints c, 1, 0, some 0, false⟩]⟩ : Out) else ⟨.ret, [(2, .bool false)], [⟨zints c, 1, 0, some 0, false⟩]⟩) = o) :
    LpS cx 16 1 m59_0 [(0, .sl 0 0 c.length), (3, .int .i64 (0 : Nat))] [⟨zints c, 1, 0, some 0, false⟩] o.x o.e o.h := by
  refine lp_all (c.length) (fun j => d01 (c.getD j 0)) (fun i => [(0, .sl 0 0 c.length), (3, .int .i64 (i : Nat))]) (fun i => [⟨zints c, 1, 0, some 0, false⟩]) _ _ ?_ ?_ ?_ (c.length) 0 o (by omega) ho
  · intro i hi hp
    have hlt : decide ((i : Int) < (c.length : Nat)) = true := decide_eq_true (by omega)
    have hp' : (d01 (c.getD i 0)) = true := hp
    have e1 := ev31 (c.getD i 0) 0 1
    rw [show decide (0 ≤ c.getD i 0 ∧ c.getD i 0 ≤ 1) = _ from hp] at e1
    unfold m59_0
    repeat' (first
      | (refine g_op ?_; first
        | refine ep_mov rfl ?_ | refine ep_load1 rfl rfl rfl rfl ?_
        | refine ep_call0 rfl (by first | exact e1) rfl rfl ?_
        | refine sp_call rfl rfl rfl rfl (by first | exact e1) ⟨rfl, rfl, rfl, rfl⟩ rfl rfl rfl ?_
        | refine ep_bin rfl rfl (by first | exact b_add (by omega) (by omega) | exact b_sub (by omega) (by omega) | exact b_and (by omega) (by omega) | exact b_or (by omega) (by omega) | exact b_shr (by omega) | exact b_shl (by omega) (by omega) | exact b_lss | exact b_leq | exact b_gtr | exact b_geq | exact b_eql | exact b_neq) ?_
        | refine ep_not rfl ?_ | refine ep_lenS rfl ?_ | refine ep_lenN rfl ?_ | refine ep_lenE rfl ?_ | refine sp_idx rfl rfl rfl (by omega) rfl ?_ | refine ep_loadS rfl rfl rfl (by first | exact ints_get (by omega) | exact zints_get (by omega) | exact fget (by omega) | assumption) ?_)
      | (refine g_ops ?_; first | refine eo_none ?_ | refine eo_nil ?_)
      | (refine g_code ?_; first | refine ec_seq ?_ | refine ec_region ?_ | refine ec_block ?_ | refine ec_skip ?_ | refine ec_exit ?_ | refine ec_ret ?_ | refine ec_condT rfl ?_ | refine ec_condF rfl ?_ | refine ec_condTH rfl (by assumption) ?_ | refine ec_condFH rfl (by assumption) ?_)
      | refine ek_seqN ?_ | refine ek_seqX ?_ | refine ek_seqR ?_ | refine ek_blkN ?_ | refine ek_blkR ?_ | refine ek_blkX ?_ | refine ek_blkY rfl ?_)
    exact rnd_on (by rfl) (scmp2 (by rfl) (by rfl) (by exact ⟨rfl, rfl, rfl⟩) (by rfl) (by first | rfl | (simp; done) | (simp [ints, prs]; done)) (by rfl) (by first | rfl | (simp; done) | (simp [ints, prs]; done)))
  · intro i hi hp
    have hlt : decide ((i : Int) < (c.length : Nat)) = true := decide_eq_true (by omega)
    have hp' : (d01 (c.getD i 0)) = false := hp
    have e1 := ev31 (c.getD i 0) 0 1
    rw [show decide (0 ≤ c.getD i 0 ∧ c.getD i 0 ≤ 1) = _ from hp] at e1
    unfold m59_0
    repeat' (first
      | (refine g_op ?_; first
        | refine ep_mov rfl ?_ | refine ep_load1 rfl rfl rfl rfl ?_
        | refine ep_call0 rfl (by first | exact e1) rfl rfl ?_
        | refine sp_call rfl rfl rfl rfl (by first | exact e1) ⟨rfl, rfl, rfl, rfl⟩ rfl rfl rfl ?_
        | refine ep_bin rfl rfl (by first | exact b_add (by omega) (by omega) | exact b_sub (by omega) (by omega) | exact b_and (by omega) (by omega) | exact b_or (by omega) (by omega) | exact b_shr (by omega) | exact b_shl (by omega) (by omega) | exact b_lss | exact b_leq | exact b_gtr | exact b_geq | exact b_eql | exact b_neq) ?_
        | refine ep_not rfl ?_ | refine ep_lenS rfl ?_ | refine ep_lenN rfl ?_ | refine ep_lenE rfl ?_ | refine sp_idx rfl rfl rfl (by omega) rfl ?_ | refine ep_loadS rfl rfl rfl (by first | exact ints_get (by omega) | exact zints_get (by omega) | exact fget (by omega) | assumption) ?_)
      | (refine g_ops ?_; first | refine eo_none ?_ | refine eo_nil ?_)
      | (refine g_code ?_; first | refine ec_seq ?_ | refine ec_region ?_ | refine ec_block ?_ | refine ec_skip ?_ | refine ec_exit ?_ | refine ec_ret ?_ | refine ec_condT rfl ?_ | refine ec_condF rfl ?_ | refine ec_condTH rfl (by assumption) ?_ | refine ec_condFH rfl (by assumption) ?_)
      | refine ek_seqN ?_ | refine ek_seqX ?_ | refine ek_seqR ?_ | refine ek_blkN ?_ | refine ek_blkR ?_ | refine ek_blkX ?_ | refine ek_blkY rfl ?_)
    exact rnd_out (by rfl) (by simp) (scmp2 (by rfl) (by rfl) (by exact ⟨rfl, rfl, rfl⟩) (by rfl) (by first | rfl | (simp; done) | (simp [ints, prs]; done)) (by rfl) (by first | rfl | (simp; done) | (simp [ints, prs]; done)))
  · have hlt : decide (((c.length : Nat) : Int) < (c.length : Nat)) = false := decide_eq_false (by omega)
    unfold m59_0
    repeat' (first
      | (refine g_op ?_; first
        | refine ep_mov rfl ?_ | refine ep_load1 rfl rfl rfl rfl ?_
        | refine ep_call0 rfl (by first | exact e1) rfl rfl ?_
        | refine sp_call rfl rfl rfl rfl (by first | exact e1) ⟨rfl, rfl, rfl, rfl⟩ rfl rfl rfl ?_
        | refine ep_bin rfl rfl (by first | exact b_add (by omega) (by omega) | exact b_sub (by omega) (by omega) | exact b_and (by omega) (by omega) | exact b_or (by omega) (by omega) | exact b_shr (by omega) | exact b_shl (by omega) (by omega) | exact b_lss | exact b_leq | exact b_gtr | exact b_geq | exact b_eql | exact b_neq) ?_
        | refine ep_not rfl ?_ | refine ep_lenS rfl ?_ | refine ep_lenN rfl ?_ | refine ep_lenE rfl ?_ | refine sp_idx rfl rfl rfl (by omega) rfl ?_ | refine ep_loadS rfl rfl rfl (by first | exact ints_get (by omega) | exact zints_get (by omega) | exact fget (by omega) | assumption) ?_)
      | (refine g_ops ?_; first | refine eo_none ?_ | refine eo_nil ?_)
      | (refine g_code ?_; first | refine ec_seq ?_ | refine ec_region ?_ | refine ec_block ?_ | refine ec_skip ?_ | refine ec_exit ?_ | refine ec_ret ?_ | refine ec_condT rfl ?_ | refine ec_condF rfl ?_ | refine ec_condTH rfl (by assumption) ?_ | refine ec_condFH rfl (by assumption) ?_)
      | refine ek_seqN ?_ | refine ek_seqX ?_ | refine ek_seqR ?_ | refine ek_blkN ?_ | refine ek_blkR ?_ | refine ek_blkX ?_ | refine ek_blkY rfl ?_)
    exact rnd_out (by rfl) (by simp) (scmp2 (by rfl) (by rfl) (by exact ⟨rfl, rfl, rfl⟩) (by rfl) (by first | rfl | (simp; done) | (simp [ints, prs]; done)) (by rfl) (by first | rfl | (simp; done) | (simp [ints, prs]; done)))

theorem ev59 (c : List Int) (hlen : c.length ≤ 1048576) : Ev cx 59 [.sl 0 0 c.length] [⟨zints c, 1, 0, some 0, false⟩] (.bool (digs c)) [⟨zints c, 1, 0, some 0, false⟩] := by
  cases h3 : digs c
  · have lp := lp59_0 c hlen _ (if_neg (by rw [show allF (fun j => d01 (c.getD j 0)) 0 c.length = _ from h3]; simp))
    refine has59.eev rfl rfl ?_
    unfold m59
    repeat' (first
      | refine sc_loop lp rfl rfl ⟨rfl, rfl, rfl⟩ rfl rfl rfl ?_
      | (refine g_op ?_; first
        | refine ep_mov rfl ?_)
      | (refine g_ops ?_; first | refine eo_none ?_ | refine eo_nil ?_)
      | (refine g_code ?_; first | refine ec_seq ?_ | refine ec_region ?_ | refine ec_block ?_ | refine ec_ret ?_)
      | refine ek_seqN ?_ | refine ek_seqX ?_ | refine ek_seqR ?_ | refine ek_blkN ?_ | refine ek_blkR ?_ | refine ek_blkX ?_ | refine ek_blkY rfl ?_)
    refine sfin (.inr rfl) (by rfl) (by rfl) (by exact ⟨rfl, rfl, rfl⟩) (by rfl) (by rfl) (by rfl) (by first | rfl | (simp; done) | (simp [ints, prs]; done))
  · have lp := lp59_0 c hlen _ (if_pos h3)
    refine has59.eev rfl rfl ?_
    unfold m59
    repeat' (first
      | refine sc_loop lp rfl rfl ⟨rfl, rfl, rfl⟩ rfl rfl rfl ?_
      | (refine g_op ?_; first
        | refine ep_mov rfl ?_)
      | (refine g_ops ?_; first | refine eo_none ?_ | refine eo_nil ?_)
      | (refine g_code ?_; first | refine ec_seq ?_ | refine ec_region ?_ | refine ec_block ?_ | refine ec_ret ?_)
      | refine ek_seqN ?_ | refine ek_seqX ?_ | refine ek_seqR ?_ | refine ek_blkN ?_ | refine ek_blkR ?_ | refine ek_blkX ?_ | refine ek_blkY rfl ?_)
    refine sfin (.inr rfl) (by rfl) (by rfl) (by exact ⟨rfl, rfl, rfl⟩) (by rfl) (by rfl) (by rfl) (by first | rfl | (simp; done) | (simp [ints, prs]; done))
def lvG (l : List Nat) (r : Nat) : Nat := l.getD (pop r 16) 0
theorem pop_n {r n : Nat} (hn : n ≤ 4) (h : r < R2 n) : pop r 16 ≤ n := by
  have : R2 n ≤ R2 4 := R2_mono hn
  have h3 : n < R2 n := by unfold R2; exact Nat.lt_two_pow_self
  have e1 : pop r 16 = pop r n := by
    refine pop_ge (n := n) ?_ 16 (by omega)
    exact h
  rw [e1]; exact pop_le r n
-- impl.FuncOfLevels$1
def m62 : MC := (.seq (.region [⟨(.mov (.k (.int .i64 0))), (some 3), none⟩] false) (.seq (.region [⟨(.load none (.t 1)), (some 4), none⟩, ⟨(.mov (.t 0)), (some 5), none⟩, ⟨(.call 63 [(.t 5)]), (some 6), none⟩, ⟨(.indexAddr 1 (.t 4) (.t 6)), (some 7), none⟩, ⟨(.load none (.t 7)), (some 8), none⟩, ⟨(.mov (.t 8)), (some 3), none⟩] true) .ret))
theorem has62 : Has cx 62 9 m62 [(.tmp 3)] :=
  ⟨⟨Try.f62, Try.f62.body.getD .skip, by kernel_rfl, by kernel_rfl, by kernel_rfl, by kernel_rfl, by kernel_rfl, by kernel_rfl⟩⟩
theorem ev62 (n r : Nat) (l : List Nat) (hn : n ≤ 4) (hl : l.length = n + 1) (hr : r < R2 n) : Ev cx 62 [.int .i64 r, .ptr 0 0] [⟨[.sl 1 0 l.length], 1, 0, some 0, true⟩, ⟨ints l, 1, 1, some 0, false⟩] (.int .i64 (lvG l r : Nat)) [⟨[.sl 1 0 l.length], 1, 0, some 0, true⟩, ⟨ints l, 1, 1, some 0, false⟩] := by
  obtain ⟨h1, h2, h3, h4⟩ := shN hn
  have hp := pop_n hn hr
  refine has62.eev rfl rfl ?_
  unfold m62
  repeat' (first
    | (refine g_op ?_; first
      | refine ep_mov rfl ?_ | refine ep_load1 rfl rfl rfl rfl ?_
      | refine ep_call0 rfl (by first | exact ev63 r (by omega) (swar16 r (by omega))) rfl rfl ?_
      | refine sp_call rfl rfl rfl rfl (by first | exact ev63 r (by omega) (swar16 r (by omega))) ⟨rfl, rfl, rfl, rfl⟩ rfl rfl rfl ?_
      | refine sp_idx rfl rfl rfl (by omega) rfl ?_ | refine ep_loadS rfl rfl rfl (by first | exact ints_get (by omega) | exact zints_get (by omega) | exact fget (by omega) | assumption) ?_)
    | (refine g_ops ?_; first | refine eo_none ?_ | refine eo_nil ?_)
    | (refine g_dops ?_; first | refine ed_none ?_ | refine ed_nil ?_)
    | refine ed_same rfl ?_ | refine ed_one rfl rfl rfl rfl ?_ | refine ed_two rfl rfl rfl rfl rfl rfl rfl ?_ | refine ed_write rfl rfl ?_
    | (refine g_code ?_; first | refine ec_seq ?_ | refine ec_region ?_ | refine ec_draw ?_ | refine ec_ret ?_)
    | refine ek_seqN ?_ | refine ek_seqR ?_)
  refine sfin (.inr rfl) (by rfl) (by rfl) (by exact ⟨rfl, rfl, rfl⟩) (by rfl) (by rfl) (by rfl) (by first | rfl | (simp; done) | (simp [ints, prs]; done))
theorem lpfb_fol (n : Nat) (l : List Nat) (hn : n ≤ 4) (hl : l.length = n + 1) (h01 : ∀ j, j < l.length → l.getD j 0 ≤ 1) :
    LpS cx 25 2 m45_0 [(1, .fn 62 [.ptr 0 0]), (4, .ptr 2 0), (5, .ptr 3 0), (10, .int .i64 (R2 (n) : Nat)), (11, .int .i64 (0 : Nat))] [⟨[.sl 1 0 l.length], 1, 0, some 0, true⟩, ⟨ints l, 1, 1, some 0, false⟩, ⟨[.int .i64 0, .int .i64 0], 1, 2, some 0, true⟩, ⟨[.int .i64 (n : Nat), .int .i64 (pk (lvG l) (0) : Nat)], 1, 3, some 0, true⟩] (⟨.exit 0, [(4, .ptr 2 0), (5, .ptr 3 0)], [⟨[.sl 1 0 l.length], 1, 0, some 0, true⟩, ⟨ints l, 1, 1, some 0, false⟩, ⟨[.int .i64 0, .int .i64 0], 1, 2, some 0, true⟩, ⟨[.int .i64 (n : Nat), .int .i64 (pk (lvG l) (R2 (n)) : Nat)], 1, 3, some 0, true⟩]⟩ : Out).x (⟨.exit 0, [(4, .ptr 2 0), (5, .ptr 3 0)], [⟨[.sl 1 0 l.length], 1, 0, some 0, true⟩, ⟨ints l, 1, 1, some 0, false⟩, ⟨[.int .i64 0, .int .i64 0], 1, 2, some 0, true⟩, ⟨[.int .i64 (n : Nat), .int .i64 (pk (lvG l) (R2 (n)) : Nat)], 1, 3, some 0, true⟩]⟩ : Out).e (⟨.exit 0, [(4, .ptr 2 0), (5, .ptr 3 0)], [⟨[.sl 1 0 l.length], 1, 0, some 0, true⟩, ⟨ints l, 1, 1, some 0, false⟩, ⟨[.int .i64 0, .int .i64 0], 1, 2, some 0, true⟩, ⟨[.int .i64 (n : Nat), .int .i64 (pk (lvG l) (R2 (n)) : Nat)], 1, 3, some 0, true⟩]⟩ : Out).h := by
  obtain ⟨h1, h2, h3, h4⟩ := shN hn
  have hgl : ∀ r, r < R2 (n) → (lvG l) r ≤ 1 := fun r hr => h01 _ (by have := pop_n hn hr; omega)
  refine lp_st (R2 (n)) (fun _ => ()) (fun i _ => [(1, .fn 62 [.ptr 0 0]), (4, .ptr 2 0), (5, .ptr 3 0), (10, .int .i64 (R2 (n) : Nat)), (11, .int .i64 (i : Nat))]) (fun i _ => [⟨[.sl 1 0 l.length], 1, 0, some 0, true⟩, ⟨ints l, 1, 1, some 0, false⟩, ⟨[.int .i64 0, .int .i64 0], 1, 2, some 0, true⟩, ⟨[.int .i64 (n : Nat), .int .i64 (pk (lvG l) (i) : Nat)], 1, 3, some 0, true⟩]) (fun _ => (⟨.exit 0, [(4, .ptr 2 0), (5, .ptr 3 0)], [⟨[.sl 1 0 l.length], 1, 0, some 0, true⟩, ⟨ints l, 1, 1, some 0, false⟩, ⟨[.int .i64 0, .int .i64 0], 1, 2, some 0, true⟩, ⟨[.int .i64 (n : Nat), .int .i64 (pk (lvG l) (R2 (n)) : Nat)], 1, 3, some 0, true⟩]⟩ : Out)) ?_ ?_ (R2 (n)) 0 (by omega)
  · intro i s hi hs
    refine ⟨(), rfl, ?_⟩
    have hlt : decide ((i : Int) < (R2 (n) : Nat)) = true := decide_eq_true (by omega)
    have hg := hgl i hi
    have hp0 := pk_lt (g := lvG l) (n := i) fun r hr => hgl r (by omega)
    have hp1 := R2_mono (i := i) (n := R2 (n)) (by omega)
    have hs := sl_lt hg hi
    have hp2 := or_lt (n := R2 (n)) (show pk (lvG l) i < R2 (R2 (n)) by omega) hs
    unfold m45_0
    repeat' (first
      | (refine g_op ?_; first
        | refine ep_mov rfl ?_ | refine ep_load1 rfl rfl rfl rfl ?_ | refine ep_fieldAddr rfl ?_
        | refine sp_callv rfl rfl rfl rfl rfl rfl (by first | exact ev62 n i l hn hl hi) ⟨rfl, rfl, rfl, rfl⟩ rfl rfl rfl ?_
        | refine ep_bin rfl rfl (by first | exact b_add (by omega) (by omega) | exact b_sub (by omega) (by omega) | exact b_and (by omega) (by omega) | exact b_or (by omega) (by omega) | exact b_shr (by omega) | exact b_shl (by omega) (by omega) | exact b_lss | exact b_leq | exact b_gtr | exact b_geq | exact b_eql | exact b_neq) ?_
        | refine sp_store rfl rfl rfl rfl rfl rfl rfl rfl rfl rfl ?_)
      | (refine g_ops ?_; first | refine eo_none ?_ | refine eo_nil ?_)
      | (refine g_dops ?_; first | refine ed_none ?_ | refine ed_nil ?_)
      | refine ed_same rfl ?_ | refine ed_one rfl rfl rfl rfl ?_ | refine ed_two rfl rfl rfl rfl rfl rfl rfl ?_ | refine ed_write rfl rfl ?_
      | (refine g_code ?_; first | refine ec_seq ?_ | refine ec_region ?_ | refine ec_draw ?_ | refine ec_block ?_ | refine ec_skip ?_ | refine ec_exit ?_ | refine ec_condT rfl ?_ | refine ec_condF rfl ?_ | refine ec_condTH rfl (by assumption) ?_ | refine ec_condFH rfl (by assumption) ?_)
      | refine ek_seqN ?_ | refine ek_seqX ?_ | refine ek_blkN ?_ | refine ek_blkR ?_ | refine ek_blkX ?_ | refine ek_blkY rfl ?_)
    exact rnd_on (by rfl) (scmp2 (by rfl) (by rfl) (by exact ⟨rfl, rfl, rfl⟩) (by rfl) (by first | rfl | (simp; done) | (simp [ints, prs]; done)) (by rfl) (by first | rfl | (simp; done) | (simp [ints, prs]; done)))
  · intro s hs
    have hlt : decide (((R2 (n) : Nat) : Int) < (R2 (n) : Nat)) = false := decide_eq_false (by omega)
    unfold m45_0
    repeat' (first
      | (refine g_op ?_; first
        | refine ep_mov rfl ?_ | refine ep_load1 rfl rfl rfl rfl ?_ | refine ep_fieldAddr rfl ?_
        | refine sp_callv rfl rfl rfl rfl rfl rfl (by first | exact ev62 n i l hn hl hi) ⟨rfl, rfl, rfl, rfl⟩ rfl rfl rfl ?_
        | refine ep_bin rfl rfl (by first | exact b_add (by omega) (by omega) | exact b_sub (by omega) (by omega) | exact b_and (by omega) (by omega) | exact b_or (by omega) (by omega) | exact b_shr (by omega) | exact b_shl (by omega) (by omega) | exact b_lss | exact b_leq | exact b_gtr | exact b_geq | exact b_eql | exact b_neq) ?_
        | refine sp_store rfl rfl rfl rfl rfl rfl rfl rfl rfl rfl ?_)
      | (refine g_ops ?_; first | refine eo_none ?_ | refine eo_nil ?_)
      | (refine g_dops ?_; first | refine ed_none ?_ | refine ed_nil ?_)
      | refine ed_same rfl ?_ | refine ed_one rfl rfl rfl rfl ?_ | refine ed_two rfl rfl rfl rfl rfl rfl rfl ?_ | refine ed_write rfl rfl ?_
      | (refine g_code ?_; first | refine ec_seq ?_ | refine ec_region ?_ | refine ec_draw ?_ | refine ec_block ?_ | refine ec_skip ?_ | refine ec_exit ?_ | refine ec_condT rfl ?_ | refine ec_condF rfl ?_ | refine ec_condTH rfl (by assumption) ?_ | refine ec_condFH rfl (by assumption) ?_)
      | refine ek_seqN ?_ | refine ek_seqX ?_ | refine ek_blkN ?_ | refine ek_blkR ?_ | refine ek_blkX ?_ | refine ek_blkY rfl ?_)
    exact rnd_out (by rfl) (by simp) (scmp2 (by rfl) (by rfl) (by exact ⟨rfl, rfl, rfl⟩) (by rfl) (by first | rfl | (simp; done) | (simp [ints, prs]; done)) (by rfl) (by first | rfl | (simp; done) | (simp [ints, prs]; done)))
theorem evfb_fol (n : Nat) (l : List Nat) (hn : n ≤ 4) (hl : l.length = n + 1) (h01 : ∀ j, j < l.length → l.getD j 0 ≤ 1) : Ev cx 45 [.int .i64 (n : Nat), .fn 62 [.ptr 0 0]] [⟨[.sl 1 0 l.length], 1, 0, some 0, true⟩, ⟨ints l, 1, 1, some 0, false⟩] (.agg [.int .i64 (n : Nat), .int .i64 (pk (lvG l) (R2 (n)) : Nat)]) [⟨[.sl 1 0 l.length], 1, 0, some 0, true⟩, ⟨ints l, 1, 1, some 0, false⟩] := by
  obtain ⟨h1, h2, h3, h4⟩ := shN hn
  have lp := lpfb_fol n l hn hl h01
  refine has45.eev rfl rfl ?_
  unfold m45
  repeat' (first
    | refine sc_loop lp rfl rfl ⟨rfl, rfl, rfl⟩ rfl rfl rfl ?_
    | (refine g_op ?_; first
      | refine ep_mov rfl ?_ | refine sp_loadN rfl rfl rfl rfl rfl ?_
      | refine ep_call0 rfl (by first | exact ev44 _ hn) rfl rfl ?_
      | refine sp_call rfl rfl rfl rfl (by first | exact ev44 _ hn) ⟨rfl, rfl, rfl, rfl⟩ rfl rfl rfl ?_
      | refine sp_store rfl rfl rfl rfl rfl rfl rfl rfl rfl rfl ?_ | refine sp_alloc rfl rfl ?_ | refine sp_build rfl rfl ?_)
    | (refine g_ops ?_; first | refine eo_none ?_ | refine eo_nil ?_)
    | (refine g_code ?_; first | refine ec_seq ?_ | refine ec_region ?_ | refine ec_block ?_ | refine ec_ret ?_)
    | refine ek_seqN ?_ | refine ek_seqX ?_ | refine ek_seqR ?_ | refine ek_blkN ?_ | refine ek_blkR ?_ | refine ek_blkX ?_ | refine ek_blkY rfl ?_)
  refine sfin (.inr rfl) (by rfl) (by rfl) (by exact ⟨rfl, rfl, rfl⟩) (by rfl) (by rfl) (by rfl) (by first | rfl | (simp; done) | (simp [ints, prs]; done))

theorem digs_nat {c : List Int} (h : digs c = true) : zints c = ints (c.map Int.toNat) ∧ ∀ j, j < (c.map Int.toNat).length → (c.map Int.toNat).getD j 0 ≤ 1 := by
  rw [digs, allF_iff] at h
  have key : ∀ j (hj : j < c.length), 0 ≤ c[j] ∧ c[j] ≤ 1 := by
    intro j hj
    have := h j (Nat.zero_le _) (by omega)
    simp only [d01, decide_eq_true_eq, List.getD_eq_getElem?_getD, List.getElem?_eq_getElem hj, Option.getD_some] at this
    omega
  refine ⟨?_, fun j hj => ?_⟩
  · simp only [zints, ints, List.map_map]
    apply List.map_congr_left
    intro x hx
    obtain ⟨j, hj, rfl⟩ := List.getElem_of_mem hx
    have := key j hj
    simp only [Function.comp]; congr 1; omega
  · simp only [List.length_map] at hj
    have := key j hj
    rw [List.getD_eq_getElem?_getD, List.getElem?_map, List.getElem?_eq_getElem hj]
    simp only [Option.map_some, Option.getD_some]; omega
def folR (c : List Int) : RR := if (1 ≤ c.length ∧ c.length ≤ 5) ∧ digs c = true then ⟨((c.length - 1 : Nat) : Int), (pk (lvG (c.map Int.toNat)) (R2 (c.length - 1)) : Nat), 0⟩ else ⟨0, 0, 2⟩
-- impl.FuncOfLevels
def m29 : MC := (.seq (.region [⟨(.box (.t 0)), (some 1), none⟩, ⟨(.alloc [(.int .i64 0), (.int .i64 0)]), (some 2), none⟩, ⟨(.mov (.k (.int .i64 0))), (some 3), none⟩] false) (.seq (.region [⟨(.load none (.t 1)), (some 5), none⟩, ⟨(.len (.t 5)), (some 6), none⟩, ⟨(.bin .sub (.t 6) (.k (.int .i64 1))), (some 7), none⟩, ⟨(.mov (.t 7)), (some 4), none⟩] false) (.seq (.seq (.region [⟨(.mov (.t 4)), (some 8), none⟩, ⟨(.call 41 [(.t 8)]), (some 9), none⟩, ⟨(.un .not (.t 9)), (some 10), none⟩, ⟨(.mov (.t 10)), (some 11), none⟩, ⟨(.load none (.t 1)), (some 12), (some (11, false))⟩, ⟨(.call 61 [(.t 12)]), (some 13), (some (11, false))⟩, ⟨(.un .not (.t 13)), (some 14), (some (11, false))⟩, ⟨(.pick (.t 11) (.k (.bool true)) (.t 14)), (some 15), none⟩] false) (.cond (.t 15) (.seq (.region [⟨(.build [(.int .i64 0), (.int .i64 0)] []), (some 16), none⟩, ⟨(.store 2 (.t 2) (.t 16)), none, none⟩, ⟨(.mov (.k (.int .i64 2))), (some 3), none⟩] false) .ret) .skip)) (.seq (.region [⟨(.mov (.t 4)), (some 17), none⟩, ⟨(.mkfn 62 [(.t 1)]), (some 18), none⟩, ⟨(.call 45 [(.t 17), (.t 18)]), (some 19), none⟩, ⟨(.store 2 (.t 2) (.t 19)), none, none⟩, ⟨(.mov (.k (.int .i64 0))), (some 3), none⟩] false) .ret))))
theorem has29 : Has cx 29 20 m29 [(.cell 2 (some 2)), (.tmp 3)] :=
  ⟨⟨Try.f29, Try.f29.body.getD .skip, by kernel_rfl, by kernel_rfl, by kernel_rfl, by kernel_rfl, by kernel_rfl, by kernel_rfl⟩⟩
theorem ev29 (c : List Int) (hlen : c.length ≤ 1048576) : Ev cx 29 [.sl 0 0 c.length] [⟨zints c, 1, 0, some 0, false⟩] (rr (folR c)) [⟨zints c, 1, 0, some 0, false⟩] := by
  have e1 := ev41 ((c.length : Nat) - 1)
  by_cases h1 : 1 ≤ c.length ∧ c.length ≤ 5
  · rw [decide_eq_true (by omega)] at e1
    have e2 := ev61 c hlen
    cases h3 : digs c
    · rw [h3] at e2
      refine has29.eev rfl rfl ?_
      unfold m29
      repeat' (first
        | (refine g_op ?_; first
          | refine ep_mov rfl ?_ | refine ep_load1 rfl rfl rfl rfl ?_
          | refine ep_call0 rfl (by first | exact e1 | exact e2) rfl rfl ?_
          | refine sp_call rfl rfl rfl rfl (by first | exact e1 | exact e2) ⟨rfl, rfl, rfl, rfl⟩ rfl rfl rfl ?_
          | refine ep_bin rfl rfl (by first | exact b_add (by omega) (by omega) | exact b_sub (by omega) (by omega) | exact b_and (by omega) (by omega) | exact b_or (by omega) (by omega) | exact b_shr (by omega) | exact b_shl (by omega) (by omega) | exact b_lss | exact b_leq | exact b_gtr | exact b_geq | exact b_eql | exact b_neq) ?_
          | refine ep_pickT rfl rfl ?_ | refine ep_pickF rfl rfl ?_ | refine ep_pickTH rfl (by assumption) rfl ?_ | refine ep_pickFH rfl (by assumption) rfl ?_ | refine sp_store rfl rfl rfl rfl rfl rfl rfl rfl rfl rfl ?_
          | refine ep_not rfl ?_ | refine ep_lenS rfl ?_ | refine ep_lenN rfl ?_ | refine ep_lenE rfl ?_ | refine sp_box rfl rfl rfl rfl rfl ?_ | refine sp_alloc rfl rfl ?_ | refine sp_build rfl rfl ?_
          | refine ep_mkfn rfl ?_)
        | (refine g_ops ?_; first | refine eo_none ?_ | refine eo_nil ?_ | refine eo_yes rfl ?_ | refine eo_no rfl ?_ | refine eo_und rfl ?_ | refine eo_yesH rfl (by assumption) ?_ | refine eo_noH rfl (by assumption) ?_)
        | (refine g_code ?_; first | refine ec_seq ?_ | refine ec_region ?_ | refine ec_skip ?_ | refine ec_ret ?_ | refine ec_condT rfl ?_ | refine ec_condF rfl ?_ | refine ec_condTH rfl (by assumption) ?_ | refine ec_condFH rfl (by assumption) ?_)
        | refine ek_seqN ?_ | refine ek_seqR ?_)
      refine sfin (.inr rfl) (by rfl) (by rfl) (by exact ⟨rfl, rfl, rfl⟩) (by rfl) (by rfl) (by rw [folR, if_neg (fun h => by rw [h3] at h; simp at h)]) (by first | rfl | (simp; done) | (simp [ints, prs]; done))
    · rw [h3] at e2
      obtain ⟨k1, k2⟩ := digs_nat h3
      have e3 := evfb_fol (c.length - 1) (c.map Int.toNat) (by omega) (by simp; omega) k2
      have hb := b_sub1 (a := c.length) h1.1 (by omega)
      rw [show ((c.length : Nat) : Int) - 1 = ((c.length - 1 : Nat) : Int) by omega] at e1
      rw [← k1, List.length_map] at e3
      refine has29.eev rfl rfl ?_
      unfold m29
      repeat' (first
        | (refine g_op ?_; first
          | refine ep_mov rfl ?_ | refine ep_load1 rfl rfl rfl rfl ?_
          | refine ep_call0 rfl (by first | exact e1 | exact e2 | exact e3) rfl rfl ?_
          | refine sp_call rfl rfl rfl rfl (by first | exact e1 | exact e2 | exact e3) ⟨rfl, rfl, rfl, rfl⟩ rfl rfl rfl ?_
          | refine ep_bin rfl rfl (by first | exact hb | exact b_add (by omega) (by omega) | exact b_sub (by omega) (by omega) | exact b_and (by omega) (by omega) | exact b_or (by omega) (by omega) | exact b_shr (by omega) | exact b_shl (by omega) (by omega) | exact b_lss | exact b_leq | exact b_gtr | exact b_geq | exact b_eql | exact b_neq) ?_
          | refine ep_pickT rfl rfl ?_ | refine ep_pickF rfl rfl ?_ | refine ep_pickTH rfl (by assumption) rfl ?_ | refine ep_pickFH rfl (by assumption) rfl ?_ | refine sp_store rfl rfl rfl rfl rfl rfl rfl rfl rfl rfl ?_
          | refine ep_not rfl ?_ | refine ep_lenS rfl ?_ | refine ep_lenN rfl ?_ | refine ep_lenE rfl ?_ | refine sp_box rfl rfl rfl rfl rfl ?_ | refine sp_alloc rfl rfl ?_ | refine sp_build rfl rfl ?_
          | refine ep_mkfn rfl ?_)
        | (refine g_ops ?_; first | refine eo_none ?_ | refine eo_nil ?_ | refine eo_yes rfl ?_ | refine eo_no rfl ?_ | refine eo_und rfl ?_ | refine eo_yesH rfl (by assumption) ?_ | refine eo_noH rfl (by assumption) ?_)
        | (refine g_code ?_; first | refine ec_seq ?_ | refine ec_region ?_ | refine ec_skip ?_ | refine ec_ret ?_ | refine ec_condT rfl ?_ | refine ec_condF rfl ?_ | refine ec_condTH rfl (by assumption) ?_ | refine ec_condFH rfl (by assumption) ?_)
        | refine ek_seqN ?_ | refine ek_seqR ?_)
      refine sfin (.inr rfl) (by rfl) (by rfl) (by exact ⟨rfl, rfl, rfl⟩) (by rfl) (by rfl) (by rw [folR, if_pos ⟨h1, h3⟩]; try rfl) (by first | rfl | (simp; done) | (simp [ints, prs]; done))
  · rw [decide_eq_false (by omega)] at e1
    refine has29.eev rfl rfl ?_
    unfold m29
    repeat' (first
      | (refine g_op ?_; first
        | refine ep_mov rfl ?_ | refine ep_load1 rfl rfl rfl rfl ?_
        | refine ep_call0 rfl (by first | exact e1) rfl rfl ?_
        | refine sp_call rfl rfl rfl rfl (by first | exact e1) ⟨rfl, rfl, rfl, rfl⟩ rfl rfl rfl ?_
        | refine ep_bin rfl rfl (by first | exact b_add (by omega) (by omega) | exact b_sub (by omega) (by omega) | exact b_and (by omega) (by omega) | exact b_or (by omega) (by omega) | exact b_shr (by omega) | exact b_shl (by omega) (by omega) | exact b_lss | exact b_leq | exact b_gtr | exact b_geq | exact b_eql | exact b_neq) ?_
        | refine ep_pickT rfl rfl ?_ | refine ep_pickF rfl rfl ?_ | refine ep_pickTH rfl (by assumption) rfl ?_ | refine ep_pickFH rfl (by assumption) rfl ?_ | refine sp_store rfl rfl rfl rfl rfl rfl rfl rfl rfl rfl ?_
        | refine ep_not rfl ?_ | refine ep_lenS rfl ?_ | refine ep_lenN rfl ?_ | refine ep_lenE rfl ?_ | refine sp_box rfl rfl rfl rfl rfl ?_ | refine sp_alloc rfl rfl ?_ | refine sp_build rfl rfl ?_
        | refine ep_mkfn rfl ?_)
      | (refine g_ops ?_; first | refine eo_none ?_ | refine eo_nil ?_ | refine eo_yes rfl ?_ | refine eo_no rfl ?_ | refine eo_und rfl ?_ | refine eo_yesH rfl (by assumption) ?_ | refine eo_noH rfl (by assumption) ?_)
      | (refine g_code ?_; first | refine ec_seq ?_ | refine ec_region ?_ | refine ec_skip ?_ | refine ec_ret ?_ | refine ec_condT rfl ?_ | refine ec_condF rfl ?_ | refine ec_condTH rfl (by assumption) ?_ | refine ec_condFH rfl (by assumption) ?_)
      | refine ek_seqN ?_ | refine ek_seqR ?_)
    refine sfin (.inr rfl) (by rfl) (by rfl) (by exact ⟨rfl, rfl, rfl⟩) (by rfl) (by rfl) (by rw [folR, if_neg (fun h => h1 h.1)]) (by first | rfl | (simp; done) | (simp [ints, prs]; done))
def bsz (r : Nat) : Nat := if r = 0 then 0 else if r = 1 then 1 else if r < 4 then 2 else if r < 8 then 3 else 4
theorem bszF : ∀ r, r < 16 → (∀ i, i < bsz r → 1 ≤ r / R2 i) ∧ r / R2 (bsz r) = 0 ∧ pop r (bsz r) = pop r 16 ∧ bsz r ≤ 4 := by decide +kernel
theorem bt_div (r i : Nat) : bt r i = r / R2 i % 2 := by
  unfold bt R2; rw [Nat.shiftRight_eq_div_pow, Nat.and_one_is_mod]
theorem div_succ (r i : Nat) : r / R2 i / 2 = r / R2 (i + 1) := by rw [Nat.div_div_eq_div_mul, show R2 (i + 1) = R2 i * 2 by unfold R2; rw [Nat.pow_succ]]
-- spec.l03Size
def m78_0 : MC := (.seq (.seq (.region [⟨(.mov (.t 0)), (some 4), none⟩, ⟨(.bin .gtr (.t 4) (.k (.int .i64 0))), (some 5), none⟩] false) (.cond (.t 5) .skip (.exit 0))) (.seq (.block 1 (.region [⟨(.mov (.t 3)), (some 8), none⟩, ⟨(.mov (.t 0)), (some 9), none⟩, ⟨(.bin .rem (.t 9) (.k (.int .i64 2))), (some 10), none⟩, ⟨(.bin .add (.t 8) (.t 10)), (some 11), none⟩, ⟨(.mov (.t 11)), (some 3), none⟩] false)) (.region [⟨(.mov (.t 0)), (some 6), none⟩, ⟨(.bin .quo (.t 6) (.k (.int .i64 2))), (some 7), none⟩, ⟨(.mov (.t 7)), (some 0), none⟩] false)))
def m78 : MC := (.seq (.region [⟨(.mov (.k (.int .i64 0))), (some 2), none⟩] false) (.seq (.region [⟨(.mov (.k (.int .i64 0))), (some 3), none⟩] false) (.seq (.block 0 (.loop m78_0)) (.seq (.region [⟨(.mov (.t 3)), (some 12), none⟩, ⟨(.mov (.t 12)), (some 2), none⟩] false) .ret))))
theorem has78 : Has cx 78 13 m78 [(.tmp 2)] :=
  ⟨⟨Try.f78, Try.f78.body.getD .skip, by kernel_rfl, by kernel_rfl, by kernel_rfl, by kernel_rfl, by kernel_rfl, by kernel_rfl⟩⟩
theorem lp78_0 (r : Nat) (hr : r < 16) :
    LpS cx 13 0 m78_0 [(0, .int .i64 (r / R2 (0) : Nat)), (3, .int .i64 (pop r (0) : Nat))] [] (⟨.exit 0, [(3, .int .i64 (pop r (bsz r) : Nat))], []⟩ : Out).x (⟨.exit 0, [(3, .int .i64 (pop r (bsz r) : Nat))], []⟩ : Out).e (⟨.exit 0, [(3, .int .i64 (pop r (bsz r) : Nat))], []⟩ : Out).h := by
  obtain ⟨f1, f2, f3, f4⟩ := bszF r hr
  refine lp_st (bsz r) (fun _ => ()) (fun i _ => [(0, .int .i64 (r / R2 (i) : Nat)), (3, .int .i64 (pop r (i) : Nat))]) (fun i _ => []) (fun _ => (⟨.exit 0, [(3, .int .i64 (pop r (bsz r) : Nat))], []⟩ : Out)) ?_ ?_ (bsz r) 0 (by omega)
  · intro i s hi hs
    refine ⟨(), rfl, ?_⟩
    have hlt : decide ((i : Int) < (bsz r : Nat)) = true := decide_eq_true (by omega)
    have g1 := f1 i hi
    have g2 : decide (((r / R2 i : Nat) : Int) > 0) = true := decide_eq_true (by omega)
    have g3 := Nat.div_le_self r (R2 i)
    have g4 := bt_div r i
    have g5 := pop_le r i
    have b1 : binV .rem (.int .i64 (r / R2 i : Nat)) (.int .i64 2) = some (.int .i64 (bt r i : Nat)) := by rw [g4]; exact b_remN (b := 2) (by omega)
    have b2 : binV .quo (.int .i64 (r / R2 i : Nat)) (.int .i64 2) = some (.int .i64 (r / R2 (i + 1) : Nat)) := by rw [← div_succ]; exact b_quoN (b := 2) (by omega) (by omega)
    have b3 : binV .add (.int .i64 (pop r i : Nat)) (.int .i64 (bt r i : Nat)) = some (.int .i64 (pop r (i + 1) : Nat)) := by rw [pop]; exact b_addN (by have := bt_le r i; omega)
    unfold m78_0
    repeat' (first
      | (refine g_op ?_; first
        | refine ep_mov rfl ?_
        | refine ep_bin rfl rfl (by first | exact b1 | exact b2 | exact b3 | exact b_add (by omega) (by omega) | exact b_sub (by omega) (by omega) | exact b_and (by omega) (by omega) | exact b_or (by omega) (by omega) | exact b_shr (by omega) | exact b_shl (by omega) (by omega) | exact b_lss | exact b_leq | exact b_gtr | exact b_geq | exact b_eql | exact b_neq) ?_)
      | (refine g_ops ?_; first | refine eo_none ?_ | refine eo_nil ?_)
      | (refine g_code ?_; first | refine ec_seq ?_ | refine ec_region ?_ | refine ec_block ?_ | refine ec_skip ?_ | refine ec_exit ?_ | refine ec_condT rfl ?_ | refine ec_condF rfl ?_ | refine ec_condTH rfl (by assumption) ?_ | refine ec_condFH rfl (by assumption) ?_)
      | refine ek_seqN ?_ | refine ek_seqX ?_ | refine ek_blkN ?_ | refine ek_blkR ?_ | refine ek_blkX ?_ | refine ek_blkY rfl ?_)
    exact rnd_on (by rfl) (scmp2 (by rfl) (by rfl) (by exact ⟨rfl, rfl, rfl⟩) (by rfl) (by first | rfl | (simp; done) | (simp [ints, prs]; done)) (by rfl) (by first | rfl | (simp; done) | (simp [ints, prs]; done)))
  · intro s hs
    have hlt : decide (((bsz r : Nat) : Int) < (bsz r : Nat)) = false := decide_eq_false (by omega)
    have g2 : decide (((r / R2 (bsz r) : Nat) : Int) > 0) = false := decide_eq_false (by omega)
    unfold m78_0
    repeat' (first
      | (refine g_op ?_; first
        | refine ep_mov rfl ?_
        | refine ep_bin rfl rfl (by first | exact b_add (by omega) (by omega) | exact b_sub (by omega) (by omega) | exact b_and (by omega) (by omega) | exact b_or (by omega) (by omega) | exact b_shr (by omega) | exact b_shl (by omega) (by omega) | exact b_lss | exact b_leq | exact b_gtr | exact b_geq | exact b_eql | exact b_neq) ?_)
      | (refine g_ops ?_; first | refine eo_none ?_ | refine eo_nil ?_)
      | (refine g_code ?_; first | refine ec_seq ?_ | refine ec_region ?_ | refine ec_block ?_ | refine ec_skip ?_ | refine ec_exit ?_ | refine ec_condT rfl ?_ | refine ec_condF rfl ?_ | refine ec_condTH rfl (by assumption) ?_ | refine ec_condFH rfl (by assumption) ?_)
      | refine ek_seqN ?_ | refine ek_seqX ?_ | refine ek_blkN ?_ | refine ek_blkR ?_ | refine ek_blkX ?_ | refine ek_blkY rfl ?_)
    exact rnd_out (by rfl) (by simp) (scmp2 (by rfl) (by rfl) (by exact ⟨rfl, rfl, rfl⟩) (by rfl) (by first | rfl | (simp; done) | (simp [ints, prs]; done)) (by rfl) (by first | rfl | (simp; done) | (simp [ints, prs]; done)))

theorem ev78 (r : Nat) (hr : r < 16) : Ev cx 78 [.int .i64 r] [] (.int .i64 (pop r 16 : Nat)) [] := by
  obtain ⟨f1, f2, f3, f4⟩ := bszF r hr
  have lp := lp78_0 r hr
  rw [f3, show pop r 0 = 0 from rfl, show r / R2 0 = r by unfold R2; simp] at lp
  refine has78.eev rfl rfl ?_
  unfold m78
  repeat' (first
    | refine sc_loop lp rfl rfl ⟨rfl, rfl, rfl⟩ rfl rfl rfl ?_
    | (refine g_op ?_; first
      | refine ep_mov rfl ?_)
    | (refine g_ops ?_; first | refine eo_none ?_ | refine eo_nil ?_)
    | (refine g_code ?_; first | refine ec_seq ?_ | refine ec_region ?_ | refine ec_block ?_ | refine ec_ret ?_)
    | refine ek_seqN ?_ | refine ek_seqX ?_ | refine ek_seqR ?_ | refine ek_blkN ?_ | refine ek_blkR ?_ | refine ek_blkX ?_ | refine ek_blkY rfl ?_)
  refine sfin (.inr rfl) (by rfl) (by rfl) (by exact ⟨rfl, rfl, rfl⟩) (by rfl) (by rfl) (by rfl) (by first | rfl | (simp; done) | (simp [ints, prs]; done))
-- spec.l07Symmetric
def m60_0 : MC := (.seq (.seq (.region [⟨(.mov (.t 5)), (some 10), none⟩, ⟨(.mov (.t 3)), (some 11), none⟩, ⟨(.call 39 [(.t 11)]), (some 12), none⟩, ⟨(.bin .lss (.t 10) (.t 12)), (some 13), none⟩] false) (.cond (.t 13) .skip (.exit 0))) (.seq (.block 1 (.region [⟨(.mov (.t 4)), (some 16), none⟩, ⟨(.mov (.t 0)), (some 17), none⟩, ⟨(.mov (.t 5)), (some 18), none⟩, ⟨(.call 78 [(.t 18)]), (some 19), none⟩, ⟨(.indexAddr 1 (.t 17) (.t 19)), (some 20), none⟩, ⟨(.load none (.t 20)), (some 21), none⟩, ⟨(.bslice 1 [(.int .i64 0)] 1 [(0, (1, (.t 21)))]), (some 22), none⟩, ⟨(.append 1 8 (.t 16) (.t 22)), (some 23), none⟩, ⟨(.mov (.t 23)), (some 4), none⟩] false)) (.region [⟨(.mov (.t 5)), (some 14), none⟩, ⟨(.bin .add (.t 14) (.k (.int .i64 1))), (some 15), none⟩, ⟨(.mov (.t 15)), (some 5), none⟩] false)))
def m60 : MC := (.seq (.region [⟨(.alloc [(.int .i64 0), (.int .i64 0)]), (some 2), none⟩] false) (.seq (.region [⟨(.mov (.t 0)), (some 6), none⟩, ⟨(.len (.t 6)), (some 7), none⟩, ⟨(.bin .sub (.t 7) (.k (.int .i64 1))), (some 8), none⟩, ⟨.empt, (some 9), none⟩, ⟨(.mov (.t 8)), (some 3), none⟩, ⟨(.mov (.t 9)), (some 4), none⟩] false) (.seq (.seq (.region [⟨(.mov (.k (.int .i64 0))), (some 5), none⟩] false) (.block 0 (.loop m60_0))) (.seq (.region [⟨(.mov (.t 3)), (some 24), none⟩, ⟨(.mov (.t 4)), (some 25), none⟩, ⟨(.call 68 [(.t 24), (.t 25)]), (some 26), none⟩, ⟨(.store 2 (.t 2) (.t 26)), none, none⟩] false) .ret))))
theorem has60 : Has cx 60 27 m60 [(.cell 2 (some 2))] :=
  ⟨⟨Try.f60, Try.f60.body.getD .skip, by kernel_rfl, by kernel_rfl, by kernel_rfl, by kernel_rfl, by kernel_rfl, by kernel_rfl⟩⟩
theorem lp60_0 (n : Nat) (l : List Nat) (hn : n ≤ 4) (hl : l.length = n + 1) (o : Out) (ho : (match selm (fun _ => true) (lvG l) (R2 n) with | [] => (⟨.exit 0, [(2, .ptr 1 0), (3, .int .i64 (n : Nat)), (4, .emp)], [⟨ints l, 1, 0, some 0, false⟩, ⟨[.int .i64 0, .int .i64 0], 1, 1, some 0, true⟩]⟩ : Out) | x :: xs => ⟨.exit 0, [(2, .ptr 1 0), (3, .int .i64 (n : Nat)), (4, .sl 2 0 (x :: xs).length)], [⟨ints l, 1, 0, some 0, false⟩, ⟨[.int .i64 0, .int .i64 0], 1, 1, some 0, true⟩, ⟨ints (x :: xs), 1, 2, some 0, false⟩]⟩) = o) :
    LpS cx 27 1 m60_0 [(0, .sl 0 0 l.length), (2, .ptr 1 0), (3, .int .i64 (n : Nat)), (4, .emp), (5, .int .i64 (0 : Nat))] [⟨ints l, 1, 0, some 0, false⟩, ⟨[.int .i64 0, .int .i64 0], 1, 1, some 0, true⟩] o.x o.e o.h := by
  obtain ⟨h1, h2, h3, h4⟩ := shN hn
  subst ho
  refine lp_st (R2 n) (selm (fun _ => true) (lvG l)) (fun i s => match s with | [] => [(0, .sl 0 0 l.length), (2, .ptr 1 0), (3, .int .i64 (n : Nat)), (4, .emp), (5, .int .i64 (i : Nat))] | x :: xs => [(0, .sl 0 0 l.length), (2, .ptr 1 0), (3, .int .i64 (n : Nat)), (4, .sl 2 0 (x :: xs).length), (5, .int .i64 (i : Nat))]) (fun i s => match s with | [] => [⟨ints l, 1, 0, some 0, false⟩, ⟨[.int .i64 0, .int .i64 0], 1, 1, some 0, true⟩] | x :: xs => [⟨ints l, 1, 0, some 0, false⟩, ⟨[.int .i64 0, .int .i64 0], 1, 1, some 0, true⟩, ⟨ints (x :: xs), 1, 2, some 0, false⟩]) (fun s => match s with | [] => ⟨.exit 0, [(2, .ptr 1 0), (3, .int .i64 (n : Nat)), (4, .emp)], [⟨ints l, 1, 0, some 0, false⟩, ⟨[.int .i64 0, .int .i64 0], 1, 1, some 0, true⟩]⟩ | x :: xs => ⟨.exit 0, [(2, .ptr 1 0), (3, .int .i64 (n : Nat)), (4, .sl 2 0 (x :: xs).length)], [⟨ints l, 1, 0, some 0, false⟩, ⟨[.int .i64 0, .int .i64 0], 1, 1, some 0, true⟩, ⟨ints (x :: xs), 1, 2, some 0, false⟩]⟩) ?_ ?_ (R2 n) 0 (by omega)
  · intro i s hi hs
    have hlt : decide ((i : Int) < (R2 n : Nat)) = true := decide_eq_true (by omega)
    have hle : decide ((i : Int) ≤ (R2 n : Nat) - 1) = true := decide_eq_true (by omega)
    have hlen : s.length ≤ 16 := by have := selm_len (fun _ => true) (lvG l) i; rw [hs] at this; omega
    have hpn := pop_n hn hi
    have hp : (fun _ => true) i = true := rfl
    cases s with
    | nil =>
      refine ⟨[(lvG l) i], by rw [selm_t (p := fun _ => true) hp, hs]; try rfl, ?_⟩
      unfold m60_0
      repeat' (first
        | (refine g_op ?_; first
          | refine ep_mov rfl ?_ | refine ep_load1 rfl rfl rfl rfl ?_
          | refine ep_call0 rfl (by first | exact ev39 _ hn | exact ev78 i (by omega)) rfl rfl ?_
          | refine sp_call rfl rfl rfl rfl (by first | exact ev39 _ hn | exact ev78 i (by omega)) ⟨rfl, rfl, rfl, rfl⟩ rfl rfl rfl ?_
          | refine ep_bin rfl rfl (by first | exact b_add (by omega) (by omega) | exact b_sub (by omega) (by omega) | exact b_and (by omega) (by omega) | exact b_or (by omega) (by omega) | exact b_shr (by omega) | exact b_shl (by omega) (by omega) | exact b_lss | exact b_leq | exact b_gtr | exact b_geq | exact b_eql | exact b_neq) ?_
          | refine sp_bslice rfl rfl rfl rfl rfl ?_ | refine sp_push0 rfl (by first | exact .inl rfl | exact .inr rfl) rfl rfl rfl rfl rfl (by decide) rfl rfl rfl ?_ | refine sp_push rfl rfl rfl rfl rfl rfl rfl (by first | exact ints_len _ | exact prs_len _ _ | exact zints_len _) (by omega) (Nat.zero_le _) rfl rfl rfl rfl rfl ?_
          | refine sp_idx rfl rfl rfl (by omega) rfl ?_ | refine ep_loadS rfl rfl rfl (by first | exact ints_get (by omega) | exact zints_get (by omega) | exact fget (by omega) | assumption) ?_)
        | (refine g_ops ?_; first | refine eo_none ?_ | refine eo_nil ?_)
        | (refine g_code ?_; first | refine ec_seq ?_ | refine ec_region ?_ | refine ec_block ?_ | refine ec_skip ?_ | refine ec_exit ?_ | refine ec_condT rfl ?_ | refine ec_condF rfl ?_ | refine ec_condTH rfl (by assumption) ?_ | refine ec_condFH rfl (by assumption) ?_)
        | refine ek_seqN ?_ | refine ek_seqX ?_ | refine ek_blkN ?_ | refine ek_blkR ?_ | refine ek_blkX ?_ | refine ek_blkY rfl ?_)
      exact rnd_on (by rfl) (scmp2 (by rfl) (by rfl) (by exact ⟨rfl, rfl, rfl⟩) (by rfl) (by first | rfl | (simp; done) | (simp [ints, prs, lvG]; done)) (by rfl) (by first | rfl | (simp; done) | (simp [ints, prs, lvG]; done)))
    | cons x xs =>
      refine ⟨(x :: xs) ++ [(lvG l) i], by rw [selm_t (p := fun _ => true) hp, hs]; try rfl, ?_⟩
      unfold m60_0
      repeat' (first
        | (refine g_op ?_; first
          | refine ep_mov rfl ?_ | refine ep_load1 rfl rfl rfl rfl ?_
          | refine ep_call0 rfl (by first | exact ev39 _ hn | exact ev78 i (by omega)) rfl rfl ?_
          | refine sp_call rfl rfl rfl rfl (by first | exact ev39 _ hn | exact ev78 i (by omega)) ⟨rfl, rfl, rfl, rfl⟩ rfl rfl rfl ?_
          | refine ep_bin rfl rfl (by first | exact b_add (by omega) (by omega) | exact b_sub (by omega) (by omega) | exact b_and (by omega) (by omega) | exact b_or (by omega) (by omega) | exact b_shr (by omega) | exact b_shl (by omega) (by omega) | exact b_lss | exact b_leq | exact b_gtr | exact b_geq | exact b_eql | exact b_neq) ?_
          | refine sp_bslice rfl rfl rfl rfl rfl ?_ | refine sp_push0 rfl (by first | exact .inl rfl | exact .inr rfl) rfl rfl rfl rfl rfl (by decide) rfl rfl rfl ?_ | refine sp_push rfl rfl rfl rfl rfl rfl rfl (by first | exact ints_len _ | exact prs_len _ _ | exact zints_len _) (by omega) (Nat.zero_le _) rfl rfl rfl rfl rfl ?_
          | refine sp_idx rfl rfl rfl (by omega) rfl ?_ | refine ep_loadS rfl rfl rfl (by first | exact ints_get (by omega) | exact zints_get (by omega) | exact fget (by omega) | assumption) ?_)
        | (refine g_ops ?_; first | refine eo_none ?_ | refine eo_nil ?_)
        | (refine g_code ?_; first | refine ec_seq ?_ | refine ec_region ?_ | refine ec_block ?_ | refine ec_skip ?_ | refine ec_exit ?_ | refine ec_condT rfl ?_ | refine ec_condF rfl ?_ | refine ec_condTH rfl (by assumption) ?_ | refine ec_condFH rfl (by assumption) ?_)
        | refine ek_seqN ?_ | refine ek_seqX ?_ | refine ek_blkN ?_ | refine ek_blkR ?_ | refine ek_blkX ?_ | refine ek_blkY rfl ?_)
      exact rnd_on (by rfl) (scmp2 (by rfl) (by rfl) (by exact ⟨rfl, rfl, rfl⟩) (by rfl) (by first | rfl | (simp; done) | (simp [ints, prs, lvG]; done)) (by rfl) (by first | rfl | (simp; done) | (simp [ints, prs, lvG]; done)))
  · intro s hs
    have hlt : decide (((R2 n : Nat) : Int) < (R2 n : Nat)) = false := decide_eq_false (by omega)
    have hle : decide (((R2 n : Nat) : Int) ≤ (R2 n : Nat) - 1) = false := decide_eq_false (by omega)
    cases s with
    | nil =>
      unfold m60_0
      repeat' (first
        | (refine g_op ?_; first
          | refine ep_mov rfl ?_ | refine ep_load1 rfl rfl rfl rfl ?_
          | refine ep_call0 rfl (by first | exact ev39 _ hn) rfl rfl ?_
          | refine sp_call rfl rfl rfl rfl (by first | exact ev39 _ hn) ⟨rfl, rfl, rfl, rfl⟩ rfl rfl rfl ?_
          | refine ep_bin rfl rfl (by first | exact b_add (by omega) (by omega) | exact b_sub (by omega) (by omega) | exact b_and (by omega) (by omega) | exact b_or (by omega) (by omega) | exact b_shr (by omega) | exact b_shl (by omega) (by omega) | exact b_lss | exact b_leq | exact b_gtr | exact b_geq | exact b_eql | exact b_neq) ?_
          | refine sp_bslice rfl rfl rfl rfl rfl ?_ | refine sp_push0 rfl (by first | exact .inl rfl | exact .inr rfl) rfl rfl rfl rfl rfl (by decide) rfl rfl rfl ?_ | refine sp_push rfl rfl rfl rfl rfl rfl rfl (by first | exact ints_len _ | exact prs_len _ _ | exact zints_len _) (by omega) (Nat.zero_le _) rfl rfl rfl rfl rfl ?_
          | refine sp_idx rfl rfl rfl (by omega) rfl ?_ | refine ep_loadS rfl rfl rfl (by first | exact ints_get (by omega) | exact zints_get (by omega) | exact fget (by omega) | assumption) ?_)
        | (refine g_ops ?_; first | refine eo_none ?_ | refine eo_nil ?_)
        | (refine g_code ?_; first | refine ec_seq ?_ | refine ec_region ?_ | refine ec_block ?_ | refine ec_skip ?_ | refine ec_exit ?_ | refine ec_condT rfl ?_ | refine ec_condF rfl ?_ | refine ec_condTH rfl (by assumption) ?_ | refine ec_condFH rfl (by assumption) ?_)
        | refine ek_seqN ?_ | refine ek_seqX ?_ | refine ek_blkN ?_ | refine ek_blkR ?_ | refine ek_blkX ?_ | refine ek_blkY rfl ?_)
      exact rnd_out (by rfl) (by simp) (scmp2 (by rfl) (by rfl) (by exact ⟨rfl, rfl, rfl⟩) (by rfl) (by first | rfl | (simp; done) | (simp [ints, prs]; done)) (by rfl) (by first | rfl | (simp; done) | (simp [ints, prs]; done)))
    | cons x xs =>
      unfold m60_0
      repeat' (first
        | (refine g_op ?_; first
          | refine ep_mov rfl ?_ | refine ep_load1 rfl rfl rfl rfl ?_
          | refine ep_call0 rfl (by first | exact ev39 _ hn) rfl rfl ?_
          | refine sp_call rfl rfl rfl rfl (by first | exact ev39 _ hn) ⟨rfl, rfl, rfl, rfl⟩ rfl rfl rfl ?_
          | refine ep_bin rfl rfl (by first | exact b_add (by omega) (by omega) | exact b_sub (by omega) (by omega) | exact b_and (by omega) (by omega) | exact b_or (by omega) (by omega) | exact b_shr (by omega) | exact b_shl (by omega) (by omega) | exact b_lss | exact b_leq | exact b_gtr | exact b_geq | exact b_eql | exact b_neq) ?_
          | refine sp_bslice rfl rfl rfl rfl rfl ?_ | refine sp_push0 rfl (by first | exact .inl rfl | exact .inr rfl) rfl rfl rfl rfl rfl (by decide) rfl rfl rfl ?_ | refine sp_push rfl rfl rfl rfl rfl rfl rfl (by first | exact ints_len _ | exact prs_len _ _ | exact zints_len _) (by omega) (Nat.zero_le _) rfl rfl rfl rfl rfl ?_
          | refine sp_idx rfl rfl rfl (by omega) rfl ?_ | refine ep_loadS rfl rfl rfl (by first | exact ints_get (by omega) | exact zints_get (by omega) | exact fget (by omega) | assumption) ?_)
        | (refine g_ops ?_; first | refine eo_none ?_ | refine eo_nil ?_)
        | (refine g_code ?_; first | refine ec_seq ?_ | refine ec_region ?_ | refine ec_block ?_ | refine ec_skip ?_ | refine ec_exit ?_ | refine ec_condT rfl ?_ | refine ec_condF rfl ?_ | refine ec_condTH rfl (by assumption) ?_ | refine ec_condFH rfl (by assumption) ?_)
        | refine ek_seqN ?_ | refine ek_seqX ?_ | refine ek_blkN ?_ | refine ek_blkR ?_ | refine ek_blkX ?_ | refine ek_blkY rfl ?_)
      exact rnd_out (by rfl) (by simp) (scmp2 (by rfl) (by rfl) (by exact ⟨rfl, rfl, rfl⟩) (by rfl) (by first | rfl | (simp; done) | (simp [ints, prs]; done)) (by rfl) (by first | rfl | (simp; done) | (simp [ints, prs]; done)))

theorem ev60 (n : Nat) (l : List Nat) (hn : n ≤ 4) (hl : l.length = n + 1) (h01 : ∀ j, j < l.length → l.getD j 0 ≤ 1) : Ev cx 60 [.sl 0 0 l.length] [⟨ints l, 1, 0, some 0, false⟩] (.agg [.int .i64 n, .int .i64 (pk (lvG l) (R2 n) : Nat)]) [⟨ints l, 1, 0, some 0, false⟩] := by
  obtain ⟨k1, k2⟩ := selm_all (g := lvG l) (R2 n)
  have hpos := R2_pos n
  have e2 := fun p => ev68 n p (selm (fun _ => true) (lvG l) (R2 n)) hn (by omega) (fun r hr => by rw [k2 r hr]; exact h01 _ (by have := pop_n hn hr; omega))
  rw [show pk (fun r => (selm (fun _ => true) (lvG l) (R2 n)).getD r 0) (R2 n) = pk (lvG l) (R2 n) from pk_congr fun r hr => k2 r hr] at e2
  have hb : binV .sub (.int .i64 (l.length : Nat)) (.int .i64 1) = some (.int .i64 (n : Nat)) := by rw [hl]; exact b_sub1 (by omega) (by omega)
  cases hs : selm (fun _ => true) (lvG l) (R2 n) with
  | nil => rw [hs] at k1; simp at k1; omega
  | cons x xs =>
    rw [hs] at e2
    have lp := lp60_0 n l hn hl _ (by rw [hs])
    refine has60.eev rfl rfl ?_
    unfold m60
    repeat' (first
      | refine sc_loop lp rfl rfl ⟨rfl, rfl, rfl⟩ rfl rfl rfl ?_
      | (refine g_op ?_; first
        | refine ep_mov rfl ?_
        | refine ep_call0 rfl (by first | exact e2 _) rfl rfl ?_
        | refine sp_call rfl rfl rfl rfl (by first | exact e2 _) ⟨rfl, rfl, rfl, rfl⟩ rfl rfl rfl ?_
        | refine ep_bin rfl rfl (by first | exact hb | exact b_add (by omega) (by omega) | exact b_sub (by omega) (by omega) | exact b_and (by omega) (by omega) | exact b_or (by omega) (by omega) | exact b_shr (by omega) | exact b_shl (by omega) (by omega) | exact b_lss | exact b_leq | exact b_gtr | exact b_geq | exact b_eql | exact b_neq) ?_
        | refine sp_store rfl rfl rfl rfl rfl rfl rfl rfl rfl rfl ?_ | refine ep_lenS rfl ?_ | refine ep_lenN rfl ?_ | refine ep_lenE rfl ?_ | refine sp_alloc rfl rfl ?_ | refine ep_empt ?_)
      | (refine g_ops ?_; first | refine eo_none ?_ | refine eo_nil ?_)
      | (refine g_code ?_; first | refine ec_seq ?_ | refine ec_region ?_ | refine ec_block ?_ | refine ec_ret ?_)
      | refine ek_seqN ?_ | refine ek_seqX ?_ | refine ek_seqR ?_ | refine ek_blkN ?_ | refine ek_blkR ?_ | refine ek_blkX ?_ | refine ek_blkY rfl ?_)
    refine sfin (.inr rfl) (by rfl) (by rfl) (by exact ⟨rfl, rfl, rfl⟩) (by rfl) (by rfl) (by rfl) (by first | rfl | (simp; done) | (simp [ints, prs]; done))
-- spec.FuncOfLevels
def m28 : MC := (.seq (.region [⟨(.alloc [(.int .i64 0), (.int .i64 0)]), (some 2), none⟩, ⟨(.mov (.k (.int .i64 0))), (some 3), none⟩] false) (.seq (.seq (.region [⟨(.mov (.t 0)), (some 4), none⟩, ⟨(.len (.t 4)), (some 5), none⟩, ⟨(.call 31 [(.t 5), (.k (.int .i64 1)), (.k (.int .i64 5))]), (some 6), none⟩, ⟨(.un .not (.t 6)), (some 7), none⟩, ⟨(.mov (.t 7)), (some 8), none⟩, ⟨(.mov (.t 0)), (some 9), (some (8, false))⟩, ⟨(.call 59 [(.t 9)]), (some 10), (some (8, false))⟩, ⟨(.un .not (.t 10)), (some 11), (some (8, false))⟩, ⟨(.pick (.t 8) (.k (.bool true)) (.t 11)), (some 12), none⟩] false) (.cond (.t 12) (.seq (.region [⟨(.build [(.int .i64 0), (.int .i64 0)] []), (some 13), none⟩, ⟨(.store 2 (.t 2) (.t 13)), none, none⟩, ⟨(.mov (.k (.int .i64 2))), (some 3), none⟩] false) .ret) .skip)) (.seq (.region [⟨(.mov (.t 0)), (some 14), none⟩, ⟨(.call 60 [(.t 14)]), (some 15), none⟩, ⟨(.store 2 (.t 2) (.t 15)), none, none⟩, ⟨(.mov (.k (.int .i64 0))), (some 3), none⟩] false) .ret)))
theorem has28 : Has cx 28 16 m28 [(.cell 2 (some 2)), (.tmp 3)] :=
  ⟨⟨Try.f28, Try.f28.body.getD .skip, by kernel_rfl, by kernel_rfl, by kernel_rfl, by kernel_rfl, by kernel_rfl, by kernel_rfl⟩⟩
theorem ev28 (c : List Int) (hlen : c.length ≤ 1048576) : Ev cx 28 [.sl 0 0 c.length] [⟨zints c, 1, 0, some 0, false⟩] (rr (folR c)) [⟨zints c, 1, 0, some 0, false⟩] := by
  have e1 := ev31 (c.length : Nat) 1 5
  by_cases h1 : 1 ≤ c.length ∧ c.length ≤ 5
  · rw [decide_eq_true (by omega)] at e1
    have e2 := ev59 c hlen
    cases h3 : digs c
    · rw [h3] at e2
      refine has28.eev rfl rfl ?_
      unfold m28
      repeat' (first
        | (refine g_op ?_; first
          | refine ep_mov rfl ?_
          | refine ep_call0 rfl (by first | exact e1 | exact e2) rfl rfl ?_
          | refine sp_call rfl rfl rfl rfl (by first | exact e1 | exact e2) ⟨rfl, rfl, rfl, rfl⟩ rfl rfl rfl ?_
          | refine ep_pickT rfl rfl ?_ | refine ep_pickF rfl rfl ?_ | refine ep_pickTH rfl (by assumption) rfl ?_ | refine ep_pickFH rfl (by assumption) rfl ?_ | refine sp_store rfl rfl rfl rfl rfl rfl rfl rfl rfl rfl ?_
          | refine ep_not rfl ?_ | refine ep_lenS rfl ?_ | refine ep_lenN rfl ?_ | refine ep_lenE rfl ?_ | refine sp_alloc rfl rfl ?_ | refine sp_build rfl rfl ?_)
        | (refine g_ops ?_; first | refine eo_none ?_ | refine eo_nil ?_ | refine eo_yes rfl ?_ | refine eo_no rfl ?_ | refine eo_und rfl ?_ | refine eo_yesH rfl (by assumption) ?_ | refine eo_noH rfl (by assumption) ?_)
        | (refine g_code ?_; first | refine ec_seq ?_ | refine ec_region ?_ | refine ec_skip ?_ | refine ec_ret ?_ | refine ec_condT rfl ?_ | refine ec_condF rfl ?_ | refine ec_condTH rfl (by assumption) ?_ | refine ec_condFH rfl (by assumption) ?_)
        | refine ek_seqN ?_ | refine ek_seqR ?_)
      refine sfin (.inr rfl) (by rfl) (by rfl) (by exact ⟨rfl, rfl, rfl⟩) (by rfl) (by rfl) (by rw [folR, if_neg (fun h => by rw [h3] at h; simp at h)]) (by first | rfl | (simp; done) | (simp [ints, prs]; done))
    · rw [h3] at e2
      obtain ⟨k1, k2⟩ := digs_nat h3
      have e3 := ev60 (c.length - 1) (c.map Int.toNat) (by omega) (by simp; omega) k2
      rw [← k1, List.length_map] at e3
      refine has28.eev rfl rfl ?_
      unfold m28
      repeat' (first
        | (refine g_op ?_; first
          | refine ep_mov rfl ?_
          | refine ep_call0 rfl (by first | exact e1 | exact e2 | exact e3) rfl rfl ?_
          | refine sp_call rfl rfl rfl rfl (by first | exact e1 | exact e2 | exact e3) ⟨rfl, rfl, rfl, rfl⟩ rfl rfl rfl ?_
          | refine ep_pickT rfl rfl ?_ | refine ep_pickF rfl rfl ?_ | refine ep_pickTH rfl (by assumption) rfl ?_ | refine ep_pickFH rfl (by assumption) rfl ?_ | refine sp_store rfl rfl rfl rfl rfl rfl rfl rfl rfl rfl ?_
          | refine ep_not rfl ?_ | refine ep_lenS rfl ?_ | refine ep_lenN rfl ?_ | refine ep_lenE rfl ?_ | refine sp_alloc rfl rfl ?_ | refine sp_build rfl rfl ?_)
        | (refine g_ops ?_; first | refine eo_none ?_ | refine eo_nil ?_ | refine eo_yes rfl ?_ | refine eo_no rfl ?_ | refine eo_und rfl ?_ | refine eo_yesH rfl (by assumption) ?_ | refine eo_noH rfl (by assumption) ?_)
        | (refine g_code ?_; first | refine ec_seq ?_ | refine ec_region ?_ | refine ec_skip ?_ | refine ec_ret ?_ | refine ec_condT rfl ?_ | refine ec_condF rfl ?_ | refine ec_condTH rfl (by assumption) ?_ | refine ec_condFH rfl (by assumption) ?_)
        | refine ek_seqN ?_ | refine ek_seqR ?_)
      refine sfin (.inr rfl) (by rfl) (by rfl) (by exact ⟨rfl, rfl, rfl⟩) (by rfl) (by rfl) (by rw [folR, if_pos ⟨h1, h3⟩]; try rfl) (by first | rfl | (simp; done) | (simp [ints, prs]; done))
  · rw [decide_eq_false (by omega)] at e1
    refine has28.eev rfl rfl ?_
    unfold m28
    repeat' (first
      | (refine g_op ?_; first
        | refine ep_mov rfl ?_
        | refine ep_call0 rfl (by first | exact e1) rfl rfl ?_
        | refine sp_call rfl rfl rfl rfl (by first | exact e1) ⟨rfl, rfl, rfl, rfl⟩ rfl rfl rfl ?_
        | refine ep_pickT rfl rfl ?_ | refine ep_pickF rfl rfl ?_ | refine ep_pickTH rfl (by assumption) rfl ?_ | refine ep_pickFH rfl (by assumption) rfl ?_ | refine sp_store rfl rfl rfl rfl rfl rfl rfl rfl rfl rfl ?_
        | refine ep_not rfl ?_ | refine ep_lenS rfl ?_ | refine ep_lenN rfl ?_ | refine ep_lenE rfl ?_ | refine sp_alloc rfl rfl ?_ | refine sp_build rfl rfl ?_)
      | (refine g_ops ?_; first | refine eo_none ?_ | refine eo_nil ?_ | refine eo_yes rfl ?_ | refine eo_no rfl ?_ | refine eo_und rfl ?_ | refine eo_yesH rfl (by assumption) ?_ | refine eo_noH rfl (by assumption) ?_)
      | (refine g_code ?_; first | refine ec_seq ?_ | refine ec_region ?_ | refine ec_skip ?_ | refine ec_ret ?_ | refine ec_condT rfl ?_ | refine ec_condF rfl ?_ | refine ec_condTH rfl (by assumption) ?_ | refine ec_condFH rfl (by assumption) ?_)
      | refine ek_seqN ?_ | refine ek_seqR ?_)
    refine sfin (.inr rfl) (by rfl) (by rfl) (by exact ⟨rfl, rfl, rfl⟩) (by rfl) (by rfl) (by rw [folR, if_neg (fun h => h1 h.1)]) (by first | rfl | (simp; done) | (simp [ints, prs]; done))
-- laws.FnExactFuncOfLevels
def m8 : MC := (.seq (.region [⟨(.mov (.k (.bool false))), (some 2), none⟩] false) (.seq (.seq (.region [⟨(.mov (.t 0)), (some 8), none⟩, ⟨(.len (.t 8)), (some 9), none⟩, ⟨(.bin .gtr (.t 9) (.k (.int .i64 1048576))), (some 10), none⟩] false) (.cond (.t 10) (.seq (.region [⟨(.mov (.k (.bool true))), (some 2), none⟩] false) .ret) .skip)) (.seq (.region [⟨(.mov (.t 0)), (some 12), none⟩, ⟨(.call 14 [(.t 12)]), (some 13), none⟩, ⟨(.call 28 [(.t 13)]), (some 14), none⟩, ⟨(.mov (.t 14)), (some 11), none⟩, ⟨(.extract (.t 11) 0), (some 15), none⟩, ⟨(.extract (.t 11) 1), (some 16), none⟩, ⟨(.alloc [(.int .i64 0), (.int .i64 0)]), (some 3), none⟩, ⟨(.store 2 (.t 3) (.t 15)), none, none⟩, ⟨(.mov (.t 16)), (some 4), none⟩] false) (.seq (.region [⟨(.mov (.t 0)), (some 17), none⟩, ⟨(.call 14 [(.t 17)]), (some 18), none⟩, ⟨(.mov (.t 18)), (some 5), none⟩] false) (.seq (.region [⟨(.mov (.t 5)), (some 20), none⟩, ⟨(.call 29 [(.t 20)]), (some 21), none⟩, ⟨(.mov (.t 21)), (some 19), none⟩, ⟨(.extract (.t 19) 0), (some 22), none⟩, ⟨(.extract (.t 19) 1), (some 23), none⟩, ⟨(.alloc [(.int .i64 0), (.int .i64 0)]), (some 6), none⟩, ⟨(.store 2 (.t 6) (.t 22)), none, none⟩, ⟨(.mov (.t 23)), (some 7), none⟩] false) (.seq (.seq (.region [⟨(.load (some 2) (.t 6)), (some 24), none⟩, ⟨(.load (some 2) (.t 3)), (some 25), none⟩, ⟨(.call 16 [(.t 24), (.t 25)]), (some 26), none⟩, ⟨(.un .not (.t 26)), (some 27), none⟩, ⟨(.mov (.t 27)), (some 28), none⟩, ⟨(.mov (.t 7)), (some 29), (some (28, false))⟩, ⟨(.mov (.t 4)), (some 30), (some (28, false))⟩, ⟨(.bin .neq (.t 29) (.t 30)), (some 31), (some (28, false))⟩, ⟨(.pick (.t 28) (.k (.bool true)) (.t 31)), (some 32), none⟩] false) (.cond (.t 32) (.seq (.region [⟨(.mov (.k (.bool false))), (some 2), none⟩] false) .ret) .skip)) (.seq (.seq (.region [⟨(.mov (.t 5)), (some 33), none⟩, ⟨(.mov (.t 0)), (some 34), none⟩, ⟨(.call 14 [(.t 34)]), (some 35), none⟩, ⟨(.call 17 [(.t 33), (.t 35)]), (some 36), none⟩, ⟨(.un .not (.t 36)), (some 37), none⟩] false) (.cond (.t 37) (.seq (.region [⟨(.mov (.k (.bool false))), (some 2), none⟩] false) .ret) .skip)) (.seq (.region [⟨(.mov (.k (.bool true))), (some 2), none⟩] false) .ret))))))))
theorem has8 : Has cx 8 38 m8 [(.tmp 2)] :=
  ⟨⟨Try.f8, Try.f8.body.getD .skip, by kernel_rfl, by kernel_rfl, by kernel_rfl, by kernel_rfl, by kernel_rfl, by kernel_rfl⟩⟩
theorem ev8 (a : V) (h : Heap) (c : List Int) (fa : FA .i64 1 a h c) : Ev cx 8 [a] h (.bool true) h := by
  have h1 : ((folR c).c != (folR c).c) = false := by simp
  cases fa with
  | nil =>
    have e4 := ev17 0 (zints []) (zints []) (fun _ => 0) (some 0) (some 0) (by omega) (fun j hj => by omega) (fun j hj => by omega)
    have e5 := ev29 [] (by simp)
    have e6 := ev28 [] (by simp)
    refine has8.eev rfl rfl ?_
    unfold m8
    repeat' (first
      | (refine g_op ?_; first
        | refine ep_mov rfl ?_ | refine sp_loadN rfl rfl rfl rfl rfl ?_
        | refine ep_call0 rfl (by first | exact ev14_nils | exact e5 | exact e6 | exact ev16 _ _ | exact e4) rfl rfl ?_
        | refine sp_call rfl rfl rfl rfl (by first | exact ev14_nils | exact e5 | exact e6 | exact ev16 _ _ | exact e4) ⟨rfl, rfl, rfl, rfl⟩ rfl rfl rfl ?_
        | refine ep_bin rfl rfl (by first | exact b_add (by omega) (by omega) | exact b_sub (by omega) (by omega) | exact b_and (by omega) (by omega) | exact b_or (by omega) (by omega) | exact b_shr (by omega) | exact b_shl (by omega) (by omega) | exact b_lss | exact b_leq | exact b_gtr | exact b_geq | exact b_eql | exact b_neq) ?_
        | refine ep_pickT rfl rfl ?_ | refine ep_pickF rfl rfl ?_ | refine ep_pickTH rfl (by assumption) rfl ?_ | refine ep_pickFH rfl (by assumption) rfl ?_ | refine ep_extract rfl rfl ?_ | refine sp_store rfl rfl rfl rfl rfl rfl rfl rfl rfl rfl ?_
        | refine ep_not rfl ?_ | refine ep_lenS rfl ?_ | refine ep_lenN rfl ?_ | refine ep_lenE rfl ?_ | refine sp_alloc rfl rfl ?_)
      | (refine g_ops ?_; first | refine eo_none ?_ | refine eo_nil ?_ | refine eo_yes rfl ?_ | refine eo_no rfl ?_ | refine eo_und rfl ?_ | refine eo_yesH rfl (by assumption) ?_ | refine eo_noH rfl (by assumption) ?_)
      | (refine g_code ?_; first | refine ec_seq ?_ | refine ec_region ?_ | refine ec_skip ?_ | refine ec_ret ?_ | refine ec_condT rfl ?_ | refine ec_condF rfl ?_ | refine ec_condTH rfl (by assumption) ?_ | refine ec_condFH rfl (by assumption) ?_)
      | refine ek_seqN ?_ | refine ek_seqR ?_)
    refine sfin (.inr rfl) (by rfl) (by rfl) (by exact ⟨rfl, rfl, rfl⟩) (by rfl) (by rfl) (by rfl) (by first | rfl | (simp; done) | (simp [ints, prs]; done))
  | emp =>
    have e4 := ev17 0 (zints []) (zints []) (fun _ => 0) (some 0) (some 0) (by omega) (fun j hj => by omega) (fun j hj => by omega)
    have e5 := ev29 [] (by simp)
    have e6 := ev28 [] (by simp)
    refine has8.eev rfl rfl ?_
    unfold m8
    repeat' (first
      | (refine g_op ?_; first
        | refine ep_mov rfl ?_ | refine sp_loadN rfl rfl rfl rfl rfl ?_
        | refine ep_call0 rfl (by first | exact ev14_emp | exact e5 | exact e6 | exact ev16 _ _ | exact e4) rfl rfl ?_
        | refine sp_call rfl rfl rfl rfl (by first | exact ev14_emp | exact e5 | exact e6 | exact ev16 _ _ | exact e4) ⟨rfl, rfl, rfl, rfl⟩ rfl rfl rfl ?_
        | refine ep_bin rfl rfl (by first | exact b_add (by omega) (by omega) | exact b_sub (by omega) (by omega) | exact b_and (by omega) (by omega) | exact b_or (by omega) (by omega) | exact b_shr (by omega) | exact b_shl (by omega) (by omega) | exact b_lss | exact b_leq | exact b_gtr | exact b_geq | exact b_eql | exact b_neq) ?_
        | refine ep_pickT rfl rfl ?_ | refine ep_pickF rfl rfl ?_ | refine ep_pickTH rfl (by assumption) rfl ?_ | refine ep_pickFH rfl (by assumption) rfl ?_ | refine ep_extract rfl rfl ?_ | refine sp_store rfl rfl rfl rfl rfl rfl rfl rfl rfl rfl ?_
        | refine ep_not rfl ?_ | refine ep_lenS rfl ?_ | refine ep_lenN rfl ?_ | refine ep_lenE rfl ?_ | refine sp_alloc rfl rfl ?_)
      | (refine g_ops ?_; first | refine eo_none ?_ | refine eo_nil ?_ | refine eo_yes rfl ?_ | refine eo_no rfl ?_ | refine eo_und rfl ?_ | refine eo_yesH rfl (by assumption) ?_ | refine eo_noH rfl (by assumption) ?_)
      | (refine g_code ?_; first | refine ec_seq ?_ | refine ec_region ?_ | refine ec_skip ?_ | refine ec_ret ?_ | refine ec_condT rfl ?_ | refine ec_condF rfl ?_ | refine ec_condTH rfl (by assumption) ?_ | refine ec_condFH rfl (by assumption) ?_)
      | refine ek_seqN ?_ | refine ek_seqR ?_)
    refine sfin (.inr rfl) (by rfl) (by rfl) (by exact ⟨rfl, rfl, rfl⟩) (by rfl) (by rfl) (by rfl) (by first | rfl | (simp; done) | (simp [ints, prs]; done))
  | sl o n c hc =>
    obtain rfl : n = c.length := by omega
    by_cases hg : c.length ≤ 1048576
    · have g2 : decide (((c.length : Nat) : Int) > 1048576) = false := decide_eq_false (by omega)
      have e4 := ev17 c.length (zints c) (zints c) (fun j => c.getD j 0) (some 0) (some 0) hg (fun j hj => zints_get hj) (fun j hj => zints_get hj)
      have e5 := ev29 c hg
      have e6 := ev28 c hg
      refine has8.eev rfl rfl ?_
      unfold m8
      repeat' (first
        | (refine g_op ?_; first
          | refine ep_mov rfl ?_ | refine sp_loadN rfl rfl rfl rfl rfl ?_
          | refine ep_call0 rfl (by first | exact ev14 o c hg | exact e5 | exact e6 | exact ev16 _ _ | exact e4) rfl rfl ?_
          | refine sp_call rfl rfl rfl rfl (by first | exact ev14 o c hg | exact e5 | exact e6 | exact ev16 _ _ | exact e4) ⟨rfl, rfl, rfl, rfl⟩ rfl rfl rfl ?_
          | refine ep_bin rfl rfl (by first | exact b_add (by omega) (by omega) | exact b_sub (by omega) (by omega) | exact b_and (by omega) (by omega) | exact b_or (by omega) (by omega) | exact b_shr (by omega) | exact b_shl (by omega) (by omega) | exact b_lss | exact b_leq | exact b_gtr | exact b_geq | exact b_eql | exact b_neq) ?_
          | refine ep_pickT rfl rfl ?_ | refine ep_pickF rfl rfl ?_ | refine ep_pickTH rfl (by assumption) rfl ?_ | refine ep_pickFH rfl (by assumption) rfl ?_ | refine ep_extract rfl rfl ?_ | refine sp_store rfl rfl rfl rfl rfl rfl rfl rfl rfl rfl ?_
          | refine ep_not rfl ?_ | refine ep_lenS rfl ?_ | refine ep_lenN rfl ?_ | refine ep_lenE rfl ?_ | refine sp_alloc rfl rfl ?_)
        | (refine g_ops ?_; first | refine eo_none ?_ | refine eo_nil ?_ | refine eo_yes rfl ?_ | refine eo_no rfl ?_ | refine eo_und rfl ?_ | refine eo_yesH rfl (by assumption) ?_ | refine eo_noH rfl (by assumption) ?_)
        | (refine g_code ?_; first | refine ec_seq ?_ | refine ec_region ?_ | refine ec_skip ?_ | refine ec_ret ?_ | refine ec_condT rfl ?_ | refine ec_condF rfl ?_ | refine ec_condTH rfl (by assumption) ?_ | refine ec_condFH rfl (by assumption) ?_)
        | refine ek_seqN ?_ | refine ek_seqR ?_)
      refine sfin (.inr rfl) (by rfl) (by rfl) (by exact ⟨rfl, rfl, rfl⟩) (by rfl) (by rfl) (by rfl) (by first | rfl | (simp; done) | (simp [ints, prs]; done))
    · have g2 : decide (((c.length : Nat) : Int) > 1048576) = true := decide_eq_true (by omega)
      refine has8.eev rfl rfl ?_
      unfold m8
      repeat' (first
        | (refine g_op ?_; first
          | refine ep_mov rfl ?_ | refine sp_loadN rfl rfl rfl rfl rfl ?_
          | refine ep_bin rfl rfl (by first | exact b_add (by omega) (by omega) | exact b_sub (by omega) (by omega) | exact b_and (by omega) (by omega) | exact b_or (by omega) (by omega) | exact b_shr (by omega) | exact b_shl (by omega) (by omega) | exact b_lss | exact b_leq | exact b_gtr | exact b_geq | exact b_eql | exact b_neq) ?_
          | refine ep_pickT rfl rfl ?_ | refine ep_pickF rfl rfl ?_ | refine ep_pickTH rfl (by assumption) rfl ?_ | refine ep_pickFH rfl (by assumption) rfl ?_ | refine ep_extract rfl rfl ?_ | refine sp_store rfl rfl rfl rfl rfl rfl rfl rfl rfl rfl ?_
          | refine ep_not rfl ?_ | refine ep_lenS rfl ?_ | refine ep_lenN rfl ?_ | refine ep_lenE rfl ?_ | refine sp_alloc rfl rfl ?_)
        | (refine g_ops ?_; first | refine eo_none ?_ | refine eo_nil ?_ | refine eo_yes rfl ?_ | refine eo_no rfl ?_ | refine eo_und rfl ?_ | refine eo_yesH rfl (by assumption) ?_ | refine eo_noH rfl (by assumption) ?_)
        | (refine g_code ?_; first | refine ec_seq ?_ | refine ec_region ?_ | refine ec_skip ?_ | refine ec_ret ?_ | refine ec_condT rfl ?_ | refine ec_condF rfl ?_ | refine ec_condTH rfl (by assumption) ?_ | refine ec_condFH rfl (by assumption) ?_)
        | refine ek_seqN ?_ | refine ek_seqR ?_)
      refine sfin (.inr rfl) (by rfl) (by rfl) (by exact ⟨rfl, rfl, rfl⟩) (by rfl) (by rfl) (by rfl) (by first | rfl | (simp; done) | (simp [ints, prs]; done))


end Go.Proofs.Ytadmbjneagdfdab
