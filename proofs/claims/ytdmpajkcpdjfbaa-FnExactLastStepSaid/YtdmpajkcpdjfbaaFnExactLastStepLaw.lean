/- The statement of FnExactLastStep: for every input the call returns true, and every argument reads as before. -/
import Derived.Test.YtdmpajkcpdjfbaaRows
import Derived.Test.YtdmpajkcpdjfbaaFnExactLastStepTD
import Derived.WalkKit
import Derived.ProofKit
import Derived.OpenShut
import Derived.ChangeOld
import Derived.Below
import Derived.SizedLaws
import Derived.Lib.SmallJoins
import Derived.Carry
import Derived.ChangeMaps5
import Derived.ChangeSlices
import Derived.Deep.SlicePairs
set_option linter.unusedVariables false
set_option linter.unusedSimpArgs false
namespace Go.Proofs.Ytdmpajkcpdjfbaa.fnExactLastStep
open Go.ChangeShapes Go.WideShapes Go.ChangeAt Go.RowKit Go.Joins Go.Proofs.Ytdmpajkcpdjfbaa.Mi
open Go.ChangeMaps (open_string shut_string)
theorem own : ownKnob Try.prog.godebug = none := by kernel_rfl
theorem laidOut : laidOutB Try.prog = true := by kernel_rfl
set_option maxRecDepth 100000 in
theorem lifted (os : Os) (started : os.Started) (H : Type) (enc : TypeId × Value → H) :
    ReturnsInHanded {} Try.checked os 15 .any (Rows.fnExactLastStepSpec.pre6 enc Try.prog Try.f15 Rows.fnExactLastStepRow.domain false) (Rows.fnExactLastStepSpec.post enc Try.prog Try.f15 false true false false) := by
  refine returnsInHanded_of_change_sized (C := Try.checked) own started (by kernel_rfl) Try.func15
    (ChangeSpec.witness6 (enc := enc) (C := Try.checked) false ⟨#[], #[.slice none 0 0, .agg #[.int .i64 0, .int .i64 0]], []⟩ 8 (by kernel_rfl) (by kernel_rfl) (by kernel_rfl) (by kernel_rfl)) ?_
  intro W base args ds gs before hval0 hW hcnd hsz0 _
  have hval : ∀ (j : Nat) t v, Try.f15.params[j]? = some t → args[j]? = some v → Value.okWide Try.prog W .any base t v := hval0
  have hW' := hW
  obtain ⟨p, q, hA0, hV, rfl, hfz, hnd⟩ := hW
  have hA : DataW.TrodAll enc Try.prog W 0 (fun _ => true) true Try.f15.params.toList args.toList ds p := hA0
  rw [Try.params15] at hA hval
  obtain ⟨v0, vs0, d0, ds0, p0, q0, hargs, rfl, rfl, h0, r0⟩ := trodAll_cons hA
  obtain ⟨v1, vs1, d1, ds1, p1, q1, rfl, rfl, rfl, h1, r1⟩ := trodAll_cons r0
  obtain ⟨rfl, rfl, rfl⟩ := trodAll_nil r1
  obtain rfl : args = #[v0, v1] := by cases args; simp_all
  obtain ⟨rfl, rfl⟩ := trodVars_none hV
  obtain ⟨sa0, sl0, sc0, rfl⟩ := okWide_slice Try.underlying32 (hval 0 32 v0 rfl rfl)
  have k0 := h0
  have lt0 : ∀ x ∈ p0, x.block < W.heap.size := by obtain ⟨m, hm⟩ := k0; exact DataW.trod_lt m _ _ _ hm
  obtain ⟨z0, c0, f0, bd0⟩ : ∃ zs : List Int, zs.length = sl0 * 2 ∧ Foreign W (.slice sa0 sl0 sc0) sl0 .i64 zs ∧ zs.length ≤ 2 * Go.maxLen := by
    obtain ⟨fuel, hf⟩ := h0
    rcases Go.Deep.open_slice_pairs Try.underlying32 Try.underlying23 (by kernel_rfl) rfl rfl (by kernel_rfl) (by kernel_rfl) hf with ⟨hcs, _⟩ | ⟨x, l, c, m, nn, V0, V1, D0, D1, P0, P1, hcs, _, hl, hm, hmm, _, hcell⟩
    · simp [Value.cells] at hcs
      obtain ⟨rfl, rfl, rfl⟩ := hcs
      exact ⟨[], rfl, .inl ⟨rfl, rfl, rfl⟩, Nat.zero_le _⟩
    · simp [Value.cells] at hcs
      obtain ⟨rfl, rfl, rfl⟩ := hcs
      have hm' : m = sc0 := by simpa using hmm
      obtain ⟨g, hg⟩ := Go.Deep.choose_lt (α := Int × Int) (n := m) (p := fun i (x2 : Int × Int) => W.cell? (x.add (i * 2)) = some (.int .i64 x2.1) ∧ W.cell? (x.add (i * 2 + 1)) = some (.int .i64 x2.2)) (fun i hi => by
        obtain ⟨q1, q2, q3, q4⟩ := hcell i hi
        obtain ⟨u0, e0, _, _⟩ := DataW.trod_int Try.underlying2 q3
        obtain ⟨u1, e1, _, _⟩ := DataW.trod_int Try.underlying2 q4
        simp at e0 e1
        exact ⟨(u0, u1), by rw [q1, e0], by rw [q2, e1]⟩)
      exact ⟨flat2 g sl0, flat2_len g sl0, foreign_of2 hl (fun hc => ⟨_, by simpa [Addr.add] using (hg 0 (by omega)).1⟩) (fun i hi => hg i (by omega)), by rw [flat2_len]; omega⟩
  obtain ⟨c1, e1, y1, z1, m1, rfl, rfl, rfl, hy1, hz1⟩ := open_agg2 Try.underlying23 (by kernel_rfl) (by kernel_rfl) (hval 1 23 v1 rfl rfl) h1
  obtain ⟨a1, x1, rfl, w1⟩ := DataW.trod_int Try.underlying2 hy1
  obtain ⟨b1, g1, rfl, u1⟩ := DataW.trod_int Try.underlying2 hz1
  simp at x1 g1
  subst x1 g1
  clear hA0 hval0 hsz0
  have sr1 : ∀ (W' : World) (sp : Nat → Bool), DataW.Trod enc Try.prog W' 0 sp true 23 (.agg #[.int .i64 a1, .int .i64 b1]) (.agg [.lit (.int .i64 a1), .lit (.int .i64 b1)]) [] := fun W' sp =>
    shut_agg2 (y0 := (.lit (.int .i64 a1), [])) (y1 := (.lit (.int .i64 b1), [])) Try.underlying23 (by kernel_rfl) (by kernel_rfl) ⟨1, by simp [DataW.trod, Try.underlying2, w1]⟩ ⟨1, by simp [DataW.trod, Try.underlying2, u1]⟩
  obtain ⟨ax0, hx, mx, g1, g2_0, g3, g4, g5⟩ := f0.one (ρ := cx.ρ) c0
  have hlaw := Ev.lawS (ev15 ax0 a1 b1 hx z0 g1 bd0) rfl g3 (vs := [.slice sa0 sl0 sc0, .agg #[.int .i64 a1, .int .i64 b1]]) (by simp only [VRL]; exact ⟨_, _, rfl, g2_0, ⟨_, _, rfl, (by simp only [VR, VRL]; exact ⟨#[.int .i64 a1, .int .i64 b1], rfl, _, _, rfl, rfl, _, _, rfl, rfl, rfl⟩), rfl⟩⟩) (by simpa [V.idsL, V.ids] using g4) g5
  refine Calls.mono (show Calls Try.prog 15 #[.slice sa0 sl0 sc0, .agg #[.int .i64 a1, .int .i64 b1]] W _ from hlaw) fun e W' ⟨he, bel⟩ => ?_
  subst he
  exact ⟨_, rfl, _, _, _, [], _, [], hW', trodAll_mk1 (shut_bool Try.underlying4 _), (trodAll_cons_mk (Below.trod laidOut (by kernel_rfl) (of_decide_eq_true (by kernel_rfl)) k0 bel lt0) (trodAll_cons_mk (sr1 _ _) trodAll_mk0)), rfl, bel.frame _, fun h => by cases h⟩
theorem over : Rows.fnExactLastStepRow.holds Try.pinned (OpenSpec.ofChange Rows.fnExactLastStepSpec) :=
  OpenClaim.holds_of_wide 15 Try.f15 rfl rfl rfl rfl rfl rfl rfl ⟨rfl, rfl, rfl, rfl, rfl⟩ rfl rfl rfl rfl rfl (by kernel_rfl) Try.func15 (by kernel_rfl)
    (of_decide_eq_true (by kernel_rfl)) (by unfold Func.isWrapper; first | (rw [if_pos (by decide +kernel)]; kernel_rfl) | (rw [if_neg (by decide +kernel)]; exact ⟨rfl, rfl⟩))
    (fun os started H enc _ => lifted os started H enc)
theorem proved : Rows.FnExactLastStepSaid := over
end Go.Proofs.Ytdmpajkcpdjfbaa.fnExactLastStep
namespace Go.Proofs.Ytdmpajkcpdjfbaa
/-- The row, under a short name. -/
theorem fnExactLastStepHolds : Rows.FnExactLastStepSaid := fnExactLastStep.proved
end Go.Proofs.Ytdmpajkcpdjfbaa
