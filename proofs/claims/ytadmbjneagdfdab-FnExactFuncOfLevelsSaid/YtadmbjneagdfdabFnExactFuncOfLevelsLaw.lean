/- The statement of FnExactFuncOfLevels: for every input the call returns true, and every argument reads as before. -/
import Derived.Test.YtadmbjneagdfdabRows
import Derived.Test.YtadmbjneagdfdabFnExactFuncOfLevelsT
import Derived.WalkKit
import Derived.ProofKit
import Derived.OpenShut
import Derived.ChangeOld
import Derived.Below
import Derived.SizedLaws
import Derived.Lib.SmallJoins
import Derived.Carry
import Derived.ChangeMaps5
import Derived.ChangeSlices
import Derived.Deep.SlicePairs
set_option linter.unusedVariables false
set_option linter.unusedSimpArgs false
namespace Go.Proofs.Ytadmbjneagdfdab.fnExactFuncOfLevels
open Go.ChangeShapes Go.WideShapes Go.ChangeAt Go.RowKit Go.Joins Go.Proofs.Ytadmbjneagdfdab.Mi
open Go.ChangeMaps (open_string shut_string)
theorem own : ownKnob Try.prog.godebug = none := by kernel_rfl
theorem laidOut : laidOutB Try.prog = true := by kernel_rfl
set_option maxRecDepth 100000 in
theorem lifted (os : Os) (started : os.Started) (H : Type) (enc : TypeId × Value → H) :
    ReturnsInHanded {} Try.checked os 8 .any (Rows.fnExactFuncOfLevelsSpec.pre6 enc Try.prog Try.f8 Rows.fnExactFuncOfLevelsRow.domain false) (Rows.fnExactFuncOfLevelsSpec.post enc Try.prog Try.f8 false true false false) := by
  refine returnsInHanded_of_change_sized (C := Try.checked) own started (by kernel_rfl) Try.func8
    (ChangeSpec.witness6 (enc := enc) (C := Try.checked) false ⟨#[], #[.slice none 0 0], []⟩ 8 (by kernel_rfl) (by kernel_rfl) (by kernel_rfl) (by kernel_rfl)) ?_
  intro W base args ds gs before hval0 hW hcnd hsz0 _
  have hval : ∀ (j : Nat) t v, Try.f8.params[j]? = some t → args[j]? = some v → Value.okWide Try.prog W .any base t v := hval0
  have hW' := hW
  obtain ⟨p, q, hA0, hV, rfl, hfz, hnd⟩ := hW
  have hA : DataW.TrodAll enc Try.prog W 0 (fun _ => true) true Try.f8.params.toList args.toList ds p := hA0
  rw [Try.params8] at hA hval
  obtain ⟨v0, vs0, d0, ds0, p0, q0, hargs, rfl, rfl, h0, r0⟩ := trodAll_cons hA
  obtain ⟨rfl, rfl, rfl⟩ := trodAll_nil r0
  obtain rfl : args = #[v0] := by cases args; simp_all
  obtain ⟨rfl, rfl⟩ := trodVars_none hV
  obtain ⟨sa0, sl0, sc0, rfl⟩ := okWide_slice Try.underlying30 (hval 0 30 v0 rfl rfl)
  have k0 := h0
  have lt0 : ∀ x ∈ p0, x.block < W.heap.size := by obtain ⟨m, hm⟩ := k0; exact DataW.trod_lt m _ _ _ hm
  obtain ⟨z0, c0, f0⟩ : ∃ zs : List Int, zs.length = sl0 * 1 ∧ Foreign W (.slice sa0 sl0 sc0) sl0 .i64 zs := by
    obtain ⟨fuel, hf⟩ := h0
    rcases open_ints Try.underlying30 Try.underlying2 (by kernel_rfl) hf with ⟨hcs, _⟩ | ⟨x, l, c, zs, hcs, _, hl, hm, hz, _, hcell, hwz⟩
    · simp [Value.cells] at hcs
      obtain ⟨rfl, rfl, rfl⟩ := hcs
      exact ⟨[], rfl, .inl ⟨rfl, rfl, rfl⟩⟩
    · simp [Value.cells] at hcs
      obtain ⟨rfl, rfl, rfl⟩ := hcs
      have hz' : zs.length = sc0 := by simpa using hz
      refine ⟨zs.take sl0, by simp; omega, foreign_of hl 1 (by omega) (by simp; omega) (fun hc => ⟨_, by simpa [Addr.add] using hcell 0 (by omega)⟩) (fun j hj => ?_)⟩
      have hj2 : j < sl0 := by rw [List.length_take] at hj; omega
      rw [hcell j (by omega)]; simp [List.getD_eq_getElem?_getD, List.getElem?_take, hj2]
  clear hA0 hval0 hsz0
  obtain ⟨ax0, hx, mx, g1, g2_0, g3, g4, g5⟩ := f0.one (ρ := cx.ρ) c0
  have hlaw := Ev.lawS (ev8 ax0 hx z0 g1 ) rfl g3 (vs := [.slice sa0 sl0 sc0]) (by simp only [VRL]; exact ⟨_, _, rfl, g2_0, rfl⟩) (by simpa [V.idsL, V.ids] using g4) g5
  refine Calls.mono (show Calls Try.prog 8 #[.slice sa0 sl0 sc0] W _ from hlaw) fun e W' ⟨he, bel⟩ => ?_
  subst he
  exact ⟨_, rfl, _, _, _, [], _, [], hW', trodAll_mk1 (shut_bool Try.underlying4 _), (trodAll_cons_mk (Below.trod laidOut (by kernel_rfl) (of_decide_eq_true (by kernel_rfl)) k0 bel lt0) trodAll_mk0), rfl, bel.frame _, fun h => by cases h⟩
theorem over : Rows.fnExactFuncOfLevelsRow.holds Try.pinned (OpenSpec.ofChange Rows.fnExactFuncOfLevelsSpec) :=
  OpenClaim.holds_of_wide 8 Try.f8 rfl rfl rfl rfl rfl rfl rfl ⟨rfl, rfl, rfl, rfl, rfl⟩ rfl rfl rfl rfl rfl (by kernel_rfl) Try.func8 (by kernel_rfl)
    (of_decide_eq_true (by kernel_rfl)) (by unfold Func.isWrapper; first | (rw [if_pos (by decide +kernel)]; kernel_rfl) | (rw [if_neg (by decide +kernel)]; exact ⟨rfl, rfl⟩))
    (fun os started H enc _ => lifted os started H enc)
theorem proved : Rows.FnExactFuncOfLevelsSaid := over
end Go.Proofs.Ytadmbjneagdfdab.fnExactFuncOfLevels
namespace Go.Proofs.Ytadmbjneagdfdab
/-- The row, under a short name. -/
theorem fnExactFuncOfLevelsHolds : Rows.FnExactFuncOfLevelsSaid := fnExactFuncOfLevels.proved
end Go.Proofs.Ytadmbjneagdfdab
