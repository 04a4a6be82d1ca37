/- The statement of FnExactFuncOfRows: for every input the call returns true, and every argument reads as before. -/
import Derived.Test.YtadmbjneagdfdabRows
import Derived.Test.YtadmbjneagdfdabFnExactFuncOfRowsT
import Derived.WalkKit
import Derived.ProofKit
import Derived.OpenShut
import Derived.ChangeOld
import Derived.Below
import Derived.SizedLaws
import Derived.Lib.SmallJoins
import Derived.Carry
import Derived.ChangeMaps5
import Derived.ChangeSlices
import Derived.Deep.SlicePairs
set_option linter.unusedVariables false
set_option linter.unusedSimpArgs false
namespace Go.Proofs.Ytadmbjneagdfdab.fnExactFuncOfRows
open Go.ChangeShapes Go.WideShapes Go.ChangeAt Go.RowKit Go.Joins Go.Proofs.Ytadmbjneagdfdab.Mi
open Go.ChangeMaps (open_string shut_string)
theorem own : ownKnob Try.prog.godebug = none := by kernel_rfl
theorem laidOut : laidOutB Try.prog = true := by kernel_rfl
set_option maxRecDepth 100000 in
theorem lifted (os : Os) (started : os.Started) (H : Type) (enc : TypeId × Value → H) :
    ReturnsInHanded {} Try.checked os 4 .any (Rows.fnExactFuncOfRowsSpec.pre6 enc Try.prog Try.f4 Rows.fnExactFuncOfRowsRow.domain false) (Rows.fnExactFuncOfRowsSpec.post enc Try.prog Try.f4 false true false false) := by
  refine returnsInHanded_of_change_sized (C := Try.checked) own started (by kernel_rfl) Try.func4
    (ChangeSpec.witness6 (enc := enc) (C := Try.checked) false ⟨#[], #[.int .i64 0, .slice none 0 0], []⟩ 8 (by kernel_rfl) (by kernel_rfl) (by kernel_rfl) (by kernel_rfl)) ?_
  intro W base args ds gs before hval0 hW hcnd hsz0 _
  have hval : ∀ (j : Nat) t v, Try.f4.params[j]? = some t → args[j]? = some v → Value.okWide Try.prog W .any base t v := hval0
  have hW' := hW
  obtain ⟨p, q, hA0, hV, rfl, hfz, hnd⟩ := hW
  have hA : DataW.TrodAll enc Try.prog W 0 (fun _ => true) true Try.f4.params.toList args.toList ds p := hA0
  rw [Try.params4] at hA hval
  obtain ⟨v0, vs0, d0, ds0, p0, q0, hargs, rfl, rfl, h0, r0⟩ := trodAll_cons hA
  obtain ⟨v1, vs1, d1, ds1, p1, q1, rfl, rfl, rfl, h1, r1⟩ := trodAll_cons r0
  obtain ⟨rfl, rfl, rfl⟩ := trodAll_nil r1
  obtain rfl : args = #[v0, v1] := by cases args; simp_all
  obtain ⟨rfl, rfl⟩ := trodVars_none hV
  obtain ⟨a0, rfl, rfl, rfl, w0⟩ := open_int Try.underlying2 (hval 0 2 v0 rfl rfl) h0
  obtain ⟨sa1, sl1, sc1, rfl⟩ := okWide_slice Try.underlying30 (hval 1 30 v1 rfl rfl)
  have k1 := h1
  have lt1 : ∀ x ∈ p1, x.block < W.heap.size := by obtain ⟨m, hm⟩ := k1; exact DataW.trod_lt m _ _ _ hm
  obtain ⟨z1, c1, f1⟩ : ∃ zs : List Int, zs.length = sl1 * 1 ∧ Foreign W (.slice sa1 sl1 sc1) sl1 .i64 zs := by
    obtain ⟨fuel, hf⟩ := h1
    rcases open_ints Try.underlying30 Try.underlying2 (by kernel_rfl) hf with ⟨hcs, _⟩ | ⟨x, l, c, zs, hcs, _, hl, hm, hz, _, hcell, hwz⟩
    · simp [Value.cells] at hcs
      obtain ⟨rfl, rfl, rfl⟩ := hcs
      exact ⟨[], rfl, .inl ⟨rfl, rfl, rfl⟩⟩
    · simp [Value.cells] at hcs
      obtain ⟨rfl, rfl, rfl⟩ := hcs
      have hz' : zs.length = sc1 := by simpa using hz
      refine ⟨zs.take sl1, by simp; omega, foreign_of hl 1 (by omega) (by simp; omega) (fun hc => ⟨_, by simpa [Addr.add] using hcell 0 (by omega)⟩) (fun j hj => ?_)⟩
      have hj2 : j < sl1 := by rw [List.length_take] at hj; omega
      rw [hcell j (by omega)]; simp [List.getD_eq_getElem?_getD, List.getElem?_take, hj2]
  clear hA0 hval0 hsz0
  obtain ⟨ax1, hx, mx, g1, g2_1, g3, g4, g5⟩ := f1.one (ρ := cx.ρ) c1
  have hlaw := Ev.lawS (ev4 a0 ax1 hx z1 g1 ) rfl g3 (vs := [.int .i64 a0, .slice sa1 sl1 sc1]) (by simp only [VRL]; exact ⟨_, _, rfl, (by simp only [VR]), ⟨_, _, rfl, g2_1, rfl⟩⟩) (by simpa [V.idsL, V.ids] using g4) g5
  refine Calls.mono (show Calls Try.prog 4 #[.int .i64 a0, .slice sa1 sl1 sc1] W _ from hlaw) fun e W' ⟨he, bel⟩ => ?_
  subst he
  exact ⟨_, rfl, _, _, _, [], _, [], hW', trodAll_mk1 (shut_bool Try.underlying4 _), (trodAll_cons_mk (shut_int Try.underlying2 w0) (trodAll_cons_mk (Below.trod laidOut (by kernel_rfl) (of_decide_eq_true (by kernel_rfl)) k1 bel lt1) trodAll_mk0)), rfl, bel.frame _, fun h => by cases h⟩
theorem over : Rows.fnExactFuncOfRowsRow.holds Try.pinned (OpenSpec.ofChange Rows.fnExactFuncOfRowsSpec) :=
  OpenClaim.holds_of_wide 4 Try.f4 rfl rfl rfl rfl rfl rfl rfl ⟨rfl, rfl, rfl, rfl, rfl⟩ rfl rfl rfl rfl rfl (by kernel_rfl) Try.func4 (by kernel_rfl)
    (of_decide_eq_true (by kernel_rfl)) (by unfold Func.isWrapper; first | (rw [if_pos (by decide +kernel)]; kernel_rfl) | (rw [if_neg (by decide +kernel)]; exact ⟨rfl, rfl⟩))
    (fun os started H enc _ => lifted os started H enc)
theorem proved : Rows.FnExactFuncOfRowsSaid := over
end Go.Proofs.Ytadmbjneagdfdab.fnExactFuncOfRows
namespace Go.Proofs.Ytadmbjneagdfdab
/-- The row, under a short name. -/
theorem fnExactFuncOfRowsHolds : Rows.FnExactFuncOfRowsSaid := fnExactFuncOfRows.proved
end Go.Proofs.Ytadmbjneagdfdab
