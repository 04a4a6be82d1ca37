/- The statement of FnMonotoneRows: for every input the call returns true, and the argument reads as before. -/
import Derived.Test.YtokoboflpaklaaaRows
import Derived.Test.YtokoboflpaklaaaFnMonotoneRowsTD
import Derived.WalkKit
import Derived.ProofKit
import Derived.OpenShut
import Derived.ChangeOld
import Derived.Below
import Derived.SizedLaws
import Derived.Lib.SmallJoins
import Derived.Carry
import Derived.ChangeMaps5
import Derived.ChangeSlices
import Derived.Deep.SlicePairs
set_option linter.unusedVariables false
set_option linter.unusedSimpArgs false
namespace Go.Proofs.Ytokoboflpaklaaa.fnMonotoneRows
open Go.ChangeShapes Go.WideShapes Go.ChangeAt Go.RowKit Go.Joins Go.Proofs.Ytokoboflpaklaaa.Mi
theorem own : ownKnob Try.prog.godebug = none := by kernel_rfl
theorem laidOut : laidOutB Try.prog = true := by kernel_rfl
theorem bytes_of {W : World} {a : Addr} {n cc : Nat} {zs : List Int} (hl : n ≤ zs.length) (h : ∀ i, i < zs.length → W.cell? (a.add i) = some (.int .u8 (zs.getD i 0))) (hw : ∀ z ∈ zs, (Lit.int .u8 z).wf = true) (hn : n ≤ 4096) : BytesR W (.slice (some a) n cc) := by
  refine ⟨some a, n, cc, rfl, hn, fun h0 => ?_⟩
  have hc0 := h 0 (by omega)
  obtain ⟨g, o, s⟩ := a
  have hs : s = none := by
    cases s with
    | none => rfl
    | some s =>
      simp only [Addr.add, World.cell?] at hc0
      split at hc0 <;> simp at hc0
  subst hs
  refine ⟨g, o, rfl, ?_, fun i hi => ?_⟩
  · simp only [Addr.add, World.cell?] at hc0
    split at hc0
    · rename_i h1; simpa using (Array.getElem?_eq_some_iff.mp h1).1
    · simp at hc0
  · have hci := h i (by omega)
    have hadd : Addr.add ⟨g, o, none⟩ i = ⟨g, o + i, none⟩ := by unfold Addr.add; split <;> simp_all
    rw [hadd] at hci
    have hm : zs.getD i 0 ∈ zs := by rw [List.getD_eq_getElem?_getD, List.getElem?_eq_getElem (by omega)]; exact List.getElem_mem _
    have hr := hw _ hm
    obtain ⟨x, hx, h2⟩ : ∃ x : Nat, zs.getD i 0 = (x : Int) ∧ x < 256 := by
      have : 0 ≤ zs.getD i 0 ∧ zs.getD i 0 < 256 := by
        generalize zs.getD i 0 = z at hr
        simp only [Lit.wf, Bool.and_eq_true, decide_eq_true_eq] at hr
        rw [show IntKind.u8.min = 0 from by decide, show IntKind.u8.max = 255 from by decide] at hr
        omega
      exact ⟨(zs.getD i 0).toNat, by omega, by omega⟩
    exact ⟨x, h2, by rw [hci, hx]⟩
set_option maxRecDepth 100000 in
theorem lifted (os : Os) (started : os.Started) (H : Type) (enc : TypeId × Value → H) :
    ReturnsInHanded {} Try.checked os 3 .any (Rows.fnMonotoneRowsSpec.pre6 enc Try.prog Try.f3 Rows.fnMonotoneRowsRow.domain false) (Rows.fnMonotoneRowsSpec.post enc Try.prog Try.f3 false true false false) := by
  refine returnsInHanded_of_change_sized (C := Try.checked) own started (by kernel_rfl) Try.func3
    (ChangeSpec.witness6 (enc := enc) (C := Try.checked) false ⟨#[], #[.slice none 0 0], []⟩ 8 (by kernel_rfl) (by kernel_rfl) (by kernel_rfl) (by kernel_rfl)) ?_
  intro W base args ds gs before hval0 hW hcnd hsz0 _
  have hval : ∀ (j : Nat) t v, Try.f3.params[j]? = some t → args[j]? = some v → Value.okWide Try.prog W .any base t v := hval0
  have hW' := hW
  obtain ⟨p, q, hA0, hV, rfl, hfz, hnd⟩ := hW
  have hA : DataW.TrodAll enc Try.prog W 0 (fun _ => true) true Try.f3.params.toList args.toList ds p := hA0
  rw [Try.params3] at hA hval
  obtain ⟨v0, vs0, d0, ds0, p0, q0, hargs, rfl, rfl, h0, r0⟩ := trodAll_cons hA
  obtain ⟨rfl, rfl, rfl⟩ := trodAll_nil r0
  obtain rfl : args = #[v0] := by cases args; simp_all
  obtain ⟨rfl, rfl⟩ := trodVars_none hV
  obtain ⟨sa0, sl0, sc0, rfl⟩ := okWide_slice Try.underlying22 (hval 0 22 v0 rfl rfl)
  have k0 := h0
  have lt0 : ∀ x ∈ p0, x.block < W.heap.size := by obtain ⟨m, hm⟩ := k0; exact DataW.trod_lt m _ _ _ hm
  have hb : sl0 ≤ 4096 → BytesR W (.slice sa0 sl0 sc0) := by
    intro hn
    obtain ⟨fuel, hf⟩ := h0
    rcases open_ints Try.underlying22 Try.underlying5 (by kernel_rfl) hf with ⟨hcs, _⟩ | ⟨x, l, c, zs, hcs, _, hl, hm, hz, _, hcell, hwz⟩
    · simp [Value.cells] at hcs
      obtain ⟨rfl, rfl, rfl⟩ := hcs
      exact ⟨_, _, _, rfl, by omega, fun h => absurd h (by omega)⟩
    · simp [Value.cells] at hcs
      obtain ⟨rfl, rfl, rfl⟩ := hcs
      have hz' : zs.length = sc0 := by simpa using hz
      exact bytes_of (by omega) hcell hwz hn
  clear hA0 hval0 hsz0
  have hlaw := ev3 sa0 sl0 sc0 W hb
  refine Calls.mono (show Calls Try.prog 3 #[.slice sa0 sl0 sc0] W _ from hlaw) fun e W' ⟨he, hg⟩ => ?_
  subst he
  have bel : Below W.heap.size W W' := (Below.refl _ _).grown hg (Nat.le_refl _) (fun k hk => by cases hk)
  exact ⟨_, rfl, _, _, _, [], _, [], hW', trodAll_mk1 (shut_bool Try.underlying4 _), (trodAll_cons_mk (Below.trod laidOut (by kernel_rfl) (of_decide_eq_true (by kernel_rfl)) k0 bel lt0) trodAll_mk0), rfl, bel.frame _, fun h => by cases h⟩
theorem over : Rows.fnMonotoneRowsRow.holds Try.pinned (OpenSpec.ofChange Rows.fnMonotoneRowsSpec) :=
  OpenClaim.holds_of_wide 3 Try.f3 rfl rfl rfl rfl rfl rfl rfl ⟨rfl, rfl, rfl, rfl, rfl⟩ rfl rfl rfl rfl rfl (by kernel_rfl) Try.func3 (by kernel_rfl)
    (of_decide_eq_true (by kernel_rfl)) (by unfold Func.isWrapper; first | (rw [if_pos (by decide +kernel)]; kernel_rfl) | (rw [if_neg (by decide +kernel)]; exact ⟨rfl, rfl⟩))
    (fun os started H enc _ => lifted os started H enc)
theorem proved : Rows.FnMonotoneRowsSaid := over
end Go.Proofs.Ytokoboflpaklaaa.fnMonotoneRows
namespace Go.Proofs.Ytokoboflpaklaaa
/-- The row, under a short name. -/
theorem fnMonotoneRowsHolds : Rows.FnMonotoneRowsSaid := fnMonotoneRows.proved
end Go.Proofs.Ytokoboflpaklaaa
