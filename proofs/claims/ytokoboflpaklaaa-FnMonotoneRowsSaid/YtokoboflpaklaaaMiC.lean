/- Code, regions in any order, loops and functions. -/
import Derived.Test.YtokoboflpaklaaaMiB
set_option linter.unusedVariables false
set_option linter.unusedSimpArgs false
set_option linter.unusedSectionVars false
namespace Go.Proofs.Ytokoboflpaklaaa.Mi
open Go

/-- An operation comes to one answer. -/
theorem opK_det {Cl : Calls'} {o : MOp} {e : Env} {h : Heap} {A : List Ans} {K : V → Heap → List Ans → Prop} (hk : opK Cl o e h A K) :
    ∃ r h' A', K r h' A' ∧ ∀ K' : V → Heap → List Ans → Prop, K' r h' A' → opK Cl o e h A K' := by
  cases o
  case mm mx xs =>
    simp only [opK] at hk ⊢
    split at hk
    · split at hk
      · exact ⟨_, _, _, hk.2, fun K' hK' => ⟨hk.1, hK'⟩⟩
      · exact hk.elim
    · exact hk.elim
  case bad => simp only [opK] at hk
  case callw f as =>
    simp only [opK] at hk ⊢
    split at hk
    · rename_i vs hvs
      unfold callK at hk ⊢
      split at hk
      · obtain ⟨h1, h2, h3, h4⟩ := hk
        exact ⟨_, _, _, h4, fun K' hK' => ⟨h1, h2, h3, hK'⟩⟩
      · exact hk.elim
    · exact hk.elim
  case callvw x as =>
    simp only [opK] at hk ⊢
    split at hk
    · split at hk
      · unfold callK at hk ⊢
        split at hk
        · obtain ⟨h1, h2, h3, h4⟩ := hk
          exact ⟨_, _, _, h4, fun K' hK' => ⟨h1, h2, h3, hK'⟩⟩
        · exact hk.elim
      · exact hk.elim
    · split at hk
      · unfold callK at hk ⊢
        split at hk
        · obtain ⟨h1, h2, h3, h4⟩ := hk
          exact ⟨_, _, _, h4, fun K' hK' => ⟨h1, h2, h3, hK'⟩⟩
        · exact hk.elim
      · exact hk.elim
    · exact hk.elim
  all_goals
    simp only [opK, callK] at hk ⊢
    (repeat' split at hk) <;> first
    | exact hk.elim
    | exact (hk.2 : False).elim
    | (refine ⟨_, _, _, hk, fun K' hK' => ?_⟩; simp_all; done)
    | (refine ⟨_, _, _, hk.2, fun K' hK' => ?_⟩; simp_all; done)
    | (refine ⟨_, _, _, hk.2, fun K' hK' => ⟨hk.1, ?_⟩⟩; rw [if_pos (by assumption)]; exact hK')
    | (refine ⟨_, _, _, hk.2.2, fun K' hK' => ?_⟩; simp_all; done)

theorem opK_pure {Cl : Calls'} {o : MOp} {e : Env} {h : Heap} {A : List Ans} {K : V → Heap → List Ans → Prop} (ho : kindM o = 0) (hk : opK Cl o e h A K) (h2 : Heap) :
    opK Cl o e h2 A (fun r h' A' => h' = h2 ∧ K r h A') := by
  cases o
  case mm mx xs =>
    simp only [opK] at hk ⊢
    split at hk
    · split at hk
      · exact ⟨hk.1, trivial, hk.2⟩
      · exact hk.elim
    · exact hk.elim
  case bad => simp only [opK] at hk
  all_goals first
    | (simp [kindM] at ho; done)
    | (simp only [opK] at hk ⊢
       (repeat' split at hk) <;> first
        | exact hk.elim
        | (simp_all; done))

/-- A load hangs on its block alone. -/
theorem opK_load {Cl : Calls'} {n : Option Nat} {a : X} {e : Env} {h : Heap} {A : List Ans} {K : V → Heap → List Ans → Prop} (hk : opK Cl (.load n a) e h A K) :
    ∃ x o, a.ev e = some (.ptr x o) ∧ ∀ h2 : Heap, h2[x]? = h[x]? → opK Cl (.load n a) e h2 A (fun r h' A' => h' = h2 ∧ K r h A') := by
  simp only [opK] at hk
  split at hk
  · rename_i i o hv
    refine ⟨i, o, hv, fun h2 e2 => ?_⟩
    simp only [opK, hv, e2]
    split at hk
    · rename_i b hb
      by_cases hl : b.lit = true
      · simp only [hl, if_true] at hk ⊢
        cases n with
        | none =>
          simp only at hk ⊢
          split at hk
          · rename_i v hv2; first | exact ⟨trivial, hk⟩ | (rw [hv2]; exact ⟨trivial, hk⟩) | simp_all
          · exact hk.elim
        | some m => exact ⟨hk.1, trivial, hk.2⟩
      · simp only [if_neg hl] at hk ⊢
        split at hk
        · rename_i l A'
          cases n with
          | none =>
            simp only at hk ⊢
            split at hk
            · exact ⟨hk.1, trivial, hk.2⟩
            · exact hk.elim
          | some m => exact ⟨hk.1, trivial, hk.2⟩
        · exact hk.elim
    · exact hk.elim
  · exact hk.elim

/-- A slice hangs on its block alone. -/
theorem opK_slice {Cl : Calls'} {es : Nat} {x : X} {lo hi : Option X} {e : Env} {h : Heap} {A : List Ans} {K : V → Heap → List Ans → Prop} (hk : opK Cl (.slice es x lo hi) e h A K) (h2 : Heap)
    (hs : ∀ i, blockOf (.slice es x lo hi) e = some i → h2[i]? = h[i]?) : opK Cl (.slice es x lo hi) e h2 A (fun r h' A' => h' = h2 ∧ K r h A') := by
  simp only [opK] at hk ⊢
  split at hk
  · rename_i i o n hv
    have hsi : h2[i]? = h[i]? := hs i (by simp only [blockOf, hv])
    split at hk
    · split at hk
      · obtain ⟨hc, hk⟩ := hk
        rw [← hsi] at hc
        exact ⟨hc, trivial, hk⟩
      · exact hk.elim
    · exact hk.elim
  · split at hk
    · exact ⟨hk.1, trivial, hk.2⟩
    · exact hk.elim
  · exact hk.elim
theorem opK_loose {Cl : Calls'} {o : MOp} {e : Env} {h : Heap} {A : List Ans} {K : V → Heap → List Ans → Prop} (ho : isLoad o = true) (hk : opK Cl o e h A K) (h2 : Heap)
    (hs : ∀ i, blockOf o e = some i → h2[i]? = h[i]?) : opK Cl o e h2 A (fun r h' A' => h' = h2 ∧ K r h A') := by
  cases o <;> simp [isLoad] at ho
  · obtain ⟨x, ox, hx, hl⟩ := opK_load hk
    exact hl h2 (hs x (by simp only [blockOf, hx]))
  · exact opK_slice hk h2 hs

/-- What may be told of memory across a write. -/
structure WrOK (h h' : Heap) : Prop where
  len : h.length ≤ h'.length
  cl : ∀ (x : Nat) (b : Blk), h'[x]? = some b → b.cl < h'.length
  cle : ∀ (x : Nat) (b b' : Blk), h[x]? = some b → h'[x]? = some b' → b'.cl = b.cl ∧ b'.pr = b.pr
  new : ∀ (x : Nat) (b : Blk), h.length ≤ x → h'[x]? = some b → b.pr.isSome = true

theorem WrOK.upd {h : Heap} (hc : ∀ (x : Nat) (b : Blk), h[x]? = some b → b.cl < h.length) (b' : Blk) (i o : Nat) (hb : ∃ b, h[i]? = some b ∧ b'.cl = b.cl ∧ b'.pr = b.pr) : WrOK h (Mi.upd b' i o 0 h) := by
  obtain ⟨b, hb, h1, h2⟩ := hb
  have key : ∀ (x : Nat) (b0 q : Blk), h[x]? = some b0 → (Mi.upd b' i o 0 h)[x]? = some q → q.cl = b0.cl ∧ q.pr = b0.pr := by
    intro x b0 q hx hq
    rw [upd_get, hx] at hq
    simp only [Option.map_some, Option.some.injEq] at hq
    subst hq
    split
    · rename_i e; simp at e; subst e; rw [hb] at hx; obtain rfl := Option.some.inj hx; exact ⟨h1, h2⟩
    · split <;> exact ⟨rfl, rfl⟩
  refine ⟨by rw [upd_length]; exact Nat.le_refl _, fun x q hq => ?_, fun x b0 q hx hq => key x b0 q hx hq, fun x q hx hq => ?_⟩
  · have hl := (List.getElem?_eq_some_iff.mp hq).1
    rw [upd_length] at hl ⊢
    have e0 := List.getElem?_eq_getElem hl
    rw [(key x _ q e0 hq).1]; exact hc x _ e0
  · have hl := (List.getElem?_eq_some_iff.mp hq).1
    rw [upd_length] at hl; omega

theorem WrOK.snoc {h H : Heap} (hw : WrOK h H) (hl : H.length = h.length) {nb : Blk} (h3 : nb.cl ≤ h.length) (h4 : nb.pr.isSome = true) : WrOK h (H ++ [nb]) := by
  refine ⟨by simp; omega, fun x q hq => ?_, fun x b0 q hx hq => ?_, fun x q hx hq => ?_⟩
  · by_cases hx : x < H.length
    · rw [List.getElem?_append_left hx] at hq
      have := hw.cl x q hq
      simp; omega
    · have := (List.getElem?_eq_some_iff.mp hq).1
      simp at this
      obtain rfl : x = H.length := by omega
      simp at hq; subst hq
      simp; omega
  · have : x < H.length := by have := (List.getElem?_eq_some_iff.mp hx).1; omega
    rw [List.getElem?_append_left this] at hq
    exact hw.cle x b0 q hx hq
  · have := (List.getElem?_eq_some_iff.mp hq).1
    simp at this
    obtain rfl : x = H.length := by omega
    simp at hq; subst hq; exact h4

theorem WrOK.refl {h : Heap} (hc : ∀ (x : Nat) (b : Blk), h[x]? = some b → b.cl < h.length) : WrOK h h :=
  ⟨Nat.le_refl _, hc, fun x b b' h1 h2 => by rw [h1] at h2; obtain rfl := Option.some.inj h2; exact ⟨rfl, rfl⟩, fun x b h1 h2 => by rw [List.getElem?_eq_none h1] at h2; simp at h2⟩

theorem WrP.ok : ∀ {n : Nat} {h h' : List Blk}, WrP n h h' → h.length ≤ h'.length ∧ (∀ (x : Nat) (b b' : Blk), h[x]? = some b → h'[x]? = some b' → b'.cl = b.cl ∧ b'.pr = b.pr) ∧ (∀ (x : Nat) (b : Blk), h.length ≤ x → h'[x]? = some b → b.cl < n ∧ b.pr.isSome = true)
  | n, [], [], _ => ⟨Nat.le_refl _, fun x b b' h => by simp at h, fun x b _ h => by simp at h⟩
  | n, [], b :: bs, h => by
    obtain ⟨⟨h1, h2⟩, h3⟩ := h
    obtain ⟨i1, i2, i3⟩ := WrP.ok h3
    refine ⟨by simp, fun x b b' h => by simp at h, fun x c _ hx => ?_⟩
    cases x with
    | zero => simp at hx; subst hx; exact ⟨by simpa using h1, h2⟩
    | succ x => exact i3 x c (by simp) (by simpa using hx)
  | n, a :: as, b :: bs, h => by
    obtain ⟨h1, h3⟩ := h
    obtain ⟨i1, i2, i3⟩ := WrP.ok h3
    refine ⟨by simp; exact i1, fun x c c' hx hx' => ?_, fun x c hl hx => ?_⟩
    · cases x with
      | zero => simp at hx hx'; subst hx hx'; exact h1
      | succ x => exact i2 x c c' (by simpa using hx) (by simpa using hx')
    · cases x with
      | zero => simp at hl
      | succ x => exact i3 x c (by simpa using hl) (by simpa using hx)
  | n, a :: as, [], h => h.elim
theorem WrP.wr {h h' : Heap} (hw : WrP h'.length h h') (hc : ∀ (x : Nat) (b : Blk), h[x]? = some b → b.cl < h.length) : WrOK h h' := by
  obtain ⟨h1, h2, h3⟩ := hw.ok
  refine ⟨h1, fun x b hb => ?_, h2, fun x b hx hb => (h3 x b hx hb).2⟩
  by_cases hx : x < h.length
  · have e0 := List.getElem?_eq_getElem hx
    rw [(h2 x _ b e0 hb).1]; have := hc x _ e0; omega
  · exact (h3 x b (by omega) hb).1

theorem opK_wr {Cl : Calls'} {o : MOp} {e : Env} {h h' : Heap} {A A' : List Ans} {r : V} (ho : kindM o = 2) (h2 : ∀ K' : V → Heap → List Ans → Prop, K' r h' A' → opK Cl o e h A K')
    (hc : ∀ (x : Nat) (b : Blk), h[x]? = some b → b.cl < h.length) : WrOK h h' := by
  replace h2 := h2 (fun r1 h1 A1 => r1 = r ∧ h1 = h' ∧ A1 = A') ⟨rfl, rfl, rfl⟩
  cases o
  case store n a x =>
    simp only [opK] at h2
    repeat' split at h2
    all_goals first
      | exact h2.elim
      | exact (h2.2 : False).elim
      | skip
    · obtain ⟨_, _, rfl, _⟩ := h2
      exact WrOK.upd hc _ _ _ (by apply Exists.intro; apply And.intro; assumption; exact ⟨rfl, rfl⟩)
    · obtain ⟨_, _, _, rfl, _⟩ := h2
      exact WrOK.upd hc _ _ _ (by apply Exists.intro; apply And.intro; assumption; exact ⟨rfl, rfl⟩)
  case append es by_ x y =>
    simp only [opK] at h2
    repeat' split at h2
    all_goals first
      | exact h2.elim
      | exact (h2.2 : False).elim
      | skip
    · obtain ⟨_, _, _, rfl, _⟩ := h2
      have := hc _ _ (by assumption : h[_]? = some _)
      exact (WrOK.upd hc _ _ _ (by apply Exists.intro; apply And.intro; assumption; exact ⟨rfl, rfl⟩)).snoc (upd_length _ _ _ _ _) (by simp only; omega) rfl
    · obtain ⟨_, _, rfl, _⟩ := h2
      exact WrOK.refl hc
    · obtain ⟨_, _, rfl, _⟩ := h2
      exact (WrOK.refl hc).snoc rfl (Nat.le_refl _) rfl
  case copy es x y =>
    simp only [opK] at h2
    repeat' split at h2
    all_goals first
      | exact h2.elim
      | exact (h2.2 : False).elim
      | skip
    · obtain ⟨_, _, rfl, _⟩ := h2
      exact WrOK.upd hc _ _ _ (by apply Exists.intro; apply And.intro; assumption; exact ⟨rfl, rfl⟩)
  case callw f as =>
    simp only [opK] at h2
    split at h2
    · unfold callK at h2
      split at h2
      · obtain ⟨_, _, h3, _, rfl, _⟩ := h2
        exact h3.wr hc
      · exact h2.elim
    · exact h2.elim
  case callvw x as =>
    simp only [opK] at h2
    split at h2
    · split at h2
      · unfold callK at h2
        split at h2
        · obtain ⟨_, _, h3, _, rfl, _⟩ := h2
          exact h3.wr hc
        · exact h2.elim
      · exact h2.elim
    · split at h2
      · unfold callK at h2
        split at h2
        · obtain ⟨_, _, h3, _, rfl, _⟩ := h2
          exact h3.wr hc
        · exact h2.elim
      · exact h2.elim
    · exact h2.elim
  case clear es z x =>
    simp only [opK] at h2
    repeat' split at h2
    all_goals first
      | exact h2.elim
      | exact (h2.2 : False).elim
      | skip
    · obtain ⟨_, _, rfl, _⟩ := h2
      exact WrOK.upd hc _ _ _ (by apply Exists.intro; apply And.intro; assumption; exact ⟨rfl, rfl⟩)
  all_goals simp [kindM] at ho
end Go.Proofs.Ytokoboflpaklaaa.Mi
set_option linter.unusedVariables false
namespace Go.Proofs.Ytokoboflpaklaaa.Mi
open Go

def gOn (g : GOp) (e : Env) : Prop := g.g = none ∨ ∃ t w, g.g = some (t, w) ∧ get e t = some (.bool w)
def gOff (g : GOp) (e : Env) : Prop := ∃ t w, g.g = some (t, w) ∧ (get e t = some (.bool (!w)) ∨ get e t = some .undef)

/-- One step of the text's order. -/
def SD (Cl : Calls') (g : GOp) (e : Env) (h : Heap) (A : List Ans) (e' : Env) (h' : Heap) : Prop :=
  (gOn g e ∧ ∃ r A', e' = put g.d r e ∧ ∀ K' : V → Heap → List Ans → Prop, K' r h' A' → opK Cl g.op e h A K') ∨ (gOff g e ∧ e' = put g.d .undef e ∧ h' = h)

theorem gopK_det {Cl : Calls'} {g : GOp} {e : Env} {h : Heap} {A : List Ans} {K : Env → Heap → List Ans → Prop} (hk : gopK Cl g e h A K) :
    ∃ e' h' A', K e' h' A' ∧ SD Cl g e h A e' h' := by
  obtain ⟨op, d, gd⟩ := g
  have run : gOn ⟨op, d, gd⟩ e → opK Cl op e h A (fun r h' A' => K (put d r e) h' A') → ∃ e' h' A', K e' h' A' ∧ SD Cl ⟨op, d, gd⟩ e h A e' h' := by
    intro hon hk
    obtain ⟨r, h', A', h1, h2⟩ := opK_det hk
    exact ⟨_, h', A', h1, .inl ⟨hon, r, A', rfl, h2⟩⟩
  cases gd with
  | none => simp only [gopK] at hk; exact run (.inl rfl) hk
  | some tw =>
    obtain ⟨t, w⟩ := tw
    simp only [gopK] at hk
    split at hk
    · rename_i b hg
      split at hk
      · rename_i hb; subst hb; exact run (.inr ⟨t, _, rfl, hg⟩) hk
      · rename_i hb; exact ⟨_, _, _, hk, .inr ⟨⟨t, w, rfl, .inl (by rw [hg]; cases b <;> cases w <;> simp_all)⟩, rfl, rfl⟩⟩
    · rename_i hg; exact ⟨_, _, _, hk, .inr ⟨⟨t, w, rfl, .inr hg⟩, rfl, rfl⟩⟩
    · exact hk.elim

theorem trace {Cl : Calls'} : ∀ (gs : List GOp) {e : Env} {h : Heap} {A : List Ans} {K : Env → Heap → List Ans → Prop}, opsDK Cl gs e h A K →
    ∃ (E : Nat → Env) (H : Nat → Heap) (B : Nat → List Ans), E 0 = e ∧ H 0 = h ∧ K (E gs.length) (H gs.length) (B gs.length) ∧
      ∀ (i : Nat) (g : GOp), gs[i]? = some g → SD Cl g (E i) (H i) (B i) (E (i + 1)) (H (i + 1)) ∧ okIds g.d (E (i + 1)) (H (i + 1)) = true ∧ (isW g.op = false → Ext (H i) (H (i + 1)))
  | [], e, h, A, K, hk => ⟨fun _ => e, fun _ => h, fun _ => A, rfl, rfl, hk, by simp⟩
  | g :: gs, e, h, A, K, hk => by
    simp only [opsDK] at hk
    obtain ⟨e', h', A', ⟨h1, h2⟩, h3⟩ := gopK_det hk
    obtain ⟨E, H, B, q1, q2, q3, q4⟩ := trace gs h2
    refine ⟨fun i => match i with | 0 => e | i + 1 => E i, fun i => match i with | 0 => h | i + 1 => H i, fun i => match i with | 0 => A | i + 1 => B i, rfl, rfl, q3, fun i g' hg => ?_⟩
    cases i with
    | zero =>
      simp at hg; subst hg
      simp only [q1, q2]
      exact ⟨h3, h1⟩
    | succ i => exact q4 i g' (by simpa using hg)

theorem traceL {Cl : Calls'} {ls X : List Nat} : ∀ (gs : List GOp) {n : Nat} {e : Env} {h : Heap} {A : List Ans} {K : Env → Heap → List Ans → Prop}, opsLK Cl ls X n gs e h A K →
    ∃ (E : Nat → Env) (H : Nat → Heap) (B : Nat → List Ans), E 0 = e ∧ H 0 = h ∧ K (E gs.length) (H gs.length) (B gs.length) ∧
      ∀ (i : Nat) (g : GOp), gs[i]? = some g → (SD Cl g (E i) (H i) (B i) (E (i + 1)) (H (i + 1)) ∧ okIds g.d (E (i + 1)) (H (i + 1)) = true ∧ (isW g.op = false → Ext (H i) (H (i + 1)))) ∧ looseB ls X (n + i) g (E i) = true ∧ ∀ x ∈ X, (H (i + 1))[x]? = (H i)[x]?
  | [], n, e, h, A, K, hk => ⟨fun _ => e, fun _ => h, fun _ => A, rfl, rfl, hk, by simp⟩
  | g :: gs, n, e, h, A, K, hk => by
    simp only [opsLK] at hk
    obtain ⟨hl, hk⟩ := hk
    obtain ⟨e', h', A', ⟨h1, h2⟩, h3⟩ := gopK_det hk
    obtain ⟨E, H, B, q1, q2, q3, q4⟩ := traceL gs h2
    refine ⟨fun i => match i with | 0 => e | i + 1 => E i, fun i => match i with | 0 => h | i + 1 => H i, fun i => match i with | 0 => A | i + 1 => B i, rfl, rfl, q3, fun i g' hg => ?_⟩
    cases i with
    | zero =>
      simp at hg; subst hg
      simp only [q1, q2]
      exact ⟨⟨h3, h1.1, h1.2.1⟩, hl, h1.2.2⟩
    | succ i =>
      have := q4 i g' (by simpa using hg)
      rw [show n + (i + 1) = n + 1 + i by omega]
      exact this

theorem isW_kind (o : MOp) : isW o = true ↔ kindM o = 2 := by cases o <;> simp [isW, kindM]

def bEdges (o : Oper) : List Edge := o.after.toList.filter (Region.binds .any ·)

theorem befs_ok : ∀ (os : List Oper) (acc : List (List Nat)), ∃ ys, befs os acc = acc ++ ys ∧ ys.length = os.length ∧
    ∀ (i : Nat) (o : Oper), os[i]? = some o → ys.getD i [] = (bEdges o).flatMap fun e => e.on :: ((acc ++ ys).take (acc.length + i)).getD e.on []
  | [], acc => ⟨[], by simp [befs], rfl, by simp⟩
  | o :: os, acc => by
    obtain ⟨ys, h1, h2, h3⟩ := befs_ok os (acc ++ [(bEdges o).flatMap fun e => e.on :: acc.getD e.on []])
    refine ⟨((bEdges o).flatMap fun e => e.on :: acc.getD e.on []) :: ys, ?_, by simp [h2], fun i o' ho => ?_⟩
    · simp only [befs]
      rw [show (List.filter (fun x => Region.binds Region.Mode.any x) o.after.toList) = bEdges o from rfl, h1]
      simp
    · cases i with
      | zero => simp at ho; subst ho; simp
      | succ i =>
        have := h3 i o' (by simpa using ho)
        simp only [List.getD_cons_succ]
        rw [this]
        simp [Nat.add_assoc, Nat.add_comm 1 i]

/-- The same operation, but a call may write. -/
def Wk (g0 g : GOp) : Prop := g = g0 ∨ (∃ f as, g0.op = .call f as ∧ g = ⟨.callw f as, g0.d, g0.g⟩) ∨ (∃ x as, g0.op = .callv x as ∧ g = ⟨.callvw x as, g0.d, g0.g⟩)
theorem Wk.toW (g : GOp) : Wk g (toW g) := by
  obtain ⟨op, d, gd⟩ := g
  unfold Wk Mi.toW
  split
  · rename_i f as h; exact .inr (.inl ⟨f, as, h, rfl⟩)
  · rename_i f as h; exact .inr (.inr ⟨f, as, h, rfl⟩)
  · exact .inl rfl
theorem Wk.d {g0 g : GOp} (h : Wk g0 g) : g.d = g0.d ∧ g.g = g0.g := by
  rcases h with rfl | ⟨f, as, _, rfl⟩ | ⟨f, as, _, rfl⟩ <;> exact ⟨rfl, rfl⟩
theorem callK_mono {Cl : Calls'} {f : Nat} {vs : List V} {h : Heap} {A : List Ans} {K K' : V → List Blk → List Ans → Prop} (hk : callK Cl f vs h A K) (hm : ∀ r h' A', K r h' A' → K' r h' A') : callK Cl f vs h A K' := by
  unfold callK at hk ⊢
  split at hk
  · exact ⟨hk.1, hk.2.1, hm _ _ _ hk.2.2⟩
  · exact hk.elim
theorem Wk.op {Cl : Calls'} {g0 g : GOp} (hw : Wk g0 g) {e : Env} {h : Heap} {A : List Ans} {K : V → Heap → List Ans → Prop} (hk : opK Cl g.op e h A K) : opK Cl g0.op e h A K := by
  rcases hw with rfl | ⟨f, as, h0, rfl⟩ | ⟨x, as, h0, rfl⟩
  · exact hk
  · rw [h0]
    simp only [opK] at hk ⊢
    split at hk
    · exact callK_mono hk fun _ _ _ h => h.2
    · exact hk.elim
  · rw [h0]
    simp only [opK] at hk ⊢
    split at hk
    · split at hk
      · exact callK_mono hk fun _ _ _ h => h.2
      · exact hk.elim
    · split at hk
      · exact callK_mono hk fun _ _ _ h => h.2
      · exact hk.elim
    · exact hk.elim
theorem upGo_ok {all : List GOp} {B : List (List Nat)} : ∀ (gs : List GOp) (i : Nat), (upGo all B i gs).length = gs.length ∧ ∀ (j : Nat) (g0 : GOp), gs[j]? = some g0 → ∃ g, (upGo all B i gs)[j]? = some g ∧ Wk g0 g
  | [], i => ⟨rfl, by simp⟩
  | g :: gs, i => by
    obtain ⟨h1, h2⟩ := upGo_ok (all := all) (B := B) gs (i + 1)
    refine ⟨by simp [upGo, h1], fun j g0 hj => ?_⟩
    cases j with
    | zero =>
      simp at hj; subst hj
      refine ⟨(if ordAll all B i = true then toW g else g), by simp [upGo], ?_⟩
      split
      · exact Wk.toW g
      · exact .inl rfl
    | succ j => simpa [upGo] using h2 j g0 (by simpa using hj)

/-- What the check of a region's order tells. -/
structure DF (C : Cx) (N : Nat) (ops : Array Oper) (gs : List GOp) (B : Nat → List Nat) (Ls : Nat → Prop) : Prop where
  len : gs.length = ops.size
  cg : ∀ (i : Nat) (o : Oper), ops[i]? = some o → ∃ g0 g : GOp, gs[i]? = some g ∧ cG C N ops o = some g0 ∧ Wk g0 g
  lt : ∀ j, j < ops.size → ∀ i ∈ B j, i < j
  rd : ∀ (j : Nat) (o : Oper), ops[j]? = some o → ∀ t, Operand.tmp t ∈ o.op.operands → ∀ (i : Nat) (q : Oper), ops[i]? = some q → q.dst = some t → i ∈ B j ∨ j ∈ B i
  gd : ∀ (j : Nat) (o : Oper) (i : Nat) (w : Bool), ops[j]? = some o → o.guard = some (i, w) → i ∈ B j
  ds : ∀ (i j : Nat) (oi oj : Oper) (d : Tmp), ops[i]? = some oi → ops[j]? = some oj → oi.dst = some d → oj.dst = some d → i = j
  cmp : ∀ (i j : Nat) (gi gj : GOp), gs[i]? = some gi → gs[j]? = some gj → i ≠ j → kindM gi.op = 2 → kindM gj.op ≠ 0 → ¬ Ls j → j ∈ B i ∨ i ∈ B j
  lsd : ∀ (j : Nat) (g : GOp), gs[j]? = some g → Ls j → isLoad g.op = true
  ed : ∀ (j : Nat) (o : Oper) (e : Edge), ops[j]? = some o → e ∈ o.after → Region.binds .any e = true → e.on ∈ B j ∧ ∀ x ∈ B e.on, x ∈ B j
  in_ : ∀ (j : Nat) (o : Oper), ops[j]? = some o → ∀ x ∈ B j, ∃ e ∈ o.after, Region.binds .any e = true ∧ (x = e.on ∨ x ∈ B e.on)

theorem DF.mk' {C : Cx} {N : Nat} {ops : Array Oper} {gs0 gs : List GOp} (hc : mapO (cG C N ops) ops.toList = some gs0) (hup : gs = upW ops.toList gs0) {ls : List Nat} (hd : drawOKL ops.toList gs ls = true) :
    DF C N ops gs (fun j => (befs ops.toList []).getD j []) (fun j => ls.contains j = true ∧ ∀ g, gs[j]? = some g → isLoad g.op = true) := by
  obtain ⟨l1, l2⟩ := mapO_some hc
  have hlen : gs.length = ops.size := by rw [hup, upW, (upGo_ok gs0 0).1]; simpa using l1
  obtain ⟨ys, y1, y2, y3⟩ := befs_ok ops.toList []
  simp only [List.nil_append, List.length_nil, Nat.zero_add] at y1 y3
  unfold drawOKL at hd
  rw [y1] at hd
  rw [y1]
  have hg : ∀ (i : Nat) (o : Oper), ops[i]? = some o → ∃ g0 g : GOp, gs[i]? = some g ∧ cG C N ops o = some g0 ∧ Wk g0 g := fun i o ho => by
    obtain ⟨g0, q1, q2⟩ := l2 i o (by simpa using ho)
    obtain ⟨g, q3, q4⟩ := (upGo_ok (all := gs0) (B := befs ops.toList []) gs0 0).2 i g0 q1
    exact ⟨g0, g, by rw [hup]; exact q3, q2, q4⟩
  have main : ∀ (i : Nat) (o : Oper) (g : GOp), ops[i]? = some o → gs[i]? = some g → rdOK ops.toList ops.size ys (ys.getD i []) i o = true ∧
      ∀ (j : Nat) (g' : GOp), gs[j]? = some g' → i = j ∨ kindM g.op ≠ 2 ∨ kindM g'.op = 0 ∨ (ls.contains j = true ∧ isLoad g'.op = true) ∨ j ∈ ys.getD i [] ∨ i ∈ ys.getD j [] := by
    intro i o g ho hgi
    have hi : i < ops.size := (Array.getElem?_eq_some_iff.mp ho).1
    have := List.all_eq_true.mp hd i (by simpa using hi)
    simp only [Array.getElem?_toList, ho, hgi, Bool.and_eq_true, Array.length_toList] at this
    refine ⟨this.1, fun j g' hj => ?_⟩
    have hj' : j < ops.size := by rw [← hlen]; exact (List.getElem?_eq_some_iff.mp hj).1
    have := List.all_eq_true.mp this.2 j (by simpa using hj')
    simp only [hj, Bool.or_eq_true, Bool.and_eq_true, beq_iff_eq, bne_iff_ne, List.contains_eq_mem, decide_eq_true_eq] at this ⊢
    rcases this with ((((h | h) | h) | h) | h) | h
    · exact .inl h
    · exact .inr (.inl h)
    · exact .inr (.inr (.inl h))
    · exact .inr (.inr (.inr (.inl h)))
    · exact .inr (.inr (.inr (.inr (.inl h))))
    · exact .inr (.inr (.inr (.inr (.inr h))))
  have lt : ∀ j, j < ops.size → ∀ i ∈ ys.getD j [], i < j := by
    intro j hj i hi
    have ho : ops[j]? = some ops[j] := by simp [hj]
    obtain ⟨_, g, hgj, _⟩ := hg j _ ho
    have := (main j _ g ho hgj).1
    simp only [rdOK, Bool.and_eq_true] at this
    simpa using List.all_eq_true.mp this.1.1.1 i hi
  have hin : ∀ (j : Nat) (o : Oper), ops[j]? = some o → ∀ x ∈ ys.getD j [], ∃ e ∈ o.after, Region.binds .any e = true ∧ (x = e.on ∨ (e.on < j ∧ x ∈ ys.getD e.on [])) := by
    intro j o ho x hx
    rw [y3 j o (by simpa using ho)] at hx
    obtain ⟨e, he, hx⟩ := List.mem_flatMap.mp hx
    simp only [bEdges, List.mem_filter, Array.mem_toList_iff] at he
    refine ⟨e, he.1, he.2, ?_⟩
    rcases List.mem_cons.mp hx with rfl | hx
    · exact .inl rfl
    · right
      by_cases hlt : e.on < j
      · refine ⟨hlt, ?_⟩
        simp only [List.getD_eq_getElem?_getD, List.getElem?_take, if_pos hlt] at hx ⊢
        exact hx
      · simp only [List.getD_eq_getElem?_getD, List.getElem?_take, if_neg hlt] at hx
        simp at hx
  have hed : ∀ (j : Nat) (o : Oper) (e : Edge), ops[j]? = some o → e ∈ o.after → Region.binds .any e = true → e.on ∈ ys.getD j [] ∧ ∀ x ∈ ys.getD e.on [], x ∈ ys.getD j [] := by
    intro j o e ho he hb
    have hj : j < ops.size := (Array.getElem?_eq_some_iff.mp ho).1
    have hme : e ∈ bEdges o := by simp [bEdges, he, hb]
    have h1 : e.on ∈ ys.getD j [] := by
      rw [y3 j o (by simpa using ho)]
      exact List.mem_flatMap.mpr ⟨e, hme, List.mem_cons_self⟩
    refine ⟨h1, fun x hx => ?_⟩
    have hlt := lt j hj _ h1
    rw [y3 j o (by simpa using ho)]
    refine List.mem_flatMap.mpr ⟨e, hme, List.mem_cons_of_mem _ ?_⟩
    simp only [List.getD_eq_getElem?_getD, List.getElem?_take, if_pos hlt] at hx ⊢
    exact hx
  refine ⟨hlen, hg, lt, ?_, ?_, ?_, ?_, ?_, hed, fun j o ho x hx => ?_⟩
  · intro j o ho t ht i q hq hqd
    obtain ⟨_, g, hgj, _⟩ := hg j _ ho
    have := (main j _ g ho hgj).1
    simp only [rdOK, Bool.and_eq_true] at this
    have := List.all_eq_true.mp this.1.1.2 _ (Array.mem_toList_iff.mpr ht)
    simp only at this
    have hi : i < ops.size := (Array.getElem?_eq_some_iff.mp hq).1
    have := List.all_eq_true.mp this i (by simpa using hi)
    simpa [hq, hqd] using this
  · intro j o i w ho hw
    obtain ⟨_, g, hgj, _⟩ := hg j _ ho
    have := (main j _ g ho hgj).1
    simp only [rdOK, Bool.and_eq_true, hw] at this
    simpa using this.1.2
  · have key : ∀ (i j : Nat) (oi oj : Oper) (d : Tmp), i < j → ops[i]? = some oi → ops[j]? = some oj → oi.dst = some d → oj.dst = some d → False := by
      intro i j oi oj d hij hoi hoj hdi hdj
      obtain ⟨_, g, hgj, _⟩ := hg j _ hoj
      have := (main j _ g hoj hgj).1
      simp only [rdOK, Bool.and_eq_true] at this
      have := List.all_eq_true.mp this.2 i (by simpa using hij)
      simp [hoi, hdi, hdj] at this
    intro i j oi oj d hoi hoj hdi hdj
    rcases Nat.lt_trichotomy i j with h | h | h
    · exact (key i j oi oj d h hoi hoj hdi hdj).elim
    · exact h
    · exact (key j i oj oi d h hoj hoi hdj hdi).elim
  · intro i j gi gj hi hj hne h2 h0 hnl
    have hi' : i < ops.size := by rw [← hlen]; exact (List.getElem?_eq_some_iff.mp hi).1
    have ho : ops[i]? = some ops[i] := by simp [hi']
    rcases (main i _ gi ho hi).2 j gj hj with h | h | h | h | h | h
    · exact (hne h).elim
    · exact (h h2).elim
    · exact (h0 h).elim
    · exact (hnl ⟨h.1, fun g hg => by rw [hj] at hg; obtain rfl := Option.some.inj hg; exact h.2⟩).elim
    · exact .inl h
    · exact .inr h
  · intro j g hg hl
    exact hl.2 g hg
  · obtain ⟨e, h1, h2, h3⟩ := hin j o ho x hx
    exact ⟨e, h1, h2, h3.imp id fun h => h.2⟩
end Go.Proofs.Ytokoboflpaklaaa.Mi
set_option linter.unusedVariables false
namespace Go.Proofs.Ytokoboflpaklaaa.Mi
open Go
section
variable {ρ : Nat → Nat} {R : Nat → Nat → Prop} {m m1 : Mp} {D : Nat → Prop} {hp hj h1 : Heap} {W W' : World}

theorem Inv.extend (H : Inv ρ R m D hp W) (nw : Heap) : Inv ρ R m D (hp ++ nw) W := by
  have hget : ∀ i, D i → (hp ++ nw)[i]? = hp[i]? := fun i hi => List.getElem?_append_left (H.hlt hi)
  refine ⟨fun i b hi hb => H.blk i b hi (by rw [← hget i hi]; exact hb), fun i hi => by rw [hget i hi]; exact H.dom i hi, fun i j bi bj hi hj hbi hbj => H.cls i j bi bj hi hj (by rw [← hget i hi]; exact hbi) (by rw [← hget j hj]; exact hbj),
    fun i b p hi hb => H.rts i b p hi (by rw [← hget i hi]; exact hb), fun i b hi hb => H.flat i b hi (by rw [← hget i hi]; exact hb), fun i b hi hb => H.ids i b hi (by rw [← hget i hi]; exact hb), H.fresh,
    fun i b hi hb => by have := H.clb i b hi (by rw [← hget i hi]; exact hb); simp; omega, fun i b hi hb => H.atm i b hi (by rw [← hget i hi]; exact hb)⟩

/-- What may be written when the blocks from n on are left alone. -/
def Rlate (R : Nat → Nat → Prop) (m : Mp) (D : Nat → Prop) (n : Nat) : Nat → Nat → Prop := fun r o => R r o ∧ ∀ i, D i → n ≤ i → m.b i ≠ r

theorem Inv.restrict (H : Inv ρ R m D hp W) {n : Nat} (hn : hj.length ≤ n) (hpre : ∀ i, i < hj.length → hp[i]? = hj[i]?) (hcl : ∀ (i : Nat) (b : Blk), hj[i]? = some b → b.cl < hj.length)
    (hlate : ∀ (i : Nat) (b : Blk), D i → n ≤ i → hp[i]? = some b → n ≤ b.cl) (hids : ∀ (i : Nat) (b : Blk), D i → hj[i]? = some b → ∀ y ∈ V.idsL b.c, y < hj.length) :
    Inv ρ (Rlate R m D n) m (fun i => D i ∧ i < hj.length) hj W := by
  refine ⟨fun i b hi hb => H.blk i b hi.1 (by rw [hpre i hi.2]; exact hb), fun i hi => ⟨_, List.getElem?_eq_getElem hi.2⟩, fun i j bi bj hi hj' hbi hbj => H.cls i j bi bj hi.1 hj'.1 (by rw [hpre i hi.2]; exact hbi) (by rw [hpre j hj'.2]; exact hbj),
    fun i b p hi hb hpp o ho => ⟨H.rts i b p hi.1 (by rw [hpre i hi.2]; exact hb) hpp o ho, fun x hx hnx e => ?_⟩, fun i b hi hb => H.flat i b hi.1 (by rw [hpre i hi.2]; exact hb),
    fun i b hi hb j hj' => ⟨H.ids i b hi.1 (by rw [hpre i hi.2]; exact hb) j hj', hids i b hi.1 hb j hj'⟩, fun r hr o => ⟨H.fresh r hr o, fun x hx hnx e => by have := H.lt hx; omega⟩, fun i b hi hb => hcl i b hb, fun i b hi hb => H.atm i b hi.1 (by rw [hpre i hi.2]; exact hb)⟩
  obtain ⟨bx, hbx⟩ := H.dom x hx
  have h1 := H.cls x i bx b hx hi.1 hbx (by rw [hpre i hi.2]; exact hb) e
  have h2 := hlate x bx hx hnx hbx
  have h3 := hcl i b hb
  omega

/-- An operation of the text's past, done now. -/
theorem Inv.mix (H : Inv ρ R m D hp W) (h1p : h1.length ≤ hp.length) (hpre : ∀ i, i < h1.length → hp[i]? = h1[i]?) (hD : ∀ i, D i → i < hj.length ∨ h1.length ≤ i) {r : V} {u : Value}
    (P : Post ρ (Rlate R m D h1.length) m (fun i => D i ∧ i < hj.length) hj W r h1 u W' m1) :
    ∃ m', Inv ρ R m' (fun i => D i ∨ (hj.length ≤ i ∧ i < h1.length)) hp W' ∧ Keep R W W' ∧ (∀ i, D i → m.same m' i) ∧ VR ρ m' r u := by
  have hl := P.len
  let m' : Mp := ⟨fun i => if i < h1.length then m1.b i else m.b i, fun i => if i < h1.length then m1.sz i else m.sz i, fun i => if i < h1.length then m1.es i else m.es i⟩
  have s1 : ∀ i, i < h1.length → m1.same m' i := fun i hi => by simp [Mp.same, m', hi]
  have s2 : ∀ i, ¬ i < h1.length → m.same m' i := fun i hi => by simp [Mp.same, m', hi]
  have s3 : ∀ i, D i → m.same m' i := by
    intro i hi
    by_cases hlt : i < h1.length
    · have hj' : i < hj.length := (hD i hi).resolve_right (by omega)
      obtain ⟨a1, a2, a3⟩ := P.same i ⟨hi, hj'⟩
      obtain ⟨b1, b2, b3⟩ := s1 i hlt
      exact ⟨b1.trans a1, b2.trans a2, b3.trans a3⟩
    · exact s2 i hlt
  have dd : ∀ i, (D i ∨ (hj.length ≤ i ∧ i < h1.length)) → i < h1.length → ((D i ∧ i < hj.length) ∨ (hj.length ≤ i ∧ i < h1.length)) := by
    rintro i (hi | hi) hlt
    · exact .inl ⟨hi, (hD i hi).resolve_right (by omega)⟩
    · exact .inr hi
  have dl : ∀ i, (D i ∨ (hj.length ≤ i ∧ i < h1.length)) → ¬ i < h1.length → D i := by
    rintro i (hi | hi) hlt
    · exact hi
    · exact absurd hi.2 hlt
  have back : ∀ i, ((D i ∧ i < hj.length) ∨ (hj.length ≤ i ∧ i < h1.length)) → (D i ∨ (hj.length ≤ i ∧ i < h1.length)) := fun i hi => hi.imp And.left id
  have blt : ∀ i, ((D i ∧ i < hj.length) ∨ (hj.length ≤ i ∧ i < h1.length)) → i < h1.length := fun i hi => by rcases hi with hi | hi <;> omega
  refine ⟨m', ⟨?_, ?_, ?_, ?_, ?_, ?_, ?_, ?_, ?_⟩, P.keep.mono fun r o _ h => h.1, s3, P.rel.agree fun i hi => s1 i (blt i (P.rid i hi))⟩
  · intro i b hi hb
    by_cases hlt : i < h1.length
    · have hi' := dd i hi hlt
      rw [hpre i hlt] at hb
      obtain ⟨cs, el, fz, g1, g2, g3, g4, g5, g6⟩ := P.inv.blk i b hi' hb
      obtain ⟨b1, b2, b3⟩ := s1 i hlt
      refine ⟨cs, el, fz, by rw [b1]; exact g1, by rw [b2]; exact g2, by rw [b3]; exact g3, g4, fun j v hv => ?_, g6⟩
      obtain ⟨w, q1, q2⟩ := g5 j v hv
      exact ⟨w, q1, q2.agree fun x hx => s1 x (blt x (P.inv.ids i b hi' hb x (V.mem_idsL.mpr ⟨v, List.mem_of_getElem? hv, hx⟩)))⟩
    · have hDi := dl i hi hlt
      obtain ⟨cs, el, fz, g1, g2, g3, g4, g5, g6⟩ := H.blk i b hDi hb
      obtain ⟨b1, b2, b3⟩ := s2 i hlt
      have key : ∃ cs' : Array Value, W'.heap[m.b i]? = some (.cells cs' el fz) ∧ cs'.size = cs.size ∧ ∀ o : Nat, cs'[o]? = cs[o]? := by
        rcases P.keep.blk (m.b i) (H.lt hDi) with e | ⟨ds, ds', el', fz', e1, e2, e3, e4⟩
        · exact ⟨cs, by rw [← e]; exact g1, rfl, fun _ => rfl⟩
        · rw [g1] at e1
          obtain ⟨rfl, rfl, rfl⟩ : cs = ds ∧ el = el' ∧ fz = fz' := by simpa using e1
          exact ⟨ds', e2, e3, fun o => e4 o fun hr => hr.2 i hDi (by omega) rfl⟩
      obtain ⟨cs', k1, k2, k3⟩ := key
      refine ⟨cs', el, fz, by rw [b1]; exact k1, by rw [b2, k2]; exact g2, by rw [b3]; exact g3, by omega, fun j v hv => ?_, g6⟩
      obtain ⟨w, q1, q2⟩ := g5 j v hv
      exact ⟨w, by rw [k3]; exact q1, q2.agree fun x hx => s3 x (H.ids i b hDi hb x (V.mem_idsL.mpr ⟨v, List.mem_of_getElem? hv, hx⟩))⟩
  · intro i hi
    by_cases hlt : i < h1.length
    · rw [hpre i hlt]; exact ⟨_, List.getElem?_eq_getElem hlt⟩
    · exact H.dom i (dl i hi hlt)
  · intro i j bi bj hi hj' hbi hbj he
    have mixed : ∀ (i j : Nat) (bi bj : Blk), (D i ∨ (hj.length ≤ i ∧ i < h1.length)) → (D j ∨ (hj.length ≤ j ∧ j < h1.length)) → hp[i]? = some bi → hp[j]? = some bj → m'.b i = m'.b j → i < h1.length → ¬ j < h1.length → bi.cl = bj.cl := by
      intro i j bi bj hi hj' hbi hbj he hli hlj
      have hDj := dl j hj' hlj
      rcases dd i hi hli with hi' | hi'
      · exact H.cls i j bi bj hi'.1 hDj hbi hbj (by rw [(s3 i hi'.1).1, (s3 j hDj).1] at he; exact he)
      · rw [hpre i hli] at hbi
        have hsome := P.new i bi hi'.1 hbi
        obtain ⟨p, hp'⟩ := Option.isSome_iff_exists.mp hsome
        have := (P.inv.rts i bi p (.inr hi') hbi hp' p (Nat.le_refl _)).2 j hDj (by omega)
        rw [(s1 i hli).1, (s2 j hlj).1] at he
        exact absurd he.symm this
    by_cases hli : i < h1.length <;> by_cases hlj : j < h1.length
    · rw [hpre i hli] at hbi; rw [hpre j hlj] at hbj
      exact P.inv.cls i j bi bj (dd i hi hli) (dd j hj' hlj) hbi hbj (by rw [(s1 i hli).1, (s1 j hlj).1] at he; exact he)
    · exact mixed i j bi bj hi hj' hbi hbj he hli hlj
    · exact (mixed j i bj bi hj' hi hbj hbi he.symm hlj hli).symm
    · exact H.cls i j bi bj (dl i hi hli) (dl j hj' hlj) hbi hbj (by rw [(s2 i hli).1, (s2 j hlj).1] at he; exact he)
  · intro i b p hi hb hpp o ho
    by_cases hlt : i < h1.length
    · rw [hpre i hlt] at hb
      rw [(s1 i hlt).1]; exact (P.inv.rts i b p (dd i hi hlt) hb hpp o ho).1
    · rw [(s2 i hlt).1]; exact H.rts i b p (dl i hi hlt) hb hpp o ho
  · intro i b hi hb hl'
    by_cases hlt : i < h1.length
    · rw [hpre i hlt] at hb; exact P.inv.flat i b (dd i hi hlt) hb hl'
    · exact H.flat i b (dl i hi hlt) hb hl'
  · intro i b hi hb j hj'
    by_cases hlt : i < h1.length
    · rw [hpre i hlt] at hb; exact back j (P.inv.ids i b (dd i hi hlt) hb j hj')
    · exact .inl (H.ids i b (dl i hi hlt) hb j hj')
  · intro r hr o
    exact H.fresh r (Nat.le_trans P.keep.size hr) o
  · intro i b hi hb
    by_cases hlt : i < h1.length
    · rw [hpre i hlt] at hb; have := P.inv.clb i b (dd i hi hlt) hb; omega
    · exact H.clb i b (dl i hi hlt) hb
  · intro i b hi hb
    by_cases hlt : i < h1.length
    · rw [hpre i hlt] at hb; exact P.inv.atm i b (dd i hi hlt) hb
    · exact H.atm i b (dl i hi hlt) hb
end
end Go.Proofs.Ytokoboflpaklaaa.Mi
set_option linter.unusedVariables false
set_option linter.unusedSectionVars false
namespace Go.Proofs.Ytokoboflpaklaaa.Mi
open Go

/-- The text's order of a region, and what is known of it. -/
structure TR (C : Cx) (N : Nat) (ops : Array Oper) (gs : List GOp) (B : Nat → List Nat) (Ls : Nat → Prop) (E : Nat → Env) (H : Nat → Heap) (An : Nat → List Ans) : Prop where
  df : DF C N ops gs B Ls
  st : ∀ (i : Nat) (g : GOp), gs[i]? = some g → SD (Ev C) g (E i) (H i) (An i) (E (i + 1)) (H (i + 1)) ∧ okIds g.d (E (i + 1)) (H (i + 1)) = true ∧ (isW g.op = false → Ext (H i) (H (i + 1)))
  cl0 : ∀ (x : Nat) (b : Blk), (H 0)[x]? = some b → b.cl < (H 0).length
  ls : ∀ (j : Nat) (g : GOp), gs[j]? = some g → Ls j → ∀ x, blockOf g.op (E j) = some x → ∀ q, q ≤ gs.length → (H q)[x]? = (H 0)[x]?

section
variable {C : Cx} {N k : Nat} {R : Nat → Nat → Prop} {W0 : World} {m0 : Mp} {c0 : Nat → Nat} {W : World} {m : Mp} {ops : Array Oper} {gs : List GOp} {B : Nat → List Nat} {Ls : Nat → Prop} {E : Nat → Env} {H : Nat → Heap} {An : Nat → List Ans}

theorem Ext.wr {h h' : Heap} (he : Ext h h') (hc : ∀ (x : Nat) (b : Blk), h[x]? = some b → b.cl < h.length) : WrOK h h' := by
  obtain ⟨n, rfl, hn⟩ := he
  refine ⟨by simp, fun x b hb => ?_, fun x b b' hb hb' => ?_, fun x b hx hb => ?_⟩
  · by_cases hx : x < h.length
    · rw [List.getElem?_append_left hx] at hb; have := hc x b hb; simp; omega
    · rw [List.getElem?_append_right (by omega)] at hb
      exact (hn b (List.mem_of_getElem? hb)).2.1
  · rw [List.getElem?_append_left (List.getElem?_eq_some_iff.mp hb).1, hb] at hb'
    obtain rfl := Option.some.inj hb'; exact ⟨rfl, rfl⟩
  · rw [List.getElem?_append_right hx] at hb
    exact (hn b (List.mem_of_getElem? hb)).2.2

namespace TR
variable (T : TR C N ops gs B Ls E H An)
include T

theorem wr {i : Nat} {g : GOp} (hg : gs[i]? = some g) (hc : ∀ (x : Nat) (b : Blk), (H i)[x]? = some b → b.cl < (H i).length) : WrOK (H i) (H (i + 1)) := by
  obtain ⟨h1, _, h2⟩ := T.st i g hg
  cases hw : isW g.op with
  | false => exact (h2 hw).wr hc
  | true =>
    rcases h1 with ⟨_, r, A', _, h1⟩ | ⟨_, _, h1⟩
    · exact opK_wr ((isW_kind _).mp hw) h1 hc
    · rw [h1]; exact WrOK.refl hc

theorem gex {i : Nat} (hi : i < gs.length) : gs[i]? = some gs[i] := List.getElem?_eq_getElem hi

theorem cl : ∀ {i : Nat}, i ≤ gs.length → ∀ (x : Nat) (b : Blk), (H i)[x]? = some b → b.cl < (H i).length
  | 0, _ => T.cl0
  | i + 1, hi => (T.wr (T.gex (i := i) (by omega)) (cl (by omega))).cl

theorem wr' {i : Nat} (hi : i < gs.length) : WrOK (H i) (H (i + 1)) := T.wr (T.gex hi) (T.cl (by omega))

theorem mono {i j : Nat} (hij : i ≤ j) (hj : j ≤ gs.length) : (H i).length ≤ (H j).length := by
  induction j with
  | zero => have : i = 0 := by omega
            subst this; exact Nat.le_refl _
  | succ j ih =>
    by_cases e : i = j + 1
    · subst e; exact Nat.le_refl _
    · exact Nat.le_trans (ih (by omega) (by omega)) (T.wr' (by omega)).len

theorem cle {i j : Nat} (hij : i ≤ j) (hj : j ≤ gs.length) (x : Nat) (b b' : Blk) (hb : (H i)[x]? = some b) (hb' : (H j)[x]? = some b') : b'.cl = b.cl ∧ b'.pr = b.pr := by
  induction j generalizing b' with
  | zero =>
    have : i = 0 := by omega
    subst this; rw [hb] at hb'; obtain rfl := Option.some.inj hb'; exact ⟨rfl, rfl⟩
  | succ j ih =>
    by_cases e : i = j + 1
    · subst e; rw [hb] at hb'; obtain rfl := Option.some.inj hb'; exact ⟨rfl, rfl⟩
    · have hx : x < (H j).length := Nat.lt_of_lt_of_le (List.getElem?_eq_some_iff.mp hb).1 (T.mono (by omega) (by omega))
      have e0 := List.getElem?_eq_getElem hx
      obtain ⟨a1, a2⟩ := ih (by omega) (by omega) _ e0
      obtain ⟨b1, b2⟩ := (T.wr' (i := j) (by omega)).cle x _ b' e0 hb'
      exact ⟨b1.trans a1, b2.trans a2⟩

theorem newpr {i j : Nat} (hij : i ≤ j) (hj : j ≤ gs.length) (x : Nat) (b : Blk) (hx : (H i).length ≤ x) (hb : (H j)[x]? = some b) : b.pr.isSome = true := by
  induction j generalizing b with
  | zero =>
    have : i = 0 := by omega
    subst this; have := (List.getElem?_eq_some_iff.mp hb).1; omega
  | succ j ih =>
    by_cases e : i = j + 1
    · subst e; have := (List.getElem?_eq_some_iff.mp hb).1; omega
    · by_cases hlt : x < (H j).length
      · have e0 := List.getElem?_eq_getElem hlt
        rw [((T.wr' (i := j) (by omega)).cle x _ b e0 hb).2]
        exact ih (by omega) (by omega) _ e0
      · exact (T.wr' (i := j) (by omega)).new x b (by omega) hb

/-- Between writes memory only grows. -/
theorem grow {i j : Nat} (hij : i ≤ j) (hj : j ≤ gs.length) (hw : ∀ q g, i ≤ q → q < j → gs[q]? = some g → kindM g.op ≠ 2) : ∃ nw, H j = H i ++ nw := by
  induction j with
  | zero =>
    have : i = 0 := by omega
    subst this; exact ⟨[], by simp⟩
  | succ j ih =>
    by_cases e : i = j + 1
    · subst e; exact ⟨[], by simp⟩
    · obtain ⟨nw, hn⟩ := ih (by omega) (by omega) fun q g h1 h2 => hw q g h1 (by omega)
      have hg := T.gex (i := j) (by omega)
      obtain ⟨nw', hn', _⟩ := (T.st j _ hg).2.2 (by
        cases h : isW gs[j].op with
        | false => rfl
        | true => exact absurd ((isW_kind _).mp h) (hw j _ (by omega) (by omega) hg))
      exact ⟨nw ++ nw', by rw [hn', hn, List.append_assoc]⟩

/-- A slot that no step in between writes. -/
theorem envSame {i j : Nat} (hij : i ≤ j) (hj : j ≤ gs.length) (t : Nat) (hn : ∀ q g, i ≤ q → q < j → gs[q]? = some g → g.d ≠ some t) : get (E j) t = get (E i) t := by
  induction j with
  | zero =>
    have : i = 0 := by omega
    subst this; rfl
  | succ j ih =>
    by_cases e : i = j + 1
    · subst e; rfl
    · rw [← ih (by omega) (by omega) fun q g h1 h2 => hn q g h1 (by omega)]
      have hg := T.gex (i := j) (by omega)
      have hne := hn j _ (by omega) (by omega) hg
      have key : ∀ (d : Option Nat) (r : V) (e : Env), d ≠ some t → get (put d r e) t = get e t := by
        intro d r e hd
        cases d with
        | none => rfl
        | some d => rw [get_put, if_neg]; intro h; exact hd (by rw [h])
      rcases (T.st j _ hg).1 with ⟨_, r, A', e1, _⟩ | ⟨_, e1, _⟩
      · rw [e1]; exact key _ _ _ hne
      · rw [e1]; exact key _ _ _ hne
end TR

/-- Which operations are done. -/
def Done (listed : Array Bool) (i : Nat) : Prop := listed[i]? = some true

/-- Which blocks are there. -/
def Dn (H : Nat → Heap) (listed : Array Bool) (x : Nat) : Prop := x < (H 0).length ∨ ∃ q, Done listed q ∧ (H q).length ≤ x ∧ x < (H (q + 1)).length

/-- In the midst of a region, in whatever order. -/
structure DS (C : Cx) (N k : Nat) (R : Nat → Nat → Prop) (W0 : World) (m0 : Mp) (ops : Array Oper) (gs : List GOp) (B : Nat → List Nat) (E : Nat → Env) (H : Nat → Heap) (listed : Array Bool) (a : Act) (W : World) (m : Mp) (p : Nat) : Prop where
  lsz : listed.size = ops.size
  sdc : ∀ i, Done listed i → ∀ j ∈ B i, Done listed j
  sz : a.tmps.size = N
  df : a.defers = []
  er0 : ∀ (t : Nat) (v : V), (∀ (i : Nat) (o : Oper), ops[i]? = some o → o.dst = some t → ¬ Done listed i) → get (E 0) t = some v → ∃ u, a.tmps[t]? = some u ∧ VR C.ρ m v u ∧ ∀ x ∈ v.ids, x < (H 0).length
  er1 : ∀ (i : Nat) (o : Oper) (d : Tmp) (v : V), Done listed i → ops[i]? = some o → o.dst = some d → get (E (i + 1)) d = some v → ∃ u, a.tmps[d]? = some u ∧ VR C.ρ m v u ∧ ∀ x ∈ v.ids, Dn H listed x ∧ x < (H (i + 1)).length
  inv : Inv C.ρ R m (Dn H listed) (H p) W
  keep : Keep R W0 W
  same : ∀ i, i < k → m0.same m i
  pn : p ≤ ops.size
  pw : ∀ (q : Nat) (g : GOp), q < p → gs[q]? = some g → kindM g.op = 2 → Done listed q
  pp : p < ops.size → (∃ g, gs[p]? = some g ∧ kindM g.op = 2) ∧ ¬ Done listed p
  idp : ∀ q, q ≤ p → (∀ (w : Nat) (g : GOp), q ≤ w → w < p → gs[w]? = some g → kindM g.op ≠ 2) → ∀ (x : Nat) (b : Blk), Dn H listed x → x < (H q).length → (H p)[x]? = some b → ∀ y ∈ V.idsL b.c, y < (H q).length

/-- The next write from a place on. -/
theorem nextW (gs : List GOp) (S : Nat → Prop) (hS : ∀ q g, gs[q]? = some g → kindM g.op = 2 → S q ∨ ¬ S q) : ∀ (f q0 : Nat), q0 + f = gs.length → ∃ p, q0 ≤ p ∧ p ≤ gs.length ∧ (∀ (q : Nat) (g : GOp), q0 ≤ q → q < p → gs[q]? = some g → kindM g.op = 2 → S q) ∧ (p < gs.length → (∃ g, gs[p]? = some g ∧ kindM g.op = 2) ∧ ¬ S p)
  | 0, q0, h => ⟨q0, Nat.le_refl _, by omega, fun q g h1 h2 => by omega, fun h => by omega⟩
  | f + 1, q0, h => by
    have hlt : q0 < gs.length := by omega
    have hg := List.getElem?_eq_getElem hlt
    by_cases hk : kindM gs[q0].op = 2
    · rcases hS q0 _ hg hk with hs | hs
      · obtain ⟨p, h1, h2, h3, h4⟩ := nextW gs S hS f (q0 + 1) (by omega)
        refine ⟨p, by omega, h2, fun q g a1 a2 a3 a4 => ?_, h4⟩
        by_cases e : q = q0
        · subst e; exact hs
        · exact h3 q g (by omega) a2 a3 a4
      · exact ⟨q0, Nat.le_refl _, by omega, fun q g h1 h2 => by omega, fun _ => ⟨⟨_, hg, hk⟩, hs⟩⟩
    · obtain ⟨p, h1, h2, h3, h4⟩ := nextW gs S hS f (q0 + 1) (by omega)
      refine ⟨p, by omega, h2, fun q g a1 a2 a3 a4 => ?_, h4⟩
      by_cases e : q = q0
      · subst e; rw [hg] at a3; obtain rfl := Option.some.inj a3; exact absurd a4 hk
      · exact h3 q g (by omega) a2 a3 a4

theorem Done.set {listed : Array Bool} {i j : Nat} (hj : j < listed.size) : Done (listed.setIfInBounds j true) i ↔ Done listed i ∨ i = j := by
  unfold Done
  rw [Array.getElem?_setIfInBounds]
  by_cases e : j = i
  · subst e; simp [hj]
  · rw [if_neg e]; constructor
    · exact .inl
    · rintro (h | h)
      · exact h
      · exact absurd h.symm e

namespace TR
variable (T : TR C N ops gs B Ls E H An)
include T

theorem gd_dst {q : Nat} {g : GOp} (hg : gs[q]? = some g) : ∃ o, ops[q]? = some o ∧ g.d = o.dst := by
  have hq : q < ops.size := by rw [← T.df.len]; exact (List.getElem?_eq_some_iff.mp hg).1
  have ho : ops[q]? = some ops[q] := by simp [hq]
  obtain ⟨g0, g', hg', hc, hwk⟩ := T.df.cg q _ ho
  rw [hg] at hg'; obtain rfl := Option.some.inj hg'
  exact ⟨_, ho, hwk.d.1.trans (cG_some hc).2.1⟩

/-- What an operation looks at is there. -/
theorem ready_er {listed : Array Bool} {a : Act} {p j : Nat} {m : Mp} (ds : DS C N k R W0 m0 ops gs B E H listed a W m p) (hj : j ≤ ops.size) (t : Nat) (v : V)
    (ht : ∀ (i : Nat) (q : Oper), ops[i]? = some q → q.dst = some t → (i < j ∧ Done listed i) ∨ (j ≤ i ∧ ¬ Done listed i)) (hv : get (E j) t = some v) :
    ∃ u, a.tmps[t]? = some u ∧ VR C.ρ m v u ∧ ∀ x ∈ v.ids, Dn H listed x ∧ x < (H j).length := by
  have hj' : j ≤ gs.length := by rw [T.df.len]; exact hj
  by_cases hex : ∃ (i : Nat) (q : Oper), ops[i]? = some q ∧ q.dst = some t
  · obtain ⟨i, q, hq, hd⟩ := hex
    rcases ht i q hq hd with ⟨hlt, hdone⟩ | ⟨hge, hnot⟩
    rotate_left
    · rw [T.envSame (i := 0) (j := j) (by omega) hj' t (fun x g h1 h2 hg hne => by
        obtain ⟨o', ho', hd'⟩ := T.gd_dst hg
        have := T.df.ds x i o' q t ho' hq (by rw [← hd']; exact hne) hd
        omega)] at hv
      obtain ⟨u, h1, h2, h3⟩ := ds.er0 t v (fun i' o' ho' hd' => by
        have := T.df.ds i' i o' q t ho' hq hd' hd
        subst this; exact hnot) hv
      exact ⟨u, h1, h2, fun x hx => ⟨.inl (h3 x hx), Nat.lt_of_lt_of_le (h3 x hx) (T.mono (Nat.zero_le _) hj')⟩⟩
    rw [T.envSame (i := i + 1) (j := j) (by omega) hj' t (fun x g h1 h2 hg hne => by
      obtain ⟨o', ho', hd'⟩ := T.gd_dst hg
      have := T.df.ds x i o' q t ho' hq (by rw [← hd']; exact hne) hd
      omega)] at hv
    obtain ⟨u, h1, h2, h3⟩ := ds.er1 i q t v hdone hq hd hv
    exact ⟨u, h1, h2, fun x hx => ⟨(h3 x hx).1, Nat.lt_of_lt_of_le (h3 x hx).2 (T.mono (by omega) hj')⟩⟩
  · have hno : ∀ (i : Nat) (o : Oper), ops[i]? = some o → o.dst ≠ some t := fun i o ho hd => hex ⟨i, o, ho, hd⟩
    rw [T.envSame (i := 0) (j := j) (by omega) hj' t (fun x g h1 h2 hg hne => by
      obtain ⟨o', ho', hd'⟩ := T.gd_dst hg
      exact hno x o' ho' (by rw [← hd']; exact hne))] at hv
    obtain ⟨u, h1, h2, h3⟩ := ds.er0 t v (fun i o ho hd _ => hno i o ho hd) hv
    exact ⟨u, h1, h2, fun x hx => ⟨.inl (h3 x hx), Nat.lt_of_lt_of_le (h3 x hx) (T.mono (Nat.zero_le _) hj')⟩⟩

/-- Who writes a slot that is looked at: before it, or not yet. -/
theorem rd_ok {listed : Array Bool} {j : Nat} {o : Oper} (lsz : listed.size = ops.size) (sdc : ∀ i, Done listed i → ∀ x ∈ B i, Done listed x) (hjo : ops[j]? = some o) (hnd : ¬ Done listed j) (hB : ∀ i ∈ B j, Done listed i)
    {t : Tmp} (ht : Operand.tmp t ∈ o.op.operands) {i : Nat} {q : Oper} (hq : ops[i]? = some q) (hd : q.dst = some t) : (i < j ∧ Done listed i) ∨ (j ≤ i ∧ ¬ Done listed i) := by
  rcases T.df.rd j o hjo t ht i q hq hd with h | h
  · exact .inl ⟨T.df.lt j (Array.getElem?_eq_some_iff.mp hjo).1 i h, hB i h⟩
  · exact .inr ⟨Nat.le_of_lt (T.df.lt i (Array.getElem?_eq_some_iff.mp hq).1 j h), fun hdn => hnd (sdc i hdn j h)⟩

theorem fin_step (hk0 : k ≤ (H 0).length) {listed : Array Bool} {a : Act} {p p' j : Nat} {o : Oper} {m m' : Mp} {W W' : World} {r : V} {u : Value} (ds : DS C N k R W0 m0 ops gs B E H listed a W m p) (hjo : ops[j]? = some o)
    (hdN : ∀ t, o.dst = some t → t < N) (hB : ∀ i ∈ B j, Done listed i) (hE : E (j + 1) = put o.dst r (E j)) (hr : VR C.ρ m' r u)
    (hri : ∀ x ∈ r.ids, Dn H (listed.setIfInBounds j true) x ∧ x < (H (j + 1)).length) (hsame : ∀ x, Dn H listed x → m.same m' x) (hkeep : Keep R W W')
    (hinv : Inv C.ρ R m' (Dn H (listed.setIfInBounds j true)) (H p') W') (pn : p' ≤ ops.size) (pw : ∀ (q : Nat) (g : GOp), q < p' → gs[q]? = some g → kindM g.op = 2 → Done (listed.setIfInBounds j true) q)
    (pp : p' < ops.size → (∃ g, gs[p']? = some g ∧ kindM g.op = 2) ∧ ¬ Done (listed.setIfInBounds j true) p')
    (idp : ∀ q, q ≤ p' → (∀ (w : Nat) (g : GOp), q ≤ w → w < p' → gs[w]? = some g → kindM g.op ≠ 2) → ∀ (x : Nat) (b : Blk), Dn H (listed.setIfInBounds j true) x → x < (H q).length → (H p')[x]? = some b → ∀ y ∈ V.idsL b.c, y < (H q).length) :
    DS C N k R W0 m0 ops gs B E H (listed.setIfInBounds j true) (a.put o.dst u) W' m' p' := by
  have hj : j < listed.size := by rw [ds.lsz]; exact (Array.getElem?_eq_some_iff.mp hjo).1
  have hput : ∀ (t : Nat), o.dst ≠ some t → (a.put o.dst u).tmps[t]? = a.tmps[t]? := by
    intro t ht
    cases hd : o.dst with
    | none => rfl
    | some d =>
      simp only [Act.put]
      rw [Array.getElem?_setIfInBounds_ne]
      intro e; exact ht (by rw [hd, e])
  have hDn : ∀ x, Dn H listed x → Dn H (listed.setIfInBounds j true) x := by
    rintro x (hx | ⟨q, hq, hx⟩)
    · exact .inl hx
    · exact .inr ⟨q, (Done.set hj).mpr (.inl hq), hx⟩
  refine ⟨by simp [ds.lsz], fun i hi x hx => ?_, by cases hd : o.dst <;> simp [Act.put, ds.sz], by cases hd : o.dst <;> simp [Act.put, ds.df], fun t v hno hv => ?_, fun i q d v hi hq hd hv => ?_, hinv, ds.keep.trans hkeep, fun i hi => ?_, pn, pw, pp, idp⟩
  · rcases (Done.set hj).mp hi with hi | rfl
    · exact (Done.set hj).mpr (.inl (ds.sdc i hi x hx))
    · exact (Done.set hj).mpr (.inl (hB x hx))
  · obtain ⟨w, h1, h2, h3⟩ := ds.er0 t v (fun i o ho hd hdn => hno i o ho hd ((Done.set hj).mpr (.inl hdn))) hv
    exact ⟨w, by rw [hput t (fun hd => hno j o hjo hd ((Done.set hj).mpr (.inr rfl)))]; exact h1, h2.agree fun x hx => hsame x (.inl (h3 x hx)), h3⟩
  · by_cases e : i = j
    · subst e
      rw [hjo] at hq; obtain rfl := Option.some.inj hq
      rw [hE, hd, get_put, if_pos rfl] at hv
      obtain rfl := Option.some.inj hv
      refine ⟨u, ?_, hr, hri⟩
      have := hdN d hd
      simp [Act.put, hd, ds.sz, this]
    · have hi' : Done listed i := ((Done.set hj).mp hi).resolve_right e
      obtain ⟨w, h1, h2, h3⟩ := ds.er1 i q d v hi' hq hd hv
      refine ⟨w, ?_, h2.agree fun x hx => hsame x (h3 x hx).1, fun x hx => ⟨hDn x (h3 x hx).1, (h3 x hx).2⟩⟩
      rw [hput d fun hne => e (T.df.ds i j q o d hq hjo hd hne)]; exact h1
  · obtain ⟨a1, a2, a3⟩ := ds.same i hi
    obtain ⟨b1, b2, b3⟩ := hsame i (.inl (by omega))
    exact ⟨b1.trans a1, b2.trans a2, b3.trans a3⟩

theorem ids_lt {j : Nat} {g : GOp} {d : Nat} {v : V} (hg : gs[j]? = some g) (hd : g.d = some d) (hv : get (E (j + 1)) d = some v) : ∀ x ∈ v.ids, x < (H (j + 1)).length := by
  have := (T.st j g hg).2.1
  simp only [okIds, hd, hv] at this
  intro x hx
  simpa using List.all_eq_true.mp this x hx

theorem pureH {j : Nat} {g : GOp} (hg : gs[j]? = some g) (h0 : kindM g.op = 0 ∨ Ls j) : H (j + 1) = H j := by
  rcases (T.st j g hg).1 with ⟨_, r, A', _, h1⟩ | ⟨_, _, h1⟩
  · rcases h0 with h0 | h0
    · have := opK_pure h0 (h1 (fun r1 h1 A1 => r1 = r ∧ h1 = H (j + 1) ∧ A1 = A') ⟨rfl, rfl, rfl⟩) (H j)
      obtain ⟨_, _, _, ⟨_, _, q, _⟩, _⟩ := opK_det this
      exact q.symm
    · have hl := opK_loose (T.df.lsd j g hg h0) (h1 (fun r1 h1 A1 => r1 = r ∧ h1 = H (j + 1) ∧ A1 = A') ⟨rfl, rfl, rfl⟩) (H j) (fun _ _ => rfl)
      obtain ⟨_, _, _, ⟨_, _, q, _⟩, _⟩ := opK_det hl
      exact q.symm
  · exact h1

theorem nl {j : Nat} {g : GOp} (hg : gs[j]? = some g) (h2 : kindM g.op = 2) : ¬ Ls j := fun h => by
  have ho := T.df.lsd j g hg h
  cases hop : g.op <;> rw [hop] at ho h2 <;> simp [isLoad, kindM] at ho h2

section
variable {listed : Array Bool} {a : Act} {p j : Nat} {o : Oper} {g : GOp}

/-- Behind a write that waits nothing that looks at memory is done. -/
theorem after_w (sdc : ∀ i, Done listed i → ∀ x ∈ B i, Done listed x) (hg : gs[j]? = some g) (hk : kindM g.op = 2) (hnd : ¬ Done listed j) {q : Nat} {g' : GOp} (hq : gs[q]? = some g') (hk' : kindM g'.op ≠ 0) (hnl : ¬ Ls q) (hd : Done listed q) : q < j := by
  by_cases e : j = q
  · subst e; exact absurd hd hnd
  · rcases T.df.cmp j q g g' hg hq e hk hk' hnl with h | h
    · exact T.df.lt j (by rw [← T.df.len]; exact (List.getElem?_eq_some_iff.mp hg).1) q h
    · exact absurd (sdc q hd j h) hnd

theorem dn_lt (sdc : ∀ i, Done listed i → ∀ x ∈ B i, Done listed x) (lsz : listed.size = ops.size) (hg : gs[j]? = some g) (hk : kindM g.op = 2) (hnd : ¬ Done listed j) {x : Nat} (hx : Dn H listed x) : x < (H j).length := by
  have hj : j < gs.length := (List.getElem?_eq_some_iff.mp hg).1
  rcases hx with hx | ⟨q, hq, h1, h2⟩
  · exact Nat.lt_of_lt_of_le hx (T.mono (Nat.zero_le _) (by omega))
  · have hql : q < gs.length := by
      have : q < listed.size := (Array.getElem?_eq_some_iff.mp hq).1
      rw [T.df.len]; omega
    have hgq := T.gex hql
    by_cases h0 : kindM gs[q].op = 0 ∨ Ls q
    · rw [T.pureH hgq h0] at h2; omega
    · have := T.after_w sdc hg hk hnd hgq (fun h => h0 (.inl h)) (fun h => h0 (.inr h)) hq
      exact Nat.lt_of_lt_of_le h2 (T.mono (by omega) (by omega))

/-- The place of the next write, when j is done. -/
theorem next_p (lsz : listed.size = ops.size) (hj : j < ops.size) (sdc : ∀ i, Done listed i → ∀ x ∈ B i, Done listed x) (hg : gs[j]? = some g) (hk : kindM g.op = 2) (hnd : ¬ Done listed j) (hpw : ∀ (q : Nat) (g : GOp), q < j → gs[q]? = some g → kindM g.op = 2 → Done listed q) :
    ∃ p', j + 1 ≤ p' ∧ p' ≤ ops.size ∧ (∀ (q : Nat) (g : GOp), q < p' → gs[q]? = some g → kindM g.op = 2 → Done (listed.setIfInBounds j true) q) ∧
      (p' < ops.size → (∃ g, gs[p']? = some g ∧ kindM g.op = 2) ∧ ¬ Done (listed.setIfInBounds j true) p') ∧ ∃ nw, H p' = H (j + 1) ++ nw := by
  have hlen := T.df.len
  have hjl : j < listed.size := by omega
  obtain ⟨p', h1, h2, h3, h4⟩ := nextW gs (Done (listed.setIfInBounds j true)) (fun q g _ _ => Classical.em _) (gs.length - (j + 1)) (j + 1) (by omega)
  have noW : ∀ (q : Nat) (g' : GOp), j + 1 ≤ q → q < p' → gs[q]? = some g' → kindM g'.op ≠ 2 := by
    intro q g' a1 a2 a3 a4
    rcases (Done.set hjl).mp (h3 q g' a1 a2 a3 a4) with hd | rfl
    · have := T.after_w sdc hg hk hnd a3 (by omega) (T.nl a3 a4) hd
      omega
    · omega
  refine ⟨p', h1, by omega, fun q g' a1 a2 a3 => ?_, fun hp => h4 (by omega), T.grow h1 h2 noW⟩
  by_cases e : q < j
  · exact (Done.set hjl).mpr (.inl (hpw q g' e a2 a3))
  · by_cases e2 : q = j
    · exact (Done.set hjl).mpr (.inr e2)
    · exact h3 q g' (by omega) a1 a2 a3

/-- A step that leaves memory as it is. -/
theorem quiet (hk0 : k ≤ (H 0).length) {m m' : Mp} {W W' : World} {r : V} {u : Value} (ds : DS C N k R W0 m0 ops gs B E H listed a W m p) (hjo : ops[j]? = some o) (hg : gs[j]? = some g) (hgd : g.d = o.dst)
    (hnd : ¬ Done listed j) (hdN : ∀ t, o.dst = some t → t < N) (hB : ∀ i ∈ B j, Done listed i) (hE : E (j + 1) = put o.dst r (E j)) (hr : VR C.ρ m' r u) (hH : H (j + 1) = H j)
    (hri : ∀ x ∈ r.ids, Dn H listed x) (hsame : ∀ x, Dn H listed x → m.same m' x) (hkeep : Keep R W W') (hinv : Inv C.ρ R m' (Dn H listed) (H p) W') :
    ∃ p', DS C N k R W0 m0 ops gs B E H (listed.setIfInBounds j true) (a.put o.dst u) W' m' p' := by
  have hjs : j < ops.size := (Array.getElem?_eq_some_iff.mp hjo).1
  have hjl : j < listed.size := by rw [ds.lsz]; exact hjs
  have hDn : Dn H (listed.setIfInBounds j true) = Dn H listed := by
    funext x; apply propext
    constructor
    · rintro (h | ⟨q, hq, h1, h2⟩)
      · exact .inl h
      · rcases (Done.set hjl).mp hq with hq | rfl
        · exact .inr ⟨q, hq, h1, h2⟩
        · rw [hH] at h2; omega
    · rintro (h | ⟨q, hq, h1, h2⟩)
      · exact .inl h
      · exact .inr ⟨q, (Done.set hjl).mpr (.inl hq), h1, h2⟩
  have hbound : ∀ x ∈ r.ids, Dn H (listed.setIfInBounds j true) x ∧ (o.dst.isSome → x < (H (j + 1)).length) := by
    intro x hx
    refine ⟨by rw [hDn]; exact hri x hx, fun hs => ?_⟩
    obtain ⟨d, hd⟩ := Option.isSome_iff_exists.mp hs
    exact T.ids_lt hg (d := d) (v := r) (by rw [hgd, hd]) (by rw [hE, hd, get_put, if_pos rfl]) x hx
  -- without a slot the value does not matter
  have fin : ∀ (p' : Nat), Inv C.ρ R m' (Dn H (listed.setIfInBounds j true)) (H p') W' → p' ≤ ops.size → (∀ (q : Nat) (g : GOp), q < p' → gs[q]? = some g → kindM g.op = 2 → Done (listed.setIfInBounds j true) q) →
      (p' < ops.size → (∃ g, gs[p']? = some g ∧ kindM g.op = 2) ∧ ¬ Done (listed.setIfInBounds j true) p') →
      (∀ q, q ≤ p' → (∀ (w : Nat) (g : GOp), q ≤ w → w < p' → gs[w]? = some g → kindM g.op ≠ 2) → ∀ (x : Nat) (b : Blk), Dn H (listed.setIfInBounds j true) x → x < (H q).length → (H p')[x]? = some b → ∀ y ∈ V.idsL b.c, y < (H q).length) →
      DS C N k R W0 m0 ops gs B E H (listed.setIfInBounds j true) (a.put o.dst u) W' m' p' := by
    intro p' q1 q2 q3 q4 q5
    cases hd : o.dst with
    | some d => rw [← hd]; exact T.fin_step hk0 ds hjo hdN hB hE hr (fun x hx => ⟨(hbound x hx).1, (hbound x hx).2 (by rw [hd]; rfl)⟩) hsame hkeep q1 q2 q3 q4 q5
    | none =>
      have := T.fin_step hk0 ds hjo hdN hB (r := .undef) (u := undef) (by rw [hE, hd]; rfl) (by simp [VR]) (by simp [V.ids]) hsame hkeep q1 q2 q3 q4 q5
      rw [hd] at this; exact this
  by_cases e : p = j
  · subst e
    obtain ⟨⟨g', hg', hk'⟩, _⟩ := ds.pp hjs
    rw [hg] at hg'; obtain rfl := Option.some.inj hg'
    obtain ⟨p', n1, n2, n3, n4, nw, n5⟩ := T.next_p ds.lsz hjs ds.sdc hg hk' hnd (fun q g a1 a2 a3 => ds.pw q g a1 a2 a3)
    refine ⟨p', fin p' ?_ n2 n3 n4 fun q hq hno x b hx hxq hb y hy => ?_⟩
    · rw [hDn, n5, hH]; exact hinv.extend nw
    · rw [hDn] at hx
      have hlt := T.dn_lt ds.sdc ds.lsz hg hk' hnd hx
      have hqp : p + 1 ≤ q := by
        rcases Nat.lt_or_ge p q with h | h
        · exact h
        · exact absurd hk' (hno p g h (by omega) hg)
      rw [n5, hH, List.getElem?_append_left hlt] at hb
      have := ds.idp p (Nat.le_refl _) (fun w _ a1 a2 => by omega) x b hx hlt hb y hy
      exact Nat.lt_of_lt_of_le this (T.mono (by omega) (by rw [T.df.len]; omega))
  · refine ⟨p, fin p (by rw [hDn]; exact hinv) ds.pn (fun q g a1 a2 a3 => (Done.set hjl).mpr (.inl (ds.pw q g a1 a2 a3))) (fun hp => ⟨(ds.pp hp).1, fun hd => ?_⟩) (by rw [hDn]; exact ds.idp)⟩
    rcases (Done.set hjl).mp hd with hd | hd
    · exact (ds.pp hp).2 hd
    · exact e hd

theorem at_discrete : ∀ {j x : Nat}, j ≤ gs.length → x < (H j).length → x < (H 0).length ∨ ∃ q, q < j ∧ (H q).length ≤ x ∧ x < (H (q + 1)).length
  | 0, x, _, hx => .inl hx
  | j + 1, x, hj, hx => by
    by_cases h : x < (H j).length
    · rcases at_discrete (j := j) (by omega) h with h | ⟨q, h1, h2⟩
      · exact .inl h
      · exact .inr ⟨q, by omega, h2⟩
    · exact .inr ⟨j, by omega, by omega, hx⟩

/-- A step that writes. -/
theorem step_w (hk0 : k ≤ (H 0).length) {m : Mp} {W : World} {r : V} {A' : List Ans} (ds : DS C N k R W0 m0 ops gs B E H listed a W m p) (hjo : ops[j]? = some o) (hg : gs[j]? = some g) (hgd : g.d = o.dst) {g0 : GOp} (hc : cOp C o.op = some g0.op) (hwk : Wk g0 g)
    (hnd : ¬ Done listed j) (hdN : ∀ t, o.dst = some t → t < N) (hB : ∀ i ∈ B j, Done listed i) (hk : kindM g.op = 2) (hE : E (j + 1) = put o.dst r (E j))
    (h1 : ∀ K' : V → Heap → List Ans → Prop, K' r (H (j + 1)) A' → opK (Ev C) g.op (E j) (H j) (An j) K')
    {next : Act → World → Prop} {Q : Exit → Act → World → Prop} (hK : ∀ a' W' m' p', DS C N k R W0 m0 ops gs B E H (listed.setIfInBounds j true) a' W' m' p' → next a' W') : o.wp C.P a W next Q := by
  have hjs : j < ops.size := (Array.getElem?_eq_some_iff.mp hjo).1
  have hjl : j < listed.size := by rw [ds.lsz]; exact hjs
  have hlen := T.df.len
  have hpj : p = j := by
    rcases Nat.lt_trichotomy p j with h | h | h
    · obtain ⟨⟨g', hg', hk'⟩, hn⟩ := ds.pp (by omega)
      rcases T.df.cmp p j g' g hg' hg (by omega) hk' (by omega) (T.nl hg hk) with h' | h'
      · have := T.df.lt p (by omega) j h'; omega
      · exact absurd (hB p h') hn
    · exact h
    · exact absurd (ds.pw j g h hg hk) hnd
  subst hpj
  have hBl : ∀ i ∈ B p, i < p ∧ Done listed i := fun i hi => ⟨T.df.lt p hjs i hi, hB i hi⟩
  have hER : ER C.ρ m (Dn H listed) (E p) a (fun t' => .tmp t' ∈ o.op.operands) := fun t v ht hv => by
    obtain ⟨u, q1, q2, q3⟩ := T.ready_er ds (by omega) t v (fun i q hq hd => T.rd_ok ds.lsz ds.sdc hjo hnd hB ht hq hd) hv
    exact ⟨u, q1, q2, fun x hx => (q3 x hx).1⟩
  have hD : ∀ x, Dn H listed x ↔ x < (H p).length := by
    intro x
    refine ⟨T.dn_lt ds.sdc ds.lsz hg hk hnd, fun hx => ?_⟩
    rcases T.at_discrete (j := p) (by omega) hx with h | ⟨q, q1, q2, q3⟩
    · exact .inl h
    · have hgq := T.gex (i := q) (by omega)
      have h0 : kindM gs[q].op ≠ 0 := fun h0 => by rw [T.pureH hgq (.inl h0)] at q3; omega
      have h0' : ¬ Ls q := fun h0 => by rw [T.pureH hgq (.inr h0)] at q3; omega
      refine .inr ⟨q, ?_, q2, q3⟩
      rcases T.df.cmp p q g _ hg hgq (by omega) hk h0 h0' with h | h
      · exact hB q h
      · have := T.df.lt q (by omega) p h; omega
  obtain ⟨r1, h1', A1, ⟨rfl, rfl, rfl⟩, hok⟩ := op_sound hc hER ds.inv (hwk.op (h1 (fun r1 h1 A1 => r1 = r ∧ h1 = H (p + 1) ∧ A1 = A') ⟨rfl, rfl, rfl⟩))
  refine hok next Q fun u W' m' P => ?_
  obtain ⟨p', n1, n2, n3, n4, nw, n5⟩ := T.next_p ds.lsz hjs ds.sdc hg hk hnd (fun q g a1 a2 a3 => ds.pw q g a1 a2 a3)
  have hmono := (T.wr' (i := p) (by omega)).len
  have hDn : ∀ x, Dn H (listed.setIfInBounds p true) x ↔ Dn H listed x ∨ ((H p).length ≤ x ∧ x < (H (p + 1)).length) := by
    intro x
    constructor
    · rintro (h | ⟨q, hq, e1, e2⟩)
      · exact .inl (.inl h)
      · rcases (Done.set hjl).mp hq with hq | rfl
        · exact .inl (.inr ⟨q, hq, e1, e2⟩)
        · exact .inr ⟨e1, e2⟩
    · rintro ((h | ⟨q, hq, e1, e2⟩) | h)
      · exact .inl h
      · exact .inr ⟨q, (Done.set hjl).mpr (.inl hq), e1, e2⟩
      · exact .inr ⟨p, (Done.set hjl).mpr (.inr rfl), h.1, h.2⟩
  have eD : (fun x => Dn H listed x ∨ ((H p).length ≤ x ∧ x < (H (p + 1)).length)) = Dn H (listed.setIfInBounds p true) := by
    funext x; exact propext (hDn x).symm
  have hlt : ∀ x, Dn H (listed.setIfInBounds p true) x → x < (H (p + 1)).length := by
    intro x hx
    rcases (hDn x).mp hx with hx | hx
    · have := (hD x).mp hx; omega
    · exact hx.2
  refine hK _ _ m' p' (T.fin_step hk0 ds hjo hdN hB hE P.rel (fun x hx => ?_) P.same P.keep ?_ n2 n3 n4 fun q hq hno x b hx hxq hb y hy => ?_)
  · have := (hDn x).mpr (P.rid x hx)
    exact ⟨this, hlt x this⟩
  · have := P.inv
    rw [eD] at this
    rw [n5]; exact this.extend nw
  · have hqp : p + 1 ≤ q := by
      rcases Nat.lt_or_ge p q with h | h
      · exact h
      · exact absurd hk (hno p g h (by omega) hg)
    have hx1 := hlt x hx
    rw [n5, List.getElem?_append_left hx1] at hb
    have := P.inv.ids x b ((hDn x).mp hx) hb y hy
    have := hlt y ((hDn y).mpr this)
    exact Nat.lt_of_lt_of_le this (T.mono hqp (by omega))

/-- A step that looks at memory, or makes new blocks. -/
theorem step_t (hk0 : k ≤ (H 0).length) {m : Mp} {W : World} {r : V} {A' : List Ans} (ds : DS C N k R W0 m0 ops gs B E H listed a W m p) (hjo : ops[j]? = some o) (hg : gs[j]? = some g) (hgd : g.d = o.dst) {g0 : GOp} (hc : cOp C o.op = some g0.op) (hwk : Wk g0 g)
    (hnd : ¬ Done listed j) (hdN : ∀ t, o.dst = some t → t < N) (hB : ∀ i ∈ B j, Done listed i) (hk : kindM g.op = 1) (hnl : ¬ Ls j) (hE : E (j + 1) = put o.dst r (E j))
    (h1 : ∀ K' : V → Heap → List Ans → Prop, K' r (H (j + 1)) A' → opK (Ev C) g.op (E j) (H j) (An j) K')
    {next : Act → World → Prop} {Q : Exit → Act → World → Prop} (hK : ∀ a' W' m' p', DS C N k R W0 m0 ops gs B E H (listed.setIfInBounds j true) a' W' m' p' → next a' W') : o.wp C.P a W next Q := by
  have hjs : j < ops.size := (Array.getElem?_eq_some_iff.mp hjo).1
  have hjl : j < listed.size := by rw [ds.lsz]; exact hjs
  have hlen := T.df.len
  have hBl : ∀ i ∈ B j, i < j ∧ Done listed i := fun i hi => ⟨T.df.lt j hjs i hi, hB i hi⟩
  have hjp : j < p := by
    by_cases hp : p < ops.size
    · obtain ⟨⟨g', hg', hk'⟩, hn⟩ := ds.pp hp
      have hne : p ≠ j := by rintro rfl; rw [hg] at hg'; obtain rfl := Option.some.inj hg'; omega
      rcases T.df.cmp p j g' g hg' hg hne hk' (by omega) hnl with h | h
      · exact T.df.lt p hp j h
      · exact absurd (hB p h) hn
    · omega
  have noW : ∀ (q : Nat) (g' : GOp), j ≤ q → q < p → gs[q]? = some g' → kindM g'.op ≠ 2 := by
    intro q g' a1 a2 a3 a4
    by_cases e : q = j
    · subst e; rw [hg] at a3; obtain rfl := Option.some.inj a3; omega
    · have hd := ds.pw q g' a2 a3 a4
      rcases T.df.cmp q j g' g a3 hg e a4 (by omega) hnl with h | h
      · exact hnd (ds.sdc q hd j h)
      · have := T.df.lt j hjs q h; omega
  have hpl : p ≤ gs.length := by rw [hlen]; exact ds.pn
  obtain ⟨nw, hnw⟩ := T.grow (i := j + 1) (j := p) (by omega) hpl fun q g' a1 a2 a3 => noW q g' (by omega) a2 a3
  obtain ⟨nj, hnj⟩ := T.grow (i := j) (j := p) (by omega) hpl fun q g' a1 a2 a3 => noW q g' (by omega) a2 a3
  have hmono : (H j).length ≤ (H (j + 1)).length := (T.wr' (i := j) (by omega)).len
  have h1p : (H (j + 1)).length ≤ (H p).length := T.mono (by omega) hpl
  have hpre : ∀ i, i < (H (j + 1)).length → (H p)[i]? = (H (j + 1))[i]? := fun i hi => by rw [hnw]; exact List.getElem?_append_left hi
  have hprej : ∀ i, i < (H j).length → (H p)[i]? = (H j)[i]? := fun i hi => by rw [hnj]; exact List.getElem?_append_left hi
  have qlt : ∀ q, Done listed q → q < gs.length := fun q hq => by
    have : q < listed.size := (Array.getElem?_eq_some_iff.mp hq).1
    rw [hlen, ← ds.lsz]; exact this
  have hD : ∀ i, Dn H listed i → i < (H j).length ∨ (H (j + 1)).length ≤ i := by
    rintro i (hi | ⟨q, hq, q1, q2⟩)
    · exact .inl (Nat.lt_of_lt_of_le hi (T.mono (Nat.zero_le _) (by omega)))
    · have := qlt q hq
      rcases Nat.lt_trichotomy q j with h | h | h
      · exact .inl (Nat.lt_of_lt_of_le q2 (T.mono (by omega) (by omega)))
      · subst h; exact absurd hq hnd
      · exact .inr (Nat.le_trans (T.mono (by omega) (by omega)) q1)
  have hlate : ∀ (i : Nat) (b : Blk), Dn H listed i → (H (j + 1)).length ≤ i → (H p)[i]? = some b → (H (j + 1)).length ≤ b.cl := by
    rintro i b (hi | ⟨q, hq, q1, q2⟩) hge hb
    · have := T.mono (i := 0) (j := j + 1) (Nat.zero_le _) (by omega); omega
    · have hql := qlt q hq
      have hqj : j + 1 ≤ q := by
        rcases Nat.lt_or_ge q (j + 1) with h | h
        · have := T.mono (i := q + 1) (j := j + 1) (by omega) (by omega); omega
        · exact h
      have hqp : q < p := by
        rcases Nat.lt_or_ge q p with h | h
        · exact h
        · have := T.mono (i := p) (j := q) h (by omega)
          have := (List.getElem?_eq_some_iff.mp hb).1
          omega
      have hgq := T.gex hql
      obtain ⟨n1, e1, e2⟩ := (T.st q _ hgq).2.2 (by
        cases hw : isW gs[q].op with
        | false => rfl
        | true => exact absurd ((isW_kind _).mp hw) (noW q _ (by omega) hqp hgq))
      obtain ⟨n2, e3⟩ := T.grow (i := q + 1) (j := p) (by omega) hpl fun q' g' a1 a2 a3 => noW q' g' (by omega) a2 a3
      rw [e3, List.getElem?_append_left q2, e1, List.getElem?_append_right q1] at hb
      have := (e2 b (List.mem_of_getElem? hb)).1
      exact Nat.le_trans (T.mono hqj (by omega)) this
  have hids : ∀ (i : Nat) (b : Blk), Dn H listed i → (H j)[i]? = some b → ∀ y ∈ V.idsL b.c, y < (H j).length := by
    intro i b hi hb y hy
    have hil := (List.getElem?_eq_some_iff.mp hb).1
    exact ds.idp j (by omega) noW i b hi hil (by rw [hprej i hil]; exact hb) y hy
  have hIr := ds.inv.restrict (hj := H j) (n := (H (j + 1)).length) hmono hprej (T.cl (by omega)) hlate hids
  have hER : ER C.ρ m (fun i => Dn H listed i ∧ i < (H j).length) (E j) a (fun t' => .tmp t' ∈ o.op.operands) := fun t v ht hv =>
    T.ready_er ds (by omega) t v (fun i q hq hd => T.rd_ok ds.lsz ds.sdc hjo hnd hB ht hq hd) hv
  obtain ⟨r1, h1', A1, ⟨rfl, rfl, rfl⟩, hok⟩ := op_sound hc hER hIr (hwk.op (h1 (fun r1 h1 A1 => r1 = r ∧ h1 = H (j + 1) ∧ A1 = A') ⟨rfl, rfl, rfl⟩))
  refine hok next Q fun u W' m1 P => ?_
  obtain ⟨m', i1, i2, i3, i4⟩ := ds.inv.mix h1p hpre hD P
  have hDn : ∀ x, Dn H (listed.setIfInBounds j true) x ↔ Dn H listed x ∨ ((H j).length ≤ x ∧ x < (H (j + 1)).length) := by
    intro x
    constructor
    · rintro (h | ⟨q, hq, e1, e2⟩)
      · exact .inl (.inl h)
      · rcases (Done.set hjl).mp hq with hq | rfl
        · exact .inl (.inr ⟨q, hq, e1, e2⟩)
        · exact .inr ⟨e1, e2⟩
    · rintro ((h | ⟨q, hq, e1, e2⟩) | h)
      · exact .inl h
      · exact .inr ⟨q, (Done.set hjl).mpr (.inl hq), e1, e2⟩
      · exact .inr ⟨j, (Done.set hjl).mpr (.inr rfl), h.1, h.2⟩
  have eD : (fun x => Dn H listed x ∨ ((H j).length ≤ x ∧ x < (H (j + 1)).length)) = Dn H (listed.setIfInBounds j true) := by
    funext x; exact propext (hDn x).symm
  rw [eD] at i1
  refine hK _ _ m' p (T.fin_step hk0 ds hjo hdN hB hE i4 (fun x hx => ?_) i3 i2 i1 ds.pn (fun q g' a1 a2 a3 => (Done.set hjl).mpr (.inl (ds.pw q g' a1 a2 a3))) (fun hp => ⟨(ds.pp hp).1, fun hd => ?_⟩) fun q hq hno x b hx hxq hb y hy => ?_)
  · rcases P.rid x hx with h | h
    · exact ⟨(hDn x).mpr (.inl h.1), by omega⟩
    · exact ⟨(hDn x).mpr (.inr h), h.2⟩
  · rcases (Done.set hjl).mp hd with hd | hd
    · exact (ds.pp hp).2 hd
    · omega
  · rcases (hDn x).mp hx with hx | hx
    · exact ds.idp q hq hno x b hx hxq hb y hy
    · have hqj : j + 1 ≤ q := by
        rcases Nat.lt_or_ge q (j + 1) with h | h
        · have := T.mono (i := q) (j := j) (by omega) (by omega); omega
        · exact h
      rw [hpre x hx.2] at hb
      have := P.inv.ids x b (.inr hx) hb y hy
      have hyl : y < (H (j + 1)).length := by rcases this with h | h <;> omega
      exact Nat.lt_of_lt_of_le hyl (T.mono hqj (by omega))

/-- A step. -/
theorem step (hk0 : k ≤ (H 0).length) {m : Mp} {W : World} (ds : DS C N k R W0 m0 ops gs B E H listed a W m p) (hjo : ops[j]? = some o) (hnd : ¬ Done listed j) (hB : ∀ i ∈ B j, Done listed i)
    {K' : Act → World → Prop} {Q : Exit → Act → World → Prop} (hK : ∀ a' W' m' p', DS C N k R W0 m0 ops gs B E H (listed.setIfInBounds j true) a' W' m' p' → K' a' W') : wpOp C.P ops Q j K' a W := by
  have hjs : j < ops.size := (Array.getElem?_eq_some_iff.mp hjo).1
  obtain ⟨g0, g, hg, hcg, hwk⟩ := T.df.cg j o hjo
  obtain ⟨hc, hgd, hdN, hgr⟩ := cG_some hcg
  rw [← hwk.d.1] at hgd
  rw [← hwk.d.2] at hgr
  have hBl : ∀ i ∈ B j, i < j ∧ Done listed i := fun i hi => ⟨T.df.lt j hjs i hi, hB i hi⟩
  have hguard : ∀ (i : Nat) (w : Bool) (t : Tmp) (v : V), o.guard = some (i, w) → (ops[i]?).bind (·.dst) = some t → get (E j) t = some v → ∃ u, a.tmps[t]? = some u ∧ VR C.ρ m v u := by
    intro i w t v hgi hb hv
    obtain ⟨q0, hq0, hd0⟩ := Option.bind_eq_some_iff.mp hb
    obtain ⟨u, q1, q2, _⟩ := T.ready_er ds (by omega) t v (fun i' q hq hd => by
      have := T.df.ds i' i q q0 t hq hq0 hd hd0
      subst this; exact .inl (hBl _ (T.df.gd j o _ w hjo hgi))) hv
    exact ⟨u, q1, q2⟩
  unfold wpOp
  rw [hjo]
  simp only
  rcases (T.st j g hg).1 with ⟨hon, r, A', hE, h1⟩ | ⟨⟨t, w, hgg, hval⟩, hE, hH⟩
  · have hw : Region.wanted o (yielded ops a.tmps) = true := by
      rcases hgr with ⟨hno, _⟩ | ⟨i, w, t, hgi, hb, hgg⟩
      · simp [Region.wanted, hno]
      · rcases hon with hon | ⟨t', w', hgg', hv⟩
        · rw [hgg] at hon; simp at hon
        · rw [hgg] at hgg'
          obtain ⟨rfl, rfl⟩ : t = t' ∧ w = w' := by simpa using hgg'
          obtain ⟨u, q1, q2⟩ := hguard i w t _ hgi hb hv
          simp only [VR] at q2; subst q2
          have hy : yielded ops a.tmps i = some w := by simp [yielded, hb, q1]
          simp [Region.wanted, hgi, hy]
    rw [if_pos hw]
    refine .inl ?_
    rw [hgd] at hE
    have hk3 : kindM g.op = 0 ∨ kindM g.op = 1 ∨ kindM g.op = 2 := by
      cases g.op <;> simp [kindM]
    have still : H (j + 1) = H j → opK (Ev C) g.op (E j) (H p) (An j) (fun r' h' _ => h' = H p ∧ r' = r) → o.wp C.P a W K' Q := by
      intro hH hp
      have hER : ER C.ρ m (Dn H listed) (E j) a (fun t' => .tmp t' ∈ o.op.operands) := fun t v ht hv => by
        obtain ⟨u, q1, q2, q3⟩ := T.ready_er ds (by omega) t v (fun i q hq hd => T.rd_ok ds.lsz ds.sdc hjo hnd hB ht hq hd) hv
        exact ⟨u, q1, q2, fun x hx => (q3 x hx).1⟩
      obtain ⟨r1, h1', A1, ⟨rfl, rfl⟩, hok⟩ := op_sound hc hER ds.inv (hwk.op hp)
      refine hok K' Q fun u W' m' P => ?_
      have eD : (fun i => Dn H listed i ∨ ((H p).length ≤ i ∧ i < (H p).length)) = Dn H listed := by
        funext i; apply propext; constructor
        · rintro (h | h); exact h; omega
        · exact .inl
      have hinv := P.inv
      rw [eD] at hinv
      obtain ⟨p', ds'⟩ := T.quiet hk0 ds hjo hg hgd hnd hdN hB hE P.rel hH (fun x hx => by rcases P.rid x hx with h | h; exact h; omega) P.same P.keep hinv
      exact hK _ _ m' p' ds'
    by_cases hL : Ls j
    · have hop := T.df.lsd j g hg hL
      have hpl : p ≤ gs.length := by rw [T.df.len]; exact ds.pn
      have hjl : j ≤ gs.length := by rw [T.df.len]; omega
      refine still (T.pureH hg (.inr hL)) ?_
      have h2 := h1 (fun r1 h1 A1 => r1 = r ∧ h1 = H (j + 1) ∧ A1 = A') ⟨rfl, rfl, rfl⟩
      have h3 := opK_loose hop h2 (H p) (fun x hx => by rw [T.ls j g hg hL x hx p hpl, T.ls j g hg hL x hx j hjl])
      obtain ⟨r3, h4, A3, ⟨q1, q2, q3⟩, q4⟩ := opK_det h3
      exact q4 _ ⟨q1, q2⟩
    rcases hk3 with hk | hk | hk
    · refine still (T.pureH hg (.inl hk)) ?_
      have h3 := opK_pure hk (h1 (fun r1 h1 A1 => r1 = r ∧ h1 = H (j + 1) ∧ A1 = A') ⟨rfl, rfl, rfl⟩) (H p)
      obtain ⟨r3, h4, A3, ⟨q1, q2, q3⟩, q4⟩ := opK_det h3
      exact q4 _ ⟨q1, q2⟩
    · exact T.step_t hk0 ds hjo hg hgd hc hwk hnd hdN hB hk hL hE h1 hK
    · exact T.step_w hk0 ds hjo hg hgd hc hwk hnd hdN hB hk hE h1 hK
  · have hw : Region.wanted o (yielded ops a.tmps) = false := by
      rcases hgr with ⟨_, hno⟩ | ⟨i, w', t', hgi, hb, hgg'⟩
      · rw [hgg] at hno; simp at hno
      · rw [hgg] at hgg'
        obtain ⟨rfl, rfl⟩ : t = t' ∧ w = w' := by simpa using hgg'
        rcases hval with hv | hv
        · obtain ⟨u, q1, q2⟩ := hguard i w t _ hgi hb hv
          simp only [VR] at q2; subst q2
          have hy : yielded ops a.tmps i = some (!w) := by simp [yielded, hb, q1]
          simp [Region.wanted, hgi, hy]
        · obtain ⟨u, q1, q2⟩ := hguard i w t _ hgi hb hv
          simp only [VR] at q2; subst q2
          have hy : yielded ops a.tmps i = none := by simp [yielded, hb, q1, undef]
          simp [Region.wanted, hgi, hy]
    rw [if_neg (by rw [hw]; simp)]
    rw [hgd] at hE
    obtain ⟨p', ds'⟩ := T.quiet hk0 ds hjo hg hgd hnd hdN hB (r := .undef) (u := undef) hE (by simp [VR]) hH (by simp [V.ids]) (fun x _ => m.same_refl x) (Keep.refl _ _) ds.inv
    exact hK _ _ m p' ds'

theorem all_done (lsz : listed.size = ops.size) (hr : Region.ready .any ops listed = []) : ∀ (j : Nat), j < ops.size → Done listed j := by
  intro j
  induction j using Nat.strongRecOn with
  | _ j ih =>
    intro hj
    refine Classical.byContradiction fun hnd => ?_
    have hjo : ops[j]? = some ops[j] := by simp [hj]
    have hmem : j ∈ Region.ready .any ops listed := by
      refine mem_ready.mpr ⟨?_, _, hjo, fun e he hb => ?_⟩
      · have : j < listed.size := by omega
        rw [Array.getD_eq_getD_getElem?, Array.getElem?_eq_getElem this]
        simp only [Option.getD_some]
        cases hq : listed[j] with
        | false => rfl
        | true => exact absurd (by simp [Done, Array.getElem?_eq_getElem this, hq]) hnd
      · have h1 := (T.df.ed j _ e hjo he hb).1
        have h2 := T.df.lt j hj _ h1
        have := ih _ h2 (by omega)
        unfold Done at this
        rw [Array.getD_eq_getD_getElem?, this]; rfl
    rw [hr] at hmem; simp at hmem

/-- All is done. -/
theorem finish (hcan : CanonC k c0) (hk0 : k ≤ (H 0).length) (hc0 : ∀ (i : Nat) (b : Blk), i < k → (H 0)[i]? = some b → b.cl = c0 i) (hn0 : ∀ (i : Nat) (b : Blk), k ≤ i → (H 0)[i]? = some b → b.pr.isSome = true)
    {m : Mp} {W : World} (ds : DS C N k R W0 m0 ops gs B E H listed a W m p) (hall : ∀ j, j < ops.size → Done listed j) : CS C N k R W0 m0 c0 (E gs.length) (H gs.length) a W m := by
  have hlen := T.df.len
  have hp : p = gs.length := by
    rcases Nat.lt_or_ge p ops.size with h | h
    · exact absurd (hall p h) (ds.pp h).2
    · have := ds.pn; omega
  subst hp
  have hD : Dn H listed = fun i => i < (H gs.length).length := by
    funext x; apply propext
    constructor
    · rintro (h | ⟨q, hq, h1, h2⟩)
      · exact Nat.lt_of_lt_of_le h (T.mono (Nat.zero_le _) (Nat.le_refl _))
      · have : q < listed.size := (Array.getElem?_eq_some_iff.mp hq).1
        have := ds.lsz
        exact Nat.lt_of_lt_of_le h2 (T.mono (by omega) (Nat.le_refl _))
    · intro hx
      rcases T.at_discrete (j := gs.length) (Nat.le_refl _) hx with h | ⟨q, q1, q2, q3⟩
      · exact .inl h
      · exact .inr ⟨q, hall q (by omega), q2, q3⟩
  have hinv := ds.inv
  rw [hD] at hinv
  have hm := T.mono (i := 0) (j := gs.length) (Nat.zero_le _) (Nat.le_refl _)
  refine ⟨fun t v _ hv => ?_, hinv, ds.keep, ds.same, by omega, fun i b hi hb => ?_, fun i b hi hb => ?_, ds.sz, ds.df, hcan⟩
  · obtain ⟨u, q1, q2, q3⟩ := T.ready_er ds (j := gs.length) (by omega) t v (fun i q hq _ => by
      have := (Array.getElem?_eq_some_iff.mp hq).1
      exact .inl ⟨by omega, hall i this⟩) hv
    exact ⟨u, q1, q2, fun x hx => (q3 x hx).2⟩
  · have e0 := List.getElem?_eq_getElem (show i < (H 0).length by omega)
    rw [(T.cle (Nat.zero_le _) (Nat.le_refl _) i _ b e0 hb).1]; exact hc0 i _ hi e0
  · by_cases hi0 : i < (H 0).length
    · have e0 := List.getElem?_eq_getElem hi0
      rw [(T.cle (Nat.zero_le _) (Nat.le_refl _) i _ b e0 hb).2]; exact hn0 i _ hi e0
    · exact T.newpr (i := 0) (Nat.zero_le _) (Nat.le_refl _) i b (by omega) hb
end
end TR

theorem count_lt {l : List Nat} {P P' : Nat → Bool} {j : Nat} (hj : j ∈ l) (h1 : P j = true) (h2 : P' j = false) (h3 : ∀ i, P' i = true → P i = true) : l.countP P' < l.countP P := by
  induction l with
  | nil => simp at hj
  | cons x xs ih =>
    have hle : xs.countP P' ≤ xs.countP P := List.countP_mono_left fun i _ hi => h3 i hi
    by_cases hx : x = j
    · subst hx
      rw [List.countP_cons_of_pos h1, List.countP_cons_of_neg (by simp [h2])]
      omega
    · have := ih ((List.mem_cons.mp hj).resolve_left fun h => hx h.symm)
      by_cases hp : P' x = true
      · rw [List.countP_cons_of_pos hp, List.countP_cons_of_pos (h3 x hp)]; omega
      · rw [List.countP_cons_of_neg hp, List.countP_cons]; omega

/-- How many operations wait. -/
def wait (n : Nat) (listed : Array Bool) : Nat := (List.range n).countP fun i => listed[i]? != some true

theorem any_sound (T : TR C N ops gs B Ls E H An) (hcan : CanonC k c0) (hk0 : k ≤ (H 0).length) (hc0 : ∀ (i : Nat) (b : Blk), i < k → (H 0)[i]? = some b → b.cl = c0 i) (hn0 : ∀ (i : Nat) (b : Blk), k ≤ i → (H 0)[i]? = some b → b.pr.isSome = true)
    {Q : Exit → Act → World → Prop} (hQ : ∀ a' W' m', CS C N k R W0 m0 c0 (E gs.length) (H gs.length) a' W' m' → Q .normal a' W') :
    ∀ (fuel : Nat) (listed : Array Bool) (a : Act) (W : World) (m : Mp) (p : Nat), wait ops.size listed ≤ fuel → DS C N k R W0 m0 ops gs B E H listed a W m p → wpAny C.P .any ops Q fuel listed a W := by
  intro fuel
  induction fuel with
  | zero =>
    intro listed a W m p hf ds
    have hall : ∀ j, j < ops.size → Done listed j := by
      intro j hj
      refine Classical.byContradiction fun hnd => ?_
      have : 0 < wait ops.size listed := List.countP_pos_iff.mpr ⟨j, List.mem_range.mpr hj, by simpa [Done] using hnd⟩
      omega
    refine ⟨?_, hQ a W m (T.finish hcan hk0 hc0 hn0 ds hall)⟩
    refine List.eq_nil_iff_forall_not_mem.mpr fun j hj => ?_
    obtain ⟨h1, o, ho, _⟩ := mem_ready.mp hj
    have := hall j (Array.getElem?_eq_some_iff.mp ho).1
    unfold Done at this
    rw [Array.getD_eq_getD_getElem?, this] at h1; simp at h1
  | succ fuel ih =>
    intro listed a W m p hf ds
    refine ⟨fun hr => hQ a W m (T.finish hcan hk0 hc0 hn0 ds (T.all_done ds.lsz hr)), fun j hj => ?_⟩
    obtain ⟨h1, o, ho, h2⟩ := mem_ready.mp hj
    have hjs := (Array.getElem?_eq_some_iff.mp ho).1
    have hnd : ¬ Done listed j := by
      intro hd; unfold Done at hd
      rw [Array.getD_eq_getD_getElem?, hd] at h1; simp at h1
    have hB : ∀ i ∈ B j, Done listed i := by
      intro i hi
      obtain ⟨e, he, hb, hx⟩ := T.df.in_ j o ho i hi
      have hd : Done listed e.on := by
        have := h2 e he hb
        rw [Array.getD_eq_getD_getElem?] at this
        unfold Done
        cases hq : listed[e.on]? with
        | none => rw [hq] at this; simp at this
        | some b => rw [hq] at this; simp at this; rw [this]
      rcases hx with rfl | hx
      · exact hd
      · exact ds.sdc _ hd i hx
    refine T.step hk0 ds ho hnd hB fun a' W' m' p' ds' => ih _ a' W' m' p' ?_ ds'
    have : wait ops.size (listed.setIfInBounds j true) < wait ops.size listed := by
      have hjl : j < listed.size := by rw [ds.lsz]; exact hjs
      refine count_lt (j := j) (List.mem_range.mpr hjs) (by simpa [Done] using hnd) (by simp [hjl]) fun i hi => ?_
      simp only [bne_iff_ne, ne_eq] at hi ⊢
      intro hd
      exact hi ((Done.set hjl).mpr (.inl hd))
    omega
end

section
variable {C : Cx} {N k : Nat} {R : Nat → Nat → Prop} {W0 : World} {m0 : Mp} {c0 : Nat → Nat} {e : Env} {h : Heap} {a : Act} {W : World} {m : Mp}
theorem draw_core {id : Nat} {ops : Array Oper} {gs : List GOp} {B : Nat → List Nat} {Ls : Nat → Prop} {E : Nat → Env} {H : Nat → Heap} {An : Nat → List Ans} {Q : Exit → Act → World → Prop}
    (T : TR C N ops gs B Ls E H An) (cs : CS C N k R W0 m0 c0 (E 0) (H 0) a W m)
    (hn : ∀ a' W' m', CS C N k R W0 m0 c0 (E gs.length) (H gs.length) a' W' m' → Q .normal a' W') : (Code.region id ops true).wp C.P Q a W := by
  refine wp_region_any C.mo ?_
  have hs : (Array.replicate ops.size false).size = ops.size := by simp
  have hnone : ∀ i, ¬ Done (Array.replicate ops.size false) i := by
    intro i hi; unfold Done at hi
    rw [Array.getElem?_replicate] at hi
    split at hi <;> simp at hi
  have hD : Dn H (Array.replicate ops.size false) = fun i => i < (H 0).length := by
    funext x; apply propext
    constructor
    · rintro (h | ⟨q, hq, _⟩)
      · exact h
      · exact absurd hq (hnone q)
    · exact .inl
  obtain ⟨p, h1, h2, h3, h4⟩ := nextW gs (Done (Array.replicate ops.size false)) (fun q g _ _ => .inr (hnone q)) gs.length 0 (by omega)
  have hlen := T.df.len
  have noW : ∀ (q : Nat) (g : GOp), 0 ≤ q → q < p → gs[q]? = some g → kindM g.op ≠ 2 := fun q g a1 a2 a3 a4 => hnone q (h3 q g a1 a2 a3 a4)
  obtain ⟨nw, hnw⟩ := T.grow (i := 0) (j := p) (Nat.zero_le _) h2 noW
  have hinv : Inv C.ρ R m (fun i => i < (H 0).length) (H p) W := by rw [hnw]; exact cs.inv.extend nw
  refine any_sound T cs.can cs.len cs.cle cs.new (fun a' W' m' cs' => hn a' W' m' cs') ops.size _ a _ m p ?_ ⟨hs, fun i hi => absurd hi (hnone i), cs.sz, cs.df, fun t v _ hv => cs.er t v trivial hv, fun i o d v hi => absurd hi (hnone i), ?_, ⟨cs.keep.os, cs.keep.tape, cs.keep.output, cs.keep.size, cs.keep.blk⟩, cs.same, by omega, fun q g hq hg hk => absurd hk (noW q g (Nat.zero_le _) hq hg), fun hp => ⟨(h4 (by omega)).1, hnone p⟩, fun q hq hno x b hx hxq hb y hy => ?_⟩
  · unfold wait
    refine Nat.le_trans List.countP_le_length (by simp)
  · rw [hD]; exact hinv.drawn rfl
  · rw [hD] at hx
    have : y < (H 0).length := hinv.ids x b hx hb y hy
    exact Nat.lt_of_lt_of_le this (T.mono (Nat.zero_le _) (by omega))

theorem draw_sound {id : Nat} {ops : Array Oper} {gs : List GOp} {Q : Exit → Act → World → Prop} {A : List Ans} {K : Env → Heap → List Ans → Prop}
    (hc : mapO (cG C N ops) ops.toList = some gs) (hd : drawOK ops.toList (upW ops.toList gs) = true) (cs : CS C N k R W0 m0 c0 e h a W m) (hk : opsDK (Ev C) (upW ops.toList gs) e h A K)
    (hn : ∀ e' h' A' a' W' m', K e' h' A' → CS C N k R W0 m0 c0 e' h' a' W' m' → Q .normal a' W') : (Code.region id ops true).wp C.P Q a W := by
  obtain ⟨E, H, An, rfl, rfl, hK, hst⟩ := trace _ hk
  exact draw_core ⟨DF.mk' hc rfl hd, hst, fun x b hb => cs.inv.clb x b (List.getElem?_eq_some_iff.mp hb).1 hb, fun j g _ hl => absurd hl.1 (by simp)⟩ cs fun a' W' m' cs' => hn _ _ _ a' W' m' hK cs'
theorem drawL_sound {id : Nat} {ops : Array Oper} {gs : List GOp} {ls X : List Nat} {Q : Exit → Act → World → Prop} {A : List Ans} {K : Env → Heap → List Ans → Prop}
    (hc : mapO (cG C N ops) ops.toList = some gs) (hd : drawOKL ops.toList (upW ops.toList gs) ls = true) (cs : CS C N k R W0 m0 c0 e h a W m) (hk : opsLK (Ev C) ls X 0 (upW ops.toList gs) e h A K)
    (hn : ∀ e' h' A' a' W' m', K e' h' A' → CS C N k R W0 m0 c0 e' h' a' W' m' → Q .normal a' W') : (Code.region id ops true).wp C.P Q a W := by
  obtain ⟨E, H, An, rfl, rfl, hK, hst⟩ := traceL _ hk
  refine draw_core ⟨DF.mk' hc rfl hd, fun i g hg => (hst i g hg).1, fun x b hb => cs.inv.clb x b (List.getElem?_eq_some_iff.mp hb).1 hb, fun j g hg hl x hx => ?_⟩ cs fun a' W' m' cs' => hn _ _ _ a' W' m' hK cs'
  have h1 := (hst j g hg).2.1
  have hxX : x ∈ X := by
    rw [looseB, Nat.zero_add, hl.1, hx] at h1
    simpa using h1
  intro q hq
  induction q with
  | zero => rfl
  | succ q ih =>
    have hgq : (upW ops.toList gs)[q]? = some (upW ops.toList gs)[q] := List.getElem?_eq_getElem (by omega)
    rw [(hst q _ hgq).2.2 x hxX]; exact ih (by omega)
end
end Go.Proofs.Ytokoboflpaklaaa.Mi
namespace Go.Proofs.Ytokoboflpaklaaa.Mi
open Go

section
variable {C : Cx} {N k : Nat} {R : Nat → Nat → Prop} {W0 : World} {m0 : Mp} {c0 : Nat → Nat} {e : Env} {h : Heap} {a : Act} {W : World} {m : Mp}

/-- Every code. -/
theorem code_sound : ∀ (c : Code) {mc : MC} {e : Env} {h : Heap} {a : Act} {W : World} {m : Mp} {A : List Ans} {K : Ex → Env → Heap → List Ans → Prop} {Q : Exit → Act → World → Prop},
    cC C N c = some mc → CS C N k R W0 m0 c0 e h a W m → code (Ev C) (LpS C N k) mc e h A K →
    (∀ x e' h' A' a' W' m', K x e' h' A' → CS C N k R W0 m0 c0 e' h' a' W' m' → Q x.out a' W') → c.wp C.P Q a W
  | .skip, mc, e, h, a, W, m, A, K, Q, hc, cs, hk, hn => by
    simp only [cC] at hc; obtain rfl := Option.some.inj hc
    simp only [code] at hk
    exact wp_skip (hn _ _ _ _ _ _ m hk cs)
  | .label _, mc, e, h, a, W, m, A, K, Q, hc, cs, hk, hn => by
    simp only [cC] at hc; obtain rfl := Option.some.inj hc
    simp only [code] at hk
    exact wp_label (hn _ _ _ _ _ _ m hk cs)
  | .exit id, mc, e, h, a, W, m, A, K, Q, hc, cs, hk, hn => by
    simp only [cC] at hc; obtain rfl := Option.some.inj hc
    simp only [code] at hk
    exact wp_exit (hn _ _ _ _ _ _ m hk cs)
  | .ret, mc, e, h, a, W, m, A, K, Q, hc, cs, hk, hn => by
    simp only [cC] at hc; obtain rfl := Option.some.inj hc
    simp only [code] at hk
    exact wp_ret (hn _ _ _ _ _ _ m hk cs)
  | .region id ops draw, mc, e, h, a, W, m, A, K, Q, hc, cs, hk, hn => by
    simp only [cC] at hc
    split at hc
    · rename_i gs hgs
      cases draw with
      | true =>
        simp only [if_true] at hc
        split at hc
        · rename_i hd
          obtain rfl := Option.some.inj hc
          simp only [code] at hk
          exact draw_sound hgs hd cs hk fun e' h' A' a' W' m' hk' cs' => hn _ _ _ _ _ _ m' hk' cs'
        · split at hc
          · rename_i hd
            obtain rfl := Option.some.inj hc
            simp only [code] at hk
            split at hk
            · exact drawL_sound hgs hd cs hk.2 fun e' h' A' a' W' m' hk' cs' => hn _ _ _ _ _ _ m' hk' cs'
            · exact hk.elim
          · obtain rfl := Option.some.inj hc; simp only [code] at hk
      | false =>
        simp only [Bool.false_eq_true, if_false] at hc
        obtain rfl := Option.some.inj hc
        simp only [code] at hk
        exact wp_region_list (ops_sound _ _ hgs cs hk fun e' h' A' a' W' m' hk' cs' => hn _ _ _ _ _ _ m' hk' cs')
    · simp at hc
  | .seq x y, mc, e, h, a, W, m, A, K, Q, hc, cs, hk, hn => by
    simp only [cC] at hc
    split at hc
    · rename_i x' y' hx hy
      obtain rfl := Option.some.inj hc
      simp only [code] at hk
      refine wp_seq (code_sound x hx cs hk fun z e' h' A' a' W' m' hk' cs' => ?_)
      cases z with
      | normal => exact code_sound y hy cs' hk' hn
      | exit i => exact hn (.exit i) _ _ _ _ _ m' hk' cs'
      | ret => exact hn .ret _ _ _ _ _ m' hk' cs'
    · simp at hc
  | .cond x y z, mc, e, h, a, W, m, A, K, Q, hc, cs, hk, hn => by
    simp only [cC] at hc
    split at hc
    · rename_i x' y' z' hx hy hz
      obtain rfl := Option.some.inj hc
      simp only [code] at hk
      split at hk
      · rename_i hv
        have := (ev_ok hx hv cs.er (fun _ _ => trivial)).1
        simp only [VR] at this
        exact wp_cond_true this (code_sound y hy cs hk hn)
      · rename_i hv
        have := (ev_ok hx hv cs.er (fun _ _ => trivial)).1
        simp only [VR] at this
        exact wp_cond_false this (code_sound z hz cs hk hn)
      · exact hk.elim
    · simp at hc
  | .block id x, mc, e, h, a, W, m, A, K, Q, hc, cs, hk, hn => by
    simp only [cC] at hc
    split at hc
    · rename_i x' hx
      obtain rfl := Option.some.inj hc
      simp only [code] at hk
      refine wp_block (code_sound x hx cs hk fun z e' h' A' a' W' m' hk' cs' => ?_)
      cases z with
      | normal => exact hn .normal _ _ _ _ _ m' hk' cs'
      | exit i =>
        simp only [blockK] at hk'
        simp only [Ex.out, Exit.inBlock]
        split at hk'
        · rename_i hi; rw [if_pos hi]; exact hn .normal _ _ _ _ _ m' hk' cs'
        · rename_i hi; rw [if_neg hi]; exact hn (.exit i) _ _ _ _ _ m' hk' cs'
      | ret => exact hn .ret _ _ _ _ _ m' hk' cs'
    · simp at hc
  | .loop x, mc, e, h, a, W, m, A, K, Q, hc, cs, hk, hn => by
    simp only [cC] at hc
    split at hc
    · rename_i x' hx
      obtain rfl := Option.some.inj hc
      simp only [code] at hk
      split at hk
      · obtain ⟨hl, hk⟩ := hk
        exact (hl x hx R W0 m0 c0 a W m cs Q fun a' W' m' cs' => hn _ _ _ _ _ _ m' hk cs').wp
      · exact hk.elim
    · simp at hc
  | .rangeFunc _ _ _ _, mc, e, h, a, W, m, A, K, Q, hc, cs, hk, hn => by
    simp only [cC] at hc; obtain rfl := Option.some.inj hc; simp only [code] at hk
  | .scope _, mc, e, h, a, W, m, A, K, Q, hc, cs, hk, hn => by
    simp only [cC] at hc; obtain rfl := Option.some.inj hc; simp only [code] at hk
  | .goto _, mc, e, h, a, W, m, A, K, Q, hc, cs, hk, hn => by
    simp only [cC] at hc; obtain rfl := Option.some.inj hc; simp only [code] at hk
  | .refuse _, mc, e, h, a, W, m, A, K, Q, hc, cs, hk, hn => by
    simp only [cC] at hc; obtain rfl := Option.some.inj hc; simp only [code] at hk
end
end Go.Proofs.Ytokoboflpaklaaa.Mi
namespace Go.Proofs.Ytokoboflpaklaaa.Mi
open Go

/-- Only the live slots, and only the blocks that are reached. -/
def cmpk (k : Nat) (e : Env) (h : Heap) (e' : Env) (h' : Heap) : Prop :=
  (fun e1 => (fun L => (closed h L L = true ∧ distinct L = true ∧ (idsE e1).all (fun j => L.contains j) = true) ∧ renE (pos L) e1 = e' ∧ sub h L false L = h') (keepL k h (idsE e1))) (pick_ e (e'.map (·.1)))

theorem reach_pre (h : Heap) : ∀ (n : Nat) (todo acc : List Nat), ∃ t, reach h n todo acc = acc ++ t
  | 0, _, acc => ⟨[], by simp [reach]⟩
  | _ + 1, [], acc => ⟨[], by simp [reach]⟩
  | n + 1, i :: todo, acc => by
    simp only [reach]
    split
    · exact reach_pre h n todo acc
    · split
      · obtain ⟨t, ht⟩ := reach_pre h n (_ ++ todo) (acc ++ [i])
        exact ⟨i :: t, by rw [ht]; simp⟩
      · obtain ⟨t, ht⟩ := reach_pre h n todo (acc ++ [i])
        exact ⟨i :: t, by rw [ht]; simp⟩

theorem upTo_length : ∀ k, (upTo k).length = k
  | 0 => rfl
  | k + 1 => by simp [upTo, upTo_length k]

theorem upTo_get : ∀ {k i : Nat}, i < k → (upTo k)[i]? = some i
  | k + 1, i, h => by
    simp only [upTo]
    by_cases e : i < k
    · rw [List.getElem?_append_left (by rw [upTo_length]; exact e)]; exact upTo_get e
    · obtain rfl : i = k := by omega
      rw [List.getElem?_append_right (by rw [upTo_length]; omega)]; simp [upTo_length]

theorem upTo_mem {k i : Nat} : i ∈ upTo k ↔ i < k := by
  constructor
  · intro h
    obtain ⟨j, hj⟩ := List.getElem?_of_mem h
    have : j < k := by have := (List.getElem?_eq_some_iff.mp hj).1; rw [upTo_length] at this; exact this
    rw [upTo_get this] at hj; obtain rfl := Option.some.inj hj; exact this
  · intro h; exact List.mem_of_getElem? (upTo_get h)

theorem keepL_ok (k : Nat) (h : Heap) (roots : List Nat) : k ≤ (keepL k h roots).length ∧ ∀ i, i < k → (keepL k h roots)[i]? = some i := by
  obtain ⟨t, ht⟩ := reach_pre h fuel (idsB h (upTo k) ++ roots) (upTo k)
  unfold keepL; rw [ht]
  refine ⟨by simp [upTo_length], fun i hi => ?_⟩
  rw [List.getElem?_append_left (by rw [upTo_length]; exact hi)]; exact upTo_get hi

theorem clsIdx_eq {h : Heap} {cl : Nat} : ∀ {L : List Nat} {p i : Nat} {b : Blk}, L[p]? = some i → h[i]? = some b → b.cl = cl → (∀ q i' b', q < p → L[q]? = some i' → h[i']? = some b' → b'.cl ≠ cl) → clsIdx h cl L = p
  | [], _, _, _, hp, _, _, _ => by simp at hp
  | j :: L, 0, i, b, hp, hb, hc, _ => by
    simp at hp; subst hp
    simp [clsIdx, hb, hc]
  | j :: L, p + 1, i, b, hp, hb, hc, hq => by
    have ih := clsIdx_eq (L := L) (p := p) (by simpa using hp) hb hc fun q i' b' h1 h2 h3 => hq (q + 1) i' b' (by omega) (by simpa using h2) h3
    simp only [clsIdx]
    cases hj : h[j]? with
    | none => simp [ih]
    | some b' => simp only; rw [if_neg (hq 0 j b' (by omega) (by simp) hj), ih]

section
variable {C : Cx} {N k : Nat} {R : Nat → Nat → Prop} {W0 : World} {m0 : Mp} {c0 : Nat → Nat} {e : Env} {h : Heap} {a : Act} {W : World} {m : Mp} {D : Nat → Prop}

theorem sub_inv (hI : Inv C.ρ R m D h W) {L : List Nat} (hL : ∀ i ∈ L, D i) (hc : closed h L L = true) :
    Inv C.ρ R (m.comp fun k => L.getD k 0) (fun i => i < (sub h L false L).length) (sub h L false L) W ∧ (sub h L false L).length = L.length ∧
    (∀ j ∈ L, m.same ((m.comp fun k => L.getD k 0).comp (pos L)) j) ∧
    (∀ (k : Nat) (b' : Blk), (sub h L false L)[k]? = some b' → ∃ i b, L[k]? = some i ∧ h[i]? = some b ∧ D i ∧ L.getD k 0 = i ∧ b' = { b.ren (pos L) with cl := clsIdx h b.cl L, pr := b.pr }) := by
  have hex : ∀ i ∈ L, ∃ b, h[i]? = some b := fun i hi => hI.dom i (hL i hi)
  obtain ⟨s1, s2⟩ := sub_get (h := h) (L := L) (call := false) (l := L) hex
  have key : ∀ (k : Nat) (b' : Blk), (sub h L false L)[k]? = some b' → ∃ i b, L[k]? = some i ∧ h[i]? = some b ∧ D i ∧ L.getD k 0 = i ∧
      b' = { b.ren (pos L) with cl := clsIdx h b.cl L, pr := b.pr } := by
    intro k b' hb'
    have hk : k < L.length := by rw [← s1]; exact (List.getElem?_eq_some_iff.mp hb').1
    have hki : L[k]? = some L[k] := List.getElem?_eq_getElem hk
    obtain ⟨b, hb⟩ := hex _ (List.getElem_mem hk)
    have := s2 k _ b hki hb
    rw [hb'] at this
    exact ⟨_, b, hki, hb, hL _ (List.getElem_mem hk), by simp [List.getD_eq_getElem?_getD, hki], by simpa using Option.some.inj this⟩
  have hpos : ∀ j ∈ L, m.same ((m.comp fun k => L.getD k 0).comp (pos L)) j := by
    intro j hj
    have := (pos_ok hj).2
    simp [Mp.same, Mp.comp, List.getD_eq_getElem?_getD, this]
  refine ⟨⟨?_, ?_, ?_, ?_, ?_, ?_, ?_, ?_, ?_⟩, s1, hpos, key⟩
  · intro k b' hk hb'
    obtain ⟨i, b, e1, e2, e3, e4, rfl⟩ := key k b' hb'
    obtain ⟨cs, el, fz, g1, g2, g3, g4, g5, g6⟩ := hI.blk i b e3 e2
    refine ⟨cs, el, fz, by simp only [Mp.comp, e4]; exact g1, by simp only [Mp.comp, e4]; exact g2, by simp only [Mp.comp, e4]; exact g3, by show (b.ren (pos L)).c.length ≤ _; rw [Blk.ren_length]; exact g4, fun j v hv => ?_, g6⟩
    obtain ⟨v0, h0, rfl⟩ := Blk.ren_get (f := pos L) (b := b) hv
    obtain ⟨u, hu, hr⟩ := g5 j v0 h0
    refine ⟨u, hu, ?_⟩
    split
    · rename_i hlit
      rw [VR.ren]
      refine hr.agree fun x hx => hpos x ?_
      obtain ⟨b2, hb2, hcl⟩ := closed_ok hc i (List.mem_of_getElem? e1)
      rw [e2] at hb2; obtain rfl := Option.some.inj hb2
      exact hcl x (by simp only [Blk.ids, hlit, if_true]; exact V.mem_idsL.mpr ⟨v0, List.mem_of_getElem? h0, hx⟩)
    · rename_i hlit
      exact hr.flat_any (flat_mem (hI.flat i b e3 e2 (by simpa using hlit)) (List.mem_of_getElem? h0))
  · intro k hk
    exact ⟨_, List.getElem?_eq_getElem hk⟩
  · intro k1 k2 b1 b2 hk1 hk2 hb1 hb2 he
    obtain ⟨i, b, e1, e2, e3, e4, rfl⟩ := key k1 b1 hb1
    obtain ⟨i', b', e1', e2', e3', e4', rfl⟩ := key k2 b2 hb2
    simp only [Mp.comp, e4, e4'] at he
    simp only
    rw [hI.cls i i' b b' e3 e3' e2 e2' he]
  · intro k b' p hk hb' hp o ho
    obtain ⟨i, b, e1, e2, e3, e4, rfl⟩ := key k b' hb'
    simp only [Mp.comp, e4]
    exact hI.rts i b p e3 e2 hp o ho
  · intro k b' hk hb' hl
    obtain ⟨i, b, e1, e2, e3, e4, rfl⟩ := key k b' hb'
    have hl' : b.lit = false := hl
    simp only [Blk.ren, hl', Bool.false_eq_true, if_false]
    exact hI.flat i b e3 e2 hl'
  · intro k b' hk hb' j hj
    obtain ⟨i, b, e1, e2, e3, e4, rfl⟩ := key k b' hb'
    obtain ⟨x, hx, rfl⟩ := Blk.ren_ids (hI.flat i b e3 e2) hj
    obtain ⟨b2, hb2, hcl⟩ := closed_ok hc i (List.mem_of_getElem? e1)
    rw [e2] at hb2; obtain rfl := Option.some.inj hb2
    rw [s1]; exact (pos_ok (hcl x hx)).1
  · exact hI.fresh
  · intro k b' hk hb'
    obtain ⟨i, b, e1, e2, e3, e4, rfl⟩ := key k b' hb'
    rw [s1]; exact (clsIdx_ok (List.mem_of_getElem? e1) e2 rfl).1
  · intro k b' hk hb'
    obtain ⟨i, b, e1, e2, e3, e4, rfl⟩ := key k b' hb'
    exact fun hes => Blk.ren_atom (hI.atm i b e3 e2 hes)

theorem get_pick {e : Env} : ∀ {live : List Nat} {t : Nat} {v : V}, get (pick_ e live) t = some v → get e t = some v ∧ ∀ i ∈ v.ids, i ∈ idsE (pick_ e live)
  | [], t, v, h => by simp [pick_, get] at h
  | x :: r, t, v, h => by
    simp only [pick_] at h ⊢
    split at h
    · rename_i w hw
      simp only [get] at h
      split at h
      · rename_i e0; subst e0; obtain rfl := Option.some.inj h
        exact ⟨hw, fun i hi => by simp [idsE, hi]⟩
      · obtain ⟨h1, h2⟩ := get_pick h
        exact ⟨h1, fun i hi => by simp [idsE, h2 i hi]⟩
    · exact get_pick h

theorem get_renE {f : Nat → Nat} : ∀ {e : Env} {t : Nat} {v : V}, get (renE f e) t = some v → ∃ v0, get e t = some v0 ∧ v = v0.ren f
  | [], t, v, h => by simp [renE, get] at h
  | (s, w) :: r, t, v, h => by
    simp only [renE, get] at h ⊢
    split
    · rename_i e0; rw [if_pos e0] at h; exact ⟨w, rfl, (Option.some.inj h).symm⟩
    · rename_i e0; rw [if_neg e0] at h; exact get_renE h

theorem CS.cmp (cs : CS C N k R W0 m0 c0 e h a W m) {e' : Env} {h' : Heap} (hk : cmpk k e h e' h') : ∃ m', CS C N k R W0 m0 c0 e' h' a W m' := by
  unfold cmpk at hk
  generalize e'.map (·.1) = live at hk
  obtain ⟨⟨hcl, hdi, hal⟩, rfl, rfl⟩ := hk
  have hroot : ∀ i ∈ idsE (pick_ e live), i < h.length := by
    have : ∀ (l : List Nat), ∀ i ∈ idsE (pick_ e l), i < h.length := by
      intro l
      induction l with
      | nil => intro i hi; simp [pick_, idsE] at hi
      | cons x r ih =>
        intro i hi
        simp only [pick_] at hi
        split at hi
        · rename_i w hw
          simp only [idsE, List.mem_append] at hi
          rcases hi with hi | hi
          · obtain ⟨u, _, _, q⟩ := cs.er x w trivial hw
            exact q i hi
          · exact ih i hi
        · exact ih i hi
    exact this live
  have hids : ∀ (i : Nat) (b : Blk), i < h.length → h[i]? = some b → ∀ j ∈ b.ids, j < h.length := by
    intro i b hi hb j hj
    refine cs.inv.ids i b hi hb j ?_
    simp only [Blk.ids] at hj; split at hj
    · exact hj
    · simp at hj
  have hidsB : ∀ (l : List Nat), (∀ i ∈ l, i < h.length) → ∀ j ∈ idsB h l, j < h.length := by
    intro l
    induction l with
    | nil => intro _ j hj; simp [idsB] at hj
    | cons x r ih =>
      intro hl j hj
      have hx := hl x List.mem_cons_self
      simp only [idsB, List.getElem?_eq_getElem hx, List.mem_append] at hj
      rcases hj with hj | hj
      · exact hids x _ hx (List.getElem?_eq_getElem hx) j hj
      · exact ih (fun i hi => hl i (List.mem_cons_of_mem _ hi)) j hj
  have hup : ∀ i ∈ upTo k, i < h.length := fun i hi => by have := upTo_mem.mp hi; have := cs.len; omega
  have hL : ∀ i ∈ keepL k h (idsE (pick_ e live)), i < h.length :=
    reach_in hids _ _ _ (fun i hi => (List.mem_append.mp hi).elim (hidsB _ hup i) (hroot i)) hup
  obtain ⟨k1, k2⟩ := keepL_ok k h (idsE (pick_ e live))
  have hin : ∀ i ∈ idsE (pick_ e live), i ∈ keepL k h (idsE (pick_ e live)) := fun i hi => by simpa using List.all_eq_true.mp hal i hi
  generalize keepL k h (idsE (pick_ e live)) = L at *
  obtain ⟨s0, s1, s2, s3⟩ := sub_inv cs.inv hL hcl
  refine ⟨_, ⟨?_, s0, cs.keep, fun i hi => ?_, by omega, fun i b' hi hb' => ?_, fun i b' hi hb' => ?_, cs.sz, cs.df, cs.can⟩⟩
  · intro t v _ hv
    obtain ⟨v0, hv0, rfl⟩ := get_renE hv
    obtain ⟨h1, h2⟩ := get_pick hv0
    obtain ⟨u, q1, q2, _⟩ := cs.er t v0 trivial h1
    refine ⟨u, q1, ?_, fun i hi => ?_⟩
    · rw [VR.ren]; exact q2.agree fun i hi => s2 i (hin i (h2 i hi))
    · rw [V.ids_ren] at hi
      obtain ⟨j, hj, rfl⟩ := List.mem_map.mp hi
      show pos L j < _
      rw [s1]; exact (pos_ok (hin j (h2 j hj))).1
  · obtain ⟨a1, a2, a3⟩ := cs.same i hi
    have : L.getD i 0 = i := by simp [List.getD_eq_getElem?_getD, k2 i hi]
    simp only [Mp.same, Mp.comp, this]
    exact ⟨a1, a2, a3⟩
  · obtain ⟨j, b, e1, e2, e3, e4, rfl⟩ := s3 i b' hb'
    rw [k2 i hi] at e1; obtain rfl := Option.some.inj e1
    show clsIdx h b.cl L = c0 i
    rw [cs.cle i b hi e2]
    obtain ⟨c1, c2, c3⟩ := cs.can i hi
    have hlt : c0 i < h.length := by have := cs.len; omega
    have hb0 := List.getElem?_eq_getElem hlt
    refine clsIdx_eq (k2 _ c1) hb0 (by rw [cs.cle _ _ c1 hb0, c2]) fun q i' b' hq hi' hb' => ?_
    rw [k2 q (by omega)] at hi'; obtain rfl := Option.some.inj hi'
    rw [cs.cle q b' (by omega) hb']; exact c3 q hq
  · obtain ⟨j, b, e1, e2, e3, e4, rfl⟩ := s3 i b' hb'
    show b.pr.isSome = true
    refine cs.new j b ?_ e2
    by_cases hj : j < k
    · have := distinct_ok hdi e1 (k2 j hj)
      omega
    · omega


/-- A loop may be looked at with less in sight. -/
theorem LpS.cmp {b : MC} {x : Ex} {e1 e' : Env} {h1 h' : Heap} (hk : cmpk k e h e1 h1) (hl : LpS C N k b e1 h1 x e' h') : LpS C N k b e h x e' h' := by
  intro cb hcb R W0 m0 c0 a W m cs Q hQ
  obtain ⟨m', cs'⟩ := cs.cmp hk
  exact hl cb hcb R W0 m0 c0 a W m' cs' Q hQ

/-- One round of a loop. -/
theorem LpS.round {b : MC} {x : Ex} {e' : Env} {h' : Heap} {A : List Ans}
    (hk : code (Ev C) (LpS C N k) b e h A fun y e1 h1 A1 => A1 = [] ∧ match y with
      | .normal => LpS C N k b e1 h1 x e' h'
      | .exit i => x = .exit i ∧ e1 = e' ∧ h1 = h'
      | .ret => x = .ret ∧ e1 = e' ∧ h1 = h') : LpS C N k b e h x e' h' := by
  intro cb hcb R W0 m0 c0 a W m cs Q hQ
  refine LoopW.unroll (code_sound cb hcb cs hk fun y e1 h1 A1 a1 W1 m1 hy cs1 => ?_)
  obtain ⟨_, hy⟩ := hy
  cases y with
  | normal => exact hy cb hcb R W0 m0 c0 a1 W1 m1 cs1 Q hQ
  | exit i =>
    obtain ⟨rfl, rfl, rfl⟩ := hy
    exact hQ a1 W1 m1 cs1
  | ret =>
    obtain ⟨rfl, rfl, rfl⟩ := hy
    exact hQ a1 W1 m1 cs1

/-- What is seen when a loop is left may be less. -/
theorem LpS.out {b : MC} {x : Ex} {e1 e' : Env} {h1 h' : Heap} (hl : LpS C N k b e h x e1 h1) (hk : cmpk k e1 h1 e' h') : LpS C N k b e h x e' h' := by
  intro cb hcb R W0 m0 c0 a W m cs Q hQ
  refine hl cb hcb R W0 m0 c0 a W m cs Q fun a' W' m' cs' => ?_
  obtain ⟨m2, cs2⟩ := cs'.cmp hk
  exact hQ a' W' m2 cs2

/-! ### Functions -/

def canonB (h : Heap) : Bool := (List.range h.length).all fun i => match h[i]? with
  | some b => decide (b.cl < h.length) && (match h[b.cl]? with | some b' => b'.cl == b.cl | none => false) &&
    (List.range b.cl).all fun j => (match h[j]? with | some b' => b'.cl != b.cl | none => false)
  | none => false

def clsOf (h : Heap) (i : Nat) : Nat := match h[i]? with | some b => b.cl | none => 0

theorem canonB_ok (hc : canonB h = true) : CanonC h.length (clsOf h) := by
  intro i hi
  have := List.all_eq_true.mp hc i (List.mem_range.mpr hi)
  have hb := List.getElem?_eq_getElem hi
  simp only [hb, Bool.and_eq_true, decide_eq_true_eq] at this
  obtain ⟨⟨q1, q2⟩, q3⟩ := this
  have e0 : clsOf h i = h[i].cl := by simp [clsOf, hb]
  rw [e0]
  refine ⟨q1, ?_, fun j hj => ?_⟩
  · have hb1 := List.getElem?_eq_getElem q1
    simp only [hb1, beq_iff_eq] at q2
    simp [clsOf, hb1, q2]
  · have := List.all_eq_true.mp q3 j (List.mem_range.mpr hj)
    have hb1 := List.getElem?_eq_getElem (Nat.lt_trans hj q1)
    simp only [hb1, bne_iff_ne, ne_eq] at this
    simpa [clsOf, hb1] using this

/-- The frame at a function's beginning. -/
def envOf : Nat → List V → Env
  | _, [] => []
  | n, v :: vs => (n, v) :: envOf (n + 1) vs

theorem get_envOf : ∀ {vs : List V} {n t : Nat} {v : V}, get (envOf n vs) t = some v → n ≤ t ∧ vs[t - n]? = some v
  | [], n, t, v, h => by simp [envOf, get] at h
  | w :: vs, n, t, v, h => by
    simp only [envOf, get] at h
    split at h
    · rename_i e0; subst e0; obtain rfl := Option.some.inj h; exact ⟨Nat.le_refl _, by simp⟩
    · obtain ⟨h1, h2⟩ := get_envOf h
      refine ⟨by omega, ?_⟩
      have : t - n = (t - (n + 1)) + 1 := by omega
      rw [this]; simpa using h2

/-- A function's results: a slot, or a variable's cells. -/
inductive RV where
  | tmp (t : Nat)
  | cell (t : Nat) (n : Option Nat)

def cRV (C : Cx) : ResultVar → Option RV
  | .tmp t => some (.tmp t)
  | .cell t ty => (match layT C.P ty with
    | some n => some (.cell t n)
    | none => none)

def resOne (e : Env) (h : Heap) : RV → Option V
  | .tmp t => get e t
  | .cell t n => (match get e t with
    | some (.ptr i o) => (match h[i]? with
      | some b => if b.lit then (match n with
        | none => b.c[o]?
        | some n => if o + n ≤ b.c.length then some (.agg ((b.c.drop o).take n)) else none) else none
      | none => none)
    | _ => none)

def one : List V → V
  | [v] => v
  | vs => .tup vs

def resK (rs : List RV) (e : Env) (h : Heap) : Option V :=
  match mapO (resOne e h) rs with
  | some vs => some (one vs)
  | none => none

/-- How a body's end gives the call's answer. -/
def fin (k : Nat) (rs : List RV) (r : V) (h' : Heap) : Ex → Env → Heap → List Ans → Prop := fun x e1 h1 A =>
  (A = [] ∧ (x = .normal ∨ x = .ret)) ∧ ∃ r0, resK rs e1 h1 = some r0 ∧
    (fun L => (closed h1 L L = true ∧ distinct L = true ∧ r0.ids.all (fun j => L.contains j) = true) ∧ r0.ren (pos L) = r ∧ sub h1 L false L = h') (keepL k h1 r0.ids)

theorem resOne_ok (cs : CS C N k R W0 m0 c0 e h a W m) {x : ResultVar} {rv : RV} {v : V} (hc : cRV C x = some rv) (hv : resOne e h rv = some v) :
    ∃ u, (∀ f : ResultVar → Sem Value, (∀ t, f (.tmp t) = pure (a.tmps.getD t undef)) → (∀ a' t, f (.cell a' t) = (do loadVar t (← asAddr (a.tmps.getD a' undef)))) → (f x).run C.P W = .ok u W) ∧ VR C.ρ m v u ∧ ∀ i ∈ v.ids, i < h.length := by
  cases x with
  | tmp t =>
    simp only [cRV] at hc; obtain rfl := Option.some.inj hc
    simp only [resOne] at hv
    obtain ⟨u, q1, q2, q3⟩ := cs.er t v trivial hv
    exact ⟨u, fun f hf _ => by simp [hf, Array.getD_eq_getD_getElem?, q1], q2, q3⟩
  | cell t ty =>
    simp only [cRV] at hc
    split at hc
    · rename_i n hn
      obtain rfl := Option.some.inj hc
      simp only [resOne] at hv
      split at hv
      · rename_i i o ht
        obtain ⟨u0, q1, q2, q3⟩ := cs.er t _ trivial ht
        have hi : i < h.length := q3 i (by simp [V.ids])
        simp only [VR] at q2; subst q2
        split at hv
        · rename_i b hb
          obtain ⟨ar, el, fz, g1, g2, g3, g4, g5, g6⟩ := cs.inv.blk i b hi hb
          obtain ⟨d, ti, hd, hti, hnn⟩ := layT_ok hn
          split at hv
          · split at hv
            · rename_i hnone
              obtain ⟨u, hu, hr⟩ := g5 o v hv
              have hag : isAggD d = false := by
                cases hq : isAggD d with
                | false => rfl
                | true => rw [hq] at hnn; simp at hnn
              refine ⟨u, fun f _ hf => ?_, hr, fun k hk => cs.inv.ids i b hi hb k (V.mem_idsL.mpr ⟨v, List.mem_of_getElem? hv, hk⟩)⟩
              simp [hf, Array.getD_eq_getD_getElem?, q1, asAddr, loadVar, run_isAgg hd, hag, cell_at g1, hu]
            · rename_i n'
              split at hv
              · rename_i hle
                obtain rfl := Option.some.inj hv
                have hag : isAggD d = true ∧ n' = ti.size := by
                  cases hq : isAggD d with
                  | false => rw [hq] at hnn; simp at hnn
                  | true => rw [hq] at hnn; simp at hnn; exact ⟨rfl, hnn⟩
                obtain ⟨hag, rfl⟩ := hag
                obtain ⟨p1, p2⟩ := row_ok cs.inv hi hb hle g1
                refine ⟨.agg (ar.extract o (o + ti.size)), fun f _ hf => ?_, by simp only [VR]; exact ⟨_, rfl, p2⟩, fun k hk => ?_⟩
                · simp [hf, Array.getD_eq_getD_getElem?, q1, asAddr, loadVar, run_isAgg hd, hag, run_size (n := ti.size) (show sizeT C.P ty = _ by simp [sizeT, hti]), run_loadCells g1 p1]
                · simp only [V.ids] at hk
                  obtain ⟨v, hv, hm⟩ := V.mem_idsL.mp hk
                  exact cs.inv.ids i b hi hb k (V.mem_idsL.mpr ⟨v, List.mem_of_mem_drop (List.mem_of_mem_take hv), hm⟩)
              · simp at hv
          · simp at hv
        · simp at hv
      · simp at hv
    · simp at hc

theorem resL_ok (cs : CS C N k R W0 m0 c0 e h a W m) : ∀ {rs : List ResultVar} {rvs : List RV} {vs : List V}, mapO (cRV C) rs = some rvs → mapO (resOne e h) rvs = some vs →
    ∃ us, (∀ f : ResultVar → Sem Value, (∀ t, f (.tmp t) = pure (a.tmps.getD t undef)) → (∀ a' t, f (.cell a' t) = (do loadVar t (← asAddr (a.tmps.getD a' undef)))) → (rs.mapM f).run C.P W = .ok us W) ∧ VRL C.ρ m vs us ∧ ∀ i ∈ V.idsL vs, i < h.length
  | [], rvs, vs, hc, hv => by
    simp [mapO] at hc; subst hc; simp [mapO] at hv; subst hv
    exact ⟨[], fun f _ _ => by simp, by simp [VRL], by simp [V.idsL]⟩
  | x :: rs, rvs, vs, hc, hv => by
    simp only [mapO] at hc
    split at hc
    · rename_i b hb
      split at hc
      · rename_i bs hbs
        obtain rfl := Option.some.inj hc
        simp only [mapO] at hv
        split at hv
        · rename_i w hw
          split at hv
          · rename_i ws hws
            obtain rfl := Option.some.inj hv
            obtain ⟨us, p1, p2, p3⟩ := resL_ok cs (rs := rs) hbs hws
            obtain ⟨u, q1, q2, q3⟩ := resOne_ok cs hb hw
            refine ⟨u :: us, fun f g1 g2 => ?_, VRL.cons q2 p2, fun i hi => ?_⟩
            · rw [List.mapM_cons]
              simp only [Sem.run_bind, q1 f g1 g2, Result.andThen_ok, p1 f g1 g2, Sem.run_pure]
            · simp only [V.idsL, List.mem_append] at hi
              exact hi.elim (q3 i) (p3 i)
          · simp at hv
        · simp at hv
      · simp at hc
    · simp at hc

theorem res_ok (cs : CS C N k R W0 m0 c0 e h a W m) {fn : Func} {rvs : List RV} {r : V} (hc : mapO (cRV C) fn.results.toList = some rvs) (hv : resK rvs e h = some r) :
    ∃ u, (results fn a.tmps).run C.P W = .ok u W ∧ VR C.ρ m r u ∧ ∀ i ∈ r.ids, i < h.length := by
  unfold resK at hv
  split at hv
  · rename_i vs hvs
    obtain rfl := Option.some.inj hv
    obtain ⟨us, p1, p2, p3⟩ := resL_ok cs hc hvs
    have hl := p2.length
    have hrun : (results fn a.tmps).run C.P W = .ok (if h : us.toArray.size = 1 then us.toArray[0] else .tuple us.toArray) W := by
      unfold results
      have : fn.results = fn.results.toList.toArray := by simp
      rw [this, List.mapM_toArray]
      simp only [Sem.run_bind, Sem.run_map]
      rw [p1 _ (fun t => rfl) (fun a' t => rfl)]
      simp
    refine ⟨_, hrun, ?_⟩
    match vs, us, hl, p2, p3 with
    | [], [], _, p2, p3 =>
      refine ⟨by simp [one, VR, VRL], by simp [one, V.ids, V.idsL]⟩
    | [v], [u], _, p2, p3 =>
      simp only [VRL] at p2
      obtain ⟨y, ys, e1, p2, _⟩ := p2
      obtain ⟨rfl, rfl⟩ : u = y ∧ ys = [] := by simpa [eq_comm] using e1
      exact ⟨by simpa [one] using p2, fun i hi => p3 i (by simpa [V.idsL, one] using hi)⟩
    | v :: v' :: vs, u :: u' :: us, _, p2, p3 =>
      refine ⟨?_, fun i hi => p3 i (by simpa [one, V.ids] using hi)⟩
      simp only [one, VR]
      exact ⟨_, by simp, p2⟩
  · simp at hv

/-- A function's body gives its contract. -/
theorem ev_intro {f : Nat} {fn : Func} {c : Code} {mc : MC} {rvs : List RV} {args : List V} {r : V} {h' : Heap} (A : List Ans)
    (hf : C.P.funcs[C.ρ f]? = some fn) (hname : (fn.name == "runtime.NumGoroutine") = false) (hb : fn.body = some c) (hc : cC C fn.ntmps c = some mc) (hr : mapO (cRV C) fn.results.toList = some rvs)
    (hN : args.length ≤ fn.ntmps) (hcan : canonB h = true) (hk : code (Ev C) (LpS C fn.ntmps h.length) mc (envOf 0 args) h A (fin h.length rvs r h')) : Ev C f args h r h' := by
  refine ⟨⟨fn, hf, hname, by rw [hb]; rfl⟩, fun m W vs hI hrel hid => calls_of_wp hf hb ?_⟩
  have hl := hrel.length
  have hcs : CS C fn.ntmps h.length (Rcall m h W) W m (clsOf h) (envOf 0 args) h { tmps := vs.toArray ++ Array.replicate (fn.ntmps - vs.toArray.size) undef, defers := [] } W m := by
    refine ⟨fun t v _ hv => ?_, hI, Keep.refl _ _, fun i _ => m.same_refl i, Nat.le_refl _, fun i b _ hb => by simp [clsOf, hb], fun i b hi hb => ?_, by simp; omega, rfl, canonB_ok hcan⟩
    · obtain ⟨_, h2⟩ := get_envOf hv
      simp only [Nat.sub_zero] at h2
      obtain ⟨u, hu, hru⟩ := hrel.get h2
      have hlt : t < vs.length := (List.getElem?_eq_some_iff.mp hu).1
      refine ⟨u, ?_, hru, fun i hi => hid i (V.mem_idsL.mpr ⟨v, List.mem_of_getElem? h2, hi⟩)⟩
      rw [Array.getElem?_append_left (by simpa using hlt)]
      simpa using hu
    · rw [List.getElem?_eq_none hi] at hb; simp at hb
  refine code_sound c hc hcs hk fun x e1 h1 A1 a1 W1 m1 hfin cs1 => ?_
  obtain ⟨⟨_, hx⟩, r0, hr0, ⟨hcl, hdi, hal⟩, rfl, rfl⟩ := hfin
  obtain ⟨u, hrun, hru, hri⟩ := res_ok cs1 hr hr0
  have hids : ∀ (i : Nat) (b : Blk), i < h1.length → h1[i]? = some b → ∀ j ∈ b.ids, j < h1.length := by
    intro i b hi hb j hj
    refine cs1.inv.ids i b hi hb j ?_
    simp only [Blk.ids] at hj; split at hj
    · exact hj
    · simp at hj
  have hup : ∀ i ∈ upTo h.length, i < h1.length := fun i hi => by have := upTo_mem.mp hi; have := cs1.len; omega
  have hidsB : ∀ (l : List Nat), (∀ i ∈ l, i < h1.length) → ∀ j ∈ idsB h1 l, j < h1.length := by
    intro l
    induction l with
    | nil => intro _ j hj; simp [idsB] at hj
    | cons x r ih =>
      intro hl j hj
      have hx := hl x List.mem_cons_self
      simp only [idsB, List.getElem?_eq_getElem hx, List.mem_append] at hj
      rcases hj with hj | hj
      · exact hids x _ hx (List.getElem?_eq_getElem hx) j hj
      · exact ih (fun i hi => hl i (List.mem_cons_of_mem _ hi)) j hj
  have hL : ∀ i ∈ keepL h.length h1 r0.ids, i < h1.length :=
    reach_in hids _ _ _ (fun i hi => (List.mem_append.mp hi).elim (hidsB _ hup i) (hri i)) hup
  obtain ⟨k1, k2⟩ := keepL_ok h.length h1 r0.ids
  have hin : ∀ i ∈ r0.ids, i ∈ keepL h.length h1 r0.ids := fun i hi => by simpa using List.all_eq_true.mp hal i hi
  generalize keepL h.length h1 r0.ids = L at *
  obtain ⟨s0, s1, s2, s3⟩ := sub_inv cs1.inv hL hcl
  have hpost : EvPost C m h W (r0.ren (pos L)) (sub h1 L false L) u W1 (m1.comp fun k => L.getD k 0) := by
    refine ⟨?_, fun i hi => ?_, s0, cs1.keep, fun i hi => ?_, by omega, fun i b' hi hb' => ?_, fun i b b' hb hb' => ?_⟩
    · rw [VR.ren]; exact hru.agree fun i hi => s2 i (hin i hi)
    · rw [V.ids_ren] at hi
      obtain ⟨j, hj, rfl⟩ := List.mem_map.mp hi
      rw [s1]; exact (pos_ok (hin j hj)).1
    · obtain ⟨a1, a2, a3⟩ := cs1.same i hi
      have : L.getD i 0 = i := by simp [List.getD_eq_getElem?_getD, k2 i hi]
      simp only [Mp.same, Mp.comp, this]
      exact ⟨a1, a2, a3⟩
    · obtain ⟨j, b, e1, e2, e3, e4, rfl⟩ := s3 i b' hb'
      show b.pr.isSome = true
      refine cs1.new j b ?_ e2
      by_cases hj : j < h.length
      · have := distinct_ok hdi e1 (k2 j hj)
        omega
      · omega
    · have hi : i < h.length := (List.getElem?_eq_some_iff.mp hb).1
      obtain ⟨j, b1, e1, e2, e3, e4, rfl⟩ := s3 i b' hb'
      rw [k2 i hi] at e1; obtain rfl := Option.some.inj e1
      show clsIdx h1 b1.cl L = b.cl
      have hcb : b.cl = clsOf h i := by simp [clsOf, hb]
      rw [cs1.cle i b1 hi e2, hcb]
      obtain ⟨c1, c2, c3⟩ := cs1.can i hi
      have hlt : clsOf h i < h1.length := by have := cs1.len; omega
      have hb0 := List.getElem?_eq_getElem hlt
      refine clsIdx_eq (k2 _ c1) hb0 (by rw [cs1.cle _ _ c1 hb0, c2]) fun q i' b' hq hi' hb' => ?_
      rw [k2 q (by omega)] at hi'; obtain rfl := Option.some.inj hi'
      rw [cs1.cle q b' (by omega) hb']; exact c3 q hq
  rcases hx with rfl | rfl
  · exact bodyPost_end hrun cs1.df ⟨u, _, rfl, hpost⟩
  · exact bodyPost_ret hrun cs1.df ⟨u, _, rfl, hpost⟩

end
end Go.Proofs.Ytokoboflpaklaaa.Mi
