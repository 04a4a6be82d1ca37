/- The rules by which the small machine is run. -/
import Derived.Laws.BitsLemmas
import Derived.Below
import Derived.Test.YtokoboflpaklaaaMiC
set_option linter.unusedVariables false
set_option linter.unusedSimpArgs false
set_option linter.unusedSectionVars false
set_option linter.unusedVariables false
namespace Go.Proofs.Ytokoboflpaklaaa.Mi
open Go

/-! Functions that give their whole answer when asked for its head. -/

def litO : Nat → Option Nat
  | 0 => some 0 | 1 => some 1 | 2 => some 2 | 3 => some 3 | 4 => some 4 | 5 => some 5 | 6 => some 6 | 7 => some 7 | 8 => some 8 | 9 => some 9
  | 10 => some 10 | 11 => some 11 | 12 => some 12 | 13 => some 13 | 14 => some 14 | 15 => some 15 | 16 => some 16 | 17 => some 17 | 18 => some 18 | 19 => some 19
  | 20 => some 20 | 21 => some 21 | 22 => some 22 | 23 => some 23 | 24 => some 24 | 25 => some 25 | 26 => some 26 | 27 => some 27 | 28 => some 28 | 29 => some 29
  | 30 => some 30 | 31 => some 31 | 32 => some 32 | 33 => some 33 | 34 => some 34 | 35 => some 35 | 36 => some 36 | 37 => some 37 | 38 => some 38 | 39 => some 39
  | _ => none
theorem litO_ok {n k : Nat} (h : litO n = some k) : n = k := by
  unfold litO at h
  split at h <;> first | (simp at h; done) | (exact Option.some.inj h)

def snocO {α : Type} : List α → α → Option (List α)
  | [], x => some [x]
  | y :: ys, x => match snocO ys x with
    | some l => some (y :: l)
    | none => none
theorem snocO_ok {α : Type} : ∀ {l : List α} {x : α} {r : List α}, snocO l x = some r → l ++ [x] = r
  | [], x, r, h => by simp [snocO] at h; simp [h]
  | y :: ys, x, r, h => by
    simp only [snocO] at h
    split at h
    · rename_i l hl; obtain rfl := Option.some.inj h; simp [snocO_ok hl]
    · simp at h

def appO {α : Type} : List α → List α → Option (List α)
  | [], r => some r
  | y :: ys, r => match appO ys r with
    | some l => some (y :: l)
    | none => none
theorem appO_ok {α : Type} : ∀ {l x r : List α}, appO l x = some r → l ++ x = r
  | [], x, r, h => by simp [appO] at h; simp [h]
  | y :: ys, x, r, h => by
    simp only [appO] at h
    split at h
    · rename_i l hl; obtain rfl := Option.some.inj h; simp [appO_ok hl]
    · simp at h

def takeO {α : Type} : Nat → List α → Option (List α)
  | 0, _ => some []
  | _ + 1, [] => some []
  | n + 1, x :: xs => match takeO n xs with
    | some l => some (x :: l)
    | none => none
theorem takeO_ok {α : Type} : ∀ {n : Nat} {l r : List α}, takeO n l = some r → l.take n = r
  | 0, l, r, h => by simp [takeO] at h; simp [h]
  | n + 1, [], r, h => by simp [takeO] at h; simp [h]
  | n + 1, x :: xs, r, h => by
    simp only [takeO] at h
    split at h
    · rename_i l hl; obtain rfl := Option.some.inj h; simp [takeO_ok hl]
    · simp at h

def dropO {α : Type} : Nat → List α → Option (List α)
  | 0, l => some l
  | _ + 1, [] => some []
  | n + 1, _ :: xs => dropO n xs
theorem dropO_ok {α : Type} : ∀ {n : Nat} {l r : List α}, dropO n l = some r → l.drop n = r
  | 0, l, r, h => by simp [dropO] at h; simp [h]
  | n + 1, [], r, h => by simp [dropO] at h; simp [h]
  | n + 1, x :: xs, r, h => by simp only [dropO] at h; simpa using dropO_ok h

/-- m cells from o on. -/
def dtO (c : List V) (o m : Nat) : Option (List V) := match dropO o c with
  | some l => takeO m l
  | none => none
theorem dtO_ok {c r : List V} {o m : Nat} (h : dtO c o m = some r) : (c.drop o).take m = r := by
  unfold dtO at h
  split at h
  · rename_i l hl; rw [dropO_ok hl, takeO_ok h]
  · simp at h

/-- n cells from o on replaced. -/
def setO (c : List V) (o : Nat) (w : List V) (n : Nat) : Option (List V) := match takeO o c, dropO (o + n) c with
  | some a, some b => (match appO w b with
    | some r => appO a r
    | none => none)
  | _, _ => none
theorem setO_ok {c w r : List V} {o n : Nat} (h : setO c o w n = some r) : c.take o ++ w ++ c.drop (o + n) = r := by
  unfold setO at h
  split at h
  · rename_i a b ha hb
    split at h
    · rename_i l hl
      rw [takeO_ok ha, dropO_ok hb, List.append_assoc, appO_ok hl, appO_ok h]
    · simp at h
  · simp at h

def cellsO : V → Option (List V)
  | .agg cs => some cs
  | .int k n => some [.int k n]
  | .bool b => some [.bool b]
  | .str s => some [.str s]
  | .ptr i o => some [.ptr i o]
  | .sl i o n => some [.sl i o n]
  | .nils => some [.nils]
  | .nilp => some [.nilp]
  | .emp => some [.emp]
  | .fn f c => some [.fn f c]
  | .bfn f c => some [.bfn f c]
  | .nilf => some [.nilf]
  | _ => none
theorem cellsO_ok {v : V} {l : List V} (h : cellsO v = some l) : v.cells = l := by
  cases v <;> simp [cellsO] at h <;> simp [V.cells, h]

def layO : List V → List (Nat × Nat × V) → Option (List V)
  | z, [] => some z
  | z, (o, n, v) :: r => match cellsO v with
    | some w => if w.length = n ∧ o + n ≤ z.length ∧ v.isAny = false then (match setO z o w n with
      | some z' => layO z' r
      | none => none) else none
    | none => none
theorem layO_ok : ∀ {ps : List (Nat × Nat × V)} {z r : List V}, layO z ps = some r → lay z ps = some r
  | [], z, r, h => by simpa [layO, lay] using h
  | (o, n, v) :: ps, z, r, h => by
    simp only [layO] at h
    split at h
    · rename_i w hw
      split at h
      · rename_i hc
        split at h
        · rename_i z' hz
          simp only [lay, cellsO_ok hw, if_pos hc, setO_ok hz]
          exact layO_ok h
        · simp at h
      · simp at h
    · simp at h

def updO (b' : Blk) (i o : Nat) : Nat → List Blk → Option (List Blk)
  | _, [] => some []
  | j, ⟨c, es, cl, pr, lit⟩ :: h => match updO b' i o (j + 1) h with
    | some r => if j = i then some (b' :: r) else if cl = b'.cl then
        (match lit with
        | true => (match takeO o c with
          | some c' => some (⟨c', es, cl, pr, true⟩ :: r)
          | none => none)
        | false => some (⟨c.take o, es, cl, pr, false⟩ :: r))
      else some (⟨c, es, cl, pr, lit⟩ :: r)
    | none => none
theorem updO_ok {b' : Blk} {i o : Nat} : ∀ {h r : List Blk} {j : Nat}, updO b' i o j h = some r → upd b' i o j h = r
  | [], r, j, h => by simp [updO] at h; simp [upd, h]
  | ⟨c, es, cl, pr, lit⟩ :: hs, r, j, h => by
    simp only [updO] at h
    split at h
    · rename_i r' hr
      simp only [upd, updO_ok hr]
      split at h
      · rename_i hj; rw [if_pos hj]; exact Option.some.inj h
      · rename_i hj; rw [if_neg hj]
        split at h
        · rename_i hc; rw [if_pos hc]
          split at h
          · split at h
            · rename_i c' hc'; obtain rfl := Option.some.inj h; rw [takeO_ok hc']
            · simp at h
          · exact Option.some.inj h
        · rename_i hc; rw [if_neg hc]; exact Option.some.inj h
    · simp at h

mutual
def renO (f : Nat → Option Nat) : V → Option V
  | .ptr i o => (match f i with | some j => some (.ptr j o) | none => none)
  | .sl i o n => (match f i with | some j => some (.sl j o n) | none => none)
  | .fn g cs => (match renLO f cs with | some l => some (.fn g l) | none => none)
  | .agg cs => (match renLO f cs with | some l => some (.agg l) | none => none)
  | .tup cs => (match renLO f cs with | some l => some (.tup l) | none => none)
  | .int k n => some (.int k n)
  | .bool b => some (.bool b)
  | .str s => some (.str s)
  | .nils => some .nils
  | .nilp => some .nilp
  | .emp => some .emp
  | .nilf => some .nilf
  | .undef => some .undef
  | .any => some .any
  | .bfn g cs => (match renLO f cs with | some l => some (.bfn g l) | none => none)
def renLO (f : Nat → Option Nat) : List V → Option (List V)
  | [] => some []
  | v :: vs => (match renO f v, renLO f vs with
    | some w, some ws => some (w :: ws)
    | _, _ => none)
end
mutual
theorem renO_ok {f : Nat → Option Nat} {g : Nat → Nat} (hfg : ∀ i j, f i = some j → g i = j) : ∀ {v w : V}, renO f v = some w → v.ren g = w
  | .int _ _, w, h | .bool _, w, h | .str _, w, h | .nils, w, h | .nilp, w, h | .emp, w, h | .nilf, w, h | .undef, w, h | .any, w, h => by
    simp only [renO, Option.some.injEq] at h; simp only [V.ren]; exact h
  | .ptr i o, w, h => by
    simp only [renO] at h; split at h
    · rename_i j hj; obtain rfl := Option.some.inj h; simp only [V.ren, hfg i j hj]
    · simp at h
  | .sl i o n, w, h => by
    simp only [renO] at h; split at h
    · rename_i j hj; obtain rfl := Option.some.inj h; simp only [V.ren, hfg i j hj]
    · simp at h
  | .fn x cs, w, h => by
    simp only [renO] at h; split at h
    · rename_i l hl; obtain rfl := Option.some.inj h; simp only [V.ren, renLO_ok hfg hl]
    · simp at h
  | .bfn x cs, w, h => by
    simp only [renO] at h; split at h
    · rename_i l hl; obtain rfl := Option.some.inj h; simp only [V.ren, renLO_ok hfg hl]
    · simp at h
  | .agg cs, w, h => by
    simp only [renO] at h; split at h
    · rename_i l hl; obtain rfl := Option.some.inj h; simp only [V.ren, renLO_ok hfg hl]
    · simp at h
  | .tup cs, w, h => by
    simp only [renO] at h; split at h
    · rename_i l hl; obtain rfl := Option.some.inj h; simp only [V.ren, renLO_ok hfg hl]
    · simp at h
theorem renLO_ok {f : Nat → Option Nat} {g : Nat → Nat} (hfg : ∀ i j, f i = some j → g i = j) : ∀ {v w : List V}, renLO f v = some w → V.renL g v = w
  | [], w, h => by simp only [renLO, Option.some.injEq] at h; simp only [V.renL]; exact h
  | v :: vs, w, h => by
    simp only [renLO] at h; split at h
    · rename_i a b ha hb; obtain rfl := Option.some.inj h; simp only [V.renL, renO_ok hfg ha, renLO_ok hfg hb]
    · simp at h
end

def posO : List Nat → Nat → Option Nat
  | L, i => litO (pos L i)
theorem posO_ok (L : List Nat) : ∀ i j, posO L i = some j → pos L i = j := fun i j h => litO_ok h
def unrenO (L : List Nat) (n : Nat) (i : Nat) : Option Nat := litO (unren L n i)
theorem unrenO_ok (L : List Nat) (n : Nat) : ∀ i j, unrenO L n i = some j → unren L n i = j := fun i j h => litO_ok h

/-- A block's content under new numbers. -/
def renBO (f : Nat → Option Nat) (lit : Bool) (c : List V) : Option (List V) := match lit with
  | true => renLO f c
  | false => some c
theorem renBO_ok {f : Nat → Option Nat} {g : Nat → Nat} (hfg : ∀ i j, f i = some j → g i = j) {b : Blk} {c : List V} (h : renBO f b.lit b.c = some c) : b.ren g = { b with c := c } := by
  obtain ⟨c0, es, cl, pr, lit⟩ := b
  cases lit
  · simp [renBO] at h; simp [Blk.ren, h]
  · simp only [renBO] at h; simp [Blk.ren, renLO_ok hfg h]

def reachO (h : List Blk) : Nat → List Nat → List Nat → Option (List Nat)
  | 0, _, acc => some acc
  | _ + 1, [], acc => some acc
  | k + 1, i :: todo, acc =>
    match acc.contains i with
    | true => reachO h k todo acc
    | false => match snocO acc i with
      | some acc' => (match h[i]? with
        | some b => reachO h k (b.ids ++ todo) acc'
        | none => reachO h k todo acc')
      | none => none
theorem reachO_ok {h : List Blk} : ∀ {k : Nat} {todo acc r : List Nat}, reachO h k todo acc = some r → reach h k todo acc = r
  | 0, todo, acc, r, e => by simpa [reachO, reach] using e
  | k + 1, [], acc, r, e => by simpa [reachO, reach] using e
  | k + 1, i :: todo, acc, r, e => by
    simp only [reachO] at e
    simp only [reach]
    split at e
    · rename_i hc; rw [if_pos hc]; exact reachO_ok e
    · rename_i hc
      rw [if_neg (by rw [hc]; simp)]
      split at e
      · rename_i acc' ha
        split at e
        · rename_i b hb; rw [snocO_ok ha, hb]; exact reachO_ok e
        · rename_i hb; rw [snocO_ok ha, hb]; exact reachO_ok e
      · simp at e

/-- No other block of the class is there. -/
def noOth (h : List Blk) (L : List Nat) (cl : Nat) : Nat → Bool
  | 0 => true
  | j + 1 => match h[j]? with
    | some b => (match Nat.beq b.cl cl && !L.contains j with
      | true => false
      | false => noOth h L cl j)
    | none => noOth h L cl j
theorem noOth_ok {h : List Blk} {L : List Nat} {cl : Nat} : ∀ {j : Nat}, noOth h L cl j = true → others h L cl j = 0
  | 0, _ => rfl
  | j + 1, e => by
    simp only [noOth] at e
    simp only [others]
    split at e
    · rename_i b hb
      rw [hb]; simp only
      split at e
      · simp at e
      · rename_i hc
        rw [if_neg]
        · exact noOth_ok e
        · rintro ⟨rfl, h2⟩
          have : (Nat.beq b.cl b.cl) = true := by simp
          rw [this, Bool.true_and] at hc
          exact h2 (by simpa using hc)
    · rename_i hb; rw [hb]; exact noOth_ok e
def othO (h : List Blk) (L : List Nat) (cl : Nat) : Nat → Option Nat
  | 0 => some 0
  | j + 1 => match h[j]? with
    | some b => (match Nat.beq b.cl cl && !L.contains j with
      | true => (match othO h L cl j with
        | some r => some (max b.c.length r)
        | none => none)
      | false => othO h L cl j)
    | none => othO h L cl j
theorem othO_ok {h : List Blk} {L : List Nat} {cl : Nat} : ∀ {j r : Nat}, othO h L cl j = some r → others h L cl j = r
  | 0, r, e => by simpa [othO, others] using e
  | j + 1, r, e => by
    simp only [othO] at e
    simp only [others]
    split at e
    · rename_i b hb
      rw [hb]; simp only
      split at e
      · rename_i hc
        rw [Bool.and_eq_true] at hc
        rw [if_pos ⟨Nat.eq_of_beq_eq_true hc.1, by simpa using hc.2⟩]
        split at e
        · rename_i r' hr; rw [othO_ok hr]; exact Option.some.inj e
        · simp at e
      · rename_i hc
        rw [if_neg]
        · exact othO_ok e
        · rintro ⟨rfl, h2⟩
          have : (Nat.beq b.cl b.cl) = true := by simp
          rw [this, Bool.true_and] at hc
          exact h2 (by simpa using hc)
    · rename_i hb; rw [hb]; exact othO_ok e

def subO (h : List Blk) (L : List Nat) (call : Bool) : List Nat → Option (List Blk)
  | [] => some []
  | i :: r => match h[i]? with
    | some ⟨c, es, cl, pr, lit⟩ => (match renBO (posO L) lit c, litO (clsIdx h cl L), subO h L call r with
      | some c', some cl', some rest => (match call with
        | false => some (⟨c', es, cl', pr, lit⟩ :: rest)
        | true => (match pr with
          | none => some (⟨c', es, cl', none, lit⟩ :: rest)
          | some p => (match noOth h L cl h.length with
            | true => some (⟨c', es, cl', some p, lit⟩ :: rest)
            | false => (match othO h L cl h.length with
              | some q => some (⟨c', es, cl', some (max p q), lit⟩ :: rest)
              | none => none))))
      | _, _, _ => none)
    | none => subO h L call r
theorem subO_ok {h : List Blk} {L : List Nat} {call : Bool} : ∀ {l : List Nat} {r : List Blk}, subO h L call l = some r → sub h L call l = r
  | [], r, e => by simpa [subO, sub] using e
  | i :: l, r, e => by
    simp only [subO] at e
    simp only [sub]
    split at e
    · rename_i c es cl pr lit hb
      rw [hb]
      simp only
      split at e
      · rename_i c' cl' rest hc hcl hr
        rw [subO_ok hr]
        have := renBO_ok (b := ⟨c, es, cl, pr, lit⟩) (posO_ok L) hc
        rw [this, litO_ok hcl]
        split at e
        · obtain rfl := Option.some.inj e; simp
        · split at e
          · obtain rfl := Option.some.inj e; simp
          · split at e
            · rename_i ho; obtain rfl := Option.some.inj e; simp [noOth_ok ho]
            · split at e
              · rename_i q hq; obtain rfl := Option.some.inj e; simp [othO_ok hq]
              · simp at e
      · simp at e
    · rename_i hb; rw [hb]; exact subO_ok e

def mergeOldO (h0 : List Blk) (L : List Nat) (n : Nat) : List Blk → List Nat → List Blk → Option (List Blk)
  | h, [], _ => some h
  | h, i :: r, ⟨c, es, _, _, lit⟩ :: bs => match h0[i]? with
    | some ⟨_, _, cl, pr, _⟩ => (match renBO (unrenO L n) lit c with
      | some c' => mergeOldO h0 L n (setBlk h i ⟨c', es, cl, pr, lit⟩) r bs
      | none => none)
    | none => some h
  | h, _ :: _, [] => some h
theorem mergeOldO_ok {h0 : List Blk} {L : List Nat} {n : Nat} : ∀ {l : List Nat} {bs h r : List Blk}, mergeOldO h0 L n h l bs = some r → mergeOld h0 L n h l bs = r
  | [], bs, h, r, e => by simpa [mergeOldO, mergeOld] using e
  | i :: l, [], h, r, e => by simpa [mergeOldO, mergeOld] using e
  | i :: l, ⟨c, es, cl0, pr0, lit⟩ :: bs, h, r, e => by
    simp only [mergeOldO] at e
    simp only [mergeOld]
    split at e
    · rename_i c1 es1 cl pr lit1 hb
      rw [hb]; simp only
      split at e
      · rename_i c' hc
        rw [renBO_ok (b := ⟨c, es, cl0, pr0, lit⟩) (unrenO_ok L n) hc]
        exact mergeOldO_ok e
      · simp at e
    · rename_i hb; rw [hb]; exact Option.some.inj e

def mergeNewO (h0 : List Blk) (L : List Nat) (n : Nat) : List Blk → Option (List Blk)
  | [] => some []
  | ⟨c, es, cl, pr, lit⟩ :: bs => match renBO (unrenO L n) lit c, litO (match L[cl]? with
      | some i => (match h0[i]? with | some o => o.cl | none => 0)
      | none => n + (cl - L.length)), mergeNewO h0 L n bs with
    | some c', some cl', some r => some (⟨c', es, cl', pr, lit⟩ :: r)
    | _, _, _ => none
theorem mergeNewO_ok {h0 : List Blk} {L : List Nat} {n : Nat} : ∀ {bs r : List Blk}, mergeNewO h0 L n bs = some r → mergeNew h0 L n bs = r
  | [], r, e => by simpa [mergeNewO, mergeNew] using e
  | ⟨c, es, cl, pr, lit⟩ :: bs, r, e => by
    simp only [mergeNewO] at e
    simp only [mergeNew]
    split at e
    · rename_i c' cl' r' hc hcl hr
      obtain rfl := Option.some.inj e
      rw [renBO_ok (b := ⟨c, es, cl, pr, lit⟩) (unrenO_ok L n) hc, mergeNewO_ok hr]
      exact congrArg (fun z => (⟨c', es, z, pr, lit⟩ : Blk) :: r') (litO_ok hcl)
    · simp at e

def forceO : List Blk → Option (List Blk)
  | [] => some []
  | ⟨c, es, cl, pr, lit⟩ :: r => match forceO r with
    | some r' => some (⟨c, es, cl, pr, lit⟩ :: r')
    | none => none
theorem forceO_ok : ∀ {l r : List Blk}, forceO l = some r → l = r
  | [], r, e => by simpa [forceO] using e
  | ⟨c, es, cl, pr, lit⟩ :: l, r, e => by
    simp only [forceO] at e
    split at e
    · rename_i r' hr; obtain rfl := Option.some.inj e; rw [forceO_ok hr]
    · simp at e

def mergeO (h : List Blk) (L : List Nat) (H1 : List Blk) : Option (List Blk) :=
  match mergeOldO h L h.length h L (H1.take L.length), mergeNewO h L h.length (H1.drop L.length) with
  | some a, some b => (match forceO a with
    | some a' => appO a' b
    | none => none)
  | _, _ => none
theorem mergeO_ok {h H1 r : List Blk} {L : List Nat} (e : mergeO h L H1 = some r) : merge h L H1 = r := by
  unfold mergeO at e
  split at e
  · rename_i a b ha hb
    split at e
    · rename_i a' ha'
      unfold merge
      rw [mergeOldO_ok ha, mergeNewO_ok hb, forceO_ok ha', appO_ok e]
    · simp at e
  · simp at e
end Go.Proofs.Ytokoboflpaklaaa.Mi
namespace Go.Proofs.Ytokoboflpaklaaa.Mi
open Go
section
variable {C : Cx} {N k : Nat} {e : Env} {h : Heap} {A : List Ans} {K : Ex → Env → Heap → List Ans → Prop} {Q : Env → Heap → List Ans → Prop} {P : V → Heap → List Ans → Prop} {os : List GOp} {dd : Option Nat}

theorem c_skip {Lp : Loops'} (k : K .normal e h A) : code (Ev C) Lp .skip e h A K := k
theorem c_seq {Lp : Loops'} {a b : MC} (k : code (Ev C) Lp a e h A (seqK (fun e' h' A' => code (Ev C) Lp b e' h' A' K) K)) : code (Ev C) Lp (.seq a b) e h A K := k
theorem c_condT {Lp : Loops'} {c : X} {a b : MC} (hc : c.ev e = some (.bool true)) (k : code (Ev C) Lp a e h A K) : code (Ev C) Lp (.cond c a b) e h A K := by
  simp only [code, hc]; exact k
theorem c_condF {Lp : Loops'} {c : X} {a b : MC} (hc : c.ev e = some (.bool false)) (k : code (Ev C) Lp b e h A K) : code (Ev C) Lp (.cond c a b) e h A K := by
  simp only [code, hc]; exact k
theorem c_condTH {Lp : Loops'} {c : X} {a b : MC} {t : Bool} (hc : c.ev e = some (.bool t)) (ht : t = true) (k : code (Ev C) Lp a e h A K) : code (Ev C) Lp (.cond c a b) e h A K := c_condT (ht ▸ hc) k
theorem c_condFH {Lp : Loops'} {c : X} {a b : MC} {t : Bool} (hc : c.ev e = some (.bool t)) (ht : t = false) (k : code (Ev C) Lp b e h A K) : code (Ev C) Lp (.cond c a b) e h A K := c_condF (ht ▸ hc) k
theorem c_cond {Lp : Loops'} {c : X} {a b : MC} {t : Bool} {A1 A2 : List Ans} (hc : c.ev e = some (.bool t)) (k1 : t = true → code (Ev C) Lp a e h A1 K) (k2 : t = false → code (Ev C) Lp b e h A2 K) :
    code (Ev C) Lp (.cond c a b) e h (if t then A1 else A2) K := by
  cases t
  · exact c_condF hc (k2 rfl)
  · exact c_condT hc (k1 rfl)
theorem c_block {Lp : Loops'} {id : Nat} {b : MC} (k : code (Ev C) Lp b e h A (blockK id K)) : code (Ev C) Lp (.block id b) e h A K := k
theorem c_loop {b : MC} {x : Ex} {e1 e' : Env} {h1 h' : Heap} (hl : LpS C N k b e1 h1 x e' h') (hk : cmpk k e h e1 h1) (q : K x e' h' A) : code (Ev C) (LpS C N k) (.loop b) e h (.lp x e' h' :: A) K := ⟨hl.cmp hk, q⟩
theorem c_exit {Lp : Loops'} {id : Nat} (k : K (.exit id) e h A) : code (Ev C) Lp (.exit id) e h A K := k
theorem c_ret {Lp : Loops'} (k : K .ret e h A) : code (Ev C) Lp .ret e h A K := k
theorem c_region {Lp : Loops'} {ops : List GOp} (k : opsK (Ev C) ops e h A (K .normal)) : code (Ev C) Lp (.region ops false) e h A K := k
theorem c_draw {Lp : Loops'} {ops : List GOp} (k : opsDK (Ev C) ops e h A (K .normal)) : code (Ev C) Lp (.region ops true) e h A K := k
theorem k_seqN {n : Env → Heap → List Ans → Prop} (k : n e h A) : seqK n K .normal e h A := k
theorem k_seqX {n : Env → Heap → List Ans → Prop} {i : Nat} (k : K (.exit i) e h A) : seqK n K (.exit i) e h A := k
theorem k_seqR {n : Env → Heap → List Ans → Prop} (k : K .ret e h A) : seqK n K .ret e h A := k
theorem k_blkN {i : Nat} (k : K .normal e h A) : blockK i K .normal e h A := k
theorem k_blkR {i : Nat} (k : K .ret e h A) : blockK i K .ret e h A := k
theorem k_blkX {i : Nat} (k : K .normal e h A) : blockK i K (.exit i) e h A := by
  simp only [blockK, if_true]; exact k
theorem k_blkY {i j : Nat} (hi : (j == i) = false) (k : K (.exit j) e h A) : blockK i K (.exit j) e h A := by
  simp only [blockK, if_neg (by simpa using hi)]; exact k

theorem o_nil (k : Q e h A) : opsK (Ev C) [] e h A Q := k
theorem o_none {op : MOp} (k : opK (Ev C) op e h A (fun r h' A' => opsK (Ev C) os (put dd r e) h' A' Q)) : opsK (Ev C) (⟨op, dd, none⟩ :: os) e h A Q := k
theorem o_yes {op : MOp} {t : Nat} {w : Bool} (hg : get e t = some (.bool w)) (k : opK (Ev C) op e h A (fun r h' A' => opsK (Ev C) os (put dd r e) h' A' Q)) :
    opsK (Ev C) (⟨op, dd, some (t, w)⟩ :: os) e h A Q := by
  simp only [opsK, gopK, hg, if_true]; exact k
theorem o_no {op : MOp} {t : Nat} {w : Bool} (hg : get e t = some (.bool (!w))) (k : opsK (Ev C) os (put dd .undef e) h A Q) :
    opsK (Ev C) (⟨op, dd, some (t, w)⟩ :: os) e h A Q := by
  have hn : ¬ ((!w) = w) := by cases w <;> simp
  simp only [opsK, gopK, hg, if_neg hn]; exact k
theorem o_und {op : MOp} {t : Nat} {w : Bool} (hg : get e t = some .undef) (k : opsK (Ev C) os (put dd .undef e) h A Q) :
    opsK (Ev C) (⟨op, dd, some (t, w)⟩ :: os) e h A Q := by
  simp only [opsK, gopK, hg]; exact k
theorem o_yesH {op : MOp} {t : Nat} {w c : Bool} (hg : get e t = some (.bool c)) (hc : c = w) (k : opK (Ev C) op e h A (fun r h' A' => opsK (Ev C) os (put dd r e) h' A' Q)) :
    opsK (Ev C) (⟨op, dd, some (t, w)⟩ :: os) e h A Q := o_yes (hc ▸ hg) k
theorem o_noH {op : MOp} {t : Nat} {w c : Bool} (hg : get e t = some (.bool c)) (hc : c = !w) (k : opsK (Ev C) os (put dd .undef e) h A Q) :
    opsK (Ev C) (⟨op, dd, some (t, w)⟩ :: os) e h A Q := o_no (hc ▸ hg) k
theorem o_split {op : MOp} {t : Nat} {w c : Bool} {A1 A2 : List Ans} (hg : get e t = some (.bool c)) (k1 : c = true → opsK (Ev C) (⟨op, dd, some (t, w)⟩ :: os) e h A1 Q)
    (k2 : c = false → opsK (Ev C) (⟨op, dd, some (t, w)⟩ :: os) e h A2 Q) : opsK (Ev C) (⟨op, dd, some (t, w)⟩ :: os) e h (if c then A1 else A2) Q := by
  cases c
  · exact k2 rfl
  · exact k1 rfl

theorem Ext.refl (h : Heap) : Ext h h := ⟨[], by simp, by simp⟩
theorem Ext.one {h h' : Heap} {b : Blk} (hh : h' = h ++ [b]) (hb : b.cl = h.length) (hp : b.pr.isSome = true) : Ext h h' := by
  subst hh; exact ⟨[b], rfl, by simp [hb, hp]⟩

theorem d_nil (k : Q e h A) : opsDK (Ev C) [] e h A Q := k
/-- An operation that leaves memory as it is. -/
theorem d_none {op : MOp} (k : opK (Ev C) op e h A (fun r h' A' => (okIds dd (put dd r e) h' = true ∧ (isW op = false → Ext h h')) ∧ opsDK (Ev C) os (put dd r e) h' A' Q)) : opsDK (Ev C) (⟨op, dd, none⟩ :: os) e h A Q := k
theorem d_yes {op : MOp} {t : Nat} {w : Bool} (hg : get e t = some (.bool w)) (k : opK (Ev C) op e h A (fun r h' A' => (okIds dd (put dd r e) h' = true ∧ (isW op = false → Ext h h')) ∧ opsDK (Ev C) os (put dd r e) h' A' Q)) :
    opsDK (Ev C) (⟨op, dd, some (t, w)⟩ :: os) e h A Q := by
  simp only [opsDK, gopK, hg, if_true]; exact k
theorem d_no {op : MOp} {t : Nat} {w : Bool} (hg : get e t = some (.bool (!w))) (k : opsDK (Ev C) os (put dd .undef e) h A Q) :
    opsDK (Ev C) (⟨op, dd, some (t, w)⟩ :: os) e h A Q := by
  have hn : ¬ ((!w) = w) := by cases w <;> simp
  simp only [opsDK, gopK, hg, if_neg hn]; exact ⟨⟨by cases dd <;> simp [okIds, put, get, V.ids], fun _ => Ext.refl h⟩, k⟩
theorem d_yesH {op : MOp} {t : Nat} {w c : Bool} (hg : get e t = some (.bool c)) (hc : c = w) (k : opK (Ev C) op e h A (fun r h' A' => (okIds dd (put dd r e) h' = true ∧ (isW op = false → Ext h h')) ∧ opsDK (Ev C) os (put dd r e) h' A' Q)) :
    opsDK (Ev C) (⟨op, dd, some (t, w)⟩ :: os) e h A Q := d_yes (hc ▸ hg) k
theorem d_noH {op : MOp} {t : Nat} {w c : Bool} (hg : get e t = some (.bool c)) (hc : c = !w) (k : opsDK (Ev C) os (put dd .undef e) h A Q) :
    opsDK (Ev C) (⟨op, dd, some (t, w)⟩ :: os) e h A Q := d_no (hc ▸ hg) k
theorem d_split {op : MOp} {t : Nat} {w c : Bool} {A1 A2 : List Ans} (hg : get e t = some (.bool c)) (k1 : c = true → opsDK (Ev C) (⟨op, dd, some (t, w)⟩ :: os) e h A1 Q)
    (k2 : c = false → opsDK (Ev C) (⟨op, dd, some (t, w)⟩ :: os) e h A2 Q) : opsDK (Ev C) (⟨op, dd, some (t, w)⟩ :: os) e h (if c then A1 else A2) Q := by
  cases c
  · exact k2 rfl
  · exact k1 rfl
theorem d_und {op : MOp} {t : Nat} {w : Bool} (hg : get e t = some .undef) (k : opsDK (Ev C) os (put dd .undef e) h A Q) :
    opsDK (Ev C) (⟨op, dd, some (t, w)⟩ :: os) e h A Q := by
  simp only [opsDK, gopK, hg]; exact ⟨⟨by cases dd <;> simp [okIds, put, get, V.ids], fun _ => Ext.refl h⟩, k⟩
theorem d_same {op : MOp} {r : V} (ho : okIds dd (put dd r e) h = true) (k : opsDK (Ev C) os (put dd r e) h A Q) : (okIds dd (put dd r e) h = true ∧ (isW op = false → Ext h h)) ∧ opsDK (Ev C) os (put dd r e) h A Q := ⟨⟨ho, fun _ => Ext.refl h⟩, k⟩
theorem d_one {op : MOp} {r : V} {b : Blk} {h' : Heap} (ho : okIds dd (put dd r e) h' = true) (hh : h' = h ++ [b]) (hb : b.cl = h.length) (hp : b.pr.isSome = true) (k : opsDK (Ev C) os (put dd r e) h' A Q) : (okIds dd (put dd r e) h' = true ∧ (isW op = false → Ext h h')) ∧ opsDK (Ev C) os (put dd r e) h' A Q :=
  ⟨⟨ho, fun _ => Ext.one hh hb hp⟩, k⟩
theorem d_two {op : MOp} {r : V} {b c : Blk} {h' : Heap} (ho : okIds dd (put dd r e) h' = true) (hh : h' = h ++ [b, c]) (hb : b.cl = h.length) (hp : b.pr.isSome = true) (hb' : Nat.ble h.length c.cl = true) (hb2 : Nat.blt c.cl (h.length + 2) = true) (hp' : c.pr.isSome = true)
    (k : opsDK (Ev C) os (put dd r e) h' A Q) : (okIds dd (put dd r e) h' = true ∧ (isW op = false → Ext h h')) ∧ opsDK (Ev C) os (put dd r e) h' A Q := by
  have h1 := Nat.le_of_ble_eq_true hb'
  have h2 : c.cl < h.length + 2 := by simpa using hb2
  subst hh; exact ⟨⟨ho, fun _ => ⟨[b, c], rfl, by simp [hb, hp, hp']; omega⟩⟩, k⟩
theorem d_write {op : MOp} {r : V} {h' : Heap} (ho : okIds dd (put dd r e) h' = true) (hw : isW op = true) (k : opsDK (Ev C) os (put dd r e) h' A Q) : (okIds dd (put dd r e) h' = true ∧ (isW op = false → Ext h h')) ∧ opsDK (Ev C) os (put dd r e) h' A Q :=
  ⟨⟨ho, fun hn => by rw [hw] at hn; exact absurd hn (by simp)⟩, k⟩

section
variable {x y : X} {v a b : V}
theorem p_mov (hx : x.ev e = some v) (k : P v h A) : opK (Ev C) (.mov x) e h A P := by
  simp only [opK, hx]; exact k
theorem p_pickT {c : X} (hc : c.ev e = some (.bool true)) (hx : x.ev e = some v) (k : P v h A) : opK (Ev C) (.pick c x y) e h A P := by
  simp only [opK, hc, hx]; exact k
theorem p_pickF {c : X} (hc : c.ev e = some (.bool false)) (hy : y.ev e = some v) (k : P v h A) : opK (Ev C) (.pick c x y) e h A P := by
  simp only [opK, hc, hy]; exact k
theorem p_pickTH {c : X} {t : Bool} (hc : c.ev e = some (.bool t)) (ht : t = true) (hx : x.ev e = some v) (k : P v h A) : opK (Ev C) (.pick c x y) e h A P := p_pickT (ht ▸ hc) hx k
theorem p_pickFH {c : X} {t : Bool} (hc : c.ev e = some (.bool t)) (ht : t = false) (hy : y.ev e = some v) (k : P v h A) : opK (Ev C) (.pick c x y) e h A P := p_pickF (ht ▸ hc) hy k
theorem p_pickB {c : X} {t p q : Bool} (hc : c.ev e = some (.bool t)) (hx : x.ev e = some (.bool p)) (hy : y.ev e = some (.bool q)) (k : P (.bool (if t then p else q)) h A) : opK (Ev C) (.pick c x y) e h A P := by
  cases t
  · exact p_pickF hc hy k
  · exact p_pickT hc hx k
theorem p_alloc {z : List V} {h' : Heap} (hh : h ++ [⟨z, 1, h.length, some 0, true⟩] = h') (k : P (.ptr h.length 0) h' A) : opK (Ev C) (.alloc z) e h A P := by
  subst hh; simp only [opK]; exact k
theorem p_box {h' : Heap} (hx : x.ev e = some v) (hat : v.cells.all V.atom = true) (hh : h ++ [⟨v.cells, 1, h.length, some 0, true⟩] = h') (k : P (.ptr h.length 0) h' A) : opK (Ev C) (.box x) e h A P := by
  subst hh; simp only [opK, hx]; exact ⟨hat, k⟩
theorem p_build {z : List V} {ps : List (Nat × Nat × X)} {vs : List (Nat × Nat × V)} {cs : List V} (hp : pevs e ps = some vs) (hl : lay z vs = some cs) (k : P (.agg cs) h A) : opK (Ev C) (.build z ps) e h A P := by
  simp only [opK, hp, hl]; exact k
theorem p_bslice {es n : Nat} {z : List V} {ps : List (Nat × Nat × X)} {vs : List (Nat × Nat × V)} {cs : List V} {h' : Heap} (hp : pevs e ps = some vs) (hl : lay z vs = some cs) (hat : cs.all V.atom = true)
    (hh : h ++ [⟨cs, es, h.length, some 0, true⟩] = h') (k : P (.sl h.length 0 n) h' A) : opK (Ev C) (.bslice es z n ps) e h A P := by
  subst hh; simp only [opK, hp, hl]; exact ⟨hat, k⟩
theorem p_empt (k : P .emp h A) : opK (Ev C) .empt e h A P := by
  simp only [opK]; exact k
theorem p_load1 {i o : Nat} {bk : Blk} (hx : x.ev e = some (.ptr i o)) (hb : h[i]? = some bk) (hl : bk.lit = true) (hv : bk.c[o]? = some v) (k : P v h A) : opK (Ev C) (.load none x) e h A P := by
  simp only [opK, hx, hb, hv, if_pos hl]; exact k
theorem p_loadN {i o m : Nat} {bk : Blk} {l : List V} (hx : x.ev e = some (.ptr i o)) (hb : h[i]? = some bk) (hl : bk.lit = true) (hm : Nat.ble (o + m) bk.c.length = true) (hv : (bk.c.drop o).take m = l)
    (k : P (.agg l) h A) : opK (Ev C) (.load (some m) x) e h A P := by
  subst hv; simp only [opK, hx, hb, if_pos hl]; exact ⟨Nat.le_of_ble_eq_true hm, k⟩
/-- A load from a list that is told by a function. -/
theorem p_loadS {i o : Nat} {bk : Blk} (hx : x.ev e = some (.ptr i o)) (hb : h[i]? = some bk) (hl : bk.lit = false) (hv : bk.c[o]? = some v) (k : P v h A) : opK (Ev C) (.load none x) e h (.cs [v] :: A) P := by
  have hl' : ¬ (bk.lit = true) := by rw [hl]; simp
  simp only [opK, hx, hb, if_neg hl']; exact ⟨hv, k⟩
theorem p_loadSN {i o m : Nat} {bk : Blk} {l : List V} (hx : x.ev e = some (.ptr i o)) (hb : h[i]? = some bk) (hl : bk.lit = false) (hv : l.length = m ∧ o + m ≤ bk.c.length ∧ (bk.c.drop o).take m = l) (k : P (.agg l) h A) :
    opK (Ev C) (.load (some m) x) e h (.cs l :: A) P := by
  have hl' : ¬ (bk.lit = true) := by rw [hl]; simp
  simp only [opK, hx, hb, if_neg hl']; exact ⟨hv, k⟩
theorem p_store {i o n p : Nat} {bk : Blk} {h' : Heap} (ha : x.ev e = some (.ptr i o)) (hx : y.ev e = some v) (hb : h[i]? = some bk) (hp : bk.pr = some p) (hl : bk.lit = true)
    (hc : v.cells.length = n ∧ v.cells.all V.atom = true ∧ Nat.ble p o = true ∧ Nat.ble (o + n) bk.c.length = true) (hh : upd { bk with c := bk.c.take o ++ v.cells ++ bk.c.drop (o + n) } i o 0 h = h') (k : P .undef h' A) :
    opK (Ev C) (.store n x y) e h A P := by
  subst hh; obtain ⟨c, es, cl, pr, lit⟩ := bk; simp only at hp hl hc k; subst hp hl
  simp only [opK, ha, hx, hb, if_true]; exact ⟨⟨hc.1, hc.2.1, Nat.le_of_ble_eq_true hc.2.2.1, Nat.le_of_ble_eq_true hc.2.2.2⟩, k⟩
theorem p_storeS {i o n p : Nat} {bk : Blk} {h' : Heap} {l : List V} (ha : x.ev e = some (.ptr i o)) (hx : y.ev e = some v) (hb : h[i]? = some bk) (hp : bk.pr = some p) (hl : bk.lit = false)
    (hc : v.cells.length = n ∧ v.cells.all V.atom = true ∧ p ≤ o ∧ o + n ≤ bk.c.length) (hf : flatL v.cells = true) (hcs : bk.c.take o ++ v.cells ++ bk.c.drop (o + n) = l) (hh : upd { bk with c := l } i o 0 h = h')
    (k : P .undef h' A) : opK (Ev C) (.store n x y) e h (.cs l :: A) P := by
  subst hh; obtain ⟨c, es, cl, pr, lit⟩ := bk; simp only at hp hl hc hcs k; subst hp hl
  simp only [opK, ha, hx, hb, Bool.false_eq_true, if_false]; exact ⟨hc, ⟨hf, hcs⟩, k⟩
theorem p_clear {es i o n p : Nat} {z : List V} {bk : Blk} {h' : Heap} {l : List V} (hx : x.ev e = some (.sl i o n)) (hb : h[i]? = some bk) (hp : bk.pr = some p) (hl : bk.lit = false)
    (hc : p ≤ o ∧ o + n * es ≤ bk.c.length) (hcs : bk.c.take o ++ (List.replicate n z).flatten ++ bk.c.drop (o + n * es) = l) (hh : upd { bk with c := l } i o 0 h = h')
    (k : P (.tup []) h' A) : opK (Ev C) (.clear es z x) e h (.cs l :: A) P := by
  subst hh; obtain ⟨c, es', cl, pr, lit⟩ := bk; simp only at hp hl hc hcs k; subst hp hl
  simp only [opK, hx, hb]; exact ⟨⟨⟨hc.1, hc.2, trivial⟩, hcs.symm⟩, k⟩
theorem p_bin {op : BinOp} {r : V} (hx : x.ev e = some a) (hy : y.ev e = some b) (hr : binV op a b = some r) (k : P r h A) : opK (Ev C) (.bin op x y) e h (.v r :: A) P := by
  simp only [opK, hx, hy]; exact ⟨hr, k⟩
theorem p_eqb {neg p q r : Bool} (hx : x.ev e = some (.bool p)) (hy : y.ev e = some (.bool q)) (hr : (p == q) = (r != neg)) (k : P (.bool r) h A) : opK (Ev C) (.eqb neg x y) e h (.v (.bool r) :: A) P := by
  simp only [opK, hx, hy]; exact ⟨hr, k⟩
theorem p_eqa {neg r : Bool} {n : Nat} {l m : List V} (hx : x.ev e = some (.agg l)) (hy : y.ev e = some (.agg m)) (hr : l.length = n ∧ m.length = n ∧ eqCells l m = some (r != neg)) (k : P (.bool r) h A) :
    opK (Ev C) (.eqa neg n x y) e h (.v (.bool r) :: A) P := by
  simp only [opK, hx, hy]; exact ⟨hr, k⟩
theorem p_isnilN {neg : Bool} (hx : x.ev e = some .nils) (k : P (.bool (!neg)) h A) : opK (Ev C) (.isnil neg x) e h A P := by
  simp only [opK, hx]; exact k
theorem p_isnilS {neg : Bool} {i o n : Nat} (hx : x.ev e = some (.sl i o n)) (k : P (.bool neg) h A) : opK (Ev C) (.isnil neg x) e h A P := by
  simp only [opK, hx]; exact k
theorem p_isnilE {neg : Bool} (hx : x.ev e = some .emp) (k : P (.bool neg) h A) : opK (Ev C) (.isnil neg x) e h A P := by
  simp only [opK, hx]; exact k
theorem p_not {p : Bool} (hx : x.ev e = some (.bool p)) (k : P (.bool !p) h A) : opK (Ev C) (.un .not x) e h A P := by
  simp only [opK, hx]; exact k
theorem p_un {op : UnOp} {kd : IntKind} {z : Int} {r : V} (hx : x.ev e = some (.int kd z)) (hr : unV op (.int kd z) = some r) (k : P r h A) : opK (Ev C) (.un op x) e h (.v r :: A) P := by
  simp only [opK, hx]; exact ⟨hr, k⟩
theorem p_conv {kd kd' : IntKind} {z r : Int} (hx : x.ev e = some (.int kd' z)) (hr : kd.wrap z = r) (k : P (.int kd r) h A) : opK (Ev C) (.conv kd x) e h (.v (.int kd r) :: A) P := by
  simp only [opK, hx]; exact ⟨⟨trivial, hr⟩, k⟩
theorem p_field1 {o : Nat} {cs : List V} (hx : x.ev e = some (.agg cs)) (hv : cs[o]? = some v) (k : P v h A) : opK (Ev C) (.field o none x) e h A P := by
  simp only [opK, hx, hv]; exact k
theorem p_fieldN {o m : Nat} {cs l : List V} (hx : x.ev e = some (.agg cs)) (hm : Nat.ble (o + m) cs.length = true) (hv : (cs.drop o).take m = l) (k : P (.agg l) h A) : opK (Ev C) (.field o (some m) x) e h A P := by
  subst hv; simp only [opK, hx]; exact ⟨Nat.le_of_ble_eq_true hm, k⟩
theorem p_fieldAddr {i o o' : Nat} (hx : x.ev e = some (.ptr i o')) (k : P (.ptr i (o' + o)) h A) : opK (Ev C) (.fieldAddr o x) e h A P := by
  simp only [opK, hx]; exact k
theorem p_indexAddr {es b o n : Nat} {kd : IntKind} {z : Int} (hx : x.ev e = some (.sl b o n)) (hi : y.ev e = some (.int kd z)) (hz : 0 ≤ z ∧ z < n) (k : P (.ptr b (o + z.toNat * es)) h A) : opK (Ev C) (.indexAddr es x y) e h A P := by
  simp only [opK, hx, hi]; exact ⟨hz, k⟩
/-- An element's address, told by a Nat. -/
theorem p_indexN {es b o n j o' : Nat} {kd : IntKind} {z : Int} (hx : x.ev e = some (.sl b o n)) (hi : y.ev e = some (.int kd z)) (hz : z = (j : Nat)) (hj : j < n) (ho : o + j * es = o') (k : P (.ptr b o') h A) :
    opK (Ev C) (.indexAddr es x y) e h A P := by
  subst hz ho
  exact p_indexAddr hx hi ⟨by omega, by omega⟩ (by simpa using k)
theorem p_slice {es i o n o' n' : Nat} {lo hi : Option X} {l u : List V} {p q : Int} {bk : Blk} (hx : x.ev e = some (.sl i o n)) (hl : evs e lo.toList = some l) (hu : evs e hi.toList = some u)
    (hp : l = [] ∧ p = 0 ∨ ∃ k, l = [.int k p]) (hq : u = [] ∧ q = n ∨ ∃ k, u = [.int k q]) (hc : 0 ≤ p ∧ p ≤ q ∧ q ≤ n ∧ o' = o + p.toNat * es ∧ (n' : Int) = q - p) (hb : h[i]? = some bk) (he : bk.es = es)
    (k : P (.sl i o' n') h A) : opK (Ev C) (.slice es x lo hi) e h (.v (.sl i o' n') :: A) P := by
  simp only [opK, hx, hl, hu]; exact ⟨⟨p, q, hp, hq, hc.1, hc.2.1, hc.2.2.1, trivial, hc.2.2.2.1, hc.2.2.2.2, bk, hb, he⟩, k⟩
theorem p_slice0N (hx : x.ev e = some .nils) (k : P .nils h A) : opK (Ev C) (.slice0 x) e h A P := by
  simp only [opK, hx]; exact k
theorem p_slice0S {i o n : Nat} (hx : x.ev e = some (.sl i o n)) (k : P .emp h A) : opK (Ev C) (.slice0 x) e h A P := by
  simp only [opK, hx]; exact k
theorem p_slice0E (hx : x.ev e = some .emp) (k : P .emp h A) : opK (Ev C) (.slice0 x) e h A P := by
  simp only [opK, hx]; exact k
theorem p_make {es by_ : Nat} {z : List V} {n : X} {m : Int} {l : List V} {h' : Heap} {mm : Nat} (hn : n.ev e = some (.int .i64 m)) (hm : m = (mm : Nat)) (hb : (mm : Int) * by_ ≤ 140737488355328) (hl : l = (List.replicate mm z).flatten)
    (hh : h ++ [⟨l, es, h.length, some 0, false⟩] = h') (k : P (.sl h.length 0 mm) h' A) : opK (Ev C) (.make es by_ z n) e h (.cs l :: A) P := by
  subst hh hm; simp only [opK, hn]; exact ⟨⟨⟨by omega, hb⟩, by simpa using hl⟩, by simpa using k⟩
theorem p_extract {i : Nat} {vs : List V} (hx : x.ev e = some (.tup vs)) (hv : vs[i]? = some v) (k : P v h A) : opK (Ev C) (.extract x i) e h A P := by
  simp only [opK, hx, hv]; exact k
theorem p_mkfn {f : Nat} {caps : List X} {vs : List V} (hx : evs e caps = some vs) (k : P (.fn f vs) h A) : opK (Ev C) (.mkfn f caps) e h A P := by
  simp only [opK, hx]; exact k
theorem p_lenS {i o n : Nat} (hx : x.ev e = some (.sl i o n)) (k : P (.int .i64 n) h A) : opK (Ev C) (.len x) e h A P := by
  simp only [opK, hx]; exact k
theorem p_lenN (hx : x.ev e = some .nils) (k : P (.int .i64 0) h A) : opK (Ev C) (.len x) e h A P := by
  simp only [opK, hx]; exact k
theorem p_lenE (hx : x.ev e = some .emp) (k : P (.int .i64 0) h A) : opK (Ev C) (.len x) e h A P := by
  simp only [opK, hx]; exact k
theorem p_nilckP {i o : Nat} (hx : x.ev e = some (.ptr i o)) (k : P (.ptr i o) h A) : opK (Ev C) (.nilck x) e h A P := by
  simp only [opK, hx]; exact k
theorem p_mkbfn {f : Nat} {caps : List X} {vs : List V} (hx : evs e caps = some vs) (k : P (.bfn f vs) h A) : opK (Ev C) (.mkbfn f caps) e h A P := by
  simp only [opK, hx]; exact k
theorem p_nilckF {f : Nat} {cs : List V} (hx : x.ev e = some (.fn f cs)) (k : P (.fn f cs) h A) : opK (Ev C) (.nilck x) e h A P := by
  simp only [opK, hx]; exact k
theorem p_mm {mx : Bool} {xs : List X} {kd : IntKind} {z w r : Int} (hx : evs e xs = some [.int kd z, .int kd w]) (hr : r = if mx then (if w > z then w else z) else (if w < z then w else z)) (k : P (.int kd r) h A) :
    opK (Ev C) (.mm mx xs) e h (.v (.int kd r) :: A) P := by
  simp only [opK, hx]; exact ⟨⟨by first | rfl | trivial, by first | rfl | trivial, hr⟩, k⟩

/-- An append to nothing. -/
theorem p_app0 {es by_ m : Nat} {l : List V} {h' : Heap} (hx : x.ev e = some a) (ha : rowOf h es a = some ([], 0)) (hn : a = .nils ∨ a = .emp) (hy : y.ev e = some b) (hb : rowOf h es b = some (l, m))
    (hl : l.length = m * es ∧ m * by_ ≤ 140737488355328 ∧ 0 < m) (hf : flatL l = true ∨ ∃ i o bk, y.ev e = some (.sl i o m) ∧ h[i]? = some bk ∧ bk.lit = false)
    (hh : h ++ [⟨l, es, h.length, some 0, false⟩] = h') (k : P (.sl h.length 0 m) h' A) : opK (Ev C) (.append es by_ x y) e h (.cs l :: A) P := by
  subst hh
  simp only [opK, hx, hy, ha, hb]
  refine ⟨⟨⟨by simp, by simp, hl.1, by simpa using hl.2.1⟩, by rw [hy] at hf; exact hf⟩, ?_⟩
  have h0 : ¬ m = 0 := by omega
  rcases hn with rfl | rfl
  · show (if m = 0 then _ else _); rw [if_neg h0]; exact k
  · show (if m = 0 then _ else _); rw [if_neg h0]; exact k
/-- An append of nothing to nothing. -/
theorem p_appE {es by_ : Nat} (hx : x.ev e = some a) (hn : a = .nils ∨ a = .emp) (hy : y.ev e = some b) (hb : rowOf h es b = some ([], 0)) (k : P a h A) : opK (Ev C) (.append es by_ x y) e h (.cs [] :: A) P := by
  have ha : rowOf h es a = some ([], 0) := by rcases hn with rfl | rfl <;> rfl
  simp only [opK, hx, hy, ha, hb]
  refine ⟨⟨⟨by simp, by simp, by simp, by omega⟩, .inl rfl⟩, ?_⟩
  rcases hn with rfl | rfl
  · exact k
  · exact k
/-- An append to a list. -/
theorem p_app {es by_ n m i p : Nat} {l1 l2 l : List V} {bi : Blk} {h' : Heap} (hx : x.ev e = some (.sl i 0 n)) (hy : y.ev e = some b) (hi : h[i]? = some bi) (h1 : (bi.c.drop 0).take (n * es) = l1) (hb : rowOf h es b = some (l2, m))
    (hp : bi.pr = some p) (hl : l = l1 ++ l2 ∧ l1.length = n * es ∧ l2.length = m * es ∧ (n + m) * by_ ≤ 140737488355328) (hf : flatL l2 = true ∨ ∃ i o bk, y.ev e = some (.sl i o m) ∧ h[i]? = some bk ∧ bk.lit = false)
    (hc : p ≤ n * es ∧ bi.es = es ∧ bi.lit = false) (hes : Nat.ble 1 es = true) (hh : upd { bi with c := l1 } i (n * es) 0 h ++ [⟨l, es, bi.cl, some p, false⟩] = h') (k : P (.sl h.length 0 (n + m)) h' A) :
    opK (Ev C) (.append es by_ x y) e h (.cs l :: A) P := by
  subst hh h1
  obtain ⟨c, es', cl, pr, lit⟩ := bi
  simp only at hp hl hc hf k
  subst hp
  obtain ⟨h9, hc2, h8⟩ := hc
  subst hc2
  have ha : rowOf h es' (.sl i 0 n) = some ((c.drop 0).take (n * es'), n) := by
    simp only [rowOf, hi]
    cases es' with
    | zero => simp at hes
    | succ q => rfl
  simp only [opK, hx, hy, ha, hb, hi]
  exact ⟨⟨hl, by rw [hy] at hf; exact hf⟩, ⟨trivial, h9, trivial, h8⟩, k⟩

theorem callK_in {f : Nat} {vs : List V} {L : List Nat} {r : V} {H1 : List Blk} {w : List V} {H0 : List Blk} {hr : List Blk} {rr : V}
    (hL : reach h fuel (V.idsL vs) [] = L)
    (hw : V.renL (pos L) vs = w) (h0 : sub h L true L = H0) (hcall : Ev C f w H0 r H1)
    (hc : closed h L L = true ∧ distinct L = true ∧ (V.idsL vs).all (fun j => L.contains j) = true ∧ Nat.ble L.length H1.length = true) (hm : merge h L H1 = hr) (hrr : r.ren (unren L h.length) = rr)
    (q : P rr hr A) : callK (Ev C) f vs h (.call r H1 :: A) (fun r h A' => P r h A') := by
  subst hw h0 hm hrr hL
  exact ⟨⟨hc.1, hc.2.1, hc.2.2.1, Nat.le_of_ble_eq_true hc.2.2.2⟩, hcall, q⟩
theorem p_call {f : Nat} {as : List X} {vs : List V} {L : List Nat} {r : V} {H1 : List Blk} {w : List V} {H0 : List Blk} {hr : List Blk} {rr : V}
    (ha : evs e as = some vs) (hL : reach h fuel (V.idsL vs) [] = L)
    (hw : V.renL (pos L) vs = w) (h0 : sub h L true L = H0) (hcall : Ev C f w H0 r H1)
    (hc : closed h L L = true ∧ distinct L = true ∧ (V.idsL vs).all (fun j => L.contains j) = true ∧ Nat.ble L.length H1.length = true) (hm : merge h L H1 = hr) (hrr : r.ren (unren L h.length) = rr)
    (q : P rr hr A) : opK (Ev C) (.call f as) e h (.call r H1 :: A) P := by
  simp only [opK, ha]; exact callK_in hL hw h0 hcall hc hm hrr q
theorem p_callv {f : Nat} {as : List X} {vs caps : List V} {L : List Nat} {r : V} {H1 : List Blk} {w : List V} {H0 : List Blk} {hr : List Blk} {rr : V}
    (hx : x.ev e = some (.fn f caps)) (ha : evs e as = some vs) (hL : reach h fuel (V.idsL (vs ++ caps)) [] = L)
    (hw : V.renL (pos L) (vs ++ caps) = w) (h0 : sub h L true L = H0) (hcall : Ev C f w H0 r H1)
    (hc : closed h L L = true ∧ distinct L = true ∧ (V.idsL (vs ++ caps)).all (fun j => L.contains j) = true ∧ Nat.ble L.length H1.length = true) (hm : merge h L H1 = hr) (hrr : r.ren (unren L h.length) = rr)
    (q : P rr hr A) : opK (Ev C) (.callv x as) e h (.call r H1 :: A) P := by
  simp only [opK, hx, ha]; exact callK_in hL hw h0 hcall hc hm hrr q
theorem p_callb {f : Nat} {as : List X} {vs caps : List V} {L : List Nat} {r : V} {H1 : List Blk} {w : List V} {H0 : List Blk} {hr : List Blk} {rr : V}
    (hx : x.ev e = some (.bfn f caps)) (ha : evs e as = some vs) (hL : reach h fuel (V.idsL (caps ++ vs)) [] = L)
    (hw : V.renL (pos L) (caps ++ vs) = w) (h0 : sub h L true L = H0) (hcall : Ev C f w H0 r H1)
    (hc : closed h L L = true ∧ distinct L = true ∧ (V.idsL (caps ++ vs)).all (fun j => L.contains j) = true ∧ Nat.ble L.length H1.length = true) (hm : merge h L H1 = hr) (hrr : r.ren (unren L h.length) = rr)
    (q : P rr hr A) : opK (Ev C) (.callv x as) e h (.call r H1 :: A) P := by
  simp only [opK, hx, ha]; exact callK_in hL hw h0 hcall hc hm hrr q
end

mutual
theorem V.ren_id : ∀ (f : Nat → Nat) (v : V), v.ids = [] → v.ren f = v
  | _, .int _ _, _ | _, .bool _, _ | _, .str _, _ | _, .nils, _ | _, .nilp, _ | _, .emp, _ | _, .nilf, _ | _, .undef, _ | _, .any, _ => by simp [V.ren]
  | _, .ptr _ _, h => by simp [V.ids] at h
  | _, .sl _ _ _, h => by simp [V.ids] at h
  | f, .fn g cs, h => by simp only [V.ren]; rw [V.renL_id f cs (by simpa [V.ids] using h)]
  | f, .bfn g cs, h => by simp only [V.ren]; rw [V.renL_id f cs (by simpa [V.ids] using h)]
  | f, .agg cs, h => by simp only [V.ren]; rw [V.renL_id f cs (by simpa [V.ids] using h)]
  | f, .tup cs, h => by simp only [V.ren]; rw [V.renL_id f cs (by simpa [V.ids] using h)]
theorem V.renL_id : ∀ (f : Nat → Nat) (vs : List V), V.idsL vs = [] → V.renL f vs = vs
  | _, [], _ => rfl
  | f, v :: vs, h => by
    simp only [V.idsL, List.append_eq_nil_iff] at h
    simp only [V.renL]; rw [V.ren_id f v h.1, V.renL_id f vs h.2]
end
/-- A call that names no block. -/
theorem p_call0 {f : Nat} {as : List X} {vs : List V} {r : V} (ha : evs e as = some vs) (hcall : Ev C f vs [] r []) (hn : V.idsL vs = []) (hr : r.ids = [])
    (q : P r h A) : opK (Ev C) (.call f as) e h (.call r [] :: A) P := by
  refine p_call ha (L := []) (by rw [hn]; rfl) (V.renL_id _ _ hn) rfl hcall ⟨rfl, rfl, by rw [hn]; rfl, rfl⟩ ?_ (V.ren_id _ _ hr) q
  simp [merge, mergeOld, mergeNew]

/-- The end of a body. -/
theorem fin_ok {n : Nat} {rs : List RV} {r r0 r1 : V} {h1 h' : Heap} {x : Ex} {L : List Nat} (hx : x = .normal ∨ x = .ret) (hr : resK rs e h1 = some r0) (hL : keepL n h1 r0.ids = L)
    (hc : closed h1 L L = true ∧ distinct L = true ∧ r0.ids.all (fun j => L.contains j) = true) (h2 : r0.ren (pos L) = r1) (h3 : sub h1 L false L = h') (h4 : r1 = r) : fin n rs r h' x e h1 [] := by
  subst hL h4 h2 h3
  exact ⟨⟨rfl, hx⟩, r0, hr, hc, rfl, rfl⟩

/-- What is known of a function of the program. -/
structure Has (C : Cx) (f N : Nat) (mc : MC) (rv : List RV) : Prop where
  ok : ∃ (fn : Func) (c : Code), C.P.funcs[C.ρ f]? = some fn ∧ (fn.name == "runtime.NumGoroutine") = false ∧ fn.body = some c ∧ fn.ntmps = N ∧ cC C N c = some mc ∧ mapO (cRV C) fn.results.toList = some rv

theorem Has.ev {f N : Nat} {mc : MC} {rv : List RV} (H : Has C f N mc rv) {args : List V} {r : V} {h' : Heap} (A : List Ans) (hN : Nat.ble args.length N = true) (hcan : canonB h = true)
    (hk : code (Ev C) (LpS C N h.length) mc (envOf 0 args) h A (fin h.length rv r h')) : Ev C f args h r h' := by
  obtain ⟨fn, c, h1, h2, h3, h4, h5, h6⟩ := H.ok
  subst h4
  exact ev_intro A h1 h2 h3 h5 h6 (Nat.le_of_ble_eq_true hN) hcan hk

/-! ### Numbers -/
theorem wrap_id {z : Int} (h1 : -9223372036854775808 ≤ z) (h2 : z < 9223372036854775808) : IntKind.wrap .i64 z = z := by
  rw [IntKind.wrap_i64]; omega
theorem w_u64 {z : Int} (h1 : 0 ≤ z) (h2 : z < 18446744073709551616) : IntKind.wrap .u64 z = z := by
  simp only [IntKind.wrap, IntKind.bits, IntKind.signed, Bool.false_and, Bool.false_eq_true, if_false]; omega
theorem b_add {x y : Int} (h1 : -9223372036854775808 ≤ x + y) (h2 : x + y < 9223372036854775808) : binV .add (.int .i64 x) (.int .i64 y) = some (.int .i64 (x + y)) := by
  simp only [binV, ne_eq, not_true, if_false]; rw [wrap_id h1 h2]
theorem b_sub {x y : Int} (h1 : -9223372036854775808 ≤ x - y) (h2 : x - y < 9223372036854775808) : binV .sub (.int .i64 x) (.int .i64 y) = some (.int .i64 (x - y)) := by
  simp only [binV, ne_eq, not_true, if_false]; rw [wrap_id h1 h2]
theorem b_mul {x y : Int} (h1 : -9223372036854775808 ≤ x * y) (h2 : x * y < 9223372036854775808) : binV .mul (.int .i64 x) (.int .i64 y) = some (.int .i64 (x * y)) := by
  simp only [binV, ne_eq, not_true, if_false]; rw [wrap_id h1 h2]
theorem wrapN {n : Nat} (h : n < 9223372036854775808) : IntKind.wrap .i64 (n : Int) = n := wrap_id (by omega) (by omega)
theorem toB {w n : Nat} (h : n < 2 ^ w) : (BitVec.ofInt w (n : Int)).toNat = n := by
  rw [BitVec.ofInt_natCast, BitVec.toNat_ofNat, Nat.mod_eq_of_lt h]
theorem andB {w x y : Nat} (h1 : x < 2 ^ w) (h2 : y < 2 ^ w) : (BitVec.ofInt w (x : Int) &&& BitVec.ofInt w (y : Int)).toNat = x &&& y := by
  rw [BitVec.toNat_and, toB h1, toB h2]
theorem orB {w x y : Nat} (h1 : x < 2 ^ w) (h2 : y < 2 ^ w) : (BitVec.ofInt w (x : Int) ||| BitVec.ofInt w (y : Int)).toNat = x ||| y := by
  rw [BitVec.toNat_or, toB h1, toB h2]
theorem xorB {w x y : Nat} (h1 : x < 2 ^ w) (h2 : y < 2 ^ w) : (BitVec.ofInt w (x : Int) ^^^ BitVec.ofInt w (y : Int)).toNat = x ^^^ y := by
  rw [BitVec.toNat_xor, toB h1, toB h2]
theorem lt64 {x : Nat} (h : x < 9223372036854775808) : x < 2 ^ IntKind.i64.bits := by simp only [IntKind.bits]; omega
theorem b_and {x y : Nat} (h1 : x < 9223372036854775808) (h2 : y < 9223372036854775808) : binV .and (.int .i64 x) (.int .i64 y) = some (.int .i64 ((x &&& y : Nat) : Int)) := by
  have : x &&& y < 9223372036854775808 := Nat.lt_of_le_of_lt Nat.and_le_left h1
  show some (V.int .i64 (IntKind.wrap .i64 ((BitVec.ofInt IntKind.i64.bits (x : Int) &&& BitVec.ofInt IntKind.i64.bits (y : Int)).toNat : Int))) = _
  rw [andB (lt64 h1) (lt64 h2), wrapN this]
theorem b_or {x y : Nat} (h1 : x < 9223372036854775808) (h2 : y < 9223372036854775808) : binV .or (.int .i64 x) (.int .i64 y) = some (.int .i64 ((x ||| y : Nat) : Int)) := by
  have : x ||| y < 9223372036854775808 := Nat.or_lt_two_pow (n := 63) h1 h2
  show some (V.int .i64 (IntKind.wrap .i64 ((BitVec.ofInt IntKind.i64.bits (x : Int) ||| BitVec.ofInt IntKind.i64.bits (y : Int)).toNat : Int))) = _
  rw [orB (lt64 h1) (lt64 h2), wrapN this]
theorem b_xor {x y : Nat} (h1 : x < 9223372036854775808) (h2 : y < 9223372036854775808) : binV .xor (.int .i64 x) (.int .i64 y) = some (.int .i64 ((x ^^^ y : Nat) : Int)) := by
  have : x ^^^ y < 9223372036854775808 := Nat.xor_lt_two_pow (n := 63) h1 h2
  show some (V.int .i64 (IntKind.wrap .i64 ((BitVec.ofInt IntKind.i64.bits (x : Int) ^^^ BitVec.ofInt IntKind.i64.bits (y : Int)).toNat : Int))) = _
  rw [xorB (lt64 h1) (lt64 h2), wrapN this]
theorem minN {k : IntKind} {y : Nat} (h : y ≤ 8) : min ((y : Int).toNat) k.bits = y := by cases k <;> simp [IntKind.bits] <;> omega
theorem minN64 {y : Nat} (h : y ≤ 64) : min ((y : Int).toNat) IntKind.i64.bits = y := by simp [IntKind.bits]; omega
theorem b_shr {k' : IntKind} {x y : Nat} (h : y ≤ 64) : binV .shr (.int .i64 x) (.int k' y) = some (.int .i64 ((x >>> y : Nat) : Int)) := by
  simp only [binV]
  rw [if_neg (by omega), minN64 h, Nat.shiftRight_eq_div_pow, Int.fdiv_eq_ediv_of_nonneg _ (Int.pow_nonneg (by omega))]
  simp
theorem b_shl {k' : IntKind} {x y : Nat} (h : x <<< y < 9223372036854775808) (hy : y ≤ 64): binV .shl (.int .i64 x) (.int k' y) = some (.int .i64 ((x <<< y : Nat) : Int)) := by
  simp only [binV]
  rw [if_neg (by omega)]
  have : min ((y : Int).toNat) IntKind.i64.bits = y := by simp [IntKind.bits]; omega
  rw [this]
  have e0 : (x : Int) * 2 ^ y = ((x <<< y : Nat) : Int) := by rw [Nat.shiftLeft_eq]; simp
  rw [e0, wrapN h]
end
end Go.Proofs.Ytokoboflpaklaaa.Mi
set_option linter.unusedVariables false
namespace Go.Proofs.Ytokoboflpaklaaa.Mi
open Go
section
variable {C : Cx} {N k : Nat} {e : Env} {h : Heap} {K : Ex → Env → Heap → List Ans → Prop} {Q : Env → Heap → List Ans → Prop} {P : V → Heap → List Ans → Prop} {os : List GOp} {dd : Option Nat}
variable {x y : X} {v a b : V}
theorem ec_skip {Lp : Loops'} (k : ∃ A, K .normal e h A) : ∃ A, code (Ev C) Lp .skip e h A K := by
  obtain ⟨A, k⟩ := k
  exact ⟨_, c_skip k⟩

theorem ec_seq {Lp : Loops'} {a b : MC} (k : ∃ A, code (Ev C) Lp a e h A (seqK (fun e' h' A' => code (Ev C) Lp b e' h' A' K) K)) : ∃ A, code (Ev C) Lp (.seq a b) e h A K := by
  obtain ⟨A, k⟩ := k
  exact ⟨_, c_seq k⟩

theorem ec_condT {Lp : Loops'} {c : X} {a b : MC} (hc : c.ev e = some (.bool true)) (k : ∃ A, code (Ev C) Lp a e h A K) : ∃ A, code (Ev C) Lp (.cond c a b) e h A K := by
  obtain ⟨A, k⟩ := k
  exact ⟨_, c_condT hc k⟩

theorem ec_condF {Lp : Loops'} {c : X} {a b : MC} (hc : c.ev e = some (.bool false)) (k : ∃ A, code (Ev C) Lp b e h A K) : ∃ A, code (Ev C) Lp (.cond c a b) e h A K := by
  obtain ⟨A, k⟩ := k
  exact ⟨_, c_condF hc k⟩

theorem ec_condTH {Lp : Loops'} {c : X} {a b : MC} {t : Bool} (hc : c.ev e = some (.bool t)) (ht : t = true) (k : ∃ A, code (Ev C) Lp a e h A K) : ∃ A, code (Ev C) Lp (.cond c a b) e h A K := by
  obtain ⟨A, k⟩ := k
  exact ⟨_, c_condTH hc ht k⟩

theorem ec_condFH {Lp : Loops'} {c : X} {a b : MC} {t : Bool} (hc : c.ev e = some (.bool t)) (ht : t = false) (k : ∃ A, code (Ev C) Lp b e h A K) : ∃ A, code (Ev C) Lp (.cond c a b) e h A K := by
  obtain ⟨A, k⟩ := k
  exact ⟨_, c_condFH hc ht k⟩

theorem ec_block {Lp : Loops'} {id : Nat} {b : MC} (k : ∃ A, code (Ev C) Lp b e h A (blockK id K)) : ∃ A, code (Ev C) Lp (.block id b) e h A K := by
  obtain ⟨A, k⟩ := k
  exact ⟨_, c_block k⟩

theorem ec_loop {b : MC} {x : Ex} {e1 e' : Env} {h1 h' : Heap} (hl : LpS C N k b e1 h1 x e' h') (hk : cmpk k e h e1 h1) (q : ∃ A, K x e' h' A) : ∃ A, code (Ev C) (LpS C N k) (.loop b) e h A K := by
  obtain ⟨A, q⟩ := q
  exact ⟨_, c_loop hl hk q⟩

theorem ec_exit {Lp : Loops'} {id : Nat} (k : ∃ A, K (.exit id) e h A) : ∃ A, code (Ev C) Lp (.exit id) e h A K := by
  obtain ⟨A, k⟩ := k
  exact ⟨_, c_exit k⟩

theorem ec_ret {Lp : Loops'} (k : ∃ A, K .ret e h A) : ∃ A, code (Ev C) Lp .ret e h A K := by
  obtain ⟨A, k⟩ := k
  exact ⟨_, c_ret k⟩

theorem ec_region {Lp : Loops'} {ops : List GOp} (k : ∃ A, opsK (Ev C) ops e h A (K .normal)) : ∃ A, code (Ev C) Lp (.region ops false) e h A K := by
  obtain ⟨A, k⟩ := k
  exact ⟨_, c_region k⟩

theorem ec_draw {Lp : Loops'} {ops : List GOp} (k : ∃ A, opsDK (Ev C) ops e h A (K .normal)) : ∃ A, code (Ev C) Lp (.region ops true) e h A K := by
  obtain ⟨A, k⟩ := k
  exact ⟨_, c_draw k⟩

theorem ek_seqN {n : Env → Heap → List Ans → Prop} (k : ∃ A, n e h A) : ∃ A, seqK n K .normal e h A := by
  obtain ⟨A, k⟩ := k
  exact ⟨_, k_seqN k⟩

theorem ek_seqX {n : Env → Heap → List Ans → Prop} {i : Nat} (k : ∃ A, K (.exit i) e h A) : ∃ A, seqK n K (.exit i) e h A := by
  obtain ⟨A, k⟩ := k
  exact ⟨_, k_seqX k⟩

theorem ek_seqR {n : Env → Heap → List Ans → Prop} (k : ∃ A, K .ret e h A) : ∃ A, seqK n K .ret e h A := by
  obtain ⟨A, k⟩ := k
  exact ⟨_, k_seqR k⟩

theorem ek_blkN {i : Nat} (k : ∃ A, K .normal e h A) : ∃ A, blockK i K .normal e h A := by
  obtain ⟨A, k⟩ := k
  exact ⟨_, k_blkN k⟩

theorem ek_blkR {i : Nat} (k : ∃ A, K .ret e h A) : ∃ A, blockK i K .ret e h A := by
  obtain ⟨A, k⟩ := k
  exact ⟨_, k_blkR k⟩

theorem ek_blkX {i : Nat} (k : ∃ A, K .normal e h A) : ∃ A, blockK i K (.exit i) e h A := by
  obtain ⟨A, k⟩ := k
  exact ⟨_, k_blkX k⟩

theorem ek_blkY {i j : Nat} (hi : (j == i) = false) (k : ∃ A, K (.exit j) e h A) : ∃ A, blockK i K (.exit j) e h A := by
  obtain ⟨A, k⟩ := k
  exact ⟨_, k_blkY hi k⟩

theorem eo_nil (k : ∃ A, Q e h A) : ∃ A, opsK (Ev C) [] e h A Q := by
  obtain ⟨A, k⟩ := k
  exact ⟨_, o_nil k⟩

theorem eo_none {op : MOp} (k : ∃ A, opK (Ev C) op e h A (fun r h' A' => opsK (Ev C) os (put dd r e) h' A' Q)) : ∃ A, opsK (Ev C) (⟨op, dd, none⟩ :: os) e h A Q := by
  obtain ⟨A, k⟩ := k
  exact ⟨_, o_none k⟩

theorem eo_yes {op : MOp} {t : Nat} {w : Bool} (hg : get e t = some (.bool w)) (k : ∃ A, opK (Ev C) op e h A (fun r h' A' => opsK (Ev C) os (put dd r e) h' A' Q)) : ∃ A, opsK (Ev C) (⟨op, dd, some (t, w)⟩ :: os) e h A Q := by
  obtain ⟨A, k⟩ := k
  exact ⟨_, o_yes hg k⟩

theorem eo_no {op : MOp} {t : Nat} {w : Bool} (hg : get e t = some (.bool (!w))) (k : ∃ A, opsK (Ev C) os (put dd .undef e) h A Q) : ∃ A, opsK (Ev C) (⟨op, dd, some (t, w)⟩ :: os) e h A Q := by
  obtain ⟨A, k⟩ := k
  exact ⟨_, o_no hg k⟩

theorem eo_und {op : MOp} {t : Nat} {w : Bool} (hg : get e t = some .undef) (k : ∃ A, opsK (Ev C) os (put dd .undef e) h A Q) : ∃ A, opsK (Ev C) (⟨op, dd, some (t, w)⟩ :: os) e h A Q := by
  obtain ⟨A, k⟩ := k
  exact ⟨_, o_und hg k⟩

theorem eo_yesH {op : MOp} {t : Nat} {w c : Bool} (hg : get e t = some (.bool c)) (hc : c = w) (k : ∃ A, opK (Ev C) op e h A (fun r h' A' => opsK (Ev C) os (put dd r e) h' A' Q)) : ∃ A, opsK (Ev C) (⟨op, dd, some (t, w)⟩ :: os) e h A Q := by
  obtain ⟨A, k⟩ := k
  exact ⟨_, o_yesH hg hc k⟩

theorem eo_noH {op : MOp} {t : Nat} {w c : Bool} (hg : get e t = some (.bool c)) (hc : c = !w) (k : ∃ A, opsK (Ev C) os (put dd .undef e) h A Q) : ∃ A, opsK (Ev C) (⟨op, dd, some (t, w)⟩ :: os) e h A Q := by
  obtain ⟨A, k⟩ := k
  exact ⟨_, o_noH hg hc k⟩

theorem ed_nil (k : ∃ A, Q e h A) : ∃ A, opsDK (Ev C) [] e h A Q := by
  obtain ⟨A, k⟩ := k
  exact ⟨_, d_nil k⟩

theorem ed_none {op : MOp} (k : ∃ A, opK (Ev C) op e h A (fun r h' A' => (okIds dd (put dd r e) h' = true ∧ (isW op = false → Ext h h')) ∧ opsDK (Ev C) os (put dd r e) h' A' Q)) : ∃ A, opsDK (Ev C) (⟨op, dd, none⟩ :: os) e h A Q := by
  obtain ⟨A, k⟩ := k
  exact ⟨_, d_none k⟩

theorem ed_yes {op : MOp} {t : Nat} {w : Bool} (hg : get e t = some (.bool w)) (k : ∃ A, opK (Ev C) op e h A (fun r h' A' => (okIds dd (put dd r e) h' = true ∧ (isW op = false → Ext h h')) ∧ opsDK (Ev C) os (put dd r e) h' A' Q)) : ∃ A, opsDK (Ev C) (⟨op, dd, some (t, w)⟩ :: os) e h A Q := by
  obtain ⟨A, k⟩ := k
  exact ⟨_, d_yes hg k⟩

theorem ed_no {op : MOp} {t : Nat} {w : Bool} (hg : get e t = some (.bool (!w))) (k : ∃ A, opsDK (Ev C) os (put dd .undef e) h A Q) : ∃ A, opsDK (Ev C) (⟨op, dd, some (t, w)⟩ :: os) e h A Q := by
  obtain ⟨A, k⟩ := k
  exact ⟨_, d_no hg k⟩

theorem ed_yesH {op : MOp} {t : Nat} {w c : Bool} (hg : get e t = some (.bool c)) (hc : c = w) (k : ∃ A, opK (Ev C) op e h A (fun r h' A' => (okIds dd (put dd r e) h' = true ∧ (isW op = false → Ext h h')) ∧ opsDK (Ev C) os (put dd r e) h' A' Q)) : ∃ A, opsDK (Ev C) (⟨op, dd, some (t, w)⟩ :: os) e h A Q := by
  obtain ⟨A, k⟩ := k
  exact ⟨_, d_yesH hg hc k⟩

theorem ed_noH {op : MOp} {t : Nat} {w c : Bool} (hg : get e t = some (.bool c)) (hc : c = !w) (k : ∃ A, opsDK (Ev C) os (put dd .undef e) h A Q) : ∃ A, opsDK (Ev C) (⟨op, dd, some (t, w)⟩ :: os) e h A Q := by
  obtain ⟨A, k⟩ := k
  exact ⟨_, d_noH hg hc k⟩

theorem ed_und {op : MOp} {t : Nat} {w : Bool} (hg : get e t = some .undef) (k : ∃ A, opsDK (Ev C) os (put dd .undef e) h A Q) : ∃ A, opsDK (Ev C) (⟨op, dd, some (t, w)⟩ :: os) e h A Q := by
  obtain ⟨A, k⟩ := k
  exact ⟨_, d_und hg k⟩

theorem ed_same {op : MOp} {r : V} (ho : okIds dd (put dd r e) h = true) (k : ∃ A, opsDK (Ev C) os (put dd r e) h A Q) : ∃ A, (okIds dd (put dd r e) h = true ∧ (isW op = false → Ext h h)) ∧ opsDK (Ev C) os (put dd r e) h A Q := by
  obtain ⟨A, k⟩ := k
  exact ⟨_, d_same ho k⟩

theorem ed_one {op : MOp} {r : V} {b : Blk} {h' : Heap} (ho : okIds dd (put dd r e) h' = true) (hh : h' = h ++ [b]) (hb : b.cl = h.length) (hp : b.pr.isSome = true) (k : ∃ A, opsDK (Ev C) os (put dd r e) h' A Q) : ∃ A, (okIds dd (put dd r e) h' = true ∧ (isW op = false → Ext h h')) ∧ opsDK (Ev C) os (put dd r e) h' A Q := by
  obtain ⟨A, k⟩ := k
  exact ⟨_, d_one ho hh hb hp k⟩

theorem ed_two {op : MOp} {r : V} {b c : Blk} {h' : Heap} (ho : okIds dd (put dd r e) h' = true) (hh : h' = h ++ [b, c]) (hb : b.cl = h.length) (hp : b.pr.isSome = true) (hb' : Nat.ble h.length c.cl = true) (hb2 : Nat.blt c.cl (h.length + 2) = true) (hp' : c.pr.isSome = true) (k : ∃ A, opsDK (Ev C) os (put dd r e) h' A Q) : ∃ A, (okIds dd (put dd r e) h' = true ∧ (isW op = false → Ext h h')) ∧ opsDK (Ev C) os (put dd r e) h' A Q := by
  obtain ⟨A, k⟩ := k
  exact ⟨_, d_two ho hh hb hp hb' hb2 hp' k⟩

theorem ed_write {op : MOp} {r : V} {h' : Heap} (ho : okIds dd (put dd r e) h' = true) (hw : isW op = true) (k : ∃ A, opsDK (Ev C) os (put dd r e) h' A Q) : ∃ A, (okIds dd (put dd r e) h' = true ∧ (isW op = false → Ext h h')) ∧ opsDK (Ev C) os (put dd r e) h' A Q := by
  obtain ⟨A, k⟩ := k
  exact ⟨_, d_write ho hw k⟩

theorem ep_mov (hx : x.ev e = some v) (k : ∃ A, P v h A) : ∃ A, opK (Ev C) (.mov x) e h A P := by
  obtain ⟨A, k⟩ := k
  exact ⟨_, p_mov hx k⟩

theorem ep_pickT {c : X} (hc : c.ev e = some (.bool true)) (hx : x.ev e = some v) (k : ∃ A, P v h A) : ∃ A, opK (Ev C) (.pick c x y) e h A P := by
  obtain ⟨A, k⟩ := k
  exact ⟨_, p_pickT hc hx k⟩

theorem ep_pickF {c : X} (hc : c.ev e = some (.bool false)) (hy : y.ev e = some v) (k : ∃ A, P v h A) : ∃ A, opK (Ev C) (.pick c x y) e h A P := by
  obtain ⟨A, k⟩ := k
  exact ⟨_, p_pickF hc hy k⟩

theorem ep_pickTH {c : X} {t : Bool} (hc : c.ev e = some (.bool t)) (ht : t = true) (hx : x.ev e = some v) (k : ∃ A, P v h A) : ∃ A, opK (Ev C) (.pick c x y) e h A P := by
  obtain ⟨A, k⟩ := k
  exact ⟨_, p_pickTH hc ht hx k⟩

theorem ep_pickFH {c : X} {t : Bool} (hc : c.ev e = some (.bool t)) (ht : t = false) (hy : y.ev e = some v) (k : ∃ A, P v h A) : ∃ A, opK (Ev C) (.pick c x y) e h A P := by
  obtain ⟨A, k⟩ := k
  exact ⟨_, p_pickFH hc ht hy k⟩

theorem ep_pickB {c : X} {t p q : Bool} (hc : c.ev e = some (.bool t)) (hx : x.ev e = some (.bool p)) (hy : y.ev e = some (.bool q)) (k : ∃ A, P (.bool (if t then p else q)) h A) : ∃ A, opK (Ev C) (.pick c x y) e h A P := by
  obtain ⟨A, k⟩ := k
  exact ⟨_, p_pickB hc hx hy k⟩

theorem ep_alloc {z : List V} {h' : Heap} (hh : h ++ [⟨z, 1, h.length, some 0, true⟩] = h') (k : ∃ A, P (.ptr h.length 0) h' A) : ∃ A, opK (Ev C) (.alloc z) e h A P := by
  obtain ⟨A, k⟩ := k
  exact ⟨_, p_alloc hh k⟩

theorem ep_box {h' : Heap} (hx : x.ev e = some v) (hat : v.cells.all V.atom = true) (hh : h ++ [⟨v.cells, 1, h.length, some 0, true⟩] = h') (k : ∃ A, P (.ptr h.length 0) h' A) : ∃ A, opK (Ev C) (.box x) e h A P := by
  obtain ⟨A, k⟩ := k
  exact ⟨_, p_box hx hat hh k⟩

theorem ep_build {z : List V} {ps : List (Nat × Nat × X)} {vs : List (Nat × Nat × V)} {cs : List V} (hp : pevs e ps = some vs) (hl : lay z vs = some cs) (k : ∃ A, P (.agg cs) h A) : ∃ A, opK (Ev C) (.build z ps) e h A P := by
  obtain ⟨A, k⟩ := k
  exact ⟨_, p_build hp hl k⟩

theorem ep_bslice {es n : Nat} {z : List V} {ps : List (Nat × Nat × X)} {vs : List (Nat × Nat × V)} {cs : List V} {h' : Heap} (hp : pevs e ps = some vs) (hl : lay z vs = some cs) (hat : cs.all V.atom = true) (hh : h ++ [⟨cs, es, h.length, some 0, true⟩] = h') (k : ∃ A, P (.sl h.length 0 n) h' A) : ∃ A, opK (Ev C) (.bslice es z n ps) e h A P := by
  obtain ⟨A, k⟩ := k
  exact ⟨_, p_bslice hp hl hat hh k⟩

theorem ep_empt (k : ∃ A, P .emp h A) : ∃ A, opK (Ev C) .empt e h A P := by
  obtain ⟨A, k⟩ := k
  exact ⟨_, p_empt k⟩

theorem ep_load1 {i o : Nat} {bk : Blk} (hx : x.ev e = some (.ptr i o)) (hb : h[i]? = some bk) (hl : bk.lit = true) (hv : bk.c[o]? = some v) (k : ∃ A, P v h A) : ∃ A, opK (Ev C) (.load none x) e h A P := by
  obtain ⟨A, k⟩ := k
  exact ⟨_, p_load1 hx hb hl hv k⟩

theorem ep_loadN {i o m : Nat} {bk : Blk} {l : List V} (hx : x.ev e = some (.ptr i o)) (hb : h[i]? = some bk) (hl : bk.lit = true) (hm : Nat.ble (o + m) bk.c.length = true) (hv : (bk.c.drop o).take m = l) (k : ∃ A, P (.agg l) h A) : ∃ A, opK (Ev C) (.load (some m) x) e h A P := by
  obtain ⟨A, k⟩ := k
  exact ⟨_, p_loadN hx hb hl hm hv k⟩

theorem ep_loadS {i o : Nat} {bk : Blk} (hx : x.ev e = some (.ptr i o)) (hb : h[i]? = some bk) (hl : bk.lit = false) (hv : bk.c[o]? = some v) (k : ∃ A, P v h A) : ∃ A, opK (Ev C) (.load none x) e h A P := by
  obtain ⟨A, k⟩ := k
  exact ⟨_, p_loadS hx hb hl hv k⟩

theorem ep_loadSN {i o m : Nat} {bk : Blk} {l : List V} (hx : x.ev e = some (.ptr i o)) (hb : h[i]? = some bk) (hl : bk.lit = false) (hv : l.length = m ∧ o + m ≤ bk.c.length ∧ (bk.c.drop o).take m = l) (k : ∃ A, P (.agg l) h A) : ∃ A, opK (Ev C) (.load (some m) x) e h A P := by
  obtain ⟨A, k⟩ := k
  exact ⟨_, p_loadSN hx hb hl hv k⟩

theorem ep_store {i o n p : Nat} {bk : Blk} {h' : Heap} (ha : x.ev e = some (.ptr i o)) (hx : y.ev e = some v) (hb : h[i]? = some bk) (hp : bk.pr = some p) (hl : bk.lit = true) (hc : v.cells.length = n ∧ v.cells.all V.atom = true ∧ Nat.ble p o = true ∧ Nat.ble (o + n) bk.c.length = true) (hh : upd { bk with c := bk.c.take o ++ v.cells ++ bk.c.drop (o + n) } i o 0 h = h') (k : ∃ A, P .undef h' A) : ∃ A, opK (Ev C) (.store n x y) e h A P := by
  obtain ⟨A, k⟩ := k
  exact ⟨_, p_store ha hx hb hp hl hc hh k⟩

theorem ep_storeS {i o n p : Nat} {bk : Blk} {h' : Heap} {l : List V} (ha : x.ev e = some (.ptr i o)) (hx : y.ev e = some v) (hb : h[i]? = some bk) (hp : bk.pr = some p) (hl : bk.lit = false) (hc : v.cells.length = n ∧ v.cells.all V.atom = true ∧ p ≤ o ∧ o + n ≤ bk.c.length) (hf : flatL v.cells = true) (hcs : bk.c.take o ++ v.cells ++ bk.c.drop (o + n) = l) (hh : upd { bk with c := l } i o 0 h = h') (k : ∃ A, P .undef h' A) : ∃ A, opK (Ev C) (.store n x y) e h A P := by
  obtain ⟨A, k⟩ := k
  exact ⟨_, p_storeS ha hx hb hp hl hc hf hcs hh k⟩

theorem ep_clear {es i o n p : Nat} {z : List V} {bk : Blk} {h' : Heap} {l : List V} (hx : x.ev e = some (.sl i o n)) (hb : h[i]? = some bk) (hp : bk.pr = some p) (hl : bk.lit = false) (hc : p ≤ o ∧ o + n * es ≤ bk.c.length) (hcs : bk.c.take o ++ (List.replicate n z).flatten ++ bk.c.drop (o + n * es) = l) (hh : upd { bk with c := l } i o 0 h = h') (k : ∃ A, P (.tup []) h' A) : ∃ A, opK (Ev C) (.clear es z x) e h A P := by
  obtain ⟨A, k⟩ := k
  exact ⟨_, p_clear hx hb hp hl hc hcs hh k⟩

theorem ep_bin {op : BinOp} {r : V} (hx : x.ev e = some a) (hy : y.ev e = some b) (hr : binV op a b = some r) (k : ∃ A, P r h A) : ∃ A, opK (Ev C) (.bin op x y) e h A P := by
  obtain ⟨A, k⟩ := k
  exact ⟨_, p_bin hx hy hr k⟩

theorem ep_eqb {neg p q r : Bool} (hx : x.ev e = some (.bool p)) (hy : y.ev e = some (.bool q)) (hr : (p == q) = (r != neg)) (k : ∃ A, P (.bool r) h A) : ∃ A, opK (Ev C) (.eqb neg x y) e h A P := by
  obtain ⟨A, k⟩ := k
  exact ⟨_, p_eqb hx hy hr k⟩

theorem ep_eqa {neg r : Bool} {n : Nat} {l m : List V} (hx : x.ev e = some (.agg l)) (hy : y.ev e = some (.agg m)) (hr : l.length = n ∧ m.length = n ∧ eqCells l m = some (r != neg)) (k : ∃ A, P (.bool r) h A) : ∃ A, opK (Ev C) (.eqa neg n x y) e h A P := by
  obtain ⟨A, k⟩ := k
  exact ⟨_, p_eqa hx hy hr k⟩

theorem ep_isnilN {neg : Bool} (hx : x.ev e = some .nils) (k : ∃ A, P (.bool (!neg)) h A) : ∃ A, opK (Ev C) (.isnil neg x) e h A P := by
  obtain ⟨A, k⟩ := k
  exact ⟨_, p_isnilN hx k⟩

theorem ep_isnilS {neg : Bool} {i o n : Nat} (hx : x.ev e = some (.sl i o n)) (k : ∃ A, P (.bool neg) h A) : ∃ A, opK (Ev C) (.isnil neg x) e h A P := by
  obtain ⟨A, k⟩ := k
  exact ⟨_, p_isnilS hx k⟩

theorem ep_isnilE {neg : Bool} (hx : x.ev e = some .emp) (k : ∃ A, P (.bool neg) h A) : ∃ A, opK (Ev C) (.isnil neg x) e h A P := by
  obtain ⟨A, k⟩ := k
  exact ⟨_, p_isnilE hx k⟩

theorem ep_not {p : Bool} (hx : x.ev e = some (.bool p)) (k : ∃ A, P (.bool !p) h A) : ∃ A, opK (Ev C) (.un .not x) e h A P := by
  obtain ⟨A, k⟩ := k
  exact ⟨_, p_not hx k⟩

theorem ep_un {op : UnOp} {kd : IntKind} {z : Int} {r : V} (hx : x.ev e = some (.int kd z)) (hr : unV op (.int kd z) = some r) (k : ∃ A, P r h A) : ∃ A, opK (Ev C) (.un op x) e h A P := by
  obtain ⟨A, k⟩ := k
  exact ⟨_, p_un hx hr k⟩

theorem ep_conv {kd kd' : IntKind} {z r : Int} (hx : x.ev e = some (.int kd' z)) (hr : kd.wrap z = r) (k : ∃ A, P (.int kd r) h A) : ∃ A, opK (Ev C) (.conv kd x) e h A P := by
  obtain ⟨A, k⟩ := k
  exact ⟨_, p_conv hx hr k⟩

theorem ep_field1 {o : Nat} {cs : List V} (hx : x.ev e = some (.agg cs)) (hv : cs[o]? = some v) (k : ∃ A, P v h A) : ∃ A, opK (Ev C) (.field o none x) e h A P := by
  obtain ⟨A, k⟩ := k
  exact ⟨_, p_field1 hx hv k⟩

theorem ep_fieldN {o m : Nat} {cs l : List V} (hx : x.ev e = some (.agg cs)) (hm : Nat.ble (o + m) cs.length = true) (hv : (cs.drop o).take m = l) (k : ∃ A, P (.agg l) h A) : ∃ A, opK (Ev C) (.field o (some m) x) e h A P := by
  obtain ⟨A, k⟩ := k
  exact ⟨_, p_fieldN hx hm hv k⟩

theorem ep_fieldAddr {i o o' : Nat} (hx : x.ev e = some (.ptr i o')) (k : ∃ A, P (.ptr i (o' + o)) h A) : ∃ A, opK (Ev C) (.fieldAddr o x) e h A P := by
  obtain ⟨A, k⟩ := k
  exact ⟨_, p_fieldAddr hx k⟩

theorem ep_indexAddr {es b o n : Nat} {kd : IntKind} {z : Int} (hx : x.ev e = some (.sl b o n)) (hi : y.ev e = some (.int kd z)) (hz : 0 ≤ z ∧ z < n) (k : ∃ A, P (.ptr b (o + z.toNat * es)) h A) : ∃ A, opK (Ev C) (.indexAddr es x y) e h A P := by
  obtain ⟨A, k⟩ := k
  exact ⟨_, p_indexAddr hx hi hz k⟩

theorem ep_indexN {es b o n j o' : Nat} {kd : IntKind} {z : Int} (hx : x.ev e = some (.sl b o n)) (hi : y.ev e = some (.int kd z)) (hz : z = (j : Nat)) (hj : j < n) (ho : o + j * es = o') (k : ∃ A, P (.ptr b o') h A) : ∃ A, opK (Ev C) (.indexAddr es x y) e h A P := by
  obtain ⟨A, k⟩ := k
  exact ⟨_, p_indexN hx hi hz hj ho k⟩

theorem ep_slice {es i o n o' n' : Nat} {lo hi : Option X} {l u : List V} {p q : Int} {bk : Blk} (hx : x.ev e = some (.sl i o n)) (hl : evs e lo.toList = some l) (hu : evs e hi.toList = some u) (hp : l = [] ∧ p = 0 ∨ ∃ k, l = [.int k p]) (hq : u = [] ∧ q = n ∨ ∃ k, u = [.int k q]) (hc : 0 ≤ p ∧ p ≤ q ∧ q ≤ n ∧ o' = o + p.toNat * es ∧ (n' : Int) = q - p) (hb : h[i]? = some bk) (he : bk.es = es) (k : ∃ A, P (.sl i o' n') h A) : ∃ A, opK (Ev C) (.slice es x lo hi) e h A P := by
  obtain ⟨A, k⟩ := k
  exact ⟨_, p_slice hx hl hu hp hq hc hb he k⟩

theorem ep_slice0N (hx : x.ev e = some .nils) (k : ∃ A, P .nils h A) : ∃ A, opK (Ev C) (.slice0 x) e h A P := by
  obtain ⟨A, k⟩ := k
  exact ⟨_, p_slice0N hx k⟩

theorem ep_slice0S {i o n : Nat} (hx : x.ev e = some (.sl i o n)) (k : ∃ A, P .emp h A) : ∃ A, opK (Ev C) (.slice0 x) e h A P := by
  obtain ⟨A, k⟩ := k
  exact ⟨_, p_slice0S hx k⟩

theorem ep_slice0E (hx : x.ev e = some .emp) (k : ∃ A, P .emp h A) : ∃ A, opK (Ev C) (.slice0 x) e h A P := by
  obtain ⟨A, k⟩ := k
  exact ⟨_, p_slice0E hx k⟩

theorem ep_make {es by_ : Nat} {z : List V} {n : X} {m : Int} {l : List V} {h' : Heap} {mm : Nat} (hn : n.ev e = some (.int .i64 m)) (hm : m = (mm : Nat)) (hb : (mm : Int) * by_ ≤ 140737488355328) (hl : l = (List.replicate mm z).flatten) (hh : h ++ [⟨l, es, h.length, some 0, false⟩] = h') (k : ∃ A, P (.sl h.length 0 mm) h' A) : ∃ A, opK (Ev C) (.make es by_ z n) e h A P := by
  obtain ⟨A, k⟩ := k
  exact ⟨_, p_make hn hm hb hl hh k⟩

theorem ep_extract {i : Nat} {vs : List V} (hx : x.ev e = some (.tup vs)) (hv : vs[i]? = some v) (k : ∃ A, P v h A) : ∃ A, opK (Ev C) (.extract x i) e h A P := by
  obtain ⟨A, k⟩ := k
  exact ⟨_, p_extract hx hv k⟩

theorem ep_mkfn {f : Nat} {caps : List X} {vs : List V} (hx : evs e caps = some vs) (k : ∃ A, P (.fn f vs) h A) : ∃ A, opK (Ev C) (.mkfn f caps) e h A P := by
  obtain ⟨A, k⟩ := k
  exact ⟨_, p_mkfn hx k⟩

theorem ep_lenS {i o n : Nat} (hx : x.ev e = some (.sl i o n)) (k : ∃ A, P (.int .i64 n) h A) : ∃ A, opK (Ev C) (.len x) e h A P := by
  obtain ⟨A, k⟩ := k
  exact ⟨_, p_lenS hx k⟩

theorem ep_lenN (hx : x.ev e = some .nils) (k : ∃ A, P (.int .i64 0) h A) : ∃ A, opK (Ev C) (.len x) e h A P := by
  obtain ⟨A, k⟩ := k
  exact ⟨_, p_lenN hx k⟩

theorem ep_lenE (hx : x.ev e = some .emp) (k : ∃ A, P (.int .i64 0) h A) : ∃ A, opK (Ev C) (.len x) e h A P := by
  obtain ⟨A, k⟩ := k
  exact ⟨_, p_lenE hx k⟩

theorem ep_nilckP {i o : Nat} (hx : x.ev e = some (.ptr i o)) (k : ∃ A, P (.ptr i o) h A) : ∃ A, opK (Ev C) (.nilck x) e h A P := by
  obtain ⟨A, k⟩ := k
  exact ⟨_, p_nilckP hx k⟩

theorem ep_mkbfn {f : Nat} {caps : List X} {vs : List V} (hx : evs e caps = some vs) (k : ∃ A, P (.bfn f vs) h A) : ∃ A, opK (Ev C) (.mkbfn f caps) e h A P := by
  obtain ⟨A, k⟩ := k
  exact ⟨_, p_mkbfn hx k⟩

theorem ep_nilckF {f : Nat} {cs : List V} (hx : x.ev e = some (.fn f cs)) (k : ∃ A, P (.fn f cs) h A) : ∃ A, opK (Ev C) (.nilck x) e h A P := by
  obtain ⟨A, k⟩ := k
  exact ⟨_, p_nilckF hx k⟩

theorem ep_mm {mx : Bool} {xs : List X} {kd : IntKind} {z w r : Int} (hx : evs e xs = some [.int kd z, .int kd w]) (hr : r = if mx then (if w > z then w else z) else (if w < z then w else z)) (k : ∃ A, P (.int kd r) h A) : ∃ A, opK (Ev C) (.mm mx xs) e h A P := by
  obtain ⟨A, k⟩ := k
  exact ⟨_, p_mm hx hr k⟩

theorem ep_app0 {es by_ m : Nat} {l : List V} {h' : Heap} (hx : x.ev e = some a) (ha : rowOf h es a = some ([], 0)) (hn : a = .nils ∨ a = .emp) (hy : y.ev e = some b) (hb : rowOf h es b = some (l, m)) (hl : l.length = m * es ∧ m * by_ ≤ 140737488355328 ∧ 0 < m) (hf : flatL l = true ∨ ∃ i o bk, y.ev e = some (.sl i o m) ∧ h[i]? = some bk ∧ bk.lit = false) (hh : h ++ [⟨l, es, h.length, some 0, false⟩] = h') (k : ∃ A, P (.sl h.length 0 m) h' A) : ∃ A, opK (Ev C) (.append es by_ x y) e h A P := by
  obtain ⟨A, k⟩ := k
  exact ⟨_, p_app0 hx ha hn hy hb hl hf hh k⟩

theorem ep_appE {es by_ : Nat} (hx : x.ev e = some a) (hn : a = .nils ∨ a = .emp) (hy : y.ev e = some b) (hb : rowOf h es b = some ([], 0)) (k : ∃ A, P a h A) : ∃ A, opK (Ev C) (.append es by_ x y) e h A P := by
  obtain ⟨A, k⟩ := k
  exact ⟨_, p_appE hx hn hy hb k⟩

theorem ep_app {es by_ n m i p : Nat} {l1 l2 l : List V} {bi : Blk} {h' : Heap} (hx : x.ev e = some (.sl i 0 n)) (hy : y.ev e = some b) (hi : h[i]? = some bi) (h1 : (bi.c.drop 0).take (n * es) = l1) (hb : rowOf h es b = some (l2, m)) (hp : bi.pr = some p) (hl : l = l1 ++ l2 ∧ l1.length = n * es ∧ l2.length = m * es ∧ (n + m) * by_ ≤ 140737488355328) (hf : flatL l2 = true ∨ ∃ i o bk, y.ev e = some (.sl i o m) ∧ h[i]? = some bk ∧ bk.lit = false) (hc : p ≤ n * es ∧ bi.es = es ∧ bi.lit = false) (hes : Nat.ble 1 es = true) (hh : upd { bi with c := l1 } i (n * es) 0 h ++ [⟨l, es, bi.cl, some p, false⟩] = h') (k : ∃ A, P (.sl h.length 0 (n + m)) h' A) : ∃ A, opK (Ev C) (.append es by_ x y) e h A P := by
  obtain ⟨A, k⟩ := k
  exact ⟨_, p_app hx hy hi h1 hb hp hl hf hc hes hh k⟩

theorem ep_call {f : Nat} {as : List X} {vs : List V} {L : List Nat} {r : V} {H1 : List Blk} {w : List V} {H0 : List Blk} {hr : List Blk} {rr : V} (ha : evs e as = some vs) (hL : reach h fuel (V.idsL vs) [] = L) (hw : V.renL (pos L) vs = w) (h0 : sub h L true L = H0) (hcall : Ev C f w H0 r H1) (hc : closed h L L = true ∧ distinct L = true ∧ (V.idsL vs).all (fun j => L.contains j) = true ∧ Nat.ble L.length H1.length = true) (hm : merge h L H1 = hr) (hrr : r.ren (unren L h.length) = rr) (q : ∃ A, P rr hr A) : ∃ A, opK (Ev C) (.call f as) e h A P := by
  obtain ⟨A, q⟩ := q
  exact ⟨_, p_call ha hL hw h0 hcall hc hm hrr q⟩

theorem ep_callv {f : Nat} {as : List X} {vs caps : List V} {L : List Nat} {r : V} {H1 : List Blk} {w : List V} {H0 : List Blk} {hr : List Blk} {rr : V} (hx : x.ev e = some (.fn f caps)) (ha : evs e as = some vs) (hL : reach h fuel (V.idsL (vs ++ caps)) [] = L) (hw : V.renL (pos L) (vs ++ caps) = w) (h0 : sub h L true L = H0) (hcall : Ev C f w H0 r H1) (hc : closed h L L = true ∧ distinct L = true ∧ (V.idsL (vs ++ caps)).all (fun j => L.contains j) = true ∧ Nat.ble L.length H1.length = true) (hm : merge h L H1 = hr) (hrr : r.ren (unren L h.length) = rr) (q : ∃ A, P rr hr A) : ∃ A, opK (Ev C) (.callv x as) e h A P := by
  obtain ⟨A, q⟩ := q
  exact ⟨_, p_callv hx ha hL hw h0 hcall hc hm hrr q⟩

theorem ep_callb {f : Nat} {as : List X} {vs caps : List V} {L : List Nat} {r : V} {H1 : List Blk} {w : List V} {H0 : List Blk} {hr : List Blk} {rr : V} (hx : x.ev e = some (.bfn f caps)) (ha : evs e as = some vs) (hL : reach h fuel (V.idsL (caps ++ vs)) [] = L) (hw : V.renL (pos L) (caps ++ vs) = w) (h0 : sub h L true L = H0) (hcall : Ev C f w H0 r H1) (hc : closed h L L = true ∧ distinct L = true ∧ (V.idsL (caps ++ vs)).all (fun j => L.contains j) = true ∧ Nat.ble L.length H1.length = true) (hm : merge h L H1 = hr) (hrr : r.ren (unren L h.length) = rr) (q : ∃ A, P rr hr A) : ∃ A, opK (Ev C) (.callv x as) e h A P := by
  obtain ⟨A, q⟩ := q
  exact ⟨_, p_callb hx ha hL hw h0 hcall hc hm hrr q⟩

theorem ep_call0 {f : Nat} {as : List X} {vs : List V} {r : V} (ha : evs e as = some vs) (hcall : Ev C f vs [] r []) (hn : V.idsL vs = []) (hr : r.ids = []) (q : ∃ A, P r h A) : ∃ A, opK (Ev C) (.call f as) e h A P := by
  obtain ⟨A, q⟩ := q
  exact ⟨_, p_call0 ha hcall hn hr q⟩

theorem sp_alloc {z : List V} {n : Nat} {h' : Heap} (hn : litO h.length = some n) (hh : snocO h ⟨z, 1, n, some 0, true⟩ = some h') (k : ∃ A, P (.ptr n 0) h' A) : ∃ A, opK (Ev C) (.alloc z) e h A P := by
  have := litO_ok hn; subst this; exact ep_alloc (snocO_ok hh) k
theorem sp_box {n : Nat} {cs : List V} {h' : Heap} (hx : x.ev e = some v) (hc : cellsO v = some cs) (hat : cs.all V.atom = true) (hn : litO h.length = some n) (hh : snocO h ⟨cs, 1, n, some 0, true⟩ = some h') (k : ∃ A, P (.ptr n 0) h' A) :
    ∃ A, opK (Ev C) (.box x) e h A P := by
  have := litO_ok hn; subst this
  have := cellsO_ok hc; subst this
  exact ep_box hx hat (snocO_ok hh) k
theorem sp_build {z : List V} {ps : List (Nat × Nat × X)} {vs : List (Nat × Nat × V)} {cs : List V} (hp : pevs e ps = some vs) (hl : layO z vs = some cs) (k : ∃ A, P (.agg cs) h A) : ∃ A, opK (Ev C) (.build z ps) e h A P :=
  ep_build hp (layO_ok hl) k
theorem sp_bslice {es n i : Nat} {z : List V} {ps : List (Nat × Nat × X)} {vs : List (Nat × Nat × V)} {cs : List V} {h' : Heap} (hp : pevs e ps = some vs) (hl : layO z vs = some cs) (hat : cs.all V.atom = true)
    (hn : litO h.length = some i) (hh : snocO h ⟨cs, es, i, some 0, true⟩ = some h') (k : ∃ A, P (.sl i 0 n) h' A) : ∃ A, opK (Ev C) (.bslice es z n ps) e h A P := by
  have := litO_ok hn; subst this; exact ep_bslice hp (layO_ok hl) hat (snocO_ok hh) k
theorem sp_loadN {i o m : Nat} {bk : Blk} {l : List V} (hx : x.ev e = some (.ptr i o)) (hb : h[i]? = some bk) (hl : bk.lit = true) (hm : Nat.ble (o + m) bk.c.length = true) (hv : dtO bk.c o m = some l)
    (k : ∃ A, P (.agg l) h A) : ∃ A, opK (Ev C) (.load (some m) x) e h A P := ep_loadN hx hb hl hm (dtO_ok hv) k
theorem sp_fieldN {o m : Nat} {cs l : List V} (hx : x.ev e = some (.agg cs)) (hm : Nat.ble (o + m) cs.length = true) (hv : dtO cs o m = some l) (k : ∃ A, P (.agg l) h A) : ∃ A, opK (Ev C) (.field o (some m) x) e h A P :=
  ep_fieldN hx hm (dtO_ok hv) k
theorem sp_store {i o n p es cl : Nat} {c vc c' : List V} {h' : Heap} (ha : x.ev e = some (.ptr i o)) (hx : y.ev e = some v) (hb : h[i]? = some ⟨c, es, cl, some p, true⟩) (hc : cellsO v = some vc)
    (h1 : vc.length = n) (h2 : vc.all V.atom = true) (h3 : Nat.ble p o = true) (h4 : Nat.ble (o + n) c.length = true) (h5 : setO c o vc n = some c') (hh : updO ⟨c', es, cl, some p, true⟩ i o 0 h = some h') (k : ∃ A, P .undef h' A) :
    ∃ A, opK (Ev C) (.store n x y) e h A P := by
  have := cellsO_ok hc; subst this
  have h5' := setO_ok h5
  exact ep_store ha hx hb rfl rfl ⟨h1, h2, h3, h4⟩ (by rw [show ({ (⟨c, es, cl, some p, true⟩ : Blk) with c := c.take o ++ v.cells ++ c.drop (o + n) } : Blk) = ⟨c', es, cl, some p, true⟩ by rw [h5']]; exact updO_ok hh) k
/-- A store into a list that is told by a function. -/
theorem sp_storeS {i o n p es cl : Nat} {c vc l : List V} {h' : Heap} (ha : x.ev e = some (.ptr i o)) (hx : y.ev e = some v) (hb : h[i]? = some ⟨c, es, cl, some p, false⟩) (hc : cellsO v = some vc)
    (h1 : vc.length = n) (h2 : vc.all V.atom = true) (hf : flatL vc = true) (h3 : p ≤ o) (h4 : o + n ≤ c.length) (h5 : c.take o ++ vc ++ c.drop (o + n) = l) (hh : updO ⟨l, es, cl, some p, false⟩ i o 0 h = some h') (k : ∃ A, P .undef h' A) :
    ∃ A, opK (Ev C) (.store n x y) e h A P := by
  have := cellsO_ok hc; subst this
  obtain ⟨A, k⟩ := k
  exact ⟨_, p_storeS ha hx hb rfl rfl ⟨h1, h2, h3, h4⟩ hf h5 (updO_ok hh) k⟩
theorem ep_sliceN {es : Nat} {lo hi : Option X} {l u : List V} (hx : x.ev e = some .nils) (hl : evs e lo.toList = some l) (hu : evs e hi.toList = some u) (h1 : l = [] ∨ ∃ k, l = [.int k 0]) (h2 : u = [] ∨ ∃ k, u = [.int k 0]) (k : ∃ A, P .nils h A) :
    ∃ A, opK (Ev C) (.slice es x lo hi) e h A P := by
  obtain ⟨A, k⟩ := k
  refine ⟨A, ?_⟩
  simp only [opK, hx, hl, hu]; exact ⟨⟨h1, h2⟩, k⟩
theorem sp_appmk {es by_ i : Nat} {z : List V} {n : X} {m : Int} {l : List V} {h' : Heap} {mm : Nat} (hx : x.ev e = some .nils) (hn : n.ev e = some (.int .i64 m)) (hm : m = (mm : Nat)) (hm0 : 0 < mm) (hb : (mm : Int) * by_ ≤ 140737488355328) (hl : l = (List.replicate mm z).flatten)
    (hi : litO h.length = some i) (hh : snocO h ⟨l, es, i, some 0, false⟩ = some h') (k : ∃ A, P (.sl i 0 mm) h' A) : ∃ A, opK (Ev C) (.appmk es by_ z x n) e h A P := by
  have := litO_ok hi; subst this
  have := snocO_ok hh; subst this
  obtain ⟨A, k⟩ := k
  subst hm
  refine ⟨.cs l :: A, ?_⟩
  simp only [opK, hx, hn]
  exact ⟨⟨⟨by omega, hb⟩, by rw [hl]; rfl⟩, k⟩
theorem sp_copy {es i o n j o' m p cl k : Nat} {c l l2 : List V} {h' : Heap} (hx : x.ev e = some (.sl i o n)) (hy : y.ev e = some (.sl j o' m)) (hr : rowOf h es (.sl j o' m) = some (l2, m)) (hb : h[i]? = some ⟨c, es, cl, some p, false⟩)
    (hj : ∃ b', h[j]? = some b' ∧ (b'.lit = false ∨ V.idsL l2 = [])) (h1 : p ≤ o) (h2 : l2.length = m * es) (h3 : o + n * es ≤ c.length) (hk : min m n = k)
    (h5 : c.take o ++ l2.take (k * es) ++ c.drop (o + k * es) = l) (hh : updO ⟨l, es, cl, some p, false⟩ i o 0 h = some h') (kk : ∃ A, P (.int .i64 (k : Nat)) h' A) :
    ∃ A, opK (Ev C) (.copy es x y) e h A P := by
  obtain ⟨A, kk⟩ := kk
  obtain ⟨b', hj1, hj2⟩ := hj
  subst hk
  refine ⟨.cs l :: A, ?_⟩
  simp only [opK, hx, hy, hr, hb]
  refine ⟨⟨⟨h1, h2, h3, trivial, trivial⟩, ⟨j, o', b', rfl, hj1, hj2⟩, h5.symm⟩, ?_⟩
  rw [updO_ok hh]; exact kk
theorem sp_clear {es i o n p es' cl : Nat} {z c l : List V} {h' : Heap} (hx : x.ev e = some (.sl i o n)) (hb : h[i]? = some ⟨c, es', cl, some p, false⟩) (h3 : p ≤ o) (h4 : o + n * es ≤ c.length)
    (h5 : c.take o ++ (List.replicate n z).flatten ++ c.drop (o + n * es) = l) (hh : updO ⟨l, es', cl, some p, false⟩ i o 0 h = some h') (k : ∃ A, P (.tup []) h' A) :
    ∃ A, opK (Ev C) (.clear es z x) e h A P := by
  obtain ⟨A, k⟩ := k
  exact ⟨_, p_clear hx hb rfl rfl ⟨h3, h4⟩ h5 (updO_ok hh) k⟩
theorem sp_make {es by_ i : Nat} {z : List V} {n : X} {m : Int} {l : List V} {h' : Heap} {mm : Nat} (hn : n.ev e = some (.int .i64 m)) (hm : m = (mm : Nat)) (hb : (mm : Int) * by_ ≤ 140737488355328) (hl : l = (List.replicate mm z).flatten)
    (hi : litO h.length = some i) (hh : snocO h ⟨l, es, i, some 0, false⟩ = some h') (k : ∃ A, P (.sl i 0 mm) h' A) : ∃ A, opK (Ev C) (.make es by_ z n) e h A P := by
  have := litO_ok hi; subst this; exact ep_make hn hm hb hl (snocO_ok hh) k
/-- The cells behind a slice: of a list told by a function, the whole; else its cells. -/
theorem sp_app0 {es by_ m i : Nat} {l : List V} {h' : Heap} (hx : x.ev e = some a) (hn : a = .nils ∨ a = .emp) (hy : y.ev e = some b) (hb : rowOf h es b = some (l, m))
    (hl : l.length = m * es ∧ m * by_ ≤ 140737488355328 ∧ 0 < m) (hf : flatL l = true ∨ ∃ i o bk, y.ev e = some (.sl i o m) ∧ h[i]? = some bk ∧ bk.lit = false)
    (hi : litO h.length = some i) (hh : snocO h ⟨l, es, i, some 0, false⟩ = some h') (k : ∃ A, P (.sl i 0 m) h' A) : ∃ A, opK (Ev C) (.append es by_ x y) e h A P := by
  have := litO_ok hi; subst this
  exact ep_app0 hx (by rcases hn with rfl | rfl <;> rfl) hn hy hb hl hf (snocO_ok hh) k
/-- The list grows by l2. -/
theorem sp_app {es by_ n m i p cl j : Nat} {l1 l2 l : List V} {h1 h' : Heap} (hx : x.ev e = some (.sl i 0 n)) (hy : y.ev e = some b) (hi : h[i]? = some ⟨l1, es, cl, some p, false⟩) (hb : rowOf h es b = some (l2, m))
    (hl : l = l1 ++ l2) (hl1 : l1.length = n * es) (hl2 : l2.length = m * es) (hb2 : (n + m) * by_ ≤ 140737488355328) (hf : flatL l2 = true ∨ ∃ i o bk, y.ev e = some (.sl i o m) ∧ h[i]? = some bk ∧ bk.lit = false)
    (hp : p ≤ n * es) (hes : Nat.ble 1 es = true) (hh1 : updO ⟨l1, es, cl, some p, false⟩ i (n * es) 0 h = some h1) (hj : litO h.length = some j) (hh : snocO h1 ⟨l, es, cl, some p, false⟩ = some h') (k : ∃ A, P (.sl j 0 (n + m)) h' A) :
    ∃ A, opK (Ev C) (.append es by_ x y) e h A P := by
  have := litO_ok hj; subst this
  have e1 : (l1.drop 0).take (n * es) = l1 := by rw [List.drop_zero, ← hl1, List.take_length]
  exact ep_app hx hy hi (l1 := l1) e1 hb rfl ⟨hl, hl1, hl2, hb2⟩ hf ⟨hp, rfl, rfl⟩ hes (by rw [updO_ok hh1]; exact snocO_ok hh) k
theorem sp_call {f : Nat} {as : List X} {vs : List V} {L : List Nat} {r : V} {H1 : List Blk} {w : List V} {H0 : List Blk} {hr : List Blk} {rr : V} {n : Nat}
    (ha : evs e as = some vs) (hL : reachO h fuel (V.idsL vs) [] = some L)
    (hw : renLO (posO L) vs = some w) (h0 : subO h L true L = some H0) (hcall : Ev C f w H0 r H1)
    (hc : closed h L L = true ∧ distinct L = true ∧ (V.idsL vs).all (fun j => L.contains j) = true ∧ Nat.ble L.length H1.length = true) (hm : mergeO h L H1 = some hr) (hn : litO h.length = some n) (hrr : renO (unrenO L n) r = some rr)
    (q : ∃ A, P rr hr A) : ∃ A, opK (Ev C) (.call f as) e h A P := by
  have := litO_ok hn; subst this
  exact ep_call ha (reachO_ok hL) (renLO_ok (posO_ok L) hw) (subO_ok h0) hcall hc (mergeO_ok hm) (renO_ok (unrenO_ok L _) hrr) q
theorem sp_callv {f : Nat} {as : List X} {vs caps vc : List V} {L : List Nat} {r : V} {H1 : List Blk} {w : List V} {H0 : List Blk} {hr : List Blk} {rr : V} {n : Nat}
    (hx : x.ev e = some (.fn f caps)) (ha : evs e as = some vs) (hvc : appO vs caps = some vc) (hL : reachO h fuel (V.idsL vc) [] = some L)
    (hw : renLO (posO L) vc = some w) (h0 : subO h L true L = some H0) (hcall : Ev C f w H0 r H1)
    (hc : closed h L L = true ∧ distinct L = true ∧ (V.idsL vc).all (fun j => L.contains j) = true ∧ Nat.ble L.length H1.length = true) (hm : mergeO h L H1 = some hr) (hn : litO h.length = some n) (hrr : renO (unrenO L n) r = some rr)
    (q : ∃ A, P rr hr A) : ∃ A, opK (Ev C) (.callv x as) e h A P := by
  have := litO_ok hn; subst this
  have := appO_ok hvc; subst this
  exact ep_callv hx ha (reachO_ok hL) (renLO_ok (posO_ok L) hw) (subO_ok h0) hcall hc (mergeO_ok hm) (renO_ok (unrenO_ok L _) hrr) q
theorem sp_callb {f : Nat} {as : List X} {vs caps vc : List V} {L : List Nat} {r : V} {H1 : List Blk} {w : List V} {H0 : List Blk} {hr : List Blk} {rr : V} {n : Nat}
    (hx : x.ev e = some (.bfn f caps)) (ha : evs e as = some vs) (hvc : appO caps vs = some vc) (hL : reachO h fuel (V.idsL vc) [] = some L)
    (hw : renLO (posO L) vc = some w) (h0 : subO h L true L = some H0) (hcall : Ev C f w H0 r H1)
    (hc : closed h L L = true ∧ distinct L = true ∧ (V.idsL vc).all (fun j => L.contains j) = true ∧ Nat.ble L.length H1.length = true) (hm : mergeO h L H1 = some hr) (hn : litO h.length = some n) (hrr : renO (unrenO L n) r = some rr)
    (q : ∃ A, P rr hr A) : ∃ A, opK (Ev C) (.callv x as) e h A P := by
  have := litO_ok hn; subst this
  have := appO_ok hvc; subst this
  exact ep_callb hx ha (reachO_ok hL) (renLO_ok (posO_ok L) hw) (subO_ok h0) hcall hc (mergeO_ok hm) (renO_ok (unrenO_ok L _) hrr) q
theorem WrP_refl : ∀ (n : Nat) (h : List Blk), WrP n h h
  | _, [] => trivial
  | n, _ :: as => ⟨⟨rfl, rfl⟩, WrP_refl n as⟩
theorem callw_eq {f : Nat} {as : List X} {A : List Ans} : opK (Ev C) (.callw f as) e h A P = opK (Ev C) (.call f as) e h A (fun r h' A' => WrP h'.length h h' ∧ P r h' A') := by simp only [opK]
theorem callvw_eq {as : List X} {A : List Ans} : opK (Ev C) (.callvw x as) e h A P = opK (Ev C) (.callv x as) e h A (fun r h' A' => WrP h'.length h h' ∧ P r h' A') := by simp only [opK]
theorem ep_callw0 {f : Nat} {as : List X} {vs : List V} {r : V} (ha : evs e as = some vs) (hcall : Ev C f vs [] r []) (hn : V.idsL vs = []) (hr : r.ids = []) (q : ∃ A, P r h A) : ∃ A, opK (Ev C) (.callw f as) e h A P := by
  obtain ⟨A, q⟩ := q
  obtain ⟨A', k⟩ := ep_call0 (P := fun r h' A' => WrP h'.length h h' ∧ P r h' A') ha hcall hn hr ⟨A, WrP_refl _ _, q⟩
  exact ⟨A', by rw [callw_eq]; exact k⟩
theorem sp_callw {f : Nat} {as : List X} {vs : List V} {L : List Nat} {r : V} {H1 : List Blk} {w : List V} {H0 : List Blk} {hr : List Blk} {rr : V} {n : Nat}
    (ha : evs e as = some vs) (hL : reachO h fuel (V.idsL vs) [] = some L)
    (hw : renLO (posO L) vs = some w) (h0 : subO h L true L = some H0) (hcall : Ev C f w H0 r H1)
    (hc : closed h L L = true ∧ distinct L = true ∧ (V.idsL vs).all (fun j => L.contains j) = true ∧ Nat.ble L.length H1.length = true) (hm : mergeO h L H1 = some hr) (hn : litO h.length = some n) (hrr : renO (unrenO L n) r = some rr)
    (hwp : WrP hr.length h hr) (q : ∃ A, P rr hr A) : ∃ A, opK (Ev C) (.callw f as) e h A P := by
  obtain ⟨A, q⟩ := q
  obtain ⟨A', k⟩ := sp_call (P := fun r h' A' => WrP h'.length h h' ∧ P r h' A') ha hL hw h0 hcall hc hm hn hrr ⟨A, hwp, q⟩
  exact ⟨A', by rw [callw_eq]; exact k⟩
theorem sp_callvw {f : Nat} {as : List X} {vs caps vc : List V} {L : List Nat} {r : V} {H1 : List Blk} {w : List V} {H0 : List Blk} {hr : List Blk} {rr : V} {n : Nat}
    (hx : x.ev e = some (.fn f caps)) (ha : evs e as = some vs) (hvc : appO vs caps = some vc) (hL : reachO h fuel (V.idsL vc) [] = some L)
    (hw : renLO (posO L) vc = some w) (h0 : subO h L true L = some H0) (hcall : Ev C f w H0 r H1)
    (hc : closed h L L = true ∧ distinct L = true ∧ (V.idsL vc).all (fun j => L.contains j) = true ∧ Nat.ble L.length H1.length = true) (hm : mergeO h L H1 = some hr) (hn : litO h.length = some n) (hrr : renO (unrenO L n) r = some rr)
    (hwp : WrP hr.length h hr) (q : ∃ A, P rr hr A) : ∃ A, opK (Ev C) (.callvw x as) e h A P := by
  obtain ⟨A, q⟩ := q
  obtain ⟨A', k⟩ := sp_callv (P := fun r h' A' => WrP h'.length h h' ∧ P r h' A') hx ha hvc hL hw h0 hcall hc hm hn hrr ⟨A, hwp, q⟩
  exact ⟨A', by rw [callvw_eq]; exact k⟩
theorem sp_callbw {f : Nat} {as : List X} {vs caps vc : List V} {L : List Nat} {r : V} {H1 : List Blk} {w : List V} {H0 : List Blk} {hr : List Blk} {rr : V} {n : Nat}
    (hx : x.ev e = some (.bfn f caps)) (ha : evs e as = some vs) (hvc : appO caps vs = some vc) (hL : reachO h fuel (V.idsL vc) [] = some L)
    (hw : renLO (posO L) vc = some w) (h0 : subO h L true L = some H0) (hcall : Ev C f w H0 r H1)
    (hc : closed h L L = true ∧ distinct L = true ∧ (V.idsL vc).all (fun j => L.contains j) = true ∧ Nat.ble L.length H1.length = true) (hm : mergeO h L H1 = some hr) (hn : litO h.length = some n) (hrr : renO (unrenO L n) r = some rr)
    (hwp : WrP hr.length h hr) (q : ∃ A, P rr hr A) : ∃ A, opK (Ev C) (.callvw x as) e h A P := by
  obtain ⟨A, q⟩ := q
  obtain ⟨A', k⟩ := sp_callb (P := fun r h' A' => WrP h'.length h h' ∧ P r h' A') hx ha hvc hL hw h0 hcall hc hm hn hrr ⟨A, hwp, q⟩
  exact ⟨A', by rw [callvw_eq]; exact k⟩
theorem ep_eqb0 {p q : Bool} (hx : x.ev e = some (.bool p)) (hy : y.ev e = some (.bool q)) (k : ∃ A, P (.bool (p == q)) h A) : ∃ A, opK (Ev C) (.eqb false x y) e h A P :=
  ep_eqb hx hy (by simp) k
theorem ep_eqb1 {p q : Bool} (hx : x.ev e = some (.bool p)) (hy : y.ev e = some (.bool q)) (k : ∃ A, P (.bool (p != q)) h A) : ∃ A, opK (Ev C) (.eqb true x y) e h A P :=
  ep_eqb hx hy (by cases p <;> cases q <;> rfl) k
theorem eqCells2 {k1 k2 : IntKind} {a b c d : Int} : eqCells [.int k1 a, .int k2 b] [.int k1 c, .int k2 d] = some (decide (a = c ∧ b = d)) := by
  by_cases h1 : a = c <;> by_cases h2 : b = d <;> simp [eqCells, h1, h2]
theorem ep_eqa0 {k1 k2 : IntKind} {p q c d : Int} (hx : x.ev e = some (.agg [.int k1 p, .int k2 q])) (hy : y.ev e = some (.agg [.int k1 c, .int k2 d])) (k : ∃ A, P (.bool (decide (p = c ∧ q = d))) h A) : ∃ A, opK (Ev C) (.eqa false 2 x y) e h A P :=
  ep_eqa hx hy ⟨rfl, rfl, by rw [eqCells2]; simp⟩ k
theorem ep_eqa1 {k1 k2 : IntKind} {p q c d : Int} (hx : x.ev e = some (.agg [.int k1 p, .int k2 q])) (hy : y.ev e = some (.agg [.int k1 c, .int k2 d])) (k : ∃ A, P (.bool (!decide (p = c ∧ q = d))) h A) : ∃ A, opK (Ev C) (.eqa true 2 x y) e h A P :=
  ep_eqa hx hy ⟨rfl, rfl, by rw [eqCells2]; simp⟩ k
def keepO (k : Nat) (h : Heap) (roots : List Nat) : Option (List Nat) := reachO h fuel (idsB h (upTo k) ++ roots) (upTo k)
theorem keepO_ok {k : Nat} {roots L : List Nat} (hk : keepO k h roots = some L) : keepL k h roots = L := reachO_ok hk
theorem sfin {n : Nat} {rs : List RV} {r r0 r1 : V} {h1 h2 h' : Heap} {x : Ex} {L : List Nat} (hx : x = .normal ∨ x = .ret) (hr : resK rs e h1 = some r0) (hL : keepO n h1 r0.ids = some L)
    (hc : closed h1 L L = true ∧ distinct L = true ∧ r0.ids.all (fun j => L.contains j) = true) (h2' : renO (posO L) r0 = some r1) (h3 : subO h1 L false L = some h2) (h4 : r1 = r) (h5 : h2 = h') : ∃ A, fin n rs r h' x e h1 A :=
  ⟨[], fin_ok hx hr (keepO_ok hL) hc (renO_ok (posO_ok L) h2') (by rw [subO_ok h3, h5]) h4⟩
/-- Into a loop. -/
theorem sc_loop {b : MC} {x : Ex} {e1 e' ee : Env} {h1 h' hh : Heap} {L : List Nat} (hl : LpS C N k b e1 h1 x e' h') (hee : pick_ e (e1.map (·.1)) = ee) (hL : keepO k h (idsE ee) = some L)
    (hc : closed h L L = true ∧ distinct L = true ∧ (idsE ee).all (fun j => L.contains j) = true) (hr : renE (pos L) ee = e1) (hs : subO h L false L = some hh) (hhh : hh = h1) (q : ∃ A, K x e' h' A) :
    ∃ A, code (Ev C) (LpS C N k) (.loop b) e h A K := by
  refine ec_loop hl ?_ q
  subst hee
  exact ⟨by rw [keepO_ok hL]; exact hc, by rw [keepO_ok hL]; exact hr, by rw [keepO_ok hL, subO_ok hs, hhh]⟩
theorem ec_cond {Lp : Loops'} {c : X} {a b : MC} {t : Bool} (hc : c.ev e = some (.bool t)) (k1 : t = true → ∃ A, code (Ev C) Lp a e h A K) (k2 : t = false → ∃ A, code (Ev C) Lp b e h A K) :
    ∃ A, code (Ev C) Lp (.cond c a b) e h A K := by
  cases t
  · exact ec_condF hc (k2 rfl)
  · exact ec_condT hc (k1 rfl)
theorem eo_split {op : MOp} {t : Nat} {w c : Bool} (hg : get e t = some (.bool c)) (k1 : c = true → ∃ A, opsK (Ev C) (⟨op, dd, some (t, w)⟩ :: os) e h A Q)
    (k2 : c = false → ∃ A, opsK (Ev C) (⟨op, dd, some (t, w)⟩ :: os) e h A Q) : ∃ A, opsK (Ev C) (⟨op, dd, some (t, w)⟩ :: os) e h A Q := by
  cases c
  · exact k2 rfl
  · exact k1 rfl
theorem ed_split {op : MOp} {t : Nat} {w c : Bool} (hg : get e t = some (.bool c)) (k1 : c = true → ∃ A, opsDK (Ev C) (⟨op, dd, some (t, w)⟩ :: os) e h A Q)
    (k2 : c = false → ∃ A, opsDK (Ev C) (⟨op, dd, some (t, w)⟩ :: os) e h A Q) : ∃ A, opsDK (Ev C) (⟨op, dd, some (t, w)⟩ :: os) e h A Q := by
  cases c
  · exact k2 rfl
  · exact k1 rfl
theorem efin {n : Nat} {rs : List RV} {r r0 r1 : V} {h1 h' : Heap} {x : Ex} {L : List Nat} (hx : x = .normal ∨ x = .ret) (hr : resK rs e h1 = some r0) (hL : keepL n h1 r0.ids = L)
    (hc : closed h1 L L = true ∧ distinct L = true ∧ r0.ids.all (fun j => L.contains j) = true) (h2 : r0.ren (pos L) = r1) (h3 : sub h1 L false L = h') (h4 : r1 = r) : ∃ A, fin n rs r h' x e h1 A :=
  ⟨[], fin_ok hx hr hL hc h2 h3 h4⟩
theorem ec_drawL {Lp : Loops'} {ops : List GOp} {ls X : List Nat} (hX : (X.all fun x => Nat.blt x h.length) = true) (k : ∃ A, opsLK (Ev C) ls X 0 ops e h A (K .normal)) : ∃ A, code (Ev C) Lp (.regionL ops ls) e h A K := by
  obtain ⟨A, k⟩ := k
  exact ⟨.xs X :: A, fun x hx => by simpa using List.all_eq_true.mp hX x hx, k⟩
section
variable {ls X : List Nat} {i : Nat}
theorem g_lops (k : ∃ A, opsLK (Ev C) ls X i os e h A Q) : ∃ A, opsLK (Ev C) ls X i os e h A Q := k
theorem el_nil (k : ∃ A, Q e h A) : ∃ A, opsLK (Ev C) ls X i [] e h A Q := k
theorem el_none {op : MOp} (hl : looseB ls X i ⟨op, dd, none⟩ e = true) (k : ∃ A, opK (Ev C) op e h A (fun r h' A' => (okIds dd (put dd r e) h' = true ∧ (isW op = false → Ext h h') ∧ ∀ x ∈ X, h'[x]? = h[x]?) ∧ opsLK (Ev C) ls X (i + 1) os (put dd r e) h' A' Q)) :
    ∃ A, opsLK (Ev C) ls X i (⟨op, dd, none⟩ :: os) e h A Q := by
  obtain ⟨A, k⟩ := k
  exact ⟨A, hl, k⟩
theorem el_yes {op : MOp} {t : Nat} {w : Bool} (hg : get e t = some (.bool w)) (hl : looseB ls X i ⟨op, dd, some (t, w)⟩ e = true) (k : ∃ A, opK (Ev C) op e h A (fun r h' A' => (okIds dd (put dd r e) h' = true ∧ (isW op = false → Ext h h') ∧ ∀ x ∈ X, h'[x]? = h[x]?) ∧ opsLK (Ev C) ls X (i + 1) os (put dd r e) h' A' Q)) :
    ∃ A, opsLK (Ev C) ls X i (⟨op, dd, some (t, w)⟩ :: os) e h A Q := by
  obtain ⟨A, k⟩ := k
  refine ⟨A, hl, ?_⟩
  simp only [gopK, hg, if_true]; exact k
theorem el_no {op : MOp} {t : Nat} {w : Bool} (hg : get e t = some (.bool (!w))) (hl : looseB ls X i ⟨op, dd, some (t, w)⟩ e = true) (k : ∃ A, opsLK (Ev C) ls X (i + 1) os (put dd .undef e) h A Q) :
    ∃ A, opsLK (Ev C) ls X i (⟨op, dd, some (t, w)⟩ :: os) e h A Q := by
  obtain ⟨A, k⟩ := k
  have hn : ¬ ((!w) = w) := by cases w <;> simp
  refine ⟨A, hl, ?_⟩
  simp only [gopK, hg, if_neg hn]; exact ⟨⟨by cases dd <;> simp [okIds, put, get, V.ids], fun _ => Ext.refl h, by simp⟩, k⟩
theorem el_und {op : MOp} {t : Nat} {w : Bool} (hg : get e t = some .undef) (hl : looseB ls X i ⟨op, dd, some (t, w)⟩ e = true) (k : ∃ A, opsLK (Ev C) ls X (i + 1) os (put dd .undef e) h A Q) :
    ∃ A, opsLK (Ev C) ls X i (⟨op, dd, some (t, w)⟩ :: os) e h A Q := by
  obtain ⟨A, k⟩ := k
  refine ⟨A, hl, ?_⟩
  simp only [gopK, hg]; exact ⟨⟨by cases dd <;> simp [okIds, put, get, V.ids], fun _ => Ext.refl h, by simp⟩, k⟩
theorem el_yesH {op : MOp} {t : Nat} {w c : Bool} (hg : get e t = some (.bool c)) (hc : c = w) (hl : looseB ls X i ⟨op, dd, some (t, w)⟩ e = true) (k : ∃ A, opK (Ev C) op e h A (fun r h' A' => (okIds dd (put dd r e) h' = true ∧ (isW op = false → Ext h h') ∧ ∀ x ∈ X, h'[x]? = h[x]?) ∧ opsLK (Ev C) ls X (i + 1) os (put dd r e) h' A' Q)) :
    ∃ A, opsLK (Ev C) ls X i (⟨op, dd, some (t, w)⟩ :: os) e h A Q := el_yes (hc ▸ hg) hl k
theorem el_noH {op : MOp} {t : Nat} {w c : Bool} (hg : get e t = some (.bool c)) (hc : c = !w) (hl : looseB ls X i ⟨op, dd, some (t, w)⟩ e = true) (k : ∃ A, opsLK (Ev C) ls X (i + 1) os (put dd .undef e) h A Q) :
    ∃ A, opsLK (Ev C) ls X i (⟨op, dd, some (t, w)⟩ :: os) e h A Q := el_no (hc ▸ hg) hl k
theorem mapX {X : List Nat} {h h' : Heap} (hx : (X.map fun x => h'[x]?) = X.map fun x => h[x]?) : ∀ x ∈ X, h'[x]? = h[x]? := by
  intro x hm
  obtain ⟨n, hn⟩ := List.getElem?_of_mem hm
  have := congrArg (fun l => l[n]?) hx
  simpa [hn] using this
theorem el_same {op : MOp} {r : V} (ho : okIds dd (put dd r e) h = true) (k : ∃ A, opsLK (Ev C) ls X i os (put dd r e) h A Q) :
    ∃ A, (okIds dd (put dd r e) h = true ∧ (isW op = false → Ext h h) ∧ ∀ x ∈ X, h[x]? = h[x]?) ∧ opsLK (Ev C) ls X i os (put dd r e) h A Q := by
  obtain ⟨A, k⟩ := k; exact ⟨A, ⟨ho, fun _ => Ext.refl h, fun _ _ => rfl⟩, k⟩
theorem el_one {op : MOp} {r : V} {b : Blk} {h' : Heap} (ho : okIds dd (put dd r e) h' = true) (hh : h' = h ++ [b]) (hb : b.cl = h.length) (hp : b.pr.isSome = true) (hx : (X.map fun x => h'[x]?) = X.map fun x => h[x]?) (k : ∃ A, opsLK (Ev C) ls X i os (put dd r e) h' A Q) :
    ∃ A, (okIds dd (put dd r e) h' = true ∧ (isW op = false → Ext h h') ∧ ∀ x ∈ X, h'[x]? = h[x]?) ∧ opsLK (Ev C) ls X i os (put dd r e) h' A Q := by
  obtain ⟨A, k⟩ := k; exact ⟨A, ⟨ho, fun _ => Ext.one hh hb hp, mapX hx⟩, k⟩
theorem el_write {op : MOp} {r : V} {h' : Heap} (ho : okIds dd (put dd r e) h' = true) (hw : isW op = true) (hx : (X.map fun x => h'[x]?) = X.map fun x => h[x]?) (k : ∃ A, opsLK (Ev C) ls X i os (put dd r e) h' A Q) :
    ∃ A, (okIds dd (put dd r e) h' = true ∧ (isW op = false → Ext h h') ∧ ∀ x ∈ X, h'[x]? = h[x]?) ∧ opsLK (Ev C) ls X i os (put dd r e) h' A Q := by
  obtain ⟨A, k⟩ := k; exact ⟨A, ⟨ho, fun hn => by rw [hw] at hn; exact absurd hn (by simp), mapX hx⟩, k⟩
end
theorem Has.eev {f N : Nat} {mc : MC} {rv : List RV} (H : Has C f N mc rv) {args : List V} {r : V} {h' : Heap} (hN : Nat.ble args.length N = true) (hcan : canonB h = true)
    (hk : ∃ A, code (Ev C) (LpS C N h.length) mc (envOf 0 args) h A (fin h.length rv r h')) : Ev C f args h r h' := by
  obtain ⟨A, hk⟩ := hk
  exact H.ev A hN hcan hk
end
end Go.Proofs.Ytokoboflpaklaaa.Mi
set_option linter.unusedVariables false
namespace Go.Proofs.Ytokoboflpaklaaa.Mi
open Go Go.RowKit

theorem same_eq {R : Nat → Prop} {a b : Option Obj} (h : SameBut R a b) (hR : ∀ o, ¬ R o) : b = a := by
  rcases h with rfl | ⟨cs, cs', el, fz, rfl, rfl, hs, hc⟩
  · rfl
  · have : cs' = cs := by
      apply Array.ext hs
      intro i h1 h2
      have := hc i (hR i)
      rw [Array.getElem?_eq_getElem h1, Array.getElem?_eq_getElem h2] at this
      exact Option.some.inj this
    rw [this]

def mp0 : Mp := ⟨fun _ => 0, fun _ => 0, fun _ => 0⟩

/-- A law whose arguments name no memory. -/
theorem Ev.law {C : Cx} {f : Nat} {args : List V} {r : V} {h' : Heap} (h : Ev C f args [] r h') {vs : List Value} (hr : VRL C.ρ mp0 args vs) (hi : V.idsL args = []) (hb : r = .bool true) (W : World) :
    Calls C.P (C.ρ f) vs.toArray W fun e w' => e = .returned (.bool true) ∧ Below W.heap.size W w' := by
  subst hb
  have hI : Inv C.ρ (Rcall mp0 [] W) mp0 (fun i => i < ([] : Heap).length) [] W :=
    ⟨fun i b hi => absurd hi (by simp), fun i hi => absurd hi (by simp), fun i j bi bj hi => absurd hi (by simp), fun i b p hi => absurd hi (by simp), fun i b hi => absurd hi (by simp), fun i b hi => absurd hi (by simp), fun r hr o => .inl hr,
      fun i b hi => absurd hi (by simp), fun i b hi => absurd hi (by simp)⟩
  refine (h.2 mp0 W vs hI hr (by simp [hi])).mono fun e w' he => ?_
  obtain ⟨u, m', rfl, hp⟩ := he
  have hu := hp.rel
  simp only [VR] at hu
  subst hu
  refine ⟨rfl, hp.keep.os, hp.keep.tape, hp.keep.output, hp.keep.size, fun k hk => same_eq (hp.keep.blk k hk) fun o ho => ?_⟩
  rcases ho with ho | ⟨i, b, p, hb, _⟩
  · omega
  · simp at hb
end Go.Proofs.Ytokoboflpaklaaa.Mi
set_option linter.unusedVariables false
namespace Go.Proofs.Ytokoboflpaklaaa.Mi
open Go

/-- Rounds, until one breaks off. -/
def loopF {S T : Type} (f : Nat → S → S ⊕ T) : Nat → Nat → S → S ⊕ T
  | _, 0, s => .inl s
  | i, j + 1, s => match f i s with
    | .inl s' => loopF f (i + 1) j s'
    | .inr t => .inr t

def allF (p : Nat → Bool) : Nat → Nat → Bool
  | _, 0 => true
  | i, j + 1 => p i && allF p (i + 1) j

theorem allF_congr {p q : Nat → Bool} : ∀ (j i : Nat), (∀ x, i ≤ x → x < i + j → p x = q x) → allF p i j = allF q i j
  | 0, _, _ => rfl
  | j + 1, i, h => by
    simp only [allF]
    rw [h i (Nat.le_refl _) (by omega), allF_congr j (i + 1) fun x h1 h2 => h x (by omega) (by omega)]

theorem allF_iff {p : Nat → Bool} : ∀ (j i : Nat), allF p i j = true ↔ ∀ x, i ≤ x → x < i + j → p x = true
  | 0, i => by simp [allF]; intro x h1 h2; omega
  | j + 1, i => by
    simp only [allF, Bool.and_eq_true, allF_iff j (i + 1)]
    constructor
    · rintro ⟨h1, h2⟩ x h3 h4
      by_cases e : x = i
      · subst e; exact h1
      · exact h2 x (by omega) (by omega)
    · intro h
      exact ⟨h i (Nat.le_refl _) (by omega), fun x h1 h2 => h x (by omega) (by omega)⟩

section
variable {C : Cx} {N k : Nat} {e ee e' : Env} {h hh h' : Heap}

theorem scmp {L : List Nat} (hee : pick_ e (e'.map (·.1)) = ee) (hL : keepO k h (idsE ee) = some L) (hc : closed h L L = true ∧ distinct L = true ∧ (idsE ee).all (fun j => L.contains j) = true)
    (hr : renE (pos L) ee = e') (hs : subO h L false L = some hh) (hhh : hh = h') : cmpk k e h e' h' := by
  subst hee
  exact ⟨by rw [keepO_ok hL]; exact hc, by rw [keepO_ok hL]; exact hr, by rw [keepO_ok hL, subO_ok hs, hhh]⟩

/-- What a loop comes to. -/
structure Out where
  x : Ex
  e : Env
  h : Heap

/-- How a round ends: at the loop's head again, or outside. -/
def rnd (k : Nat) (y : Ex) (e1 : Env) (h1 : Heap) (o : (Env × Heap) ⊕ Out) : Prop := match o with
  | .inl (e, h) => y = .normal ∧ cmpk k e1 h1 e h
  | .inr o => (y = o.x ∧ y ≠ .normal) ∧ cmpk k e1 h1 o.e o.h

theorem round_on {b : MC} {o : Out} {e2 : Env} {h2 : Heap} (hr : ∃ A, code (Ev C) (LpS C N k) b e h A fun y e1 h1 A1 => A1 = [] ∧ rnd k y e1 h1 (.inl (e2, h2))) (hl : LpS C N k b e2 h2 o.x o.e o.h) : LpS C N k b e h o.x o.e o.h := by
  obtain ⟨A, hr⟩ := hr
  intro cb hcb R W0 m0 c0 a W m cs Q hQ
  refine LoopW.unroll (code_sound cb hcb cs hr fun y e1 h1 A1 a1 W1 m1 hy cs1 => ?_)
  obtain ⟨_, rfl, hc⟩ := hy
  obtain ⟨m2, cs2⟩ := cs1.cmp hc
  exact hl cb hcb R W0 m0 c0 a1 W1 m2 cs2 Q hQ

theorem round_out {b : MC} {o : Out} (hr : ∃ A, code (Ev C) (LpS C N k) b e h A fun y e1 h1 A1 => A1 = [] ∧ rnd k y e1 h1 (.inr o)) : LpS C N k b e h o.x o.e o.h := by
  obtain ⟨A, hr⟩ := hr
  intro cb hcb R W0 m0 c0 a W m cs Q hQ
  refine LoopW.unroll (code_sound cb hcb cs hr fun y e1 h1 A1 a1 W1 m1 hy cs1 => ?_)
  obtain ⟨_, ⟨rfl, hn⟩, hc⟩ := hy
  obtain ⟨m2, cs2⟩ := cs1.cmp hc
  have := hQ a1 W1 m2 cs2
  cases hx : o.x with
  | normal => exact absurd hx hn
  | exit i => rw [hx] at this; exact this
  | ret => rw [hx] at this; exact this

/-- A loop with a state, that may break off. -/
theorem lp_fold {S T : Type} {b : MC} (n : Nat) (f : Nat → S → S ⊕ T) (I : Nat → S → Prop) (E : Nat → S → Env) (H : Nat → S → Heap) (on : S → Out) (ot : T → Out)
    (step : ∀ i s, i < n → I i s → ∃ A, code (Ev C) (LpS C N k) b (E i s) (H i s) A fun y e1 h1 A1 => A1 = [] ∧ rnd k y e1 h1 (match f i s with
      | .inl s' => .inl (E (i + 1) s', H (i + 1) s')
      | .inr t => .inr (ot t)))
    (keep : ∀ i s s', i < n → I i s → f i s = .inl s' → I (i + 1) s')
    (last : ∀ s, I n s → ∃ A, code (Ev C) (LpS C N k) b (E n s) (H n s) A fun y e1 h1 A1 => A1 = [] ∧ rnd k y e1 h1 (.inr (on s))) :
    ∀ (j i : Nat) (s : S) (o : Out), i + j = n → I i s → (match loopF f i j s with | .inl s' => on s' | .inr t => ot t) = o → LpS C N k b (E i s) (H i s) o.x o.e o.h
  | 0, i, s, o, hij, hI, ho => by
    simp only [loopF] at ho
    subst ho
    have : i = n := by omega
    subst this
    exact round_out (last s hI)
  | j + 1, i, s, o, hij, hI, ho => by
    have hs := step i s (by omega) hI
    simp only [loopF] at ho
    cases hf : f i s with
    | inl s' =>
      rw [hf] at hs ho
      exact round_on hs (lp_fold n f I E H on ot step keep last j (i + 1) s' o (by omega) (keep i s s' (by omega) hI hf) ho)
    | inr t =>
      rw [hf] at hs ho
      simp only at ho
      subst ho
      exact round_out hs

/-- A loop that looks whether something holds of all numbers. -/
theorem lp_all {b : MC} (n : Nat) (p : Nat → Bool) (E : Nat → Env) (H : Nat → Heap) (on ot : Out)
    (step : ∀ i, i < n → p i = true → ∃ A, code (Ev C) (LpS C N k) b (E i) (H i) A fun y e1 h1 A1 => A1 = [] ∧ rnd k y e1 h1 (.inl (E (i + 1), H (i + 1))))
    (stop : ∀ i, i < n → p i = false → ∃ A, code (Ev C) (LpS C N k) b (E i) (H i) A fun y e1 h1 A1 => A1 = [] ∧ rnd k y e1 h1 (.inr ot))
    (last : ∃ A, code (Ev C) (LpS C N k) b (E n) (H n) A fun y e1 h1 A1 => A1 = [] ∧ rnd k y e1 h1 (.inr on)) :
    ∀ (j i : Nat) (o : Out), i + j = n → (if allF p i j = true then on else ot) = o → LpS C N k b (E i) (H i) o.x o.e o.h
  | 0, i, o, hij, ho => by
    simp only [allF, if_true] at ho
    subst ho
    have : i = n := by omega
    subst this
    exact round_out last
  | j + 1, i, o, hij, ho => by
    cases hp : p i with
    | true =>
      simp only [allF, hp, Bool.true_and] at ho
      exact round_on (step i (by omega) hp) (lp_all n p E H on ot step stop last j (i + 1) o (by omega) ho)
    | false =>
      simp only [allF, hp, Bool.false_and, Bool.false_eq_true, if_false] at ho
      subst ho
      exact round_out (stop i (by omega) hp)

/-- The end of a round. -/
theorem rnd_on {y : Ex} (hy : y = .normal) (hc : cmpk k e h e' h') : ∃ A : List Ans, A = [] ∧ rnd k y e h (.inl (e', h')) := ⟨[], rfl, hy, hc⟩
theorem rnd_out {y : Ex} {o : Out} (hy : y = o.x) (hn : y ≠ .normal) (hc : cmpk k e h o.e o.h) : ∃ A : List Ans, A = [] ∧ rnd k y e h (.inr o) := ⟨[], rfl, ⟨hy, hn⟩, hc⟩
end
end Go.Proofs.Ytokoboflpaklaaa.Mi
namespace Go.Proofs.Ytokoboflpaklaaa.Mi
open Go
section
variable {C : Cx} {e : Env} {h : Heap} {K : Ex → Env → Heap → List Ans → Prop} {Q : Env → Heap → List Ans → Prop} {P : V → Heap → List Ans → Prop} {os : List GOp}
theorem g_op {o : MOp} (k : ∃ A, opK (Ev C) o e h A P) : ∃ A, opK (Ev C) o e h A P := k
theorem g_ops (k : ∃ A, opsK (Ev C) os e h A Q) : ∃ A, opsK (Ev C) os e h A Q := k
theorem g_dops (k : ∃ A, opsDK (Ev C) os e h A Q) : ∃ A, opsDK (Ev C) os e h A Q := k
theorem g_code {Lp : Loops'} {c : MC} (k : ∃ A, code (Ev C) Lp c e h A K) : ∃ A, code (Ev C) Lp c e h A K := k
end
end Go.Proofs.Ytokoboflpaklaaa.Mi
set_option linter.unusedVariables false
namespace Go.Proofs.Ytokoboflpaklaaa.Mi
open Go

def renEO (f : Nat → Option Nat) : List (Nat × V) → Option (List (Nat × V))
  | [] => some []
  | (t, v) :: r => match renO f v, renEO f r with
    | some w, some ws => some ((t, w) :: ws)
    | _, _ => none
theorem renEO_ok {f : Nat → Option Nat} {g : Nat → Nat} (hfg : ∀ i j, f i = some j → g i = j) : ∀ {e e' : List (Nat × V)}, renEO f e = some e' → renE g e = e'
  | [], e', h => by simp only [renEO, Option.some.injEq] at h; simp only [renE]; exact h
  | (t, v) :: r, e', h => by
    simp only [renEO] at h
    split at h
    · rename_i w ws hw hws
      obtain rfl := Option.some.inj h
      simp only [renE, renO_ok hfg hw, renEO_ok hfg hws]
    · simp at h

section
variable {C : Cx} {N k : Nat} {e ee e1 e' : Env} {h hh h' : Heap}

theorem scmp2 {L : List Nat} (hee : pick_ e (e'.map (·.1)) = ee) (hL : keepO k h (idsE ee) = some L) (hc : closed h L L = true ∧ distinct L = true ∧ (idsE ee).all (fun j => L.contains j) = true)
    (hr : renEO (posO L) ee = some e1) (he : e1 = e') (hs : subO h L false L = some hh) (hhh : hh = h') : cmpk k e h e' h' := by
  subst hee he
  exact ⟨by rw [keepO_ok hL]; exact hc, by rw [keepO_ok hL]; exact renEO_ok (posO_ok L) hr, by rw [keepO_ok hL, subO_ok hs, hhh]⟩

/-- A loop over numbers, with a state that is told. -/
theorem lp_st {S : Type} {b : MC} (n : Nat) (st : Nat → S) (E : Nat → S → Env) (H : Nat → S → Heap) (on : S → Out)
    (step : ∀ i s, i < n → st i = s → ∃ s', st (i + 1) = s' ∧ ∃ A, code (Ev C) (LpS C N k) b (E i s) (H i s) A fun y e1 h1 A1 => A1 = [] ∧ rnd k y e1 h1 (.inl (E (i + 1) s', H (i + 1) s')))
    (last : ∀ s, st n = s → ∃ A, code (Ev C) (LpS C N k) b (E n s) (H n s) A fun y e1 h1 A1 => A1 = [] ∧ rnd k y e1 h1 (.inr (on s))) :
    ∀ (j i : Nat), i + j = n → LpS C N k b (E i (st i)) (H i (st i)) (on (st n)).x (on (st n)).e (on (st n)).h
  | 0, i, hij => by
    obtain rfl : i = n := by omega
    exact round_out (last _ rfl)
  | j + 1, i, hij => by
    obtain ⟨s', rfl, hs⟩ := step i _ (by omega) rfl
    exact round_on hs (lp_st n st E H on step last j (i + 1) (by omega))

/-- A loop over numbers that may break off. -/
theorem lp_brk {S : Type} {b : MC} (n : Nat) (p : Nat → Bool) (st : Nat → S) (E : Nat → S → Env) (H : Nat → S → Heap) (on : S → Out) (ot : Nat → S → Out)
    (step : ∀ i s, i < n → st i = s → p i = true → ∃ s', st (i + 1) = s' ∧ ∃ A, code (Ev C) (LpS C N k) b (E i s) (H i s) A fun y e1 h1 A1 => A1 = [] ∧ rnd k y e1 h1 (.inl (E (i + 1) s', H (i + 1) s')))
    (stop : ∀ i s, i < n → st i = s → p i = false → ∃ A, code (Ev C) (LpS C N k) b (E i s) (H i s) A fun y e1 h1 A1 => A1 = [] ∧ rnd k y e1 h1 (.inr (ot i s)))
    (last : ∀ s, st n = s → ∃ A, code (Ev C) (LpS C N k) b (E n s) (H n s) A fun y e1 h1 A1 => A1 = [] ∧ rnd k y e1 h1 (.inr (on s))) :
    ∀ (j i : Nat) (o : Out), i + j = n → ((∀ x, i ≤ x → x < n → p x = true) → o = on (st n)) → (∀ x, i ≤ x → x < n → p x = false → (∀ y, i ≤ y → y < x → p y = true) → o = ot x (st x)) →
      LpS C N k b (E i (st i)) (H i (st i)) o.x o.e o.h
  | 0, i, o, hij, h1, h2 => by
    obtain rfl : i = n := by omega
    rw [h1 fun x h3 h4 => by omega]
    exact round_out (last _ rfl)
  | j + 1, i, o, hij, h1, h2 => by
    cases hp : p i with
    | true =>
      obtain ⟨s', rfl, hs⟩ := step i _ (by omega) rfl hp
      refine round_on hs (lp_brk n p st E H on ot step stop last j (i + 1) o (by omega) (fun h => h1 fun x h3 h4 => ?_) fun x h3 h4 h5 h6 => h2 x (by omega) h4 h5 fun y h7 h8 => ?_)
      · by_cases e : x = i
        · subst e; exact hp
        · exact h x (by omega) h4
      · by_cases e : y = i
        · subst e; exact hp
        · exact h6 y (by omega) h8
    | false =>
      rw [h2 i (Nat.le_refl _) (by omega) hp fun y h3 h4 => by omega]
      exact round_out (stop i _ (by omega) rfl hp)

/-- A loop of another kind: some measure grows less, or it is left. -/
theorem lp_wf {S : Type} {b : MC} (μ : S → Nat) (I : S → Prop) (E : S → Env) (H : S → Heap) (f : S → S ⊕ Out)
    (step : ∀ s s', I s → f s = .inl s' → (I s' ∧ μ s' < μ s) ∧ ∃ A, code (Ev C) (LpS C N k) b (E s) (H s) A fun y e1 h1 A1 => A1 = [] ∧ rnd k y e1 h1 (.inl (E s', H s')))
    (stop : ∀ s o, I s → f s = .inr o → ∃ A, code (Ev C) (LpS C N k) b (E s) (H s) A fun y e1 h1 A1 => A1 = [] ∧ rnd k y e1 h1 (.inr o)) :
    ∀ (j : Nat) (s : S), μ s < j → I s → ∃ (s1 : S) (o : Out), I s1 ∧ f s1 = .inr o ∧ LpS C N k b (E s) (H s) o.x o.e o.h
  | 0, s, hj, _ => by omega
  | j + 1, s, hj, hI => by
    cases hf : f s with
    | inl s' =>
      obtain ⟨⟨h1, h2⟩, h3⟩ := step s s' hI hf
      obtain ⟨s1, o, h4, h5, h6⟩ := lp_wf μ I E H f step stop j s' (by omega) h1
      exact ⟨s1, o, h4, h5, round_on h3 h6⟩
    | inr o => exact ⟨s, o, hI, hf, round_out (stop s o hI hf)⟩
end

section
variable {C : Cx} {e : Env} {h : Heap} {P : V → Heap → List Ans → Prop} {x y : X} {v a b : V}
theorem rowOf_lit {es m j oj cl2 es2 : Nat} {pr2 : Option Nat} {l2 c2 : List V} {lit : Bool} (hj : h[j]? = some ⟨c2, es2, cl2, pr2, lit⟩) (he : Nat.ble 1 es2 = true) (h2 : dtO c2 oj (m * es) = some l2) : rowOf h es (.sl j oj m) = some (l2, m) := by
  simp only [rowOf, hj]
  cases es2 with
  | zero => simp at he
  | succ q => simp only []; rw [dtO_ok h2]
/-- A list grows by what stands in a literal. -/
theorem sp_push {es by_ n m i p cl j jn oj cl2 : Nat} {pr2 : Option Nat} {es2 : Nat} {l1 l2 c2 : List V} {h1 h' : Heap} (hx : x.ev e = some (.sl i 0 n)) (hy : y.ev e = some (.sl j oj m)) (hj : h[j]? = some ⟨c2, es2, cl2, pr2, true⟩)
    (h2 : dtO c2 oj (m * es) = some l2) (hm : l2.length = m * es) (hf : flatL l2 = true) (hi : h[i]? = some ⟨l1, es, cl, some p, false⟩) (hl1 : l1.length = n * es) (hb2 : (n + m) * by_ ≤ 140737488355328)
    (hp : p ≤ n * es) (hes : Nat.ble 1 es = true) (he2 : Nat.ble 1 es2 = true) (hh1 : updO ⟨l1, es, cl, some p, false⟩ i (n * es) 0 h = some h1) (hjn : litO h.length = some jn) (hh : snocO h1 ⟨l1 ++ l2, es, cl, some p, false⟩ = some h') (k : ∃ A, P (.sl jn 0 (n + m)) h' A) :
    ∃ A, opK (Ev C) (.append es by_ x y) e h A P :=
  sp_app hx hy hi (l2 := l2) (m := m) (rowOf_lit hj he2 h2) rfl hl1 hm hb2 (.inl hf) hp hes hh1 hjn hh k
theorem sp_push0 {es by_ m j jn oj cl2 : Nat} {pr2 : Option Nat} {es2 : Nat} {l2 c2 : List V} {h' : Heap} (hx : x.ev e = some a) (hn : a = .nils ∨ a = .emp) (hy : y.ev e = some (.sl j oj m)) (hj : h[j]? = some ⟨c2, es2, cl2, pr2, true⟩)
    (h2 : dtO c2 oj (m * es) = some l2) (hm : l2.length = m * es) (hf : flatL l2 = true) (hb2 : m * by_ ≤ 140737488355328 ∧ 0 < m) (he2 : Nat.ble 1 es2 = true)
    (hjn : litO h.length = some jn) (hh : snocO h ⟨l2, es, jn, some 0, false⟩ = some h') (k : ∃ A, P (.sl jn 0 m) h' A) :
    ∃ A, opK (Ev C) (.append es by_ x y) e h A P :=
  sp_app0 hx hn hy (l := l2) (m := m) (rowOf_lit hj he2 h2) ⟨hm, hb2.1, hb2.2⟩ (.inl hf) hjn hh k
/-- An element of a list. -/
theorem sp_idx {es b o n j o' : Nat} {kd : IntKind} {z : Int} (hx : x.ev e = some (.sl b o n)) (hi : y.ev e = some (.int kd z)) (hz : z = (j : Nat)) (hj : j < n) (ho : o + j * es = o') (k : ∃ A, P (.ptr b o') h A) :
    ∃ A, opK (Ev C) (.indexAddr es x y) e h A P := ep_indexN hx hi hz hj ho k
end
end Go.Proofs.Ytokoboflpaklaaa.Mi
namespace Go.Proofs.Ytokoboflpaklaaa.Mi
open Go
theorem b_sub1 {a : Nat} (h : 1 ≤ a) (h' : a < 9223372036854775808) : binV .sub (.int .i64 a) (.int .i64 1) = some (.int .i64 ((a - 1 : Nat) : Int)) := by
  rw [b_sub (by omega) (by omega)]; congr 2; omega
theorem b_subN {a b : Nat} (h : b ≤ a) (h' : a < 9223372036854775808) : binV .sub (.int .i64 a) (.int .i64 b) = some (.int .i64 ((a - b : Nat) : Int)) := by
  rw [b_sub (by omega) (by omega)]; congr 2; omega
theorem b_addN {a b : Nat} (h' : a + b < 9223372036854775808) : binV .add (.int .i64 a) (.int .i64 b) = some (.int .i64 ((a + b : Nat) : Int)) := by
  rw [b_add (by omega) (by omega)]; congr 2
theorem b_shrU {k' : IntKind} {x y : Nat} (h : y ≤ 64) : binV .shr (.int .u64 x) (.int k' y) = some (.int .u64 ((x >>> y : Nat) : Int)) := by
  simp only [binV]
  have e : min ((y : Int).toNat) IntKind.u64.bits = y := by simp [IntKind.bits]; omega
  rw [if_neg (by omega), e, Nat.shiftRight_eq_div_pow, Int.fdiv_eq_ediv_of_nonneg _ (Int.pow_nonneg (by omega))]
  simp
theorem b_addU {a b : Nat} (h' : a + b < 18446744073709551616) : binV .add (.int .u64 a) (.int .u64 b) = some (.int .u64 ((a + b : Nat) : Int)) := by
  simp only [binV, ne_eq, not_true, if_false]; rw [w_u64 (by omega) (by omega)]; congr 2
theorem b_andU {x y : Nat} (h1 : x < 18446744073709551616) (h2 : y < 18446744073709551616) : binV .and (.int .u64 x) (.int .u64 y) = some (.int .u64 ((x &&& y : Nat) : Int)) := by
  have : x &&& y < 18446744073709551616 := Nat.lt_of_le_of_lt Nat.and_le_left h1
  show some (V.int .u64 (IntKind.wrap .u64 ((BitVec.ofInt IntKind.u64.bits (x : Int) &&& BitVec.ofInt IntKind.u64.bits (y : Int)).toNat : Int))) = _
  rw [andB (by simp only [IntKind.bits]; omega) (by simp only [IntKind.bits]; omega), w_u64 (by omega) (by omega)]
theorem b_andNot {x y : Nat} (h1 : x < 9223372036854775808) (h2 : y < 9223372036854775808) : binV .andNot (.int .i64 x) (.int .i64 y) = some (.int .i64 ((x - (x &&& y) : Nat) : Int)) := by
  have hle : x &&& y ≤ x := Nat.and_le_left
  have key : (BitVec.ofInt IntKind.i64.bits (x : Int) &&& ~~~ BitVec.ofInt IntKind.i64.bits (y : Int)).toNat = x - (x &&& y) := by
    have hx : (BitVec.ofInt IntKind.i64.bits (x : Int)).toNat = x := toB (lt64 h1)
    have hy : (BitVec.ofInt IntKind.i64.bits (y : Int)).toNat = y := toB (lt64 h2)
    generalize BitVec.ofInt IntKind.i64.bits (x : Int) = a at *
    generalize BitVec.ofInt IntKind.i64.bits (y : Int) = b at *
    subst hx hy
    have e1 : (a &&& ~~~b).toNat + (a &&& b).toNat = a.toNat := by
      have h0 : (a &&& ~~~b) &&& (a &&& b) = 0#_ := by
        ext i hi; simp; intro _ hb _; simp [hb]
      have h1 : (a &&& ~~~b) + (a &&& b) = a := by
        rw [BitVec.add_eq_or_of_and_eq_zero _ _ h0]
        ext i hi; simp; cases a[i] <;> cases b[i] <;> rfl
      have h2 := congrArg BitVec.toNat h1
      rw [BitVec.toNat_add_of_and_eq_zero h0] at h2
      exact h2
    rw [BitVec.toNat_and (x := a) (y := b)] at e1
    omega
  show some (V.int .i64 (IntKind.wrap .i64 ((BitVec.ofInt IntKind.i64.bits (x : Int) &&& ~~~ BitVec.ofInt IntKind.i64.bits (y : Int)).toNat : Int))) = _
  rw [key, wrapN (by omega)]
end Go.Proofs.Ytokoboflpaklaaa.Mi
namespace Go.Proofs.Ytokoboflpaklaaa.Mi
open Go
theorem b_remN {a b : Nat} (h : 1 ≤ b) : binV .rem (.int .i64 a) (.int .i64 b) = some (.int .i64 ((a % b : Nat) : Int)) := by
  simp only [binV, ne_eq, not_true, if_false]
  rw [if_neg (by omega)]; rfl
theorem b_quoN {a b : Nat} (h : 1 ≤ b) (ha : a < 9223372036854775808) : binV .quo (.int .i64 a) (.int .i64 b) = some (.int .i64 ((a / b : Nat) : Int)) := by
  have : a / b ≤ a := Nat.div_le_self a b
  simp only [binV, ne_eq, not_true, if_false]
  rw [if_neg (by omega), show (a : Int).tdiv (b : Int) = ((a / b : Nat) : Int) from rfl]
  generalize a / b = q at *
  rw [wrap_id (by omega) (by omega)]
end Go.Proofs.Ytokoboflpaklaaa.Mi
namespace Go.Proofs.Ytokoboflpaklaaa.Mi
open Go
theorem b_lss {k : IntKind} {a b : Int} : binV .lss (.int k a) (.int k b) = some (.bool (decide (a < b))) := by simp [binV]
theorem b_leq {k : IntKind} {a b : Int} : binV .leq (.int k a) (.int k b) = some (.bool (decide (a ≤ b))) := by simp [binV]
theorem b_gtr {k : IntKind} {a b : Int} : binV .gtr (.int k a) (.int k b) = some (.bool (decide (a > b))) := by simp [binV]
theorem b_geq {k : IntKind} {a b : Int} : binV .geq (.int k a) (.int k b) = some (.bool (decide (a ≥ b))) := by simp [binV]
theorem b_eql {k : IntKind} {a b : Int} : binV .eql (.int k a) (.int k b) = some (.bool (a == b)) := by simp [binV]
theorem b_neq {k : IntKind} {a b : Int} : binV .neq (.int k a) (.int k b) = some (.bool (a != b)) := by simp [binV]
end Go.Proofs.Ytokoboflpaklaaa.Mi
set_option linter.unusedVariables false
namespace Go.Proofs.Ytokoboflpaklaaa.Mi
open Go Go.RowKit

/-- A law whose arguments name memory that is only read. -/
theorem Ev.lawS {C : Cx} {f : Nat} {args : List V} {h : Heap} {r : V} {h' : Heap} (hev : Ev C f args h r h') (hb : r = .bool true) {m : Mp} {W : World} {vs : List Value}
    (hI : Inv C.ρ (Rcall m h W) m (fun i => i < h.length) h W) (hr : VRL C.ρ m args vs) (hi : ∀ i ∈ V.idsL args, i < h.length) (hp : ∀ b ∈ h, b.pr = none) :
    Calls C.P (C.ρ f) vs.toArray W fun e w' => e = .returned (.bool true) ∧ Below W.heap.size W w' := by
  subst hb
  refine (hev.2 m W vs hI hr hi).mono fun e w' he => ?_
  obtain ⟨u, m', rfl, hq⟩ := he
  have hu := hq.rel
  simp only [VR] at hu
  subst hu
  refine ⟨rfl, hq.keep.os, hq.keep.tape, hq.keep.output, hq.keep.size, fun k hk => same_eq (hq.keep.blk k hk) fun o ho => ?_⟩
  rcases ho with ho | ⟨i, b, p, hb, hbp, _⟩
  · omega
  · rw [hp b (List.mem_of_getElem? hb)] at hbp; simp at hbp

/-- A block of the caller's: numbers from a place on. -/
abbrev fblk (o : Nat) (c : List V) : Blk := ⟨List.replicate o .any ++ c, 0, 0, none, false⟩

/-- A slice of the caller's, of n elements, whose cells are the numbers c. -/
def Foreign (W : World) (v : Value) (n : Nat) (k : IntKind) (c : List Int) : Prop :=
  (v = .slice none 0 0 ∧ n = 0 ∧ c = []) ∨ (∃ a, v = .slice (some a) 0 0 ∧ n = 0 ∧ c = []) ∨
  (∃ b o cap cs el fz, v = .slice (some ⟨b, o, none⟩) n cap ∧ n ≤ cap ∧ W.heap[b]? = some (.cells cs el fz) ∧ o + c.length ≤ cs.size ∧ ∀ j, j < c.length → cs[o + j]? = some (.int k (c.getD j 0)))

def nums (k : IntKind) (c : List Int) : List V := c.map fun x => .int k x

theorem nums_ids (k : IntKind) (c : List Int) : V.idsL (nums k c) = [] := by
  induction c with
  | nil => rfl
  | cons x xs ih => simp only [nums, List.map_cons, V.idsL, V.ids, List.nil_append] at ih ⊢; exact ih
theorem any_ids (o : Nat) : V.idsL (List.replicate o V.any) = [] := by
  induction o with
  | zero => rfl
  | succ o ih => simp only [List.replicate_succ, V.idsL, V.ids, List.nil_append]; exact ih
theorem fblk_ids (o : Nat) (k : IntKind) (c : List Int) : V.idsL (fblk o (nums k c)).c = [] := by
  show V.idsL (List.replicate o V.any ++ nums k c) = []
  rw [V.idsL_append, any_ids, nums_ids]; rfl

theorem fblk_blk {ρ : Nat → Nat} {m : Mp} {k : IntKind} {o : Nat} {c : List Int} {cs : Array Value} (h2 : o + c.length ≤ cs.size) (h3 : ∀ j, j < c.length → cs[o + j]? = some (.int k (c.getD j 0))) :
    (fblk o (nums k c)).c.length ≤ cs.size ∧ ∀ (j : Nat) (v : V), (fblk o (nums k c)).c[j]? = some v → ∃ u, cs[j]? = some u ∧ VR ρ m v u := by
  refine ⟨by simp [nums]; omega, fun j v hv => ?_⟩
  have hv : (List.replicate o V.any ++ nums k c)[j]? = some v := hv
  by_cases hj : j < o
  · rw [List.getElem?_append_left (by simpa using hj), List.getElem?_replicate, if_pos hj] at hv
    obtain rfl := Option.some.inj hv
    exact ⟨_, Array.getElem?_eq_getElem (by omega), by simp only [VR]⟩
  · rw [List.getElem?_append_right (by simpa using Nat.le_of_not_lt hj)] at hv
    simp only [List.length_replicate, nums, List.getElem?_map] at hv
    obtain ⟨x, hx, rfl⟩ := Option.map_eq_some_iff.mp hv
    have hl := (List.getElem?_eq_some_iff.mp hx).1
    refine ⟨.int k x, ?_, by simp only [VR]⟩
    have := h3 (j - o) hl
    rw [show o + (j - o) = j by omega, List.getD_eq_getElem?_getD, hx] at this
    exact this

/-- The slices among the arguments, and the blocks behind them. -/
inductive FA (k : IntKind) (es : Nat) : V → Heap → List Int → Prop
  | nil : FA k es .nils [] []
  | emp : FA k es .emp [] []
  | sl (o n : Nat) (c : List Int) (h : c.length = n * es) : FA k es (.sl 0 o n) [fblk o (nums k c)] c

theorem Foreign.one {ρ : Nat → Nat} {W : World} {v : Value} {n es : Nat} {k : IntKind} {c : List Int} (z : Foreign W v n k c) (hes : c.length = n * es) :
    ∃ (a : V) (h : Heap) (m : Mp), FA k es a h c ∧ VR ρ m a v ∧ Inv ρ (Rcall m h W) m (fun i => i < h.length) h W ∧ (∀ i ∈ a.ids, i < h.length) ∧ ∀ b ∈ h, b.pr = none := by
  have inv0 : Inv ρ (Rcall mp0 [] W) mp0 (fun i => i < ([] : Heap).length) [] W :=
    ⟨fun i b hi => absurd hi (by simp), fun i hi => absurd hi (by simp), fun i j bi bj hi => absurd hi (by simp), fun i b p hi => absurd hi (by simp), fun i b hi => absurd hi (by simp), fun i b hi => absurd hi (by simp), fun r hr o => .inl hr,
      fun i b hi => absurd hi (by simp), fun i b hi => absurd hi (by simp)⟩
  rcases z with ⟨rfl, rfl, rfl⟩ | ⟨a, rfl, rfl, rfl⟩ | ⟨b, o, cap, cs, el, fz, rfl, hn, h1, h2, h3⟩
  · exact ⟨.nils, [], mp0, .nil, by simp only [VR], inv0, by simp [V.ids], by simp⟩
  · exact ⟨.emp, [], mp0, .emp, by simp only [VR]; exact ⟨a, rfl⟩, inv0, by simp [V.ids], by simp⟩
  · refine ⟨.sl 0 o n, _, ⟨fun _ => b, fun _ => cs.size, fun _ => 0⟩, .sl o n c hes, ?_, ?_, by simp [V.ids], by simp⟩
    · simp only [VR]; exact .inl ⟨cap, rfl, hn, by omega⟩
    · have key : ∀ (i : Nat) (x : Blk), i < [fblk o (nums k c)].length → [fblk o (nums k c)][i]? = some x → x = fblk o (nums k c) := by
        intro i x hi hx
        obtain rfl : i = 0 := by simpa using hi
        exact (Option.some.inj hx).symm
      obtain ⟨q1, q2⟩ := fblk_blk (ρ := ρ) (m := ⟨fun _ => b, fun _ => cs.size, fun _ => 0⟩) h2 h3
      refine ⟨fun i x hi hx => ?_, fun i hi => ⟨_, List.getElem?_eq_getElem hi⟩, fun i j bi bj hi hj hbi hbj _ => ?_, fun i x p hi hx hp => ?_, fun i x hi hx _ => ?_, fun i x hi hx j hj => ?_, fun r hr o => .inl hr, fun i x hi hx => ?_, fun i x hi hx he => ?_⟩
      · obtain rfl := key i x hi hx
        exact ⟨cs, el, fz, h1, rfl, rfl, q1, q2, fun h => absurd h (by simp)⟩
      · rw [key i bi hi hbi, key j bj hj hbj]
      · rw [key i x hi hx] at hp; simp at hp
      · rw [key i x hi hx]; exact fblk_ids _ _ _
      · rw [key i x hi hx, fblk_ids] at hj; simp at hj
      · rw [key i x hi hx]; simp
      · rw [key i x hi hx] at he; exact absurd rfl he

/-- Two slices among the arguments. -/
inductive FA2 (k : IntKind) (es : Nat) : V → V → Heap → List Int → List Int → Prop
  | l (a b : V) (h : Heap) (c d : List Int) : FA k es a h c → FA k es b [] d → FA2 k es a b h c d
  | r (a b : V) (h : Heap) (c d : List Int) : FA k es a [] c → FA k es b h d → FA2 k es a b h c d
  | b (o n o' n' : Nat) (c d : List Int) (h : c.length = n * es) (h' : d.length = n' * es) : FA2 k es (.sl 0 o n) (.sl 1 o' n') [fblk o (nums k c), fblk o' (nums k d)] c d

theorem Foreign.two {ρ : Nat → Nat} {W : World} {v v' : Value} {n n' es : Nat} {k : IntKind} {c d : List Int} (z : Foreign W v n k c) (z' : Foreign W v' n' k d) (hes : c.length = n * es) (hes' : d.length = n' * es) :
    ∃ (a a' : V) (h : Heap) (m : Mp), FA2 k es a a' h c d ∧ VR ρ m a v ∧ VR ρ m a' v' ∧ Inv ρ (Rcall m h W) m (fun i => i < h.length) h W ∧ (∀ i ∈ a.ids ++ a'.ids, i < h.length) ∧ ∀ b ∈ h, b.pr = none := by
  have small : ∀ {v : Value} {n : Nat} {c : List Int}, (v = .slice none 0 0 ∧ n = 0 ∧ c = []) ∨ (∃ a, v = .slice (some a) 0 0 ∧ n = 0 ∧ c = []) → ∃ a : V, FA k es a [] c ∧ (∀ m, VR ρ m a v) ∧ a.ids = [] := by
    intro v n c hh
    rcases hh with ⟨rfl, rfl, rfl⟩ | ⟨a, rfl, rfl, rfl⟩
    · exact ⟨.nils, .nil, fun m => by simp only [VR], by simp [V.ids]⟩
    · exact ⟨.emp, .emp, fun m => by simp only [VR]; exact ⟨a, rfl⟩, by simp [V.ids]⟩
  have z0 := z
  have z0' := z'
  rcases z with hz | hz | ⟨b, o, cap, cs, el, fz, rfl, hn, h1, h2, h3⟩
  · obtain ⟨a, f1, f2, f3⟩ := small (.inl hz)
    obtain ⟨a', h, m, g1, g2, g3, g4, g5⟩ := z0'.one (ρ := ρ) hes'
    exact ⟨a, a', h, m, .r a a' h c d f1 g1, f2 m, g2, g3, by rw [f3]; exact g4, g5⟩
  · obtain ⟨a, f1, f2, f3⟩ := small (.inr hz)
    obtain ⟨a', h, m, g1, g2, g3, g4, g5⟩ := z0'.one (ρ := ρ) hes'
    exact ⟨a, a', h, m, .r a a' h c d f1 g1, f2 m, g2, g3, by rw [f3]; exact g4, g5⟩
  rcases z' with hz | hz | ⟨b', o', cap', cs', el', fz', rfl, hn', h1', h2', h3'⟩
  · obtain ⟨a', f1, f2, f3⟩ := small (.inl hz)
    obtain ⟨a, h, m, g1, g2, g3, g4, g5⟩ := z0.one (ρ := ρ) hes
    exact ⟨a, a', h, m, .l a a' h c d g1 f1, g2, f2 m, g3, by rw [f3]; simpa using g4, g5⟩
  · obtain ⟨a', f1, f2, f3⟩ := small (.inr hz)
    obtain ⟨a, h, m, g1, g2, g3, g4, g5⟩ := z0.one (ρ := ρ) hes
    exact ⟨a, a', h, m, .l a a' h c d g1 f1, g2, f2 m, g3, by rw [f3]; simpa using g4, g5⟩
  refine ⟨.sl 0 o n, .sl 1 o' n', _, ⟨fun i => if i = 0 then b else b', fun i => if i = 0 then cs.size else cs'.size, fun _ => 0⟩, .b o n o' n' c d hes hes', ?_, ?_, ?_, by simp [V.ids], by simp⟩
  · simp only [VR]; exact .inl ⟨cap, rfl, hn, by simp; omega⟩
  · simp only [VR]; exact .inl ⟨cap', rfl, hn', by simp; omega⟩
  · have key : ∀ (i : Nat) (x : Blk), i < [fblk o (nums k c), fblk o' (nums k d)].length → [fblk o (nums k c), fblk o' (nums k d)][i]? = some x → (i = 0 ∧ x = fblk o (nums k c)) ∨ (i = 1 ∧ x = fblk o' (nums k d)) := by
      intro i x hi hx
      have : i = 0 ∨ i = 1 := by simp at hi; omega
      rcases this with rfl | rfl
      · exact .inl ⟨rfl, (Option.some.inj hx).symm⟩
      · exact .inr ⟨rfl, (Option.some.inj hx).symm⟩
    refine ⟨fun i x hi hx => ?_, fun i hi => ⟨_, List.getElem?_eq_getElem hi⟩, fun i j bi bj hi hj hbi hbj _ => ?_, fun i x p hi hx hp => ?_, fun i x hi hx _ => ?_, fun i x hi hx j hj => ?_, fun r hr o => .inl hr, fun i x hi hx => ?_, fun i x hi hx he => ?_⟩
    · rcases key i x hi hx with ⟨rfl, rfl⟩ | ⟨rfl, rfl⟩
      · obtain ⟨q1, q2⟩ := fblk_blk (ρ := ρ) (m := ⟨fun i => if i = 0 then b else b', fun i => if i = 0 then cs.size else cs'.size, fun _ => 0⟩) h2 h3
        exact ⟨cs, el, fz, h1, rfl, rfl, q1, q2, fun h => absurd h (by simp)⟩
      · obtain ⟨q1, q2⟩ := fblk_blk (ρ := ρ) (m := ⟨fun i => if i = 0 then b else b', fun i => if i = 0 then cs.size else cs'.size, fun _ => 0⟩) h2' h3'
        exact ⟨cs', el', fz', h1', rfl, rfl, q1, q2, fun h => absurd h (by simp)⟩
    · rcases key i bi hi hbi with ⟨_, rfl⟩ | ⟨_, rfl⟩ <;> rcases key j bj hj hbj with ⟨_, rfl⟩ | ⟨_, rfl⟩ <;> rfl
    · rcases key i x hi hx with ⟨_, rfl⟩ | ⟨_, rfl⟩ <;> simp at hp
    · rcases key i x hi hx with ⟨_, rfl⟩ | ⟨_, rfl⟩ <;> exact fblk_ids _ _ _
    · rcases key i x hi hx with ⟨_, rfl⟩ | ⟨_, rfl⟩ <;> (rw [fblk_ids] at hj; simp at hj)
    · rcases key i x hi hx with ⟨_, rfl⟩ | ⟨_, rfl⟩ <;> simp
    · rcases key i x hi hx with ⟨_, rfl⟩ | ⟨_, rfl⟩ <;> exact absurd rfl he

/-- From the cells of a row. -/
theorem foreign_of {W : World} {a : Addr} {n cap : Nat} {k : IntKind} {c : List Int} (hn : n ≤ cap) (es : Nat) (hes : 0 < es) (hc : c.length = n * es) (hcap : 0 < cap → ∃ x, W.cell? a = some x)
    (hcell : ∀ j, j < c.length → W.cell? (a.add j) = some (.int k (c.getD j 0))) : Foreign W (.slice (some a) n cap) n k c := by
  by_cases h0 : cap = 0
  · subst h0
    obtain rfl : n = 0 := by omega
    have : c = [] := List.length_eq_zero_iff.mp (by simpa using hc)
    exact .inr (.inl ⟨a, rfl, rfl, this⟩)
  · obtain ⟨x, hx⟩ := hcap (by omega)
    obtain ⟨b, o, s⟩ := a
    have hs : s = none := by
      cases s with
      | none => rfl
      | some s =>
        simp only [World.cell?] at hx
        split at hx <;> simp at hx
    subst hs
    simp only [World.cell?] at hx
    split at hx
    · rename_i cs el fz hb
      simp at hx
      have hx := (Array.getElem?_eq_some_iff.mp hx).1
      refine .inr (.inr ⟨b, o, cap, cs, el, fz, rfl, hn, hb, ?_, fun j hj => ?_⟩)
      · by_cases hl : c.length = 0
        · omega
        · have := hcell (c.length - 1) (by omega)
          have e1 : (Addr.add ⟨b, o, none⟩ (c.length - 1)).block = b := by unfold Addr.add; split <;> rfl
          have e2 : (Addr.add ⟨b, o, none⟩ (c.length - 1)).off = o + (c.length - 1) := by unfold Addr.add; split <;> simp_all
          have e3 : (Addr.add ⟨b, o, none⟩ (c.length - 1)).spot = none := by unfold Addr.add; split <;> rfl
          simp only [World.cell?, e1, e2, e3, hb] at this
          simp at this
          have := (Array.getElem?_eq_some_iff.mp this).1
          omega
      · have := hcell j hj
        have e1 : (Addr.add ⟨b, o, none⟩ j).block = b := by unfold Addr.add; split <;> rfl
        have e2 : (Addr.add ⟨b, o, none⟩ j).off = o + j := by unfold Addr.add; split <;> simp_all
        have e3 : (Addr.add ⟨b, o, none⟩ j).spot = none := by unfold Addr.add; split <;> rfl
        simp only [World.cell?, e1, e2, e3, hb] at this
        simpa using this
    · simp at hx
end Go.Proofs.Ytokoboflpaklaaa.Mi
namespace Go.Proofs.Ytokoboflpaklaaa.Mi
open Go
/-- Pairs in a row. -/
def flat2 (p : Nat → Int × Int) : Nat → List Int
  | 0 => []
  | n + 1 => flat2 p n ++ [(p n).1, (p n).2]
theorem flat2_len (p : Nat → Int × Int) : ∀ n, (flat2 p n).length = n * 2
  | 0 => rfl
  | n + 1 => by rw [flat2, List.length_append, flat2_len p n]; simp; omega
theorem flat2_get (p : Nat → Int × Int) : ∀ (n i : Nat), i < n → (flat2 p n)[2 * i]? = some (p i).1 ∧ (flat2 p n)[2 * i + 1]? = some (p i).2
  | 0, i, h => by omega
  | n + 1, i, h => by
    have hl := flat2_len p n
    rw [flat2]
    by_cases e : i = n
    · subst e
      rw [List.getElem?_append_right (by omega), List.getElem?_append_right (by omega), hl, show 2 * i - i * 2 = 0 by omega, show 2 * i + 1 - i * 2 = 1 by omega]
      exact ⟨rfl, rfl⟩
    · rw [List.getElem?_append_left (by omega), List.getElem?_append_left (by omega)]
      exact flat2_get p n i (by omega)
theorem foreign_of2 {W : World} {a : Addr} {n cap : Nat} {k : IntKind} {p : Nat → Int × Int} (hn : n ≤ cap) (hcap : 0 < cap → ∃ x, W.cell? a = some x)
    (hcell : ∀ i, i < n → W.cell? (a.add (i * 2)) = some (.int k (p i).1) ∧ W.cell? (a.add (i * 2 + 1)) = some (.int k (p i).2)) : Foreign W (.slice (some a) n cap) n k (flat2 p n) := by
  refine foreign_of hn 2 (by omega) (flat2_len p n) hcap fun j hj => ?_
  rw [flat2_len] at hj
  obtain ⟨h1, h2⟩ := hcell (j / 2) (by omega)
  obtain ⟨g1, g2⟩ := flat2_get p n (j / 2) (by omega)
  by_cases e : j % 2 = 0
  · have : j = 2 * (j / 2) := by omega
    rw [List.getD_eq_getElem?_getD, this, g1, show 2 * (j / 2) = j / 2 * 2 by omega, h1]; rfl
  · have : j = 2 * (j / 2) + 1 := by omega
    rw [List.getD_eq_getElem?_getD, this, g2, show 2 * (j / 2) + 1 = j / 2 * 2 + 1 by omega, h2]; rfl
end Go.Proofs.Ytokoboflpaklaaa.Mi
