/- Each operation of the small machine stands for the program's. -/
import Derived.Laws.StructEq
import Derived.Tactics
import Derived.Test.YtokoboflpaklaaaMiA
set_option linter.unusedVariables false
set_option linter.unusedSimpArgs false
set_option linter.unusedSectionVars false
namespace Go.Proofs.Ytokoboflpaklaaa.Mi
open Go

section
variable {C : Cx} {R : Nat → Nat → Prop} {m : Mp} {D : Nat → Prop} {e : Env} {h : Heap} {A : List Ans} {K : V → Heap → List Ans → Prop} {W : World} {a : Act} {Cl : Calls'}
  {dst : Option Tmp} {ty : TypeId} {pos : String} {aft : Array Edge} {gd : Option (Nat × Bool)}

theorem equalIn_nil (d : Nat) {t el : TypeId} (he : C.P.underlying t = some (.slice el)) (b : Option Addr) (n c : Nat) :
    (Op.equalIn (d + 1) t (.slice b n c) (.slice none 0 0)).run C.P W = .ok b.isNone W := by
  cases b <;> simp [Op.equalIn, run_under he]

theorem equalIn_bool (d : Nat) {t : TypeId} (he : C.P.underlying t = some .bool) (p q : Bool) :
    (Op.equalIn (d + 1) t (.bool p) (.bool q)).run C.P W = .ok (p == q) W := by
  simp [Op.equalIn, run_under he]

theorem equal_of {t : TypeId} {x y : Value} {r : Bool} (hh : (Op.equalIn (9999 + 1) t x y).run C.P W = .ok r W) : (Op.equal t x y).run C.P W = .ok r W := hh

theorem run_eqop (neg : Bool) {t t' : TypeId} {x y : Operand} {r : Bool} (hg : (eqGuard (if neg then .neq else .eql) t x y (a.eval x) (a.eval y)).run C.P W = .ok () W)
    (hb : binOp (if neg then .neq else .eql) t (a.eval x) (a.eval y) = (if neg then (do let z ← Op.equal t (a.eval x) (a.eval y); pure (.bool (!z))) else (do let z ← Op.equal t (a.eval x) (a.eval y); pure (.bool z))))
    (he : (Op.equal t (a.eval x) (a.eval y)).run C.P W = .ok r W) :
    (execOp a.eval ⟨dst, .binOp (if neg then .neq else .eql) t x y t', ty, pos, aft, gd⟩).run C.P W = .ok (.value (.bool (r != neg))) W := by
  show ((do let v ← (do eqGuard (if neg then .neq else .eql) t x y (a.eval x) (a.eval y); binOp (if neg then .neq else .eql) t (a.eval x) (a.eval y)); pure (.value v) : Sem Next)).run C.P W = _
  rw [Sem.run_bind, Sem.run_bind, hg, Result.andThen_ok, hb]
  cases neg <;> simp [he]

theorem guard_eq (neg : Bool) {t : TypeId} {x y : Operand} {u v : Value} (hu : ∀ z, u ≠ .agg z) (hn : u ≠ .nilIface) : (eqGuard (if neg then .neq else .eql) t x y u v).run C.P W = .ok () W := by
  cases u <;> first | (exact absurd rfl (hu _)) | (exact absurd rfl hn) | (cases neg <;> cases v <;> rfl)

theorem s_isnil {neg : Bool} {t t' el : TypeId} {x y : Operand} {x' : X} (he : C.P.underlying t = some (.slice el)) (hx : cX C x = some x') (hy : cX C y = some (.k .nils))
    (hE : ER C.ρ m D e a (fun t' => .tmp t' ∈ (Op.binOp (if neg then .neq else .eql) t x y t').operands)) (hI : Inv C.ρ R m D h W) (hk : opK Cl (.isnil neg x') e h A K) :
    Goal C R m D h W a ⟨dst, .binOp (if neg then .neq else .eql) t x y t', ty, pos, aft, gd⟩ K := by
  obtain ⟨q1, _⟩ := ev_ok (a := a) (m := m) (D := D) (v := .nils) hy rfl hE (by rintro t rfl; simp [Op.operands])
  simp only [VR] at q1
  have run : ∀ (b : Option Addr) (n c : Nat), a.eval x = .slice b n c → (execOp a.eval ⟨dst, .binOp (if neg then .neq else .eql) t x y t', ty, pos, aft, gd⟩).run C.P W = .ok (.value (.bool (b.isNone != neg))) W := by
    intro b n c hb
    refine run_eqop neg (by rw [hb]; exact guard_eq neg (by simp) (by simp)) ?_ (by rw [hb, q1]; exact equal_of (equalIn_nil _ he b n c))
    rw [hb, q1]; cases neg <;> rfl
  simp only [opK] at hk
  split at hk
  · rename_i hv
    obtain ⟨h1, _⟩ := ev_ok hx hv hE (by rintro t rfl; simp [Op.operands])
    simp only [VR] at h1
    exact ⟨_, h, A, hk, OKop.pure hI (run _ _ _ h1) (by simp [VR]) (by simp [V.ids])⟩
  · rename_i hv
    obtain ⟨h1, _⟩ := ev_ok hx hv hE (by rintro t rfl; simp [Op.operands])
    simp only [VR] at h1
    rcases h1 with ⟨c, h1, _⟩ | ⟨_, c, h1⟩ <;> exact ⟨_, h, A, hk, OKop.pure hI (run _ _ _ h1) (by simp [VR]) (by simp [V.ids])⟩
  · rename_i hv
    obtain ⟨h1, _⟩ := ev_ok hx hv hE (by rintro t rfl; simp [Op.operands])
    simp only [VR] at h1
    obtain ⟨c, h1⟩ := h1
    exact ⟨_, h, A, hk, OKop.pure hI (run _ _ _ h1) (by simp [VR]) (by simp [V.ids])⟩
  · exact hk.elim

theorem s_eqb {neg : Bool} {t t' : TypeId} {x y : Operand} {x' y' : X} (he : C.P.underlying t = some .bool) (hx : cX C x = some x') (hy : cX C y = some y')
    (hE : ER C.ρ m D e a (fun t' => .tmp t' ∈ (Op.binOp (if neg then .neq else .eql) t x y t').operands)) (hI : Inv C.ρ R m D h W) (hk : opK Cl (.eqb neg x' y') e h A K) :
    Goal C R m D h W a ⟨dst, .binOp (if neg then .neq else .eql) t x y t', ty, pos, aft, gd⟩ K := by
  simp only [opK] at hk
  split at hk
  · rename_i p hv
    obtain ⟨h1, _⟩ := ev_ok hx hv hE (by rintro t rfl; simp [Op.operands])
    split at hk
    · rename_i q hw
      obtain ⟨h3, _⟩ := ev_ok hy hw hE (by rintro t rfl; simp [Op.operands])
      simp only [VR] at h1 h3
      split at hk
      · rename_i r A'
        obtain ⟨hr, hk⟩ := hk
        refine ⟨_, h, A', hk, OKop.pure (u := .bool r) hI ?_ (by simp [VR]) (by simp [V.ids])⟩
        have : r = ((p == q) != neg) := by rw [hr]; cases r <;> cases neg <;> rfl
        subst this
        refine run_eqop neg (by rw [h1]; exact guard_eq neg (by simp) (by simp)) ?_ (by rw [h1, h3]; exact equal_of (equalIn_bool _ he p q))
        rw [h1, h3]; cases neg <;> rfl
      · exact hk.elim
    · exact hk.elim
  · exact hk.elim

theorem run_call_builtin {c : Call} {b : Builtin} {u : Value} (hc : c.callee = .builtin b)
    (hr : ∀ cs, (builtin b c.argTypes ty cs (c.args.map a.eval)).run C.P W = .ok (.value u) W) :
    (execOp a.eval ⟨dst, .call c, ty, pos, aft, gd⟩).run C.P W = .ok (.value u) W := by
  obtain ⟨callee, args, argTypes⟩ := c
  simp only at hc
  subst hc
  simp [execOp, resolve, invoke, hr]

theorem s_len {c : Call} {x : Operand} {x' : X} {t el : TypeId} (hc : c.callee = .builtin .len) (hargs : c.args.toList = [x]) (ht : c.argTypes[0]? = some t)
    (hu : C.P.underlying t = some (.slice el)) (hx : cX C x = some x')
    (hE : ER C.ρ m D e a (fun t' => .tmp t' ∈ (Op.call c).operands)) (hI : Inv C.ρ R m D h W) (hk : opK Cl (.len x') e h A K) :
    Goal C R m D h W a ⟨dst, .call c, ty, pos, aft, gd⟩ K := by
  have hargs' : c.args = #[x] := by apply Array.ext'; simpa using hargs
  have hT : ∀ t', x = .tmp t' → Operand.tmp t' ∈ (Op.call c).operands := by
    rintro t' rfl; simp only [Op.operands, Call.operands, hargs', Array.mem_append]; exact .inr (by simp)
  have run : ∀ b (n k : Nat), a.eval x = .slice b n k → (execOp a.eval ⟨dst, .call c, ty, pos, aft, gd⟩).run C.P W = .ok (.value (.int .i64 n)) W := by
    rintro b n k hb
    refine run_call_builtin hc fun cs => ?_
    simp [builtin, hargs', Builtin.len_, ht, hb, run_under hu, goInt]
  simp only [opK] at hk
  split at hk
  · rename_i hv
    obtain ⟨h1, _⟩ := ev_ok hx hv hE hT
    simp only [VR] at h1
    rcases h1 with ⟨k, h1, _⟩ | ⟨rfl, k, h1⟩ <;> exact ⟨_, h, A, hk, OKop.pure hI (run _ _ _ h1) (by simp [VR]) (by simp [V.ids])⟩
  · rename_i hv
    obtain ⟨h1, _⟩ := ev_ok hx hv hE hT
    simp only [VR] at h1
    exact ⟨_, h, A, hk, OKop.pure hI (run _ _ _ h1) (by simp [VR]) (by simp [V.ids])⟩
  · rename_i hv
    obtain ⟨h1, _⟩ := ev_ok hx hv hE hT
    simp only [VR] at h1
    obtain ⟨b, h1⟩ := h1
    exact ⟨_, h, A, hk, OKop.pure hI (run _ _ _ h1) (by simp [VR]) (by simp [V.ids])⟩
  · exact hk.elim

theorem s_slen {c : Call} {x : Operand} {x' : X} {t : TypeId} (hc : c.callee = .builtin .len) (hargs : c.args.toList = [x]) (ht : c.argTypes[0]? = some t)
    (hu : C.P.underlying t = some .string) (hx : cX C x = some x')
    (hE : ER C.ρ m D e a (fun t' => .tmp t' ∈ (Op.call c).operands)) (hI : Inv C.ρ R m D h W) (hk : opK Cl (.slen x') e h A K) :
    Goal C R m D h W a ⟨dst, .call c, ty, pos, aft, gd⟩ K := by
  have hargs' : c.args = #[x] := by apply Array.ext'; simpa using hargs
  have hT : ∀ t', x = .tmp t' → Operand.tmp t' ∈ (Op.call c).operands := by
    rintro t' rfl; simp only [Op.operands, Call.operands, hargs', Array.mem_append]; exact .inr (by simp)
  simp only [opK] at hk
  split at hk
  · rename_i s hv
    obtain ⟨h1, _⟩ := ev_ok hx hv hE hT
    simp only [VR] at h1
    refine ⟨_, h, A, hk, OKop.pure (u := .int .i64 s.size) hI (run_call_builtin hc fun cs => ?_) (by simp [VR]) (by simp [V.ids])⟩
    simp [builtin, hargs', Builtin.len_, ht, h1, run_under hu, goInt]
  · exact hk.elim

theorem s_cap {c : Call} {x : Operand} {x' : X} {t el : TypeId} (hc : c.callee = .builtin .cap) (hargs : c.args.toList = [x]) (ht : c.argTypes[0]? = some t)
    (hu : C.P.underlying t = some (.slice el)) (hx : cX C x = some x')
    (hE : ER C.ρ m D e a (fun t' => .tmp t' ∈ (Op.call c).operands)) (hI : Inv C.ρ R m D h W) (hk : opK Cl (.cap x') e h A K) :
    Goal C R m D h W a ⟨dst, .call c, ty, pos, aft, gd⟩ K := by
  have hargs' : c.args = #[x] := by apply Array.ext'; simpa using hargs
  have hT : ∀ t', x = .tmp t' → Operand.tmp t' ∈ (Op.call c).operands := by
    rintro t' rfl; simp only [Op.operands, Call.operands, hargs', Array.mem_append]; exact .inr (by simp)
  have run : ∀ b (n : Nat), a.eval x = .slice b n 0 → (execOp a.eval ⟨dst, .call c, ty, pos, aft, gd⟩).run C.P W = .ok (.value (.int .i64 0)) W := by
    rintro b n hb
    refine run_call_builtin hc fun cs => ?_
    simp [builtin, hargs', Builtin.cap_, ht, hb, run_under hu, goInt]
  simp only [opK] at hk
  split at hk
  · rename_i hv
    obtain ⟨h1, _⟩ := ev_ok hx hv hE hT
    simp only [VR] at h1
    exact ⟨_, h, A, hk, OKop.pure hI (run _ _ h1) (by simp [VR]) (by simp [V.ids])⟩
  · rename_i hv
    obtain ⟨h1, _⟩ := ev_ok hx hv hE hT
    simp only [VR] at h1
    obtain ⟨b, h1⟩ := h1
    exact ⟨_, h, A, hk, OKop.pure hI (run _ _ h1) (by simp [VR]) (by simp [V.ids])⟩
  · exact hk.elim

theorem s_mm {c : Call} {mx : Bool} {xs : List X} (hc : c.callee = .builtin (if mx then .max else .min)) (hx : mapO (cX C) c.args.toList = some xs)
    (hE : ER C.ρ m D e a (fun t' => .tmp t' ∈ (Op.call c).operands)) (hI : Inv C.ρ R m D h W) (hk : opK Cl (.mm mx xs) e h A K) :
    Goal C R m D h W a ⟨dst, .call c, ty, pos, aft, gd⟩ K := by
  simp only [opK] at hk
  split at hk
  · rename_i k p k' q hv
    obtain ⟨h1, _⟩ := evs_ok hx hv hE (by intro t ht; simp only [Op.operands, Call.operands, Array.mem_append]; exact .inr (by simpa using ht))
    simp only [VRL] at h1
    obtain ⟨y1, ys1, e1, r1, y2, ys2, e2, r2, e3⟩ := h1
    subst e3 e2
    simp only [VR] at r1 r2
    subst r1 r2
    have hargs : (c.args.map a.eval).toList = [.int k p, .int k' q] := by simpa using e1
    split at hk
    · rename_i kr r A'
      obtain ⟨⟨rfl, rfl, hr⟩, hk⟩ := hk
      refine ⟨_, h, A', hk, OKop.pure (u := .int kr r) hI (run_call_builtin hc fun cs => ?_) (by simp [VR]) (by simp [V.ids])⟩
      subst hr
      have e1' : (c.args.map a.eval) = #[.int kr p, .int kr q] := by apply Array.ext'; simpa using hargs
      rw [e1']
      cases mx <;> simp [builtin, Builtin.min_, Builtin.max_, Builtin.min2, Builtin.max2]
    · exact hk.elim
  · exact hk.elim

theorem s_empt {t el : TypeId} {s : Nat} {ps : Array (Nat × Operand)} (he : elemT C.P t = some el) (hs : sizeT C.P el = some s) (hp : ps.size = 0)
    (hI : Inv C.ρ R m D h W) (hk : opK Cl .empt e h A K) : Goal C R m D h W a ⟨dst, .buildSlice t 0 ps, ty, pos, aft, gd⟩ K := by
  obtain rfl : ps = #[] := Array.eq_empty_of_size_eq_zero hp
  have hI' : Inv C.ρ R m D h { W with heap := W.heap.push (.cells #[] el (0, 0)) } := by
    refine ⟨fun i b hi hb => ?_, hI.dom, hI.cls, hI.rts, hI.flat, hI.ids, fun r hr o => hI.fresh r (by simp at hr; omega) o, hI.clb, hI.atm⟩
    obtain ⟨cs, el', fz, g1, g2⟩ := hI.blk i b hi hb
    refine ⟨cs, el', fz, ?_, g2⟩
    have := hI.lt hi
    simp only; rw [Array.getElem?_push, if_neg (by omega)]; exact g1
  have eD : (fun i => D i ∨ (h.length ≤ i ∧ i < h.length)) = D := by
    funext i; apply propext; constructor
    · rintro (h | h); exact h; omega
    · exact .inl
  refine ⟨.emp, h, A, hk, OKop.val (u := .slice (some ⟨W.heap.size, 0, none⟩) 0 0) (W' := { W with heap := W.heap.push (.cells #[] el (0, 0)) }) (m' := m) ?_
    ⟨by simp only [VR]; exact ⟨_, rfl⟩, by simp [V.ids], by rw [eD]; exact hI', Keep.alloc _ _ _, fun i _ => m.same_refl i, Nat.le_refl _,
      fun i b b' h1 h2 => by rw [h1] at h2; obtain rfl := Option.some.inj h2; exact ⟨rfl, rfl⟩, fun i b hi hb => by rw [List.getElem?_eq_none hi] at hb; simp at hb⟩⟩
  have : (Array.range 0).map (fun _ => (default : Value)) = #[] := by apply Array.ext'; simp
  simp [execOp, Instr.buildSlice, run_under (elemT_ok he), run_size hs, Instr.fill, newRow, this]

theorem s_index {t : TypeId} {x y : Operand} {x' y' : X} (hu : C.P.underlying t = some .string) (hx : cX C x = some x') (hy : cX C y = some y')
    (hE : ER C.ρ m D e a (fun t' => .tmp t' ∈ (Op.index t x y).operands)) (hI : Inv C.ρ R m D h W) (hk : opK Cl (.index x' y') e h A K) : Goal C R m D h W a ⟨dst, .index t x y, ty, pos, aft, gd⟩ K := by
  simp only [opK] at hk
  split at hk
  · rename_i s hv
    obtain ⟨h1, _⟩ := ev_ok hx hv hE (by rintro t rfl; simp [Op.operands])
    split at hk
    · rename_i k z hz
      obtain ⟨h3, _⟩ := ev_ok hy hz hE (by rintro t rfl; simp [Op.operands])
      simp only [VR] at h1 h3
      split at hk
      · rename_i r A'
        obtain ⟨⟨q1, q2⟩, hk⟩ := hk
        refine ⟨_, h, A', hk, OKop.pure (u := .int .u8 r) hI ?_ (by simp [VR]) (by simp [V.ids])⟩
        cases hb : s[z.toNat]? with
        | none => rw [hb] at q2; simp at q2
        | some b => rw [hb] at q2; simp at q2; subst q2; simp [execOp, Instr.index, run_under hu, h1, h3, asIntOf, q1, hb]
      · exact hk.elim
    · exact hk.elim
  · exact hk.elim
end
end Go.Proofs.Ytokoboflpaklaaa.Mi
namespace Go.Proofs.Ytokoboflpaklaaa.Mi
open Go

section
variable {C : Cx} {R : Nat → Nat → Prop} {m : Mp} {D : Nat → Prop} {e : Env} {h : Heap} {A : List Ans} {K : V → Heap → List Ans → Prop} {W : World} {a : Act} {Cl : Calls'}
  {dst : Option Tmp} {ty : TypeId} {pos : String} {aft : Array Edge} {gd : Option (Nat × Bool)}

theorem run_sliceBound {x : Value} {k : IntKind} {z : Int} {y : Nat} {code : BoundsCode} (hx : x = .int k z) (h0 : 0 ≤ z) (h1 : z ≤ y) : (Instr.sliceBound x y code).run C.P W = .ok z.toNat W := by
  subst hx
  simp [Instr.sliceBound, asIntOf, h0, h1]

/-- Lower and upper bound of a cut, as the machine reckons them. -/
theorem run_bounds {sl : Bool} {len cap : Nat} {lo hi : Option Operand} {l' h' : List X} {l u : List V} (hl : mapO (cX C) lo.toList = some l') (hh : mapO (cX C) hi.toList = some h')
    (hle : evs e l'.head?.toList = some l) (hue : evs e h'.head?.toList = some u) (hEl : ∀ x, lo = some x → ∀ v x', cX C x = some x' → x'.ev e = some v → VR C.ρ m v (a.eval x))
    (hEh : ∀ x, hi = some x → ∀ v x', cX C x = some x' → x'.ev e = some v → VR C.ρ m v (a.eval x))
    {p q : Int} (hp : l = [] ∧ p = 0 ∨ ∃ k, l = [.int k p]) (hq : u = [] ∧ q = len ∨ ∃ k, u = [.int k q]) (h0 : 0 ≤ p) (h1 : p ≤ q) (h2 : q ≤ len) (hc : len ≤ cap) :
    (Instr.sliceBounds sl len cap (lo.map a.eval) (hi.map a.eval) none).run C.P W = .ok (p.toNat, q.toNat, cap) W := by
  have low : ∀ y : Nat, q.toNat = y → (match lo.map a.eval with | some v => Instr.sliceBound v y .sliceB | none => pure 0 : Sem Nat).run C.P W = .ok p.toNat W := by
    intro y hy
    cases lo with
    | none =>
      simp [mapO] at hl; subst hl
      simp [evs] at hle; subst hle
      rcases hp with ⟨_, rfl⟩ | ⟨k, hp⟩
      · simp
      · simp at hp
    | some x =>
      simp only [Option.toList, mapO] at hl
      split at hl
      · rename_i x' hx'
        obtain rfl := Option.some.inj hl
        simp only [List.head?_cons, Option.toList, evs] at hle
        split at hle
        · rename_i v hv
          obtain rfl := Option.some.inj hle
          rcases hp with ⟨hp, _⟩ | ⟨k, hp⟩
          · simp at hp
          · simp at hp; subst hp
            have := hEl x rfl _ x' hx' hv
            simp only [VR] at this
            exact run_sliceBound this h0 (by omega)
        · simp at hle
      · simp at hl
  have high : ∀ code, (match hi.map a.eval with | some v => Instr.sliceBound v cap code | none => pure len : Sem Nat).run C.P W = .ok q.toNat W := by
    intro code
    cases hi with
    | none =>
      simp [mapO] at hh; subst hh
      simp [evs] at hue; subst hue
      rcases hq with ⟨_, rfl⟩ | ⟨k, hp⟩
      · simp
      · simp at hp
    | some x =>
      simp only [Option.toList, mapO] at hh
      split at hh
      · rename_i x' hx'
        obtain rfl := Option.some.inj hh
        simp only [List.head?_cons, Option.toList, evs] at hue
        split at hue
        · rename_i v hv
          obtain rfl := Option.some.inj hue
          rcases hq with ⟨hp, _⟩ | ⟨k, hp⟩
          · simp at hp
          · simp at hp; subst hp
            have := hEh x rfl _ x' hx' hv
            simp only [VR] at this
            exact run_sliceBound this (by omega) (by omega)
        · simp at hue
      · simp at hh
  have hi1 := high (if sl = true then .sliceAcap else .sliceAlen)
  have lo1 := low q.toNat rfl
  clear low high
  unfold Instr.sliceBounds
  rcases hi with _ | y <;> rcases lo with _ | x <;> simp only [Option.map_none, Option.map_some, Sem.run_pure, Result.ok.injEq, and_true] at lo1 hi1 <;>
    simp [hi1, lo1]

theorem sl_ops {t : TypeId} {x : Operand} {lo hi mx : Option Operand} : (∀ t', x = .tmp t' → Operand.tmp t' ∈ (Op.slice t x lo hi mx).operands) ∧ (∀ y, lo = some y → ∀ t', y = .tmp t' → Operand.tmp t' ∈ (Op.slice t x lo hi mx).operands) ∧
    (∀ y, hi = some y → ∀ t', y = .tmp t' → Operand.tmp t' ∈ (Op.slice t x lo hi mx).operands) := by
  refine ⟨?_, ?_, ?_⟩
  · rintro t' rfl; simp [Op.operands]
  · rintro y rfl t' rfl; simp [Op.operands]
  · rintro y rfl t' rfl; simp [Op.operands]

theorem s_slice {t el : TypeId} {x : Operand} {x' : X} {lo hi : Option Operand} {l' h' : List X} {s : Nat} (hu : C.P.underlying t = some (.slice el)) (hs : sizeT C.P el = some s) (hx : cX C x = some x')
    (hl : mapO (cX C) lo.toList = some l') (hh : mapO (cX C) hi.toList = some h')
    (hE : ER C.ρ m D e a (fun t' => .tmp t' ∈ (Op.slice t x lo hi none).operands)) (hI : Inv C.ρ R m D h W) (hk : opK Cl (.slice s x' l'.head? h'.head?) e h A K) :
    Goal C R m D h W a ⟨dst, .slice t x lo hi none, ty, pos, aft, gd⟩ K := by
  obtain ⟨hT1, hT2, hT3⟩ := sl_ops (t := t) (x := x) (lo := lo) (hi := hi) (mx := none)
  simp only [opK] at hk
  split at hk
  · rename_i i o n hv
    obtain ⟨h1, h2⟩ := ev_ok hx hv hE hT1
    split at hk
    · rename_i l u hle hue
      split at hk
      · rename_i i' o' n' A'
        obtain ⟨⟨p, q, hp, hq, p0, pq, qn, rfl, rfl, hn', bk, hbk, hbes⟩, hk⟩ := hk
        have bnd : ∀ cap, n ≤ cap → (Instr.sliceBounds true n cap (lo.map a.eval) (hi.map a.eval) none).run C.P W = .ok (p.toNat, q.toNat, cap) W := fun cap hc =>
          run_bounds hl hh hle hue (fun y hy v y' hy' hv => (ev_ok hy' hv hE (hT2 y hy)).1) (fun y hy v y' hy' hv => (ev_ok hy' hv hE (hT3 y hy)).1) hp hq p0 pq qn hc
        simp only [VR] at h1
        rcases h1 with ⟨c, h1, hc1, hc2⟩ | ⟨rfl, b, h1⟩
        · refine ⟨_, h, A', hk, OKop.pure (u := .slice (if c = p.toNat then some ⟨m.b i', o, none⟩ else some ⟨m.b i', o + p.toNat * s, none⟩) (q.toNat - p.toNat) (c - p.toNat)) hI ?_ ?_ (by simpa [V.ids] using h2)⟩
          · simp [execOp, Instr.sliceAt, run_under hu, Instr.slice, h1, bnd c hc1, run_size hs, addr_add]
          · obtain ⟨_, _, _, _, _, hes, _⟩ := hI.blk i' bk (h2 i' (by simp [V.ids])) hbk
            rw [hbes] at hes
            have hqn : q.toNat - p.toNat = n' := by omega
            simp only [VR, hqn]
            by_cases hcp : c = p.toNat
            · simp only [hcp, if_true]
              have hn0 : n' = 0 := by omega
              rw [hn0, Nat.sub_self]
              exact .inr ⟨rfl, _, rfl⟩
            · simp only [hcp, if_false]
              refine .inl ⟨_, rfl, by omega, ?_⟩
              rw [hes] at hc2 ⊢
              have : p.toNat * s + (c - p.toNat) * s = c * s := by rw [← Nat.add_mul]; congr 1; omega
              omega
        · have hp0 : p = 0 := by omega
          have hq0 : q = 0 := by omega
          subst hp0 hq0
          have hn0 : n' = 0 := by omega
          subst hn0
          refine ⟨_, h, A', hk, OKop.pure (u := .slice (some b) 0 0) hI ?_ (by simp [VR]) (by simpa [V.ids] using h2)⟩
          simp [execOp, Instr.sliceAt, run_under hu, Instr.slice, h1, bnd 0 (Nat.le_refl _), run_size hs]
      · exact hk.elim
    · exact hk.elim
  · rename_i hv
    obtain ⟨h1, h2⟩ := ev_ok hx hv hE hT1
    split at hk
    · rename_i l u hle hue
      obtain ⟨⟨hl0, hu0⟩, hk⟩ := hk
      have hp : l = [] ∧ (0 : Int) = 0 ∨ ∃ k, l = [.int k 0] := hl0.imp (fun h => ⟨h, rfl⟩) id
      have hq : u = [] ∧ (0 : Int) = ((0 : Nat) : Int) ∨ ∃ k, u = [.int k 0] := hu0.imp (fun h => ⟨h, rfl⟩) id
      have bnd := run_bounds (W := W) (sl := true) hl hh hle hue (fun y hy v y' hy' hv => (ev_ok hy' hv hE (hT2 y hy)).1) (fun y hy v y' hy' hv => (ev_ok hy' hv hE (hT3 y hy)).1) hp hq (Int.le_refl _) (Int.le_refl _) (by simp) (Nat.le_refl 0)
      simp only [VR] at h1
      refine ⟨_, h, A, hk, OKop.pure (u := .slice none 0 0) hI ?_ (by simp [VR]) (by simp [V.ids])⟩
      simp [execOp, Instr.sliceAt, run_under hu, Instr.slice, h1, bnd, run_size hs]
    · exact hk.elim
  · exact hk.elim

theorem s_sslice {t : TypeId} {x : Operand} {x' : X} {lo hi : Option Operand} {l' h' : List X} (hu : C.P.underlying t = some .string) (hx : cX C x = some x')
    (hl : mapO (cX C) lo.toList = some l') (hh : mapO (cX C) hi.toList = some h')
    (hE : ER C.ρ m D e a (fun t' => .tmp t' ∈ (Op.slice t x lo hi none).operands)) (hI : Inv C.ρ R m D h W) (hk : opK Cl (.sslice x' l'.head? h'.head?) e h A K) :
    Goal C R m D h W a ⟨dst, .slice t x lo hi none, ty, pos, aft, gd⟩ K := by
  obtain ⟨hT1, hT2, hT3⟩ := sl_ops (t := t) (x := x) (lo := lo) (hi := hi) (mx := none)
  simp only [opK] at hk
  split at hk
  · rename_i s hv
    obtain ⟨h1, h2⟩ := ev_ok hx hv hE hT1
    simp only [VR] at h1
    split at hk
    · rename_i l u hle hue
      split at hk
      · rename_i r A'
        obtain ⟨⟨p, q, hp, hq, p0, pq, qn, hr⟩, hk⟩ := hk
        have bnd := run_bounds (C := C) (W := W) (sl := false) (len := s.size) (cap := s.size) hl hh hle hue (fun y hy v y' hy' hv => (ev_ok hy' hv hE (hT2 y hy)).1) (fun y hy v y' hy' hv => (ev_ok hy' hv hE (hT3 y hy)).1) hp hq p0 pq qn (Nat.le_refl _)
        refine ⟨_, h, A', hk, OKop.pure (u := .string (s.extract p.toNat q.toNat)) hI ?_ (by simp [VR, hr]) (by simp [V.ids])⟩
        simp [execOp, Instr.sliceAt, run_under hu, Instr.slice, h1, bnd]
      · exact hk.elim
    · exact hk.elim
  · exact hk.elim

theorem s_slice0 {t el : TypeId} {x : Operand} {x' : X} {k1 k2 : IntKind} (he : elemT C.P t = some el) (hx : cX C x = some x')
    (hsz : ∃ s, sizeT C.P el = some s)
    (hE : ER C.ρ m D e a (fun t' => .tmp t' ∈ (Op.slice t x none (some (.const (.int k1 0))) (some (.const (.int k2 0)))).operands)) (hI : Inv C.ρ R m D h W) (hk : opK Cl (.slice0 x') e h A K) :
    Goal C R m D h W a ⟨dst, .slice t x none (some (.const (.int k1 0))) (some (.const (.int k2 0))), ty, pos, aft, gd⟩ K := by
  obtain ⟨s, hs⟩ := hsz
  have hT : ∀ t', x = .tmp t' → Operand.tmp t' ∈ (Op.slice t x none (some (.const (.int k1 0))) (some (.const (.int k2 0)))).operands := by rintro t' rfl; simp [Op.operands]
  have run : ∀ b n c, a.eval x = .slice b n c → (execOp a.eval ⟨dst, .slice t x none (some (.const (.int k1 0))) (some (.const (.int k2 0))), ty, pos, aft, gd⟩).run C.P W = .ok (.value (.slice b 0 0)) W := by
    intro b n c hb
    have ec : ∀ k : IntKind, a.eval (.const (.int k 0)) = .int k 0 := fun _ => rfl
    cases b <;> simp [execOp, Instr.sliceAt, run_under (elemT_ok he), Instr.slice, hb, Instr.sliceBounds, ec, Instr.sliceBound, asIntOf, run_size hs]
  simp only [opK] at hk
  split at hk
  · rename_i hv
    obtain ⟨h1, _⟩ := ev_ok hx hv hE hT
    simp only [VR] at h1
    rcases h1 with ⟨c, h1, _⟩ | ⟨_, c, h1⟩ <;> exact ⟨_, h, A, hk, OKop.pure hI (run _ _ _ h1) (by simp [VR]) (by simp [V.ids])⟩
  · rename_i hv
    obtain ⟨h1, _⟩ := ev_ok hx hv hE hT
    simp only [VR] at h1
    obtain ⟨c, h1⟩ := h1
    exact ⟨_, h, A, hk, OKop.pure hI (run _ _ _ h1) (by simp [VR]) (by simp [V.ids])⟩
  · rename_i hv
    obtain ⟨h1, _⟩ := ev_ok hx hv hE hT
    simp only [VR] at h1
    exact ⟨_, h, A, hk, OKop.pure hI (run _ _ _ h1) (by simp [VR]) (by simp [V.ids])⟩
  · exact hk.elim

theorem s_make {t el : TypeId} {i : TypeInfo} {z : List V} {x y : Operand} {x' : X} (he : elemT C.P t = some el) (hi : C.P.info? el = some i) (hz : zeroT C.P el = some z) (hx : cX C x = some x') (hxy : sameOp x y = true)
    (hzl : z.length = i.size) (h0 : 0 < i.size) (hb0 : 0 < i.bytes)
    (hE : ER C.ρ m D e a (fun t' => .tmp t' ∈ (Op.makeSlice t x y).operands)) (hI : Inv C.ρ R m D h W) (hk : opK Cl (.make i.size i.bytes z x') e h A K) :
    Goal C R m D h W a ⟨dst, .makeSlice t x y, ty, pos, aft, gd⟩ K := by
  obtain ⟨i', zv, z1, z2, z3, z4, z5⟩ := zeroT_ok hz
  rw [hi] at z1
  obtain rfl := Option.some.inj z1
  have hxy' : y = x := by
    cases x <;> cases y <;> simp [sameOp] at hxy
    rw [hxy]
  subst hxy'
  have hzs : zv.cells.size = i.size := by have := (z3 m).length; simp at this; omega
  simp only [opK] at hk
  split at hk
  · rename_i n hv
    obtain ⟨h1, _⟩ := ev_ok hx hv hE (by rintro t rfl; simp [Op.operands])
    simp only [VR] at h1
    split at hk
    · rename_i l A'
      obtain ⟨⟨⟨n0, n1⟩, hl⟩, hk⟩ := hk
      have hcells : ((Array.range (n.toNat * i.size)).map fun j => (if n.toNat * i.size = 0 then #[] else zv.cells)[j % (if n.toNat * i.size = 0 then (#[] : Array Value) else zv.cells).size]!).toList = (List.replicate n.toNat zv.cells.toList).flatten := by
        by_cases hn : n.toNat * i.size = 0
        · have : n.toNat = 0 := by
            rcases Nat.mul_eq_zero.mp hn with h | h
            · exact h
            · omega
          simp [this]
        · simp only [hn, if_false]
          have := rep_cells zv.cells n.toNat (by omega)
          rw [hzs] at this ⊢
          exact this
      have hrel : VRL C.ρ m l ((Array.range (n.toNat * i.size)).map fun j => (if n.toNat * i.size = 0 then #[] else zv.cells)[j % (if n.toNat * i.size = 0 then (#[] : Array Value) else zv.cells).size]!).toList := by
        rw [hcells, hl]; exact VRL.rep (z3 m) _
      have hids : V.idsL l = [] := by rw [hl]; exact ids_rep z4 _
      have hsz := hrel.length
      have hll : l.length = n.toNat * i.size := by rw [hl]; simp [hzl]
      rw [hll] at hsz
      have hw : IntKind.i64.wrap n = n := by
        have : n ≤ 140737488355328 := by
          have h2 : n * 1 ≤ n * i.bytes := Int.mul_le_mul_of_nonneg_left (by omega) n0
          omega
        simp [IntKind.wrap, IntKind.bits, IntKind.signed]
        omega
      have hlarge : ¬ ((i.bytes : Int) * n > 2 ^ 48) := by rw [Int.mul_comm]; omega
      refine ⟨_, _, A', hk, OKop.val (u := .slice (some ⟨W.heap.size, 0, none⟩) n.toNat n.toNat) ?_ ((hI.allocV (el := el) (b := ⟨l, i.size, h.length, some 0, false⟩) hrel (by simp [hids]) (Nat.le_refl _) (fun _ => hids) (by rw [hl]; exact List.all_eq_true.mpr fun x hx => by obtain ⟨q, hq, hx⟩ := List.mem_flatten.mp hx; rw [(List.mem_replicate.mp hq).2] at hx; exact List.all_eq_true.mp z5 x hx)).post ?_ (by simp [V.ids]))⟩
      · simp only [execOp, Instr.makeSlice, Sem.run_bind, run_under (elemT_ok he), Result.andThen_ok, h1, asInt, asIntOf, Sem.run_pure, run_info hi, hw]
        rw [if_neg (by simp; omega)]
        by_cases hn : n.toNat * i.size = 0
        · simp only [Sem.run_bind, run_askRoom, Result.andThen_ok, run_size (n := i.size) (show sizeT C.P el = _ by simp [sizeT, hi]), hn, if_true, newRow, run_newObj, Sem.run_pure]
        · simp only [Sem.run_bind, run_askRoom, Result.andThen_ok, run_size (n := i.size) (show sizeT C.P el = _ by simp [sizeT, hi]), hn, if_false, run_zero hi z2, newRow, run_newObj, Sem.run_pure]
      · simp only [VR, Mp.ext, if_true]
        refine .inl ⟨_, rfl, Nat.le_refl _, ?_⟩
        simp at hsz ⊢
    · exact hk.elim
  · exact hk.elim
end
end Go.Proofs.Ytokoboflpaklaaa.Mi
namespace Go.Proofs.Ytokoboflpaklaaa.Mi
open Go

theorem growBy_le (n : Nat) : ∀ (r c : Nat), 256 ≤ c → c ≤ 2 * n → Builtin.growBy n r c ≤ 2 * n
  | 0, c, _, h => h
  | r + 1, c, h0, h => by
    simp only [Builtin.growBy]
    split
    · exact h
    · refine growBy_le n r _ (by omega) (by omega)

theorem nextcap_le {n c : Nat} (h : c < n) : Builtin.nextslicecap n c ≤ 2 * n := by
  unfold Builtin.nextslicecap
  split
  · omega
  · split
    · omega
    · exact growBy_le n 4 c (by omega) (by omega)

theorem Keep.ofDrawn (R : Nat → Nat → Prop) (w : World) (n : Nat) : Keep R w { w with drawn := n } :=
  ⟨rfl, rfl, rfl, Nat.le_refl _, fun _ _ => .inl rfl⟩

section
variable {C : Cx} {R : Nat → Nat → Prop} {m : Mp} {D : Nat → Prop} {e : Env} {h : Heap} {A : List Ans} {K : V → Heap → List Ans → Prop} {W : World} {a : Act} {Cl : Calls'}
  {dst : Option Tmp} {ty : TypeId} {pos : String} {aft : Array Edge} {gd : Option (Nat × Bool)}

/-- A slice's cells, read. -/
theorem row_run (hI : Inv C.ρ R m D h W) {v : V} {u : Value} (hr : VR C.ρ m v u) (hid : ∀ i ∈ v.ids, D i) {es n : Nat} {l : List V} (hrow : rowOf h es v = some (l, n)) (hl : l.length = n * es) :
    ∃ b c us, u = .slice b n c ∧ n ≤ c ∧ VRL C.ρ m l us ∧ (∀ P W', W'.heap = W.heap → (Builtin.firstCells es n u).run P W' = .ok us.toArray W') ∧ (∀ i ∈ V.idsL l, D i) ∧ l.all V.atom = true := by
  cases v <;> simp only [rowOf] at hrow <;> try (simp at hrow; done)
  case nils =>
    simp at hrow; obtain ⟨rfl, rfl⟩ := hrow
    simp only [VR] at hr; subst hr
    exact ⟨none, 0, [], rfl, Nat.le_refl _, by simp [VRL], fun P W' _ => by simp [Builtin.firstCells], by simp [V.idsL], rfl⟩
  case emp =>
    simp at hrow; obtain ⟨rfl, rfl⟩ := hrow
    simp only [VR] at hr; obtain ⟨b, rfl⟩ := hr
    exact ⟨some b, 0, [], rfl, Nat.le_refl _, by simp [VRL], fun P W' _ => by simp [Builtin.firstCells, loadCells, loadCellsFrom], by simp [V.idsL], rfl⟩
  case sl i o k =>
    split at hrow
    · rename_i b hb
      split at hrow
      · simp at hrow
      rename_i esp hesp
      have hps : b.es ≠ 0 := by rw [hesp]; omega
      simp at hrow; obtain ⟨rfl, rfl⟩ := hrow
      have hi : D i := hid i (by simp [V.ids])
      obtain ⟨cs, el, fz, g1, g2, g3, g4, g5, g6⟩ := hI.blk i b hi hb
      have hidl : ∀ j ∈ V.idsL ((b.c.drop o).take (k * es)), D j := fun j hj => hI.ids i b hi hb j (mem_drop_ids (mem_take_ids hj))
      have hatl : ((b.c.drop o).take (k * es)).all V.atom = true := List.all_eq_true.mpr fun x hx => List.all_eq_true.mp (hI.atm i b hi hb hps) x (List.mem_of_mem_drop (List.mem_of_mem_take hx))
      simp only [VR] at hr
      rcases hr with ⟨c, rfl, hc, _⟩ | ⟨rfl, b', rfl⟩
      · by_cases hk : k * es = 0
        · refine ⟨_, c, [], rfl, hc, ?_, fun P W' _ => by simp [Builtin.firstCells, hk, loadCells, loadCellsFrom], hidl, hatl⟩
          rw [hk]; simp [VRL]
        · have hle : o + k * es ≤ b.c.length := by simp at hl; omega
          obtain ⟨q1, q2⟩ := row_ok hI hi hb hle g1
          refine ⟨_, c, _, rfl, hc, q2, fun P W' hW' => ?_, hidl, hatl⟩
          simp only [Builtin.firstCells]
          rw [run_loadCells (W := W') (by rw [hW']; exact g1) q1]
      · refine ⟨_, 0, [], rfl, Nat.le_refl _, ?_, fun P W' _ => by simp [Builtin.firstCells, loadCells, loadCellsFrom], hidl, hatl⟩
        simp [VRL]
    · simp at hrow

/-- The run of append, where the row grows. -/
theorem run_grow {P : Program} {argTypes : Array TypeId} {st xt el xel : TypeId} {ti : TypeInfo} {zv : Value} {b : Option Addr} {n c k : Nat} {u : Value} {us1 us2 : List Value}
    (ht1 : argTypes[0]? = some st) (ht2 : argTypes[1]? = some xt) (hu1 : P.underlying st = some (.slice el)) (hu2 : P.underlying xt = some (.slice xel)) (hi : P.info? el = some ti) (hz : ti.zero = some zv) (hb0 : 0 < ti.bytes)
    (hlen : ∀ W', (Builtin.lenOf u).run P W' = .ok k W') (hroom : c < n + k) (hbound : (n + k) * ti.bytes ≤ 140737488355328)
    (hf1 : ∀ W', W'.heap = W.heap → (Builtin.firstCells ti.size n (.slice b n c)).run P W' = .ok us1.toArray W') (hf2 : ∀ W', W'.heap = W.heap → (Builtin.firstCells ti.size k u).run P W' = .ok us2.toArray W') :
    ∃ nc, n + k ≤ nc ∧ (Builtin.append_ argTypes ty #[.slice b n c, u]).run P W =
      .ok (.slice (some ⟨W.heap.size, 0, none⟩) (n + k) nc) { W with drawn := W.drawn + 1, heap := W.heap.push (.cells (us1.toArray ++ us2.toArray ++ Builtin.zeroCells zv.cells (nc - (n + k))) el (0, 0)) } := by
  refine ⟨(Question.appendCap (n + k) c el).cut (W.tape W.drawn (.appendCap (n + k) c el)), by simp [Question.cut], ?_⟩
  have h1 : ¬ n + k ≤ c := by omega
  have h2 : ¬ (Builtin.nextslicecap (n + k) c * ti.bytes > 2 ^ 48) := by
    have := nextcap_le hroom
    have h3 : Builtin.nextslicecap (n + k) c * ti.bytes ≤ 2 * (n + k) * ti.bytes := Nat.mul_le_mul_right _ this
    rw [Nat.mul_assoc] at h3
    omega
  have hsz : ∀ W', (Go.sizeOf el).run P W' = .ok ti.size W' := fun W' => run_size (by simp [sizeT, hi])
  have hb1 : ¬ ti.bytes = 0 := by omega
  simp only [Builtin.append_, ht1, ht2, List.getElem?_toArray, List.getElem?_cons_zero, List.getElem?_cons_succ, Sem.run_bind, run_under hu1, run_under hu2, Result.andThen_ok, hsz, Sem.run_pure, hlen, Bool.false_eq_true, if_false, h1]
  have hnb : ¬ (((n + k : Nat) : Int) > IntKind.i64.max ∧ (False ∨ ti.bytes = 0)) := by simp [hb1]
  rw [run_info hi]
  simp only [Result.andThen_ok]
  rw [if_neg hnb]
  simp only [Sem.run_bind, run_info hi, Result.andThen_ok]
  rw [if_neg h2]
  have hq : (Question.appendCap (n + k) c el).forced = false := rfl
  have f1 := hf1 { W with drawn := W.drawn + 1 } rfl
  have f2 := hf2 { W with drawn := W.drawn + 1 } rfl
  simp only [Sem.run_bind, run_choose, hq, Bool.false_eq_true, if_false, Result.andThen_ok, run_info hi, run_askRoom, f1, Bool.not_false, if_true, f2, run_zero hi hz, newRow, run_newObj, Sem.run_pure]

/-- The run of append, in place. -/
theorem run_fits {P : Program} {argTypes : Array TypeId} {st xt el xel : TypeId} {ti : TypeInfo} {r o n c k : Nat} {u : Value} {us2 : List Value} {W' : World}
    (ht1 : argTypes[0]? = some st) (ht2 : argTypes[1]? = some xt) (hu1 : P.underlying st = some (.slice el)) (hu2 : P.underlying xt = some (.slice xel)) (hi : P.info? el = some ti)
    (hlen : ∀ W', (Builtin.lenOf u).run P W' = .ok k W') (hroom : n + k ≤ c)
    (hf2 : (Builtin.firstCells ti.size k u).run P W = .ok us2.toArray W) (hst : (storeCells ⟨r, o + n * ti.size, none⟩ us2).run P W = .ok () W') :
    (Builtin.append_ argTypes ty #[.slice (some ⟨r, o, none⟩) n c, u]).run P W = .ok (.slice (some ⟨r, o, none⟩) (n + k) c) W' := by
  have hsz : ∀ W', (Go.sizeOf el).run P W' = .ok ti.size W' := fun W' => run_size (by simp [sizeT, hi])
  simp only [Builtin.append_, ht1, ht2, List.getElem?_toArray, List.getElem?_cons_zero, List.getElem?_cons_succ, Sem.run_bind, run_under hu1, run_under hu2, Result.andThen_ok, hsz, Sem.run_pure, hlen, Bool.false_eq_true, if_false, hroom, if_true,
    Bool.not_false, hf2, addr_add, hst]

theorem run_fits0 {P : Program} {argTypes : Array TypeId} {st xt el xel : TypeId} {ti : TypeInfo} {b : Addr} {u : Value}
    (ht1 : argTypes[0]? = some st) (ht2 : argTypes[1]? = some xt) (hu1 : P.underlying st = some (.slice el)) (hu2 : P.underlying xt = some (.slice xel)) (hi : P.info? el = some ti)
    (hlen : ∀ W', (Builtin.lenOf u).run P W' = .ok 0 W') (hf2 : (Builtin.firstCells ti.size 0 u).run P W = .ok #[] W) :
    (Builtin.append_ argTypes ty #[.slice (some b) 0 0, u]).run P W = .ok (.slice (some b) 0 0) W := by
  have hsz : ∀ W', (Go.sizeOf el).run P W' = .ok ti.size W' := fun W' => run_size (by simp [sizeT, hi])
  simp only [Builtin.append_, ht1, ht2, List.getElem?_toArray, List.getElem?_cons_zero, List.getElem?_cons_succ, Sem.run_bind, run_under hu1, run_under hu2, Result.andThen_ok, hsz, Sem.run_pure, hlen, Bool.false_eq_true, if_false,
    Bool.not_false, if_true, Nat.add_zero, Nat.le_refl, hf2, storeCells]

theorem run_fitsN {P : Program} {argTypes : Array TypeId} {st xt el xel : TypeId} {ti : TypeInfo} {u : Value}
    (ht1 : argTypes[0]? = some st) (ht2 : argTypes[1]? = some xt) (hu1 : P.underlying st = some (.slice el)) (hu2 : P.underlying xt = some (.slice xel)) (hi : P.info? el = some ti)
    (hlen : ∀ W', (Builtin.lenOf u).run P W' = .ok 0 W') (hf2 : (Builtin.firstCells ti.size 0 u).run P W = .ok #[] W) :
    (Builtin.append_ argTypes ty #[.slice none 0 0, u]).run P W = .ok (.slice none 0 0) W := by
  have hsz : ∀ W', (Go.sizeOf el).run P W' = .ok ti.size W' := fun W' => run_size (by simp [sizeT, hi])
  simp only [Builtin.append_, ht1, ht2, List.getElem?_toArray, List.getElem?_cons_zero, List.getElem?_cons_succ, Sem.run_bind, run_under hu1, run_under hu2, Result.andThen_ok, hsz, Sem.run_pure, hlen, Bool.false_eq_true, if_false,
    Bool.not_false, if_true, Nat.add_zero, Nat.le_refl, hf2, storeCells]

theorem lenOf_slice {P : Program} (b : Option Addr) (n c : Nat) (W' : World) : (Builtin.lenOf (.slice b n c)).run P W' = .ok n W' := rfl

theorem Post0.draw (p : Inv C.ρ R m D h W) (n : Nat) : Inv C.ρ R m D h { W with drawn := n } := p.drawn rfl

theorem zeroCells_size (z : Array Value) (n : Nat) : (Builtin.zeroCells z n).size = n * z.size := by simp [Builtin.zeroCells]

theorem grown_ok (hI : Inv C.ρ R m D h W) {l1 l2 : List V} {us1 us2 : List Value} (h1 : VRL C.ρ m l1 us1) (h2 : VRL C.ρ m l2 us2) (hf : V.idsL (l1 ++ l2) = [])
    {rest : Array Value} {el : TypeId} {es cl : Nat} {pr : Option Nat} (hcl : cl ≤ h.length) (dr : Nat) (hat : (l1 ++ l2).all V.atom = true) (hprs : pr.isSome = true) :
    Post0 C.ρ R m D h W (h ++ [⟨l1 ++ l2, es, cl, pr, false⟩]) { W with drawn := dr, heap := W.heap.push (.cells (us1.toArray ++ us2.toArray ++ rest) el (0, 0)) } (m.ext h.length W.heap.size (us1.toArray ++ us2.toArray ++ rest).size es) := by
  have hlen := (h1.append h2).length
  have p := (hI.drawn (w' := { W with drawn := dr }) rfl).alloc (el := el) (b := ⟨l1 ++ l2, es, cl, pr, false⟩) (cs := us1.toArray ++ us2.toArray ++ rest) (by
    intro j v hv
    obtain ⟨u, hu, hr⟩ := (h1.append h2).get hv
    refine ⟨u, ?_, hr⟩
    have hj := (List.getElem?_eq_some_iff.mp hu).1
    simp only [Array.toList_append]
    rw [List.getElem?_append_left (by simpa using hj)]
    exact hu) (by simp at hlen ⊢; omega) (by simp [hf]) hcl (fun _ => hf) hat hprs
  exact ⟨p.inv, ⟨p.keep.os, p.keep.tape, p.keep.output, p.keep.size, p.keep.blk⟩, p.same, p.len, p.cle, p.new⟩

/-- What a slice held is told as far as it was read; nothing is written. -/
theorem trunc_ok (hI : Inv C.ρ R m D h W) {i o p : Nat} {b : Blk} (hi : D i) (hb : h[i]? = some b) (hp : b.pr = some p) (hpo : p ≤ o) {l : List V} (hl : l = b.c.take o) :
    Post0 C.ρ R m D h W (upd { b with c := l } i o 0 h) W m := by
  subst hl
  obtain ⟨cs, el, fz, g1, g2, g3, g4, g5, g6⟩ := hI.blk i b hi hb
  refine hI.write hi hb hp hpo g1 g1 (fun _ _ => rfl) rfl rfl rfl rfl rfl (fun _ _ => rfl) rfl rfl rfl (by simp; omega) (fun j v hv => ?_) (fun hl => ?_) (fun j hj => hI.ids i b hi hb j (mem_take_ids hj)) (fun hes => List.all_eq_true.mpr fun x hx => List.all_eq_true.mp (hI.atm i b hi hb hes) x (List.mem_of_mem_take hx))
  · simp only [List.getElem?_take] at hv
    split at hv
    · exact g5 j v hv
    · simp at hv
  · have := hI.flat i b hi hb hl
    apply List.eq_nil_iff_forall_not_mem.mpr
    intro x hx
    have := mem_take_ids hx
    simp_all

theorem VRL.oneCells {l : List V} {us : List Value} (hr : VRL C.ρ m l us) (ha : l.all V.atom = true) : ∀ u ∈ us, u.oneCell' = true := by
  intro u hu
  obtain ⟨k, hk⟩ := List.getElem?_of_mem hu
  have hkl : k < l.length := by rw [← hr.length]; exact (List.getElem?_eq_some_iff.mp hk).1
  obtain ⟨u', hu', hr'⟩ := hr.get (List.getElem?_eq_getElem hkl)
  rw [hk] at hu'; obtain rfl := Option.some.inj hu'
  exact hr'.oneCell (List.all_eq_true.mp ha _ (List.getElem_mem hkl))

/-- The run of append of so many zeros to nil. -/
theorem run_growz {P : Program} {argTypes : Array TypeId} {st xt el : TypeId} {kd : IntKind} {ti : TypeInfo} {zv : Value} {n : Int}
    (ht1 : argTypes[0]? = some st) (ht2 : argTypes[1]? = some xt) (hu1 : P.underlying st = some (.slice el)) (hu2 : P.underlying xt = some (.int kd)) (hi : P.info? el = some ti) (hz : ti.zero = some zv) (hs0 : 0 < ti.size) (hb0 : 0 < ti.bytes)
    (h0 : 0 < n) (hbound : n * ti.bytes ≤ 140737488355328) :
    ∃ nc, n.toNat ≤ nc ∧ (Builtin.append_ argTypes ty #[.slice none 0 0, .int .i64 n]).run P W =
      .ok (.slice (some ⟨W.heap.size, 0, none⟩) (0 + n.toNat) nc) { W with drawn := W.drawn + 1, heap := W.heap.push (.cells (([] : List Value).toArray ++ Builtin.zeroCells zv.cells n.toNat ++ Builtin.zeroCells zv.cells (nc - (0 + n.toNat))) el (0, 0)) } := by
  refine ⟨(Question.appendCap (0 + n.toNat) 0 el).cut (W.tape W.drawn (.appendCap (0 + n.toNat) 0 el)), by simp [Question.cut], ?_⟩
  have hle : n ≤ 140737488355328 := by
    have h2 : n * 1 ≤ n * ti.bytes := Int.mul_le_mul_of_nonneg_left (by omega) (by omega)
    omega
  have hw : IntKind.i64.wrap n = n := by
    simp [IntKind.wrap, IntKind.bits, IntKind.signed]
    omega
  have h1 : ¬ 0 + n.toNat ≤ 0 := by omega
  have hsz : ∀ W', (Go.sizeOf el).run P W' = .ok ti.size W' := fun W' => run_size (by simp [sizeT, hi])
  have hlt : ¬ n < 0 := by omega
  have hbg : ¬ n * (ti.bytes : Int) > 2 ^ 48 := by omega
  have hnz : ¬ n.toNat * ti.size = 0 := by
    intro h; rcases Nat.mul_eq_zero.mp h with h | h <;> omega
  have hmx : ¬ (((0 + n.toNat : Nat) : Int) > IntKind.i64.max ∧ (True ∨ ti.bytes = 0)) := by
    simp [IntKind.max, IntKind.bits, IntKind.signed]; omega
  have hcp : ¬ (Builtin.nextslicecap (0 + n.toNat) 0 * ti.bytes > 2 ^ 48) := by
    unfold Builtin.nextslicecap
    rw [if_pos (by omega), Nat.zero_add]
    have : ((n.toNat * ti.bytes : Nat) : Int) = n * ti.bytes := by
      rw [Int.natCast_mul, Int.toNat_of_nonneg (by omega)]
    omega
  have hq : (Question.appendCap (0 + n.toNat) 0 el).forced = false := rfl
  simp only [Builtin.append_, ht1, ht2, List.getElem?_toArray, List.getElem?_cons_zero, List.getElem?_cons_succ, Sem.run_bind, run_under hu1, run_under hu2, Result.andThen_ok, hsz, Sem.run_pure, if_true, asInt, asIntOf, hw, if_neg hlt, run_info hi, if_neg hbg, if_neg h1, Bool.true_eq_false]
  rw [if_neg hmx]
  simp only [Sem.run_bind, run_info hi, Result.andThen_ok]
  rw [if_neg hcp]
  simp only [Sem.run_bind, run_choose, hq, Bool.false_eq_true, if_false, Result.andThen_ok, run_info hi, run_askRoom, Builtin.firstCells, Sem.run_pure, Bool.not_true, if_neg hnz, run_zero hi hz, newRow, run_newObj]

theorem s_appmk {c : Call} {x y : Operand} {x' y' : X} {st xt el : TypeId} {kd : IntKind} {ti : TypeInfo} {z : List V} (hc : c.callee = .builtin .append) (hargs : c.args.toList = [x, y]) (ht1 : c.argTypes[0]? = some st) (ht2 : c.argTypes[1]? = some xt)
    (hu1 : elemT C.P st = some el) (hu2 : C.P.underlying xt = some (.int kd)) (hi : C.P.info? el = some ti) (hz : zeroT C.P el = some z) (hzl : z.length = ti.size) (hs0 : 0 < ti.size) (hb0 : 0 < ti.bytes)
    (hx : cX C x = some x') (hy : cX C y = some y')
    (hE : ER C.ρ m D e a (fun t' => .tmp t' ∈ (Op.call c).operands)) (hI : Inv C.ρ R m D h W) (hk : opK Cl (.appmk ti.size ti.bytes z x' y') e h A K) :
    Goal C R m D h W a ⟨dst, .call c, ty, pos, aft, gd⟩ K := by
  have hargs' : c.args = #[x, y] := by apply Array.ext'; simpa using hargs
  have hT : ∀ t', (x = .tmp t' ∨ y = .tmp t') → Operand.tmp t' ∈ (Op.call c).operands := by
    rintro t' (rfl | rfl) <;> simp only [Op.operands, Call.operands, hargs', Array.mem_append] <;> exact .inr (by simp)
  obtain ⟨ti', zv, z1, z2, z3, z4, z5⟩ := zeroT_ok hz
  rw [hi] at z1; obtain rfl := Option.some.inj z1
  have hzs : zv.cells.size = ti.size := by have := (z3 m).length; simp at this; omega
  simp only [opK] at hk
  split at hk
  · rename_i hv
    obtain ⟨h1, h2⟩ := ev_ok hx hv hE (fun t' ht => hT t' (.inl ht))
    split at hk
    · rename_i n hw
      obtain ⟨h3, h4⟩ := ev_ok hy hw hE (fun t' ht => hT t' (.inr ht))
      split at hk
      · rename_i l A'
        obtain ⟨⟨⟨n0, n1⟩, hl⟩, hk⟩ := hk
        simp only [VR] at h1 h3
        have run : ∀ (u : Value) (W' : World), (Builtin.append_ c.argTypes ty #[a.eval x, a.eval y]).run C.P W = .ok u W' → (execOp a.eval ⟨dst, .call c, ty, pos, aft, gd⟩).run C.P W = .ok (.value u) W' := by
          intro u W' hr
          obtain ⟨callee, args, argTypes⟩ := c
          simp only at hc hargs' hr
          subst hc hargs'
          simp [execOp, resolve, invoke, builtin, hr]
        obtain ⟨nc, hnc, hrun⟩ := run_growz (ty := ty) (W := W) ht1 ht2 (elemT_ok hu1) hu2 hi z2 hs0 hb0 n0 n1
        rw [← h1, ← h3] at hrun
        have hcells : (Builtin.zeroCells zv.cells n.toNat).toList = (List.replicate n.toNat zv.cells.toList).flatten := rep_cells zv.cells n.toNat (by omega)
        have hrel : VRL C.ρ m l (Builtin.zeroCells zv.cells n.toNat).toList := by
          rw [hcells, hl]; exact VRL.rep (z3 m) _
        have hids : V.idsL l = [] := by rw [hl]; exact ids_rep z4 _
        have hat : l.all V.atom = true := by rw [hl]; exact List.all_eq_true.mpr fun x hx => by obtain ⟨q, hq, hx⟩ := List.mem_flatten.mp hx; rw [(List.mem_replicate.mp hq).2] at hx; exact List.all_eq_true.mp z5 x hx
        have p1 := grown_ok hI (l1 := []) (us1 := []) (by simp [VRL]) hrel (by simpa using hids) (rest := Builtin.zeroCells zv.cells (nc - (0 + n.toNat))) (el := el) (es := ti.size) (pr := some 0) (Nat.le_refl h.length) (W.drawn + 1) (by simpa using hat) rfl
        refine ⟨_, _, A', hk, OKop.val (run _ _ hrun) (p1.post ?_ ?_)⟩
        · simp only [VR, Mp.ext, if_true, Nat.zero_add]
          refine .inl ⟨nc, rfl, hnc, ?_⟩
          have q2 := hrel.length
          have hll : l.length = n.toNat * ti.size := by rw [hl]; simp [hzl]
          simp only [Array.size_append, List.size_toArray, Array.length_toList, zeroCells_size, hzs, List.length_nil, Nat.zero_add]
          rw [← Nat.add_mul]
          exact Nat.le_of_eq (by congr 1; omega)
        · simp [V.ids]
      · exact hk.elim
    · exact hk.elim
  · exact hk.elim

theorem s_append {c : Call} {x y : Operand} {x' y' : X} {st xt el xel : TypeId} {ti : TypeInfo} (hc : c.callee = .builtin .append) (hargs : c.args.toList = [x, y]) (ht1 : c.argTypes[0]? = some st) (ht2 : c.argTypes[1]? = some xt)
    (hu1 : elemT C.P st = some el) (hu2 : elemT C.P xt = some xel) (hi : C.P.info? el = some ti) (hs0 : 0 < ti.size) (hb0 : 0 < ti.bytes) (hzl : (zeroT C.P el).map List.length = some ti.size)
    (hx : cX C x = some x') (hy : cX C y = some y')
    (hE : ER C.ρ m D e a (fun t' => .tmp t' ∈ (Op.call c).operands)) (hI : Inv C.ρ R m D h W) (hk : opK Cl (.append ti.size ti.bytes x' y') e h A K) :
    Goal C R m D h W a ⟨dst, .call c, ty, pos, aft, gd⟩ K := by
  have hargs' : c.args = #[x, y] := by apply Array.ext'; simpa using hargs
  have hT : ∀ t', (x = .tmp t' ∨ y = .tmp t') → Operand.tmp t' ∈ (Op.call c).operands := by
    rintro t' (rfl | rfl) <;> simp only [Op.operands, Call.operands, hargs', Array.mem_append] <;> exact .inr (by simp)
  cases hz : zeroT C.P el with
  | none => rw [hz] at hzl; simp at hzl
  | some z =>
  rw [hz] at hzl; simp at hzl
  obtain ⟨ti', zv, z1, z2, z3, z4⟩ := zeroT_ok hz
  rw [hi] at z1; obtain rfl := Option.some.inj z1
  have hzs : zv.cells.size = ti.size := by have := (z3 m).length; simp at this; omega
  simp only [opK] at hk
  split at hk
  · rename_i v hv
    obtain ⟨h1, h2⟩ := ev_ok hx hv hE (fun t' ht => hT t' (.inl ht))
    split at hk
    · rename_i w hw
      obtain ⟨h3, h4⟩ := ev_ok hy hw hE (fun t' ht => hT t' (.inr ht))
      split at hk
      · rename_i l1 n l2 k hr1 hr2
        split at hk
        · rename_i l A'
          obtain ⟨⟨⟨hl, hl1, hl2, hbd⟩, hflat⟩, hk⟩ := hk
          obtain ⟨b1, c1, us1, e1, nc1, r1, f1, i1, at1⟩ := row_run hI h1 h2 hr1 hl1
          obtain ⟨b2, c2, us2, e2, nc2, r2, f2, i2, at2⟩ := row_run hI h3 h4 hr2 hl2
          have hids2 : V.idsL l2 = [] := by
            rcases hflat with hf | ⟨i, o, bb, q1, q2, q3⟩
            · exact flatL_ids hf
            · obtain rfl : w = .sl i o k := by simpa [hw] using q1
              have h0 := hI.flat i bb (h4 i (by simp [V.ids])) q2 q3
              simp only [rowOf, q2] at hr2
              split at hr2
              · simp at hr2
              simp at hr2
              apply List.eq_nil_iff_forall_not_mem.mpr
              intro q hq
              rw [← hr2] at hq
              have := mem_drop_ids (mem_take_ids hq)
              rw [h0] at this; simp at this
          have run : ∀ (u : Value) (W' : World), (Builtin.append_ c.argTypes ty #[a.eval x, a.eval y]).run C.P W = .ok u W' → (execOp a.eval ⟨dst, .call c, ty, pos, aft, gd⟩).run C.P W = .ok (.value u) W' := by
            intro u W' hr
            obtain ⟨callee, args, argTypes⟩ := c
            simp only at hc hargs' hr
            subst hc hargs'
            simp [execOp, resolve, invoke, builtin, hr]
          have len2 : ∀ W', (Builtin.lenOf (a.eval y)).run C.P W' = .ok k W' := by intro W'; rw [e2]; rfl
          -- a new row
          have grow : ∀ (cc : Nat) (es cl : Nat) (pr : Option Nat) (h0 : Heap), c1 = cc → cc < n + k → V.idsL l1 = [] → cl ≤ h0.length → Post0 C.ρ R m D h W h0 W m → h0.length = h.length → es = ti.size → pr.isSome = true →
              K (.sl h.length 0 (n + k)) (h0 ++ [⟨l1 ++ l2, es, cl, pr, false⟩]) A' → Goal C R m D h W a ⟨dst, .call c, ty, pos, aft, gd⟩ K := by
            rintro cc es cl pr h0 rfl hlt hids1 hcl p0 hlen rfl hprs hk
            obtain ⟨nc, hnc, hrun⟩ := run_grow (ty := ty) (b := b1) (W := W) ht1 ht2 (elemT_ok hu1) (elemT_ok hu2) hi z2 hb0 len2 hlt hbd (us1 := us1) (us2 := us2) (fun W' hW' => by rw [← e1]; exact f1 C.P W' hW') (fun W' hW' => f2 C.P W' hW')
            rw [← e1] at hrun
            have eD : (fun i => D i ∨ (h.length ≤ i ∧ i < h0.length)) = D := by
              funext i; apply propext; constructor
              · rintro (h | h); exact h; omega
              · exact .inl
            have hI0 : Inv C.ρ R m D h0 W := by have := p0.inv; rwa [eD] at this
            have p1 := grown_ok hI0 r1 r2 (by rw [V.idsL_append, hids1, hids2]; rfl) (rest := Builtin.zeroCells zv.cells (nc - (n + k))) (el := el) (es := ti.size) (pr := pr) hcl (W.drawn + 1) (by simp [at1, at2]) hprs
            have p2 : Post0 C.ρ R m D h W _ _ _ := p0.trans (by rw [eD]; exact p1)
            refine ⟨_, _, A', hk, OKop.val (run _ _ hrun) (p2.post ?_ ?_)⟩
            · simp only [VR, Mp.ext, hlen, if_true]
              refine .inl ⟨nc, rfl, hnc, ?_⟩
              have q1 := r1.length
              have q2 := r2.length
              simp only [Array.size_append, List.size_toArray, q1, q2, hl1, hl2, zeroCells_size, hzs]
              rw [Nat.zero_add, ← Nat.add_mul, ← Nat.add_mul]
              exact Nat.le_of_eq (by congr 1; omega)
            · simp [V.ids, hlen]
          split at hk
          · rename_i i o nn
            split at hk
            · rename_i bi hbi
              split at hk
              · rename_i p hp
                obtain ⟨⟨ho, hpn, hes, hlit⟩, hk⟩ := hk
                subst ho
                have hDi : D i := h2 i (by simp [V.ids])
                obtain ⟨cs, elw, fz, g1, g2, g3, g4, g5, g6⟩ := hI.blk i bi hDi hbi
                obtain rfl := g6 (by simp [hp])
                simp only [rowOf, hbi, List.drop_zero] at hr1
                split at hr1
                · simp at hr1
                simp at hr1
                obtain ⟨hr1, rfl⟩ := hr1
                have hids1 : V.idsL l1 = [] := by
                  have h0 := hI.flat i bi hDi hbi hlit
                  apply List.eq_nil_iff_forall_not_mem.mpr
                  intro q hq
                  rw [← hr1] at hq
                  have := mem_take_ids hq
                  rw [h0] at this; simp at this
                subst hl
                have ptr := trunc_ok hI hDi hbi hp hpn (l := l1) hr1.symm
                by_cases hfit : nn + k ≤ c1
                · -- in place
                  have hnl : nn * ti.size ≤ bi.c.length := by rw [← hr1] at hl1; simp at hl1; omega
                  simp only [VR] at h1
                  rcases h1 with ⟨cc, h1, hcc, hsz⟩ | ⟨hn0, bb, h1⟩
                  · rw [e1] at h1
                    obtain ⟨rfl, rfl⟩ : b1 = some ⟨m.b i, 0, none⟩ ∧ c1 = cc := by simpa using h1
                    have q2 := r2.length
                    have hroom : 0 + nn * ti.size + us2.length ≤ cs.size := by
                      rw [q2, hl2, g2, Nat.zero_add, ← Nat.add_mul]
                      rw [g3, hes, Nat.zero_add] at hsz
                      exact Nat.le_trans (Nat.mul_le_mul_right _ hfit) hsz
                    have hat : ∀ u ∈ us2, u.oneCell' = true := r2.oneCells at2
                    obtain ⟨W', w1, w2, w3, w4, w5, w6, w7⟩ := run_storeCells (P := C.P) (off := 0 + nn * ti.size) us2 0 W cs g1 (by omega) hat
                    have hrun := run_fits (ty := ty) (r := m.b i) (o := 0) (W' := W') ht1 ht2 (elemT_ok hu1) (elemT_ok hu2) hi len2 hfit (f2 C.P W rfl) w1
                    rw [← e1] at hrun
                    rw [show 0 + nn * ti.size + 0 = nn * ti.size by omega] at w2
                    have hcsl : (splice cs.toList (nn * ti.size) us2).length = cs.size := by rw [splice_length (by simp; omega)]; simp
                    have p1 := hI.write (b' := { bi with c := l1 }) hDi hbi hp hpn g1 w2 w3 w4 w5 w6 w7 (by simpa using hcsl) (fun q hq => by
                        simp only [List.getElem?_toArray, splice]
                        rw [List.append_assoc, List.getElem?_append_left (by simp; omega), List.getElem?_take, if_pos hq]; simp) rfl rfl rfl
                        (by show l1.length ≤ _; rw [hl1]; omega) (fun j v hv => by
                          have hj : j < nn * ti.size := by have := (List.getElem?_eq_some_iff.mp hv).1; simp only at this; omega
                          have hv' : bi.c[j]? = some v := by
                            simp only [← hr1, List.getElem?_take, if_pos hj] at hv; exact hv
                          obtain ⟨u, hu, hr⟩ := g5 j v hv'
                          refine ⟨u, ?_, hr⟩
                          simp only [List.getElem?_toArray, splice]
                          rw [List.append_assoc, List.getElem?_append_left (by simp; omega), List.getElem?_take, if_pos hj]; simpa using hu)
                        (fun _ => hids1) (fun j hj => by simp only [hids1] at hj; simp at hj) (fun _ => at1)
                    have eD : (fun q => D q ∨ (h.length ≤ q ∧ q < (upd { bi with c := l1 } i (nn * ti.size) 0 h).length)) = D := by
                      funext q; apply propext; rw [upd_length]; constructor
                      · rintro (h | h); exact h; omega
                      · exact .inl
                    have hI1 : Inv C.ρ R m D (upd { bi with c := l1 } i (nn * ti.size) 0 h) W' := by have := p1.inv; rwa [eD] at this
                    have hbi1 : (upd { bi with c := l1 } i (nn * ti.size) 0 h)[i]? = some { bi with c := l1 } := by
                      rw [upd_get, hbi]; simp
                    have p2 := hI1.alias (nb := ⟨l1 ++ l2, ti.size, bi.cl, some p, false⟩) hDi hbi1 w2 hes.symm rfl hp.symm (by simp; omega) (fun j v hv => by
                        have hA : VRL C.ρ m l1 (cs.toList.take (nn * ti.size)) := VRL.of_get (by simp; omega) fun j v hv => by
                          have hj : j < nn * ti.size := by have := (List.getElem?_eq_some_iff.mp hv).1; omega
                          have hv' : bi.c[j]? = some v := by
                            simp only [← hr1, List.getElem?_take, if_pos hj] at hv; exact hv
                          obtain ⟨u, hu, hr⟩ := g5 j v hv'
                          exact ⟨u, by rw [List.getElem?_take, if_pos hj]; simpa using hu, hr⟩
                        obtain ⟨u, hu, hr⟩ := (hA.append r2).get hv
                        refine ⟨u, ?_, hr⟩
                        simp only [List.getElem?_toArray, splice]
                        rw [List.getElem?_append_left (List.getElem?_eq_some_iff.mp hu).1]; exact hu)
                        (fun _ => by simp only [V.idsL_append, hids1, hids2]; rfl) (fun j hj => by simp only [V.idsL_append, hids1, hids2] at hj; simp at hj) (by simp [at1, at2]) (by simp [hp])
                    have p3 := p1.trans (by rw [eD]; exact p2)
                    refine ⟨_, _, A', hk, OKop.val (run _ _ hrun) (p3.post ?_ (by simp [V.ids, upd_length]))⟩
                    simp only [VR, Mp.ext, upd_length, if_true]
                    exact .inl ⟨c1, rfl, hfit, hsz⟩
                  · rw [e1] at h1
                    obtain ⟨rfl, hc0⟩ : b1 = some bb ∧ c1 = 0 := by simp at h1; exact ⟨h1.1, h1.2.2⟩
                    subst hc0 hn0
                    obtain rfl : k = 0 := by omega
                    obtain rfl : l1 = [] := List.length_eq_zero_iff.mp (by omega)
                    obtain rfl : l2 = [] := List.length_eq_zero_iff.mp (by omega)
                    have hu2e : us2 = [] := List.length_eq_zero_iff.mp (by have := r2.length; simpa using this)
                    subst hu2e
                    have hrun := run_fits0 (ty := ty) (b := bb) (W := W) ht1 ht2 (elemT_ok hu1) (elemT_ok hu2) hi len2 (f2 C.P W rfl)
                    rw [← e1] at hrun
                    have eD : (fun q => D q ∨ (h.length ≤ q ∧ q < (upd { bi with c := [] } i (0 * ti.size) 0 h).length)) = D := by
                      funext q; apply propext; rw [upd_length]; constructor
                      · rintro (h | h); exact h; omega
                      · exact .inl
                    have hI1 : Inv C.ρ R m D (upd { bi with c := [] } i (0 * ti.size) 0 h) W := by have := ptr.inv; rwa [eD] at this
                    have hbi1 : (upd { bi with c := [] } i (0 * ti.size) 0 h)[i]? = some { bi with c := [] } := by
                      rw [upd_get, hbi]; simp
                    have p2 := hI1.alias (nb := ⟨[] ++ [], ti.size, bi.cl, some p, false⟩) hDi hbi1 g1 hes.symm rfl hp.symm (by simp) (fun j v hv => by simp at hv) (fun _ => rfl) (fun j hj => by simp [V.idsL] at hj) rfl (by simp [hp])
                    have p3 := ptr.trans (by rw [eD]; exact p2)
                    refine ⟨_, _, A', hk, OKop.val (run _ _ hrun) (p3.post ?_ (by simp [V.ids, upd_length]))⟩
                    rw [e1]; simp [VR]
                · exact grow c1 ti.size bi.cl (some p) _ rfl (by omega) hids1 (by rw [upd_length]; have := hI.clb i bi hDi hbi; omega) ptr (upd_length _ _ _ _ _) rfl rfl hk
              · exact hk.elim
            · exact hk.elim
          · rename_i hns
            have hempty : l1 = [] ∧ n = 0 ∧ c1 = 0 := by
              cases v <;> simp only [rowOf] at hr1 <;> try (simp at hr1; done)
              · exact absurd rfl (hns _ _ _)
              · simp only [VR] at h1; rw [e1] at h1; simp at h1 hr1; exact ⟨hr1.1, by omega, by omega⟩
              · simp only [VR] at h1; obtain ⟨q, h1⟩ := h1; rw [e1] at h1; simp at h1 hr1; exact ⟨hr1.1, by omega, by omega⟩
            obtain ⟨rfl, rfl, rfl⟩ := hempty
            subst hl
            have p0 : Post0 C.ρ R m D h W h W m := by
              have := Post.pure (r := .nils) (u := .slice none 0 0) hI (by simp [VR]) (by simp [V.ids])
              exact ⟨this.inv, this.keep, this.same, this.len, this.cle, this.new⟩
            split at hk
            · rename_i hk0
              subst hk0
              obtain rfl : l = [] := List.length_eq_zero_iff.mp (by simpa using hl2)
              have hu2e : us2 = [] := List.length_eq_zero_iff.mp (by have := r2.length; simpa using this)
              subst hu2e
              have hrun : (Builtin.append_ c.argTypes ty #[a.eval x, a.eval y]).run C.P W = .ok (.slice b1 0 0) W := by
                rw [e1]
                cases b1 with
                | none => exact run_fitsN ht1 ht2 (elemT_ok hu1) (elemT_ok hu2) hi len2 (f2 C.P W rfl)
                | some b1 => exact run_fits0 ht1 ht2 (elemT_ok hu1) (elemT_ok hu2) hi len2 (f2 C.P W rfl)
              exact ⟨_, _, A', hk, OKop.val (run _ _ hrun) (p0.post (by rw [← e1]; exact h1) (fun i hi => .inl (h2 i hi)))⟩
            rename_i h0k
            refine grow 0 ti.size h.length (some 0) h rfl (by omega) rfl (Nat.le_refl _) p0 rfl rfl rfl ?_
            simpa using hk
        · exact hk.elim
      · exact hk.elim
    · exact hk.elim
  · exact hk.elim
end
end Go.Proofs.Ytokoboflpaklaaa.Mi
namespace Go.Proofs.Ytokoboflpaklaaa.Mi
open Go

section
variable {C : Cx} {R : Nat → Nat → Prop} {m : Mp} {D : Nat → Prop} {e : Env} {h : Heap} {A : List Ans} {K : V → Heap → List Ans → Prop} {W : World} {a : Act} {Cl : Calls'}
  {dst : Option Tmp} {ty : TypeId} {pos : String} {aft : Array Edge} {gd : Option (Nat × Bool)}

theorem eqFields_ok (d : Nat) {xs ys : Array Value} : ∀ (fs : List Field) (k : Nat) (p q : List V) (r : Bool),
    ((fs.zipIdx k).all fun (f, i) => f.name != "_" && f.offset == i && (match C.P.underlying f.type with | some (.int _) => true | _ => false)) = true →
    p.length = fs.length → q.length = fs.length → VRL C.ρ m p (xs.toList.drop k) → VRL C.ρ m q (ys.toList.drop k) → eqCells p q = some r →
    (Op.eqFields (d + 1) xs ys fs).run C.P W = .ok r W
  | [], k, p, q, r, _, hp, hq, _, _, he => by
    obtain rfl := List.length_eq_zero_iff.mp hp
    obtain rfl := List.length_eq_zero_iff.mp hq
    simp [eqCells] at he; subst he
    simp [Op.eqFields]
  | f :: fs, k, p, q, r, hf, hp, hq, h1, h2, he => by
    rcases p with _ | ⟨v, p⟩
    · simp at hp
    rcases q with _ | ⟨w, q⟩
    · simp at hq
    simp only [List.zipIdx_cons, List.all_cons, Bool.and_eq_true] at hf
    obtain ⟨⟨⟨hn, ho⟩, hu⟩, hf⟩ := hf
    split at hu
    · rename_i k' hk'
      have ho' : f.offset = k := by simpa using ho
      have hn' : f.name ≠ "_" := by simpa using hn
      have b1 := h1
      have b2 := h2
      simp only [VRL] at b1 b2
      obtain ⟨y1, ys1, e1, r1, s1⟩ := b1
      obtain ⟨y2, ys2, e2, r2, s2⟩ := b2
      have g1 : xs[k]? = some y1 := by
        rw [← Array.getElem?_toList]; have := congrArg (·[0]?) e1; simpa using this
      have g2 : ys[k]? = some y2 := by
        rw [← Array.getElem?_toList]; have := congrArg (·[0]?) e2; simpa using this
      have t1 : VRL C.ρ m p (xs.toList.drop (k + 1)) := by
        rw [← List.drop_drop, e1]; exact s1
      have t2 : VRL C.ρ m q (ys.toList.drop (k + 1)) := by
        rw [← List.drop_drop, e2]; exact s2
      have part1 : ∀ (zs : Array Value) (z : Value), zs[k]? = some z → (part f.type zs f.offset).run C.P W = .ok z W := by
        intro zs z hz
        simp [part, run_isAgg hk', isAggD, ho', hz]
      cases v <;> cases w <;> simp only [eqCells] at he <;> try (simp at he; done)
      rename_i k1 a1 k2 a2
      split at he
      · rename_i hkk
        subst hkk
        simp only [VR] at r1 r2
        subst r1 r2
        have hq1 : (Op.equalIn (d + 1) f.type (.int k1 a1) (.int k1 a2)).run C.P W = .ok (a1 == a2) W := run_equalIn_int W d f.type k1 k' a1 a2 hk'
        rw [Op.eqFields]
        simp only [if_pos hn', Sem.run_bind, part1 _ _ g1, part1 _ _ g2, hq1, Result.andThen_ok]
        split at he
        · rename_i haa
          subst haa
          simp only [beq_self_eq_true, Bool.not_true, Bool.false_eq_true, if_false]
          exact eqFields_ok d fs (k + 1) p q r hf (by simpa using hp) (by simpa using hq) t1 t2 he
        · rename_i haa
          have : (a1 == a2) = false := by simpa using haa
          simp only [this, Bool.not_false, if_true, Sem.run_pure]
          cases hc : eqCells p q with
          | none => rw [hc] at he; simp at he
          | some z => rw [hc] at he; simp at he; subst he; rfl
      · simp at he
    · simp at hu

theorem s_eqa {neg : Bool} {t t' : TypeId} {x y : Operand} {x' y' : X} {n : Nat} (hn : intsT C.P t = some n) (hx : cX C x = some x') (hy : cX C y = some y')
    (hE : ER C.ρ m D e a (fun t' => .tmp t' ∈ (Op.binOp (if neg then .neq else .eql) t x y t').operands)) (hI : Inv C.ρ R m D h W) (hk : opK Cl (.eqa neg n x' y') e h A K) :
    Goal C R m D h W a ⟨dst, .binOp (if neg then .neq else .eql) t x y t', ty, pos, aft, gd⟩ K := by
  unfold intsT at hn
  split at hn
  · rename_i fs hfs
    split at hn
    · rename_i hcond
      obtain rfl := Option.some.inj hn
      simp only [Bool.and_eq_true, Bool.not_eq_true'] at hcond
      obtain ⟨⟨hall, hst⟩, heg⟩ := hcond
      simp only [opK] at hk
      split at hk
      · rename_i p hv
        obtain ⟨h1, _⟩ := ev_ok hx hv hE (by rintro t rfl; simp [Op.operands])
        split at hk
        · rename_i q hw
          obtain ⟨h3, _⟩ := ev_ok hy hw hE (by rintro t rfl; simp [Op.operands])
          simp only [VR] at h1 h3
          obtain ⟨xs, e1, h1⟩ := h1
          obtain ⟨ys, e2, h3⟩ := h3
          split at hk
          · rename_i r A'
            obtain ⟨⟨hp, hq, hr⟩, hk⟩ := hk
            have hfo : C.P.fieldsOf t = fs := by simp [Program.fieldsOf, hfs]
            have heq : (Op.equalIn (9999 + 1) t (.agg xs) (.agg ys)).run C.P W = .ok (r != neg) W := by
              rw [run_equalIn_struct (P := C.P) W 9999 t xs ys (by rw [hfo]; exact hfs) hst, hfo]
              exact eqFields_ok 9998 fs.toList 0 p q _ hall (by simpa using hp) (by simpa using hq) (by simpa using h1) (by simpa using h3) hr
            have hg : (eqGuard (if neg then .neq else .eql) t x y (.agg xs) (.agg ys)).run C.P W = .ok () W := run_eqGuard_agg W _ t x y xs ys heg
            refine ⟨_, h, A', hk, OKop.pure (u := .bool r) hI ?_ (by simp [VR]) (by simp [V.ids])⟩
            have : r = ((r != neg) != neg) := by cases r <;> cases neg <;> rfl
            rw [this]
            refine run_eqop neg (by rw [e1, e2]; exact hg) ?_ (by rw [e1, e2]; exact equal_of heq)
            rw [e1, e2]; cases neg <;> rfl
          · exact hk.elim
        · exact hk.elim
      · exact hk.elim
    · simp at hn
  · simp at hn

theorem s_copy {c : Call} {x y : Operand} {x' y' : X} {t el : TypeId} {s : Nat} (hc : c.callee = .builtin .copy) (hargs : c.args.toList = [x, y]) (ht : c.argTypes[0]? = some t) (hu : elemT C.P t = some el) (hs : sizeT C.P el = some s)
    (hx : cX C x = some x') (hy : cX C y = some y')
    (hE : ER C.ρ m D e a (fun t' => .tmp t' ∈ (Op.call c).operands)) (hI : Inv C.ρ R m D h W) (hk : opK Cl (.copy s x' y') e h A K) :
    Goal C R m D h W a ⟨dst, .call c, ty, pos, aft, gd⟩ K := by
  have hargs' : c.args = #[x, y] := by apply Array.ext'; simpa using hargs
  have hT : ∀ t', (x = .tmp t' ∨ y = .tmp t') → Operand.tmp t' ∈ (Op.call c).operands := by
    rintro t' (rfl | rfl) <;> simp only [Op.operands, Call.operands, hargs', Array.mem_append] <;> exact .inr (by simp)
  simp only [opK] at hk
  split at hk
  · rename_i i o n hv
    obtain ⟨h1, h2⟩ := ev_ok hx hv hE (fun t' ht => hT t' (.inl ht))
    split at hk
    · rename_i w hw
      obtain ⟨h3, h4⟩ := ev_ok hy hw hE (fun t' ht => hT t' (.inr ht))
      split at hk
      · rename_i l2 k hr2
        split at hk
        · rename_i bi hbi
          split at hk
          · rename_i p hp
            split at hk
            · rename_i l A'
              obtain ⟨⟨⟨hpo, hl2, hle, hlit, hes⟩, ⟨j, o', bj, hwj, hbj, hljt⟩, hl⟩, hk⟩ := hk
              obtain rfl : w = .sl j o' k := by simpa [hw] using hwj
              have hDi : D i := h2 i (by simp [V.ids])
              have hDj : D j := h4 j (by simp [V.ids])
              simp only [rowOf, hbj] at hr2
              split at hr2
              · simp at hr2
              rename_i esp hesp
              simp at hr2
              have hids2 : V.idsL l2 = [] := by
                rcases hljt with hljt | h0
                case inr => exact h0
                have h0 := hI.flat j _ hDj hbj hljt
                apply List.eq_nil_iff_forall_not_mem.mpr
                intro q hq
                rw [← hr2] at hq
                have := mem_drop_ids (mem_take_ids hq)
                rw [h0] at this; simp at this
              -- the value that is read
              obtain ⟨b2, c2, e2, hc2, r2⟩ : ∃ b2 c2, a.eval y = .slice b2 k c2 ∧ k ≤ c2 ∧ VR C.ρ m (.sl j o' (min k n)) (.slice b2 (min k n) c2) := by
                simp only [VR] at h3
                rcases h3 with ⟨cc, h3, hcc, hsz⟩ | ⟨rfl, bb, h3⟩
                · exact ⟨_, cc, h3, hcc, by simp only [VR]; exact .inl ⟨cc, rfl, by omega, hsz⟩⟩
                · exact ⟨_, 0, h3, Nat.le_refl _, by simp [VR]⟩
              have hrow : rowOf h s (.sl j o' (min k n)) = some (l2.take (min k n * s), min k n) := by
                simp only [rowOf, hbj, hesp]
                rw [← hr2, List.take_take, Nat.min_eq_left (Nat.mul_le_mul_right _ (Nat.min_le_left _ _))]
              have hmk : min k n * s ≤ k * s := Nat.mul_le_mul_right _ (Nat.min_le_left _ _)
              have hmn : min k n * s ≤ n * s := Nat.mul_le_mul_right _ (Nat.min_le_right _ _)
              have hl2' : (l2.take (min k n * s)).length = min k n * s := by simp [hl2]
              obtain ⟨b3, c3, us, e3, _, r3, f3, i3, at3⟩ := row_run hI r2 (fun q hq => h4 q (by simpa [V.ids] using hq)) hrow hl2'
              obtain ⟨rfl, rfl⟩ : b2 = b3 ∧ c2 = c3 := by simpa using e3
              have hul := r3.length
              have hids3 : V.idsL (l2.take (min k n * s)) = [] := by
                apply List.eq_nil_iff_forall_not_mem.mpr
                intro q hq
                have := mem_take_ids hq
                rw [hids2] at this; simp at this
              have hfc : (Builtin.firstCells s (min k n) (a.eval y)).run C.P W = .ok us.toArray W := by
                have := f3 C.P W rfl
                rw [e2]
                cases b2 <;> exact this
              obtain ⟨W', w1, w2⟩ := write_ok hI hDi hbi hp hpo r3 (r3.oneCells at3) (by rw [hl2']; omega) (by rw [hids3]; simp) (l := l) (by rw [hl2']; exact hl.symm) (fun _ => hids3) at3
              have run : ∀ (u : Value) (W' : World), (Builtin.copy_ c.argTypes ty #[a.eval x, a.eval y]).run C.P W = .ok u W' → (execOp a.eval ⟨dst, .call c, ty, pos, aft, gd⟩).run C.P W = .ok (.value u) W' := by
                intro u W' hr
                obtain ⟨callee, args, argTypes⟩ := c
                simp only at hc hargs' hr
                subst hc hargs'
                simp [execOp, resolve, invoke, builtin, hr]
              have hmin : Nat.min k n = min k n := rfl
              simp only [VR] at h1
              rcases h1 with ⟨cc, h1, _⟩ | ⟨rfl, bb, h1⟩
              · refine ⟨_, _, A', hk, OKop.val (run (.int .i64 (min k n : Nat)) W' ?_) (w2.post (by simp [VR]) (by simp [V.ids]))⟩
                simp only [Builtin.copy_, ht, h1, List.getElem?_toArray, List.getElem?_cons_zero, List.getElem?_cons_succ, Sem.run_bind, run_under (elemT_ok hu), Result.andThen_ok, Sem.run_pure]
                rw [e2, lenOf_slice, ← e2]
                simp only [Result.andThen_ok, run_size hs, hmin, hfc, w1, goInt]
              · have hu0 : us = [] := List.length_eq_zero_iff.mp (by rw [hul, hl2']; simp)
                subst hu0
                have hW : W' = W := by simp [storeCells] at w1; exact w1.symm
                subst hW
                refine ⟨_, _, A', hk, OKop.val (run (.int .i64 (min k 0 : Nat)) W' ?_) (w2.post (by simp [VR]) (by simp [V.ids]))⟩
                simp only [Builtin.copy_, ht, h1, List.getElem?_toArray, List.getElem?_cons_zero, List.getElem?_cons_succ, Sem.run_bind, run_under (elemT_ok hu), Result.andThen_ok, Sem.run_pure]
                rw [e2, lenOf_slice, ← e2]
                simp only [Result.andThen_ok, run_size hs, hmin, hfc, storeCells, Sem.run_pure, goInt]
            · exact hk.elim
          · exact hk.elim
        · exact hk.elim
      · exact hk.elim
    · exact hk.elim
  · exact hk.elim

theorem s_clear {c : Call} {x : Operand} {x' : X} {t el : TypeId} {s : Nat} {z : List V} (hc : c.callee = .builtin .clear) (hargs : c.args.toList = [x]) (ht : c.argTypes[0]? = some t) (hu : elemT C.P t = some el) (hs : sizeT C.P el = some s)
    (hz : zeroT C.P el = some z) (hzl : z.length = s) (h0 : 0 < s) (hx : cX C x = some x')
    (hE : ER C.ρ m D e a (fun t' => .tmp t' ∈ (Op.call c).operands)) (hI : Inv C.ρ R m D h W) (hk : opK Cl (.clear s z x') e h A K) :
    Goal C R m D h W a ⟨dst, .call c, ty, pos, aft, gd⟩ K := by
  have hargs' : c.args = #[x] := by apply Array.ext'; simpa using hargs
  have hT : ∀ t', x = .tmp t' → Operand.tmp t' ∈ (Op.call c).operands := by
    rintro t' rfl; simp only [Op.operands, Call.operands, hargs', Array.mem_append]; exact .inr (by simp)
  obtain ⟨iz, zv, z1, z2, z3, z4, z5⟩ := zeroT_ok hz
  have hzs : zv.cells.size = s := by have := (z3 m).length; simp at this; omega
  have run : ∀ (u : Value) (W' : World), (Builtin.clear_ c.argTypes ty #[a.eval x]).run C.P W = .ok u W' → (execOp a.eval ⟨dst, .call c, ty, pos, aft, gd⟩).run C.P W = .ok (.value u) W' := by
    intro u W' hr
    obtain ⟨callee, args, argTypes⟩ := c
    simp only at hc hargs' hr
    subst hc hargs'
    simp [execOp, resolve, invoke, builtin, hr]
  simp only [opK] at hk
  split at hk
  · rename_i i o n hv
    obtain ⟨h1, h2⟩ := ev_ok hx hv hE hT
    split at hk
    · rename_i bi hbi
      split at hk
      · rename_i p hp
        split at hk
        · rename_i l A'
          obtain ⟨⟨⟨hpo, hle, hlit⟩, hl⟩, hk⟩ := hk
          have hDi : D i := h2 i (by simp [V.ids])
          have hrel : VRL C.ρ m (List.replicate n z).flatten (List.replicate n zv.cells.toList).flatten := VRL.rep (z3 m) n
          have hids : V.idsL (List.replicate n z).flatten = [] := ids_rep z4 n
          have hat : ((List.replicate n z).flatten).all V.atom = true := List.all_eq_true.mpr fun q hq => by
            obtain ⟨r, hr, hq⟩ := List.mem_flatten.mp hq
            rw [(List.mem_replicate.mp hr).2] at hq
            exact List.all_eq_true.mp z5 q hq
          have hll : ((List.replicate n z).flatten).length = n * s := by simp [hzl]
          obtain ⟨W', w1, w2⟩ := write_ok hI hDi hbi hp hpo hrel (hrel.oneCells hat) (by rw [hll]; omega) (by rw [hids]; simp) (l := l) (by rw [hll]; exact hl.symm) (fun _ => hids) hat
          have hz0 : n = 0 → W' = W := by
            rintro rfl
            simp [storeCells] at w1; exact w1.symm
          simp only [VR] at h1
          cases n with
          | zero =>
            obtain rfl := hz0 rfl
            refine ⟨_, _, A', hk, OKop.val (run (.tuple #[]) W' ?_) (w2.post (by simp [VR, VRL]) (by simp [V.ids, V.idsL]))⟩
            rcases h1 with ⟨cc, h1, _⟩ | ⟨_, bb, h1⟩
            · simp only [Builtin.clear_, ht, h1, List.getElem?_toArray, List.getElem?_cons_zero, Sem.run_bind, run_under (elemT_ok hu), Result.andThen_ok, Sem.run_pure]
            · cases bb <;> simp only [Builtin.clear_, ht, h1, List.getElem?_toArray, List.getElem?_cons_zero, Sem.run_bind, run_under (elemT_ok hu), Result.andThen_ok, Sem.run_pure]
          | succ k =>
            rcases h1 with ⟨cc, h1, _⟩ | ⟨hn, _⟩
            · refine ⟨_, _, A', hk, OKop.val (run (.tuple #[]) W' ?_) (w2.post (by simp [VR, VRL]) (by simp [V.ids, V.idsL]))⟩
              have hzc : (Builtin.zeroCells zv.cells (k + 1)).toList = (List.replicate (k + 1) zv.cells.toList).flatten := by
                unfold Builtin.zeroCells; exact rep_cells zv.cells (k + 1) (by omega)
              simp only [Builtin.clear_, ht, h1, List.getElem?_toArray, List.getElem?_cons_zero, Sem.run_bind, run_under (elemT_ok hu), Result.andThen_ok, Sem.run_pure, run_zero z1 z2, hzc, w1]
            · omega
        · exact hk.elim
      · exact hk.elim
    · exact hk.elim
  · exact hk.elim
end
end Go.Proofs.Ytokoboflpaklaaa.Mi
namespace Go.Proofs.Ytokoboflpaklaaa.Mi
open Go

/-- What may be written by a call: new blocks, and what its arguments' blocks let. -/
def Rcall (m : Mp) (h : Heap) (W : World) : Nat → Nat → Prop :=
  fun r o => W.heap.size ≤ r ∨ ∃ (i : Nat) (b : Blk) (p : Nat), h[i]? = some b ∧ b.pr = some p ∧ m.b i = r ∧ p ≤ o

structure EvPost (C : Cx) (m : Mp) (h : Heap) (W : World) (r : V) (h' : Heap) (u : Value) (W' : World) (m' : Mp) : Prop where
  rel : VR C.ρ m' r u
  rid : ∀ i ∈ r.ids, i < h'.length
  inv : Inv C.ρ (Rcall m h W) m' (fun i => i < h'.length) h' W'
  keep : Keep (Rcall m h W) W W'
  same : ∀ i, i < h.length → m.same m' i
  len : h.length ≤ h'.length
  new : ∀ (i : Nat) (b : Blk), h.length ≤ i → h'[i]? = some b → b.pr.isSome = true
  cle : ∀ (i : Nat) (b b' : Blk), h[i]? = some b → h'[i]? = some b' → b'.cl = b.cl

/-- Whatever the memory: the call of f with args, over the heap h, returns r, and leaves h'. -/
def Ev (C : Cx) : Calls' := fun f args h r h' =>
  (∃ fn, C.P.funcs[C.ρ f]? = some fn ∧ (fn.name == "runtime.NumGoroutine") = false ∧ fn.body.isNone = false) ∧
  ∀ (m : Mp) (W : World) (vs : List Value), Inv C.ρ (Rcall m h W) m (fun i => i < h.length) h W → VRL C.ρ m args vs → (∀ i ∈ V.idsL args, i < h.length) →
    Calls C.P (C.ρ f) vs.toArray W (fun e W' => ∃ u m', e = .returned u ∧ EvPost C m h W r h' u W' m')

/-! ### Lists of numbers -/

theorem pos_ok : ∀ {L : List Nat} {j : Nat}, j ∈ L → pos L j < L.length ∧ L[pos L j]? = some j
  | [], _, hj => by simp at hj
  | i :: L, j, hj => by
    simp only [pos]
    split
    · rename_i e; subst e; simp
    · rename_i e
      have := pos_ok (L := L) (j := j) (by simpa [e] using hj)
      exact ⟨by simp; omega, by simpa using this.2⟩

theorem distinct_ok : ∀ {L : List Nat}, distinct L = true → ∀ {a b j : Nat}, L[a]? = some j → L[b]? = some j → a = b
  | [], _, a, b, j, ha, _ => by simp at ha
  | i :: L, hd, a, b, j, ha, hb => by
    simp only [distinct, Bool.and_eq_true, Bool.not_eq_true', List.contains_eq_mem, decide_eq_false_iff_not] at hd
    cases a <;> cases b
    · rfl
    · simp at ha hb; subst ha; exact absurd (List.mem_of_getElem? hb) hd.1
    · simp at ha hb; subst hb; exact absurd (List.mem_of_getElem? ha) hd.1
    · simp at ha hb; rw [distinct_ok hd.2 ha hb]

theorem closed_ok {h : Heap} {L : List Nat} : ∀ {l : List Nat}, closed h L l = true → ∀ i ∈ l, ∃ b, h[i]? = some b ∧ ∀ j ∈ b.ids, j ∈ L
  | [], _, i, hi => by simp at hi
  | k :: l, hc, i, hi => by
    simp only [closed] at hc
    split at hc
    · rename_i b hb
      simp only [Bool.and_eq_true] at hc
      rcases List.mem_cons.mp hi with rfl | hi
      · exact ⟨b, hb, fun j hj => by simpa using List.all_eq_true.mp hc.1 j hj⟩
      · exact closed_ok hc.2 i hi
    · simp at hc

theorem reach_in {D : Nat → Prop} {h : Heap} (hD : ∀ i b, D i → h[i]? = some b → ∀ j ∈ b.ids, D j) : ∀ (k : Nat) (todo acc : List Nat), (∀ i ∈ todo, D i) → (∀ i ∈ acc, D i) → ∀ i ∈ reach h k todo acc, D i
  | 0, _, acc, _, ha => by simpa [reach] using ha
  | k + 1, [], acc, _, ha => by simpa [reach] using ha
  | k + 1, i :: todo, acc, ht, ha => by
    simp only [reach]
    have hi : D i := ht i List.mem_cons_self
    have ht' : ∀ j ∈ todo, D j := fun j hj => ht j (List.mem_cons_of_mem _ hj)
    have ha' : ∀ j ∈ acc ++ [i], D j := fun j hj => by
      rcases List.mem_append.mp hj with hj | hj
      · exact ha j hj
      · simp at hj; subst hj; exact hi
    split
    · exact reach_in hD k todo acc ht' ha
    · split
      · rename_i b hb
        exact reach_in hD k _ _ (fun j hj => (List.mem_append.mp hj).elim (hD i b hi hb j) (ht' j)) ha'
      · exact reach_in hD k _ _ ht' ha'

theorem clsIdx_ok {h : Heap} {cl : Nat} : ∀ {L : List Nat} {i : Nat} {b : Blk}, i ∈ L → h[i]? = some b → b.cl = cl → clsIdx h cl L < L.length ∧ ∃ j bj, L[clsIdx h cl L]? = some j ∧ h[j]? = some bj ∧ bj.cl = cl
  | [], _, _, hi, _, _ => by simp at hi
  | k :: L, i, b, hi, hb, hc => by
    simp only [clsIdx]
    cases hk : h[k]? with
    | some bk =>
      simp only
      by_cases e : bk.cl = cl
      · rw [if_pos e]; exact ⟨by simp, k, bk, by simp, hk, e⟩
      · rw [if_neg e]
        have : i ∈ L := by
          rcases List.mem_cons.mp hi with rfl | hi
          · rw [hk] at hb; obtain rfl := Option.some.inj hb; exact absurd hc e
          · exact hi
        obtain ⟨q1, j, bj, q2, q3⟩ := clsIdx_ok this hb hc
        exact ⟨by simp; omega, j, bj, by simpa using q2, q3⟩
    | none =>
      simp only
      have : i ∈ L := by
        rcases List.mem_cons.mp hi with rfl | hi
        · rw [hk] at hb; simp at hb
        · exact hi
      obtain ⟨q1, j, bj, q2, q3⟩ := clsIdx_ok this hb hc
      exact ⟨by simp; omega, j, bj, by simpa using q2, q3⟩

theorem others_le {h : Heap} {L : List Nat} {cl : Nat} : ∀ {n i : Nat} {b : Blk}, i < n → h[i]? = some b → b.cl = cl → i ∉ L → b.c.length ≤ others h L cl n
  | 0, i, b, hn, _, _, _ => by omega
  | n + 1, i, b, hn, hb, hc, hL => by
    simp only [others]
    by_cases e : i = n
    · subst e
      rw [hb]; simp only
      rw [if_pos ⟨hc, by simpa using hL⟩]
      exact Nat.le_max_left _ _
    · have := others_le (n := n) (by omega) hb hc hL
      split
      · split
        · exact Nat.le_trans this (Nat.le_max_right _ _)
        · exact this
      · exact this

theorem sub_get {h : Heap} {L : List Nat} {call : Bool} : ∀ {l : List Nat}, (∀ i ∈ l, ∃ b, h[i]? = some b) →
    (sub h L call l).length = l.length ∧ ∀ (k : Nat) (i : Nat) (b : Blk), l[k]? = some i → h[i]? = some b →
      (sub h L call l)[k]? = some { b.ren (pos L) with cl := clsIdx h b.cl L, pr := if call then b.pr.map (fun p => max p (others h L b.cl h.length)) else b.pr }
  | [], _ => by simp [sub]
  | i :: l, hl => by
    obtain ⟨b, hb⟩ := hl i List.mem_cons_self
    obtain ⟨q1, q2⟩ := sub_get (L := L) (call := call) (l := l) fun j hj => hl j (List.mem_cons_of_mem _ hj)
    simp only [sub, hb]
    refine ⟨by simp [q1], fun k j b' hk hb' => ?_⟩
    cases k with
    | zero => simp at hk; subst hk; rw [hb] at hb'; obtain rfl := Option.some.inj hb'; rfl
    | succ k => simpa using q2 k j b' (by simpa using hk) hb'

theorem setBlk_get : ∀ (h : Heap) (i j : Nat) (b : Blk), (setBlk h i b)[j]? = if j = i then (h[i]?).map (fun _ => b) else h[j]?
  | [], i, j, b => by simp [setBlk]
  | x :: h, 0, 0, b => by simp [setBlk]
  | x :: h, 0, j + 1, b => by simp [setBlk]
  | x :: h, i + 1, 0, b => by simp [setBlk]
  | x :: h, i + 1, j + 1, b => by simp [setBlk, setBlk_get h i j b]

theorem setBlk_length : ∀ (h : Heap) (i : Nat) (b : Blk), (setBlk h i b).length = h.length
  | [], _, _ => rfl
  | _ :: _, 0, _ => rfl
  | _ :: h, i + 1, b => by simp [setBlk, setBlk_length h i b]

theorem mergeOld_get {h0 : Heap} {L : List Nat} {n : Nat} : ∀ (L' : List Nat) (bs : List Blk) (h : Heap), distinct L' = true → bs.length = L'.length → (∀ j ∈ L', ∃ o, h0[j]? = some o) →
    (mergeOld h0 L n h L' bs).length = h.length ∧ (∀ i, i ∉ L' → (mergeOld h0 L n h L' bs)[i]? = h[i]?) ∧
    (∀ (k j : Nat) (b o : Blk), L'[k]? = some j → bs[k]? = some b → j < h.length → h0[j]? = some o → (mergeOld h0 L n h L' bs)[j]? = some { b.ren (unren L n) with cl := o.cl, pr := o.pr })
  | [], bs, h, _, _, _ => by simp [mergeOld]
  | i :: L', [], h, _, hl, _ => by simp at hl
  | i :: L', b :: bs, h, hd, hl, ho => by
    obtain ⟨o, hoi⟩ := ho i List.mem_cons_self
    simp only [distinct, Bool.and_eq_true, Bool.not_eq_true', List.contains_eq_mem, decide_eq_false_iff_not] at hd
    simp only [mergeOld, hoi]
    obtain ⟨q1, q2, q3⟩ := mergeOld_get (h0 := h0) (L := L) (n := n) L' bs (setBlk h i { b.ren (unren L n) with cl := o.cl, pr := o.pr }) hd.2 (by simpa using hl) fun j hj => ho j (List.mem_cons_of_mem _ hj)
    refine ⟨by rw [q1, setBlk_length], fun j hj => ?_, fun k j b' o' hk hb' hj ho' => ?_⟩
    · rw [List.mem_cons, not_or] at hj
      rw [q2 j hj.2, setBlk_get, if_neg hj.1]
    · cases k with
      | zero =>
        simp at hk hb'; subst hk hb'
        rw [hoi] at ho'; obtain rfl := Option.some.inj ho'
        rw [q2 i hd.1, setBlk_get, if_pos rfl, List.getElem?_eq_getElem hj]; rfl
      | succ k =>
        exact q3 k j b' o' (by simpa using hk) (by simpa using hb') (by rw [setBlk_length]; exact hj) ho'

theorem mergeNew_get {h0 : Heap} {L : List Nat} {n : Nat} : ∀ (bs : List Blk) (k : Nat), (mergeNew h0 L n bs)[k]? = (bs[k]?).map fun b => { b.ren (unren L n) with cl := (match L[b.cl]? with
      | some i => (match h0[i]? with | some o => o.cl | none => 0)
      | none => n + (b.cl - L.length)) }
  | [], k => by simp [mergeNew]
  | b :: bs, 0 => by simp [mergeNew]; rfl
  | b :: bs, k + 1 => by simp [mergeNew, mergeNew_get bs k]

theorem mergeNew_length {h0 : Heap} {L : List Nat} {n : Nat} : ∀ (bs : List Blk), (mergeNew h0 L n bs).length = bs.length
  | [] => rfl
  | _ :: bs => by simp [mergeNew, mergeNew_length bs]

theorem V.atom_ren (f : Nat → Nat) (v : V) : (v.ren f).atom = v.atom := by cases v <;> simp [V.ren, V.atom]

theorem Blk.ren_atom {f : Nat → Nat} {b : Blk} (hb : b.c.all V.atom = true) : (b.ren f).c.all V.atom = true := by
  simp only [Blk.ren]
  split
  · rw [List.all_eq_true] at hb ⊢
    intro x hx
    obtain ⟨k, hk⟩ := List.getElem?_of_mem hx
    rw [V.renL_get] at hk
    cases hv : b.c[k]? with
    | none => rw [hv] at hk; simp at hk
    | some v => rw [hv] at hk; simp at hk; subst hk; rw [V.atom_ren]; exact hb v (List.mem_of_getElem? hv)
  · exact hb

theorem Blk.ren_length {f : Nat → Nat} {b : Blk} : (b.ren f).c.length = b.c.length := by
  simp only [Blk.ren]; split
  · exact V.renL_length _ _
  · rfl

theorem Blk.ren_get {f : Nat → Nat} {b : Blk} {j : Nat} {v : V} (hv : (b.ren f).c[j]? = some v) : ∃ v0, b.c[j]? = some v0 ∧ v = if b.lit then v0.ren f else v0 := by
  simp only [Blk.ren] at hv
  split at hv
  · rename_i hl
    rw [V.renL_get] at hv
    cases h0 : b.c[j]? with
    | none => rw [h0] at hv; simp at hv
    | some v0 => rw [h0] at hv; simp at hv; exact ⟨v0, rfl, by simp [hl, hv]⟩
  · rename_i hl; exact ⟨v, hv, by simp [hl]⟩

theorem Blk.ren_ids {f : Nat → Nat} {b : Blk} (hf : b.lit = false → V.idsL b.c = []) {j : Nat} (hj : j ∈ V.idsL (b.ren f).c) : ∃ i ∈ b.ids, j = f i := by
  simp only [Blk.ren] at hj
  split at hj
  · rename_i hl
    rw [V.idsL_ren] at hj
    obtain ⟨i, hi, rfl⟩ := List.mem_map.mp hj
    exact ⟨i, by simp [Blk.ids, hl, hi], rfl⟩
  · rename_i hl
    rw [hf (by simpa using hl)] at hj; simp at hj

theorem VR.flat_any {ρ : Nat → Nat} {m m' : Mp} {v : V} {u : Value} (h : VR ρ m v u) (hi : v.ids = []) : VR ρ m' v u := h.agree (by simp [hi])

theorem flat_mem {l : List V} (h : V.idsL l = []) {v : V} (hv : v ∈ l) : v.ids = [] := by
  apply List.eq_nil_iff_forall_not_mem.mpr
  intro x hx
  have := V.mem_idsL.mpr ⟨v, hv, hx⟩
  rw [h] at this; simp at this
end Go.Proofs.Ytokoboflpaklaaa.Mi
namespace Go.Proofs.Ytokoboflpaklaaa.Mi
open Go

section
variable {C : Cx} {R : Nat → Nat → Prop} {m : Mp} {D : Nat → Prop} {e : Env} {h : Heap} {A : List Ans} {K : V → Heap → List Ans → Prop} {W : World} {a : Act}
  {dst : Option Tmp} {ty : TypeId} {pos : String} {aft : Array Edge} {gd : Option (Nat × Bool)}

/-- The callee's memory, out of the caller's. -/
theorem enter_ok (hI : Inv C.ρ R m D h W) {L : List Nat} (hL : ∀ i ∈ L, D i) (hc : closed h L L = true) :
    Inv C.ρ (Rcall (m.comp fun k => L.getD k 0) (sub h L true L) W) (m.comp fun k => L.getD k 0) (fun i => i < (sub h L true L).length) (sub h L true L) W := by
  have hex : ∀ i ∈ L, ∃ b, h[i]? = some b := fun i hi => hI.dom i (hL i hi)
  obtain ⟨s1, s2⟩ := sub_get (h := h) (L := L) (call := true) (l := L) hex
  have key : ∀ (k : Nat) (b' : Blk), (sub h L true L)[k]? = some b' → ∃ i b, L[k]? = some i ∧ h[i]? = some b ∧ D i ∧ L.getD k 0 = i ∧
      b' = { b.ren (pos L) with cl := clsIdx h b.cl L, pr := b.pr.map (fun p => max p (others h L b.cl h.length)) } := by
    intro k b' hb'
    have hk : k < L.length := by rw [← s1]; exact (List.getElem?_eq_some_iff.mp hb').1
    have hki : L[k]? = some L[k] := List.getElem?_eq_getElem hk
    obtain ⟨b, hb⟩ := hex _ (List.getElem_mem hk)
    have := s2 k _ b hki hb
    rw [hb'] at this
    exact ⟨_, b, hki, hb, hL _ (List.getElem_mem hk), by simp [List.getD_eq_getElem?_getD, hki], by simpa using Option.some.inj this⟩
  have hpos : ∀ j ∈ L, m.same ((m.comp fun k => L.getD k 0).comp (pos L)) j := by
    intro j hj
    have := (pos_ok hj).2
    simp [Mp.same, Mp.comp, List.getD_eq_getElem?_getD, this]
  refine ⟨?_, ?_, ?_, ?_, ?_, ?_, ?_, ?_, ?_⟩
  · intro k b' hk hb'
    obtain ⟨i, b, e1, e2, e3, e4, rfl⟩ := key k b' hb'
    obtain ⟨cs, el, fz, g1, g2, g3, g4, g5, g6⟩ := hI.blk i b e3 e2
    refine ⟨cs, el, fz, by simp only [Mp.comp, e4]; exact g1, by simp only [Mp.comp, e4]; exact g2, by simp only [Mp.comp, e4]; exact g3, by show (b.ren (pos L)).c.length ≤ _; rw [Blk.ren_length]; exact g4, fun j v hv => ?_, fun hp => g6 (by simpa using hp)⟩
    obtain ⟨v0, h0, rfl⟩ := Blk.ren_get (f := pos L) (b := b) hv
    obtain ⟨u, hu, hr⟩ := g5 j v0 h0
    refine ⟨u, hu, ?_⟩
    split
    · rename_i hlit
      rw [VR.ren]
      refine hr.agree fun x hx => hpos x ?_
      obtain ⟨b2, hb2, hcl⟩ := closed_ok hc i (List.mem_of_getElem? e1)
      rw [e2] at hb2; obtain rfl := Option.some.inj hb2
      exact hcl x (by simp only [Blk.ids, hlit, if_true]; exact V.mem_idsL.mpr ⟨v0, List.mem_of_getElem? h0, hx⟩)
    · rename_i hlit
      exact hr.flat_any (flat_mem (hI.flat i b e3 e2 (by simpa using hlit)) (List.mem_of_getElem? h0))
  · intro k hk
    exact ⟨_, List.getElem?_eq_getElem hk⟩
  · intro k1 k2 b1 b2 hk1 hk2 hb1 hb2 he
    obtain ⟨i, b, e1, e2, e3, e4, rfl⟩ := key k1 b1 hb1
    obtain ⟨i', b', e1', e2', e3', e4', rfl⟩ := key k2 b2 hb2
    simp only [Mp.comp, e4, e4'] at he
    simp only
    rw [hI.cls i i' b b' e3 e3' e2 e2' he]
  · intro k b' p hk hb' hp o ho
    exact .inr ⟨k, b', p, hb', hp, rfl, ho⟩
  · intro k b' hk hb' hl
    obtain ⟨i, b, e1, e2, e3, e4, rfl⟩ := key k b' hb'
    have hl' : b.lit = false := hl
    simp only [Blk.ren, hl', Bool.false_eq_true, if_false]
    exact hI.flat i b e3 e2 hl'
  · intro k b' hk hb' j hj
    obtain ⟨i, b, e1, e2, e3, e4, rfl⟩ := key k b' hb'
    obtain ⟨x, hx, rfl⟩ := Blk.ren_ids (hI.flat i b e3 e2) hj
    obtain ⟨b2, hb2, hcl⟩ := closed_ok hc i (List.mem_of_getElem? e1)
    rw [e2] at hb2; obtain rfl := Option.some.inj hb2
    rw [s1]; exact (pos_ok (hcl x hx)).1
  · exact fun r hr o => .inl hr
  · intro k b' hk hb'
    obtain ⟨i, b, e1, e2, e3, e4, rfl⟩ := key k b' hb'
    rw [s1]; exact (clsIdx_ok (List.mem_of_getElem? e1) e2 rfl).1
  · intro k b' hk hb'
    obtain ⟨i, b, e1, e2, e3, e4, rfl⟩ := key k b' hb'
    exact fun hes => Blk.ren_atom (hI.atm i b e3 e2 hes)

theorem leave_ok (hI : Inv C.ρ R m D h W) {L : List Nat} (hL : ∀ i ∈ L, D i) (hd : distinct L = true) {r : V} {H1 : Heap} {u : Value} {W' : World} {m1 : Mp}
    (hp : EvPost C (m.comp fun k => L.getD k 0) (sub h L true L) W r H1 u W' m1) :
    ∃ m', Post C.ρ R m D h W (r.ren (unren L h.length)) (merge h L H1) u W' m' := by
  have hex : ∀ i ∈ L, ∃ b, h[i]? = some b := fun i hi => hI.dom i (hL i hi)
  obtain ⟨s1, s2⟩ := sub_get (h := h) (L := L) (call := true) (l := L) hex
  have hlen1 : L.length ≤ H1.length := by rw [← s1]; exact hp.len
  have htk : (H1.take L.length).length = L.length := by simp; omega
  obtain ⟨o1, o2, o3⟩ := mergeOld_get (h0 := h) (L := L) (n := h.length) L (H1.take L.length) h hd htk hex
  have hml : (merge h L H1).length = h.length + (H1.length - L.length) := by
    simp [merge, o1, mergeNew_length]
  let m' : Mp := ⟨fun i => if i < h.length then m.b i else m1.b (L.length + (i - h.length)), fun i => if i < h.length then m.sz i else m1.sz (L.length + (i - h.length)), fun i => if i < h.length then m.es i else m1.es (L.length + (i - h.length))⟩
  have hm0 : ∀ i, i < h.length → m.same m' i := fun i hi => by simp [Mp.same, m', hi]
  have hm1 : ∀ k, k < H1.length → m1.same (m'.comp (unren L h.length)) k := by
    intro k hk
    by_cases hkL : k < L.length
    · have hki : L[k]? = some L[k] := List.getElem?_eq_getElem hkL
      have hj := hI.hlt (hL _ (List.getElem_mem hkL))
      obtain ⟨q1, q2, q3⟩ := hp.same k (by rw [s1]; exact hkL)
      simp only [Mp.comp, List.getD_eq_getElem?_getD, hki, Option.getD_some] at q1 q2 q3
      simp only [Mp.same, Mp.comp, unren, hki, m', hj, if_true]
      exact ⟨q1.symm, q2.symm, q3.symm⟩
    · have hkn : L[k]? = none := List.getElem?_eq_none (by omega)
      have e1 : ¬ (h.length + (k - L.length) < h.length) := by omega
      have e2 : L.length + (h.length + (k - L.length) - h.length) = k := by omega
      simp only [Mp.same, Mp.comp, unren, hkn, m', e1, e2, if_false, and_self]
  -- where ids go
  have hun : ∀ k, k < H1.length → D (unren L h.length k) ∨ (h.length ≤ unren L h.length k ∧ unren L h.length k < (merge h L H1).length) := by
    intro k hk
    unfold unren
    cases hki : L[k]? with
    | some j => exact .inl (hL j (List.mem_of_getElem? hki))
    | none =>
      have := List.getElem?_eq_none_iff.mp hki
      exact .inr ⟨by simp, by rw [hml]; simp; omega⟩
  -- rights
  have hR : ∀ r o, r < W.heap.size → Rcall (m.comp fun k => L.getD k 0) (sub h L true L) W r o → ∃ (i : Nat) (b : Blk) (p : Nat), i ∈ L ∧ D i ∧ h[i]? = some b ∧ b.pr = some p ∧ m.b i = r ∧ max p (others h L b.cl h.length) ≤ o := by
    intro r o hr hc
    rcases hc with hc | ⟨k, b', p, hb', hpr, hmb, hpo⟩
    · omega
    · have hk : k < L.length := by rw [← s1]; exact (List.getElem?_eq_some_iff.mp hb').1
      have hki : L[k]? = some L[k] := List.getElem?_eq_getElem hk
      obtain ⟨b, hb⟩ := hex _ (List.getElem_mem hk)
      have := s2 k _ b hki hb
      rw [hb'] at this
      have hbe := Option.some.inj this
      subst hbe
      simp only [if_true] at hpr
      cases hbp : b.pr with
      | none => rw [hbp] at hpr; simp at hpr
      | some p0 =>
        rw [hbp] at hpr; simp at hpr
        simp only [Mp.comp, List.getD_eq_getElem?_getD, hki, Option.getD_some] at hmb
        exact ⟨_, b, p0, List.getElem_mem hk, hL _ (List.getElem_mem hk), hb, hbp, hmb, by omega⟩
  have hRR : ∀ r o, Rcall (m.comp fun k => L.getD k 0) (sub h L true L) W r o → R r o := by
    intro r o hc
    by_cases hr : r < W.heap.size
    · obtain ⟨i, b, p, _, hD, hb, hp, rfl, ho⟩ := hR r o hr hc
      exact hI.rts i b p hD hb hp o (by omega)
    · exact hI.fresh r (by omega) o
  -- the blocks of the merged heap
  have old_in : ∀ (k j : Nat) (b o : Blk), L[k]? = some j → H1[k]? = some b → h[j]? = some o → (merge h L H1)[j]? = some { b.ren (unren L h.length) with cl := o.cl, pr := o.pr } := by
    intro k j b o hk hb ho
    have hj := hI.hlt (hL j (List.mem_of_getElem? hk))
    have hkl : k < L.length := (List.getElem?_eq_some_iff.mp hk).1
    unfold merge
    rw [List.getElem?_append_left (by rw [o1]; exact hj)]
    exact o3 k j b o hk (by rw [List.getElem?_take, if_pos hkl]; exact hb) hj ho
  have old_out : ∀ i, D i → i ∉ L → (merge h L H1)[i]? = h[i]? := by
    intro i hi hn
    unfold merge
    rw [List.getElem?_append_left (by rw [o1]; exact hI.hlt hi)]
    exact o2 i hn
  have new_at : ∀ i, h.length ≤ i → (merge h L H1)[i]? = (H1[L.length + (i - h.length)]?).map fun b => { b.ren (unren L h.length) with cl := (match L[b.cl]? with
      | some i => (match h[i]? with | some o => o.cl | none => 0)
      | none => h.length + (b.cl - L.length)) } := by
    intro i hi
    unfold merge
    rw [List.getElem?_append_right (by rw [o1]; exact hi), o1, mergeNew_get, List.getElem?_drop]
    try rfl
  -- a callee's class, here
  have arg_cl : ∀ (k j : Nat) (b o : Blk), L[k]? = some j → H1[k]? = some b → h[j]? = some o → b.cl < L.length ∧ ∃ (j' : Nat) (bj : Blk), L[b.cl]? = some j' ∧ h[j']? = some bj ∧ bj.cl = o.cl := by
    intro k j b o hk hb ho
    have hs := s2 k j o hk ho
    have := hp.cle k _ b hs hb
    rw [this]
    exact clsIdx_ok (List.mem_of_getElem? hk) ho rfl
  have content : ∀ (k : Nat) (b : Blk), H1[k]? = some b → ∀ (cs : Array Value), (∀ (j : Nat) (v : V), b.c[j]? = some v → ∃ u, cs[j]? = some u ∧ VR C.ρ m1 v u) →
      ∀ (j : Nat) (v : V), (b.ren (unren L h.length)).c[j]? = some v → ∃ u, cs[j]? = some u ∧ VR C.ρ m' v u := by
    intro k b hb cs hcs j v hv
    have hkl : k < H1.length := (List.getElem?_eq_some_iff.mp hb).1
    obtain ⟨v0, h0, rfl⟩ := Blk.ren_get hv
    obtain ⟨u, hu, hr⟩ := hcs j v0 h0
    refine ⟨u, hu, ?_⟩
    split
    · rw [VR.ren]
      exact hr.agree fun x hx => hm1 x (hp.inv.ids k b hkl hb x (V.mem_idsL.mpr ⟨v0, List.mem_of_getElem? h0, hx⟩))
    · rename_i hlit
      exact hr.flat_any (flat_mem (hp.inv.flat k b hkl hb (by simpa using hlit)) (List.mem_of_getElem? h0))
  have hD' : ∀ i, (D i ∨ (h.length ≤ i ∧ i < (merge h L H1).length)) → (D i ∧ i < h.length) ∨ (h.length ≤ i ∧ L.length + (i - h.length) < H1.length) := by
    rintro i (hi | hi)
    · exact .inl ⟨hi, hI.hlt hi⟩
    · rw [hml] at hi; exact .inr ⟨hi.1, by omega⟩
  have mb_new : ∀ i, h.length ≤ i → m'.b i = m1.b (L.length + (i - h.length)) ∧ m'.sz i = m1.sz (L.length + (i - h.length)) ∧ m'.es i = m1.es (L.length + (i - h.length)) := by
    intro i hi
    have : ¬ i < h.length := by omega
    simp [m', this]
  -- a new block that lies in an old one
  have new_old : ∀ (k : Nat) (bk : Blk) (i : Nat) (b : Blk), L.length ≤ k → H1[k]? = some bk → D i → h[i]? = some b → m1.b k = m.b i → ∃ (k' j : Nat) (b' : Blk), L[k']? = some j ∧ H1[k']? = some b' ∧ D j ∧ m.b j = m.b i ∧ b'.cl = bk.cl := by
    intro k bk i b hk hbk hi hb he
    have hkl : k < H1.length := (List.getElem?_eq_some_iff.mp hbk).1
    have hpr := hp.new k bk (by rw [s1]; exact hk) hbk
    obtain ⟨p, hp'⟩ := Option.isSome_iff_exists.mp hpr
    have hr := hp.inv.rts k bk p hkl hbk hp' p (Nat.le_refl _)
    rw [he] at hr
    obtain ⟨j, bj, pj, hjL, hjD, hjb, _, hjm, _⟩ := hR _ _ (hI.lt hi) hr
    have hq := pos_ok hjL
    have hk'l : pos L j < H1.length := by omega
    refine ⟨pos L j, j, H1[pos L j], hq.2, List.getElem?_eq_getElem hk'l, hjD, hjm, ?_⟩
    refine hp.inv.cls (pos L j) k _ _ hk'l hkl (List.getElem?_eq_getElem hk'l) hbk ?_
    have := (hp.same (pos L j) (by rw [s1]; exact hq.1)).1
    rw [this, he, ← hjm]
    simp [Mp.comp, List.getD_eq_getElem?_getD, hq.2]
  refine ⟨m', ⟨?_, ?_, ?_, ?_, fun i hi => hm0 i (hI.hlt hi), by rw [hml]; omega, fun i b b' hb hb' => ?_, fun i b hi hb => ?_⟩⟩
  rotate_left 4
  · have hil := (List.getElem?_eq_some_iff.mp hb).1
    by_cases hiL : i ∈ L
    · obtain ⟨q1, q2⟩ := pos_ok hiL
      have hk1 : pos L i < H1.length := by omega
      rw [old_in _ i _ b q2 (List.getElem?_eq_getElem hk1) hb] at hb'
      obtain rfl := Option.some.inj hb'; exact ⟨rfl, rfl⟩
    · unfold merge at hb'
      rw [List.getElem?_append_left (by rw [o1]; exact hil), o2 i hiL, hb] at hb'
      obtain rfl := Option.some.inj hb'; exact ⟨rfl, rfl⟩
  · rw [new_at i hi] at hb
    cases hk : H1[L.length + (i - h.length)]? with
    | none => rw [hk] at hb; simp at hb
    | some bk =>
      rw [hk] at hb; simp at hb; subst hb
      exact hp.new _ bk (by rw [s1]; omega) hk
  · rw [VR.ren]
    exact hp.rel.agree fun i hi => hm1 i (hp.rid i hi)
  · intro i hi
    rw [V.ids_ren] at hi
    obtain ⟨k, hk, rfl⟩ := List.mem_map.mp hi
    exact hun k (hp.rid k hk)
  · refine ⟨?_, ?_, ?_, ?_, ?_, ?_, ?_, ?_, ?_⟩
    · intro i b' hi hb'
      rcases hD' i hi with ⟨hi, hil⟩ | ⟨hi, hkl⟩
      · obtain ⟨o, ho⟩ := hI.dom i hi
        obtain ⟨cs, el, fz, g1, g2, g3, g4, g5, g6⟩ := hI.blk i o hi ho
        obtain ⟨a1, a2, a3⟩ := hm0 i hil
        have hkp := hp.keep.blk (m.b i) (hI.lt hi)
        rw [g1] at hkp
        by_cases hiL : i ∈ L
        · obtain ⟨q1, q2⟩ := pos_ok hiL
          have hk1 : pos L i < H1.length := by omega
          have hbk := List.getElem?_eq_getElem hk1
          rw [old_in _ i _ o q2 hbk ho] at hb'
          obtain rfl := Option.some.inj hb'
          obtain ⟨cs', el', fz', f1, f2, f3, f4, f5, f6⟩ := hp.inv.blk (pos L i) _ hk1 hbk
          obtain ⟨c1, c2, c3⟩ := hp.same (pos L i) (by rw [s1]; exact q1)
          simp only [Mp.comp, List.getD_eq_getElem?_getD, q2, Option.getD_some] at c1 c2 c3
          refine ⟨cs', el', fz', by rw [a1, ← c1]; exact f1, by rw [a2, ← c2]; exact f2, ?_, by show (Blk.ren _ _).c.length ≤ _; rw [Blk.ren_length]; exact f4, content _ _ hbk cs' f5, fun hpr => ?_⟩
          · rw [a3, ← c3]; exact f3
          · have hfz := g6 hpr
            rw [c1] at f1
            rcases hkp with hkp | ⟨ds, ds', el2, fz2, e1, e2, _⟩
            · rw [f1] at hkp
              have : fz = fz' := by simp at hkp; exact hkp.2.2
              rw [← this]; exact hfz
            · rw [f1] at e2
              have z1 : fz = fz2 := by simp at e1; exact e1.2.2
              have z2 : fz' = fz2 := by simp at e2; exact e2.2.2
              rw [z2, ← z1]; exact hfz
        · rw [old_out i hi hiL, ho] at hb'
          obtain rfl := Option.some.inj hb'
          have hcells : ∃ cs' el' fz', W'.heap[m.b i]? = some (.cells cs' el' fz') ∧ cs'.size = cs.size ∧ fz' = fz ∧ ∀ j : Nat, j < o.c.length → cs'[j]? = cs[j]? := by
            rcases hkp with hkp | ⟨ds, ds', el2, fz2, e1, e2, e3, e4⟩
            · exact ⟨cs, el, fz, hkp.symm, rfl, rfl, fun _ _ => rfl⟩
            · obtain ⟨rfl, rfl, rfl⟩ : cs = ds ∧ el = el2 ∧ fz = fz2 := by simpa using e1
              refine ⟨ds', el, fz, e2, e3, rfl, fun j hj => e4 j fun hr => ?_⟩
              obtain ⟨i2, b2, p2, hL2, hD2, hb2, _, hm2, hmax⟩ := hR _ _ (hI.lt hi) hr
              have hcl := hI.cls i2 i b2 o hD2 hi hb2 ho hm2
              have := others_le (L := L) (cl := b2.cl) (hI.hlt hi) ho hcl.symm hiL
              omega
          obtain ⟨cs', el', fz', f1, f2, f3, f4⟩ := hcells
          refine ⟨cs', el', fz', by rw [a1]; exact f1, by rw [a2, f2]; exact g2, by rw [a3]; exact g3, by omega, fun j v hv => ?_, fun hpr => by rw [f3]; exact g6 hpr⟩
          obtain ⟨u, hu, hr⟩ := g5 j v hv
          refine ⟨u, by rw [f4 j (List.getElem?_eq_some_iff.mp hv).1]; exact hu, hr.agree fun x hx => hm0 x (hI.hlt (hI.ids i o hi ho x (V.mem_idsL.mpr ⟨v, List.mem_of_getElem? hv, hx⟩)))⟩
      · rw [new_at i hi, List.getElem?_eq_getElem hkl] at hb'
        obtain rfl := Option.some.inj hb'
        obtain ⟨a1, a2, a3⟩ := mb_new i hi
        obtain ⟨cs', el', fz', f1, f2, f3, f4, f5, f6⟩ := hp.inv.blk _ _ hkl (List.getElem?_eq_getElem hkl)
        exact ⟨cs', el', fz', by rw [a1]; exact f1, by rw [a2]; exact f2, by rw [a3]; exact f3, by show (Blk.ren _ _).c.length ≤ _; rw [Blk.ren_length]; exact f4, content _ _ (List.getElem?_eq_getElem hkl) cs' f5, f6⟩
    · intro i hi
      have : i < (merge h L H1).length := by
        rcases hi with hi | hi
        · have := hI.hlt hi; rw [hml]; omega
        · exact hi.2
      exact ⟨_, List.getElem?_eq_getElem this⟩
    · -- classes
      have shape : ∀ i b', (D i ∨ (h.length ≤ i ∧ i < (merge h L H1).length)) → (merge h L H1)[i]? = some b' →
          (∃ o, D i ∧ h[i]? = some o ∧ b'.cl = o.cl ∧ m'.b i = m.b i) ∨
          (∃ bk, h.length ≤ i ∧ L.length + (i - h.length) < H1.length ∧ H1[L.length + (i - h.length)]? = some bk ∧ m'.b i = m1.b (L.length + (i - h.length)) ∧
            b'.cl = (match L[bk.cl]? with | some i => (match h[i]? with | some o => o.cl | none => 0) | none => h.length + (bk.cl - L.length))) := by
        intro i b' hi hb'
        rcases hD' i hi with ⟨hi, hil⟩ | ⟨hi, hkl⟩
        · obtain ⟨o, ho⟩ := hI.dom i hi
          refine .inl ⟨o, hi, ho, ?_, (hm0 i hil).1⟩
          by_cases hiL : i ∈ L
          · obtain ⟨q1, q2⟩ := pos_ok hiL
            have hk1 : pos L i < H1.length := by omega
            rw [old_in _ i _ o q2 (List.getElem?_eq_getElem hk1) ho] at hb'
            obtain rfl := Option.some.inj hb'; rfl
          · rw [old_out i hi hiL, ho] at hb'
            obtain rfl := Option.some.inj hb'; rfl
        · rw [new_at i hi, List.getElem?_eq_getElem hkl] at hb'
          obtain rfl := Option.some.inj hb'
          exact .inr ⟨_, hi, hkl, List.getElem?_eq_getElem hkl, (mb_new i hi).1, rfl⟩
      have cross : ∀ i o k bk, D i → h[i]? = some o → L.length ≤ k → H1[k]? = some bk → m1.b k = m.b i →
          (match L[bk.cl]? with | some i => (match h[i]? with | some o => o.cl | none => 0) | none => h.length + (bk.cl - L.length)) = o.cl := by
        intro i o k bk hi ho hk hbk he
        obtain ⟨k', j, b', e1, e2, e3, e4, e5⟩ := new_old k bk i o hk hbk hi ho he
        obtain ⟨oj, hoj⟩ := hI.dom j e3
        obtain ⟨c1, j', bj, c2, c3, c4⟩ := arg_cl k' j b' oj e1 e2 hoj
        rw [← e5, c2]; simp only [c3]
        rw [c4]
        exact hI.cls j i oj o e3 hi hoj ho e4
      intro i j bi bj hi hj hbi hbj he
      rcases shape i bi hi hbi with ⟨o, x1, x2, x3, x4⟩ | ⟨bk, x1, x2, x3, x4, x5⟩ <;> rcases shape j bj hj hbj with ⟨o', y1, y2, y3, y4⟩ | ⟨bk', y1, y2, y3, y4, y5⟩
      · rw [x3, y3]; rw [x4, y4] at he; exact hI.cls i j o o' x1 y1 x2 y2 he
      · rw [x3, y5]; rw [x4, y4] at he; exact (cross i o _ bk' x1 x2 (by omega) y3 he.symm).symm
      · rw [x5, y3]; rw [x4, y4] at he; exact cross j o' _ bk y1 y2 (by omega) x3 he
      · rw [x5, y5]; rw [x4, y4] at he
        have := hp.inv.cls _ _ bk bk' x2 y2 x3 y3 he
        rw [this]
    · -- rights
      intro i b' p hi hb' hpr o ho
      rcases hD' i hi with ⟨hi, hil⟩ | ⟨hi, hkl⟩
      · obtain ⟨ob, hob⟩ := hI.dom i hi
        rw [(hm0 i hil).1]
        refine hI.rts i ob p hi hob ?_ o ho
        by_cases hiL : i ∈ L
        · obtain ⟨q1, q2⟩ := pos_ok hiL
          have hk1 : pos L i < H1.length := by omega
          rw [old_in _ i _ ob q2 (List.getElem?_eq_getElem hk1) hob] at hb'
          obtain rfl := Option.some.inj hb'; exact hpr
        · rw [old_out i hi hiL, hob] at hb'
          obtain rfl := Option.some.inj hb'; exact hpr
      · rw [new_at i hi, List.getElem?_eq_getElem hkl] at hb'
        obtain rfl := Option.some.inj hb'
        rw [(mb_new i hi).1]
        exact hRR _ _ (hp.inv.rts _ _ p hkl (List.getElem?_eq_getElem hkl) hpr o ho)
    · -- flat
      intro i b' hi hb' hl
      rcases hD' i hi with ⟨hi, hil⟩ | ⟨hi, hkl⟩
      · obtain ⟨ob, hob⟩ := hI.dom i hi
        by_cases hiL : i ∈ L
        · obtain ⟨q1, q2⟩ := pos_ok hiL
          have hk1 : pos L i < H1.length := by omega
          rw [old_in _ i _ ob q2 (List.getElem?_eq_getElem hk1) hob] at hb'
          obtain rfl := Option.some.inj hb'
          have hl' : H1[pos L i].lit = false := hl
          simp only [Blk.ren, hl', Bool.false_eq_true, if_false]
          exact hp.inv.flat _ _ hk1 (List.getElem?_eq_getElem hk1) hl'
        · rw [old_out i hi hiL, hob] at hb'
          obtain rfl := Option.some.inj hb'; exact hI.flat i ob hi hob hl
      · rw [new_at i hi, List.getElem?_eq_getElem hkl] at hb'
        obtain rfl := Option.some.inj hb'
        have hl' : H1[L.length + (i - h.length)].lit = false := hl
        simp only [Blk.ren, hl', Bool.false_eq_true, if_false]
        exact hp.inv.flat _ _ hkl (List.getElem?_eq_getElem hkl) hl'
    · -- ids
      intro i b' hi hb' x hx
      rcases hD' i hi with ⟨hi, hil⟩ | ⟨hi, hkl⟩
      · obtain ⟨ob, hob⟩ := hI.dom i hi
        by_cases hiL : i ∈ L
        · obtain ⟨q1, q2⟩ := pos_ok hiL
          have hk1 : pos L i < H1.length := by omega
          rw [old_in _ i _ ob q2 (List.getElem?_eq_getElem hk1) hob] at hb'
          obtain rfl := Option.some.inj hb'
          obtain ⟨y, hy, rfl⟩ := Blk.ren_ids (hp.inv.flat _ _ hk1 (List.getElem?_eq_getElem hk1)) hx
          refine hun y (hp.inv.ids _ _ hk1 (List.getElem?_eq_getElem hk1) y ?_)
          simp only [Blk.ids] at hy; split at hy
          · exact hy
          · simp at hy
        · rw [old_out i hi hiL, hob] at hb'
          obtain rfl := Option.some.inj hb'; exact .inl (hI.ids i ob hi hob x hx)
      · rw [new_at i hi, List.getElem?_eq_getElem hkl] at hb'
        obtain rfl := Option.some.inj hb'
        obtain ⟨y, hy, rfl⟩ := Blk.ren_ids (hp.inv.flat _ _ hkl (List.getElem?_eq_getElem hkl)) hx
        refine hun y (hp.inv.ids _ _ hkl (List.getElem?_eq_getElem hkl) y ?_)
        simp only [Blk.ids] at hy; split at hy
        · exact hy
        · simp at hy
    · exact fun r hr o => hI.fresh r (Nat.le_trans hp.keep.size hr) o
    · -- classes' numbers
      intro i b' hi hb'
      rw [hml]
      rcases hD' i hi with ⟨hi, hil⟩ | ⟨hi, hkl⟩
      · obtain ⟨ob, hob⟩ := hI.dom i hi
        have := hI.clb i ob hi hob
        by_cases hiL : i ∈ L
        · obtain ⟨q1, q2⟩ := pos_ok hiL
          have hk1 : pos L i < H1.length := by omega
          rw [old_in _ i _ ob q2 (List.getElem?_eq_getElem hk1) hob] at hb'
          obtain rfl := Option.some.inj hb'
          show ob.cl < _
          omega
        · rw [old_out i hi hiL, hob] at hb'
          obtain rfl := Option.some.inj hb'; omega
      · rw [new_at i hi, List.getElem?_eq_getElem hkl] at hb'
        obtain rfl := Option.some.inj hb'
        simp only
        have hc := hp.inv.clb _ _ hkl (List.getElem?_eq_getElem hkl)
        cases hq : L[H1[L.length + (i - h.length)].cl]? with
        | some j =>
          simp only
          obtain ⟨oj, hoj⟩ := hex j (List.mem_of_getElem? hq)
          simp only [hoj]
          have := hI.clb j oj (hL j (List.mem_of_getElem? hq)) hoj
          omega
        | none =>
          simp only
          have := List.getElem?_eq_none_iff.mp hq
          omega
    · -- atoms
      intro i b' hi hb'
      rcases hD' i hi with ⟨hi, hil⟩ | ⟨hi, hkl⟩
      · obtain ⟨ob, hob⟩ := hI.dom i hi
        by_cases hiL : i ∈ L
        · obtain ⟨q1, q2⟩ := pos_ok hiL
          have hk1 : pos L i < H1.length := by omega
          rw [old_in _ i _ ob q2 (List.getElem?_eq_getElem hk1) hob] at hb'
          obtain rfl := Option.some.inj hb'
          exact fun hes => Blk.ren_atom (hp.inv.atm _ _ hk1 (List.getElem?_eq_getElem hk1) hes)
        · rw [old_out i hi hiL, hob] at hb'
          obtain rfl := Option.some.inj hb'; exact hI.atm i ob hi hob
      · rw [new_at i hi, List.getElem?_eq_getElem hkl] at hb'
        obtain rfl := Option.some.inj hb'
        exact fun hes => Blk.ren_atom (hp.inv.atm _ _ hkl (List.getElem?_eq_getElem hkl) hes)
  · exact hp.keep.mono fun r o _ hc => hRR r o hc
end
end Go.Proofs.Ytokoboflpaklaaa.Mi
namespace Go.Proofs.Ytokoboflpaklaaa.Mi
open Go

section
variable {C : Cx} {R : Nat → Nat → Prop} {m : Mp} {D : Nat → Prop} {e : Env} {h : Heap} {A : List Ans} {K : V → Heap → List Ans → Prop} {W : World} {a : Act}
  {dst : Option Tmp} {ty : TypeId} {pos : String} {aft : Array Edge} {gd : Option (Nat × Bool)}

theorem run_callFunc {P : Program} {f : FuncId} {fn : Func} {args : Array Value} (hf : P.funcs[f]? = some fn) (hn : (fn.name == "runtime.NumGoroutine") = false) (hb : fn.body.isNone = false) :
    (callFunc f args).run P W = .ok (.enter f args) W := by
  have hn' : ¬ fn.name = "runtime.NumGoroutine" := by simpa using hn
  have hb' : ¬ fn.body = none := by intro h; rw [h] at hb; simp at hb
  simp [callFunc, hf, hn', hb']

theorem callK_ok (hI : Inv C.ρ R m D h W) {f : Nat} {vs : List V} {us : List Value} (hrel : VRL C.ρ m vs us) (hid : ∀ i ∈ V.idsL vs, D i) (hk : callK (Ev C) f vs h A K) {o : Oper}
    (hrun : ∀ fn, C.P.funcs[C.ρ f]? = some fn → (fn.name == "runtime.NumGoroutine") = false → fn.body.isNone = false → (execOp a.eval o).run C.P W = .ok (.enter (C.ρ f) us.toArray) W) :
    Goal C R m D h W a o K := by
  unfold callK at hk
  split at hk
  · rename_i r H1 A'
    obtain ⟨⟨hcl, hdi, hal, hle⟩, ⟨⟨fn, hfn, hname, hbody⟩, hev⟩, hk⟩ := hk
    have hL : ∀ i ∈ reach h fuel (V.idsL vs) [], D i := reach_in (fun i b hi hb j hj => by
      refine hI.ids i b hi hb j ?_
      simp only [Blk.ids] at hj; split at hj
      · exact hj
      · simp at hj) _ _ _ hid (by simp)
    generalize reach h fuel (V.idsL vs) [] = L at *
    have hent := enter_ok hI hL hcl
    have hex : ∀ i ∈ L, ∃ b, h[i]? = some b := fun i hi => hI.dom i (hL i hi)
    have s1 := (sub_get (h := h) (L := L) (call := true) (l := L) hex).1
    have hin : ∀ i ∈ V.idsL vs, i ∈ L := fun i hi => by simpa using List.all_eq_true.mp hal i hi
    have hcall := hev _ W us hent (by
      rw [VRL.ren]
      refine hrel.agree fun i hi => ?_
      have := (pos_ok (hin i hi)).2
      simp [Mp.same, Mp.comp, List.getD_eq_getElem?_getD, this]) (fun i hi => by
      rw [V.idsL_ren] at hi
      obtain ⟨j, hj, rfl⟩ := List.mem_map.mp hi
      rw [s1]; exact (pos_ok (hin j hj)).1)
    refine ⟨_, _, A', hk, fun next Q hn => ?_⟩
    unfold Oper.wp
    rw [hrun fn hfn hname hbody, Oper.upon_enter]
    refine hcall.mono fun e W' he => ?_
    obtain ⟨u, m1, rfl, hp⟩ := he
    obtain ⟨m', hp'⟩ := leave_ok hI hL hdi hp
    exact hn u W' m' hp'
  · exact hk.elim

theorem s_call {c : Call} {f : FuncId} {xs : List X} (hc : c.callee = .value (.func f)) (hf : C.ρ (C.κ f) = f) (hx : mapO (cX C) c.args.toList = some xs)
    (hE : ER C.ρ m D e a (fun t' => .tmp t' ∈ (Op.call c).operands)) (hI : Inv C.ρ R m D h W) (hk : opK (Ev C) (.call (C.κ f) xs) e h A K) :
    Goal C R m D h W a ⟨dst, .call c, ty, pos, aft, gd⟩ K := by
  simp only [opK] at hk
  split at hk
  · rename_i vs hv
    obtain ⟨h1, h2⟩ := evs_ok hx hv hE (by intro t ht; simp only [Op.operands, Call.operands, Array.mem_append]; exact .inr (by simpa using ht))
    refine callK_ok hI h1 h2 hk fun fn q1 q2 q3 => ?_
    rw [hf] at q1 ⊢
    obtain ⟨callee, args, argTypes⟩ := c
    simp only at hc
    subst hc
    have : (#[] : Array Value) ++ args.map a.eval ++ #[] = (args.toList.map a.eval).toArray := by apply Array.ext'; simp
    have ev : a.eval (.func f) = .func (.func f) #[] #[] := rfl
    simp only [execOp, resolve, ev, Deferred.ofValue, Sem.run_bind, Sem.run_pure, Result.andThen_ok, invoke, this]
    exact run_callFunc q1 q2 q3
  · exact hk.elim

theorem s_callv {c : Call} {x : Operand} {x' : X} {xs : List X} (hc : c.callee = .value x) (hx' : cX C x = some x') (hx : mapO (cX C) c.args.toList = some xs)
    (hE : ER C.ρ m D e a (fun t' => .tmp t' ∈ (Op.call c).operands)) (hI : Inv C.ρ R m D h W) (hk : opK (Ev C) (.callv x' xs) e h A K) :
    Goal C R m D h W a ⟨dst, .call c, ty, pos, aft, gd⟩ K := by
  simp only [opK] at hk
  split at hk
  · rename_i f caps hf
    obtain ⟨h3, h4⟩ := ev_ok hx' hf hE (by rintro t rfl; simp [Op.operands, Call.operands, hc])
    split at hk
    · rename_i vs hv
      obtain ⟨h1, h2⟩ := evs_ok hx hv hE (by intro t ht; simp only [Op.operands, Call.operands, Array.mem_append]; exact .inr (by simpa using ht))
      simp only [VR] at h3
      obtain ⟨us, e1, h3⟩ := h3
      refine callK_ok hI (h1.append h3) (fun i hi => ?_) hk fun fn q1 q2 q3 => ?_
      · rw [V.idsL_append] at hi
        exact (List.mem_append.mp hi).elim (h2 i) (fun hi => h4 i (by simpa [V.ids] using hi))
      · obtain ⟨callee, args, argTypes⟩ := c
        simp only at hc
        subst hc
        have : (#[] : Array Value) ++ args.map a.eval ++ us = (args.toList.map a.eval ++ us.toList).toArray := by apply Array.ext'; simp
        simp only [execOp, resolve, e1, Deferred.ofValue, Sem.run_bind, Sem.run_pure, Result.andThen_ok, invoke, this]
        exact run_callFunc q1 q2 q3
    · exact hk.elim
  · rename_i f caps hf
    obtain ⟨h3, h4⟩ := ev_ok hx' hf hE (by rintro t rfl; simp [Op.operands, Call.operands, hc])
    split at hk
    · rename_i vs hv
      obtain ⟨h1, h2⟩ := evs_ok hx hv hE (by intro t ht; simp only [Op.operands, Call.operands, Array.mem_append]; exact .inr (by simpa using ht))
      simp only [VR] at h3
      obtain ⟨us, e1, h3⟩ := h3
      refine callK_ok hI (h3.append h1) (fun i hi => ?_) hk fun fn q1 q2 q3 => ?_
      · rw [V.idsL_append] at hi
        exact (List.mem_append.mp hi).elim (fun hi => h4 i (by simpa [V.ids] using hi)) (h2 i)
      · obtain ⟨callee, args, argTypes⟩ := c
        simp only at hc
        subst hc
        have : us ++ args.map a.eval ++ (#[] : Array Value) = (us.toList ++ args.toList.map a.eval).toArray := by apply Array.ext'; simp
        simp only [execOp, resolve, e1, Deferred.ofValue, Sem.run_bind, Sem.run_pure, Result.andThen_ok, invoke, this]
        exact run_callFunc q1 q2 q3
    · exact hk.elim
  · exact hk.elim

theorem one_arg {xs : List Operand} {x' : X} (hh : mapO (cX C) xs = some [x']) : ∃ x, xs = [x] ∧ cX C x = some x' := by
  obtain ⟨h1, h2⟩ := mapO_some hh
  match xs, h1, h2 with
  | [x], _, h2 =>
    obtain ⟨b, hb, hx⟩ := h2 0 x rfl
    simp at hb; subst hb
    exact ⟨x, rfl, hx⟩

theorem two_args {xs : List Operand} {x' y' : X} (hh : mapO (cX C) xs = some [x', y']) : ∃ x y, xs = [x, y] ∧ cX C x = some x' ∧ cX C y = some y' := by
  obtain ⟨h1, h2⟩ := mapO_some hh
  match xs, h1, h2 with
  | [x, y], _, h2 =>
    obtain ⟨b, hb, hx⟩ := h2 0 x rfl
    obtain ⟨b', hb', hy⟩ := h2 1 y rfl
    simp at hb hb'; subst hb hb'
    exact ⟨x, y, rfl, hx, hy⟩

/-- Every operation. -/
theorem op_sound {o : Oper} {mo : MOp} (hc : cOp C o.op = some mo) (hE : ER C.ρ m D e a (fun t' => .tmp t' ∈ o.op.operands)) (hI : Inv C.ρ R m D h W) (hk : opK (Ev C) mo e h A K) :
    Goal C R m D h W a o K := by
  have bad : ∀ {G : Prop}, opK (Ev C) .bad e h A K → G := fun hb => by simp only [opK] at hb
  obtain ⟨dst, op, ty, pos, aft, gd⟩ := o
  simp only at hc hE
  cases op
  case move x =>
    simp only [cOp, Option.map_eq_some_iff] at hc
    obtain ⟨x', hx, rfl⟩ := hc
    exact s_mov (.inl rfl) hx hE hI hk
  case assign x =>
    simp only [cOp, Option.map_eq_some_iff] at hc
    obtain ⟨x', hx, rfl⟩ := hc
    exact s_mov (.inr rfl) hx hE hI hk
  case pick c x y =>
    simp only [cOp] at hc
    split at hc
    · rename_i h1 h2 h3; obtain rfl := Option.some.inj hc; exact s_pick h1 h2 h3 hE hI hk
    · simp at hc
  case alloc t =>
    simp only [cOp, Option.map_eq_some_iff] at hc
    obtain ⟨z, hz, rfl⟩ := hc
    exact s_alloc hz hI hk
  case box t x =>
    simp only [cOp, Option.map_eq_some_iff] at hc
    obtain ⟨x', hx, rfl⟩ := hc
    exact s_box hx hE hI hk
  case build t ps =>
    simp only [cOp] at hc
    split at hc
    · rename_i z pl hz hpl
      simp only [Option.map_eq_some_iff] at hc
      obtain ⟨ps', hp, rfl⟩ := hc
      exact s_build hz hpl hp hE hI hk
    · simp at hc
  case buildSlice t n ps =>
    simp only [cOp] at hc
    split at hc
    · rename_i el hel
      split at hc
      · rename_i s z hs hz
        split at hc
        · rename_i hn; subst hn
          split at hc
          · rename_i hp; obtain rfl := Option.some.inj hc; exact s_empt hel hs hp hI hk
          · simp at hc
        · rename_i hn
          split at hc
          · rename_i hcond
            simp only [Option.map_eq_some_iff] at hc
            obtain ⟨ps', hp, rfl⟩ := hc
            exact s_bslice hel hs hz hcond.1 hcond.2.1 hcond.2.2 hn hp hE hI hk
          · simp at hc
      · simp at hc
    · simp at hc
  case load t x =>
    simp only [cOp] at hc
    split at hc
    · rename_i h1 h2; obtain rfl := Option.some.inj hc; exact s_load h1 h2 hE hI hk
    · simp at hc
  case store t x y =>
    simp only [cOp] at hc
    split at hc
    · rename_i h1 h2 h3; obtain rfl := Option.some.inj hc; exact s_store h1 h2 h3 hE hI hk
    · simp at hc
  case nilCheck x =>
    simp only [cOp, Option.map_eq_some_iff] at hc
    obtain ⟨x', hx, rfl⟩ := hc
    exact s_nilck hx hE hI hk
  case binOp op t x y t' =>
    simp only [cOp] at hc
    split at hc
    · rename_i x' y' hx hy
      obtain rfl := Option.some.inj hc
      split at hk
      · split at hk
        · rename_i n hn; exact s_eqa (neg := false) hn hx hy hE hI hk
        · exact bad hk
      · split at hk
        · rename_i n hn; exact s_eqa (neg := true) hn hx hy hE hI hk
        · exact bad hk
      · rename_i hu; exact s_eqb (neg := false) hu hx hy hE hI hk
      · rename_i hu; exact s_eqb (neg := true) hu hx hy hE hI hk
      · rename_i hu; exact s_isnil (neg := false) hu hx hy hE hI hk
      · rename_i hu; exact s_isnil (neg := true) hu hx hy hE hI hk
      · exact s_bin hx hy hE hI hk
      · exact bad hk
    · simp at hc
  case unOp op t x =>
    simp only [cOp, Option.map_eq_some_iff] at hc
    obtain ⟨x', hx, rfl⟩ := hc
    exact s_un hx hE hI hk
  case convert s d x =>
    simp only [cOp] at hc
    split at hc
    · rename_i x' hx
      obtain rfl := Option.some.inj hc
      split at hk
      · rename_i h1 h2; exact s_conv h1 h2 hx hE hI hk
      · exact bad hk
    · simp at hc
  case makeFunc fn first caps =>
    cases fn
    case func f =>
      simp only [cOp] at hc
      split at hc
      · rename_i l hl
        split at hc
        · rename_i hcond; obtain rfl := Option.some.inj hc; exact s_mkfn hl hcond.1 hcond.2 hE hI hk
        · split at hc
          · rename_i hcond
            obtain ⟨l2, hl2, rfl⟩ := Option.map_eq_some_iff.mp hc
            exact s_mkbfn hl2 hcond.1 hcond.2 hE hI hk
          · simp at hc
      · simp at hc
    all_goals (simp only [cOp] at hc; obtain rfl := Option.some.inj hc; exact bad hk)
  case makeSlice t x y =>
    simp only [cOp] at hc
    split at hc
    · rename_i el hel
      split at hc
      · rename_i i z x' hi hz hx
        split at hc
        · rename_i hcond
          obtain rfl := Option.some.inj hc
          exact s_make hel hi hz hx hcond.1 hcond.2.1 hcond.2.2.1 hcond.2.2.2 hE hI hk
        · simp at hc
      · simp at hc
    · simp at hc
  case slice t x lo hi mx =>
    simp only [cOp] at hc
    split at hc
    · rename_i x' hx
      split at hc
      · split at hc
        · obtain rfl := Option.some.inj hc
          split at hk
          · rename_i s hs
            cases hel : elemT C.P t with
            | none => rw [hel] at hs; simp at hs
            | some el => rw [hel] at hs; exact s_slice0 hel hx ⟨s, hs⟩ hE hI hk
          · exact bad hk
        · obtain rfl := Option.some.inj hc; exact bad hk
      · obtain rfl := Option.some.inj hc; exact bad hk
      · split at hc
        · rename_i l h' hl hh
          split at hc
          · rename_i el hu
            simp only [Option.map_eq_some_iff] at hc
            obtain ⟨s, hs, rfl⟩ := hc
            exact s_slice hu hs hx hl hh hE hI hk
          · rename_i hu
            obtain rfl := Option.some.inj hc
            exact s_sslice hu hx hl hh hE hI hk
          · obtain rfl := Option.some.inj hc; exact bad hk
        · simp at hc
    · simp at hc
  case fieldAddr t x f =>
    simp only [cOp] at hc
    split at hc
    · rename_i fs x' hu hx
      split at hc
      · rename_i fl hf
        split at hc
        · rename_i n hn
          split at hc
          · simp at hc
          · rename_i hn0; obtain rfl := Option.some.inj hc; exact s_fieldAddr hu hf hn hn0 hx hE hI hk
        · simp at hc
      · simp at hc
    · simp at hc
  case field t x f =>
    simp only [cOp] at hc
    split at hc
    · rename_i fs x' hu hx
      split at hc
      · rename_i fl hf
        simp only [Option.map_eq_some_iff] at hc
        obtain ⟨n, hn, rfl⟩ := hc
        exact s_field hu hf hn hx hE hI hk
      · simp at hc
    · simp at hc
  case indexAddr t x y =>
    simp only [cOp] at hc
    split at hc
    · rename_i el hel
      split at hc
      · rename_i s x' y' hs hx hy; obtain rfl := Option.some.inj hc; exact s_indexAddr hel hs hx hy hE hI hk
      · simp at hc
    · obtain rfl := Option.some.inj hc; exact bad hk
  case index t x y =>
    simp only [cOp] at hc
    split at hc
    · rename_i x' y' hx hy
      obtain rfl := Option.some.inj hc
      split at hk
      · rename_i hu; exact s_index hu hx hy hE hI hk
      · exact bad hk
    · simp at hc
  case extract x i =>
    simp only [cOp, Option.map_eq_some_iff] at hc
    obtain ⟨x', hx, rfl⟩ := hc
    exact s_extract hx hE hI hk
  case call c =>
    simp only [cOp] at hc
    split at hc
    · rename_i as has
      split at hc
      · rename_i f hcal
        split at hc
        · rename_i hf; obtain rfl := Option.some.inj hc; exact s_call hcal hf has hE hI hk
        · simp at hc
      · rename_i x _ hcal
        simp only [Option.map_eq_some_iff] at hc
        obtain ⟨x', hx, rfl⟩ := hc
        exact s_callv hcal hx has hE hI hk
      · rename_i hcal
        split at hc
        · rename_i x' hty
          obtain rfl := Option.some.inj hc
          obtain ⟨t, ht, hu⟩ := Option.bind_eq_some_iff.mp hty
          obtain ⟨x, hxs, hx⟩ := one_arg has
          exact s_len hcal hxs ht hu hx hE hI hk
        · rename_i x' hty
          obtain rfl := Option.some.inj hc
          obtain ⟨t, ht, hu⟩ := Option.bind_eq_some_iff.mp hty
          obtain ⟨x, hxs, hx⟩ := one_arg has
          exact s_slen hcal hxs ht hu hx hE hI hk
        · obtain rfl := Option.some.inj hc; exact bad hk
      · rename_i hcal
        split at hc
        · rename_i x' hty
          obtain rfl := Option.some.inj hc
          obtain ⟨t, ht, hu⟩ := Option.bind_eq_some_iff.mp hty
          obtain ⟨x, hxs, hx⟩ := one_arg has
          exact s_cap hcal hxs ht hu hx hE hI hk
        · obtain rfl := Option.some.inj hc; exact bad hk
      · rename_i hcal
        split at hc
        · rename_i x' y' el xel hty1 hty2
          obtain ⟨t1, ht1, hu1⟩ := Option.bind_eq_some_iff.mp hty1
          obtain ⟨t2, ht2, hu2⟩ := Option.bind_eq_some_iff.mp hty2
          obtain ⟨x, y, hxs, hx, hy⟩ := two_args has
          split at hc
          · rename_i ti hti
            split at hc
            · rename_i hcond
              obtain rfl := Option.some.inj hc
              exact s_append hcal hxs ht1 ht2 hu1 hu2 hti hcond.1 hcond.2.1 hcond.2.2 hx hy hE hI hk
            · simp at hc
          · simp at hc
        · rename_i x' y' el hty1 hty2
          obtain ⟨t1, ht1, hu1⟩ := Option.bind_eq_some_iff.mp hty1
          obtain ⟨x, y, hxs, hx, hy⟩ := two_args has
          split at hc
          · rename_i kd ti z hty3 hti hz
            obtain ⟨t2, ht2, hu2⟩ := Option.bind_eq_some_iff.mp hty3
            split at hc
            · rename_i hcond
              obtain rfl := Option.some.inj hc
              exact s_appmk hcal hxs ht1 ht2 hu1 hu2 hti hz hcond.1 hcond.2.1 hcond.2.2 hx hy hE hI hk
            · obtain rfl := Option.some.inj hc; exact bad hk
          · obtain rfl := Option.some.inj hc; exact bad hk
        · obtain rfl := Option.some.inj hc; exact bad hk
      · rename_i hcal
        split at hc
        · rename_i x' y' el hty1
          obtain ⟨t1, ht1, hu1⟩ := Option.bind_eq_some_iff.mp hty1
          obtain ⟨x, y, hxs, hx, hy⟩ := two_args has
          simp only [Option.map_eq_some_iff] at hc
          obtain ⟨s, hs, rfl⟩ := hc
          exact s_copy hcal hxs ht1 hu1 hs hx hy hE hI hk
        · obtain rfl := Option.some.inj hc; exact bad hk
      · rename_i hcal
        split at hc
        · rename_i x' el hty1
          obtain ⟨t1, ht1, hu1⟩ := Option.bind_eq_some_iff.mp hty1
          obtain ⟨x, hxs, hx⟩ := one_arg has
          split at hc
          · rename_i s z hs hz
            split at hc
            · rename_i hcond
              obtain rfl := Option.some.inj hc
              exact s_clear hcal hxs ht1 hu1 hs hz hcond.1 hcond.2 hx hE hI hk
            · obtain rfl := Option.some.inj hc; exact bad hk
          · obtain rfl := Option.some.inj hc; exact bad hk
        · obtain rfl := Option.some.inj hc; exact bad hk
      · rename_i hcal; obtain rfl := Option.some.inj hc; exact s_mm (mx := true) hcal has hE hI hk
      · rename_i hcal; obtain rfl := Option.some.inj hc; exact s_mm (mx := false) hcal has hE hI hk
      · obtain rfl := Option.some.inj hc; exact bad hk
    · obtain rfl := Option.some.inj hc; exact bad hk
  all_goals (simp only [cOp] at hc; obtain rfl := Option.some.inj hc; exact bad hk)
end
end Go.Proofs.Ytokoboflpaklaaa.Mi
namespace Go.Proofs.Ytokoboflpaklaaa.Mi
open Go

def Ex.out : Ex → Exit
  | .normal => .normal
  | .exit i => .exit i
  | .ret => .ret

/-- A block's class is the first block of that class. -/
def CanonC (k : Nat) (c0 : Nat → Nat) : Prop := ∀ i, i < k → c0 i < k ∧ c0 (c0 i) = c0 i ∧ ∀ j, j < c0 i → c0 j ≠ c0 i

/-- The frame and memory of a body under way: N slots, k argument blocks. -/
structure CS (C : Cx) (N k : Nat) (R : Nat → Nat → Prop) (W0 : World) (m0 : Mp) (c0 : Nat → Nat) (e : Env) (h : Heap) (a : Act) (W : World) (m : Mp) : Prop where
  er : ER C.ρ m (fun i => i < h.length) e a (fun _ => True)
  inv : Inv C.ρ R m (fun i => i < h.length) h W
  keep : Keep R W0 W
  same : ∀ i, i < k → m0.same m i
  len : k ≤ h.length
  cle : ∀ (i : Nat) (b : Blk), i < k → h[i]? = some b → b.cl = c0 i
  new : ∀ (i : Nat) (b : Blk), k ≤ i → h[i]? = some b → b.pr.isSome = true
  sz : a.tmps.size = N
  df : a.defers = []
  can : CanonC k c0

theorem get_put (d : Nat) (v : V) (e : Env) (t : Nat) : get (put (some d) v e) t = if t = d then some v else get e t := rfl

section
variable {C : Cx} {N k : Nat} {R : Nat → Nat → Prop} {W0 : World} {m0 : Mp} {c0 : Nat → Nat} {e : Env} {h : Heap} {a : Act} {W : World} {m : Mp}

theorem ER.put {m' : Mp} {D D' : Nat → Prop} {T : Nat → Prop} (hE : ER C.ρ m D e a T) (hs : ∀ i, D i → m.same m' i) (hD : ∀ i, D i → D' i) {d : Option Tmp} {r : V} {u : Value}
    (hr : VR C.ρ m' r u) (hi : ∀ i ∈ r.ids, D' i) (hd : ∀ t, d = some t → t < a.tmps.size) : ER C.ρ m' D' (Mi.put d r e) (a.put d u) T := by
  intro t v ht hv
  cases d with
  | none =>
    obtain ⟨w, q1, q2, q3⟩ := hE t v ht hv
    exact ⟨w, q1, q2.agree fun i hi => hs i (q3 i hi), fun i hi => hD i (q3 i hi)⟩
  | some d =>
    rw [get_put] at hv
    have hsz := hd d rfl
    split at hv
    · rename_i e0; subst e0
      obtain rfl := Option.some.inj hv
      exact ⟨u, by simp [Act.put, hsz], hr, hi⟩
    · rename_i e0
      obtain ⟨w, q1, q2, q3⟩ := hE t v ht hv
      exact ⟨w, by simp only [Act.put]; rw [Array.getElem?_setIfInBounds_ne (by omega)]; exact q1, q2.agree fun i hi => hs i (q3 i hi), fun i hi => hD i (q3 i hi)⟩

theorem CS.put (cs : CS C N k R W0 m0 c0 e h a W m) {d : Option Tmp} (hd : ∀ t, d = some t → t < N) {r : V} {h' : Heap} {u : Value} {W' : World} {m' : Mp}
    (hp : Post C.ρ R m (fun i => i < h.length) h W r h' u W' m') : CS C N k R W0 m0 c0 (Mi.put d r e) h' (a.put d u) W' m' := by
  have hl := hp.len
  have eD : (fun i => i < h.length ∨ (h.length ≤ i ∧ i < h'.length)) = (fun i => i < h'.length) := by
    funext i; apply propext; omega
  refine ⟨cs.er.put hp.same (fun i hi => by omega) hp.rel (fun i hi => by have := hp.rid i hi; omega) (by rw [cs.sz]; exact hd), eD ▸ hp.inv, cs.keep.trans hp.keep, fun i hi => ?_, by have := cs.len; omega, fun i b hi hb => ?_, fun i b hi hb => ?_, ?_, ?_, ?_⟩
  · obtain ⟨a1, a2, a3⟩ := cs.same i hi
    obtain ⟨b1, b2, b3⟩ := hp.same i (by have := cs.len; omega)
    exact ⟨b1.trans a1, b2.trans a2, b3.trans a3⟩
  · have hi' : i < h.length := by have := cs.len; omega
    have e0 := List.getElem?_eq_getElem hi'
    rw [(hp.cle i _ b e0 hb).1]; exact cs.cle i _ hi e0
  · by_cases hi' : i < h.length
    · have e0 := List.getElem?_eq_getElem hi'
      rw [(hp.cle i _ b e0 hb).2]; exact cs.new i _ hi e0
    · exact hp.new i b (by omega) hb
  · cases d <;> simp [Act.put, cs.sz]
  · cases d <;> simp [Act.put, cs.df]
  · exact cs.can

theorem CS.putU (cs : CS C N k R W0 m0 c0 e h a W m) {d : Option Tmp} (hd : ∀ t, d = some t → t < N) : CS C N k R W0 m0 c0 (Mi.put d .undef e) h (a.put d undef) W m :=
  CS.put cs hd (Post.pure cs.inv (by simp [VR]) (by simp [V.ids]))

theorem cG_some {N : Nat} {ops : Array Oper} {o : Oper} {g : GOp} (hc : cG C N ops o = some g) :
    cOp C o.op = some g.op ∧ g.d = o.dst ∧ (∀ t, o.dst = some t → t < N) ∧
      ((o.guard = none ∧ g.g = none) ∨ ∃ j w t, o.guard = some (j, w) ∧ (ops[j]?).bind (·.dst) = some t ∧ g.g = some (t, w)) := by
  obtain ⟨dst, op, ty, pos, aft, gd⟩ := o
  simp only [cG] at hc
  cases hop : cOp C op with
  | none => rw [hop] at hc; simp at hc
  | some mo =>
    rw [hop] at hc
    simp only at hc
    have hlt : (∀ t, dst = some t → t < N) ∧ (match (generalizing := false) gd with
      | none => some ⟨mo, dst, none⟩
      | some (j, w) => (match (generalizing := false) (ops[j]?).bind (·.dst) with
        | some t => some ⟨mo, dst, some (t, w)⟩
        | none => none)) = some g := by
      cases dst with
      | none => simp only [if_true] at hc; exact ⟨by simp, hc⟩
      | some d =>
        by_cases hd : d < N
        · simp only [hd, decide_true, if_true] at hc; exact ⟨by simpa using hd, hc⟩
        · simp [hd] at hc
    obtain ⟨hN, hc⟩ := hlt
    cases gd with
    | none => obtain rfl := Option.some.inj hc; exact ⟨rfl, rfl, hN, .inl ⟨rfl, rfl⟩⟩
    | some jw =>
      obtain ⟨j, w⟩ := jw
      simp only at hc
      split at hc
      · rename_i t ht
        obtain rfl := Option.some.inj hc
        exact ⟨rfl, rfl, hN, .inr ⟨j, w, t, rfl, ht, rfl⟩⟩
      · simp at hc

/-- One operation under its guard. -/
theorem gop_sound {ops : Array Oper} {o : Oper} {g : GOp} {A : List Ans} {K : Env → Heap → List Ans → Prop} (hc : cG C N ops o = some g) (cs : CS C N k R W0 m0 c0 e h a W m)
    (hk : gopK (Ev C) g e h A K) {next : Act → World → Prop} {Q : Exit → Act → World → Prop}
    (hn : ∀ e' h' A' a' W' m', K e' h' A' → CS C N k R W0 m0 c0 e' h' a' W' m' → next a' W') :
    if Region.wanted o (yielded ops a.tmps) then o.wp C.P a W next Q ∨ (o.asks C.P a W ∧ LetsOut Q) else next (a.put o.dst undef) W := by
  obtain ⟨h1, h2, hN, h3⟩ := cG_some hc
  obtain ⟨mo, d, g⟩ := g
  simp only at h1 h2 h3
  subst h2
  have run : opK (Ev C) mo e h A (fun r h' A' => K (put o.dst r e) h' A') → o.wp C.P a W next Q := by
    intro hk
    obtain ⟨r, h', A', hk', hok⟩ := op_sound h1 (fun t v _ hv => cs.er t v trivial hv) cs.inv hk
    exact hok next Q fun u W' m' hp => hn _ _ _ _ _ m' hk' (cs.put hN hp)
  rcases h3 with ⟨hg, rfl⟩ | ⟨j, w, t, hg, ht, rfl⟩
  · have hw : Region.wanted o (yielded ops a.tmps) = true := by simp [Region.wanted, hg]
    rw [if_pos hw]
    simp only [gopK] at hk
    exact .inl (run hk)
  · simp only [gopK] at hk
    split at hk
    · rename_i b hb
      obtain ⟨u, q1, q2, _⟩ := cs.er t _ trivial hb
      simp only [VR] at q2; subst q2
      have hy : yielded ops a.tmps j = some b := by simp [yielded, ht, q1]
      by_cases hbw : b = w
      · subst hbw
        rw [if_pos (by simp [Region.wanted, hg, hy])]
        rw [if_pos rfl] at hk
        exact .inl (run hk)
      · rw [if_neg (by simp [Region.wanted, hg, hy, hbw])]
        rw [if_neg hbw] at hk
        exact hn _ _ _ _ _ m hk (cs.putU hN)
    · rename_i hb
      obtain ⟨u, q1, q2, _⟩ := cs.er t _ trivial hb
      simp only [VR] at q2; subst q2
      have hy : yielded ops a.tmps j = none := by simp [yielded, ht, q1, undef]
      rw [if_neg (by simp [Region.wanted, hg, hy])]
      exact hn _ _ _ _ _ m hk (cs.putU hN)
    · exact hk.elim

theorem ops_sound {ops : Array Oper} {Q : Exit → Act → World → Prop} : ∀ (l : List Oper) (gs : List GOp) {e : Env} {h : Heap} {a : Act} {W : World} {m : Mp} {A : List Ans} {K : Env → Heap → List Ans → Prop},
    mapO (cG C N ops) l = some gs → CS C N k R W0 m0 c0 e h a W m → opsK (Ev C) gs e h A K →
    (∀ e' h' A' a' W' m', K e' h' A' → CS C N k R W0 m0 c0 e' h' a' W' m' → Q .normal a' W') → wpList C.P ops Q l a W
  | [], gs, e, h, a, W, m, A, K, hc, cs, hk, hn => by
    simp [mapO] at hc; subst hc
    exact hn _ _ _ _ _ m hk cs
  | o :: l, gs, e, h, a, W, m, A, K, hc, cs, hk, hn => by
    simp only [mapO] at hc
    split at hc
    · rename_i g hg
      split at hc
      · rename_i gs' hgs
        obtain rfl := Option.some.inj hc
        simp only [opsK] at hk
        simp only [wpList]
        exact gop_sound hg cs hk fun e' h' A' a' W' m' hk' cs' => ops_sound l gs' hgs cs' hk' hn
      · simp at hc
    · simp at hc

/-- The loop from behind its head. -/
def LoopW (P : Program) (c : Code) (Q : Exit → Act → World → Prop) (a : Act) (w : World) : Prop :=
  ∀ (b : Frame) (k : List Item) (cs : List Frame), ∃ e a' w', Q e a' w' ∧ Arrives P (lone (b.at a (.code c :: .inLoop c :: k)) cs w) b k cs e a' w'

theorem LoopW.wp {P : Program} {c : Code} {Q : Exit → Act → World → Prop} {a : Act} {w : World} (h : LoopW P c Q a w) : (Code.loop c).wp P Q a w :=
  fun b k cs => let ⟨e, a', w', q, r⟩ := h b k cs; ⟨e, a', w', q, .of_steps (.one step_loop) r⟩

theorem LoopW.unroll {P : Program} {c : Code} {Q : Exit → Act → World → Prop} {a : Act} {w : World} (h : c.wp P (Exit.then (LoopW P c Q) Q) a w) : LoopW P c Q a w := by
  intro b k cs
  obtain ⟨e, a₁, w₁, hq, harr⟩ := h b (.inLoop c :: k) cs
  cases e with
  | normal =>
    obtain ⟨e₂, a₂, w₂, hq₂, harr₂⟩ := hq b k cs
    exact ⟨e₂, a₂, w₂, hq₂, .of_steps (Steps.trans harr (.one step_inLoop)) harr₂⟩
  | exit id => exact ⟨_, a₁, w₁, hq, .pass (x := .inLoop c) rfl (fun _ _ => .inl (by simp)) harr⟩
  | goto l => exact ⟨_, a₁, w₁, hq, .pass (x := .inLoop c) rfl (fun _ _ => .inl (by simp)) harr⟩
  | ret => exact ⟨_, a₁, w₁, hq, .pass (x := .inLoop c) rfl (fun _ _ => .inl (by simp)) harr⟩
  | panic ch => exact ⟨_, a₁, w₁, hq, .pass (x := .inLoop c) rfl (fun _ _ => .inl (by simp)) harr⟩
  | outgrown => exact ⟨_, a₁, w₁, hq, .pass (x := .inLoop c) rfl (fun _ _ => .inl (by simp)) harr⟩

/-- What is claimed of a loop: from e and h it comes to x, e' and h'. -/
def LpS (C : Cx) (N k : Nat) : Loops' := fun b e h x e' h' =>
  ∀ (cb : Code), cC C N cb = some b → ∀ (R : Nat → Nat → Prop) (W0 : World) (m0 : Mp) (c0 : Nat → Nat) (a : Act) (W : World) (m : Mp), CS C N k R W0 m0 c0 e h a W m →
    ∀ Q : Exit → Act → World → Prop, (∀ a' W' m', CS C N k R W0 m0 c0 e' h' a' W' m' → Q x.out a' W') → LoopW C.P cb Q a W

end
end Go.Proofs.Ytokoboflpaklaaa.Mi
