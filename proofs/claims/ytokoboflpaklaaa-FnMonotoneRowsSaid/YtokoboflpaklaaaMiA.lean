/- A small machine into which the program's functions are translated, and what each operation means. -/
import GoSem.Step
import Derived.Orders
import Derived.Laws.Sem
set_option linter.unusedVariables false
set_option linter.unusedSimpArgs false
set_option linter.unusedSectionVars false
namespace Go.Proofs.Ytokoboflpaklaaa.Mi
open Go

/-- Values of the small machine: a slice and a pointer name a block by its number. -/
inductive V where
  | int (k : IntKind) (n : Int)
  | bool (b : Bool)
  | str (s : ByteArray)
  | ptr (i o : Nat)
  | sl (i o n : Nat)
  | nils
  | nilp
  | emp
  | fn (f : Nat) (caps : List V)
  | nilf
  | agg (cs : List V)
  | tup (vs : List V)
  | undef
  | any
  | bfn (f : Nat) (first : List V)
  deriving Inhabited

mutual
def V.ids : V → List Nat
  | .ptr i _ => [i]
  | .sl i _ _ => [i]
  | .fn _ cs => V.idsL cs
  | .bfn _ cs => V.idsL cs
  | .agg cs => V.idsL cs
  | .tup cs => V.idsL cs
  | _ => []
def V.idsL : List V → List Nat
  | [] => []
  | v :: vs => v.ids ++ V.idsL vs
end

mutual
def V.ren (f : Nat → Nat) : V → V
  | .int k n => .int k n
  | .bool b => .bool b
  | .str s => .str s
  | .ptr i o => .ptr (f i) o
  | .sl i o n => .sl (f i) o n
  | .nils => .nils
  | .nilp => .nilp
  | .emp => .emp
  | .fn g cs => .fn g (V.renL f cs)
  | .nilf => .nilf
  | .agg cs => .agg (V.renL f cs)
  | .tup cs => .tup (V.renL f cs)
  | .undef => .undef
  | .any => .any
  | .bfn g cs => .bfn g (V.renL f cs)
def V.renL (f : Nat → Nat) : List V → List V
  | [] => []
  | v :: vs => v.ren f :: V.renL f vs
end

/-- A value that fits one cell. -/
def V.atom : V → Bool
  | .agg _ | .tup _ | .undef | .any => false
  | _ => true

def V.isAny : V → Bool
  | .any => true
  | _ => false

def V.cells : V → List V
  | .agg cs => cs
  | v => [v]

/-- A block: what is known of its cells; cells per element; its class; from where on it may be written; is the content a literal? -/
structure Blk where
  c : List V
  es : Nat
  cl : Nat
  pr : Option Nat
  lit : Bool
  deriving Inhabited

abbrev Env := List (Nat × V)
abbrev Heap := List Blk

def get : List (Nat × V) → Nat → Option V
  | [], _ => none
  | (k, v) :: r, t => if t = k then some v else get r t

inductive X where
  | t (n : Nat)
  | k (v : V)
  deriving Inhabited

def X.ev (e : List (Nat × V)) : X → Option V
  | .t n => get e n
  | .k v => some v

def evs (e : List (Nat × V)) : List X → Option (List V)
  | [] => some []
  | x :: xs => match x.ev e with
    | some v => match evs e xs with
      | some vs => some (v :: vs)
      | none => none
    | none => none

def pevs (e : List (Nat × V)) : List (Nat × Nat × X) → Option (List (Nat × Nat × V))
  | [] => some []
  | (o, n, x) :: xs => match x.ev e with
    | some v => match pevs e xs with
      | some vs => some ((o, n, v) :: vs)
      | none => none
    | none => none

/-- Lay parts into cells; none if a part has the wrong size. -/
def lay : List V → List (Nat × Nat × V) → Option (List V)
  | z, [] => some z
  | z, (o, n, v) :: r =>
    if v.cells.length = n ∧ o + n ≤ z.length ∧ v.isAny = false then lay (z.take o ++ v.cells ++ z.drop (o + n)) r else none

inductive MOp where
  | mov (x : X)
  | pick (c a b : X)
  | alloc (z : List V)
  | box (x : X)
  | build (z : List V) (ps : List (Nat × Nat × X))
  | bslice (es : Nat) (z : List V) (n : Nat) (ps : List (Nat × Nat × X))
  | empt
  | load (n : Option Nat) (a : X)
  | store (n : Nat) (a x : X)
  | bin (op : BinOp) (x y : X)
  | eqa (neg : Bool) (n : Nat) (x y : X)
  | eqb (neg : Bool) (x y : X)
  | isnil (neg : Bool) (x : X)
  | un (op : UnOp) (x : X)
  | conv (k : IntKind) (x : X)
  | field (o : Nat) (n : Option Nat) (x : X)
  | fieldAddr (o : Nat) (x : X)
  | indexAddr (es : Nat) (x i : X)
  | index (x i : X)
  | slice (es : Nat) (x : X) (lo hi : Option X)
  | sslice (x : X) (lo hi : Option X)
  | slice0 (x : X)
  | make (es by_ : Nat) (z : List V) (n : X)
  | extract (x : X) (i : Nat)
  | mkfn (f : Nat) (caps : List X)
  | mkbfn (f : Nat) (first : List X)
  | call (f : Nat) (as : List X)
  | callv (f : X) (as : List X)
  | callw (f : Nat) (as : List X)
  | callvw (f : X) (as : List X)
  | len (x : X)
  | slen (x : X)
  | cap (x : X)
  | append (es by_ : Nat) (x y : X)
  | appmk (es by_ : Nat) (z : List V) (x n : X)
  | copy (es : Nat) (x y : X)
  | clear (es : Nat) (z : List V) (x : X)
  | mm (mx : Bool) (xs : List X)
  | nilck (x : X)
  | bad
  deriving Inhabited

structure GOp where
  op : MOp
  d : Option Nat
  g : Option (Nat × Bool)
  deriving Inhabited

inductive MC where
  | skip
  | seq (a b : MC)
  | cond (c : X) (t f : MC)
  | block (id : Nat) (b : MC)
  | loop (b : MC)
  | exit (id : Nat)
  | ret
  | region (ops : List GOp) (draw : Bool)
  | regionL (ops : List GOp) (ls : List Nat)
  | bad
  deriving Inhabited

inductive Ex where
  | normal
  | exit (id : Nat)
  | ret
  deriving DecidableEq

inductive Ans where
  | v (x : V)
  | cs (l : List V)
  | call (r : V) (h : List Blk)
  | lp (x : Ex) (e : Env) (h : Heap)
  | xs (X : List Nat)

/-- The value of a two-place operation on numbers (and strings). -/
def binV (op : BinOp) : V → V → Option V
  | .int k a, .int k' b =>
    match op with
    | .shl => if b < 0 then none else some (.int k (k.wrap (a * 2 ^ (min b.toNat k.bits))))
    | .shr => if b < 0 then none else some (.int k (a.fdiv (2 ^ (min b.toNat k.bits))))
    | _ =>
    if k ≠ k' then none else
    match op with
    | .add => some (.int k (k.wrap (a + b)))
    | .sub => some (.int k (k.wrap (a - b)))
    | .mul => some (.int k (k.wrap (a * b)))
    | .quo => if b = 0 then none else some (.int k (k.wrap (a.tdiv b)))
    | .rem => if b = 0 then none else some (.int k (a.tmod b))
    | .and => some (.int k (k.wrap ((BitVec.ofInt k.bits a &&& BitVec.ofInt k.bits b).toNat)))
    | .or => some (.int k (k.wrap ((BitVec.ofInt k.bits a ||| BitVec.ofInt k.bits b).toNat)))
    | .xor => some (.int k (k.wrap ((BitVec.ofInt k.bits a ^^^ BitVec.ofInt k.bits b).toNat)))
    | .andNot => some (.int k (k.wrap ((BitVec.ofInt k.bits a &&& ~~~ BitVec.ofInt k.bits b).toNat)))
    | .eql => some (.bool (a == b))
    | .neq => some (.bool (a != b))
    | .lss => some (.bool (a < b))
    | .leq => some (.bool (a ≤ b))
    | .gtr => some (.bool (a > b))
    | .geq => some (.bool (a ≥ b))
    | _ => none
  | _, _ => none

def unV (op : UnOp) : V → Option V
  | .int k a =>
    match op with
    | .neg => some (.int k (k.wrap (0 - a)))
    | .xor => some (.int k (k.wrap ((BitVec.ofInt k.bits (if k.signed then -1 else k.max) ^^^ BitVec.ofInt k.bits a).toNat)))
    | _ => none
  | .bool b =>
    match op with
    | .not => some (.bool !b)
    | _ => none
  | _ => none

/-- Structs of n number cells: are they equal? -/
def eqCells : List V → List V → Option Bool
  | [], [] => some true
  | .int k a :: xs, .int k' b :: ys => if k = k' then (if a = b then eqCells xs ys else (eqCells xs ys).map fun _ => false) else none
  | _, _ => none

/-! ### Heaps -/

def Blk.ids (b : Blk) : List Nat := if b.lit then V.idsL b.c else []

/-- The blocks that are reached. -/
def reach (h : List Blk) : Nat → List Nat → List Nat → List Nat
  | 0, _, acc => acc
  | _ + 1, [], acc => acc
  | k + 1, i :: todo, acc =>
    if acc.contains i then reach h k todo acc
    else match h[i]? with
      | some b => reach h k (b.ids ++ todo) (acc ++ [i])
      | none => reach h k todo (acc ++ [i])

def others (h : List Blk) (L : List Nat) (cl : Nat) : Nat → Nat
  | 0 => 0
  | j + 1 => match h[j]? with
    | some b => if b.cl = cl ∧ ¬ L.contains j then max b.c.length (others h L cl j) else others h L cl j
    | none => others h L cl j

def clsIdx (h : List Blk) (cl : Nat) : List Nat → Nat
  | [] => 0
  | i :: L => match h[i]? with
    | some b => if b.cl = cl then 0 else clsIdx h cl L + 1
    | none => clsIdx h cl L + 1

def pos (L : List Nat) (i : Nat) : Nat :=
  match L with
  | [] => 0
  | j :: L => if i = j then 0 else pos L i + 1

def Blk.ren (f : Nat → Nat) (b : Blk) : Blk := { b with c := if b.lit then V.renL f b.c else b.c }

/-- The blocks of a list of numbers, numbered anew; call: what others of a class hold is guarded. -/
def sub (h : List Blk) (L : List Nat) (call : Bool) : List Nat → List Blk
  | [] => []
  | i :: r => match h[i]? with
    | some b => { b.ren (pos L) with cl := clsIdx h b.cl L, pr := if call then b.pr.map (fun p => max p (others h L b.cl h.length)) else b.pr } :: sub h L call r
    | none => sub h L call r

/-- Are all blocks named by what is kept kept? -/
def closed (h : List Blk) (L : List Nat) : List Nat → Bool
  | [] => true
  | i :: r => match h[i]? with
    | some b => (b.ids.all fun j => L.contains j) && closed h L r
    | none => false

def distinct : List Nat → Bool
  | [] => true
  | i :: L => (!L.contains i) && distinct L

def unren (L : List Nat) (n : Nat) (i : Nat) : Nat := match L[i]? with
  | some j => j
  | none => n + (i - L.length)

def setBlk : List Blk → Nat → Blk → List Blk
  | [], _, _ => []
  | _ :: h, 0, b => b :: h
  | x :: h, i + 1, b => x :: setBlk h i b

/-- The old blocks behind a call. -/
def mergeOld (h0 : List Blk) (L : List Nat) (n : Nat) : List Blk → List Nat → List Blk → List Blk
  | h, [], _ => h
  | h, i :: r, b :: bs => match h0[i]? with
    | some o => mergeOld h0 L n (setBlk h i { b.ren (unren L n) with cl := o.cl, pr := o.pr }) r bs
    | none => h
  | h, _ :: _, [] => h

def mergeNew (h0 : List Blk) (L : List Nat) (n : Nat) : List Blk → List Blk
  | [] => []
  | b :: bs => { b.ren (unren L n) with cl := (match L[b.cl]? with
      | some i => (match h0[i]? with | some o => o.cl | none => 0)
      | none => n + (b.cl - L.length)) } :: mergeNew h0 L n bs

def merge (h : List Blk) (L : List Nat) (H1 : List Blk) : List Blk :=
  mergeOld h L h.length h L (H1.take L.length) ++ mergeNew h L h.length (H1.drop L.length)

/-- A write at cell o of block i: what others of its class know from there on is forgotten. -/
def upd (b' : Blk) (i o : Nat) : Nat → List Blk → List Blk
  | _, [] => []
  | j, b :: h => (if j = i then b' else if b.cl = b'.cl then { b with c := b.c.take o } else b) :: upd b' i o (j + 1) h

/-- The contracts that a run leans on. -/
abbrev Calls' := Nat → List V → List Blk → V → List Blk → Prop
abbrev Loops' := MC → Env → Heap → Ex → Env → Heap → Prop

def fuel : Nat := 100

def callK (Cl : Calls') (f : Nat) (vs : List V) (h : Heap) (A : List Ans) (K : V → List Blk → List Ans → Prop) : Prop :=
  match A with
  | .call r H1 :: A' =>
    (fun L => (closed h L L = true ∧ distinct L = true ∧ (V.idsL vs).all (fun j => L.contains j) = true ∧ L.length ≤ H1.length) ∧
      Cl f (V.renL (pos L) vs) (sub h L true L) r H1 ∧ K (r.ren (unren L h.length)) (merge h L H1) A') (reach h fuel (V.idsL vs) [])
  | _ => False

def put (d : Option Nat) (v : V) (e : Env) : Env := match d with
  | some d => (d, v) :: e
  | none => e

/-- What a call may do to memory beside ordered others: classes and rights stay, new blocks may be written. -/
def WrP (n : Nat) : List Blk → List Blk → Prop
  | [], [] => True
  | [], b :: bs => (Nat.blt b.cl n = true ∧ b.pr.isSome = true) ∧ WrP n [] bs
  | a :: as, b :: bs => (b.cl = a.cl ∧ b.pr = a.pr) ∧ WrP n as bs
  | _ :: _, [] => False

/-- The cells behind a slice. -/
def rowOf (h : List Blk) (es : Nat) : V → Option (List V × Nat)
  | .nils => some ([], 0)
  | .emp => some ([], 0)
  | .sl i o n => match h[i]? with
    | some b => (match b.es with
      | 0 => none
      | _ + 1 => some ((b.c.drop o).take (n * es), n))
    | none => none
  | _ => none

/-- Can nothing in it name a block? -/
def flatL : List V → Bool
  | [] => true
  | v :: vs => v.atom && v.ids.isEmpty && flatL vs

def opK (Cl : Calls') (o : MOp) (e : Env) (h : Heap) (A : List Ans) (K : V → Heap → List Ans → Prop) : Prop :=
  match o with
  | .mov x => match x.ev e with
    | some v => K (v) (h) A
    | none => False
  | .pick c a b => match c.ev e with
    | some (.bool true) => (match a.ev e with
      | some v => K (v) (h) A
      | none => False)
    | some (.bool false) => (match b.ev e with
      | some v => K (v) (h) A
      | none => False)
    | _ => False
  | .alloc z => K (.ptr h.length 0) (h ++ [⟨z, 1, h.length, some 0, true⟩]) A
  | .box x => match x.ev e with
    | some v => v.cells.all V.atom = true ∧ K (.ptr h.length 0) (h ++ [⟨v.cells, 1, h.length, some 0, true⟩]) A
    | none => False
  | .build z ps => match pevs e ps with
    | some vs => (match lay z vs with
      | some cs => K (.agg cs) (h) A
      | none => False)
    | none => False
  | .bslice es z n ps => match pevs e ps with
    | some vs => (match lay z vs with
      | some cs => cs.all V.atom = true ∧ K (.sl h.length 0 n) (h ++ [⟨cs, es, h.length, some 0, true⟩]) A
      | none => False)
    | none => False
  | .load n a => match a.ev e with
    | some (.ptr i o) => (match h[i]? with
      | some b =>
        if b.lit then
          match n with
          | none => (match b.c[o]? with
            | some v => K (v) (h) A
            | none => False)
          | some m => o + m ≤ b.c.length ∧ K (.agg ((b.c.drop o).take m)) (h) A
        else match A with
          | .cs l :: A' =>
            (match n with
            | none => (match l with
              | [v] => b.c[o]? = some v ∧ K (v) (h) A'
              | _ => False)
            | some m => (l.length = m ∧ o + m ≤ b.c.length ∧ (b.c.drop o).take m = l) ∧ K (.agg l) (h) A')
          | _ => False
      | none => False)
    | _ => False
  | .store n a x => match a.ev e with
    | some (.ptr i o) => (match x.ev e with
      | some v => (match h[i]? with
        | some b => (match b.pr with
          | some p =>
            (v.cells.length = n ∧ v.cells.all V.atom = true ∧ p ≤ o ∧ o + n ≤ b.c.length) ∧
            if b.lit then K .undef (upd { b with c := b.c.take o ++ v.cells ++ b.c.drop (o + n) } i o 0 h) A
            else match A with
              | .cs l :: A' => (flatL v.cells = true ∧ b.c.take o ++ v.cells ++ b.c.drop (o + n) = l) ∧ K .undef (upd { b with c := l } i o 0 h) A'
              | _ => False
          | none => False)
        | none => False)
      | none => False)
    | _ => False
  | .bin op x y => match x.ev e with
    | some a => (match y.ev e with
      | some b => (match A with
        | .v r :: A' => binV op a b = some r ∧ K (r) (h) A'
        | _ => False)
      | none => False)
    | none => False
  | .eqa neg n x y => match x.ev e with
    | some (.agg a) => (match y.ev e with
      | some (.agg b) => (match A with
        | .v (.bool r) :: A' => (a.length = n ∧ b.length = n ∧ eqCells a b = some (r != neg)) ∧ K (.bool r) (h) A'
        | _ => False)
      | _ => False)
    | _ => False
  | .eqb neg x y => match x.ev e with
    | some (.bool a) => (match y.ev e with
      | some (.bool b) => (match A with
        | .v (.bool r) :: A' => ((a == b) = (r != neg)) ∧ K (.bool r) h A'
        | _ => False)
      | _ => False)
    | _ => False
  | .isnil neg x => match x.ev e with
    | some .nils => K (.bool (!neg)) h A
    | some (.sl _ _ _) => K (.bool neg) h A
    | some .emp => K (.bool neg) h A
    | _ => False
  | .empt => K .emp h A
  | .un op x => match x.ev e with
    | some (.bool b) => (match op with
      | .not => K (.bool (!b)) (h) A
      | _ => False)
    | some a => (match A with
      | .v r :: A' => unV op a = some r ∧ K (r) (h) A'
      | _ => False)
    | none => False
  | .conv k x => match x.ev e with
    | some (.int _ a) => (match A with
      | .v (.int k' r) :: A' => (k' = k ∧ k.wrap a = r) ∧ K (.int k r) (h) A'
      | _ => False)
    | _ => False
  | .field o n x => match x.ev e with
    | some (.agg cs) => (match n with
      | none => (match cs[o]? with
        | some v => K (v) (h) A
        | none => False)
      | some m => o + m ≤ cs.length ∧ K (.agg ((cs.drop o).take m)) (h) A)
    | _ => False
  | .fieldAddr o x => match x.ev e with
    | some (.ptr i o') => K (.ptr i (o' + o)) (h) A
    | _ => False
  | .indexAddr es x i => match x.ev e with
    | some (.sl b o n) => (match i.ev e with
      | some (.int _ z) => (0 ≤ z ∧ z < n) ∧ K (.ptr b (o + z.toNat * es)) (h) A
      | _ => False)
    | _ => False
  | .index x i => match x.ev e with
    | some (.str t) => (match i.ev e with
      | some (.int _ z) => (match A with
        | .v (.int .u8 r) :: A' => (0 ≤ z ∧ (t[z.toNat]?).map (fun b => (b.toNat : Int)) = some r) ∧ K (.int .u8 r) (h) A'
        | _ => False)
      | _ => False)
    | _ => False
  | .slice es x lo hi => match x.ev e with
    | some (.sl i o n) => (match evs e lo.toList, evs e hi.toList with
      | some l, some u => (match A with
        | .v (.sl i' o' n') :: A' =>
          (∃ a b : Int, (l = [] ∧ a = 0 ∨ ∃ k, l = [.int k a]) ∧ (u = [] ∧ b = n ∨ ∃ k, u = [.int k b]) ∧ 0 ≤ a ∧ a ≤ b ∧ b ≤ n ∧ i' = i ∧ o' = o + a.toNat * es ∧ (n' : Int) = b - a ∧ ∃ bk, h[i]? = some bk ∧ bk.es = es) ∧
            K (.sl i' o' n') (h) A'
        | _ => False)
      | _, _ => False)
    | some .nils => (match evs e lo.toList, evs e hi.toList with
      | some l, some u => ((l = [] ∨ ∃ k, l = [.int k 0]) ∧ (u = [] ∨ ∃ k, u = [.int k 0])) ∧ K .nils h A
      | _, _ => False)
    | _ => False
  | .sslice x lo hi => match x.ev e with
    | some (.str t) => (match evs e lo.toList, evs e hi.toList with
      | some l, some u => (match A with
        | .v (.str r) :: A' =>
          (∃ a b : Int, (l = [] ∧ a = 0 ∨ ∃ k, l = [.int k a]) ∧ (u = [] ∧ b = t.size ∨ ∃ k, u = [.int k b]) ∧ 0 ≤ a ∧ a ≤ b ∧ b ≤ t.size ∧ r = t.extract a.toNat b.toNat) ∧
            K (.str r) (h) A'
        | _ => False)
      | _, _ => False)
    | _ => False
  | .slice0 x => match x.ev e with
    | some (.sl _ _ _) => K (.emp) (h) A
    | some .emp => K (.emp) (h) A
    | some .nils => K (.nils) (h) A
    | _ => False
  | .make es by_ z n => match n.ev e with
    | some (.int .i64 m) => (match A with
      | .cs l :: A' => ((0 ≤ m ∧ m * by_ ≤ 140737488355328) ∧ l = (List.replicate m.toNat z).flatten) ∧
          K (.sl h.length 0 m.toNat) (h ++ [⟨l, es, h.length, some 0, false⟩]) A'
      | _ => False)
    | _ => False
  | .extract x i => match x.ev e with
    | some (.tup vs) => (match vs[i]? with
      | some v => K (v) (h) A
      | none => False)
    | _ => False
  | .mkfn f caps => match evs e caps with
    | some vs => K (.fn f vs) (h) A
    | none => False
  | .mkbfn f first => match evs e first with
    | some vs => K (.bfn f vs) (h) A
    | none => False
  | .call f as => match evs e as with
    | some vs => callK Cl f vs h A fun r h A' => K r h A'
    | none => False
  | .callv x as => match x.ev e with
    | some (.fn f caps) => (match evs e as with
      | some vs => callK Cl f (vs ++ caps) h A fun r h A' => K r h A'
      | none => False)
    | some (.bfn f first) => (match evs e as with
      | some vs => callK Cl f (first ++ vs) h A fun r h A' => K r h A'
      | none => False)
    | _ => False
  | .callw f as => match evs e as with
    | some vs => callK Cl f vs h A fun r h' A' => WrP h'.length h h' ∧ K r h' A'
    | none => False
  | .callvw x as => match x.ev e with
    | some (.fn f caps) => (match evs e as with
      | some vs => callK Cl f (vs ++ caps) h A fun r h' A' => WrP h'.length h h' ∧ K r h' A'
      | none => False)
    | some (.bfn f first) => (match evs e as with
      | some vs => callK Cl f (first ++ vs) h A fun r h' A' => WrP h'.length h h' ∧ K r h' A'
      | none => False)
    | _ => False
  | .len x => match x.ev e with
    | some (.sl _ _ n) => K (.int .i64 n) (h) A
    | some .nils => K (.int .i64 0) (h) A
    | some .emp => K (.int .i64 0) (h) A
    | _ => False
  | .slen x => match x.ev e with
    | some (.str t) => K (.int .i64 t.size) (h) A
    | _ => False
  | .cap x => match x.ev e with
    | some .nils => K (.int .i64 0) (h) A
    | some .emp => K (.int .i64 0) (h) A
    | _ => False
  | .append es by_ x y => match x.ev e with
    | some a => (match y.ev e with
      | some b => (match rowOf h es a, rowOf h es b with
        | some (l1, n), some (l2, m) => (match A with
          | .cs l :: A' =>
            ((l = l1 ++ l2 ∧ l1.length = n * es ∧ l2.length = m * es ∧ (n + m) * by_ ≤ 140737488355328) ∧ (flatL l2 = true ∨ ∃ i o b, y.ev e = some (.sl i o m) ∧ h[i]? = some b ∧ b.lit = false)) ∧
            (match a with
            | .sl i o _ => (match h[i]? with
              | some bi => (match bi.pr with
                | some p => (o = 0 ∧ p ≤ n * es ∧ bi.es = es ∧ bi.lit = false) ∧
                    K (.sl h.length 0 (n + m)) (upd { bi with c := l1 } i (n * es) 0 h ++ [⟨l, es, bi.cl, some p, false⟩]) A'
                | none => False)
              | none => False)
            | _ => if m = 0 then K a h A' else K (.sl h.length 0 m) (h ++ [⟨l, es, h.length, some 0, false⟩]) A')
          | _ => False)
        | _, _ => False)
      | none => False)
    | none => False
  | .appmk es by_ z x n => match x.ev e with
    | some .nils => (match n.ev e with
      | some (.int .i64 m) => (match A with
        | .cs l :: A' => ((0 < m ∧ m * by_ ≤ 140737488355328) ∧ l = (List.replicate m.toNat z).flatten) ∧
            K (.sl h.length 0 m.toNat) (h ++ [⟨l, es, h.length, some 0, false⟩]) A'
        | _ => False)
      | _ => False)
    | _ => False
  | .copy es x y => match x.ev e with
    | some (.sl i o n) => (match y.ev e with
      | some b => (match rowOf h es b with
        | some (l2, m) => (match h[i]? with
          | some bi => (match bi.pr with
            | some p => (match A with
              | .cs l :: A' =>
                ((p ≤ o ∧ l2.length = m * es ∧ o + n * es ≤ bi.c.length ∧ bi.lit = false ∧ bi.es = es) ∧ (∃ j o' b', y.ev e = some (.sl j o' m) ∧ h[j]? = some b' ∧ (b'.lit = false ∨ V.idsL l2 = [])) ∧
                  l = bi.c.take o ++ l2.take (min m n * es) ++ bi.c.drop (o + min m n * es)) ∧
                K (.int .i64 (min m n : Nat)) (upd { bi with c := l } i o 0 h) A'
              | _ => False)
            | none => False)
          | none => False)
        | none => False)
      | none => False)
    | _ => False
  | .clear es z x => match x.ev e with
    | some (.sl i o n) => (match h[i]? with
      | some bi => (match bi.pr with
        | some p => (match A with
          | .cs l :: A' =>
            ((p ≤ o ∧ o + n * es ≤ bi.c.length ∧ bi.lit = false) ∧ l = bi.c.take o ++ (List.replicate n z).flatten ++ bi.c.drop (o + n * es)) ∧
            K (.tup []) (upd { bi with c := l } i o 0 h) A'
          | _ => False)
        | none => False)
      | none => False)
    | _ => False
  | .mm mx xs => match evs e xs with
    | some [.int k a, .int k' b] => (match A with
      | .v (.int kr r) :: A' => (k = k' ∧ kr = k ∧ r = if mx then (if b > a then b else a) else (if b < a then b else a)) ∧ K (.int k r) (h) A'
      | _ => False)
    | _ => False
  | .nilck x => match x.ev e with
    | some (.ptr i o) => K (.ptr i o) (h) A
    | some (.fn f cs) => K (.fn f cs) (h) A
    | _ => False
  | .bad => False

/-- One operation of a region, under its guard. -/
def gopK (Cl : Calls') (o : GOp) (e : Env) (h : Heap) (A : List Ans) (K : Env → Heap → List Ans → Prop) : Prop :=
  match o.g with
  | none => opK Cl o.op e h A fun r h' A' => K (put o.d r e) h' A'
  | some (t, w) => match get e t with
    | some (.bool b) => if b = w then opK Cl o.op e h A (fun r h' A' => K (put o.d r e) h' A') else K (put o.d .undef e) h A
    | some .undef => K (put o.d .undef e) h A
    | _ => False

def opsK (Cl : Calls') : List GOp → Env → Heap → List Ans → (Env → Heap → List Ans → Prop) → Prop
  | [], e, h, A, K => K e h A
  | o :: os, e, h, A, K => gopK Cl o e h A fun e' h' A' => opsK Cl os e' h' A' K

def isW : MOp → Bool
  | .store .. | .append .. | .copy .. | .clear .. | .callw .. | .callvw .. => true
  | _ => false

/-- Nothing but new blocks of new classes. -/
def Ext (h h' : Heap) : Prop := ∃ n, h' = h ++ n ∧ ∀ b ∈ n, h.length ≤ b.cl ∧ b.cl < h'.length ∧ b.pr.isSome = true

/-- The new value names blocks that are there. -/
def okIds (d : Option Nat) (e : Env) (h : Heap) : Bool := match d with
  | some d => (match get e d with
    | some v => v.ids.all fun x => Nat.blt x h.length
    | none => true)
  | none => true

/-- A region whose order is left open, in the order of the text. -/
def opsDK (Cl : Calls') : List GOp → Env → Heap → List Ans → (Env → Heap → List Ans → Prop) → Prop
  | [], e, h, A, K => K e h A
  | o :: os, e, h, A, K => gopK Cl o e h A fun e' h' A' => (okIds o.d e' h' = true ∧ (isW o.op = false → Ext h h')) ∧ opsDK Cl os e' h' A' K

/-- The block that a load or a slice looks at. -/
def blockOf (o : MOp) (e : Env) : Option Nat := match o with
  | .load _ a => (match a.ev e with
    | some (.ptr x _) => some x
    | _ => none)
  | .slice _ x _ _ => (match x.ev e with
    | some (.sl i _ _) => some i
    | _ => none)
  | _ => none

/-- A load (or a slice) that is not ordered with all writes looks at a block that no write touches. -/
def looseB (ls X : List Nat) (i : Nat) (o : GOp) (e : Env) : Bool := !ls.contains i || (match blockOf o.op e with
  | some x => X.contains x
  | none => true)

/-- A region whose order is left open, with such loads, in the order of the text. -/
def opsLK (Cl : Calls') (ls X : List Nat) : Nat → List GOp → Env → Heap → List Ans → (Env → Heap → List Ans → Prop) → Prop
  | _, [], e, h, A, K => K e h A
  | i, o :: os, e, h, A, K => looseB ls X i o e = true ∧ gopK Cl o e h A fun e' h' A' => (okIds o.d e' h' = true ∧ (isW o.op = false → Ext h h') ∧ ∀ x ∈ X, h'[x]? = h[x]?) ∧ opsLK Cl ls X (i + 1) os e' h' A' K

/-- Of a frame only the live slots, of memory only what they and the arguments lead to. -/
def pick_ (e : List (Nat × V)) : List Nat → List (Nat × V)
  | [] => []
  | t :: r => match get e t with
    | some v => (t, v) :: pick_ e r
    | none => pick_ e r

def renE (f : Nat → Nat) : List (Nat × V) → List (Nat × V)
  | [] => []
  | (t, v) :: r => (t, v.ren f) :: renE f r

def idsE : List (Nat × V) → List Nat
  | [] => []
  | (_, v) :: r => v.ids ++ idsE r

def upTo : Nat → List Nat
  | 0 => []
  | n + 1 => upTo n ++ [n]

def idsB (h : List Blk) : List Nat → List Nat
  | [] => []
  | i :: r => match h[i]? with
    | some b => b.ids ++ idsB h r
    | none => idsB h r

/-- The blocks that stay: the first k, and what is reached from them and from roots. -/
def keepL (k : Nat) (h : List Blk) (roots : List Nat) : List Nat := reach h fuel (idsB h (upTo k) ++ roots) (upTo k)

def seqK (n : Env → Heap → List Ans → Prop) (K : Ex → Env → Heap → List Ans → Prop) : Ex → Env → Heap → List Ans → Prop
  | .normal, e, h, A => n e h A
  | .exit i, e, h, A => K (.exit i) e h A
  | .ret, e, h, A => K .ret e h A

def blockK (id : Nat) (K : Ex → Env → Heap → List Ans → Prop) : Ex → Env → Heap → List Ans → Prop
  | .normal, e, h, A => K .normal e h A
  | .exit i, e, h, A => if i = id then K .normal e h A else K (.exit i) e h A
  | .ret, e, h, A => K .ret e h A

def code (Cl : Calls') (Lp : Loops') : MC → Env → Heap → List Ans → (Ex → Env → Heap → List Ans → Prop) → Prop
  | .skip, e, h, A, K => K .normal e h A
  | .seq a b, e, h, A, K => code Cl Lp a e h A (seqK (fun e' h' A' => code Cl Lp b e' h' A' K) K)
  | .cond c t f, e, h, A, K => match c.ev e with
    | some (.bool true) => code Cl Lp t e h A K
    | some (.bool false) => code Cl Lp f e h A K
    | _ => False
  | .block id b, e, h, A, K => code Cl Lp b e h A (blockK id K)
  | .loop b, e, h, A, K => match A with
    | .lp x e' h' :: A' => Lp b e h x e' h' ∧ K x e' h' A'
    | _ => False
  | .exit id, e, h, A, K => K (.exit id) e h A
  | .ret, e, h, A, K => K .ret e h A
  | .region ops d, e, h, A, K => match d with
    | false => opsK Cl ops e h A (K .normal)
    | true => opsDK Cl ops e h A (K .normal)
  | .regionL ops ls, e, h, A, K => match A with
    | .xs X :: A' => (∀ x ∈ X, x < h.length) ∧ opsLK Cl ls X 0 ops e h A' (K .normal)
    | _ => False
  | .bad, _, _, _, _ => False

end Go.Proofs.Ytokoboflpaklaaa.Mi
namespace Go.Proofs.Ytokoboflpaklaaa.Mi
open Go

/-- A program, and its functions' numbers here and there. -/
structure Cx where
  P : Program
  κ : Nat → Nat
  ρ : Nat → Nat
  mo : P.follows .mixedOrders = true

def mapO {α β : Type} (f : α → Option β) : List α → Option (List β)
  | [] => some []
  | a :: as => match f a with
    | some b => (match mapO f as with
      | some bs => some (b :: bs)
      | none => none)
    | none => none

def cA : Value → Option V
  | .bool b => some (.bool b)
  | .int k n => some (.int k n)
  | .string s => some (.str s)
  | .pointer none => some .nilp
  | .slice none 0 0 => some .nils
  | .nilFunc => some .nilf
  | _ => none

def cV : Value → Option V
  | .agg cs => (match mapO cA cs.toList with
    | some l => some (.agg l)
    | none => none)
  | v => cA v

def cX (C : Cx) : Operand → Option X
  | .tmp t => some (.t t)
  | .const v => (match cV v with
    | some v => some (.k v)
    | none => none)
  | .func f => if C.ρ (C.κ f) = f then some (.k (.fn (C.κ f) [])) else none
  | .global _ => none

def isAggD : TypeDesc → Bool
  | .struct _ => true
  | .array _ _ => true
  | _ => false

/-- Of how many cells is a struct's or an array's value; none: one cell. -/
def layT (P : Program) (t : TypeId) : Option (Option Nat) :=
  match P.underlying t, P.info? t with
  | some d, some i => some (if isAggD d then some i.size else none)
  | _, _ => none

def sizeT (P : Program) (t : TypeId) : Option Nat := (P.info? t).map (·.size)

def zeroT (P : Program) (t : TypeId) : Option (List V) :=
  match P.info? t with
  | some i => (match i.zero with
    | some z => mapO cA z.cells.toList
    | none => none)
  | none => none

/-- The fields of a struct: where they begin, and how many cells each has. -/
def fieldsT (P : Program) (t : TypeId) : Option (List (Nat × Nat)) :=
  match P.underlying t with
  | some (.struct fs) => mapO (fun f => (sizeT P f.type).map fun n => (f.offset, n)) fs.toList
  | _ => none

def elemT (P : Program) (t : TypeId) : Option TypeId :=
  match P.underlying t with
  | some (.slice e) => some e
  | _ => none

/-- A struct of whole numbers alone: how many. -/
def intsT (P : Program) (t : TypeId) : Option Nat :=
  match P.underlying t with
  | some (.struct fs) =>
    if (fs.toList.zipIdx.all fun (f, i) => f.name != "_" && f.offset == i && (match P.underlying f.type with | some (.int _) => true | _ => false)) && !P.stoodInHeld t && !P.eqGuardType P.depth t
    then some fs.size else none
  | _ => none

def parts (C : Cx) (pl : List (Nat × Nat)) : List (Nat × Operand) → Option (List (Nat × Nat × X))
  | [] => some []
  | (i, x) :: r => match pl[i]?, cX C x, parts C pl r with
    | some (o, n), some x, some r => some ((o, n, x) :: r)
    | _, _, _ => none

def partsS (C : Cx) (n : Nat) : List (Nat × Operand) → Option (List (Nat × Nat × X))
  | [] => some []
  | (i, x) :: r => match cX C x, partsS C n r with
    | some x, some r => some ((i * n, n, x) :: r)
    | _, _ => none

def sameOp : Operand → Operand → Bool
  | .tmp a, .tmp b => a == b
  | _, _ => false

def cOp (C : Cx) (o : Op) : Option MOp :=
  match o with
  | .move x | .assign x => (cX C x).map .mov
  | .pick c a b => (match cX C c, cX C a, cX C b with
    | some c, some a, some b => some (.pick c a b)
    | _, _, _ => none)
  | .alloc t => (zeroT C.P t).map .alloc
  | .box _ x => (cX C x).map .box
  | .build t ps => (match zeroT C.P t, fieldsT C.P t with
    | some z, some pl => (parts C pl ps.toList).map (.build z)
    | _, _ => none)
  | .buildSlice t n ps => (match elemT C.P t with
    | some e => (match sizeT C.P e, zeroT C.P e with
      | some s, some z =>
        if n = 0 then (if ps.size = 0 then some .empt else none)
        else if z.length = s ∧ 0 < s ∧ n * s ≤ 16777216 then (partsS C s ps.toList).map (.bslice s (List.replicate n z).flatten n) else none
      | _, _ => none)
    | none => none)
  | .load t x => (match layT C.P t, cX C x with
    | some n, some x => some (.load n x)
    | _, _ => none)
  | .store t a x => (match sizeT C.P t, cX C a, cX C x with
    | some n, some a, some x => some (.store n a x)
    | _, _, _ => none)
  | .nilCheck x => (cX C x).map .nilck
  | .binOp op t x y _ => (match cX C x, cX C y with
    | some x, some y => some (match op, C.P.underlying t, y with
      | .eql, some (.struct _), _ => (match intsT C.P t with | some n => .eqa false n x y | none => .bad)
      | .neq, some (.struct _), _ => (match intsT C.P t with | some n => .eqa true n x y | none => .bad)
      | .eql, some .bool, _ => .eqb false x y
      | .neq, some .bool, _ => .eqb true x y
      | .eql, some (.slice _), .k .nils => .isnil false x
      | .neq, some (.slice _), .k .nils => .isnil true x
      | _, some (.int _), _ => .bin op x y
      | _, _, _ => .bad)
    | _, _ => none)
  | .unOp op _ x => (cX C x).map (.un op)
  | .convert s d x => (match cX C x with
    | some x => some (match C.P.underlying s, C.P.underlying d with
      | some (.int _), some (.int k) => .conv k x
      | _, _ => .bad)
    | none => none)
  | .makeFunc (.func f) first caps => (match mapO (cX C) caps.toList with
    | some l => if first.size = 0 ∧ C.ρ (C.κ f) = f then some (.mkfn (C.κ f) l) else if caps.size = 0 ∧ C.ρ (C.κ f) = f then (mapO (cX C) first.toList).map (.mkbfn (C.κ f)) else none
    | none => none)
  | .makeSlice t l c => (match elemT C.P t with
    | some e => (match C.P.info? e, zeroT C.P e, cX C l with
      | some i, some z, some x => if sameOp l c ∧ z.length = i.size ∧ 0 < i.size ∧ 0 < i.bytes then some (.make i.size i.bytes z x) else none
      | _, _, _ => none)
    | none => none)
  | .slice t x lo hi mx => (match cX C x with
    | some x => (match mx with
      | some (.const (.int _ 0)) => (match hi, lo with
        | some (.const (.int _ 0)), none => some (match (elemT C.P t).bind (sizeT C.P) with | some _ => .slice0 x | none => .bad)
        | _, _ => some .bad)
      | some _ => some .bad
      | none => (match mapO (cX C) lo.toList, mapO (cX C) hi.toList with
        | some l, some h => (match C.P.underlying t with
          | some (.slice e) => (sizeT C.P e).map fun s => .slice s x l.head? h.head?
          | some .string => some (.sslice x l.head? h.head?)
          | _ => some .bad)
        | _, _ => none))
    | none => none)
  | .fieldAddr t x f => (match C.P.underlying t, cX C x with
    | some (.struct fs), some x => (match fs[f]? with
      | some fl => (match sizeT C.P fl.type with
        | some n => if n = 0 then none else some (.fieldAddr fl.offset x)
        | none => none)
      | none => none)
    | _, _ => none)
  | .field t x f => (match C.P.underlying t, cX C x with
    | some (.struct fs), some x => (match fs[f]? with
      | some fl => (layT C.P fl.type).map fun n => .field fl.offset n x
      | none => none)
    | _, _ => none)
  | .indexAddr t x i => (match elemT C.P t with
    | some e => (match sizeT C.P e, cX C x, cX C i with
      | some s, some x, some i => some (.indexAddr s x i)
      | _, _, _ => none)
    | none => some .bad)
  | .index t x i => (match cX C x, cX C i with
    | some x, some i => some (match C.P.underlying t with | some .string => .index x i | _ => .bad)
    | _, _ => none)
  | .extract x i => (cX C x).map fun x => .extract x i
  | .call c => (match mapO (cX C) c.args.toList with
    | some as => (match c.callee with
      | .value (.func f) => if C.ρ (C.κ f) = f then some (.call (C.κ f) as) else none
      | .value x => (cX C x).map fun x => .callv x as
      | .builtin .len => (match as, (c.argTypes[0]?).bind C.P.underlying with
        | [x], some (.slice _) => some (.len x)
        | [x], some .string => some (.slen x)
        | _, _ => some .bad)
      | .builtin .cap => (match as, (c.argTypes[0]?).bind C.P.underlying with
        | [x], some (.slice _) => some (.cap x)
        | _, _ => some .bad)
      | .builtin .append => (match as, (c.argTypes[0]?).bind (elemT C.P), (c.argTypes[1]?).bind (elemT C.P) with
        | [x, y], some e, some _ => (match C.P.info? e with
          | some i => if 0 < i.size ∧ 0 < i.bytes ∧ (zeroT C.P e).map List.length = some i.size then some (.append i.size i.bytes x y) else none
          | none => none)
        | [x, y], some e, none => (match (c.argTypes[1]?).bind C.P.underlying, C.P.info? e, zeroT C.P e with
          | some (.int _), some i, some z => some (if z.length = i.size ∧ 0 < i.size ∧ 0 < i.bytes then .appmk i.size i.bytes z x y else .bad)
          | _, _, _ => some .bad)
        | _, _, _ => some .bad)
      | .builtin .copy => (match as, (c.argTypes[0]?).bind (elemT C.P) with
        | [x, y], some e => (sizeT C.P e).map fun s => .copy s x y
        | _, _ => some .bad)
      | .builtin .clear => (match as, (c.argTypes[0]?).bind (elemT C.P) with
        | [x], some e => (match sizeT C.P e, zeroT C.P e with
          | some s, some z => some (if z.length = s ∧ 0 < s then .clear s z x else .bad)
          | _, _ => some .bad)
        | _, _ => some .bad)
      | .builtin .max => some (.mm true as)
      | .builtin .min => some (.mm false as)
      | _ => some .bad)
    | none => some .bad)
  | _ => some .bad

def cG (C : Cx) (N : Nat) (ops : Array Oper) (o : Oper) : Option GOp :=
  match cOp C o.op with
  | some m =>
    if (match o.dst with | some d => decide (d < N) | none => true) = true then
      (match o.guard with
      | none => some ⟨m, o.dst, none⟩
      | some (j, w) => (match (ops[j]?).bind (·.dst) with
        | some t => some ⟨m, o.dst, some (t, w)⟩
        | none => none))
    else none
  | none => none

/-- Does the operation look at memory (1), write it (2), or neither (0)? -/
def kindM : MOp → Nat
  | .store .. | .append .. | .copy .. | .clear .. | .callw .. | .callvw .. => 2
  | .load .. | .alloc .. | .box .. | .bslice .. | .make .. | .appmk .. | .call .. | .callv .. | .slice .. => 1
  | _ => 0

/-- What comes before each operation whatever the order: edges, and edges of edges. -/
def befs : List Oper → List (List Nat) → List (List Nat)
  | [], acc => acc
  | o :: os, acc => befs os (acc ++ [(o.after.toList.filter (Region.binds .any ·)).flatMap fun e => e.on :: acc.getD e.on []])

def rdOK (ops : List Oper) (n : Nat) (B : List (List Nat)) (bef : List Nat) (i : Nat) (o : Oper) : Bool :=
  (bef.all fun j => decide (j < i)) &&
  (o.op.operands.toList.all fun x => match x with
    | .tmp t => (List.range n).all fun j => (match ops[j]? with | some q => q.dst != some t | none => true) || bef.contains j || (B.getD j []).contains i
    | _ => true) &&
  (match o.guard with | some (j, _) => bef.contains j | none => true) &&
  ((List.range i).all fun j => match ops[j]?, o.dst with | some q, some d => q.dst != some d | _, _ => true)

def isLoad : MOp → Bool
  | .load .. => true
  | .slice .. => true
  | _ => false

/-- May the region's order be left open? ls: loads that need not be ordered with all writes. -/
def drawOKL (ops : List Oper) (ms : List GOp) (ls : List Nat) : Bool :=
  (fun B => ((List.range ops.length).all fun i => match ops[i]?, ms[i]? with
    | some o, some m => rdOK ops ops.length B (B.getD i []) i o &&
      ((List.range ops.length).all fun j => match ms[j]? with
        | some m' => i == j || kindM m.op != 2 || kindM m'.op == 0 || (ls.contains j && isLoad m'.op) || (B.getD i []).contains j || (B.getD j []).contains i
        | none => false)
    | _, _ => false)) (befs ops [])

def drawOK (ops : List Oper) (ms : List GOp) : Bool := drawOKL ops ms []

/-- The loads that some write is not ordered with. -/
def looseOf (ops : List Oper) (ms : List GOp) : List Nat :=
  (fun B => (List.range ops.length).filter fun j => match ms[j]? with
    | some m' => isLoad m'.op && (List.range ops.length).any fun i => (match ms[i]? with
      | some m => i != j && kindM m.op == 2 && !((B.getD i []).contains j) && !((B.getD j []).contains i)
      | none => false)
    | none => false) (befs ops [])

def toW (g : GOp) : GOp := match g.op with
  | .call f as => ⟨.callw f as, g.d, g.g⟩
  | .callv x as => ⟨.callvw x as, g.d, g.g⟩
  | _ => g

/-- Is the operation ordered with all others that touch memory? -/
def ordAll (gs : List GOp) (B : List (List Nat)) (i : Nat) : Bool := (List.range gs.length).all fun j => match gs[j]? with
  | some m' => i == j || kindM m'.op == 0 || (B.getD i []).contains j || (B.getD j []).contains i
  | none => true

def upGo (all : List GOp) (B : List (List Nat)) : Nat → List GOp → List GOp
  | _, [] => []
  | i, g :: gs => (if ordAll all B i = true then toW g else g) :: upGo all B (i + 1) gs

/-- Calls that are ordered with all others may write. -/
def upW (ops : List Oper) (gs : List GOp) : List GOp := upGo gs (befs ops []) 0 gs

def cC (C : Cx) (N : Nat) : Code → Option MC
  | .skip => some .skip
  | .label _ => some .skip
  | .region _ ops draw => (match mapO (cG C N ops) ops.toList with
    | some l => if draw = true then (if drawOK ops.toList (upW ops.toList l) = true then some (.region (upW ops.toList l) true) else if drawOKL ops.toList (upW ops.toList l) (looseOf ops.toList (upW ops.toList l)) = true then some (.regionL (upW ops.toList l) (looseOf ops.toList (upW ops.toList l))) else some .bad) else some (.region l false)
    | none => none)
  | .seq a b => (match cC C N a, cC C N b with
    | some a, some b => some (.seq a b)
    | _, _ => none)
  | .cond c t f => (match cX C c, cC C N t, cC C N f with
    | some c, some t, some f => some (.cond c t f)
    | _, _, _ => none)
  | .block id b => (match cC C N b with
    | some b => some (.block id b)
    | none => none)
  | .loop b => (match cC C N b with
    | some b => some (.loop b)
    | none => none)
  | .exit id => some (.exit id)
  | .ret => some .ret
  | _ => some .bad

end Go.Proofs.Ytokoboflpaklaaa.Mi
namespace Go.Proofs.Ytokoboflpaklaaa.Mi
open Go

/-- Where the blocks lie: the block's number there; its cells; its cells per element. -/
structure Mp where
  b : Nat → Nat
  sz : Nat → Nat
  es : Nat → Nat

def Mp.comp (m : Mp) (f : Nat → Nat) : Mp := ⟨fun i => m.b (f i), fun i => m.sz (f i), fun i => m.es (f i)⟩

def Mp.same (m m' : Mp) (i : Nat) : Prop := m'.b i = m.b i ∧ m'.sz i = m.sz i ∧ m'.es i = m.es i

section
variable (ρ : Nat → Nat)

mutual
def VR (m : Mp) : V → Value → Prop
  | .int k n, v => v = .int k n
  | .bool b, v => v = .bool b
  | .str s, v => v = .string s
  | .ptr i o, v => v = .pointer (some ⟨m.b i, o, none⟩)
  | .sl i o n, v => (∃ c, v = .slice (some ⟨m.b i, o, none⟩) n c ∧ n ≤ c ∧ o + c * m.es i ≤ m.sz i) ∨ (n = 0 ∧ ∃ a, v = .slice (some a) 0 0)
  | .nils, v => v = .slice none 0 0
  | .nilp, v => v = .pointer none
  | .emp, v => ∃ a, v = .slice (some a) 0 0
  | .fn f caps, v => ∃ cs : Array Value, v = .func (.func (ρ f)) #[] cs ∧ VRL m caps cs.toList
  | .nilf, v => v = .nilFunc
  | .agg xs, v => ∃ cs : Array Value, v = .agg cs ∧ VRL m xs cs.toList
  | .tup xs, v => ∃ cs : Array Value, v = .tuple cs ∧ VRL m xs cs.toList
  | .undef, v => v = undef
  | .any, _ => True
  | .bfn f first, v => ∃ cs : Array Value, v = .func (.func (ρ f)) cs #[] ∧ VRL m first cs.toList
def VRL (m : Mp) : List V → List Value → Prop
  | [], l => l = []
  | x :: xs, l => ∃ y ys, l = y :: ys ∧ VR m x y ∧ VRL m xs ys
end

variable {ρ} {m : Mp}

theorem VRL.length : ∀ {xs : List V} {l : List Value}, VRL ρ m xs l → l.length = xs.length
  | [], l, h => by simp only [VRL] at h; subst h; rfl
  | x :: xs, l, h => by
    simp only [VRL] at h
    obtain ⟨y, ys, rfl, _, h⟩ := h
    simp [VRL.length h]

theorem VRL.get : ∀ {xs : List V} {l : List Value}, VRL ρ m xs l → ∀ {i : Nat} {x : V}, xs[i]? = some x → ∃ y, l[i]? = some y ∧ VR ρ m x y
  | [], _, _, i, x, hx => by simp at hx
  | x :: xs, l, h, i, z, hz => by
    simp only [VRL] at h
    obtain ⟨y, ys, rfl, h1, h2⟩ := h
    cases i with
    | zero => simp at hz; subst hz; exact ⟨y, rfl, h1⟩
    | succ i => simp at hz; simpa using VRL.get h2 hz

theorem VRL.of_get : ∀ {xs : List V} {l : List Value}, l.length = xs.length → (∀ (i : Nat) (x : V), xs[i]? = some x → ∃ y, l[i]? = some y ∧ VR ρ m x y) → VRL ρ m xs l
  | [], l, hl, _ => by simp only [VRL]; exact List.length_eq_zero_iff.mp hl
  | x :: xs, [], hl, _ => by simp at hl
  | x :: xs, y :: ys, hl, h => by
    simp only [VRL]
    obtain ⟨y', hy, hr⟩ := h 0 x rfl
    simp at hy; subst hy
    exact ⟨y, ys, rfl, hr, VRL.of_get (by simpa using hl) fun i x hx => by simpa using h (i + 1) x (by simpa using hx)⟩

theorem VRL.append {xs ys : List V} {l k : List Value} (h : VRL ρ m xs l) (h' : VRL ρ m ys k) : VRL ρ m (xs ++ ys) (l ++ k) := by
  have e1 := h.length
  have e2 := h'.length
  refine VRL.of_get (by simp [e1, e2]) fun i x hx => ?_
  by_cases hi : i < xs.length
  · rw [List.getElem?_append_left hi] at hx
    obtain ⟨y, hy, hr⟩ := h.get hx
    exact ⟨y, by rw [List.getElem?_append_left (by omega)]; exact hy, hr⟩
  · rw [List.getElem?_append_right (by omega)] at hx
    obtain ⟨y, hy, hr⟩ := h'.get hx
    exact ⟨y, by rw [List.getElem?_append_right (by omega), e1]; exact hy, hr⟩

theorem VRL.drop {xs : List V} {l : List Value} (h : VRL ρ m xs l) (n : Nat) : VRL ρ m (xs.drop n) (l.drop n) := by
  refine VRL.of_get (by simp [h.length]) fun i x hx => ?_
  rw [List.getElem?_drop] at hx ⊢
  exact h.get hx

theorem VRL.take {xs : List V} {l : List Value} (h : VRL ρ m xs l) (n : Nat) : VRL ρ m (xs.take n) (l.take n) := by
  refine VRL.of_get (by simp [h.length]) fun i x hx => ?_
  rw [List.getElem?_take] at hx ⊢
  split at hx
  · rename_i hi; simp only [hi, if_true]; exact h.get hx
  · simp at hx

theorem VRL.set {xs : List V} {l : List Value} (h : VRL ρ m xs l) (n : Nat) {x : V} {y : Value} (hr : VR ρ m x y) : VRL ρ m (xs.set n x) (l.set n y) := by
  refine VRL.of_get (by simp [h.length]) fun i z hz => ?_
  have hl := h.length
  by_cases e : n = i
  · subst e
    by_cases hn : n < xs.length
    · rw [List.getElem?_set_self hn] at hz
      obtain rfl := Option.some.inj hz
      exact ⟨y, List.getElem?_set_self (by omega), hr⟩
    · rw [List.getElem?_eq_none (by simpa using Nat.le_of_not_lt hn)] at hz; simp at hz
  · rw [List.getElem?_set_ne e] at hz ⊢
    exact h.get hz

theorem VRL.cons {x : V} {xs : List V} {y : Value} {ys : List Value} (h : VR ρ m x y) (h' : VRL ρ m xs ys) : VRL ρ m (x :: xs) (y :: ys) := by
  simp only [VRL]; exact ⟨y, ys, rfl, h, h'⟩

mutual
theorem VR.agree {m m' : Mp} : ∀ {v : V} {u : Value}, (∀ i ∈ v.ids, m.same m' i) → VR ρ m v u → VR ρ m' v u
  | .int _ _, _, _, h | .bool _, _, _, h | .str _, _, _, h | .nils, _, _, h | .nilp, _, _, h | .emp, _, _, h | .nilf, _, _, h | .undef, _, _, h => by
    simpa [VR] using h
  | .any, _, _, h => by simp [VR]
  | .bfn f cs, _, hi, h => by
    simp only [VR] at h ⊢
    obtain ⟨a, e, h⟩ := h
    exact ⟨a, e, VRL.agree (by simpa [V.ids] using hi) h⟩
  | .ptr i o, _, hi, h => by
    simp only [VR] at h ⊢
    rw [(hi i (by simp [V.ids])).1]; exact h
  | .sl i o n, _, hi, h => by
    obtain ⟨e1, e2, e3⟩ := hi i (by simp [V.ids])
    simp only [VR] at h ⊢
    rw [e1, e2, e3]; exact h
  | .fn f cs, _, hi, h => by
    simp only [VR] at h ⊢
    obtain ⟨a, e, h⟩ := h
    exact ⟨a, e, VRL.agree (by simpa [V.ids] using hi) h⟩
  | .agg cs, _, hi, h => by
    simp only [VR] at h ⊢
    obtain ⟨a, e, h⟩ := h
    exact ⟨a, e, VRL.agree (by simpa [V.ids] using hi) h⟩
  | .tup cs, _, hi, h => by
    simp only [VR] at h ⊢
    obtain ⟨a, e, h⟩ := h
    exact ⟨a, e, VRL.agree (by simpa [V.ids] using hi) h⟩
theorem VRL.agree {m m' : Mp} : ∀ {v : List V} {u : List Value}, (∀ i ∈ V.idsL v, m.same m' i) → VRL ρ m v u → VRL ρ m' v u
  | [], _, _, h => by simpa [VRL] using h
  | v :: vs, _, hi, h => by
    simp only [VRL] at h ⊢
    obtain ⟨y, ys, e, h1, h2⟩ := h
    exact ⟨y, ys, e, VR.agree (fun i h => hi i (by simp [V.idsL, h])) h1, VRL.agree (fun i h => hi i (by simp [V.idsL, h])) h2⟩
end

mutual
theorem VR.ren {m : Mp} {f : Nat → Nat} : ∀ {v : V} {u : Value}, VR ρ m (v.ren f) u ↔ VR ρ (m.comp f) v u
  | .int _ _, _ | .bool _, _ | .str _, _ | .nils, _ | .nilp, _ | .emp, _ | .nilf, _ | .undef, _ | .any, _ | .ptr _ _, _ | .sl _ _ _, _ => by
    simp [VR, V.ren, Mp.comp]
  | .fn f cs, _ => by simp only [VR, V.ren]; exact exists_congr fun a => and_congr Iff.rfl VRL.ren
  | .bfn f cs, _ => by simp only [VR, V.ren]; exact exists_congr fun a => and_congr Iff.rfl VRL.ren
  | .agg cs, _ => by simp only [VR, V.ren]; exact exists_congr fun a => and_congr Iff.rfl VRL.ren
  | .tup cs, _ => by simp only [VR, V.ren]; exact exists_congr fun a => and_congr Iff.rfl VRL.ren
theorem VRL.ren {m : Mp} {f : Nat → Nat} : ∀ {v : List V} {u : List Value}, VRL ρ m (V.renL f v) u ↔ VRL ρ (m.comp f) v u
  | [], _ => by simp [VRL, V.renL]
  | v :: vs, _ => by
    simp only [VRL, V.renL]
    exact exists_congr fun y => exists_congr fun ys => and_congr Iff.rfl (and_congr VR.ren VRL.ren)
end

mutual
theorem V.ids_ren (f : Nat → Nat) : ∀ (v : V), (v.ren f).ids = v.ids.map f
  | .int _ _ | .bool _ | .str _ | .nils | .nilp | .emp | .nilf | .undef | .any | .ptr _ _ | .sl _ _ _ => by simp [V.ids, V.ren]
  | .fn _ cs => by simp only [V.ids, V.ren]; exact V.idsL_ren f cs
  | .bfn _ cs => by simp only [V.ids, V.ren]; exact V.idsL_ren f cs
  | .agg cs => by simp only [V.ids, V.ren]; exact V.idsL_ren f cs
  | .tup cs => by simp only [V.ids, V.ren]; exact V.idsL_ren f cs
theorem V.idsL_ren (f : Nat → Nat) : ∀ (v : List V), V.idsL (V.renL f v) = (V.idsL v).map f
  | [] => rfl
  | v :: vs => by simp only [V.idsL, V.renL, List.map_append]; rw [V.ids_ren f v, V.idsL_ren f vs]
end

theorem V.idsL_append (a b : List V) : V.idsL (a ++ b) = V.idsL a ++ V.idsL b := by
  induction a with
  | nil => rfl
  | cons x xs ih => simp [V.idsL, ih]

theorem V.mem_idsL {i : Nat} {l : List V} : i ∈ V.idsL l ↔ ∃ v ∈ l, i ∈ v.ids := by
  induction l with
  | nil => simp [V.idsL]
  | cons x xs ih => simp [V.idsL, ih]

theorem V.renL_length (f : Nat → Nat) (l : List V) : (V.renL f l).length = l.length := by
  induction l with
  | nil => rfl
  | cons x xs ih => simp [V.renL, ih]

theorem V.renL_get (f : Nat → Nat) (l : List V) (i : Nat) : (V.renL f l)[i]? = (l[i]?).map (V.ren f) := by
  induction l generalizing i with
  | nil => simp [V.renL]
  | cons x xs ih => cases i <;> simp [V.renL, ih]

/-! ### Memory -/

def SameBut (R : Nat → Prop) (a b : Option Obj) : Prop :=
  a = b ∨ ∃ (cs cs' : Array Value) (el : TypeId) (fz : Nat × Nat), a = some (.cells cs el fz) ∧ b = some (.cells cs' el fz) ∧ cs'.size = cs.size ∧ ∀ o : Nat, ¬ R o → cs'[o]? = cs[o]?

theorem SameBut.refl (R : Nat → Prop) (a : Option Obj) : SameBut R a a := .inl rfl
theorem SameBut.trans {R : Nat → Prop} {a b c : Option Obj} (h : SameBut R a b) (h' : SameBut R b c) : SameBut R a c := by
  rcases h with rfl | ⟨cs, cs', el, fz, ha, hb, hs, hc⟩
  · exact h'
  rcases h' with rfl | ⟨ds, ds', el', fz', ha', hb', hs', hc'⟩
  · exact .inr ⟨cs, cs', el, fz, ha, hb, hs, hc⟩
  rw [hb] at ha'
  obtain ⟨rfl, rfl, rfl⟩ : cs' = ds ∧ el = el' ∧ fz = fz' := by simpa using ha'
  exact .inr ⟨cs, ds', el, fz, ha, hb', hs'.trans hs, fun o ho => (hc' o ho).trans (hc o ho)⟩

theorem SameBut.mono {R R' : Nat → Prop} {a b : Option Obj} (h : SameBut R a b) (hr : ∀ o, R o → R' o) : SameBut R' a b := by
  rcases h with rfl | ⟨cs, cs', el, fz, ha, hb, hs, hc⟩
  · exact .inl rfl
  · exact .inr ⟨cs, cs', el, fz, ha, hb, hs, fun o ho => hc o fun h => ho (hr o h)⟩

/-- From w to w' nothing but what may be written (R block cell) has turned. -/
structure Keep (R : Nat → Nat → Prop) (w w' : World) : Prop where
  os : w'.os = w.os
  tape : w'.tape = w.tape
  output : w'.output = w.output
  size : w.heap.size ≤ w'.heap.size
  blk : ∀ r, r < w.heap.size → SameBut (R r) w.heap[r]? w'.heap[r]?

theorem Keep.refl (R : Nat → Nat → Prop) (w : World) : Keep R w w := ⟨rfl, rfl, rfl, Nat.le_refl _, fun _ _ => .inl rfl⟩
theorem Keep.trans {R : Nat → Nat → Prop} {a b c : World} (h : Keep R a b) (h' : Keep R b c) : Keep R a c :=
  ⟨h'.os.trans h.os, h'.tape.trans h.tape, h'.output.trans h.output, Nat.le_trans h.size h'.size, fun r hr => (h.blk r hr).trans (h'.blk r (Nat.lt_of_lt_of_le hr h.size))⟩
theorem Keep.mono {R R' : Nat → Nat → Prop} {w w' : World} (h : Keep R w w') (hr : ∀ r o, r < w.heap.size → R r o → R' r o) : Keep R' w w' :=
  ⟨h.os, h.tape, h.output, h.size, fun r hs => (h.blk r hs).mono fun o => hr r o hs⟩

variable (ρ) in
/-- The alive blocks D of the heap h stand in w where m says. -/
structure Inv (R : Nat → Nat → Prop) (m : Mp) (D : Nat → Prop) (h : Heap) (w : World) : Prop where
  blk : ∀ (i : Nat) (b : Blk), D i → h[i]? = some b → ∃ (cs : Array Value) (el : TypeId) (fz : Nat × Nat), w.heap[m.b i]? = some (.cells cs el fz) ∧ cs.size = m.sz i ∧ m.es i = b.es ∧ b.c.length ≤ cs.size ∧
    (∀ (j : Nat) (v : V), b.c[j]? = some v → ∃ u, cs[j]? = some u ∧ VR ρ m v u) ∧ (b.pr.isSome → fz = (0, 0))
  dom : ∀ i : Nat, D i → ∃ b : Blk, h[i]? = some b
  cls : ∀ (i j : Nat) (bi bj : Blk), D i → D j → h[i]? = some bi → h[j]? = some bj → m.b i = m.b j → bi.cl = bj.cl
  rts : ∀ (i : Nat) (b : Blk) (p : Nat), D i → h[i]? = some b → b.pr = some p → ∀ o, p ≤ o → R (m.b i) o
  flat : ∀ (i : Nat) (b : Blk), D i → h[i]? = some b → b.lit = false → V.idsL b.c = []
  ids : ∀ (i : Nat) (b : Blk), D i → h[i]? = some b → ∀ j ∈ V.idsL b.c, D j
  fresh : ∀ r, w.heap.size ≤ r → ∀ o, R r o
  clb : ∀ (i : Nat) (b : Blk), D i → h[i]? = some b → b.cl < h.length
  atm : ∀ (i : Nat) (b : Blk), D i → h[i]? = some b → b.es ≠ 0 → b.c.all V.atom = true

theorem Inv.lt {R : Nat → Nat → Prop} {D : Nat → Prop} {h : Heap} {w : World} (H : Inv ρ R m D h w) {i : Nat} (hi : D i) : m.b i < w.heap.size := by
  obtain ⟨b, hb⟩ := H.dom i hi
  obtain ⟨cs, el, fz, hc, _⟩ := H.blk i b hi hb
  by_cases hl : m.b i < w.heap.size
  · exact hl
  · rw [Array.getElem?_eq_none (by omega)] at hc; simp at hc

theorem Inv.hlt {R : Nat → Nat → Prop} {D : Nat → Prop} {h : Heap} {w : World} (H : Inv ρ R m D h w) {i : Nat} (hi : D i) : i < h.length := by
  obtain ⟨b, hb⟩ := H.dom i hi
  exact (List.getElem?_eq_some_iff.mp hb).1

/-- A draw. -/
theorem Inv.drawn {R : Nat → Nat → Prop} {D : Nat → Prop} {h : Heap} {w w' : World} (H : Inv ρ R m D h w) (e : w'.heap = w.heap) : Inv ρ R m D h w' :=
  ⟨by rw [e]; exact H.blk, H.dom, H.cls, H.rts, H.flat, H.ids, by rw [e]; exact H.fresh, H.clb, H.atm⟩

end
end Go.Proofs.Ytokoboflpaklaaa.Mi
namespace Go.Proofs.Ytokoboflpaklaaa.Mi
open Go

theorem mapO_some {α β : Type} {f : α → Option β} : ∀ {l : List α} {r : List β}, mapO f l = some r → r.length = l.length ∧ ∀ (i : Nat) (a : α), l[i]? = some a → ∃ b, r[i]? = some b ∧ f a = some b
  | [], r, h => by simp [mapO] at h; subst h; simp
  | a :: l, r, h => by
    simp only [mapO] at h
    split at h
    · rename_i b hb
      split at h
      · rename_i bs hbs
        obtain rfl := Option.some.inj h
        obtain ⟨h1, h2⟩ := mapO_some hbs
        refine ⟨by simp [h1], fun i x hx => ?_⟩
        cases i with
        | zero => simp at hx; subst hx; exact ⟨b, rfl, hb⟩
        | succ i => simpa using h2 i x (by simpa using hx)
      · simp at h
    · simp at h

theorem cA_atom {v : Value} {x : V} (h : cA v = some x) : x.atom = true := by
  unfold cA at h
  split at h <;> first | (simp at h; done) | (obtain rfl := Option.some.inj h; rfl)

theorem cAL_atom : ∀ {l : List Value} {r : List V}, mapO cA l = some r → r.all V.atom = true
  | [], r, h => by simp [mapO] at h; subst h; rfl
  | a :: l, r, h => by
    simp only [mapO] at h
    split at h
    · rename_i b hb
      split at h
      · rename_i bs hbs
        obtain rfl := Option.some.inj h
        simp [cA_atom hb]; simpa using cAL_atom hbs
      · simp at h
    · simp at h

section
variable {ρ : Nat → Nat} {m : Mp}

theorem cA_ok {v : Value} {x : V} (h : cA v = some x) : VR ρ m x v ∧ x.ids = [] := by
  unfold cA at h
  split at h <;> first | (simp at h; done) | (obtain rfl := Option.some.inj h; exact ⟨by simp [VR], by simp [V.ids]⟩)

theorem cAL_ok : ∀ {l : List Value} {r : List V}, mapO cA l = some r → VRL ρ m r l ∧ V.idsL r = []
  | [], r, h => by simp [mapO] at h; subst h; simp [VRL, V.idsL]
  | a :: l, r, h => by
    simp only [mapO] at h
    split at h
    · rename_i b hb
      split at h
      · rename_i bs hbs
        obtain rfl := Option.some.inj h
        obtain ⟨h1, h2⟩ := cAL_ok (l := l) hbs
        obtain ⟨h3, h4⟩ := cA_ok (ρ := ρ) (m := m) hb
        exact ⟨VRL.cons h3 h1, by simp [V.idsL, h2, h4]⟩
      · simp at h
    · simp at h

theorem cV_ok {v : Value} {x : V} (h : cV v = some x) : VR ρ m x v ∧ x.ids = [] := by
  unfold cV at h
  split at h
  · rename_i cs
    split at h
    · rename_i l hl
      obtain rfl := Option.some.inj h
      obtain ⟨h1, h2⟩ := cAL_ok (ρ := ρ) (m := m) hl
      exact ⟨by simp only [VR]; exact ⟨cs, rfl, h1⟩, by simpa [V.ids] using h2⟩
    · simp at h
  · exact cA_ok h
end

/-- The slots that satisfy T hold what the frame says. -/
def ER (ρ : Nat → Nat) (m : Mp) (D : Nat → Prop) (e : Env) (a : Act) (T : Nat → Prop) : Prop :=
  ∀ (t : Nat) (v : V), T t → get e t = some v → ∃ u, a.tmps[t]? = some u ∧ VR ρ m v u ∧ ∀ i ∈ v.ids, D i

section
variable {C : Cx} {m : Mp} {D : Nat → Prop} {e : Env} {a : Act} {T : Nat → Prop}

theorem ev_ok {x : Operand} {x' : X} {v : V} (hx : cX C x = some x') (hv : x'.ev e = some v) (hE : ER C.ρ m D e a T) (hT : ∀ t, x = .tmp t → T t) :
    VR C.ρ m v (a.eval x) ∧ ∀ i ∈ v.ids, D i := by
  unfold cX at hx
  split at hx
  · rename_i t
    obtain rfl := Option.some.inj hx
    obtain ⟨u, h1, h2, h3⟩ := hE t v (hT t rfl) hv
    refine ⟨?_, h3⟩
    have : a.eval (.tmp t) = u := by simp [Act.eval, Array.getD_eq_getD_getElem?, h1]
    rw [this]; exact h2
  · rename_i c
    split at hx
    · rename_i w hw
      obtain rfl := Option.some.inj hx
      simp only [X.ev] at hv
      obtain rfl := Option.some.inj hv
      obtain ⟨h1, h2⟩ := cV_ok (ρ := C.ρ) (m := m) hw
      exact ⟨h1, by simp [h2]⟩
    · simp at hx
  · rename_i f
    split at hx
    · rename_i hf
      obtain rfl := Option.some.inj hx
      simp only [X.ev] at hv
      obtain rfl := Option.some.inj hv
      refine ⟨?_, by simp [V.ids, V.idsL]⟩
      simp only [VR, Act.eval, hf]
      exact ⟨#[], rfl, by simp [VRL]⟩
    · simp at hx
  · simp at hx

theorem evs_ok : ∀ {xs : List Operand} {xs' : List X} {vs : List V}, mapO (cX C) xs = some xs' → evs e xs' = some vs → ER C.ρ m D e a T → (∀ t, Operand.tmp t ∈ xs → T t) →
    VRL C.ρ m vs (xs.map a.eval) ∧ ∀ i ∈ V.idsL vs, D i
  | [], xs', vs, hx, hv, _, _ => by
    simp [mapO] at hx; subst hx; simp [evs] at hv; subst hv; simp [VRL, V.idsL]
  | x :: xs, xs', vs, hx, hv, hE, hT => by
    simp only [mapO] at hx
    split at hx
    · rename_i b hb
      split at hx
      · rename_i bs hbs
        obtain rfl := Option.some.inj hx
        simp only [evs] at hv
        split at hv
        · rename_i w hw
          split at hv
          · rename_i ws hws
            obtain rfl := Option.some.inj hv
            obtain ⟨h1, h2⟩ := evs_ok hbs hws hE fun t ht => hT t (List.mem_cons_of_mem _ ht)
            obtain ⟨h3, h4⟩ := ev_ok hb hw hE fun t ht => hT t (ht ▸ List.mem_cons_self)
            refine ⟨VRL.cons h3 h1, fun i hi => ?_⟩
            simp only [V.idsL, List.mem_append] at hi
            exact hi.elim (h4 i) (h2 i)
          · simp at hv
        · simp at hv
      · simp at hx
    · simp at hx
end

/-- What an operation leaves. -/
structure Post (ρ : Nat → Nat) (R : Nat → Nat → Prop) (m : Mp) (D : Nat → Prop) (h : Heap) (W : World) (r : V) (h' : Heap) (u : Value) (W' : World) (m' : Mp) : Prop where
  rel : VR ρ m' r u
  rid : ∀ i ∈ r.ids, D i ∨ (h.length ≤ i ∧ i < h'.length)
  inv : Inv ρ R m' (fun i => D i ∨ (h.length ≤ i ∧ i < h'.length)) h' W'
  keep : Keep R W W'
  same : ∀ i, D i → m.same m' i
  len : h.length ≤ h'.length
  cle : ∀ (i : Nat) (b b' : Blk), h[i]? = some b → h'[i]? = some b' → b'.cl = b.cl ∧ b'.pr = b.pr
  new : ∀ (i : Nat) (b : Blk), h.length ≤ i → h'[i]? = some b → b.pr.isSome = true

/-- The operation o, from a and W, comes to r and h'. -/
def OKop (C : Cx) (R : Nat → Nat → Prop) (m : Mp) (D : Nat → Prop) (h : Heap) (W : World) (a : Act) (o : Oper) (r : V) (h' : Heap) : Prop :=
  ∀ (next : Act → World → Prop) (Q : Exit → Act → World → Prop),
    (∀ u W' m', Post C.ρ R m D h W r h' u W' m' → next (a.put o.dst u) W') → o.wp C.P a W next Q

section
variable {C : Cx} {R : Nat → Nat → Prop} {m : Mp} {D : Nat → Prop} {h h' : Heap} {W W' : World} {a : Act} {o : Oper} {r : V} {u : Value} {m' : Mp}

theorem OKop.val (hr : (execOp a.eval o).run C.P W = .ok (.value u) W') (hp : Post C.ρ R m D h W r h' u W' m') : OKop C R m D h W a o r h' :=
  fun next Q hn => by unfold Oper.wp; rw [hr]; exact hn u W' m' hp

theorem OKop.skp (hr : (execOp a.eval o).run C.P W = .ok .skip W') (hp : Post C.ρ R m D h W r h' undef W' m') : OKop C R m D h W a o r h' :=
  fun next Q hn => by unfold Oper.wp; rw [hr]; exact hn undef W' m' hp

theorem Mp.same_refl (m : Mp) (i : Nat) : m.same m i := ⟨rfl, rfl, rfl⟩

theorem Post.pure (hI : Inv C.ρ R m D h W) (hrel : VR C.ρ m r u) (hid : ∀ i ∈ r.ids, D i) : Post C.ρ R m D h W r h u W m := by
  have e : (fun i => D i ∨ (h.length ≤ i ∧ i < h.length)) = D := by
    funext i; apply propext; constructor
    · rintro (h | h); exact h; omega
    · exact .inl
  exact ⟨hrel, fun i hi => .inl (hid i hi), by rw [e]; exact hI, Keep.refl _ _, fun i _ => m.same_refl i, Nat.le_refl _,
    fun i b b' h1 h2 => by rw [h1] at h2; obtain rfl := Option.some.inj h2; exact ⟨rfl, rfl⟩, fun i b hi hb => by rw [List.getElem?_eq_none hi] at hb; simp at hb⟩

theorem OKop.pure (hI : Inv C.ρ R m D h W) (hr : (execOp a.eval o).run C.P W = .ok (.value u) W) (hrel : VR C.ρ m r u) (hid : ∀ i ∈ r.ids, D i) : OKop C R m D h W a o r h :=
  OKop.val hr (Post.pure hI hrel hid)
end

/-- Each cell that is told lies there. -/
def PR (ρ : Nat → Nat) (m : Mp) (l : List V) (cs : List Value) : Prop := ∀ (j : Nat) (v : V), l[j]? = some v → ∃ u, cs[j]? = some u ∧ VR ρ m v u

theorem VRL.PR {ρ : Nat → Nat} {m : Mp} {l : List V} {cs : List Value} (h : VRL ρ m l cs) : PR ρ m l cs := fun _ _ hv => h.get hv

/-! ### A new block -/

def Mp.ext (m : Mp) (i r s e : Nat) : Mp := ⟨fun j => if j = i then r else m.b j, fun j => if j = i then s else m.sz j, fun j => if j = i then e else m.es j⟩

theorem Mp.ext_same (m : Mp) {i j r s e : Nat} (h : j ≠ i) : m.same (m.ext i r s e) j := by simp [Mp.same, Mp.ext, h]

section
variable {ρ : Nat → Nat} {R : Nat → Nat → Prop} {m : Mp} {D : Nat → Prop} {h : Heap} {W : World}

/-- What a step of memory leaves, without the value. -/
structure Post0 (ρ : Nat → Nat) (R : Nat → Nat → Prop) (m : Mp) (D : Nat → Prop) (h : Heap) (W : World) (h' : Heap) (W' : World) (m' : Mp) : Prop where
  inv : Inv ρ R m' (fun i => D i ∨ (h.length ≤ i ∧ i < h'.length)) h' W'
  keep : Keep R W W'
  same : ∀ i, D i → m.same m' i
  len : h.length ≤ h'.length
  cle : ∀ (i : Nat) (b b' : Blk), h[i]? = some b → h'[i]? = some b' → b'.cl = b.cl ∧ b'.pr = b.pr
  new : ∀ (i : Nat) (b : Blk), h.length ≤ i → h'[i]? = some b → b.pr.isSome = true

theorem Post0.post {h' : Heap} {W' : World} {m' : Mp} {r : V} {u : Value} (p : Post0 ρ R m D h W h' W' m') (hrel : VR ρ m' r u) (hid : ∀ i ∈ r.ids, D i ∨ (h.length ≤ i ∧ i < h'.length)) :
    Post ρ R m D h W r h' u W' m' := ⟨hrel, hid, p.inv, p.keep, p.same, p.len, p.cle, p.new⟩

theorem Keep.alloc (R : Nat → Nat → Prop) (w : World) (o : Obj) : Keep R w { w with heap := w.heap.push o } :=
  ⟨rfl, rfl, rfl, by simp, fun r hr => .inl (by simp only; rw [Array.getElem?_push]; rw [if_neg (by omega)])⟩

theorem Inv.alloc (H : Inv ρ R m D h W) {b : Blk} {cs : Array Value} {el : TypeId} (hrel : PR ρ m b.c cs.toList) (hlen : b.c.length ≤ cs.size) (hid : ∀ i ∈ V.idsL b.c, D i) (hcl : b.cl ≤ h.length)
    (hflat : b.lit = false → V.idsL b.c = []) (hatm : b.c.all V.atom = true) (hprs : b.pr.isSome = true := by rfl) :
    Post0 ρ R m D h W (h ++ [b]) { W with heap := W.heap.push (.cells cs el (0, 0)) } (m.ext h.length W.heap.size cs.size b.es) := by
  have hsame : ∀ i, D i → m.same (m.ext h.length W.heap.size cs.size b.es) i := fun i hi => m.ext_same (by have := H.hlt hi; omega)
  have hget : ∀ i, D i → (h ++ [b])[i]? = h[i]? := fun i hi => List.getElem?_append_left (H.hlt hi)
  have hnew : (h ++ [b])[h.length]? = some b := by simp
  have hD : ∀ i, (D i ∨ (h.length ≤ i ∧ i < (h ++ [b]).length)) ↔ (D i ∨ i = h.length) := fun i => by
    constructor
    · rintro (hi | hi)
      · exact .inl hi
      · simp at hi; exact .inr (by omega)
    · rintro (hi | rfl)
      · exact .inl hi
      · exact .inr (by simp)
  have hb0 : ∀ i, D i → m.b i ≠ W.heap.size := fun i hi => by have := H.lt hi; omega
  refine ⟨⟨?_, ?_, ?_, ?_, ?_, ?_, ?_, ?_, ?_⟩, Keep.alloc _ _ _, hsame, by simp, fun i b1 b2 h1 h2 => ?_, fun i b' hi hb' => ?_⟩
  · intro i b' hi hb'
    rcases (hD i).mp hi with hi | rfl
    · rw [hget i hi] at hb'
      obtain ⟨cs', el', fz', h1, h2, h3, h4, h5, h6⟩ := H.blk i b' hi hb'
      obtain ⟨e1, e2, e3⟩ := hsame i hi
      refine ⟨cs', el', fz', ?_, by rw [e2]; exact h2, by rw [e3]; exact h3, h4, fun j v hv => ?_, h6⟩
      · rw [e1]; simp only; rw [Array.getElem?_push, if_neg (hb0 i hi)]; exact h1
      · obtain ⟨u, hu, hr⟩ := h5 j v hv
        exact ⟨u, hu, hr.agree fun k hk => hsame k (H.ids i b' hi hb' k (V.mem_idsL.mpr ⟨v, List.mem_of_getElem? hv, hk⟩))⟩
    · rw [hnew] at hb'
      obtain rfl := Option.some.inj hb'
      refine ⟨cs, el, (0, 0), by simp [Mp.ext], by simp [Mp.ext], by simp [Mp.ext], hlen, fun j v hv => ?_, fun _ => rfl⟩
      obtain ⟨u, hu, hr⟩ := hrel j v hv
      exact ⟨u, by simpa using hu, hr.agree fun k hk => hsame k (hid k (V.mem_idsL.mpr ⟨v, List.mem_of_getElem? hv, hk⟩))⟩
  · intro i hi
    rcases (hD i).mp hi with hi | rfl
    · rw [hget i hi]; exact H.dom i hi
    · exact ⟨b, hnew⟩
  · intro i j bi bj hi hj hbi hbj he
    rcases (hD i).mp hi with hi | rfl <;> rcases (hD j).mp hj with hj | rfl
    · rw [hget i hi] at hbi; rw [hget j hj] at hbj
      rw [(hsame i hi).1, (hsame j hj).1] at he
      exact H.cls i j bi bj hi hj hbi hbj he
    · rw [(hsame i hi).1] at he; simp [Mp.ext] at he; exact absurd he (hb0 i hi)
    · rw [(hsame j hj).1] at he; simp [Mp.ext] at he; exact absurd he.symm (hb0 j hj)
    · rw [hbi] at hbj; obtain rfl := Option.some.inj hbj; rfl
  · intro i b' p hi hb' hp o ho
    rcases (hD i).mp hi with hi | rfl
    · rw [hget i hi] at hb'
      rw [(hsame i hi).1]; exact H.rts i b' p hi hb' hp o ho
    · simp only [Mp.ext, if_true]; exact H.fresh _ (Nat.le_refl _) o
  · intro i b' hi hb' hl
    rcases (hD i).mp hi with hi | rfl
    · rw [hget i hi] at hb'; exact H.flat i b' hi hb' hl
    · rw [hnew] at hb'; obtain rfl := Option.some.inj hb'; exact hflat hl
  · intro i b' hi hb' j hj
    rcases (hD i).mp hi with hi | rfl
    · rw [hget i hi] at hb'; exact .inl (H.ids i b' hi hb' j hj)
    · rw [hnew] at hb'; obtain rfl := Option.some.inj hb'; exact .inl (hid j hj)
  · intro r hr o
    exact H.fresh r (by simp at hr; omega) o
  · intro i b' hi hb'
    rcases (hD i).mp hi with hi | rfl
    · rw [hget i hi] at hb'; have := H.clb i b' hi hb'; simp; omega
    · rw [hnew] at hb'; obtain rfl := Option.some.inj hb'; simp; omega
  · intro i b' hi hb'
    rcases (hD i).mp hi with hi | rfl
    · rw [hget i hi] at hb'; exact H.atm i b' hi hb'
    · rw [hnew] at hb'; obtain rfl := Option.some.inj hb'; exact fun _ => hatm
  · rw [List.getElem?_append_left (List.getElem?_eq_some_iff.mp h1).1, h1] at h2
    obtain rfl := Option.some.inj h2; exact ⟨rfl, rfl⟩
  · have hl := (List.getElem?_eq_some_iff.mp hb').1
    simp at hl
    obtain rfl : i = h.length := by omega
    rw [hnew] at hb'; obtain rfl := Option.some.inj hb'; exact hprs

theorem Inv.allocV (H : Inv ρ R m D h W) {b : Blk} {cs : Array Value} {el : TypeId} (hrel : VRL ρ m b.c cs.toList) (hid : ∀ i ∈ V.idsL b.c, D i) (hcl : b.cl ≤ h.length)
    (hflat : b.lit = false → V.idsL b.c = []) (hatm : b.c.all V.atom = true) (hprs : b.pr.isSome = true := by rfl) :
    Post0 ρ R m D h W (h ++ [b]) { W with heap := W.heap.push (.cells cs el (0, 0)) } (m.ext h.length W.heap.size cs.size b.es) :=
  H.alloc hrel.PR (by have := hrel.length; simp at this; omega) hid hcl hflat hatm hprs

theorem Post0.trans {h1 h2 : Heap} {W1 W2 : World} {m1 m2 : Mp} (p : Post0 ρ R m D h W h1 W1 m1) (q : Post0 ρ R m1 (fun i => D i ∨ (h.length ≤ i ∧ i < h1.length)) h1 W1 h2 W2 m2) :
    Post0 ρ R m D h W h2 W2 m2 := by
  have l1 := p.len
  have l2 := q.len
  have eD : (fun i => (D i ∨ (h.length ≤ i ∧ i < h1.length)) ∨ (h1.length ≤ i ∧ i < h2.length)) = (fun i => D i ∨ (h.length ≤ i ∧ i < h2.length)) := by
    funext i; apply propext
    constructor
    · rintro ((h | h) | h)
      · exact .inl h
      · exact .inr (by omega)
      · exact .inr (by omega)
    · rintro (h | h)
      · exact .inl (.inl h)
      · by_cases hi : i < h1.length
        · exact .inl (.inr (by omega))
        · exact .inr (by omega)
  refine ⟨eD ▸ q.inv, p.keep.trans q.keep, fun i hi => ?_, by omega, fun i b b' hb hb' => ?_, fun i b hi hb => ?_⟩
  rotate_left
  · have : i < h1.length := by have := (List.getElem?_eq_some_iff.mp hb).1; omega
    have e := List.getElem?_eq_getElem this
    obtain ⟨q1, q2⟩ := q.cle i _ b' e hb'
    obtain ⟨p1, p2⟩ := p.cle i b _ hb e
    exact ⟨q1.trans p1, q2.trans p2⟩
  · by_cases hi1 : i < h1.length
    · have e := List.getElem?_eq_getElem hi1
      rw [(q.cle i _ b e hb).2]; exact p.new i _ hi e
    · exact q.new i b (by omega) hb
  obtain ⟨a1, a2, a3⟩ := p.same i hi
  obtain ⟨b1, b2, b3⟩ := q.same i (.inl hi)
  exact ⟨b1.trans a1, b2.trans a2, b3.trans a3⟩

theorem Inv.alias (H : Inv ρ R m D h W) {i : Nat} {b nb : Blk} (hi : D i) (hb : h[i]? = some b) {cs : Array Value} {el : TypeId} {fz : Nat × Nat} (hw : W.heap[m.b i]? = some (.cells cs el fz))
    (hes : nb.es = b.es) (hcl : nb.cl = b.cl) (hpr : nb.pr = b.pr) (hlen : nb.c.length ≤ cs.size) (hrel : ∀ (j : Nat) (v : V), nb.c[j]? = some v → ∃ u, cs[j]? = some u ∧ VR ρ m v u)
    (hflat : nb.lit = false → V.idsL nb.c = []) (hids : ∀ j ∈ V.idsL nb.c, D j) (hatm : nb.c.all V.atom = true) (hprs : b.pr.isSome = true) :
    Post0 ρ R m D h W (h ++ [nb]) W (m.ext h.length (m.b i) (m.sz i) (m.es i)) := by
  have hsame : ∀ j, D j → m.same (m.ext h.length (m.b i) (m.sz i) (m.es i)) j := fun j hj => m.ext_same (by have := H.hlt hj; omega)
  have hget : ∀ j, D j → (h ++ [nb])[j]? = h[j]? := fun j hj => List.getElem?_append_left (H.hlt hj)
  have hnew : (h ++ [nb])[h.length]? = some nb := by simp
  have hD : ∀ j, (D j ∨ (h.length ≤ j ∧ j < (h ++ [nb]).length)) ↔ (D j ∨ j = h.length) := fun j => by
    constructor
    · rintro (hi | hi)
      · exact .inl hi
      · simp at hi; exact .inr (by omega)
    · rintro (hi | rfl)
      · exact .inl hi
      · exact .inr (by simp)
  have hm : ∀ j, j = h.length → (m.ext h.length (m.b i) (m.sz i) (m.es i)).b j = m.b i := by rintro j rfl; simp [Mp.ext]
  obtain ⟨cs0, el0, fz0, g1, g2, g3, g4, g5, g6⟩ := H.blk i b hi hb
  rw [hw] at g1
  obtain ⟨rfl, rfl, rfl⟩ : cs = cs0 ∧ el = el0 ∧ fz = fz0 := by simpa using g1
  refine ⟨⟨?_, ?_, ?_, ?_, ?_, ?_, ?_, ?_, ?_⟩, Keep.refl _ _, hsame, by simp, fun i b1 b2 h1 h2 => ?_, fun j b' hj hb' => ?_⟩
  · intro j b' hj hb'
    rcases (hD j).mp hj with hj | rfl
    · rw [hget j hj] at hb'
      obtain ⟨cs', el', fz', h1, h2, h3, h4, h5, h6⟩ := H.blk j b' hj hb'
      obtain ⟨e1, e2, e3⟩ := hsame j hj
      refine ⟨cs', el', fz', by rw [e1]; exact h1, by rw [e2]; exact h2, by rw [e3]; exact h3, h4, fun k v hv => ?_, h6⟩
      obtain ⟨u, hu, hr⟩ := h5 k v hv
      exact ⟨u, hu, hr.agree fun x hx => hsame x (H.ids j b' hj hb' x (V.mem_idsL.mpr ⟨v, List.mem_of_getElem? hv, hx⟩))⟩
    · rw [hnew] at hb'
      obtain rfl := Option.some.inj hb'
      refine ⟨cs, el, fz, by rw [hm _ rfl]; exact hw, by simp [Mp.ext, g2], by simp [Mp.ext, hes, g3], hlen, fun k v hv => ?_, by rw [hpr]; exact g6⟩
      obtain ⟨u, hu, hr⟩ := hrel k v hv
      exact ⟨u, hu, hr.agree fun x hx => hsame x (hids x (V.mem_idsL.mpr ⟨v, List.mem_of_getElem? hv, hx⟩))⟩
  · intro j hj
    rcases (hD j).mp hj with hj | rfl
    · rw [hget j hj]; exact H.dom j hj
    · exact ⟨nb, hnew⟩
  · intro j k bj bk hj hk hbj hbk he
    rcases (hD j).mp hj with hj | rfl <;> rcases (hD k).mp hk with hk | rfl
    · rw [hget j hj] at hbj; rw [hget k hk] at hbk
      rw [(hsame j hj).1, (hsame k hk).1] at he
      exact H.cls j k bj bk hj hk hbj hbk he
    · rw [hget j hj] at hbj; rw [hnew] at hbk; obtain rfl := Option.some.inj hbk
      rw [(hsame j hj).1, hm _ rfl] at he
      rw [hcl]; exact H.cls j i bj b hj hi hbj hb he
    · rw [hget k hk] at hbk; rw [hnew] at hbj; obtain rfl := Option.some.inj hbj
      rw [(hsame k hk).1, hm _ rfl] at he
      rw [hcl]; exact H.cls i k b bk hi hk hb hbk he
    · rw [hbj] at hbk; obtain rfl := Option.some.inj hbk; rfl
  · intro j b' p hj hb' hp o ho
    rcases (hD j).mp hj with hj | rfl
    · rw [hget j hj] at hb'
      rw [(hsame j hj).1]; exact H.rts j b' p hj hb' hp o ho
    · rw [hnew] at hb'; obtain rfl := Option.some.inj hb'
      rw [hm _ rfl]; exact H.rts i b p hi hb (by rw [← hpr]; exact hp) o ho
  · intro j b' hj hb' hl
    rcases (hD j).mp hj with hj | rfl
    · rw [hget j hj] at hb'; exact H.flat j b' hj hb' hl
    · rw [hnew] at hb'; obtain rfl := Option.some.inj hb'; exact hflat hl
  · intro j b' hj hb' k hk
    rcases (hD j).mp hj with hj | rfl
    · rw [hget j hj] at hb'; exact .inl (H.ids j b' hj hb' k hk)
    · rw [hnew] at hb'; obtain rfl := Option.some.inj hb'; exact .inl (hids k hk)
  · exact H.fresh
  · intro j b' hj hb'
    rcases (hD j).mp hj with hj | rfl
    · rw [hget j hj] at hb'; have := H.clb j b' hj hb'; simp; omega
    · rw [hnew] at hb'; obtain rfl := Option.some.inj hb'; have := H.clb i b hi hb; simp; omega
  · intro j b' hj hb'
    rcases (hD j).mp hj with hj | rfl
    · rw [hget j hj] at hb'; exact H.atm j b' hj hb'
    · rw [hnew] at hb'; obtain rfl := Option.some.inj hb'; exact fun _ => hatm
  · rw [List.getElem?_append_left (List.getElem?_eq_some_iff.mp h1).1, h1] at h2
    obtain rfl := Option.some.inj h2; exact ⟨rfl, rfl⟩
  · have hl := (List.getElem?_eq_some_iff.mp hb').1
    simp at hl
    obtain rfl : j = h.length := by omega
    rw [hnew] at hb'; obtain rfl := Option.some.inj hb'; rw [hpr]; exact hprs

/-! ### A write -/

theorem upd_get (b' : Blk) (i o : Nat) : ∀ (h : Heap) (k j : Nat), (upd b' i o k h)[j]? = (h[j]?).map fun b => if k + j = i then b' else if b.cl = b'.cl then { b with c := b.c.take o } else b
  | [], k, j => by simp [upd]
  | b :: h, k, 0 => by simp [upd]
  | b :: h, k, j + 1 => by
    simp only [upd, List.getElem?_cons_succ]
    rw [upd_get b' i o h (k + 1) j, Nat.add_right_comm, Nat.add_assoc]

theorem upd_length (b' : Blk) (i o : Nat) : ∀ (h : Heap) (k : Nat), (upd b' i o k h).length = h.length
  | [], _ => rfl
  | _ :: h, k => by simp [upd, upd_length b' i o h (k + 1)]

theorem Inv.write (H : Inv ρ R m D h W) {i o : Nat} {b b' : Blk} {cs cs' : Array Value} {el : TypeId} {fz : Nat × Nat} {W' : World} {p : Nat} (hi : D i) (hb : h[i]? = some b) (hp : b.pr = some p) (hpo : p ≤ o)
    (hw : W.heap[m.b i]? = some (.cells cs el fz)) (hw' : W'.heap[m.b i]? = some (.cells cs' el fz)) (hoth : ∀ r, r ≠ m.b i → W'.heap[r]? = W.heap[r]?) (hsz : W'.heap.size = W.heap.size)
    (hos : W'.os = W.os) (htp : W'.tape = W.tape) (hou : W'.output = W.output)
    (hs : cs'.size = cs.size) (hlow : ∀ k : Nat, k < o → cs'[k]? = cs[k]?)
    (hcl : b'.cl = b.cl) (hes : b'.es = b.es) (hpr : b'.pr = b.pr)
    (hlen : b'.c.length ≤ cs.size) (hrel : ∀ (j : Nat) (v : V), b'.c[j]? = some v → ∃ u, cs'[j]? = some u ∧ VR ρ m v u)
    (hflat : b'.lit = false → V.idsL b'.c = []) (hids : ∀ j ∈ V.idsL b'.c, D j) (hatm : b'.es ≠ 0 → b'.c.all V.atom = true) :
    Post0 ρ R m D h W (upd b' i o 0 h) W' m := by
  have hD : (fun j => D j ∨ (h.length ≤ j ∧ j < (upd b' i o 0 h).length)) = D := by
    funext j; apply propext; rw [upd_length]
    constructor
    · rintro (h | h); exact h; omega
    · exact .inl
  have key : ∀ j bj, (upd b' i o 0 h)[j]? = some bj → ∃ b0, h[j]? = some b0 ∧ bj = (if j = i then b' else if b0.cl = b'.cl then { b0 with c := b0.c.take o } else b0) := by
    intro j bj hj
    rw [upd_get] at hj
    cases h0 : h[j]? with
    | none => rw [h0] at hj; simp at hj
    | some b0 => rw [h0] at hj; simp at hj; exact ⟨b0, rfl, hj.symm⟩
  have low : ∀ j b0 bj, j ≠ i → h[j]? = some b0 → bj = (if j = i then b' else if b0.cl = b'.cl then { b0 with c := b0.c.take o } else b0) →
      bj.cl = b0.cl ∧ bj.es = b0.es ∧ bj.pr = b0.pr ∧ bj.lit = b0.lit ∧ (∃ n, bj.c = b0.c.take n) ∧ (b0.cl = b'.cl → bj.c = b0.c.take o) := by
    intro j b0 bj hj h0 e
    rw [if_neg hj] at e
    split at e
    · subst e; exact ⟨rfl, rfl, rfl, rfl, ⟨o, rfl⟩, fun _ => rfl⟩
    · rename_i hc; subst e; exact ⟨rfl, rfl, rfl, rfl, ⟨_, (List.take_length).symm⟩, fun h => absurd h hc⟩
  have mem_take : ∀ (l : List V) (n j : Nat), j ∈ V.idsL (l.take n) → j ∈ V.idsL l := by
    intro l n j hj
    obtain ⟨v, hv, hm⟩ := V.mem_idsL.mp hj
    exact V.mem_idsL.mpr ⟨v, List.mem_of_mem_take hv, hm⟩
  refine ⟨?_, ⟨hos, htp, hou, by omega, fun r hr => ?_⟩, fun j _ => m.same_refl j, by rw [upd_length]; exact Nat.le_refl _, fun j bj bj' hj hj' => ?_, fun j bj hj hbj => ?_⟩
  rotate_left 2
  · obtain ⟨b0, h0, e0⟩ := key j bj' hj'
    rw [hj] at h0; obtain rfl := Option.some.inj h0
    by_cases hji : j = i
    · subst hji; rw [if_pos rfl] at e0; subst e0; rw [hb] at hj; obtain rfl := Option.some.inj hj; exact ⟨hcl, hpr⟩
    · obtain ⟨f1, f2, f3, _⟩ := low j bj bj' hji hj e0
      exact ⟨f1, f3⟩
  · have := (List.getElem?_eq_some_iff.mp hbj).1
    rw [upd_length] at this; omega
  · rw [hD]
    refine ⟨?_, ?_, ?_, ?_, ?_, ?_, ?_, ?_, ?_⟩
    · intro j bj hj hbj
      obtain ⟨b0, h0, e⟩ := key j bj hbj
      by_cases hji : j = i
      · subst hji
        rw [if_pos rfl] at e; subst e
        rw [hb] at h0; obtain rfl := Option.some.inj h0
        obtain ⟨cs0, el0, fz0, g1, g2, g3, g4, g5, g6⟩ := H.blk j b hj hb
        rw [hw] at g1
        obtain ⟨rfl, rfl, rfl⟩ : cs = cs0 ∧ el = el0 ∧ fz = fz0 := by simpa using g1
        exact ⟨cs', el, fz, hw', by omega, by rw [hes]; exact g3, by omega, hrel, by rw [hpr]; exact g6⟩
      · obtain ⟨f1, f2, f3, f4, ⟨n, f5⟩, f6⟩ := low j b0 bj hji h0 e
        obtain ⟨cs0, el0, fz0, g1, g2, g3, g4, g5, g6⟩ := H.blk j b0 hj h0
        by_cases hr : m.b j = m.b i
        · have hc : b0.cl = b'.cl := by rw [hcl]; exact H.cls j i b0 b hj hi h0 hb hr
          rw [hr, hw] at g1
          obtain ⟨rfl, rfl, rfl⟩ : cs = cs0 ∧ el = el0 ∧ fz = fz0 := by simpa using g1
          refine ⟨cs', el, fz, by rw [hr]; exact hw', by omega, by rw [f2]; exact g3, by rw [f5]; simp only [List.length_take]; omega, fun k v hv => ?_, by rw [f3]; exact g6⟩
          rw [f6 hc, List.getElem?_take] at hv
          split at hv
          · rename_i hk
            rw [hlow k hk]; exact g5 k v hv
          · simp at hv
        · refine ⟨cs0, el0, fz0, by rw [hoth _ hr]; exact g1, g2, by rw [f2]; exact g3, by rw [f5]; simp only [List.length_take]; omega, fun k v hv => ?_, by rw [f3]; exact g6⟩
          rw [f5, List.getElem?_take] at hv
          split at hv
          · exact g5 k v hv
          · simp at hv
    · intro j hj
      obtain ⟨b0, h0⟩ := H.dom j hj
      exact ⟨_, by rw [upd_get, h0]; rfl⟩
    · intro j k bj bk hj hk hbj hbk he
      obtain ⟨b0, h0, e0⟩ := key j bj hbj
      obtain ⟨b1, h1, e1⟩ := key k bk hbk
      have c0 : bj.cl = b0.cl := by
        by_cases hji : j = i
        · subst hji; rw [if_pos rfl] at e0; subst e0; rw [hb] at h0; obtain rfl := Option.some.inj h0; exact hcl
        · exact (low j b0 bj hji h0 e0).1
      have c1 : bk.cl = b1.cl := by
        by_cases hji : k = i
        · subst hji; rw [if_pos rfl] at e1; subst e1; rw [hb] at h1; obtain rfl := Option.some.inj h1; exact hcl
        · exact (low k b1 bk hji h1 e1).1
      rw [c0, c1]; exact H.cls j k b0 b1 hj hk h0 h1 he
    · intro j bj q hj hbj hq
      obtain ⟨b0, h0, e0⟩ := key j bj hbj
      by_cases hji : j = i
      · subst hji; rw [if_pos rfl] at e0; subst e0; rw [hpr] at hq; exact H.rts j b q hj hb hq
      · exact H.rts j b0 q hj h0 (by rw [← (low j b0 bj hji h0 e0).2.2.1]; exact hq)
    · intro j bj hj hbj hl
      obtain ⟨b0, h0, e0⟩ := key j bj hbj
      by_cases hji : j = i
      · subst hji; rw [if_pos rfl] at e0; subst e0; exact hflat hl
      · obtain ⟨f1, f2, f3, f4, ⟨n, f5⟩, f6⟩ := low j b0 bj hji h0 e0
        have := H.flat j b0 hj h0 (by rw [← f4]; exact hl)
        rw [f5]; exact List.eq_nil_iff_forall_not_mem.mpr fun x hx => by have := mem_take _ _ _ hx; simp_all
    · intro j bj hj hbj k hk
      obtain ⟨b0, h0, e0⟩ := key j bj hbj
      by_cases hji : j = i
      · subst hji; rw [if_pos rfl] at e0; subst e0; exact hids k hk
      · obtain ⟨f1, f2, f3, f4, ⟨n, f5⟩, f6⟩ := low j b0 bj hji h0 e0
        rw [f5] at hk; exact H.ids j b0 hj h0 k (mem_take _ _ _ hk)
    · intro r hr; exact H.fresh r (by omega)
    · intro j bj hj hbj
      obtain ⟨b0, h0, e0⟩ := key j bj hbj
      have := H.clb j b0 hj h0
      rw [upd_length]
      by_cases hji : j = i
      · subst hji; rw [if_pos rfl] at e0; subst e0; rw [hb] at h0; obtain rfl := Option.some.inj h0; omega
      · rw [(low j b0 bj hji h0 e0).1]; exact this
    · intro j bj hj hbj
      obtain ⟨b0, h0, e0⟩ := key j bj hbj
      by_cases hji : j = i
      · subst hji; rw [if_pos rfl] at e0; subst e0; exact hatm
      · obtain ⟨f1, f2, f3, f4, ⟨n, f5⟩, f6⟩ := low j b0 bj hji h0 e0
        intro hps
        rw [f2] at hps
        have := H.atm j b0 hj h0 hps
        rw [f5]
        rw [List.all_eq_true] at this ⊢
        exact fun x hx => this x (List.mem_of_mem_take hx)
  · by_cases hri : r = m.b i
    · subst hri
      refine .inr ⟨cs, cs', el, fz, hw, hw', hs, fun k hk => hlow k ?_⟩
      by_cases hko : k < o
      · exact hko
      · exact absurd (H.rts i b p hi hb hp k (by omega)) hk
    · exact .inl (hoth r hri).symm
end
end Go.Proofs.Ytokoboflpaklaaa.Mi
namespace Go.Proofs.Ytokoboflpaklaaa.Mi
open Go

theorem addr_add (r o n : Nat) : (⟨r, o, none⟩ : Addr).add n = ⟨r, o + n, none⟩ := by
  unfold Addr.add; split
  · subst_vars; rfl
  · rfl

section
variable {P : Program} {W : World} {r off : Nat} {cs : Array Value} {el : TypeId} {fz : Nat × Nat}

theorem cell_at (hw : W.heap[r]? = some (.cells cs el fz)) (o : Nat) : W.cell? ⟨r, o, none⟩ = cs[o]? := by
  simp [World.cell?, hw]

theorem run_loadCellsFrom (hw : W.heap[r]? = some (.cells cs el fz)) : ∀ (n i : Nat) (acc : Array Value), off + i + n ≤ cs.size →
    (loadCellsFrom ⟨r, off, none⟩ i n acc).run P W = .ok (acc ++ cs.extract (off + i) (off + i + n)) W
  | 0, i, acc, _ => by
    simp [loadCellsFrom]; omega
  | n + 1, i, acc, h => by
    have hlt : off + i < cs.size := by omega
    simp only [loadCellsFrom, addr_add, Sem.run_bind, run_load, cell_at hw, Array.getElem?_eq_getElem hlt, Result.andThen_ok]
    rw [run_loadCellsFrom hw n (i + 1) _ (by omega)]
    congr 1
    apply Array.ext'
    simp only [Array.toList_append, Array.toList_push, Array.toList_extract, List.append_assoc, List.extract_eq_take_drop]
    congr 1
    rw [show off + i + (n + 1) - (off + i) = n + 1 by omega, show off + (i + 1) + n - (off + (i + 1)) = n by omega]
    have hl : off + i < cs.toList.length := by simpa using hlt
    rw [List.drop_eq_getElem_cons hl, List.take_succ_cons]
    rfl

theorem run_loadCells (hw : W.heap[r]? = some (.cells cs el fz)) {n : Nat} (h : off + n ≤ cs.size) :
    (loadCells ⟨r, off, none⟩ n).run P W = .ok (cs.extract off (off + n)) W := by
  unfold loadCells
  rw [run_loadCellsFrom hw n 0 #[] (by omega)]
  simp

def splice (l : List Value) (o : Nat) (vs : List Value) : List Value := l.take o ++ vs ++ l.drop (o + vs.length)

theorem splice_length {l : List Value} {o : Nat} {vs : List Value} (h : o + vs.length ≤ l.length) : (splice l o vs).length = l.length := by
  simp only [splice, List.length_append, List.length_take, List.length_drop]; omega

theorem run_storeCells : ∀ (vs : List Value) (i : Nat) (W : World) (cs : Array Value), W.heap[r]? = some (.cells cs el (0, 0)) → off + i + vs.length ≤ cs.size → (∀ v ∈ vs, v.oneCell' = true) →
    ∃ W', (storeCells ⟨r, off, none⟩ vs i).run P W = .ok () W' ∧ W'.heap[r]? = some (.cells (splice cs.toList (off + i) vs).toArray el (0, 0)) ∧
      (∀ k, k ≠ r → W'.heap[k]? = W.heap[k]?) ∧ W'.heap.size = W.heap.size ∧ W'.os = W.os ∧ W'.tape = W.tape ∧ W'.output = W.output
  | [], i, W, cs, hw, _, _ => ⟨W, by simp [storeCells], by rw [hw]; simp [splice], fun _ _ => rfl, rfl, rfl, rfl, rfl⟩
  | v :: vs, i, W, cs, hw, h, ho => by
    simp only [List.length_cons] at h
    have hlt : off + i < cs.size := by omega
    have hcell : W.cell? ⟨r, off + i, none⟩ = some cs[off + i] := by rw [cell_at hw]; exact Array.getElem?_eq_getElem hlt
    have hfz : W.frozen? ⟨r, off + i, none⟩ = false := by simp [World.frozen?, hw]
    have hw1 : (W.setCell ⟨r, off + i, none⟩ v).heap[r]? = some (.cells (cs.setIfInBounds (off + i) v) el (0, 0)) := by
      simp [World.setCell, Array.getElem?_modify, hw]
    obtain ⟨W', e1, e2, e3, e4, e5, e6, e7⟩ := run_storeCells vs (i + 1) (W.setCell ⟨r, off + i, none⟩ v) (cs.setIfInBounds (off + i) v) hw1 (by simp; omega) fun x hx => ho x (List.mem_cons_of_mem _ hx)
    refine ⟨W', ?_, ?_, fun k hk => (e3 k hk).trans ?_, e4.trans (by simp [World.setCell]), e5, e6, e7⟩
    · simp only [storeCells, addr_add, Sem.run_bind]
      rw [run_store P W _ v .plain (ho v List.mem_cons_self), hcell]
      simp only [hfz, Bool.false_eq_true, if_false, Result.andThen_ok]
      exact e1
    · rw [e2]
      congr 2
      apply congrArg
      simp only [splice, Array.toList_setIfInBounds, List.length_cons]
      have hl : off + i < cs.toList.length := by simpa using hlt
      rw [show off + (i + 1) = off + i + 1 by omega, List.take_succ_eq_append_getElem (by simpa using hl), List.take_set_of_le (Nat.le_refl _), List.getElem_set_self, List.drop_set_of_lt (by omega)]
      simp only [List.append_assoc, List.cons_append, List.nil_append]
      rw [show off + i + 1 + vs.length = off + i + (vs.length + 1) by omega]
    · simp only [World.setCell, Array.getElem?_modify]
      rw [if_neg (by omega)]
end

section
variable {P : Program} {W : World}
theorem run_under {t : TypeId} {d : TypeDesc} (h : P.underlying t = some d) : (underlying t).run P W = .ok d W := by
  simp [underlying, h]
theorem run_info {t : TypeId} {i : TypeInfo} (h : P.info? t = some i) : (typeInfo t).run P W = .ok i W := by
  simp [typeInfo, h]
theorem run_size {t : TypeId} {n : Nat} (h : sizeT P t = some n) : (Go.sizeOf t).run P W = .ok n W := by
  unfold sizeT at h
  cases hi : P.info? t with
  | none => rw [hi] at h; simp at h
  | some i => rw [hi] at h; simp at h; simp [Go.sizeOf, run_info hi, h]
theorem run_zero {t : TypeId} {i : TypeInfo} {z : Value} (h : P.info? t = some i) (hz : i.zero = some z) : (zeroValue t).run P W = .ok z W := by
  simp [zeroValue, run_info h, hz]
theorem run_isAgg {t : TypeId} {d : TypeDesc} (h : P.underlying t = some d) : (isAgg t).run P W = .ok (isAggD d) W := by
  simp only [isAgg, Sem.run_bind, run_under h, Result.andThen_ok]
  cases d <;> rfl
end

section
variable {C : Cx} {R : Nat → Nat → Prop} {m : Mp} {D : Nat → Prop} {e : Env} {h : Heap} {A : List Ans} {K : V → Heap → List Ans → Prop} {W : World} {a : Act} {Cl : Calls'}
  {dst : Option Tmp} {ty : TypeId} {pos : String} {aft : Array Edge} {gd : Option (Nat × Bool)}

/-- What is to be shown of each operation. -/
def Goal (C : Cx) (R : Nat → Nat → Prop) (m : Mp) (D : Nat → Prop) (h : Heap) (W : World) (a : Act) (o : Oper) (K : V → Heap → List Ans → Prop) : Prop :=
  ∃ r h' A', K r h' A' ∧ OKop C R m D h W a o r h'

theorem s_mov {x : Operand} {x' : X} {op : Op} (hop : op = .move x ∨ op = .assign x) (hx : cX C x = some x') (hE : ER C.ρ m D e a (fun t => .tmp t ∈ op.operands)) (hI : Inv C.ρ R m D h W)
    (hk : opK Cl (.mov x') e h A K) : Goal C R m D h W a ⟨dst, op, ty, pos, aft, gd⟩ K := by
  simp only [opK] at hk
  split at hk
  · rename_i v hv
    obtain ⟨h1, h2⟩ := ev_ok hx hv hE (by rintro t rfl; rcases hop with rfl | rfl <;> simp [Op.operands])
    refine ⟨v, h, A, hk, OKop.pure hI ?_ h1 h2⟩
    rcases hop with rfl | rfl <;> simp [execOp]
  · exact hk.elim

theorem s_pick {c x y : Operand} {c' x' y' : X} (hc : cX C c = some c') (hx : cX C x = some x') (hy : cX C y = some y') (hE : ER C.ρ m D e a (fun t => .tmp t ∈ (Op.pick c x y).operands)) (hI : Inv C.ρ R m D h W)
    (hk : opK Cl (.pick c' x' y') e h A K) : Goal C R m D h W a ⟨dst, .pick c x y, ty, pos, aft, gd⟩ K := by
  simp only [opK] at hk
  split at hk
  · rename_i hv
    split at hk
    · rename_i v hx'
      obtain ⟨h1, h2⟩ := ev_ok hx hx' hE (by rintro t rfl; simp [Op.operands])
      obtain ⟨h3, _⟩ := ev_ok hc hv hE (by rintro t rfl; simp [Op.operands])
      simp only [VR] at h3
      exact ⟨v, h, A, hk, OKop.pure hI (by simp [execOp, h3, asBool]) h1 h2⟩
    · exact hk.elim
  · rename_i hv
    split at hk
    · rename_i v hx'
      obtain ⟨h1, h2⟩ := ev_ok hy hx' hE (by rintro t rfl; simp [Op.operands])
      obtain ⟨h3, _⟩ := ev_ok hc hv hE (by rintro t rfl; simp [Op.operands])
      simp only [VR] at h3
      exact ⟨v, h, A, hk, OKop.pure hI (by simp [execOp, h3, asBool]) h1 h2⟩
    · exact hk.elim
  · exact hk.elim

theorem zeroT_ok {t : TypeId} {z : List V} (h : zeroT C.P t = some z) : ∃ i zv, C.P.info? t = some i ∧ i.zero = some zv ∧ (∀ m, VRL C.ρ m z zv.cells.toList) ∧ V.idsL z = [] ∧ z.all V.atom = true := by
  unfold zeroT at h
  split at h
  · rename_i i hi
    split at h
    · rename_i zv hz
      exact ⟨i, zv, hi, hz, fun m => (cAL_ok h).1, (cAL_ok (ρ := C.ρ) (m := ⟨id, id, id⟩) h).2, cAL_atom h⟩
    · simp at h
  · simp at h

theorem s_alloc {t : TypeId} {z : List V} (hz : zeroT C.P t = some z) (hI : Inv C.ρ R m D h W) (hk : opK Cl (.alloc z) e h A K) :
    Goal C R m D h W a ⟨dst, .alloc t, ty, pos, aft, gd⟩ K := by
  obtain ⟨i, zv, h1, h2, h3, h4, h5⟩ := zeroT_ok hz
  refine ⟨_, _, A, hk, OKop.val (u := .pointer (some ⟨W.heap.size, 0, none⟩)) ?_ ((hI.allocV (el := t) (b := ⟨z, 1, h.length, some 0, true⟩) (h3 m) (by simp [h4]) (Nat.le_refl _) (fun _ => h4) h5).post ?_ ?_)⟩
  · simp [execOp, Instr.alloc, run_zero h1 h2, newVar, newRow]
  · simp [VR, Mp.ext]
  · simp [V.ids]

theorem V.notAny {v : V} (h : v.cells.all V.atom = true) : v.isAny = false := by
  cases v <;> simp_all [V.cells, V.atom, V.isAny]
theorem VR.cells {v : V} {u : Value} (h : VR C.ρ m v u) (hna : v.isAny = false) : VRL C.ρ m v.cells u.cells.toList := by
  cases v with
  | agg cs => simp only [VR] at h; obtain ⟨a, rfl, h⟩ := h; exact h
  | sl i o n =>
    have : u.cells = #[u] := by
      simp only [VR] at h
      rcases h with ⟨_, rfl, _⟩ | ⟨_, _, rfl⟩ <;> rfl
    rw [this]
    exact VRL.cons h (by simp [VRL])
  | any => simp [V.isAny] at hna
  | _ =>
    have : u.cells = #[u] := by
      simp only [VR] at h
      first
        | (subst h; rfl)
        | (obtain ⟨_, rfl, _⟩ := h; rfl)
        | (obtain ⟨_, rfl⟩ := h; rfl)
    rw [this]
    exact VRL.cons h (by simp [VRL])

theorem V.ids_cells (v : V) : ∀ i ∈ V.idsL v.cells, i ∈ v.ids := by
  cases v <;> simp [V.cells, V.idsL, V.ids]

theorem s_box {t : TypeId} {x : Operand} {x' : X} (hx : cX C x = some x') (hE : ER C.ρ m D e a (fun t' => .tmp t' ∈ (Op.box t x).operands)) (hI : Inv C.ρ R m D h W) (hk : opK Cl (.box x') e h A K) :
    Goal C R m D h W a ⟨dst, .box t x, ty, pos, aft, gd⟩ K := by
  simp only [opK] at hk
  split at hk
  · rename_i v hv
    obtain ⟨h1, h2⟩ := ev_ok hx hv hE (by rintro t rfl; simp [Op.operands])
    refine ⟨_, _, A, hk.2, OKop.val (u := .pointer (some ⟨W.heap.size, 0, none⟩)) ?_ ((hI.allocV (el := t) (b := ⟨v.cells, 1, h.length, some 0, true⟩) (VR.cells h1 (V.notAny hk.1)) (fun i hi => h2 i (V.ids_cells v i hi)) (Nat.le_refl _) (by simp) hk.1).post ?_ ?_)⟩
    · simp [execOp, Instr.box, newVar, newRow]
    · simp [VR, Mp.ext]
    · simp [V.ids]
  · exact hk.elim

theorem layT_ok {t : TypeId} {n : Option Nat} (h : layT C.P t = some n) : ∃ d i, C.P.underlying t = some d ∧ C.P.info? t = some i ∧ n = if isAggD d then some i.size else none := by
  unfold layT at h
  split at h
  · rename_i d i hd hi
    exact ⟨d, i, hd, hi, (Option.some.inj h).symm⟩
  · simp at h

/-- A row of cells behind an address. -/
theorem row_ok (hI : Inv C.ρ R m D h W) {i o n : Nat} {b : Blk} (hi : D i) (hb : h[i]? = some b) (hn : o + n ≤ b.c.length) {cs : Array Value} {el : TypeId} {fz : Nat × Nat}
    (hw : W.heap[m.b i]? = some (.cells cs el fz)) : o + n ≤ cs.size ∧ VRL C.ρ m ((b.c.drop o).take n) (cs.extract o (o + n)).toList := by
  obtain ⟨cs0, el0, fz0, g1, g2, g3, g4, g5, g6⟩ := hI.blk i b hi hb
  rw [hw] at g1
  obtain ⟨rfl, rfl, rfl⟩ : cs = cs0 ∧ el = el0 ∧ fz = fz0 := by simpa using g1
  refine ⟨by omega, VRL.of_get (by simp; omega) fun j x hx => ?_⟩
  rw [List.getElem?_take] at hx
  split at hx
  · rename_i hj
    rw [List.getElem?_drop] at hx
    obtain ⟨u, hu, hr⟩ := g5 _ _ hx
    refine ⟨u, ?_, hr⟩
    rw [Array.getElem?_toList, Array.getElem?_extract, if_pos (by omega)]
    exact hu
  · simp at hx

theorem s_load {t : TypeId} {x : Operand} {x' : X} {n : Option Nat} (hn : layT C.P t = some n) (hx : cX C x = some x') (hE : ER C.ρ m D e a (fun t' => .tmp t' ∈ (Op.load t x).operands)) (hI : Inv C.ρ R m D h W)
    (hk : opK Cl (.load n x') e h A K) : Goal C R m D h W a ⟨dst, .load t x, ty, pos, aft, gd⟩ K := by
  obtain ⟨d, ti, hd, hti, rfl⟩ := layT_ok hn
  simp only [opK] at hk
  split at hk
  · rename_i i o hv
    obtain ⟨h1, h2⟩ := ev_ok hx hv hE (by rintro t rfl; simp [Op.operands])
    have hi : D i := h2 i (by simp [V.ids])
    simp only [VR] at h1
    split at hk
    · rename_i b hb
      obtain ⟨cs, el, fz, g1, g2, g3, g4, g5, g6⟩ := hI.blk i b hi hb
      have one : ∀ v, b.c[o]? = some v → isAggD d = false → OKop C R m D h W a ⟨dst, .load t x, ty, pos, aft, gd⟩ v h := by
        intro v hv hag
        obtain ⟨u, hu, hr⟩ := g5 o v hv
        refine OKop.pure (u := u) hI ?_ hr (fun k hk => hI.ids i b hi hb k (V.mem_idsL.mpr ⟨v, List.mem_of_getElem? hv, hk⟩))
        simp [execOp, Instr.loadAt, h1, Instr.sureAddr, loadVar, run_isAgg hd, hag, cell_at g1, hu]
      have many : ∀ (n : Nat), isAggD d = true → n = ti.size → o + n ≤ b.c.length → OKop C R m D h W a ⟨dst, .load t x, ty, pos, aft, gd⟩ (.agg ((b.c.drop o).take n)) h := by
        rintro n hag rfl hle
        obtain ⟨q1, q2⟩ := row_ok hI hi hb hle g1
        refine OKop.pure (u := .agg (cs.extract o (o + ti.size))) hI ?_ (by simp only [VR]; exact ⟨_, rfl, q2⟩) fun k hk => ?_
        · simp [execOp, Instr.loadAt, h1, Instr.sureAddr, loadVar, run_isAgg hd, hag, run_size (n := ti.size) (show sizeT C.P t = _ by simp [sizeT, hti]), run_loadCells g1 q1]
        · simp only [V.ids] at hk
          obtain ⟨v, hv, hm⟩ := V.mem_idsL.mp hk
          exact hI.ids i b hi hb k (V.mem_idsL.mpr ⟨v, List.mem_of_mem_drop (List.mem_of_mem_take hv), hm⟩)
      split at hk
      · split at hk
        · rename_i hnone
          split at hk
          · rename_i v hv
            refine ⟨v, h, A, hk, one v hv ?_⟩
            by_cases hag : isAggD d = true
            · simp [hag] at hnone
            · simpa using hag
          · exact hk.elim
        · rename_i n hsome
          obtain ⟨hle, hk⟩ := hk
          by_cases hag : isAggD d = true
          · simp [hag] at hsome
            exact ⟨_, h, A, hk, many n hag hsome.symm hle⟩
          · simp [hag] at hsome
      · split at hk
        · rename_i l A'
          split at hk
          · rename_i hnone
            split at hk
            · rename_i v
              obtain ⟨hv, hk⟩ := hk
              refine ⟨v, h, A', hk, one v hv ?_⟩
              by_cases hag : isAggD d = true
              · simp [hag] at hnone
              · simpa using hag
            · exact hk.elim
          · rename_i n hsome
            obtain ⟨⟨hl, hle, hv⟩, hk⟩ := hk
            by_cases hag : isAggD d = true
            · simp [hag] at hsome
              subst hv
              exact ⟨_, h, A', hk, many n hag hsome.symm hle⟩
            · simp [hag] at hsome
        · exact hk.elim
    · exact hk.elim
  · exact hk.elim
end
end Go.Proofs.Ytokoboflpaklaaa.Mi
namespace Go.Proofs.Ytokoboflpaklaaa.Mi
open Go

section
variable {P : Program} {W : World}

theorem run_listMapM {α β : Type} {f : α → Sem β} {g : α → Option β} : ∀ {l : List α} {r : List β}, mapO g l = some r → (∀ x ∈ l, ∀ y, g x = some y → (f x).run P W = .ok y W) →
    (l.mapM f).run P W = .ok r W
  | [], r, h, _ => by simp [mapO] at h; subst h; simp
  | x :: l, r, h, hf => by
    simp only [mapO] at h
    split at h
    · rename_i b hb
      split at h
      · rename_i bs hbs
        obtain rfl := Option.some.inj h
        simp only [List.mapM_cons, Sem.run_bind, hf x List.mem_cons_self b hb, Result.andThen_ok, run_listMapM hbs fun x hx => hf x (List.mem_cons_of_mem _ hx), Sem.run_pure]
      · simp at h
    · simp at h

theorem run_arrMapM {α β : Type} {f : α → Sem β} {g : α → Option β} {l : Array α} {r : List β} (h : mapO g l.toList = some r) (hf : ∀ x ∈ l.toList, ∀ y, g x = some y → (f x).run P W = .ok y W) :
    (l.mapM f).run P W = .ok r.toArray W := by
  rw [Array.mapM_eq_mapM_toList, Sem.run_map, run_listMapM h hf]; rfl

theorem fold_set (off : Nat) : ∀ (vs : List Value) (k : Nat) (cells : Array Value), off + k + vs.length ≤ cells.size →
    (vs.zipIdx k).foldl (fun cs (x : Value × Nat) => cs.setIfInBounds (off + x.2) x.1) cells = (splice cells.toList (off + k) vs).toArray
  | [], k, cells, _ => by simp [splice]
  | v :: vs, k, cells, h => by
    simp only [List.length_cons] at h
    simp only [List.zipIdx_cons, List.foldl_cons]
    rw [fold_set off vs (k + 1) _ (by simp; omega)]
    apply congrArg
    simp only [splice, Array.toList_setIfInBounds, List.length_cons]
    have hl : off + k < cells.toList.length := by simp; omega
    rw [show off + (k + 1) = off + k + 1 by omega, List.take_succ_eq_append_getElem (by simpa using hl), List.take_set_of_le (Nat.le_refl _), List.getElem_set_self, List.drop_set_of_lt (by omega)]
    simp only [List.append_assoc, List.cons_append, List.nil_append]
    rw [show off + k + 1 + vs.length = off + k + (vs.length + 1) by omega]
end

theorem PR.splice {ρ : Nat → Nat} {m : Mp} {l : List V} {cs : List Value} (h : PR ρ m l cs) {vs : List V} {us : List Value} (h' : VRL ρ m vs us) {o : Nat} (ho : o + vs.length ≤ l.length) (hl : l.length ≤ cs.length) :
    PR ρ m (l.take o ++ vs ++ l.drop (o + vs.length)) (Mi.splice cs o us) := by
  have e := h'.length
  intro j v hv
  unfold Mi.splice
  rw [e]
  by_cases h1 : j < o
  · rw [List.append_assoc, List.getElem?_append_left (by simp; omega), List.getElem?_take, if_pos h1] at hv
    rw [List.append_assoc, List.getElem?_append_left (by simp; omega), List.getElem?_take, if_pos h1]
    exact h j v hv
  · by_cases h2 : j < o + vs.length
    · rw [List.getElem?_append_left (by simp; omega), List.getElem?_append_right (by simp; omega)] at hv
      rw [List.getElem?_append_left (by simp; omega), List.getElem?_append_right (by simp; omega)]
      rw [List.length_take, Nat.min_eq_left (by omega)] at hv ⊢
      exact h'.get hv
    · rw [List.getElem?_append_right (by simp; omega), List.getElem?_drop] at hv
      rw [List.getElem?_append_right (by simp; omega), List.getElem?_drop]
      simp only [List.length_append, List.length_take] at hv ⊢
      rw [Nat.min_eq_left (by omega)] at hv ⊢
      rw [e]
      rw [show o + vs.length + (j - (o + vs.length)) = j by omega] at hv ⊢
      exact h j v hv

theorem VRL.splice {ρ : Nat → Nat} {m : Mp} {l : List V} {cs : List Value} (h : VRL ρ m l cs) {vs : List V} {us : List Value} (h' : VRL ρ m vs us) (o : Nat) :
    VRL ρ m (l.take o ++ vs ++ l.drop (o + vs.length)) (Mi.splice cs o us) := by
  unfold Mi.splice
  rw [h'.length]
  exact ((h.take o).append h').append (h.drop _)

section
variable {C : Cx} {R : Nat → Nat → Prop} {m : Mp} {D : Nat → Prop} {e : Env} {h : Heap} {A : List Ans} {K : V → Heap → List Ans → Prop} {W : World} {a : Act} {Cl : Calls'}
  {dst : Option Tmp} {ty : TypeId} {pos : String} {aft : Array Edge} {gd : Option (Nat × Bool)}

theorem fill_ok {T : Nat → Prop} {pl : Nat → Option (Nat × Nat)} (hE : ER C.ρ m D e a T) : ∀ (ps : List (Nat × Operand)) (ps' : List (Nat × Nat × X)) (vs : List (Nat × Nat × V)) (z cs : List V) (cells : Array Value),
    (∀ p ∈ ps, ∀ t, p.2 = .tmp t → T t) → ps'.length = ps.length →
    (∀ (k : Nat) (p : Nat × Operand) (q : Nat × Nat × X), ps[k]? = some p → ps'[k]? = some q → pl p.1 = some (q.1, q.2.1) ∧ cX C p.2 = some q.2.2) →
    pevs e ps' = some vs → lay z vs = some cs → VRL C.ρ m z cells.toList → (∀ i ∈ V.idsL z, D i) →
    ∃ cells', Instr.fill pl cells (ps.map fun p => (p.1, a.eval p.2)) = some cells' ∧ VRL C.ρ m cs cells'.toList ∧ ∀ i ∈ V.idsL cs, D i
  | [], ps', vs, z, cs, cells, _, hl, _, hv, hlay, hz, hzi => by
    obtain rfl : ps' = [] := List.length_eq_zero_iff.mp hl
    simp [pevs] at hv; subst hv
    simp [lay] at hlay; subst hlay
    exact ⟨cells, rfl, hz, hzi⟩
  | p :: ps, [], vs, z, cs, cells, _, hl, _, _, _, _, _ => by simp at hl
  | p :: ps, (o, n, x) :: ps', vs, z, cs, cells, hT, hl, hp, hv, hlay, hz, hzi => by
    simp only [pevs] at hv
    split at hv
    · rename_i v hx
      split at hv
      · rename_i vs' hvs
        obtain rfl := Option.some.inj hv
        simp only [lay] at hlay
        split at hlay
        · rename_i hc
          obtain ⟨p1, p2⟩ := hp 0 p (o, n, x) rfl rfl
          obtain ⟨h1, h2⟩ := ev_ok p2 hx hE (hT p List.mem_cons_self)
          have hcl := (VR.cells h1 hc.2.2).length
          have hzl := hz.length
          simp at hcl hzl
          have hfold : (a.eval p.2).cells.zipIdx.foldl (fun cs (x : Value × Nat) => cs.setIfInBounds (o + x.2) x.1) cells = (Mi.splice cells.toList o (a.eval p.2).cells.toList).toArray := by
            have := fold_set o (a.eval p.2).cells.toList 0 cells (by simp; omega)
            rw [← Array.foldl_toList, Array.toList_zipIdx]
            exact this
          have hsp := hz.splice (VR.cells h1 hc.2.2) o
          rw [hc.1] at hsp
          obtain ⟨cells', g1, g2, g3⟩ := fill_ok hE ps ps' vs' _ cs (Mi.splice cells.toList o (a.eval p.2).cells.toList).toArray (fun q hq => hT q (List.mem_cons_of_mem _ hq)) (by simpa using hl)
            (fun k q r hq hr => hp (k + 1) q r (by simpa using hq) (by simpa using hr)) hvs hlay (by simpa using hsp) (fun i hi => by
              simp only [V.idsL_append, List.mem_append] at hi
              rcases hi with (hi | hi) | hi
              · obtain ⟨w, hw, hm⟩ := V.mem_idsL.mp hi; exact hzi i (V.mem_idsL.mpr ⟨w, List.mem_of_mem_take hw, hm⟩)
              · exact h2 i (V.ids_cells v i hi)
              · obtain ⟨w, hw, hm⟩ := V.mem_idsL.mp hi; exact hzi i (V.mem_idsL.mpr ⟨w, List.mem_of_mem_drop hw, hm⟩))
          refine ⟨cells', ?_, g2, g3⟩
          simp only [List.map_cons, Instr.fill, p1]
          rw [if_neg (by simp; omega), hfold]
          exact g1
        · simp at hlay
      · simp at hv
    · simp at hv

theorem parts_ok {pl : List (Nat × Nat)} : ∀ {ps : List (Nat × Operand)} {ps' : List (Nat × Nat × X)}, parts C pl ps = some ps' →
    ps'.length = ps.length ∧ ∀ (k : Nat) (p : Nat × Operand) (q : Nat × Nat × X), ps[k]? = some p → ps'[k]? = some q → pl[p.1]? = some (q.1, q.2.1) ∧ cX C p.2 = some q.2.2
  | [], ps', hh => by simp [parts] at hh; subst hh; simp
  | (i, x) :: ps, ps', hh => by
    simp only [parts] at hh
    split at hh
    · rename_i o n x' r h1 h2 h3
      obtain rfl := Option.some.inj hh
      obtain ⟨g1, g2⟩ := parts_ok h3
      refine ⟨by simp [g1], fun k p q hp hq => ?_⟩
      cases k with
      | zero => simp at hp hq; subst hp hq; exact ⟨h1, h2⟩
      | succ k => exact g2 k p q (by simpa using hp) (by simpa using hq)
    · simp at hh

theorem s_build {t : TypeId} {ps : Array (Nat × Operand)} {z : List V} {pl : List (Nat × Nat)} {ps' : List (Nat × Nat × X)} (hz : zeroT C.P t = some z) (hf : fieldsT C.P t = some pl) (hp : parts C pl ps.toList = some ps')
    (hE : ER C.ρ m D e a (fun t' => .tmp t' ∈ (Op.build t ps).operands)) (hI : Inv C.ρ R m D h W) (hk : opK Cl (.build z ps') e h A K) : Goal C R m D h W a ⟨dst, .build t ps, ty, pos, aft, gd⟩ K := by
  obtain ⟨i, zv, z1, z2, z3, z4, _⟩ := zeroT_ok hz
  simp only [opK] at hk
  split at hk
  · rename_i vs hvs
    split at hk
    · rename_i cs hcs
      obtain ⟨q1, q2⟩ := parts_ok hp
      obtain ⟨cells', g1, g2, g3⟩ := fill_ok (pl := fun j => pl.toArray[j]?) hE ps.toList ps' vs z cs zv.cells (fun p hpm t ht => by
        simp only [Op.operands]; rw [List.mem_toArray]; exact List.mem_map.mpr ⟨p, hpm, ht⟩) q1 (fun k p q hp hq => by simpa using q2 k p q hp hq) hvs hcs (z3 m) (by simp [z4])
      refine ⟨_, h, A, hk, OKop.pure (u := .agg cells') hI ?_ (by simp only [VR]; exact ⟨_, rfl, g2⟩) (by simpa [V.ids] using g3)⟩
      unfold fieldsT at hf
      split at hf
      · rename_i fs hfs
        have hm : ((fs.mapM fun f => do pure (f.offset, ← Go.sizeOf f.type) : Sem (Array (Nat × Nat))).run C.P W) = .ok pl.toArray W := by
          refine run_arrMapM hf fun f _ y hy => ?_
          cases hs : sizeT C.P f.type with
          | none => rw [hs] at hy; simp at hy
          | some n => rw [hs] at hy; simp at hy; subst hy; simp [run_size hs]
        have hmap : (ps.map fun x => (x.1, a.eval x.2)).toList = ps.toList.map fun p => (p.1, a.eval p.2) := by simp
        simp only [execOp, Instr.build, Sem.run_bind, run_zero z1 z2, Result.andThen_ok, run_under hfs, hm, hmap, g1, Sem.run_pure]
      · simp at hf
    · exact hk.elim
  · exact hk.elim

theorem partsS_ok {n : Nat} : ∀ {ps : List (Nat × Operand)} {ps' : List (Nat × Nat × X)}, partsS C n ps = some ps' →
    ps'.length = ps.length ∧ ∀ (k : Nat) (p : Nat × Operand) (q : Nat × Nat × X), ps[k]? = some p → ps'[k]? = some q → (some (p.1 * n, n) : Option (Nat × Nat)) = some (q.1, q.2.1) ∧ cX C p.2 = some q.2.2
  | [], ps', hh => by simp [partsS] at hh; subst hh; simp
  | (i, x) :: ps, ps', hh => by
    simp only [partsS] at hh
    split at hh
    · rename_i x' r h2 h3
      obtain rfl := Option.some.inj hh
      obtain ⟨g1, g2⟩ := partsS_ok h3
      refine ⟨by simp [g1], fun k p q hp hq => ?_⟩
      cases k with
      | zero => simp at hp hq; subst hp hq; exact ⟨rfl, h2⟩
      | succ k => exact g2 k p q (by simpa using hp) (by simpa using hq)
    · simp at hh

theorem elemT_ok {t el : TypeId} (h : elemT C.P t = some el) : C.P.underlying t = some (.slice el) := by
  unfold elemT at h
  split at h
  · rename_i e' he; obtain rfl := Option.some.inj h; exact he
  · simp at h

theorem rep_get (z : List Value) (n i : Nat) (hz : 0 < z.length) (hi : i < n * z.length) : (List.replicate n z).flatten[i]? = z[i % z.length]? := by
  induction n generalizing i with
  | zero => simp at hi
  | succ n ih =>
    simp only [List.replicate_succ, List.flatten_cons]
    by_cases h1 : i < z.length
    · rw [List.getElem?_append_left h1, Nat.mod_eq_of_lt h1]
    · rw [List.getElem?_append_right (by omega), ih (i - z.length) (by rw [Nat.add_mul] at hi; omega), ← Nat.mod_eq_sub_mod (by omega)]

theorem rep_cells (z : Array Value) (n : Nat) (hz : 0 < z.size) : ((Array.range (n * z.size)).map fun i => z[i % z.size]!).toList = (List.replicate n z.toList).flatten := by
  apply List.ext_getElem?
  intro i
  have hlen : ((List.replicate n z.toList).flatten).length = n * z.size := by simp
  by_cases hi : i < n * z.size
  · rw [rep_get _ _ _ (by simpa using hz) (by simpa using hi)]
    simp only [Array.toList_map, Array.toList_range, List.getElem?_map, List.getElem?_range hi, Option.map_some, Array.length_toList, Array.getElem?_toList]
    have hm : i % z.size < z.size := Nat.mod_lt _ hz
    rw [Array.getElem?_eq_getElem hm, getElem!_pos z (i % z.size) hm]
  · rw [List.getElem?_eq_none (by simp; omega), List.getElem?_eq_none (by omega)]

theorem VRL.rep {z : List V} {cs : List Value} (hr : VRL C.ρ m z cs) : ∀ n, VRL C.ρ m (List.replicate n z).flatten (List.replicate n cs).flatten
  | 0 => by simp [VRL]
  | n + 1 => by simp only [List.replicate_succ, List.flatten_cons]; exact hr.append (VRL.rep hr n)

theorem ids_rep {z : List V} (hz : V.idsL z = []) : ∀ n, V.idsL (List.replicate n z).flatten = []
  | 0 => rfl
  | n + 1 => by simp only [List.replicate_succ, List.flatten_cons, V.idsL_append, hz, ids_rep hz n, List.append_nil]

theorem s_bslice {t el : TypeId} {n s : Nat} {ps : Array (Nat × Operand)} {z : List V} {ps' : List (Nat × Nat × X)} (he : elemT C.P t = some el) (hs : sizeT C.P el = some s) (hz : zeroT C.P el = some z)
    (hzl : z.length = s) (hs0 : 0 < s) (hlim : n * s ≤ 16777216) (hn : n ≠ 0) (hp : partsS C s ps.toList = some ps')
    (hE : ER C.ρ m D e a (fun t' => .tmp t' ∈ (Op.buildSlice t n ps).operands)) (hI : Inv C.ρ R m D h W) (hk : opK Cl (.bslice s (List.replicate n z).flatten n ps') e h A K) :
    Goal C R m D h W a ⟨dst, .buildSlice t n ps, ty, pos, aft, gd⟩ K := by
  obtain ⟨i, zv, z1, z2, z3, z4, _⟩ := zeroT_ok hz
  have hzs : zv.cells.size = s := by have := (z3 m).length; simp at this; omega
  simp only [opK] at hk
  split at hk
  · rename_i vs hvs
    split at hk
    · rename_i cs hcs
      obtain ⟨q1, q2⟩ := partsS_ok hp
      have hz0 : VRL C.ρ m (List.replicate n z).flatten ((Array.range (n * s)).map fun i => zv.cells[i % zv.cells.size]!).toList := by
        have := rep_cells zv.cells n (by omega)
        rw [hzs] at this ⊢
        rw [this]; exact VRL.rep (z3 m) n
      obtain ⟨cells', g1, g2, g3⟩ := fill_ok (pl := fun j => some (j * s, s)) hE ps.toList ps' vs _ cs _ (fun p hpm t ht => by
        simp only [Op.operands]; rw [List.mem_toArray]; exact List.mem_map.mpr ⟨p, hpm, ht⟩) q1 q2 hvs hcs hz0 (by simp [ids_rep z4])
      have hlen : ∀ (vs : List (Nat × Nat × V)) (z cs : List V), lay z vs = some cs → cs.length = z.length := by
        intro vs
        induction vs with
        | nil => intro z cs h; simp [lay] at h; rw [h]
        | cons x vs ih =>
          intro z cs h
          obtain ⟨o, k, v⟩ := x
          simp only [lay] at h
          split at h
          · rename_i hc
            rw [ih _ _ h]; simp; omega
          · simp at h
      have hcl : cells'.size = n * s := by
        have e1 := g2.length
        have e2 := hlen _ _ _ hcs
        simp at e1 e2
        rw [e1, e2, hzl]
      refine ⟨_, _, A, hk.2, OKop.val (u := .slice (some ⟨W.heap.size, 0, none⟩) n n) ?_ ((hI.allocV (el := el) (b := ⟨cs, s, h.length, some 0, true⟩) g2 g3 (Nat.le_refl _) (by simp) hk.1).post ?_ (by simp [V.ids]))⟩
      · have hmap : (ps.map fun x => (x.1, a.eval x.2)).toList = ps.toList.map fun p => (p.1, a.eval p.2) := by simp
        have hne : ¬ n * s = 0 := Nat.mul_ne_zero hn (by omega)
        simp only [execOp, Instr.buildSlice, Sem.run_bind, run_under (elemT_ok he), Result.andThen_ok, run_size hs]
        rw [if_neg (by omega)]
        simp only [Sem.run_bind, Sem.run_pure, Result.andThen_ok, hne, if_false, run_zero z1 z2, hmap, g1, newRow, run_newObj]
      · simp only [VR, Mp.ext, if_true]
        exact .inl ⟨n, rfl, Nat.le_refl _, by omega⟩
    · exact hk.elim
  · exact hk.elim
end
end Go.Proofs.Ytokoboflpaklaaa.Mi
namespace Go.Proofs.Ytokoboflpaklaaa.Mi
open Go

section
variable {C : Cx} {R : Nat → Nat → Prop} {m : Mp} {D : Nat → Prop} {e : Env} {h : Heap} {A : List Ans} {K : V → Heap → List Ans → Prop} {W : World} {a : Act} {Cl : Calls'}
  {dst : Option Tmp} {ty : TypeId} {pos : String} {aft : Array Edge} {gd : Option (Nat × Bool)}

theorem VR.oneCell {v : V} {u : Value} (hr : VR C.ρ m v u) (ha : v.atom = true) : u.oneCell' = true := by
  cases v <;> simp only [V.atom, Bool.false_eq_true] at ha <;> simp only [VR] at hr <;>
    first
      | (subst hr; rfl)
      | (rcases hr with ⟨_, rfl, _⟩ | ⟨_, _, rfl⟩ <;> rfl)
      | (obtain ⟨_, rfl, _⟩ := hr; rfl)
      | (obtain ⟨_, rfl⟩ := hr; rfl)

theorem flatL_ids : ∀ {l : List V}, flatL l = true → V.idsL l = []
  | [], _ => rfl
  | v :: vs, hf => by
    simp only [flatL, Bool.and_eq_true, List.isEmpty_iff] at hf
    simp only [V.idsL, hf.1.2, flatL_ids hf.2, List.append_nil]

theorem mem_take_ids {l : List V} {n j : Nat} (hj : j ∈ V.idsL (l.take n)) : j ∈ V.idsL l := by
  obtain ⟨v, hv, hm⟩ := V.mem_idsL.mp hj
  exact V.mem_idsL.mpr ⟨v, List.mem_of_mem_take hv, hm⟩
theorem mem_drop_ids {l : List V} {n j : Nat} (hj : j ∈ V.idsL (l.drop n)) : j ∈ V.idsL l := by
  obtain ⟨v, hv, hm⟩ := V.mem_idsL.mp hj
  exact V.mem_idsL.mpr ⟨v, List.mem_of_mem_drop hv, hm⟩

/-- A row of cells is written at o. -/
theorem write_ok (hI : Inv C.ρ R m D h W) {i o p : Nat} {b : Blk} (hi : D i) (hb : h[i]? = some b) (hp : b.pr = some p) (hpo : p ≤ o) {vs : List V} {us : List Value} (hvs : VRL C.ρ m vs us)
    (hat : ∀ u ∈ us, u.oneCell' = true) (hle : o + vs.length ≤ b.c.length) (hid : ∀ j ∈ V.idsL vs, D j) {l : List V} (hl : b.c.take o ++ vs ++ b.c.drop (o + vs.length) = l)
    (hfl : b.lit = false → V.idsL vs = []) (hva : vs.all V.atom = true) :
    ∃ W', (storeCells ⟨m.b i, o, none⟩ us).run C.P W = .ok () W' ∧ Post0 C.ρ R m D h W (upd { b with c := l } i o 0 h) W' m := by
  obtain ⟨cs, el, fz, g1, g2, g3, g4, g5, g6⟩ := hI.blk i b hi hb
  obtain rfl := g6 (by simp [hp])
  have hul := hvs.length
  obtain ⟨W', w1, w2, w3, w4, w5, w6, w7⟩ := run_storeCells (P := C.P) (off := o) us 0 W cs g1 (by omega) hat
  refine ⟨W', w1, hI.write hi hb hp hpo g1 w2 w3 w4 w5 w6 w7 ?_ ?_ rfl rfl rfl ?_ ?_ ?_ ?_ ?_⟩
  · simp only [List.size_toArray, Nat.add_zero]; rw [splice_length (by simp; omega)]; simp
  · intro k hk
    simp only [List.getElem?_toArray, Nat.add_zero, splice]
    rw [List.append_assoc, List.getElem?_append_left (by simp; omega), List.getElem?_take, if_pos hk]; simp
  · show l.length ≤ _
    rw [← hl]; simp; omega
  · intro j v hv
    have hPR : PR C.ρ m b.c cs.toList := fun j v hv => by simpa using g5 j v hv
    have := hPR.splice hvs hle (by simpa using g4)
    rw [hl] at this
    simpa using this j v hv
  · intro hlit
    have h0 := hI.flat i b hi hb hlit
    have hf := hfl hlit
    apply List.eq_nil_iff_forall_not_mem.mpr
    intro x hx
    have hx : x ∈ V.idsL l := hx
    rw [← hl] at hx
    simp only [V.idsL_append, List.mem_append] at hx
    rcases hx with (hx | hx) | hx
    · have := mem_take_ids hx; rw [h0] at this; simp at this
    · rw [hf] at hx; simp at hx
    · have := mem_drop_ids hx; rw [h0] at this; simp at this
  · intro x hx
    have hx : x ∈ V.idsL l := hx
    rw [← hl] at hx
    simp only [V.idsL_append, List.mem_append] at hx
    rcases hx with (hx | hx) | hx
    · exact hI.ids i b hi hb x (mem_take_ids hx)
    · exact hid x hx
    · exact hI.ids i b hi hb x (mem_drop_ids hx)
  · intro hes
    have h0 := hI.atm i b hi hb hes
    show l.all V.atom = true
    rw [← hl]
    simp only [List.all_append, Bool.and_eq_true]
    rw [List.all_eq_true] at h0
    exact ⟨⟨List.all_eq_true.mpr fun x hx => h0 x (List.mem_of_mem_take hx), hva⟩, List.all_eq_true.mpr fun x hx => h0 x (List.mem_of_mem_drop hx)⟩

theorem s_store {t : TypeId} {n : Nat} {x y : Operand} {x' y' : X} (hs : sizeT C.P t = some n) (hx : cX C x = some x') (hy : cX C y = some y')
    (hE : ER C.ρ m D e a (fun t' => .tmp t' ∈ (Op.store t x y).operands)) (hI : Inv C.ρ R m D h W) (hk : opK Cl (.store n x' y') e h A K) : Goal C R m D h W a ⟨dst, .store t x y, ty, pos, aft, gd⟩ K := by
  simp only [opK] at hk
  split at hk
  · rename_i i o hv
    obtain ⟨h1, h2⟩ := ev_ok hx hv hE (by rintro t rfl; simp [Op.operands])
    have hi : D i := h2 i (by simp [V.ids])
    simp only [VR] at h1
    split at hk
    · rename_i v hv
      obtain ⟨h3, h4⟩ := ev_ok hy hv hE (by rintro t rfl; simp [Op.operands])
      split at hk
      · rename_i b hb
        split at hk
        · rename_i p hp
          obtain ⟨⟨c1, c2, c3, c4⟩, hk⟩ := hk
          have hcl := (VR.cells h3 (V.notAny c2)).length
          have fin : ∀ l A', K .undef (upd { b with c := l } i o 0 h) A' → b.c.take o ++ v.cells ++ b.c.drop (o + n) = l → (b.lit = false → V.idsL v.cells = []) →
              Goal C R m D h W a ⟨dst, .store t x y, ty, pos, aft, gd⟩ K := by
            intro l A' hK hl hfl
            obtain ⟨W', w1, w2⟩ := write_ok hI hi hb hp c3 (VR.cells h3 (V.notAny c2)) (fun u hu => by
              obtain ⟨k, hk⟩ := List.getElem?_of_mem hu
              have hkl : k < v.cells.length := by rw [← hcl]; exact (List.getElem?_eq_some_iff.mp hk).1
              obtain ⟨u', hu', hr⟩ := (VR.cells h3 (V.notAny c2)).get (List.getElem?_eq_getElem hkl)
              rw [hk] at hu'; obtain rfl := Option.some.inj hu'
              exact hr.oneCell (List.all_eq_true.mp c2 _ (List.getElem_mem hkl))) (by omega) (fun j hj => h4 j (V.ids_cells v j hj)) (l := l) (by rw [c1]; exact hl) hfl c2
            refine ⟨_, _, A', hK, OKop.skp (W' := W') ?_ (w2.post (by simp [VR]) (by simp [V.ids]))⟩
            have hne : ¬ (a.eval y).cells.size ≠ n := by simp at hcl; simp; omega
            simp only [execOp, Instr.storeAt, h1, Instr.sureAddr, Sem.run_bind, Sem.run_pure, Result.andThen_ok, storeVar, run_size hs]
            rw [if_neg hne]
            simp only [w1, Result.andThen_ok]
          split at hk
          · rename_i hlit
            exact fin _ A hk rfl (by simp [hlit])
          · split at hk
            · rename_i l A'
              obtain ⟨⟨q1, q2⟩, hk⟩ := hk
              exact fin l A' hk q2 (fun _ => flatL_ids q1)
            · exact hk.elim
        · exact hk.elim
      · exact hk.elim
    · exact hk.elim
  · exact hk.elim

theorem binV_run {op : BinOp} {x y r : V} (hr : binV op x y = some r) {xt : TypeId} {ux uy : Value} {ox oy : Operand} (hx : VR C.ρ m x ux) (hy : VR C.ρ m y uy) :
    ∃ u, (do eqGuard op xt ox oy ux uy; binOp op xt ux uy : Sem Value).run C.P W = .ok u W ∧ VR C.ρ m r u ∧ r.ids = [] := by
  cases x <;> cases y <;> simp only [binV] at hr <;> try (simp at hr; done)
  rename_i k p k' q
  simp only [VR] at hx hy
  subst hx hy
  have hg : (eqGuard op xt ox oy (.int k p) (.int k' q)).run C.P W = .ok () W := by
    cases op <;> rfl
  simp only [Sem.run_bind, hg, Result.andThen_ok]
  cases op
  case shl =>
    simp only at hr; split at hr; simp at hr; rename_i hq
    obtain rfl := Option.some.inj hr
    exact ⟨_, by simp [binOp, Op.shift, hq]; rfl, by simp [VR], by simp [V.ids]⟩
  case shr =>
    simp only at hr; split at hr; simp at hr; rename_i hq
    obtain rfl := Option.some.inj hr
    exact ⟨_, by simp [binOp, Op.shift, hq]; rfl, by simp [VR], by simp [V.ids]⟩
  all_goals
    simp only at hr
    split at hr
    · simp at hr
    rename_i hkk
    simp only [ne_eq, Decidable.not_not] at hkk
    subst hkk
    try (split at hr; (· simp at hr); rename_i hq)
    obtain rfl := Option.some.inj hr
    exact ⟨_, by simp [binOp, Op.intArith, Op.intDiv, Op.intBits, Op.intCmp, *]; rfl, by simp [VR], by simp [V.ids]⟩

theorem s_bin {op : BinOp} {t t' : TypeId} {x y : Operand} {x' y' : X} (hx : cX C x = some x') (hy : cX C y = some y')
    (hE : ER C.ρ m D e a (fun t' => .tmp t' ∈ (Op.binOp op t x y t').operands)) (hI : Inv C.ρ R m D h W) (hk : opK Cl (.bin op x' y') e h A K) : Goal C R m D h W a ⟨dst, .binOp op t x y t', ty, pos, aft, gd⟩ K := by
  simp only [opK] at hk
  split at hk
  · rename_i v hv
    obtain ⟨h1, h2⟩ := ev_ok hx hv hE (by rintro t rfl; simp [Op.operands])
    split at hk
    · rename_i w hw
      obtain ⟨h3, h4⟩ := ev_ok hy hw hE (by rintro t rfl; simp [Op.operands])
      split at hk
      · rename_i r A'
        obtain ⟨hr, hk⟩ := hk
        obtain ⟨u, q1, q2, q3⟩ := binV_run (xt := t) (ox := x) (oy := y) (W := W) hr h1 h3
        refine ⟨r, h, A', hk, OKop.pure (u := u) hI ?_ q2 (by simp [q3])⟩
        show ((do let v ← (do eqGuard op t x y (a.eval x) (a.eval y); binOp op t (a.eval x) (a.eval y)); pure (.value v) : Sem Next)).run C.P W = _
        rw [Sem.run_bind, q1]; rfl
      · exact hk.elim
    · exact hk.elim
  · exact hk.elim

theorem s_un {op : UnOp} {t : TypeId} {x : Operand} {x' : X} (hx : cX C x = some x')
    (hE : ER C.ρ m D e a (fun t' => .tmp t' ∈ (Op.unOp op t x).operands)) (hI : Inv C.ρ R m D h W) (hk : opK Cl (.un op x') e h A K) : Goal C R m D h W a ⟨dst, .unOp op t x, ty, pos, aft, gd⟩ K := by
  simp only [opK] at hk
  split at hk
  · rename_i b hv
    obtain ⟨h1, h2⟩ := ev_ok hx hv hE (by rintro t rfl; simp [Op.operands])
    simp only [VR] at h1
    split at hk
    · exact ⟨_, h, A, hk, OKop.pure (u := .bool (!b)) hI (by simp [execOp, h1, Op.unary]) (by simp [VR]) (by simp [V.ids])⟩
    · exact hk.elim
  · rename_i v hnb hv
    obtain ⟨h1, h2⟩ := ev_ok hx hv hE (by rintro t rfl; simp [Op.operands])
    split at hk
    · rename_i r A'
      obtain ⟨hr, hk⟩ := hk
      cases v <;> simp only [unV] at hr <;> try (simp at hr; done)
      · simp only [VR] at h1
        cases op <;> simp only at hr <;> try (simp at hr; done)
        all_goals
          obtain rfl := Option.some.inj hr
          exact ⟨_, h, A', hk, OKop.pure hI (by simp [execOp, h1, Op.unary, Op.intArith, Op.intBits]; rfl) (by simp [VR]) (by simp [V.ids])⟩
      · exact absurd rfl (hnb _)
    · exact hk.elim
  · exact hk.elim

theorem s_conv {s d : TypeId} {x : Operand} {x' : X} {k0 k : IntKind} (hs : C.P.underlying s = some (.int k0)) (hd : C.P.underlying d = some (.int k)) (hx : cX C x = some x')
    (hE : ER C.ρ m D e a (fun t' => .tmp t' ∈ (Op.convert s d x).operands)) (hI : Inv C.ρ R m D h W) (hk : opK Cl (.conv k x') e h A K) : Goal C R m D h W a ⟨dst, .convert s d x, ty, pos, aft, gd⟩ K := by
  simp only [opK] at hk
  split at hk
  · rename_i k1 z hv
    obtain ⟨h1, h2⟩ := ev_ok hx hv hE (by rintro t rfl; simp [Op.operands])
    simp only [VR] at h1
    split at hk
    · rename_i k2 r A'
      obtain ⟨⟨rfl, rfl⟩, hk⟩ := hk
      exact ⟨_, h, A', hk, OKop.pure (u := .int k2 (k2.wrap z)) hI (by simp [execOp, h1, convert, run_under hs, run_under hd, Conv.intToInt]) (by simp [VR]) (by simp [V.ids])⟩
    · exact hk.elim
  · exact hk.elim

theorem s_field {t : TypeId} {x : Operand} {x' : X} {f : Nat} {fs : Array Field} {fl : Field} {n : Option Nat} (hu : C.P.underlying t = some (.struct fs)) (hf : fs[f]? = some fl) (hn : layT C.P fl.type = some n) (hx : cX C x = some x')
    (hE : ER C.ρ m D e a (fun t' => .tmp t' ∈ (Op.field t x f).operands)) (hI : Inv C.ρ R m D h W) (hk : opK Cl (.field fl.offset n x') e h A K) : Goal C R m D h W a ⟨dst, .field t x f, ty, pos, aft, gd⟩ K := by
  obtain ⟨d, ti, hd, hti, rfl⟩ := layT_ok hn
  simp only [opK] at hk
  split at hk
  · rename_i cs hv
    obtain ⟨h1, h2⟩ := ev_ok hx hv hE (by rintro t rfl; simp [Op.operands])
    simp only [VR] at h1
    obtain ⟨us, hus, h1⟩ := h1
    have hl := h1.length
    simp only [V.ids] at h2
    split at hk
    · rename_i hnone
      have hag : isAggD d = false := by
        by_cases hag : isAggD d = true
        · simp [hag] at hnone
        · simpa using hag
      split at hk
      · rename_i v hv
        obtain ⟨u, hu', hr⟩ := h1.get hv
        refine ⟨v, h, A, hk, OKop.pure (u := u) hI ?_ hr fun k hk => h2 k (V.mem_idsL.mpr ⟨v, List.mem_of_getElem? hv, hk⟩)⟩
        rw [Array.getElem?_toList] at hu'
        simp [execOp, Instr.field, run_under hu, hf, part, run_isAgg hd, hag, hus, asAgg, hu']
      · exact hk.elim
    · rename_i n hsome
      obtain ⟨hle, hk⟩ := hk
      have hag : isAggD d = true := by
        by_cases hag : isAggD d = true
        · exact hag
        · simp [hag] at hsome
      simp [hag] at hsome
      subst hsome
      refine ⟨_, h, A, hk, OKop.pure (u := .agg (us.extract fl.offset (fl.offset + ti.size))) hI ?_ ?_ ?_⟩
      · simp [execOp, Instr.field, run_under hu, hf, part, run_isAgg hd, hag, hus, asAgg, run_size (n := ti.size) (show sizeT C.P fl.type = _ by simp [sizeT, hti])]
      · simp only [VR]
        refine ⟨_, rfl, ?_⟩
        rw [Array.toList_extract, List.extract_eq_take_drop, show fl.offset + ti.size - fl.offset = ti.size by omega]
        exact (h1.drop _).take _
      · intro k hk
        simp only [V.ids] at hk
        exact h2 k (mem_drop_ids (mem_take_ids hk))
  · exact hk.elim

theorem s_fieldAddr {t : TypeId} {x : Operand} {x' : X} {f n : Nat} {fs : Array Field} {fl : Field} (hu : C.P.underlying t = some (.struct fs)) (hf : fs[f]? = some fl) (hn : sizeT C.P fl.type = some n) (hn0 : n ≠ 0) (hx : cX C x = some x')
    (hE : ER C.ρ m D e a (fun t' => .tmp t' ∈ (Op.fieldAddr t x f).operands)) (hI : Inv C.ρ R m D h W) (hk : opK Cl (.fieldAddr fl.offset x') e h A K) : Goal C R m D h W a ⟨dst, .fieldAddr t x f, ty, pos, aft, gd⟩ K := by
  simp only [opK] at hk
  split at hk
  · rename_i i o hv
    obtain ⟨h1, h2⟩ := ev_ok hx hv hE (by rintro t rfl; simp [Op.operands])
    simp only [VR] at h1
    refine ⟨_, h, A, hk, OKop.pure (u := .pointer (some ⟨m.b i, o + fl.offset, none⟩)) hI ?_ (by simp [VR]) (by simpa [V.ids] using h2)⟩
    simp [execOp, Instr.fieldAt, run_under hu, hf, h1, Instr.sureAddr, fieldPlace, run_size hn, hn0, addr_add]
  · exact hk.elim

theorem s_indexAddr {t el : TypeId} {x y : Operand} {x' y' : X} {n : Nat} (he : elemT C.P t = some el) (hn : sizeT C.P el = some n) (hx : cX C x = some x') (hy : cX C y = some y')
    (hE : ER C.ρ m D e a (fun t' => .tmp t' ∈ (Op.indexAddr t x y).operands)) (hI : Inv C.ρ R m D h W) (hk : opK Cl (.indexAddr n x' y') e h A K) : Goal C R m D h W a ⟨dst, .indexAddr t x y, ty, pos, aft, gd⟩ K := by
  simp only [opK] at hk
  split at hk
  · rename_i i o l hv
    obtain ⟨h1, h2⟩ := ev_ok hx hv hE (by rintro t rfl; simp [Op.operands])
    split at hk
    · rename_i k z hz
      obtain ⟨h3, h4⟩ := ev_ok hy hz hE (by rintro t rfl; simp [Op.operands])
      obtain ⟨⟨z0, z1⟩, hk⟩ := hk
      simp only [VR] at h1 h3
      rcases h1 with ⟨c, h1, _⟩ | ⟨rfl, _⟩
      · refine ⟨_, h, A, hk, OKop.pure (u := .pointer (some ⟨m.b i, o + z.toNat * n, none⟩)) hI ?_ (by simp [VR]) (by simpa [V.ids] using h2)⟩
        simp [execOp, Instr.indexAt, run_under (elemT_ok he), h1, h3, asIntOf, z0, z1, run_size hn, addr_add]
      · omega
    · exact hk.elim
  · exact hk.elim

theorem s_extract {x : Operand} {x' : X} {i : Nat} (hx : cX C x = some x')
    (hE : ER C.ρ m D e a (fun t' => .tmp t' ∈ (Op.extract x i).operands)) (hI : Inv C.ρ R m D h W) (hk : opK Cl (.extract x' i) e h A K) : Goal C R m D h W a ⟨dst, .extract x i, ty, pos, aft, gd⟩ K := by
  simp only [opK] at hk
  split at hk
  · rename_i vs hv
    obtain ⟨h1, h2⟩ := ev_ok hx hv hE (by rintro t rfl; simp [Op.operands])
    simp only [VR] at h1
    obtain ⟨us, hus, h1⟩ := h1
    split at hk
    · rename_i v hv
      obtain ⟨u, hu, hr⟩ := h1.get hv
      rw [Array.getElem?_toList] at hu
      refine ⟨v, h, A, hk, OKop.pure (u := u) hI (by simp [execOp, Instr.extract, hus, hu]) hr fun k hk => h2 k ?_⟩
      simp only [V.ids]; exact V.mem_idsL.mpr ⟨v, List.mem_of_getElem? hv, hk⟩
    · exact hk.elim
  · exact hk.elim

theorem s_mkfn {f : FuncId} {first caps : Array Operand} {l : List X} (hc : mapO (cX C) caps.toList = some l) (h0 : first.size = 0) (hf : C.ρ (C.κ f) = f)
    (hE : ER C.ρ m D e a (fun t' => .tmp t' ∈ (Op.makeFunc (.func f) first caps).operands)) (hI : Inv C.ρ R m D h W) (hk : opK Cl (.mkfn (C.κ f) l) e h A K) : Goal C R m D h W a ⟨dst, .makeFunc (.func f) first caps, ty, pos, aft, gd⟩ K := by
  simp only [opK] at hk
  split at hk
  · rename_i vs hv
    obtain ⟨h1, h2⟩ := evs_ok hc hv hE (by intro t ht; simp only [Op.operands, Array.mem_append]; exact .inr (by simpa using ht))
    obtain rfl : first = #[] := Array.eq_empty_of_size_eq_zero h0
    refine ⟨_, h, A, hk, OKop.pure (u := .func (.func f) #[] (caps.map a.eval)) hI (by simp [execOp, Instr.makeFunc]) ?_ (by simpa [V.ids] using h2)⟩
    simp only [VR, hf]
    exact ⟨_, rfl, by simpa using h1⟩
  · exact hk.elim

theorem s_mkbfn {f : FuncId} {first caps : Array Operand} {l : List X} (hc : mapO (cX C) first.toList = some l) (h0 : caps.size = 0) (hf : C.ρ (C.κ f) = f)
    (hE : ER C.ρ m D e a (fun t' => .tmp t' ∈ (Op.makeFunc (.func f) first caps).operands)) (hI : Inv C.ρ R m D h W) (hk : opK Cl (.mkbfn (C.κ f) l) e h A K) : Goal C R m D h W a ⟨dst, .makeFunc (.func f) first caps, ty, pos, aft, gd⟩ K := by
  simp only [opK] at hk
  split at hk
  · rename_i vs hv
    obtain ⟨h1, h2⟩ := evs_ok hc hv hE (by intro t ht; simp only [Op.operands, Array.mem_append]; exact .inl (by simpa using ht))
    obtain rfl : caps = #[] := Array.eq_empty_of_size_eq_zero h0
    refine ⟨_, h, A, hk, OKop.pure (u := .func (.func f) (first.map a.eval) #[]) hI (by simp [execOp, Instr.makeFunc]) ?_ (by simpa [V.ids] using h2)⟩
    simp only [VR, hf]
    exact ⟨_, rfl, by simpa using h1⟩
  · exact hk.elim

theorem s_nilck {x : Operand} {x' : X} (hx : cX C x = some x')
    (hE : ER C.ρ m D e a (fun t' => .tmp t' ∈ (Op.nilCheck x).operands)) (hI : Inv C.ρ R m D h W) (hk : opK Cl (.nilck x') e h A K) : Goal C R m D h W a ⟨dst, .nilCheck x, ty, pos, aft, gd⟩ K := by
  simp only [opK] at hk
  split at hk
  · rename_i i o hv
    obtain ⟨h1, h2⟩ := ev_ok hx hv hE (by rintro t rfl; simp [Op.operands])
    have h1' := h1
    simp only [VR] at h1
    exact ⟨_, h, A, hk, OKop.pure hI (u := .pointer (some ⟨m.b i, o, none⟩)) (by simp [execOp, h1]) (h1 ▸ h1') h2⟩
  · rename_i f cs hv
    obtain ⟨h1, h2⟩ := ev_ok hx hv hE (by rintro t rfl; simp [Op.operands])
    have h1' := h1
    simp only [VR] at h1
    obtain ⟨us, hus, _⟩ := h1
    exact ⟨_, h, A, hk, OKop.pure hI (u := .func (.func (C.ρ f)) #[] us) (by simp [execOp, hus]) (hus ▸ h1') h2⟩
  · exact hk.elim
end
end Go.Proofs.Ytokoboflpaklaaa.Mi
