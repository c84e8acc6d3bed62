/-
  A small deterministic machine over the model's code: values, a heap of blocks, a run of a function. Definitions alone.
-/
import Derived.Calls
import Derived.Tactics
namespace Vm
open Go

/-- the value of one cell -/
inductive S where
  | no
  | bool (b : Bool)
  | int (k : IntKind) (n : Int)
  | str (s : ByteArray)
  | ptr (a : Option (Nat × Nat))
  | sl (a : Option (Nat × Nat)) (n : Nat)
  | fn (f : Nat) (cap : List (Nat × Nat))
  | nofn

inductive A where
  | s (x : S)
  | agg (cs : List S)

inductive V where
  | s (x : S)
  | agg (cs : List S)
  | tup (vs : List A)

def A.v : A → V
  | .s x => .s x
  | .agg cs => .agg cs

def V.toA : V → Option A
  | .s x => some (.s x)
  | .agg cs => some (.agg cs)
  | .tup _ => none

abbrev iv (k : IntKind) (n : Int) : V := .s (.int k n)
abbrev bv (b : Bool) : V := .s (.bool b)
abbrev pv (b o : Nat) : V := .s (.ptr (some (b, o)))
abbrev sv (b o n : Nat) : V := .s (.sl (some (b, o)) n)

/-- a block: gone, or what came in (it is never written), or what was made here (with the size of its elements, where it is a slice's) -/
inductive Blk where
  | dead
  | ro (cs : List S)
  | rw (e : Nat) (cs : List S)

/-- the heap: how many blocks, each one, and how often each was written -/
structure H where
  n : Nat
  g : Nat → Blk
  v : Nat → Nat

def Blk.cells : Blk → List S
  | .dead => []
  | .ro cs => cs
  | .rw _ cs => cs

def H.cells (h : H) (b : Nat) : List S := if b < h.n then (h.g b).cells else []
def H.new (h : H) (e : Nat) (cs : List S) : H := ⟨h.n + 1, fun i => if i = h.n then .rw e cs else h.g i, h.v⟩
def H.put (h : H) (b : Nat) (x : Blk) : H := ⟨h.n, fun i => if i = b then x else h.g i, fun i => if i = b then h.v i + 1 else h.v i⟩
/-- all that was there is there, and nobody wrote it -/
def HExt (h h' : H) : Prop := h.n ≤ h'.n ∧ ∀ b, b < h.n → h'.g b = h.g b ∧ h'.v b = h.v b

/-- frames: the newest first -/
abbrev Fr := List (Nat × V)
def look : Fr → Nat → Option V
  | [], _ => none
  | (i, v) :: r, d => bif i == d then some v else look r d
def fput (F : Fr) : Option Nat → V → Fr
  | none, _ => F
  | some d, v => (d, v) :: F

/-! the operations -/
def load1 (h : H) : V → Option S
  | .s (.ptr (some (b, o))) => (h.cells b)[o]?
  | _ => none
def loadN (n : Nat) (h : H) : V → Option (List S)
  | .s (.ptr (some (b, o))) => if b < h.n ∧ o + n ≤ (h.cells b).length then some (((h.cells b).drop o).take n) else none
  | _ => none
def cellsOf : V → Option (List S)
  | .s .no => none
  | .s x => some [x]
  | .agg cs => some cs
  | .tup _ => none
def setAt (cs : List S) (o : Nat) (xs : List S) : List S := cs.take o ++ xs ++ cs.drop (o + xs.length)
def isNo : S → Bool
  | .no => true
  | _ => false
def put1 (h : H) (x : S) : V → Option H
  | .s (.ptr (some (b, o))) => if b < h.n ∧ isNo x = false then (match h.g b with
    | .rw e cs => if o < cs.length then some (h.put b (.rw e (cs.set o x))) else none
    | _ => none) else none
  | _ => none
def putN (n : Nat) (h : H) (xs : List S) : V → Option H
  | .s (.ptr (some (b, o))) => if b < h.n ∧ xs.length = n then (match h.g b with
    | .rw e cs => if o + n ≤ cs.length then some (h.put b (.rw e (setAt cs o xs))) else none
    | _ => none) else none
  | _ => none
def padd (m : Nat) : V → Option V
  | .s (.ptr (some (b, o))) => some (.s (.ptr (some (b, o + m))))
  | _ => none
def asS : V → Option S
  | .s x => some x
  | _ => none
def asN (n : Nat) : V → Option (List S)
  | .agg cs => if cs.length = n then some cs else none
  | _ => none
def field1 (o : Nat) : V → Option S
  | .agg cs => cs[o]?
  | _ => none
def fieldN (o n : Nat) : V → Option (List S)
  | .agg cs => if o + n ≤ cs.length then some ((cs.drop o).take n) else none
  | _ => none
def stV (z : Nat) (h : H) (p : V) : V → Option H
  | .s y => if z = 1 then put1 h y p else none
  | .agg ys => putN z h ys p
  | .tup _ => none
open Classical in
/-- go on if nobody wrote what was there -/
noncomputable def hchk {R : Type} (h h' : H) (x : Option R) : Option R := if HExt h h' then x else none
def vcase {R : Type} (v : V) (a b : Option R) : Option R := match v with
  | .s (.bool true) => a
  | .s (.bool false) => b
  | _ => none
/-- a guard: yes, no, or its own operation was passed over -/
def gcase {R : Type} (v : V) (a b c : Option R) : Option R := match v with
  | .s (.bool true) => a
  | .s (.bool false) => b
  | .tup [] => c
  | _ => none
/-- the element's place -/
def idxS (z : Nat) : V → V → Option V
  | .s (.sl (some (b, o)) n), .s (.int _ i) => if 0 ≤ i ∧ i < (n : Int) then some (.s (.ptr (some (b, o + i.toNat * z)))) else none
  | _, _ => none
def idxA (len z : Nat) : V → V → Option V
  | .s (.ptr (some (b, o))), .s (.int _ i) => if 0 ≤ i ∧ i < (len : Int) then some (.s (.ptr (some (b, o + i.toNat * z)))) else none
  | _, _ => none
def idxStr : V → V → Option V
  | .s (.str s), .s (.int _ i) => if 0 ≤ i ∧ i < (s.size : Int) then some (.s (.int .u8 (s.get! i.toNat).toNat)) else none
  | _, _ => none
/-- a bound of a slice: between 0 and y -/
def bnd (y : Nat) : V → Option Nat
  | .s (.int _ i) => if 0 ≤ i ∧ i ≤ (y : Int) then some i.toNat else none
  | _ => none
/-- may a slice of elements of z cells lead into this block? -/
def okE (h : H) (z b : Nat) : Bool := decide (b < h.n) && match h.g b with
  | .dead => false
  | .ro _ => true
  | .rw e _ => e == 0 || e == z
def slS (z : Nat) (hp : H) (x : V) (lo hi : Option V) : Option V := match x with
  | .s (.sl none n) =>
    (match hi with | none => some n | some v => bnd n v).bind fun h =>
    (match lo with | none => some 0 | some v => bnd h v).bind fun l => some (.s (.sl none (h - l)))
  | .s (.sl (some (b, o)) n) =>
    (match hi with | none => some n | some v => bnd n v).bind fun h =>
    (match lo with | none => some 0 | some v => bnd h v).bind fun l =>
    if okE hp z b = true then some (.s (.sl (some (b, o + l * z)) (h - l))) else none
  | _ => none
def slStr (x : V) (lo hi : Option V) : Option V := match x with
  | .s (.str s) =>
    (match hi with | none => some s.size | some v => bnd s.size v).bind fun h =>
    (match lo with | none => some 0 | some v => bnd h v).bind fun l =>
    some (.s (.str (s.extract l h)))
  | _ => none
def lim : Nat := 68719476736
/-- make: so many elements of z cells -/
def mkSl (z : Nat) (zero : List S) (h : H) (len cap : V) : Option (V × H) := match len, cap with
  | .s (.int _ l), .s (.int _ c) => if 0 ≤ l ∧ l = c ∧ l ≤ (lim : Int) ∧ 0 < z ∧ zero.length = z then
      some (.s (.sl (some (h.n, 0)) l.toNat), h.new z ((List.replicate l.toNat zero).flatten)) else none
  | _, _ => none
/-- the first n elements of z cells of a slice, or the bytes of a string -/
def cellsS (z : Nat) (h : H) : V → Option (List S)
  | .s (.sl none 0) => some []
  | .s (.sl (some (b, o)) n) => if b < h.n ∧ o + n * z ≤ (h.cells b).length then some (((h.cells b).drop o).take (n * z)) else none
  | .s (.str s) => if z = 1 then some (s.data.toList.map fun c => .int .u8 c.toNat) else none
  | _ => none
def lenS : V → Option Nat
  | .s (.sl _ n) => some n
  | .s (.str s) => some s.size
  | _ => none
/-- append: always a new block; the old one, if there is one, is gone -/
def appS (z : Nat) (h : H) (x y : V) : Option (V × H) := match x with
  | .s (.sl none n) => (cellsS z h y).bind fun ys => (lenS y).bind fun m =>
      if n = 0 ∧ m ≤ lim ∧ 0 < z then
        (if m = 0 then some (.s (.sl none 0), h) else some (.s (.sl (some (h.n, 0)) m), h.new z ys)) else none
  | .s (.sl (some (b, _)) n) => (cellsS z h x).bind fun xs => (cellsS z h y).bind fun ys => (lenS y).bind fun m =>
      if b < h.n ∧ n + m ≤ lim ∧ 0 < z then (match h.g b with
        | .rw e _ => if e = z then some (.s (.sl (some (h.n, 0)) (n + m)), (h.put b .dead).new z (xs ++ ys)) else none
        | _ => none) else none
  | _ => none
def copS (z : Nat) (h : H) (x y : V) : Option (V × H) := match x with
  | .s (.sl none n) => (lenS y).bind fun m => (cellsS z h y).bind fun _ => some (.s (.int .i64 (Nat.min m n)), h)
  | .s (.sl (some (b, o)) n) => (cellsS z h y).bind fun ys => (lenS y).bind fun m =>
      if b < h.n then (match h.g b with
        | .rw e cs => if o + n * z ≤ cs.length then some (.s (.int .i64 (Nat.min m n)), h.put b (.rw e (setAt cs o (ys.take (Nat.min m n * z))))) else none
        | _ => none) else none
  | _ => none
/-! the program, as far as the machine asks for it -/
inductive TD where
  | other
  | bool
  | ptr
  | int (k : IntKind)
  | str
  | sl (e : Nat)
  | arr (n e : Nat)
  | st (fs : List (Nat × Nat))
structure TI where
  z : Nat
  bytes : Nat
  zero : List S
  agg : Bool
  d : TD
structure Env where
  fn : Nat → Option Func
  ty : Nat → Option TI
  keep : Nat → Nat → List Nat
  aft : Nat → Nat → List Nat
  sched : Nat → Nat → List (Nat × Nat)

def lenV : TD → V → Option V
  | .sl _, .s (.sl _ n) => some (.s (.int .i64 n))
  | .str, .s (.str s) => some (.s (.int .i64 s.size))
  | _, _ => none
/-- are two values of a type equal? -/
def eqT (E : Env) (t : Nat) (x y : V) : Option Bool := (E.ty t).bind fun ti => match ti.d, x, y with
  | .bool, .s (.bool a), .s (.bool b) => some (a == b)
  | .sl _, .s (.sl none _), .s (.sl b _) => some b.isNone
  | .sl _, .s (.sl (some _) _), .s (.sl none _) => some false
  | .ptr, .s (.ptr none), .s (.ptr b) => some b.isNone
  | .ptr, .s (.ptr (some _)), .s (.ptr none) => some false
  | _, _, _ => none
def bitsI (op : BinOp) (k : IntKind) (a b : Int) : Option Int :=
  let x := BitVec.ofInt k.bits a
  let y := BitVec.ofInt k.bits b
  match op with
  | .and => some (k.wrap (x &&& y).toNat)
  | .or => some (k.wrap (x ||| y).toNat)
  | .xor => some (k.wrap (x ^^^ y).toNat)
  | .andNot => some (k.wrap (x &&& ~~~y).toNat)
  | _ => none
def binI (op : BinOp) (k : IntKind) (a b : Int) : Option V := match op with
  | .add => some (.s (.int k (k.wrap (a + b))))
  | .sub => some (.s (.int k (k.wrap (a - b))))
  | .mul => some (.s (.int k (k.wrap (a * b))))
  | .quo => if b = 0 then none else some (.s (.int k (k.wrap (a.tdiv b))))
  | .rem => if b = 0 then none else some (.s (.int k (a.tmod b)))
  | .eql => some (.s (.bool (a == b)))
  | .neq => some (.s (.bool (a != b)))
  | .lss => some (.s (.bool (decide (a < b))))
  | .leq => some (.s (.bool (decide (a ≤ b))))
  | .gtr => some (.s (.bool (decide (a > b))))
  | .geq => some (.s (.bool (decide (a ≥ b))))
  | op => (bitsI op k a b).bind fun n => some (.s (.int k n))
def binB (op : BinOp) (a b : ByteArray) : Option V := match op with
  | .add => if a.size + b.size ≤ lim then some (.s (.str (a ++ b))) else none
  | .eql => some (.s (.bool (a.toList == b.toList)))
  | .neq => some (.s (.bool (!(a.toList == b.toList))))
  | _ => none
def bin (E : Env) (op : BinOp) (t : Nat) (x y : V) : Option V := match op, x, y with
  | .shl, .s (.int k a), .s (.int _ b) => if b < 0 then none else some (.s (.int k (k.wrap (a * 2 ^ (min b.toNat k.bits)))))
  | .shr, .s (.int k a), .s (.int _ b) => if b < 0 then none else some (.s (.int k (a.fdiv (2 ^ (min b.toNat k.bits)))))
  | op, .s (.int k a), .s (.int k' b) => if k = k' then binI op k a b else none
  | op, .s (.str a), .s (.str b) => binB op a b
  | .eql, x, y => (eqT E t x y).bind fun b => some (.s (.bool b))
  | .neq, x, y => (eqT E t x y).bind fun b => some (.s (.bool (!b)))
  | _, _, _ => none
def unNot : V → Option V
  | .s (.bool b) => some (.s (.bool (!b)))
  | _ => none
def unNeg : V → Option V
  | .s (.int k a) => some (.s (.int k (k.wrap (-a))))
  | _ => none
def cvI (k : IntKind) : V → Option V
  | .s (.int _ a) => some (.s (.int k (k.wrap a)))
  | _ => none
def bytesS : List S → Option (List UInt8)
  | [] => some []
  | .int .u8 n :: r => (bytesS r).bind fun l => if 0 ≤ n ∧ n < 256 then some (UInt8.ofNat n.toNat :: l) else none
  | _ => none
/-- bytes to a string -/
def cvStr (h : H) (x : V) : Option V := match x with
  | .s (.sl _ n) => (cellsS 1 h x).bind fun cs => (bytesS cs).bind fun l => if n ≤ lim then some (.s (.str ⟨l.toArray⟩)) else none
  | _ => none
/-- a string to bytes -/
def cvBytes (h : H) : V → Option (V × H)
  | .s (.str s) => if s.size ≤ lim then some (.s (.sl (some (h.n, 0)) s.size), h.new 1 (s.data.toList.map fun c => .int .u8 c.toNat)) else none
  | _ => none
def extr (i : Nat) : V → Option V
  | .tup vs => vs[i]?.map A.v
  | _ => none
def notNil : V → Option V
  | .s (.ptr (some p)) => some (.s (.ptr (some p)))
  | _ => none

def constS : Value → Option S
  | .bool b => some (.bool b)
  | .int k n => some (.int k n)
  | .string s => some (.str s)
  | .pointer none => some (.ptr none)
  | .slice none 0 0 => some (.sl none 0)
  | .nilFunc => some .nofn
  | _ => none
def constSs : List Value → Option (List S)
  | [] => some []
  | v :: r => (constS v).bind fun x => (constSs r).bind fun l => some (x :: l)
def constV : Value → Option V
  | .agg cs => (constSs cs.toList).bind fun l => some (.agg l)
  | v => (constS v).bind fun x => some (.s x)
def opd (F : Fr) : Operand → Option V
  | .tmp t => look F t
  | .const v => constV v
  | .func f => some (.s (.fn f []))
  | .global _ => none
def opds (F : Fr) : List Operand → Option (List V)
  | [] => some []
  | x :: r => (opd F x).bind fun v => (opds F r).bind fun l => some (v :: l)

def ptrs : List V → Option (List (Nat × Nat))
  | [] => some []
  | .s (.ptr (some p)) :: r => (ptrs r).bind fun l => some (p :: l)
  | _ => none

section
variable {R : Type} (E : Env)
/-- fill parts into cells -/
def fillP (place : Nat → Option (Nat × Nat)) (F : Fr) : List (Nat × Operand) → List S → (List S → Option R) → Option R
  | [], cs, k => k cs
  | (i, x) :: r, cs, k => (opd F x).bind fun v => (place i).bind fun p =>
      (cellsOf v).bind fun xs => if xs.length = p.2 ∧ p.1 + p.2 ≤ cs.length then fillP place F r (setAt cs p.1 xs) k else none
def places (fs : List (Nat × Nat)) (i : Nat) : Option (Nat × Nat) := fs[i]?.bind fun p => (E.ty p.2).bind fun ti => some (p.1, ti.z)

def ldT (ti : TI) (h : H) (a : V) (k : V → Option R) : Option R :=
  bif ti.agg then (loadN ti.z h a).bind fun cs => k (.agg cs) else (load1 h a).bind fun x => k (.s x)
def op1 (F : Fr) (h : H) (o : Op) (k : V → H → Option R) : Option R := match o with
  | .move x => (opd F x).bind fun v => k v h
  | .assign x => (opd F x).bind fun v => k v h
  | .pick c a b => (opd F c).bind fun v => vcase v ((opd F a).bind fun v => k v h) ((opd F b).bind fun v => k v h)
  | .alloc t => (E.ty t).bind fun ti => k (.s (.ptr (some (h.n, 0)))) (h.new 0 ti.zero)
  | .box _ x => (opd F x).bind fun v => (cellsOf v).bind fun cs => k (.s (.ptr (some (h.n, 0)))) (h.new 0 cs)
  | .build t ps => (E.ty t).bind fun ti => match ti.d with
    | .st fs => fillP (places E fs) F ps.toList ti.zero fun cs => k (.agg cs) h
    | .arr _ e => (E.ty e).bind fun te => fillP (fun i => some (i * te.z, te.z)) F ps.toList ti.zero fun cs => k (.agg cs) h
    | _ => none
  | .buildSlice t len ps => (E.ty t).bind fun ti => match ti.d with
    | .sl e => (E.ty e).bind fun te => if len * te.z ≤ 16777216 ∧ 0 < te.z then
        fillP (fun i => some (i * te.z, te.z)) F ps.toList ((List.replicate len te.zero).flatten) fun cs => k (.s (.sl (some (h.n, 0)) len)) (h.new te.z cs) else none
    | _ => none
  | .load t a => (E.ty t).bind fun ti => (opd F a).bind fun v => ldT ti h v fun v => k v h
  | .store t a x => (E.ty t).bind fun ti => (opd F a).bind fun p => (opd F x).bind fun v => (stV ti.z h p v).bind fun h' => k (.s .no) h'
  | .nilCheck x => (opd F x).bind fun v => (notNil v).bind fun v => k v h
  | .binOp op t x y _ => (opd F x).bind fun a => (opd F y).bind fun b => (bin E op t a b).bind fun v => k v h
  | .unOp op _ x => (opd F x).bind fun a => match op with
    | .not => (unNot a).bind fun v => k v h
    | .neg => (unNeg a).bind fun v => k v h
    | _ => none
  | .convert s t x => (E.ty s).bind fun si => (E.ty t).bind fun ti => (opd F x).bind fun v => match si.d, ti.d with
    | .int _, .int q => (cvI q v).bind fun v => k v h
    | .str, .str => (match v with | .s (.str _) => k v h | _ => none)
    | .str, .sl e => (E.ty e).bind fun te => (match te.d with
      | .int .u8 => (cvBytes h v).bind fun p => k p.1 p.2
      | _ => none)
    | .sl e, .str => (E.ty e).bind fun te => (match te.d with
      | .int .u8 => (cvStr h v).bind fun v => k v h
      | _ => none)
    | _, _ => none
  | .makeSlice t l c => (E.ty t).bind fun ti => (opd F l).bind fun l => (opd F c).bind fun c => match ti.d with
    | .sl e => (E.ty e).bind fun te => (mkSl te.z te.zero h l c).bind fun p => k p.1 p.2
    | _ => none
  | .slice t x lo hi mx => if mx.isSome then none else (E.ty t).bind fun ti => (opd F x).bind fun x =>
      (match lo with | none => some none | some y => (opd F y).bind fun v => some (some v)).bind fun lo =>
      (match hi with | none => some none | some y => (opd F y).bind fun v => some (some v)).bind fun hi => match ti.d with
      | .sl e => (E.ty e).bind fun te => (slS te.z h x lo hi).bind fun v => k v h
      | .str => (slStr x lo hi).bind fun v => k v h
      | _ => none
  | .fieldAddr t x i => (E.ty t).bind fun ti => (opd F x).bind fun v => match ti.d with
    | .st fs => fs[i]?.bind fun f => (E.ty f.2).bind fun tf => if tf.z = 0 then none else (padd f.1 v).bind fun v => k v h
    | _ => none
  | .field t x i => (E.ty t).bind fun ti => (opd F x).bind fun v => match ti.d with
    | .st fs => fs[i]?.bind fun f => (E.ty f.2).bind fun tf => (bif tf.agg then (fieldN f.1 tf.z v).bind fun cs => k (.agg cs) h else (field1 f.1 v).bind fun x => k (.s x) h)
    | _ => none
  | .indexAddr t x i => (E.ty t).bind fun ti => (opd F x).bind fun v => (opd F i).bind fun i => match ti.d with
    | .sl e => (E.ty e).bind fun te => (idxS te.z v i).bind fun v => k v h
    | .arr n e => (E.ty e).bind fun te => (idxA n te.z v i).bind fun v => k v h
    | _ => none
  | .index t x i => (E.ty t).bind fun ti => (opd F x).bind fun v => (opd F i).bind fun i => match ti.d with
    | .str => (idxStr v i).bind fun v => k v h
    | _ => none
  | .extract t i => (opd F t).bind fun v => (extr i v).bind fun v => k v h
  | .makeFunc fn first caps => if first.size = 0 then (match fn with
    | .func f => (opds F caps.toList).bind fun l => (ptrs l).bind fun ps => k (.s (.fn f ps)) h
    | _ => none) else none
  | _ => none

inductive Out where
  | normal (F : Fr) (h : H)
  | ret (v : V) (h : H)
  | exit (i : Nat) (F : Fr) (h : H)
inductive LOut where
  | done (l : List V) (h : H)
  | ret (v : V) (h : H)

def resA (F : Fr) (h : H) : List ResultVar → (List A → Option R) → Option R
  | [], k => k []
  | .tmp t :: r, k => (look F t).bind fun v => v.toA.bind fun a => resA F h r fun l => k (a :: l)
  | .cell a t :: r, k => (E.ty t).bind fun ti => (look F a).bind fun p => ldT ti h p fun v => v.toA.bind fun a => resA F h r fun l => k (a :: l)
def resV (F : Fr) (h : H) (rs : List ResultVar) (k : V → Option R) : Option R := match rs with
  | [.tmp t] => (look F t).bind k
  | [.cell a t] => (E.ty t).bind fun ti => (look F a).bind fun p => ldT ti h p k
  | rs => resA E F h rs fun l => k (.tup l)
def lcase {R : Type} (o : LOut) (f : List V → H → Option R) (g : V → H → Option R) : Option R := match o with
  | .done l h => f l h
  | .ret v h => g v h
def withF {R : Type} (l : List V) : List Nat → Nat → Fr → (Fr → Option R) → Option R
  | [], _, F, k => k F
  | i :: r, j, F, k => (l[j]?).bind fun v => withF l r (j + 1) ((i, v) :: F) k

variable (cl : Nat → List V → H → Option (V × H)) (lp : Nat → Func → Nat → Code → List V → H → Option LOut)

def callOp (F : Fr) (h : H) (c : Call) (k : V → H → Option R) : Option R := match c.callee with
  | .value x => (opd F x).bind fun v => (opds F c.args.toList).bind fun as => (match v with
    | .s (.fn f caps) => (cl f (as ++ caps.map fun p => .s (.ptr (some p))) h).bind fun p => k p.1 p.2
    | _ => none)
  | .builtin b => (opds F c.args.toList).bind fun as => match b, as with
    | .len, [x] => c.argTypes[0]?.bind fun t => (E.ty t).bind fun ti => (lenV ti.d x).bind fun v => k v h
    | .append, [x, y] => c.argTypes[0]?.bind fun t => (E.ty t).bind fun ti => c.argTypes[1]?.bind fun t1 => (E.ty t1).bind fun ti1 => (match ti.d, ti1.d with
      | .sl e, .sl _ => (E.ty e).bind fun te => (appS te.z h x y).bind fun p => k p.1 p.2
      | .sl e, .str => (E.ty e).bind fun te => (appS te.z h x y).bind fun p => k p.1 p.2
      | _, _ => none)
    | .copy, [x, y] => c.argTypes[0]?.bind fun t => (E.ty t).bind fun ti => (match ti.d with
      | .sl e => (E.ty e).bind fun te => (copS te.z h x y).bind fun p => k p.1 p.2
      | _ => none)
    | _, _ => none
  | _ => none
def oneOp (F : Fr) (h : H) (o : Oper) (k : V → H → Option R) : Option R := match o.op with
  | .call c => callOp E cl F h c k
  | op => op1 E F h op k
def dstOf (all : Array Oper) (j : Nat) : Option Nat := all[j]?.bind fun o => o.dst
/-- has the operation no guard? -/
def free (all : Array Oper) (j : Nat) : Bool := match all[j]? with
  | some o => o.guard.isNone
  | none => true
/-- one operation, or none of it where its guard says so -/
def gOp (all : Array Oper) (F : Fr) (h : H) (o : Oper) (k : Fr → H → Option R) : Option R := match o.guard with
  | none => oneOp E cl F h o fun v h => k (fput F o.dst v) h
  | some (j, want) => (dstOf all j).bind fun t => (look F t).bind fun v =>
      gcase v
        (bif want then oneOp E cl ((t, .s (.bool true)) :: F) h o fun v h => k (fput ((t, .s (.bool true)) :: F) o.dst v) h else k (fput ((t, .s (.bool true)) :: F) o.dst (.tup [])) h)
        (bif want then k (fput ((t, .s (.bool false)) :: F) o.dst (.tup [])) h else oneOp E cl ((t, .s (.bool false)) :: F) h o fun v h => k (fput ((t, .s (.bool false)) :: F) o.dst v) h)
        (bif free all j then none else k (fput ((t, .tup []) :: F) o.dst (.tup [])) h)
def lexOps (all : Array Oper) : List Oper → Fr → H → (Fr → H → Option R) → Option R
  | [], F, h, k => k F h
  | o :: r, F, h, k => gOp E cl all F h o fun F h => lexOps all r F h k
/-- does this operation neither write nor call? -/
def quietB (E : Env) : Op → Bool
  | .move _ | .assign _ | .pick .. | .build .. | .load .. | .nilCheck _ | .binOp .. | .unOp .. | .fieldAddr .. | .field .. | .indexAddr .. | .index .. | .extract .. => true
  | .slice .. => true
  | .call c => match c.callee with
    | .builtin .len => true
    | _ => false
  | .makeFunc .. => true
  | .convert s t _ => match E.ty s, E.ty t with
    | some si, some ti => (match si.d, ti.d with
      | .int _, .int _ => true
      | .sl _, .str => true
      | _, _ => false)
    | _, _ => false
  | _ => false
/-- a region that draws: kind 0 is taken first (it sees the heap of the region's beginning), kind 1 stands alone (and keeps all that was there), any other kind stands alone -/
noncomputable def drawOps (all : Array Oper) (h0 : H) : List (Nat × Nat) → Fr → H → (Fr → H → Option R) → Option R
  | [], F, h, k => k F h
  | (i, 0) :: r, F, h, k => (all[i]?).bind fun o => gOp E cl all F h0 o fun F _ => drawOps all h0 r F h k
  | (i, 1) :: r, F, h, k => (all[i]?).bind fun o => gOp E cl all F h o fun F h' => hchk h0 h' (drawOps all h0 r F h' k)
  | (i, _) :: r, F, h, k => (all[i]?).bind fun o => gOp E cl all F h o fun F h' => drawOps all h0 r F h' k
def mkF : List Nat → List V → Fr
  | i :: r, v :: l => (i, v) :: mkF r l
  | _, _ => []
def pickF (F : Fr) : List Nat → Option (List V)
  | [] => some []
  | i :: r => (look F i).bind fun v => (pickF F r).bind fun l => some (v :: l)
noncomputable def code (f : Nat) (fn : Func) : Code → Fr → H → (Out → Option R) → Option R
  | .skip, F, h, k => k (.normal F h)
  | .region id ops draw, F, h, k => bif draw then drawOps E cl ops h (E.sched f id) F h fun F h => k (.normal F h)
      else lexOps E cl ops ops.toList F h fun F h => k (.normal F h)
  | .seq a b, F, h, k => code f fn a F h fun o => match o with
    | .normal F h => code f fn b F h k
    | o => k o
  | .cond c a b, F, h, k => (opd F c).bind fun v => vcase v (code f fn a F h k) (code f fn b F h k)
  | .block id (.loop body), F, h, k => (pickF F (E.keep f id)).bind fun l => (lp f fn id body l h).bind fun o => lcase o (fun l h => withF l (E.aft f id) 0 [] fun F => k (.normal F h)) fun v h => k (.ret v h)
  | .block id body, F, h, k => code f fn body F h fun o => match o with
    | .exit i F h => bif i == id then k (.normal F h) else k (.exit i F h)
    | o => k o
  | .exit id, F, h, k => k (.exit id F h)
  | .ret, F, h, k => resV E F h fn.results.toList fun v => k (.ret v h)
  | _, _, _, _ => none
end

def initF : Nat → List V → Fr
  | _, [] => []
  | i, v :: r => (i, v) :: initF (i + 1) r

noncomputable def callB (E : Env) (cl : Nat → List V → H → Option (V × H)) (lp : Nat → Func → Nat → Code → List V → H → Option LOut) (f : Nat) (args : List V) (h : H) : Option (V × H) :=
  (E.fn f).bind fun fn => fn.body.bind fun c => code E cl lp f fn c (initF 0 args) h fun o => match o with
    | .normal F h => resV E F h fn.results.toList fun v => some (v, h)
    | .ret v h => some (v, h)
    | .exit _ _ _ => none
noncomputable def loopB (E : Env) (cl : Nat → List V → H → Option (V × H)) (lp : Nat → Func → Nat → Code → List V → H → Option LOut) (f : Nat) (fn : Func) (id : Nat) (body : Code) (l : List V) (h : H) : Option LOut :=
  code E cl lp f fn body (mkF (E.keep f id) l) h fun o => match o with
    | .normal F h => (pickF F (E.keep f id)).bind fun l => lp f fn id body l h
    | .exit i F h => bif i == id then (pickF F (E.aft f id)).bind fun l => some (.done l h) else none
    | .ret v h => some (.ret v h)

/-- so many rounds and calls -/
noncomputable def runN (E : Env) : Nat → (Nat → List V → H → Option (V × H)) × (Nat → Func → Nat → Code → List V → H → Option LOut)
  | 0 => (fun _ _ _ => none, fun _ _ _ _ _ _ => none)
  | n + 1 => (callB E (runN E n).1 (runN E n).2, loopB E (runN E n).1 (runN E n).2)

open Classical in
noncomputable def limO {α : Type} (g : Nat → Option α) : Option α := if h : ∃ r n, g n = some r then some (choose h) else none
noncomputable def call (E : Env) (f : Nat) (args : List V) (h : H) : Option (V × H) := limO fun n => (runN E n).1 f args h
noncomputable def loop (E : Env) (f : Nat) (fn : Func) (id : Nat) (body : Code) (l : List V) (h : H) : Option LOut := limO fun n => (runN E n).2 f fn id body l h

/-- the body of a function's loop -/
def findLoop (id : Nat) : Code → Option Code
  | .seq a b => (findLoop id a).orElse fun _ => findLoop id b
  | .cond _ a b => (findLoop id a).orElse fun _ => findLoop id b
  | .block i (.loop b) => bif i == id then some b else findLoop id b
  | .block _ b => findLoop id b
  | _ => none
def lbody (fn : Func) (id : Nat) : Code := (fn.body.bind (findLoop id)).getD .skip
end Vm
