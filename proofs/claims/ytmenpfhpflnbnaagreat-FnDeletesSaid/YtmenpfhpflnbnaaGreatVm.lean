/-
  A small deterministic machine over the model's code: values, a heap of blocks, a run of a function. Definitions alone.
-/
import Derived.Calls
import Derived.Tactics
namespace Vm
open Go
inductive S where
 | no
 | bool (b : Bool)
 | int (k : IntKind) (n : Int)
 | str (s : ByteArray)
 | ptr (a : Option (Nat × Nat))
 | sl (a : Option (Nat × Nat)) (n : Nat)
 | fn (f : Nat) (cap : List (Nat × Nat))
 | nofn
 | fs (rows : List (List S))
 | fp (row : List S) (o : Nat)
 | mp (b : Option Nat)
inductive A where
 | s (x : S)
 | agg (cs : List S)
inductive V where
 | s (x : S)
 | agg (cs : List S)
 | tup (vs : List A)
def A.v : A -> V
 | .s x => .s x
 | .agg cs => .agg cs
def V.toA : V -> Option A
 | .s x => some (.s x)
 | .agg cs => some (.agg cs)
 | .tup _ => none
abbrev iv (k : IntKind) (n : Int) : V := .s (.int k n)
abbrev bv (b : Bool) : V := .s (.bool b)
abbrev pv (b o : Nat) : V := .s (.ptr (some (b, o)))
abbrev sv (b o n : Nat) : V := .s (.sl (some (b, o)) n)
abbrev lv (rows : List (List S)) : V := .s (.fs rows)
abbrev fv (row : List S) (o : Nat) : V := .s (.fp row o)
inductive Blk where
 | dead
 | rw (e : Nat) (cs : List S)
 | mp (es : List (List S × A))
structure H where
 n : Nat
 g : Nat -> Blk
 v : Nat -> Nat
def Blk.cells : Blk -> List S
 | .dead => []
 | .rw _ cs => cs
 | .mp _ => []
def H.cells (h : H) (b : Nat) : List S := if b < h.n then (h.g b).cells else []
def H.new (h : H) (e : Nat) (cs : List S) : H := ⟨h.n + 1, fun i => if i = h.n then .rw e cs else h.g i, h.v⟩
def H.newM (h : H) : H := ⟨h.n + 1, fun i => if i = h.n then .mp [] else h.g i, h.v⟩
def H.put (h : H) (b : Nat) (x : Blk) : H := ⟨h.n, fun i => if i = b then x else h.g i, fun i => if i = b then h.v i + 1 else h.v i⟩
def Zj (h h' : H) : Prop := h.n <= h'.n /\ ∀ b, b < h.n -> h.g b = .dead \/ (h'.g b = h.g b /\ h'.v b = h.v b)
abbrev Fr := List (Nat × V)
def Ze : Fr -> Nat -> Option V
 | [], _ => none
 | (i, v) :: r, d => bif i == d then some v else Ze r d
def KB (F : Fr) : Option Nat -> V -> Fr
 | none, _ => F
 | some d, v => (d, v) :: F
def JP (n : Nat) (row : List S) (o : Nat) : Option (List S) := if o + n <= row.length then some ((row.drop o).take n) else none
def Qb (h : H) : V -> Option S
 | .s (.ptr (some (b, o))) => (h.cells b)[o]?
 | .s (.fp row o) => row[o]?
 | _ => none
def Qp (n : Nat) (h : H) : V -> Option (List S)
 | .s (.ptr (some (b, o))) => if b < h.n /\ o + n <= (h.cells b).length then some (((h.cells b).drop o).take n) else none
 | .s (.fp row o) => JP n row o
 | _ => none
def cellsOf : V -> Option (List S)
 | .s .no => none
 | .s x => some [x]
 | .agg cs => some cs
 | .tup _ => none
def setAt (cs : List S) (o : Nat) (xs : List S) : List S := cs.take o ++ xs ++ cs.drop (o + xs.length)
def isNo : S -> Bool
 | .no => true
 | _ => false
def vC (h : H) (x : S) : V -> Option H
 | .s (.ptr (some (b, o))) => if b < h.n /\ isNo x = false then (match h.g b with
  | .rw e cs => if o < cs.length then some (h.put b (.rw e (cs.set o x))) else none
  | _ => none) else none
 | _ => none
def vB (n : Nat) (h : H) (xs : List S) : V -> Option H
 | .s (.ptr (some (b, o))) => if b < h.n /\ xs.length = n then (match h.g b with
  | .rw e cs => if o + n <= cs.length then some (h.put b (.rw e (setAt cs o xs))) else none
  | _ => none) else none
 | _ => none
def JC (m : Nat) : V -> Option V
 | .s (.ptr (some (b, o))) => some (.s (.ptr (some (b, o + m))))
 | .s (.fp row o) => some (.s (.fp row (o + m)))
 | _ => none
def asS : V -> Option S
 | .s x => some x
 | _ => none
def asN (n : Nat) : V -> Option (List S)
 | .agg cs => if cs.length = n then some cs else none
 | _ => none
def yY (o : Nat) : V -> Option S
 | .agg cs => cs[o]?
 | _ => none
def yX (o n : Nat) : V -> Option (List S)
 | .agg cs => if o + n <= cs.length then some ((cs.drop o).take n) else none
 | _ => none
def stV (z : Nat) (h : H) (p : V) : V -> Option H
 | .s y => if z = 1 then vC h y p else none
 | .agg ys => vB z h ys p
 | .tup _ => none
open Classical in
noncomputable def hchk {R : Type} (h h' : H) (x : Option R) : Option R := if Zj h h' then x else none
def vcase {R : Type} (v : V) (a b : Option R) : Option R := match v with
 | .s (.bool true) => a
 | .s (.bool false) => b
 | _ => none
def gcase {R : Type} (v : V) (a b c : Option R) : Option R := match v with
 | .s (.bool true) => a
 | .s (.bool false) => b
 | .tup [] => c
 | _ => none
def zi (z : Nat) : V -> V -> Option V
 | .s (.sl (some (b, o)) n), .s (.int _ i) => if 0 <= i /\ i < (n : Int) then some (.s (.ptr (some (b, o + i.toNat * z)))) else none
 | .s (.fs rows), .s (.int _ i) => if 0 <= i /\ i < (rows.length : Int) then (rows[i.toNat]?).bind fun r => if r.length = z then some (.s (.fp r 0)) else none else none
 | _, _ => none
def Td (len z : Nat) : V -> V -> Option V
 | .s (.ptr (some (b, o))), .s (.int _ i) => if 0 <= i /\ i < (len : Int) then some (.s (.ptr (some (b, o + i.toNat * z)))) else none
 | .s (.fp row o), .s (.int _ i) => if 0 <= i /\ i < (len : Int) then some (.s (.fp row (o + i.toNat * z))) else none
 | _, _ => none
def Yq : V -> V -> Option V
 | .s (.str s), .s (.int _ i) => if 0 <= i /\ i < (s.size : Int) then some (.s (.int .u8 (s.get! i.toNat).toNat)) else none
 | _, _ => none
def bnd (y : Nat) : V -> Option Nat
 | .s (.int _ i) => if 0 <= i /\ i <= (y : Int) then some i.toNat else none
 | _ => none
def okE (h : H) (z b : Nat) : Bool := decide (b < h.n) && match h.g b with
 | .dead => false
 | .mp _ => false
 | .rw e _ => e == 0 || e == z
def slS (z : Nat) (hp : H) (x : V) (lo hi : Option V) : Option V := match x with
 | .s (.sl none n) =>
  (match hi with | none => some n | some v => bnd n v).bind fun h =>
  (match lo with | none => some 0 | some v => bnd h v).bind fun l => some (.s (.sl none (h - l)))
 | .s (.sl (some (b, o)) n) =>
  (match hi with | none => some n | some v => bnd n v).bind fun h =>
  (match lo with | none => some 0 | some v => bnd h v).bind fun l =>
  if okE hp z b = true then some (.s (.sl (some (b, o + l * z)) (h - l))) else none
 | .s (.fs rows) =>
  (match hi with | none => some rows.length | some v => bnd rows.length v).bind fun h =>
  (match lo with | none => some 0 | some v => bnd h v).bind fun l =>
  if ∀ r ∈ rows, r.length = z then some (.s (.fs ((rows.take h).drop l))) else none
 | _ => none
def uU (x : V) (lo hi : Option V) : Option V := match x with
 | .s (.str s) =>
  (match hi with | none => some s.size | some v => bnd s.size v).bind fun h =>
  (match lo with | none => some 0 | some v => bnd h v).bind fun l =>
  some (.s (.str (s.extract l h)))
 | _ => none
def lim : Nat := 68719476736
def Mp (z : Nat) (zero : List S) (h : H) (len cap : V) : Option (V × H) := match len, cap with
 | .s (.int _ l), .s (.int _ c) => if 0 <= l /\ l = c /\ l <= (lim : Int) /\ 0 < z /\ zero.length = z then
   some (.s (.sl (some (h.n, 0)) l.toNat), h.new z ((List.replicate l.toNat zero).flatten)) else none
 | _, _ => none
def Z6 (z : Nat) (h : H) : V -> Option (List S)
 | .s (.sl none 0) => some []
 | .s (.sl (some (b, o)) n) => if b < h.n /\ o + n * z <= (h.cells b).length then some (((h.cells b).drop o).take (n * z)) else none
 | .s (.str s) => if z = 1 then some (s.data.toList.map fun c => .int .u8 c.toNat) else none
 | .s (.fs rows) => if ∀ r ∈ rows, r.length = z then some rows.flatten else none
 | _ => none
def Uh : V -> Option Nat
 | .s (.sl _ n) => some n
 | .s (.str s) => some s.size
 | .s (.fs rows) => some rows.length
 | _ => none
def Zm (z : Nat) (h : H) (x y : V) : Option (V × H) := match x with
 | .s (.sl none n) => (Z6 z h y).bind fun ys => (Uh y).bind fun m =>
   if n = 0 /\ m <= lim /\ 0 < z then
    (if m = 0 then some (.s (.sl none 0), h) else some (.s (.sl (some (h.n, 0)) m), h.new z ys)) else none
 | .s (.sl (some (b, _)) n) => (Z6 z h x).bind fun xs => (Z6 z h y).bind fun ys => (Uh y).bind fun m =>
   if b < h.n /\ n + m <= lim /\ 0 < z then (match h.g b with
    | .rw e _ => if e = z then some (.s (.sl (some (h.n, 0)) (n + m)), (h.put b .dead).new z (xs ++ ys)) else none
    | _ => none) else none
 | _ => none
def Vw (z : Nat) (h : H) (x y : V) : Option (V × H) := match x with
 | .s (.sl none n) => (Uh y).bind fun m => (Z6 z h y).bind fun _ => some (.s (.int .i64 (Nat.min m n)), h)
 | .s (.sl (some (b, o)) n) => (Z6 z h y).bind fun ys => (Uh y).bind fun m =>
   if b < h.n then (match h.g b with
    | .rw e cs => if o + n * z <= cs.length then some (.s (.int .i64 (Nat.min m n)), h.put b (.rw e (setAt cs o (ys.take (Nat.min m n * z))))) else none
    | _ => none) else none
 | _ => none
section
variable {R : Type}
def QB (z : Nat) (rows : List (List S)) (j : Int) (k : List S -> Option R) : Option R := if 0 <= j /\ j < (rows.length : Int) then (rows[j.toNat]?).bind fun r => if r.length = z then k r else none else none
def Qd (z : Nat) (v i : V) (k : V -> Option R) : Option R := match v, i with
 | .s (.fs rows), .s (.int _ j) => QB z rows j fun r => k (.s (.fp r 0))
 | v, i => (zi z v i).bind k
def slF (z : Nat) (rows : List (List S)) (lo hi : Option V) (k : List (List S) -> Option R) : Option R :=
  (match hi with | none => some rows.length | some v => bnd rows.length v).bind fun h =>
  (match lo with | none => some 0 | some v => bnd h v).bind fun l =>
  if ∀ r ∈ rows, r.length = z then k ((rows.take h).drop l) else none
def slK (z : Nat) (hp : H) (x : V) (lo hi : Option V) (k : V -> Option R) : Option R := match x with
 | .s (.fs rows) => slF z rows lo hi fun l => k (.s (.fs l))
 | x => (slS z hp x lo hi).bind k
def j5 (h : H) (x : S) (p : V) (k : H -> Option R) : Option R := match p with
 | .s (.ptr (some (b, o))) => if b < h.n then (match h.g b with
  | .rw e cs => if o < cs.length then (bif isNo x then none else k (h.put b (.rw e (cs.set o x)))) else none
  | _ => none) else none
 | _ => none
def j4 (n : Nat) (h : H) (xs : List S) (p : V) (k : H -> Option R) : Option R := match p with
 | .s (.ptr (some (b, o))) => if b < h.n /\ xs.length = n then (match h.g b with
  | .rw e cs => if o + n <= cs.length then k (h.put b (.rw e (setAt cs o xs))) else none
  | _ => none) else none
 | _ => none
def stK (z : Nat) (h : H) (p : V) (v : V) (k : H -> Option R) : Option R := match v with
 | .s y => if z = 1 then j5 h y p k else none
 | .agg ys => j4 z h ys p k
 | .tup _ => none
def X1 (v : V) (k : List S -> Option R) : Option R := match v with
 | .s x => bif isNo x then none else k [x]
 | .agg cs => k cs
 | .tup _ => none
end
inductive TD where
 | other
 | bool
 | ptr
 | int (k : IntKind)
 | str
 | sl (e : Nat)
 | arr (n e : Nat)
 | mp (k e : Nat)
 | st (fs : List (Nat × Nat))
inductive LK where
 | i (k : IntKind)
 | b
 | s
 | x
 | f
inductive VT where
 | any
 | one (l : LK)
 | agg (ls : List LK)
 | tup (ts : List (List LK × Bool))
structure TI where
 z : Nat
 bytes : Nat
 zero : List S
 agg : Bool
 d : TD
 cmp : Bool
structure Env where
 fn : Nat -> Option Func
 ty : Nat -> Option TI
 keep : Nat -> Nat -> List Nat
 aft : Nat -> Nat -> List Nat
 sched : Nat -> Nat -> List (Nat × Nat)
 kills : Nat -> Nat -> List Nat
 mode : Nat -> Nat -> Nat
 psz : Nat -> List Nat
 vt : Nat -> VT
 st : Nat -> Nat -> VT
 vf : Nat -> VT
 rt : Nat -> VT
section
variable {R : Type}
def gI (k : IntKind) (x : S) (q : Int -> Option R) : Option R := match x with
 | .int k' n => if k' = k then q n else none
 | _ => none
def gB (x : S) (q : Bool -> Option R) : Option R := match x with
 | .bool b => q b
 | _ => none
def gS (x : S) (q : ByteArray -> Option R) : Option R := match x with
 | .str s => q s
 | _ => none
def gF (x : S) (q : List (List S) -> Option R) : Option R := match x with
 | .fs rows => q rows
 | _ => none
def gV1 (v : V) (q : S -> Option R) : Option R := match v with
 | .s x => q x
 | _ => none
def gVA (v : V) (q : List S -> Option R) : Option R := match v with
 | .agg cs => q cs
 | _ => none
def gVT (v : V) (q : List A -> Option R) : Option R := match v with
 | .tup as => q as
 | _ => none
def gA1 (a : A) (q : S -> Option R) : Option R := match a with
 | .s x => q x
 | _ => none
def gAA (a : A) (q : List S -> Option R) : Option R := match a with
 | .agg cs => q cs
 | _ => none
def tyS (l : LK) (x : S) (q : S -> Option R) : Option R := match l with
 | .i k => gI k x fun n => q (.int k n)
 | .b => gB x fun b => q (.bool b)
 | .s => gS x fun s => q (.str s)
 | .x => q x
 | .f => gF x fun rows => q (.fs rows)
def tyL : List LK -> List S -> Nat -> List S -> (List S -> Option R) -> Option R
 | [], cs, j, acc, q => if cs.length = j then q acc else none
 | l :: ls, cs, j, acc, q => (cs[j]?).bind fun x => tyS l x fun y => tyL ls cs (j + 1) (acc ++ [y]) q
def tyA (t : List LK × Bool) (a : A) (q : A -> Option R) : Option R := match t with
 | ([l], false) => gA1 a fun x => tyS l x fun y => q (.s y)
 | (ls, true) => gAA a fun cs => tyL ls cs 0 [] fun l => q (.agg l)
 | _ => none
def MQ : List (List LK × Bool) -> List A -> Nat -> List A -> (List A -> Option R) -> Option R
 | [], as, j, acc, q => if as.length = j then q acc else none
 | t :: ts, as, j, acc, q => (as[j]?).bind fun x => tyA t x fun y => MQ ts as (j + 1) (acc ++ [y]) q
def tyV (t : VT) (v : V) (q : V -> Option R) : Option R := match t with
 | .any => q v
 | .one l => gV1 v fun x => tyS l x fun y => q (.s y)
 | .agg ls => gVA v fun cs => tyL ls cs 0 [] fun l => q (.agg l)
 | .tup ts => gVT v fun as => MQ ts as 0 [] fun l => q (.tup l)
end
def Xi : TD -> V -> Option V
 | .sl _, .s (.sl _ n) => some (.s (.int .i64 n))
 | .sl _, .s (.fs rows) => some (.s (.int .i64 rows.length))
 | .str, .s (.str s) => some (.s (.int .i64 s.size))
 | _, _ => none
def eqT (E : Env) (t : Nat) (x y : V) : Option Bool := (E.ty t).bind fun ti => match ti.d, x, y with
 | .bool, .s (.bool a), .s (.bool b) => some (a == b)
 | .sl _, .s (.sl none _), .s (.sl b _) => some b.isNone
 | .sl _, .s (.sl (some _) _), .s (.sl none _) => some false
 | .ptr, .s (.ptr none), .s (.ptr b) => some b.isNone
 | .ptr, .s (.ptr (some _)), .s (.ptr none) => some false
 | _, _, _ => none
def Nf (E : Env) (f : Nat -> List S -> List S -> Option Bool) (xs ys : List S) : List (Nat × Nat) -> Option Bool
 | [] => some true
 | (o, t) :: r => (E.ty t).bind fun tf => (f t ((xs.drop o).take tf.z) ((ys.drop o).take tf.z)).bind fun b => (Nf E f xs ys r).bind fun c => some (b && c)
def eqB : S -> S -> Option Bool
 | .bool a, .bool b => some (a == b)
 | _, _ => none
def eqI : S -> S -> Option Bool
 | .int k a, .int k' b => if k = k' then some (a == b) else none
 | _, _ => none
def eqS : S -> S -> Option Bool
 | .str a, .str b => some (a.toList == b.toList)
 | _, _ => none
def eq1 (f : S -> S -> Option Bool) : List S -> List S -> Option Bool
 | [a], [b] => f a b
 | _, _ => none
def eqC (E : Env) : Nat -> Nat -> List S -> List S -> Option Bool
 | 0, _, _, _ => none
 | d + 1, t, xs, ys => (E.ty t).bind fun ti => match ti.d with
  | .st fs => bif ti.cmp then Nf E (eqC E d) xs ys fs else none
  | .bool => eq1 eqB xs ys
  | .int _ => eq1 eqI xs ys
  | .str => eq1 eqS xs ys
  | .arr n e => (E.ty e).bind fun te => Nf E (eqC E d) xs ys ((List.range n).map fun i => (i * te.z, e))
  | _ => none
def eqA (E : Env) (t : Nat) (xs ys : List S) : Option Bool := (E.ty t).bind fun ti => match ti.d with
 | .st _ => eqC E 8 t xs ys
 | _ => none
def plS : S -> Bool
 | .int _ _ => true
 | .bool _ => true
 | .str _ => true
 | _ => false
def plA : A -> Bool
 | .s x => plS x
 | .agg cs => cs.all plS
def B6 : List S -> List S -> Bool
 | [], [] => true
 | .int k a :: r, .int j b :: q => decide (k = j) && decide (a = b) && B6 r q
 | _, _ => false
def Jx (E : Env) (kt : Nat) (ks : List S) : List (List S × A) -> Nat -> Option (Option (Nat × List S × A))
 | [], _ => some none
 | e :: r, i => (eqC E 8 kt ks e.1).bind fun b => bif b then some (some (i, e)) else Jx E kt ks r (i + 1)
def Vg (h : H) : V -> Option (Nat × List (List S × A))
 | .s (.mp (some b)) => if b < h.n then (match h.g b with
  | .mp es => some (b, es)
  | _ => none) else none
 | _ => none
def Bg (ti : TI) : Option A := bif ti.agg then some (.agg ti.zero) else (match ti.zero with
 | [x] => some (.s x)
 | _ => none)
def NZ (E : Env) (t : Nat) (kv : V) : Option (Nat × Nat × List S) := (E.ty t).bind fun ti => match ti.d, kv with
 | .mp kt et, .agg ks => (E.ty kt).bind fun tk => bif tk.agg then (eqC E 8 kt ks ks).bind fun _ => some (kt, et, ks) else none
 | _, _ => none
def JQ (E : Env) (t : Nat) (c : Bool) (h : H) (m kv : V) : Option V :=
 (Vg h m).bind fun q => (NZ E t kv).bind fun k => (E.ty k.2.1).bind fun te => (Bg te).bind fun z => (Jx E k.1 k.2.2 q.2 0).bind fun r =>
  match r with
  | some e => some (bif c then .tup [e.2.2, .s (.bool true)] else e.2.2.v)
  | none => some (bif c then .tup [z, .s (.bool false)] else z.v)
def Gv (E : Env) (t : Nat) (h : H) (m kv y : V) : Option H :=
 (Vg h m).bind fun q => (NZ E t kv).bind fun k => y.toA.bind fun a => bif k.2.2.all plS && plA a then (Jx E k.1 k.2.2 q.2 0).bind fun r =>
  (match r with
  | some e => bif B6 k.2.2 e.2.1 then some (h.put q.1 (.mp (q.2.set e.1 (k.2.2, a)))) else none
  | none => some (h.put q.1 (.mp (q.2 ++ [(k.2.2, a)])))) else none
def RA (op : BinOp) (k : IntKind) (a b : Int) : Option Int :=
 let x := BitVec.ofInt k.bits a
 let y := BitVec.ofInt k.bits b
 match op with
 | .and => some (k.wrap (x &&& y).toNat)
 | .or => some (k.wrap (x ||| y).toNat)
 | .xor => some (k.wrap (x ^^^ y).toNat)
 | .andNot => some (k.wrap (x &&& ~~~y).toNat)
 | _ => none
def Ns (op : BinOp) (k : IntKind) (a b : Int) : Option V := match op with
 | .add => some (.s (.int k (k.wrap (a + b))))
 | .sub => some (.s (.int k (k.wrap (a - b))))
 | .mul => some (.s (.int k (k.wrap (a * b))))
 | .quo => if b = 0 then none else some (.s (.int k (k.wrap (a.tdiv b))))
 | .rem => if b = 0 then none else some (.s (.int k (a.tmod b)))
 | .eql => some (.s (.bool (a == b)))
 | .neq => some (.s (.bool (a != b)))
 | .lss => some (.s (.bool (decide (a < b))))
 | .leq => some (.s (.bool (decide (a <= b))))
 | .gtr => some (.s (.bool (decide (a > b))))
 | .geq => some (.s (.bool (decide (a >= b))))
 | op => (RA op k a b).bind fun n => some (.s (.int k n))
def uE (op : BinOp) (a b : ByteArray) : Option V := match op with
 | .add => if a.size + b.size <= lim then some (.s (.str (a ++ b))) else none
 | .eql => some (.s (.bool (a.toList == b.toList)))
 | .neq => some (.s (.bool (!(a.toList == b.toList))))
 | _ => none
def bin (E : Env) (op : BinOp) (t : Nat) (x y : V) : Option V := match op, x, y with
 | .shl, .s (.int k a), .s (.int _ b) => if b < 0 then none else some (.s (.int k (k.wrap (a * 2 ^ (min b.toNat k.bits)))))
 | .shr, .s (.int k a), .s (.int _ b) => if b < 0 then none else some (.s (.int k (a.fdiv (2 ^ (min b.toNat k.bits)))))
 | op, .s (.int k a), .s (.int k' b) => if k = k' then Ns op k a b else none
 | op, .s (.str a), .s (.str b) => uE op a b
 | .eql, .agg xs, .agg ys => (eqA E t xs ys).bind fun b => some (.s (.bool b))
 | .neq, .agg xs, .agg ys => (eqA E t xs ys).bind fun b => some (.s (.bool (!b)))
 | .eql, x, y => (eqT E t x y).bind fun b => some (.s (.bool b))
 | .neq, x, y => (eqT E t x y).bind fun b => some (.s (.bool (!b)))
 | _, _, _ => none
def uN : V -> Option V
 | .s (.bool b) => some (.s (.bool (!b)))
 | _ => none
def uO : V -> Option V
 | .s (.int k a) => some (.s (.int k (k.wrap (-a))))
 | _ => none
def cvI (k : IntKind) : V -> Option V
 | .s (.int _ a) => some (.s (.int k (k.wrap a)))
 | _ => none
def UO : List S -> Option (List UInt8)
 | [] => some []
 | .int .u8 n :: r => (UO r).bind fun l => if 0 <= n /\ n < 256 then some (UInt8.ofNat n.toNat :: l) else none
 | _ => none
def Bs (rows : List (List S)) : Option V := (if ∀ r ∈ rows, r.length = 1 then some rows.flatten else none).bind fun cs => (UO cs).bind fun l => if rows.length <= lim then some (.s (.str ⟨l.toArray⟩)) else none
def Mg (h : H) (x : V) : Option V := match x with
 | .s (.sl _ n) => (Z6 1 h x).bind fun cs => (UO cs).bind fun l => if n <= lim then some (.s (.str ⟨l.toArray⟩)) else none
 | .s (.fs rows) => (Z6 1 h x).bind fun cs => (UO cs).bind fun l => if rows.length <= lim then some (.s (.str ⟨l.toArray⟩)) else none
 | _ => none
def MJ (h : H) : V -> Option (V × H)
 | .s (.str s) => if s.size <= lim then some (.s (.sl (some (h.n, 0)) s.size), h.new 1 (s.data.toList.map fun c => .int .u8 c.toNat)) else none
 | _ => none
def Q2w (i : Nat) : V -> Option V
 | .tup vs => vs[i]?.map A.v
 | _ => none
def GH : V -> Option V
 | .s (.ptr (some p)) => some (.s (.ptr (some p)))
 | .s (.fp row o) => some (.s (.fp row o))
 | _ => none
def Ru : Value -> Option S
 | .bool b => some (.bool b)
 | .int k n => some (.int k n)
 | .string s => some (.str s)
 | .pointer none => some (.ptr none)
 | .slice none 0 0 => some (.sl none 0)
 | .nilFunc => some .nofn
 | .map none => some (.mp none)
 | _ => none
def Gt : List Value -> Option (List S)
 | [] => some []
 | v :: r => (Ru v).bind fun x => (Gt r).bind fun l => some (x :: l)
def zF : Value -> Option V
 | .agg cs => (Gt cs.toList).bind fun l => some (.agg l)
 | v => (Ru v).bind fun x => some (.s x)
def opd (F : Fr) : Operand -> Option V
 | .tmp t => Ze F t
 | .const v => zF v
 | .func f => some (.s (.fn f []))
 | .global _ => none
def WQ (F : Fr) : List Operand -> Option (List V)
 | [] => some []
 | x :: r => (opd F x).bind fun v => (WQ F r).bind fun l => some (v :: l)
def qP : List V -> Option (List (Nat × Nat))
 | [] => some []
 | .s (.ptr (some p)) :: r => (qP r).bind fun l => some (p :: l)
 | _ => none
section
variable {R : Type} (E : Env)
def Jm (place : Nat -> Option (Nat × Nat)) (F : Fr) : List (Nat × Operand) -> List S -> (List S -> Option R) -> Option R
 | [], cs, k => k cs
 | (i, x) :: r, cs, k => (opd F x).bind fun v => (place i).bind fun p =>
   X1 v fun xs => if xs.length = p.2 /\ p.1 + p.2 <= cs.length then Jm place F r (setAt cs p.1 xs) k else none
def Mz (fs : List (Nat × Nat)) (i : Nat) : Option (Nat × Nat) := fs[i]?.bind fun p => (E.ty p.2).bind fun ti => some (p.1, ti.z)
def ldT (ti : TI) (h : H) (a : V) (k : V -> Option R) : Option R :=
 bif ti.agg then (Qp ti.z h a).bind fun cs => k (.agg cs) else (Qb h a).bind fun x => k (.s x)
def ldK (t : VT) (ti : TI) (h : H) (a : V) (k : V -> Option R) : Option R := match a with
 | .s (.fp row o) => ldT ti h (.s (.fp row o)) fun v => tyV t v k
 | a => ldT ti h a k
def op1 (F : Fr) (h : H) (o : Op) (k : V -> H -> Option R) : Option R := match o with
 | .move x => (opd F x).bind fun v => k v h
 | .assign x => (opd F x).bind fun v => k v h
 | .pick c a b => (opd F c).bind fun v => vcase v ((opd F a).bind fun v => k v h) ((opd F b).bind fun v => k v h)
 | .alloc t => (E.ty t).bind fun ti => k (.s (.ptr (some (h.n, 0)))) (h.new 0 ti.zero)
 | .box _ x => (opd F x).bind fun v => X1 v fun cs => k (.s (.ptr (some (h.n, 0)))) (h.new 0 cs)
 | .build t ps => (E.ty t).bind fun ti => match ti.d with
  | .st fs => Jm (Mz E fs) F ps.toList ti.zero fun cs => k (.agg cs) h
  | .arr _ e => (E.ty e).bind fun te => Jm (fun i => some (i * te.z, te.z)) F ps.toList ti.zero fun cs => k (.agg cs) h
  | _ => none
 | .buildSlice t len ps => (E.ty t).bind fun ti => match ti.d with
  | .sl e => (E.ty e).bind fun te => if len * te.z <= 16777216 /\ 0 < te.z then
    Jm (fun i => some (i * te.z, te.z)) F ps.toList ((List.replicate len te.zero).flatten) fun cs => k (.s (.sl (some (h.n, 0)) len)) (h.new te.z cs) else none
  | _ => none
 | .load t a => (E.ty t).bind fun ti => (opd F a).bind fun v => ldK (E.vf t) ti h v fun v => k v h
 | .store t a x => (E.ty t).bind fun ti => (opd F a).bind fun p => (opd F x).bind fun v => stK ti.z h p v fun h' => k (.s .no) h'
 | .nilCheck x => (opd F x).bind fun v => (GH v).bind fun v => k v h
 | .binOp op t x y _ => (opd F x).bind fun a => (opd F y).bind fun b => (bin E op t a b).bind fun v => k v h
 | .unOp op _ x => (opd F x).bind fun a => match op with
  | .not => (uN a).bind fun v => k v h
  | .neg => (uO a).bind fun v => k v h
  | _ => none
 | .convert s t x => (E.ty s).bind fun si => (E.ty t).bind fun ti => (opd F x).bind fun v => match si.d, ti.d with
  | .int _, .int q => (cvI q v).bind fun v => k v h
  | .str, .str => (match v with | .s (.str _) => k v h | _ => none)
  | .str, .sl e => (E.ty e).bind fun te => (match te.d with
   | .int .u8 => (MJ h v).bind fun p => k p.1 p.2
   | _ => none)
  | .sl e, .str => (E.ty e).bind fun te => (match te.d with
   | .int .u8 => (Mg h v).bind fun v => k v h
   | _ => none)
  | _, _ => none
 | .makeSlice t l c => (E.ty t).bind fun ti => (opd F l).bind fun l => (opd F c).bind fun c => match ti.d with
  | .sl e => (E.ty e).bind fun te => (Mp te.z te.zero h l c).bind fun p => k p.1 p.2
  | _ => none
 | .slice t x lo hi mx => if mx.isSome then none else (E.ty t).bind fun ti => (opd F x).bind fun x =>
   (match lo with | none => some none | some y => (opd F y).bind fun v => some (some v)).bind fun lo =>
   (match hi with | none => some none | some y => (opd F y).bind fun v => some (some v)).bind fun hi => match ti.d with
   | .sl e => (E.ty e).bind fun te => slK te.z h x lo hi fun v => k v h
   | .str => (uU x lo hi).bind fun v => k v h
   | _ => none
 | .fieldAddr t x i => (E.ty t).bind fun ti => (opd F x).bind fun v => match ti.d with
  | .st fs => fs[i]?.bind fun f => (E.ty f.2).bind fun tf => if tf.z = 0 then none else (JC f.1 v).bind fun v => k v h
  | _ => none
 | .field t x i => (E.ty t).bind fun ti => (opd F x).bind fun v => match ti.d with
  | .st fs => fs[i]?.bind fun f => (E.ty f.2).bind fun tf => (bif tf.agg then (yX f.1 tf.z v).bind fun cs => k (.agg cs) h else (yY f.1 v).bind fun x => k (.s x) h)
  | _ => none
 | .indexAddr t x i => (E.ty t).bind fun ti => (opd F x).bind fun v => (opd F i).bind fun i => match ti.d with
  | .sl e => (E.ty e).bind fun te => Qd te.z v i fun v => k v h
  | .arr n e => (E.ty e).bind fun te => (Td n te.z v i).bind fun v => k v h
  | _ => none
 | .index t x i => (E.ty t).bind fun ti => (opd F x).bind fun v => (opd F i).bind fun i => match ti.d with
  | .str => (Yq v i).bind fun v => k v h
  | _ => none
 | .extract t i => (opd F t).bind fun v => (Q2w i v).bind fun v => k v h
 | .makeFunc fn first caps => if first.size = 0 then (match fn with
  | .func f => (WQ F caps.toList).bind fun l => (qP l).bind fun ps => k (.s (.fn f ps)) h
  | _ => none) else none
 | .makeMap _ none => k (.s (.mp (some h.n))) h.newM
 | .lookup t x i c => (opd F x).bind fun m => (opd F i).bind fun kv => (JQ E t c h m kv).bind fun v => k v h
 | .mapUpdate t m x y => (opd F m).bind fun m => (opd F x).bind fun kv => (opd F y).bind fun y => (Gv E t h m kv y).bind fun h' => k (.s .no) h'
 | _ => none
inductive Out where
 | normal (F : Fr) (h : H)
 | ret (v : V) (h : H)
 | exit (i : Nat) (F : Fr) (h : H)
inductive LOut where
 | done (l : List V) (h : H)
 | ret (v : V) (h : H)
def Mo (F : Fr) (h : H) : List ResultVar -> (List A -> Option R) -> Option R
 | [], k => k []
 | .tmp t :: r, k => (Ze F t).bind fun v => v.toA.bind fun a => Mo F h r fun l => k (a :: l)
 | .cell a t :: r, k => (E.ty t).bind fun ti => (Ze F a).bind fun p => ldT ti h p fun v => v.toA.bind fun a => Mo F h r fun l => k (a :: l)
def GD (F : Fr) (h : H) (rs : List ResultVar) (k : V -> Option R) : Option R := match rs with
 | [.tmp t] => (Ze F t).bind k
 | [.cell a t] => (E.ty t).bind fun ti => (Ze F a).bind fun p => ldT ti h p k
 | rs => Mo E F h rs fun l => k (.tup l)
def Qz {R : Type} (o : LOut) (f : List V -> H -> Option R) (g : V -> H -> Option R) : Option R := match o with
 | .done l h => f l h
 | .ret v h => g v h
def Wb {R : Type} (st : Nat -> VT) (l : List V) : List Nat -> Nat -> Fr -> (Fr -> Option R) -> Option R
 | [], _, F, k => k F
 | i :: r, j, F, k => (l[j]?).bind fun v => tyV (st i) v fun v => Wb st l r (j + 1) ((i, v) :: F) k
def YQ (e n : Nat) (cs : List S) : List (List S) := (List.range n).map fun i => (cs.drop (i * e)).take e
def mapO (f : S -> Option S) : List S -> Option (List S)
 | [] => some []
 | s :: r => (f s).bind fun x => (mapO f r).bind fun l => some (x :: l)
def Qy (h : H) : Nat -> S -> Option S
 | _, .no => none
 | _, .bool b => some (.bool b)
 | _, .int k n => some (.int k n)
 | _, .str s => some (.str s)
 | _, .nofn => some .nofn
 | _, .mp _ => none
 | _, .fn f cap => if cap = [] then some (.fn f []) else none
 | _, .fs rows => some (.fs rows)
 | _, .fp row o => some (.fp row o)
 | _, .ptr none => some (.ptr none)
 | _, .sl none n => if n = 0 then some (.fs []) else none
 | 0, .sl (some _) n => if n = 0 then some (.fs []) else none
 | 0, .ptr (some _) => none
 | k + 1, .sl (some (b, o)) n => if n = 0 then some (.fs []) else if b < h.n then (match h.g b with
   | .rw e cs => if 0 < e /\ o + n * e <= cs.length then (mapO (Qy h k) ((cs.drop o).take (n * e))).bind fun l => some (.fs (YQ e n l)) else none
   | _ => none) else none
 | k + 1, .ptr (some (b, o)) => if b < h.n then (match h.g b with
   | .rw e cs => if e = 0 then (mapO (Qy h k) cs).bind fun l => some (.fp l o)
     else if (o / e + 1) * e <= cs.length then (mapO (Qy h k) ((cs.drop (o / e * e)).take e)).bind fun l => some (.fp l (o % e)) else none
   | _ => none) else none
def Yf (h : H) : A -> Option A
 | .s x => (Qy h 8 x).bind fun y => some (.s y)
 | .agg cs => (mapO (Qy h 8) cs).bind fun l => some (.agg l)
def KY (h : H) : List A -> Option (List A)
 | [] => some []
 | a :: r => (Yf h a).bind fun b => (KY h r).bind fun l => some (b :: l)
def QL (h : H) : V -> Option V
 | .s x => (Qy h 8 x).bind fun y => some (.s y)
 | .agg cs => (mapO (Qy h 8) cs).bind fun l => some (.agg l)
 | .tup as => (KY h as).bind fun l => some (.tup l)
def Qt (h : H) : List V -> Option (List V)
 | [] => some []
 | a :: r => (QL h a).bind fun b => (Qt h r).bind fun l => some (b :: l)
def ZL : S -> Bool
 | .fs [] => true
 | .fs _ => false
 | .fp _ _ => false
 | _ => true
def RM : A -> Bool
 | .s x => ZL x
 | .agg cs => cs.all ZL
def scaV : V -> Bool
 | .s x => ZL x
 | .agg cs => cs.all ZL
 | .tup as => as.all RM
def NT : S -> Bool
 | .sl _ n => n == 0
 | .mp _ => false
 | .ptr (some _) => false
 | .fn _ cap => cap.isEmpty
 | _ => true
def vO : A -> Bool
 | .s x => NT x
 | .agg cs => cs.all NT
def Z5 : V -> Bool
 | .s x => NT x
 | .agg cs => cs.all NT
 | .tup as => as.all vO
def QR (n : Nat) : S -> Bool
 | .sl (some (b, _)) _ => decide (b < n)
 | .ptr (some (b, _)) => decide (b < n)
 | .fn _ cap => cap.all fun p => decide (p.1 < n)
 | .mp (some b) => decide (b < n)
 | _ => true
def uH (n : Nat) : A -> Bool
 | .s x => QR n x
 | .agg cs => cs.all (QR n)
def ZM (n : Nat) : V -> Bool
 | .s x => QR n x
 | .agg cs => cs.all (QR n)
 | .tup as => as.all (uH n)
def jF (h : H) (l : List V) (h' : H) : Prop := h.n <= h'.n /\ l.all (ZM h.n) = true /\ ∀ b, b < h.n -> (h'.g b = h.g b /\ h'.v b = h.v b) \/ (h'.g b).cells.all (QR h.n) = true
open Classical in
noncomputable def tidy (h : H) (l : List V) (h' : H) : H := if jF h l h' then ⟨h.n, fun b => if b < h.n then h'.g b else h.g b, fun b => if b < h.n then h'.v b else h.v b⟩ else h'
def D (n : Nat) : H := ⟨n, fun _ => .dead, fun _ => 0⟩
def H.over (h h1 : H) : H := ⟨(h1.n - h.n) + h.n, fun b => if b < h.n then h.g b else h1.g b, fun b => if b < h.n then h.v b else h.v b + h1.v b⟩
def H.gone (h : H) : H := ⟨h.n, fun _ => .dead, fun b => h.v b + 1⟩
def Q2I (n : Nat) (p : V × H) : Prop := scaV p.1 = true /\ ∀ b, n <= b -> b < p.2.n -> ∀ s ∈ (p.2.g b).cells, ZL s = true
def Kk (n : Nat) (h : H) : H := ⟨h.n, fun b => if n <= b /\ b < h.n /\ (h.g b).cells.all ZL = false then .dead else h.g b, h.v⟩
open Classical in
noncomputable def YV {R : Type} (c : Prop) (x : Option R) : Option R := if c then x else none
def Q05 (z : Nat) : V -> V
 | .s (.fp row o) => bif z != 0 && decide (o + z <= row.length) then .s (.fp ((row.drop o).take z) 0) else .s (.fp row o)
 | v => v
def Qr : List Nat -> List V -> List V
 | z :: zs, v :: vs => Q05 z v :: Qr zs vs
 | _, vs => vs
def Q8 (cl : Nat -> List V -> H -> Option (V × H)) (g : Nat) (xs : List V) : Option V := (cl g xs (D 0)).bind fun p => QL p.2 p.1
def Q9 {R : Type} (cl : Nat -> List V -> H -> Option (V × H)) (g : Nat) (xs : List V) (k : V -> Option R) : Option R := (Q8 cl g xs).bind fun v => bif scaV v then k v else none
noncomputable def Qj {R : Type} (cl : Nat -> List V -> H -> Option (V × H)) (g : Nat) (off : Bool) (xs : List V) (h : H) (k : V -> H -> Option R) : Option R :=
 (cl g xs (D h.n)).bind fun p => YV (off = true \/ scaV p.1 = true) (k p.1 (h.over (bif off then p.2 else Kk h.n p.2)))
noncomputable def K5 {R : Type} (E : Env) (f : Nat) (cl : Nat -> List V -> H -> Option (V × H)) (d : Option Nat) (g : Nat) (as : List V) (h : H) (k : V -> H -> Option R) : Option R :=
 match (match d with | none => 0 | some t => E.mode f t) with
  | 0 => (cl g as h).bind fun p => k p.1 (tidy h [p.1] p.2)
  | 1 => (Qt h as).bind fun xs => Q9 cl g (Qr (E.psz g) xs) fun v => tyV (E.rt g) v fun v => k v h
  | 2 => (Qt h as).bind fun xs => Qj cl g (as.all Z5) (Qr (E.psz g) xs) h k
  | 3 => bif as.all Z5 then (Qt h as).bind fun xs => (Q8 cl g (Qr (E.psz g) xs)).bind fun v => tyV (E.rt g) v fun v => k v h else none
  | _ => (Qt h as).bind fun xs => (Q8 cl g (Qr (E.psz g) xs)).bind fun v => tyV (E.rt g) v fun v => k v h.gone
variable (cl : Option Nat -> Nat -> List V -> H -> (V -> H -> Option R) -> Option R) (lp : Nat -> Func -> Nat -> Code -> List V -> H -> Option LOut)
def Y7 (d : Option Nat) (F : Fr) (h : H) (c : Call) (k : V -> H -> Option R) : Option R := match c.callee with
 | .value x => (opd F x).bind fun v => (WQ F c.args.toList).bind fun as => (match v with
  | .s (.fn f caps) => cl d f (as ++ caps.map fun p => .s (.ptr (some p))) h k
  | _ => none)
 | .builtin b => (WQ F c.args.toList).bind fun as => match b, as with
  | .len, [x] => c.argTypes[0]?.bind fun t => (E.ty t).bind fun ti => (match ti.d with
   | .mp _ _ => (Vg h x).bind fun q => k (.s (.int .i64 q.2.length)) h
   | d => (Xi d x).bind fun v => k v h)
  | .append, [x, y] => c.argTypes[0]?.bind fun t => (E.ty t).bind fun ti => c.argTypes[1]?.bind fun t1 => (E.ty t1).bind fun ti1 => (match ti.d, ti1.d with
   | .sl e, .sl _ => (E.ty e).bind fun te => (Zm te.z h x y).bind fun p => k p.1 p.2
   | .sl e, .str => (E.ty e).bind fun te => (Zm te.z h x y).bind fun p => k p.1 p.2
   | _, _ => none)
  | .copy, [x, y] => c.argTypes[0]?.bind fun t => (E.ty t).bind fun ti => (match ti.d with
   | .sl e => (E.ty e).bind fun te => (Vw te.z h x y).bind fun p => k p.1 p.2
   | _ => none)
  | _, _ => none
 | _ => none
def J9 (F : Fr) (h : H) (o : Oper) (k : V -> H -> Option R) : Option R := match o.op with
 | .call c => Y7 E cl o.dst F h c k
 | op => op1 E F h op k
def Ub (all : Array Oper) (j : Nat) : Option Nat := all[j]?.bind fun o => o.dst
def free (all : Array Oper) (j : Nat) : Bool := match all[j]? with
 | some o => o.guard.isNone
 | none => true
def qd (E : Env) (o : Oper) : VT := match o.op with
 | .move _ | .assign _ | .pick .. => .any
 | _ => E.vt o.type
def gOp (all : Array Oper) (F : Fr) (h : H) (o : Oper) (k : Fr -> H -> Option R) : Option R := match o.guard with
 | none => J9 E cl F h o fun v h => tyV (qd E o) v fun v => k (KB F o.dst v) h
 | some (j, want) => (Ub all j).bind fun t => (Ze F t).bind fun v =>
   gcase v
    (bif want then J9 E cl ((t, .s (.bool true)) :: F) h o fun v h => tyV (qd E o) v fun v => k (KB ((t, .s (.bool true)) :: F) o.dst v) h else k (KB ((t, .s (.bool true)) :: F) o.dst (.tup [])) h)
    (bif want then k (KB ((t, .s (.bool false)) :: F) o.dst (.tup [])) h else J9 E cl ((t, .s (.bool false)) :: F) h o fun v h => tyV (qd E o) v fun v => k (KB ((t, .s (.bool false)) :: F) o.dst v) h)
    (bif free all j then none else k (KB ((t, .tup []) :: F) o.dst (.tup [])) h)
def U0 (all : Array Oper) : List Oper -> Fr -> H -> (Fr -> H -> Option R) -> Option R
 | [], F, h, k => k F h
 | o :: r, F, h, k => gOp E cl all F h o fun F h => U0 all r F h k
def Jk (E : Env) : Op -> Bool
 | .move _ | .assign _ | .pick .. | .build .. | .load .. | .nilCheck _ | .binOp .. | .unOp .. | .fieldAddr .. | .field .. | .indexAddr .. | .index .. | .extract .. => true
 | .slice .. => true
 | .call c => match c.callee with
  | .builtin .len => (match c.argTypes[0]? with
   | some t => (match E.ty t with
    | some ti => (match ti.d with
     | .mp _ _ => false
     | _ => true)
    | none => true)
   | none => true)
  | _ => false
 | .makeFunc .. => true
 | .convert s t _ => match E.ty s, E.ty t with
  | some si, some ti => (match si.d, ti.d with
   | .int _, .int _ => true
   | .sl _, .str => true
   | _, _ => false)
  | _, _ => false
 | _ => false
def Mq (E : Env) : Op -> Bool
 | .load .. => false
 | .convert s t _ => match E.ty s, E.ty t with
  | some si, some ti => (match si.d, ti.d with
   | .int _, .int _ => true
   | _, _ => false)
  | _, _ => false
 | o => Jk E o
def T5 {R : Type} (d : Option Nat) (F : Fr) (x : Option R) : Option R := match d with
 | none => x
 | some d => (Ze F d).bind fun v => bif scaV v then x else none
def Q2R (all : Array Oper) (o : Oper) : List Nat := (match o.op with
 | .load _ (.tmp t) => [t]
 | _ => []) ++ (match o.guard with
 | none => []
 | some (j, _) => (Ub all j).toList)
def N5 : S -> Bool
 | .bool _ => true
 | .int _ _ => true
 | .str _ => true
 | .fs _ => true
 | .fp _ _ => true
 | _ => false
def PV : V -> Bool
 | .s x => N5 x
 | .agg cs => cs.all N5
 | .tup _ => false
def Bo (F : Fr) (o : Oper) : Bool := match o.op with
 | .call c => (match c.callee with
  | .value x => (match opd F x with
   | some (.s (.fn _ [])) => (match WQ F c.args.toList with
    | some as => as.all PV
    | none => false)
   | _ => false)
  | _ => false)
 | _ => false
def NE : Operand -> List Nat
 | .tmp t => [t]
 | _ => []
def zU (o : Oper) : List Nat := match o.op with
 | .call c => (match c.callee with
  | .value x => NE x
  | _ => []) ++ (c.args.toList.map NE).flatten
 | _ => []
def PT (F : Fr) : List Nat -> Option Fr
 | [] => some []
 | i :: r => (Ze F i).bind fun v => (PT F r).bind fun l => some ((i, v) :: l)
noncomputable def QP (all : Array Oper) (h0 : H) : List (Nat × Nat) -> Fr -> H -> (Fr -> H -> Option R) -> Option R
 | [], F, h, k => k F h
 | (i, 0) :: r, F, h, k => (all[i]?).bind fun o => gOp E cl all F h0 o fun F _ => QP all h0 r F h k
 | (i, 1) :: r, F, h, k => (all[i]?).bind fun o => gOp E cl all F h o fun F h' => hchk h0 h' (bif r.all (fun p => p.2 != 0) then QP all h0 r F h' k else T5 o.dst F (QP all h0 r F h' k))
 | (i, 2) :: r, F, h, k => (all[i]?).bind fun o => gOp E cl all F h o fun F h' => QP all h0 r F h' k
 | (i, 3) :: r, F, h, k => (all[i]?).bind fun o => gOp E cl all F h o fun F _ => QP all h0 r F h k
 | (i, 5) :: r, F, h, k => (all[i]?).bind fun o => gOp E cl all F h o fun F h' => QP all h0 r F h' k
 | (i, 6) :: r, F, h, k => (all[i]?).bind fun o => o.dst.bind fun d => bif (Ze F d).isNone then gOp E cl all F h o fun F h' => QP all h0 r F h' k else none
 | (i, 7) :: r, F, h, k => (all[i]?).bind fun o => o.dst.bind fun d => bif (Ze F d).isNone && Bo F o then gOp E cl all F h o fun F h' => QP all h0 r F h' k else none
 | (i, 8) :: r, F, h, k => (all[i]?).bind fun o => gOp E cl all F h o fun F h' => hchk h0 h' (QP all h0 r F h' k)
 | (i, _) :: r, F, h, k => (all[i]?).bind fun o => (PT F (Q2R all o)).bind fun L => bif L.all (fun p => scaV p.2) then gOp E cl all L h0 o fun F' _ => QP all h0 r (F' ++ F) h k else none
def PW (v : V) (h : H) (k : H -> Option R) : Option R := match v with
 | .s (.ptr (some (b, _))) => k (h.put b .dead)
 | .s (.sl (some (b, _)) _) => k (h.put b .dead)
 | .s (.sl none _) => k h
 | _ => none
def UF (F : Fr) : List Nat -> H -> (H -> Option R) -> Option R
 | [], h, k => k h
 | i :: r, h, k => (Ze F i).bind fun v => PW v h fun h => UF F r h k
def mkF : List Nat -> List V -> Fr
 | i :: r, v :: l => (i, v) :: mkF r l
 | _, _ => []
def G7 (F : Fr) : List Nat -> Option (List V)
 | [] => some []
 | i :: r => (Ze F i).bind fun v => (G7 F r).bind fun l => some (v :: l)
noncomputable def code (f : Nat) (fn : Func) : Code -> Fr -> H -> (Out -> Option R) -> Option R
 | .skip, F, h, k => k (.normal F h)
 | .region id ops draw, F, h, k => bif draw then UF F (E.kills f id) h fun h0 => QP E cl ops h0 (E.sched f id) F h fun F h => k (.normal F h)
   else U0 E cl ops ops.toList F h fun F h => k (.normal F h)
 | .seq a b, F, h, k => code f fn a F h fun o => match o with
  | .normal F h => code f fn b F h k
  | o => k o
 | .cond c a b, F, h, k => (opd F c).bind fun v => vcase v (code f fn a F h k) (code f fn b F h k)
 | .block id (.loop body), F, h, k => (G7 F (E.keep f id)).bind fun l => (lp f fn id body l h).bind fun o => Qz o (fun l h => Wb (E.st f) l (E.aft f id) 0 [] fun F => k (.normal F h)) fun v h => k (.ret v h)
 | .block id body, F, h, k => code f fn body F h fun o => match o with
  | .exit i F h => bif i == id then k (.normal F h) else k (.exit i F h)
  | o => k o
 | .exit id, F, h, k => k (.exit id F h)
 | .ret, F, h, k => GD E F h fn.results.toList fun v => k (.ret v h)
 | _, _, _, _ => none
end
def Na : Nat -> List V -> Fr
 | _, [] => []
 | i, v :: r => (i, v) :: Na (i + 1) r
noncomputable def Nn (E : Env) (cl : Nat -> List V -> H -> Option (V × H)) (lp : Nat -> Func -> Nat -> Code -> List V -> H -> Option LOut) (f : Nat) (args : List V) (h : H) : Option (V × H) :=
 (E.fn f).bind fun fn => fn.body.bind fun c => code E (K5 E f cl) lp f fn c (Na 0 args) h fun o => match o with
  | .normal F h => GD E F h fn.results.toList fun v => some (v, h)
  | .ret v h => some (v, h)
  | .exit _ _ _ => none
noncomputable def Bq (E : Env) (cl : Nat -> List V -> H -> Option (V × H)) (lp : Nat -> Func -> Nat -> Code -> List V -> H -> Option LOut) (f : Nat) (fn : Func) (id : Nat) (body : Code) (l : List V) (h : H) : Option LOut :=
 code E (K5 E f cl) lp f fn body (mkF (E.keep f id) l) h fun o => match o with
  | .normal F h' => (G7 F (E.keep f id)).bind fun l => lp f fn id body l (tidy h l h')
  | .exit i F h' => bif i == id then (G7 F (E.aft f id)).bind fun l => some (.done l (tidy h l h')) else none
  | .ret v h => some (.ret v h)
noncomputable def KJ (E : Env) : Nat -> (Nat -> List V -> H -> Option (V × H)) × (Nat -> Func -> Nat -> Code -> List V -> H -> Option LOut)
 | 0 => (fun _ _ _ => none, fun _ _ _ _ _ _ => none)
 | n + 1 => (Nn E (KJ E n).1 (KJ E n).2, Bq E (KJ E n).1 (KJ E n).2)
open Classical in
noncomputable def zf {α : Type} (g : Nat -> Option α) : Option α := if h : ∃ r n, g n = some r then some (choose h) else none
noncomputable def call (E : Env) (f : Nat) (args : List V) (h : H) : Option (V × H) := zf fun n => (KJ E n).1 f args h
noncomputable def loop (E : Env) (f : Nat) (fn : Func) (id : Nat) (body : Code) (l : List V) (h : H) : Option LOut := zf fun n => (KJ E n).2 f fn id body l h
def Um (id : Nat) : Code -> Option Code
 | .seq a b => (Um id a).orElse fun _ => Um id b
 | .cond _ a b => (Um id a).orElse fun _ => Um id b
 | .block i (.loop b) => bif i == id then some b else Um id b
 | .block _ b => Um id b
 | _ => none
def Zi (fn : Func) (id : Nat) : Code := (fn.body.bind (Um id)).getD .skip
end Vm
