/- The evaluator and its soundness, part 1. Each theorem bears its own conditions. -/
import Derived.Calls
import Derived.Laws.Sem
import Derived.Laws.World
import GoSem.Core.Utf8
import Derived.Below
import Derived.Laws.Cells
import Derived.Laws.Entries
import Derived.Laws.Rows
import Derived.ChangeKeysEq
import Derived.Laws.Strings
import Derived.Laws.StructEq
import Derived.Laws.Pointers
import Derived.Laws.Small
import Derived.Laws.Slices
import Derived.Laws.BytesString
import Derived.Laws.LoneSync
/- An evaluator of the program's code on abstract values: slices that came in or were handed back are lists, what a call makes lies in a heap of its own. Definitions alone; no conditions. -/
set_option linter.unusedVariables false
set_option linter.unusedSimpArgs false
namespace Go.Ev
noncomputable section

/-- Abstract values. 'lst' is a slice that nobody writes any more (nil or not), 'arr' a slice of an array in the heap (object, generation, from, length; a generation is odd where the array began as a text's bytes), 'ptr' and 'aptr' pointers into the heap, 'fptr' a pointer to cells that nobody writes. -/
inductive AVal where
  | bad
  | int (k : IntKind) (n : Int)
  | bool (b : Bool)
  | str (s : List UInt8)
  | lst (nil : Bool) (xs : List AVal)
  | arr (id gen off len : Nat)
  | nilp
  | ptr (id off : Nat)
  | aptr (id gen i off : Nat)
  | fptr (cs : List AVal)
  | map (id : Option Nat)
  | func (f : FuncId) (first caps : List AVal)
  | yield (id : Nat)
  | nilf
  | iface (t : TypeId) (v : AVal)
  | nili
  | agg (cs : List AVal)
  | tup (vs : List AVal)
  | iter (id : Nat)
  deriving Inhabited

def AVal.cells : AVal → List AVal
  | .agg cs => cs
  | v => [v]

/-- May it be laid into memory? (Neither unknown nor several results.) -/
def laid : AVal → Bool
  | .bad | .tup _ => false
  | _ => true
def oneA : AVal → Bool
  | .bad | .tup _ | .agg _ => false
  | _ => true

/-- What a type is to the evaluator. -/
inductive Kd where
  | bool | int (k : IntKind) | string | pointer (e : TypeId) | slice (e : TypeId) | array (n : Nat) (e : TypeId)
  | map (k e : TypeId) | struct (fs : List (Nat × TypeId)) | func | interface | tuple | unsafePointer | other
  deriving Inhabited
structure Ty where
  kd : Kd
  size : Nat
  bytes : Nat
  zero : AVal
  deriving Inhabited

abbrev Env := List (Nat × AVal)
/-- What a slot holds. (Written out by the recursors: the kernel reckons it so.) -/
def get (e : Env) (t : Nat) : AVal := List.rec .bad (fun p _ ih => Bool.rec ih p.2 (Nat.beq p.1 t)) e
theorem get_nil (t : Nat) : get [] t = .bad := rfl
theorem get_cons {e : Env} {d t : Nat} {v : AVal} : get ((d, v) :: e) t = if d = t then v else get e t := by
  have h : get ((d, v) :: e) t = Bool.rec (get e t) v (Nat.beq d t) := rfl
  rw [h]
  by_cases hd : d = t
  · subst hd
    rw [if_pos rfl, Nat.beq_refl]
  · rw [if_neg hd]
    cases hb : Nat.beq d t with
    | true => exact absurd (Nat.eq_of_beq_eq_true hb) hd
    | false => rfl

inductive AObj where
  | cells (t : TypeId) (ro : Bool) (cs : List AVal)
  | arr (e : TypeId) (gen : Nat) (ro : Bool) (sz : Nat) (xs : List AVal)
  | map (es : List (AVal × AVal × Nat)) (clock : Nat)
  | siter (s : List UInt8) (pos : Nat)
  | loop (fn : FuncId) (env : Env) (params : List Tmp) (assign body : Code) (st : Nat) (pending : Option Code)
  deriving Inhabited
abbrev Heap := List AObj

/-- Constants of the code. -/
def absC : Value → Option AVal
  | .int k x => some (.int k x)
  | .bool b => some (.bool b)
  | .string s => some (.str s.data.toList)
  | .slice none 0 0 => some (.lst true [])
  | .pointer none => some .nilp
  | .map none => some (.map none)
  | .nilFunc => some .nilf
  | .nilIface => some .nili
  | _ => none
def absV : Value → Option AVal
  | .agg cs => (cs.toList.mapM absC).map .agg
  | .tuple cs => (cs.toList.mapM absC).map .tup
  | v => absC v

/-- How a region whose order is open is gone through: the operations with their class (0 quiet, 1 a birth, 2 of the chain), and between which of the chain's operations those may come that are to be asked again. -/
structure Plan where
  steps : List (Nat × Nat)
  wins : List (Nat × Nat × Nat)

structure Ctx where
  P : Program
  ty : TypeId → Option Ty
  fn : FuncId → Option Func
  pure : FuncId → Bool
  thaw : FuncId → FuncId → Bool
  keep : FuncId → List Nat
  plan : FuncId → Nat → List Plan
  prim : FuncId → Option (List AVal → Option AVal)
  hprim : FuncId → Option (List AVal → Heap → Option (AVal × Heap))
  meth : TypeId → String → Option FuncId
  eqt : TypeId → Bool

/-- Package-level variables: what a pointer to one leads to, where it is known; and those that hold some number. -/
class Globs where
  val : Nat → Option AVal
  ints : List Nat

def opd [Globs] (e : Env) : Operand → AVal
  | .tmp t => get e t
  | .const v => (absV v).getD .bad
  | .global g => (Globs.val g).getD .bad
  | .func f => .func f [] []

/-- An operand that may be laid into memory or handed on. -/
def opc [Globs] (e : Env) (x : Operand) : Option AVal :=
  match opd e x with
  | .bad | .tup _ => none
  | v => some v
def opcs [Globs] (e : Env) : List Operand → Option (List AVal)
  | [] => some []
  | x :: r => (opc e x).bind fun v => (opcs e r).map fun vs => v :: vs
def opps [Globs] (e : Env) : List (Nat × Operand) → Option (List (Nat × AVal))
  | [] => some []
  | (i, x) :: r => (opc e x).bind fun v => (opps e r).map fun vs => (i, v) :: vs

/-- Part of a row of cells, as a variable of a type reads. -/
def part (T : Ty) (cs : List AVal) (off : Nat) : Option AVal :=
  match T.kd with
  | .struct _ | .array _ _ => if off + T.size ≤ cs.length then some (.agg ((cs.drop off).take T.size)) else none
  | _ => cs[off]?

def splice (cs : List AVal) (off : Nat) (vs : List AVal) : List AVal := cs.take off ++ vs ++ cs.drop (off + vs.length)

def setElem (x : AVal) (off : Nat) (vs : List AVal) : Option AVal :=
  match x with
  | .agg cs => if off + vs.length ≤ cs.length then some (.agg (splice cs off vs)) else none
  | _ => match off, vs with
    | 0, [v] => some v
    | _, _ => none

def isAgg (T : Ty) : Bool := match T.kd with | .struct _ | .array _ _ => true | _ => false

def loadA (C : Ctx) (H : Heap) (t : TypeId) (p : AVal) : Option AVal :=
  (C.ty t).bind fun T =>
  match p with
  | .ptr id off => match H[id]? with
    | some (.cells _ _ cs) => part T cs off
    | _ => none
  | .aptr id gen i off => match H[id]? with
    | some (.arr _ g _ _ xs) => if g == gen then (xs[i]?).bind fun x => part T x.cells off else none
    | _ => none
  | .fptr cs => part T cs 0
  | _ => none

def storeA (C : Ctx) (H : Heap) (t : TypeId) (p v : AVal) : Option Heap :=
  (C.ty t).bind fun T =>
  if v.cells.length ≠ T.size then none else
  match p with
  | .ptr id off => match H[id]? with
    | some (.cells u false cs) => if off + v.cells.length ≤ cs.length then some (H.set id (.cells u false (splice cs off v.cells))) else none
    | _ => none
  | .aptr id gen i off => match H[id]? with
    | some (.arr e g false sz xs) => if g == gen then (xs[i]?).bind fun x => (setElem x off v.cells).map fun y => H.set id (.arr e g false sz (xs.set i y)) else none
    | _ => none
  | _ => none

def fillA (place : Nat → Option (Nat × Nat)) (cells : List AVal) : List (Nat × AVal) → Option (List AVal)
  | [] => some cells
  | (i, v) :: rest =>
    match place i with
    | none => none
    | some (off, size) => if v.cells.length ≠ size || off + v.cells.length > cells.length then none else fillA place (splice cells off v.cells) rest

def fieldsOf (C : Ctx) : List (Nat × TypeId) → Nat → Option (Nat × Nat)
  | [], _ => none
  | (off, t) :: _, 0 => (C.ty t).map fun T => (off, T.size)
  | _ :: r, n + 1 => fieldsOf C r n

def buildA (C : Ctx) (t : TypeId) (parts : List (Nat × AVal)) : Option AVal :=
  (C.ty t).bind fun T =>
  match T.kd with
  | .struct fs => (fillA (fieldsOf C fs) T.zero.cells parts).map .agg
  | .array _ e => (C.ty e).bind fun E => (fillA (fun i => some (i * E.size, E.size)) T.zero.cells parts).map .agg
  | _ => none

/-- The elements of a new slice: zero, but for those that are given. -/
def placeElems (sz : Nat) (xs : List AVal) : List (Nat × AVal) → Option (List AVal)
  | [] => some xs
  | (i, v) :: r => if v.cells.length ≠ sz || xs.length ≤ i then none else placeElems sz (xs.set i v) r

def elemOf (C : Ctx) (t : TypeId) : Option (TypeId × Ty) :=
  (C.ty t).bind fun T =>
  match T.kd with
  | .slice e => (C.ty e).map fun E => (e, E)
  | _ => none

/-- The elements of a slice. -/
def elems (H : Heap) : AVal → Option (List AVal)
  | .lst _ xs => some xs
  | .arr id gen off len => match H[id]? with
    | some (.arr _ g _ _ xs) => if g == gen && off + len ≤ xs.length then some ((xs.drop off).take len) else none
    | _ => none
  | _ => none

def byteVal (b : UInt8) : AVal := .int .u8 b.toNat
def valByte : AVal → Option UInt8
  | .int .u8 n => if 0 ≤ n && n < 256 then some (UInt8.ofNat n.toNat) else none
  | _ => none
def bytesOf : List AVal → Option (List UInt8)
  | [] => some []
  | x :: r => (valByte x).bind fun b => (bytesOf r).map fun s => b :: s

def source (H : Heap) : AVal → Option (List AVal)
  | .str s => some (s.map byteVal)
  | v => elems H v

def mostLen : Nat := 1099511627776

/-- Elements of one size. -/
def sized (sz : Nat) (xs : List AVal) : Bool := xs.all fun x => x.cells.length == sz

def appendA (C : Ctx) (H : Heap) (t : TypeId) (s x : AVal) : Option (AVal × Heap) :=
  (elemOf C t).bind fun (el, E) =>
  (source H x).bind fun new =>
  if E.size == 0 || !sized E.size new then none else
  match s with
  | .lst b xs =>
    if new.isEmpty then some (.lst b xs, H) else
    if b && xs.isEmpty && new.length * E.bytes ≤ mostLen && new.length ≤ mostLen then some (.arr H.length 0 0 new.length, H ++ [.arr el 0 false E.size new]) else none
  | .arr id gen off len => match H[id]? with
    | some (.arr e g ro sz xs) =>
      if e == el && sz == E.size && g == gen && off + len ≤ xs.length && (off + len == xs.length || !ro) && (len + new.length) * E.bytes ≤ mostLen && len + new.length ≤ mostLen then
        some (.arr id (g + 2) 0 (len + new.length), H.set id (.arr e (g + 2) ro sz ((xs.drop off).take len ++ new)))
      else none
    | _ => none
  | _ => none

def copyA (C : Ctx) (H : Heap) (t : TypeId) (d x : AVal) : Option (AVal × Heap) :=
  (elemOf C t).bind fun (el, E) =>
  (source H x).bind fun new =>
  if E.size == 0 || !sized E.size new then none else
  match d with
  | .arr id gen off len => match H[id]? with
    | some (.arr e g false sz xs) =>
      if sz == E.size && g == gen && off + len ≤ xs.length then
        some (.int .i64 (Nat.min new.length len : Nat), H.set id (.arr e g false sz (xs.take off ++ new.take (Nat.min new.length len) ++ xs.drop (off + Nat.min new.length len))))
      else none
    | _ => none
  | .lst _ [] => some (.int .i64 0, H)
  | _ => none

def lenOf : AVal → Option Nat
  | .str s => some s.length
  | .lst _ xs => some xs.length
  | .arr _ _ _ len => some len
  | _ => none
def boundA (o : Option AVal) (d : Nat) : Option Nat :=
  match o with
  | none => some d
  | some (.int _ k) => if 0 ≤ k then some k.toNat else none
  | some _ => none
def sliceA (C : Ctx) (H : Heap) (t : TypeId) (x : AVal) (lo hi mx : Option AVal) : Option AVal :=
  (C.ty t).bind fun T => (lenOf x).bind fun n => (boundA mx n).bind fun m => (boundA hi n).bind fun h => (boundA lo 0).bind fun l =>
  if l ≤ h && h ≤ m && m ≤ n && (mx.isNone || hi.isSome) then
    match T.kd, x with
    | .string, .str s => if mx.isSome then none else some (.str ((s.drop l).take (h - l)))
    | .slice e, .lst b xs => (C.ty e).bind fun E => if l == 0 || xs.all fun y => y.cells.length == E.size then some (.lst b ((xs.drop l).take (h - l))) else none
    | .slice e, .arr id gen off _ => (C.ty e).bind fun E => match H[id]? with
      | some (.arr _ _ _ sz _) => if sz == E.size then (if h == l && l != 0 then some (.lst false []) else some (.arr id gen (off + l) (h - l))) else none
      | _ => none
    | _, _ => none
  else none

def fieldAddrA (C : Ctx) (s : TypeId) (x : AVal) (f : Nat) : Option AVal :=
  (C.ty s).bind fun T =>
  match T.kd with
  | .struct fs => (fs[f]?).bind fun (o, t) => (C.ty t).bind fun F =>
    if F.size == 0 then none else
    match x with
    | .ptr id off => some (.ptr id (off + o))
    | .aptr id gen i off => some (.aptr id gen i (off + o))
    | .fptr cs => some (.fptr (cs.drop o))
    | _ => none
  | _ => none

def fieldA (C : Ctx) (s : TypeId) (x : AVal) (f : Nat) : Option AVal :=
  (C.ty s).bind fun T =>
  match T.kd with
  | .struct fs => (fs[f]?).bind fun (o, t) => (C.ty t).bind fun F =>
    match x with
    | .agg cs => part F cs o
    | _ => none
  | _ => none

def natOf : AVal → Option Nat
  | .int _ k => if 0 ≤ k then some k.toNat else none
  | _ => none

def indexAddrA (C : Ctx) (H : Heap) (t : TypeId) (x i : AVal) : Option AVal :=
  (C.ty t).bind fun T => (natOf i).bind fun k =>
  match T.kd with
  | .slice e => (C.ty e).bind fun E =>
    if E.size == 0 then none else
    match x with
    | .lst _ xs => (xs[k]?).bind fun v => if v.cells.length == E.size then some (.fptr v.cells) else none
    | .arr id gen off len => match H[id]? with
      | some (.arr _ _ _ sz _) => if sz == E.size && k < len then some (.aptr id gen (off + k) 0) else none
      | _ => none
    | _ => none
  | .array n e => (C.ty e).bind fun E =>
    if E.size == 0 || n ≤ k then none else
    match x with
    | .ptr id off => some (.ptr id (off + k * E.size))
    | .fptr cs => some (.fptr (cs.drop (k * E.size)))
    | _ => none
  | _ => none

def indexA (C : Ctx) (t : TypeId) (x i : AVal) : Option AVal :=
  (natOf i).bind fun k =>
  match x with
  | .str s => (C.ty t).bind fun T =>
    match T.kd with
    | .string => (s[k]?).map byteVal
    | _ => none
  | .agg cs => (C.ty t).bind fun T =>
    match T.kd with
    | .array n e => (C.ty e).bind fun E => if n ≤ k then none else part E cs (k * E.size)
    | _ => none
  | _ => none

/-- Equal values of a type, where its parts are plain. -/
def eqFs (f : Nat → TypeId → Option Bool) : List (Nat × TypeId) → Option Bool
  | [] => some true
  | (o, t) :: r => (f o t).bind fun b => (eqFs f r).map fun c => b && c
def eqTy (C : Ctx) : Nat → TypeId → AVal → AVal → Option Bool
  | 0, _, _, _ => none
  | n + 1, t, x, y => (C.ty t).bind fun T =>
    match T.kd, x, y with
    | .int _, .int k a, .int k' b => if k = k' then some (a == b) else none
    | .bool, .bool a, .bool b => some (a == b)
    | .string, .str a, .str b => some (a == b)
    | .struct fs, .agg xs, .agg ys => if C.eqt t then eqFs (fun o u => (C.ty u).bind fun U => (part U xs o).bind fun p => (part U ys o).bind fun q => eqTy C n u p q) fs else none
    | _, _, _ => none

def eqlA (C : Ctx) (kd : Kd) (x y : AVal) : Option Bool :=
  match kd, x, y with
  | .bool, .bool a, .bool b => some (a == b)
  | .pointer _, .nilp, .nilp => some true
  | .pointer _, .nilp, .ptr _ _ | .pointer _, .nilp, .aptr _ _ _ _ | .pointer _, .nilp, .fptr _ => some false
  | .pointer _, .ptr _ _, .nilp | .pointer _, .aptr _ _ _ _, .nilp | .pointer _, .fptr _, .nilp => some false
  | .pointer e, .ptr i a, .ptr j b => (C.ty e).bind fun E => if E.size == 0 then none else some (i == j && a == b)
  | .slice _, .lst true [], .lst b _ => some b
  | .slice _, .lst b _, .lst true [] => some b
  | .slice _, .lst true [], .arr _ _ _ _ | .slice _, .arr _ _ _ _, .lst true [] => some false
  | .map _ _, .map none, .map b => some b.isNone
  | .map _ _, .map a, .map none => some a.isNone
  | .func, .nilf, .nilf => some true
  | .func, .nilf, .func _ _ _ | .func, .func _ _ _, .nilf => some false
  | .interface, .nili, .iface _ _ | .interface, .iface _ _, .nili => some false
  | _, _, _ => none

def lessB : List UInt8 → List UInt8 → Bool := Op.bytesLess

def intArithA (op : BinOp) (k : IntKind) (a b : Int) : Option AVal :=
  match op with
  | .add => some (.int k (k.wrap (a + b)))
  | .sub => some (.int k (k.wrap (a - b)))
  | .mul => some (.int k (k.wrap (a * b)))
  | .quo => if b = 0 then none else some (.int k (k.wrap (a.tdiv b)))
  | .rem => if b = 0 then none else some (.int k (a.tmod b))
  | .and => some (.int k (k.wrap (BitVec.ofInt k.bits a &&& BitVec.ofInt k.bits b).toNat))
  | .or => some (.int k (k.wrap (BitVec.ofInt k.bits a ||| BitVec.ofInt k.bits b).toNat))
  | .xor => some (.int k (k.wrap (BitVec.ofInt k.bits a ^^^ BitVec.ofInt k.bits b).toNat))
  | .andNot => some (.int k (k.wrap (BitVec.ofInt k.bits a &&& ~~~ BitVec.ofInt k.bits b).toNat))
  | .lss => some (.bool (a < b))
  | .leq => some (.bool (a ≤ b))
  | .gtr => some (.bool (a > b))
  | .geq => some (.bool (a ≥ b))
  | .eql => some (.bool (a == b))
  | .neq => some (.bool (a != b))
  | _ => none

def binA (C : Ctx) (op : BinOp) (t : TypeId) (x y : AVal) : Option AVal :=
  match x, y with
  | .int k a, .int k' b =>
    match op with
    | .shl => if b < 0 then none else some (.int k (k.wrap (a * 2 ^ (min b.toNat k.bits))))
    | .shr => if b < 0 then none else some (.int k (a.fdiv (2 ^ (min b.toNat k.bits))))
    | _ => if k = k' then intArithA op k a b else none
  | .str a, .str b =>
    match op with
    | .add => if a.length + b.length ≤ mostLen then some (.str (a ++ b)) else none
    | .eql => some (.bool (a == b))
    | .neq => some (.bool !(a == b))
    | .lss => some (.bool (lessB a b))
    | .leq => some (.bool (lessB a b || a == b))
    | .gtr => some (.bool !(lessB a b || a == b))
    | .geq => some (.bool !(lessB a b))
    | _ => none
  | x, y =>
    match op with
    | .eql => (C.ty t).bind fun T => (eqlA C T.kd x y).map .bool
    | .neq => (C.ty t).bind fun T => (eqlA C T.kd x y).map fun b => .bool !b
    | _ => none

def unA (op : UnOp) (x : AVal) : Option AVal :=
  match op, x with
  | .not, .bool b => some (.bool !b)
  | .neg, .int k n => some (.int k (k.wrap (0 - n)))
  | _, _ => none

def convertA (C : Ctx) (H : Heap) (src dst : TypeId) (x : AVal) : Option (AVal × Heap) :=
  (C.ty src).bind fun S => (C.ty dst).bind fun D =>
  match D.kd, x with
  | .int k, .int _ n => some (.int k (k.wrap n), H)
  | .string, .int _ n => some (.str (Utf8.encode n).data.toList, H)
  | .string, .str s => some (.str s, H)
  | .unsafePointer, .ptr id off =>
    match S.kd with
    | .pointer e => (C.ty e).bind fun E => if E.size == 0 then none else match H[id]? with
      | some (.cells _ _ cs) => if off < cs.length then some (.ptr id off, H) else none
      | _ => none
    | _ => none
  | .pointer e, .ptr id 0 =>
    match S.kd with
    | .unsafePointer => (C.ty e).bind fun E => match H[id]? with
      | some (.cells t _ cs) => if t == e && E.size ≤ cs.length && E.size != 0 then some (.ptr id 0, H) else none
      | _ => none
    | _ => none
  | .string, v =>
    match S.kd with
    | .slice e => (C.ty e).bind fun E =>
      match E.kd with
      | .int .u8 => (elems H v).bind fun xs => (bytesOf xs).map fun s => (.str s, H)
      | _ => none
    | _ => none
  | _, _ => none

def keyEq : AVal → AVal → Option Bool
  | .int j a, .int k b => if j = k then some (a == b) else none
  | .str a, .str b => some (a == b)
  | _, _ => none
def findKey (k : AVal) : List (AVal × AVal × Nat) → Nat → Option (Option (Nat × AVal × Nat))
  | [], _ => some none
  | (k', v, b) :: r, i => (keyEq k k').bind fun e => if e then some (some (i, v, b)) else findKey k r (i + 1)
def plainKey : AVal → Bool
  | .int _ _ | .str _ => true
  | _ => false
/-- A key of this kind. -/
def keyKd : Kd → AVal → Bool
  | .int _, .int _ _ | .string, .str _ => true
  | _, _ => false
def mapElem (C : Ctx) (t : TypeId) : Option (Ty × Ty) :=
  (C.ty t).bind fun T =>
  match T.kd with
  | .map k e => (C.ty k).bind fun K => (C.ty e).map fun E => (K, E)
  | _ => none

def lookupA (C : Ctx) (H : Heap) (t : TypeId) (m k : AVal) (ok : Bool) : Option AVal :=
  (mapElem C t).bind fun (K, E) =>
  if !keyKd K.kd k then none else
  (match m with
    | .map none => some none
    | .map (some id) => match H[id]? with
      | some (.map es _) => findKey k es 0
      | _ => none
    | _ => none).bind fun r =>
  match r with
  | some (_, v, _) => some (if ok then .tup [v, .bool true] else v)
  | none => some (if ok then .tup [E.zero, .bool false] else E.zero)

def mapSetA (C : Ctx) (H : Heap) (t : TypeId) (m k v : AVal) : Option Heap :=
  (mapElem C t).bind fun (K, _) =>
  if !keyKd K.kd k then none else
  match m with
  | .map (some id) => match H[id]? with
    | some (.map es clock) => (findKey k es 0).map fun r =>
      match r with
      | some (i, _, b) => H.set id (.map (es.set i (k, v, b)) clock)
      | none => H.set id (.map (es ++ [(k, v, clock)]) (clock + 1))
    | _ => none
  | _ => none

def mapEntryA (C : Ctx) (H : Heap) (t : TypeId) (m k : AVal) : Option (AVal × Heap) :=
  (mapElem C t).bind fun (K, E) =>
  if !keyKd K.kd k then none else
  match m with
  | .map (some id) => match H[id]? with
    | some (.map es clock) => (findKey k es 0).map fun r =>
      match r with
      | some (i, v, b) => (.tup [v, .int .i64 b], H.set id (.map (es.set i (k, v, b)) clock))
      | none => (.tup [E.zero, .int .i64 clock], H.set id (.map (es ++ [(k, E.zero, clock)]) (clock + 1)))
    | _ => none
  | _ => none

def setBorn (b : Int) (v : AVal) : List (AVal × AVal × Nat) → Option (List (AVal × AVal × Nat))
  | [] => none
  | (k, w, c) :: r => if (c : Int) == b then some ((k, v, c) :: r) else (setBorn b v r).map ((k, w, c) :: ·)

def entryStoreA (H : Heap) (m st v : AVal) : Option Heap :=
  match m, st with
  | .map (some id), .int .i64 b => match H[id]? with
    | some (.map es clock) => (setBorn b v es).map fun es => H.set id (.map es clock)
    | _ => none
  | _, _ => none

def deleteA (C : Ctx) (H : Heap) (t : TypeId) (m k : AVal) : Option Heap :=
  (mapElem C t).bind fun (K, _) =>
  if !keyKd K.kd k then none else
  match m with
  | .map none => some H
  | .map (some id) => match H[id]? with
    | some (.map es clock) => (findKey k es 0).map fun r =>
      match r with
      | some (i, _, _) => H.set id (.map (es.eraseIdx i) clock)
      | none => H
    | _ => none
  | _ => none

def lenA (C : Ctx) (H : Heap) (t : TypeId) (x : AVal) : Option Nat :=
  (C.ty t).bind fun T =>
  match T.kd, x with
  | .string, .str s => some s.length
  | .slice _, .lst _ xs => some xs.length
  | .slice _, .arr _ _ _ n => some n
  | .map _ _, .map none => some 0
  | .map _ _, .map (some id) => match H[id]? with
    | some (.map es _) => some es.length
    | _ => none
  | _, _ => none

def maxA : List AVal → Option AVal
  | .int k a :: r => (r.foldlM (fun (a : Int) (x : AVal) => match x with | .int k' b => if k = k' then some (if b > a then b else a) else none | _ => none) a).map (AVal.int k)
  | _ => none
def minA : List AVal → Option AVal
  | .int k a :: r => (r.foldlM (fun (a : Int) (x : AVal) => match x with | .int k' b => if k = k' then some (if b < a then b else a) else none | _ => none) a).map (AVal.int k)
  | _ => none

inductive OpR where
  | val (v : AVal) (H : Heap)
  | enter (f : FuncId) (args : List AVal)
  | yield (id : Nat) (args : List AVal)
  | recover
  | defer (f : FuncId) (args : List AVal)
  | panic (v : AVal)

/-- A cell that leads to nothing that can be written. -/
def cellHard : AVal → Bool
  | .int _ _ | .bool _ | .str _ | .lst _ _ | .nilp | .fptr _ | .map none | .nilf | .nili => true
  | .func _ [] [] => true
  | _ => false
def hard : AVal → Bool
  | .agg cs => cs.all cellHard
  | v => cellHard v

/-- Without a slice or a pointer in it. -/
def cellFlat : AVal → Bool
  | .int _ _ | .bool _ | .str _ | .lst _ [] | .nilp | .map none | .nilf | .nili => true
  | .func _ [] [] => true
  | _ => false
def flatV : AVal → Bool
  | .agg cs => cs.all cellFlat
  | v => cellFlat v
def flat : AVal → Bool
  | .tup vs => vs.all flatV
  | .iface _ v => flatV v
  | v => flatV v

/-- What a value is to someone before whom nothing is written: slices are lists, pointers are cells; and which objects it leads to. -/
def freeze : Nat → Heap → AVal → Option (AVal × List Nat)
  | 0, _, _ => none
  | n + 1, H, v =>
    if hard v then some (v, []) else
    match v with
    | .arr id _ _ _ => (elems H v).bind fun xs => (xs.mapM (freeze n H)).map fun ys => (.lst false (ys.map (·.1)), id :: (ys.map (·.2)).flatten)
    | .ptr id off => match H[id]? with
      | some (AObj.cells _ _ cs) => ((cs.drop off).mapM (freeze n H)).map fun ys => (.fptr (ys.map (·.1)), id :: (ys.map (·.2)).flatten)
      | _ => none
    | .aptr id gen i off => match H[id]? with
      | some (.arr _ g _ _ xs) => if g == gen then (match xs[i]? with
          | some x => ((x.cells.drop off).mapM (freeze n H)).map fun ys => (.fptr (ys.map (·.1)), id :: (ys.map (·.2)).flatten)
          | none => none) else none
      | _ => none
    | .agg cs => (cs.mapM (freeze n H)).map fun ys => (.agg (ys.map (·.1)), (ys.map (·.2)).flatten)
    | .tup cs => (cs.mapM (freeze n H)).map fun ys => (.tup (ys.map (·.1)), (ys.map (·.2)).flatten)
    | .func f as cs => (as.mapM (freeze n H)).bind fun xs => (cs.mapM (freeze n H)).map fun ys => (.func f (xs.map (·.1)) (ys.map (·.1)), (xs.map (·.2)).flatten ++ (ys.map (·.2)).flatten)
    | .iface t x => (freeze n H x).map fun y => (.iface t y.1, y.2)
    | _ => none

def markRo (ids : List Nat) (H : Heap) : Heap :=
  ids.foldl (fun (H : Heap) (id : Nat) => match H[id]? with
    | some (AObj.cells t _ cs) => H.set id (.cells t true cs)
    | some (AObj.arr e g _ sz xs) => H.set id (.arr e g true sz xs)
    | _ => H) H

end
end Go.Ev
/- The evaluator itself: operations, regions, code, calls; 'ev n' goes n levels deep. Definitions alone; no conditions. -/
set_option linter.unusedVariables false
namespace Go.Ev
noncomputable section

def beqL (f : AVal → AVal → Bool) : List AVal → List AVal → Bool
  | [], [] => true
  | a :: r, b :: s => f a b && beqL f r s
  | _, _ => false
/-- Are two values the same? (As deep as the first word says.) -/
def beqN : Nat → AVal → AVal → Bool
  | 0, _, _ => false
  | n + 1, x, y =>
    match x, y with
    | .bad, .bad | .nilp, .nilp | .nilf, .nilf | .nili, .nili => true
    | .int j a, .int k b => j == k && a == b
    | .bool a, .bool b => a == b
    | .str a, .str b => a == b
    | .lst b xs, .lst c ys => b == c && beqL (beqN n) xs ys
    | .arr a b c d, .arr a' b' c' d' => a == a' && b == b' && c == c' && d == d'
    | .ptr a b, .ptr c d => a == c && b == d
    | .aptr a b c d, .aptr a' b' c' d' => a == a' && b == b' && c == c' && d == d'
    | .fptr xs, .fptr ys => beqL (beqN n) xs ys
    | .map a, .map b => a == b
    | .func f as xs, .func g bs ys => f == g && beqL (beqN n) as bs && beqL (beqN n) xs ys
    | .yield a, .yield b => a == b
    | .iface t v, .iface u w => t == u && beqN n v w
    | .agg xs, .agg ys => beqL (beqN n) xs ys
    | .tup xs, .tup ys => beqL (beqN n) xs ys
    | .iter a, .iter b => a == b
    | _, _ => false
def beqE (n : Nat) : List (AVal × AVal × Nat) → List (AVal × AVal × Nat) → Bool
  | [], [] => true
  | (a, b, c) :: r, (a', b', c') :: s => beqN n a a' && beqN n b b' && c == c' && beqE n r s
  | _, _ => false
def beqO (n : Nat) : AObj → AObj → Bool
  | .cells t r xs, .cells u q ys => t == u && r == q && beqL (beqN n) xs ys
  | .arr e g r s xs, .arr e' g' r' s' ys => e == e' && g == g' && r == r' && s == s' && beqL (beqN n) xs ys
  | .map es c, .map fs d => beqE n es fs && c == d
  | .siter s p, .siter t q => s == t && p == q
  | _, _ => false
def depth : Nat := 40

/-- Where code stands. (Within the body of a range over a function 'pan' is unknown: nothing is recovered or deferred there.) -/
structure St where
  fn : FuncId
  env : Env
  defs : List (FuncId × List AVal)
  H : Heap
  pan : Option AVal
  recd : Bool

inductive Ex where
  | normal | exit (id : Nat) | goto (l : Nat) | ret | panic (v : AVal)
inductive CR where
  | ret (v : AVal) (H : Heap) (recd : Bool)
  | pan (v : AVal) (H : Heap) (recd : Bool)
inductive Task where
  | code (c : Code) (s : St)
  | scope (rest body : Code) (s : St)
  | call (f : FuncId) (args : List AVal) (H : Heap) (pan : Option AVal)
  | unwind (s : St) (p : Option AVal)
inductive Res where
  | code (e : Ex) (s : St)
  | call (r : CR)

/-- Does every operation write a slot that the frame has? -/
def okC (n : Nat) : Code → Bool
  | .seq a b | .cond _ a b => okC n a && okC n b
  | .block _ c | .loop c | .scope c => okC n c
  | .region _ ops _ => ops.toList.all fun o => match o.dst with | some d => decide (d < n) | none => true
  | .rangeFunc _ ps a b => ps.toList.all (fun t => decide (t < n)) && okC n a && okC n b
  | _ => true

def isConst : Operand → Bool
  | .const _ => true
  | _ => false

/-- What a quiet operation yields. -/
def evQ [Globs] (C : Ctx) (e : Env) (H : Heap) (o : Oper) : Option AVal :=
  match o.op with
  | .move x | .assign x => some (opd e x)
  | .pick c a b => match opd e c with
    | .bool t => some (if t then opd e a else opd e b)
    | _ => none
  | .build t parts => (opps e parts.toList).bind fun ps => buildA C t ps
  | .load t a => loadA C H t (opd e a)
  | .nilCheck x => match opd e x with
    | .ptr id off => some (.ptr id off)
    | .aptr id g i off => some (.aptr id g i off)
    | .fptr cs => some (.fptr cs)
    | .func f as cs => some (.func f as cs)
    | .iface t v => some (.iface t v)
    | _ => none
  | .binOp op t x y _ => match opd e x, opd e y with
    | .nili, .nili => if isConst x || isConst y then (C.ty t).bind fun T => (match T.kd, op with
      | .interface, .eql => some (.bool true)
      | .interface, .neq => some (.bool false)
      | _, _ => none) else none
    | .agg a, .agg b => (match op with
      | .eql => (eqTy C 4 t (.agg a) (.agg b)).map .bool
      | .neq => (eqTy C 4 t (.agg a) (.agg b)).map fun r => .bool !r
      | _ => none)
    | u, v => binA C op t u v
  | .unOp op _ x => unA op (opd e x)
  | .convert s d x => match C.ty d with
    | some D => match D.kd with
      | .slice _ => none
      | _ => (convertA C H s d (opd e x)).map (·.1)
    | none => none
  | .makeInterface t x => match C.ty t with
    | some T => match T.kd with
      | .interface => none
      | _ => (opc e x).map fun v => .iface t v
    | none => none
  | .makeFunc (.func f) first caps => (opcs e first.toList).bind fun as => (opcs e caps.toList).map fun cs => .func f as cs
  | .slice t x lo hi mx => sliceA C H t (opd e x) (lo.map (opd e)) (hi.map (opd e)) (mx.map (opd e))
  | .fieldAddr s x f => fieldAddrA C s (opd e x) f
  | .field t x f => fieldA C t (opd e x) f
  | .indexAddr t x i => indexAddrA C H t (opd e x) (opd e i)
  | .index t x i => indexA C t (opd e x) (opd e i)
  | .lookup t m k ok => lookupA C H t (opd e m) (opd e k) ok
  | .typeAssert x _ t ok => match C.ty t with
    | some T => match T.kd with
      | .interface => none
      | _ => match opd e x with
        | .iface u v => if u == t then some (if ok then .tup [v, .bool true] else v) else if ok then some (.tup [T.zero, .bool false]) else none
        | .nili => if ok then some (.tup [T.zero, .bool false]) else none
        | _ => none
    | none => none
  | .extract t ix => match opd e t with
    | .tup vs => vs[ix]?
    | _ => none
  | .call { callee := .builtin b, args, argTypes } => match b with
    | .len => match args.toList, argTypes.toList with
      | [x], t :: _ => (lenA C H t (opd e x)).map fun (n : Nat) => .int .i64 n
      | _, _ => none
    | .cap => match args.toList.map (opd e), argTypes.toList with
      | [.lst true []], t :: _ => (C.ty t).bind fun T => match T.kd with
        | .slice _ => some (.int .i64 0)
        | _ => none
      | _, _ => none
    | .max => maxA (args.toList.map (opd e))
    | .min => minA (args.toList.map (opd e))
    | .unsafeSliceData => match args.toList.map (opd e) with
      | [.lst true []] => some .nilp
      | [.arr id g off len] => if 0 < len then some (.aptr id g off 0) else none
      | _ => none
    | _ => none
  | _ => none

/-- What a birth makes: the object, and the value that leads to it. -/
def evB [Globs] (C : Ctx) (e : Env) (H : Heap) (o : Oper) : Option (AObj × (Nat → AVal)) :=
  match o.op with
  | .alloc t => (C.ty t).map fun T => (.cells t false T.zero.cells, fun id => .ptr id 0)
  | .box t x => (opc e x).map fun v => (.cells t false v.cells, fun id => .ptr id 0)
  | .buildSlice t len parts => (elemOf C t).bind fun (el, E) =>
    if len * E.size > 16777216 || E.size == 0 then none else
    (opps e parts.toList).bind fun ps => (placeElems E.size (List.replicate len E.zero) ps).map fun xs => (.arr el 0 false E.size xs, fun id => .arr id 0 0 len)
  | .makeMap t r => match r with
    | none => some (.map [] 0, fun id => .map (some id))
    | some x => (mapElem C t).bind fun _ => match opd e x with
      | .int _ _ => some (.map [] 0, fun id => .map (some id))
      | _ => none
  | .makeSlice t l c => (elemOf C t).bind fun (el, E) => (natOf (opd e l)).bind fun n => (natOf (opd e c)).bind fun m =>
    if n ≤ m && m * E.bytes ≤ mostLen && m ≤ mostLen && E.size != 0 then some (.arr el 0 false E.size (List.replicate n E.zero), fun id => .arr id 0 0 n) else none
  | .convert c d x => (C.ty c).bind fun S => (C.ty d).bind fun D => match S.kd, D.kd, opd e x with
    | .string, .slice el, .str s => (C.ty el).bind fun E => match E.kd with
      | .int .u8 => if s.length ≤ mostLen && E.size == 1 then some (.arr el 1 false 1 (s.map byteVal), fun id => .arr id 1 0 s.length) else none
      | _ => none
    | _, _, _ => none
  | .range t x => (C.ty t).bind fun T => match T.kd, opd e x with
    | .string, .str s => some (.siter s 0, fun id => .iter id)
    | _, _ => none
  | _ => none

inductive XR where
  | val (v : AVal) (H : Heap)
  | enter (f : FuncId) (args : List AVal)
  | yield (id : Nat) (args : List AVal)
  | recover
  | defer (f : FuncId) (args : List AVal)
  | panic (v : AVal)

def evX [Globs] (C : Ctx) (e : Env) (H : Heap) (o : Oper) : Option XR :=
  match o.op with
  | .store t a x => if o.dst.isSome then none else (opc e x).bind fun v => (storeA C H t (opd e a) v).map fun H => .val (.tup []) H
  | .mapUpdate t m k x | .insert t m k x => if o.dst.isSome then none else (opc e x).bind fun v => (mapSetA C H t (opd e m) (opd e k) v).map fun H => .val (.tup []) H
  | .mapEntry t m k => (mapEntryA C H t (opd e m) (opd e k)).map fun r => .val r.1 r.2
  | .entryStore _ m s x => if o.dst.isSome then none else (opc e x).bind fun v => (entryStoreA H (opd e m) (opd e s) v).map fun H => .val (.tup []) H
  | .next it true => match opd e it with
    | .iter id => match H[id]? with
      | some (.siter s pos) =>
        if pos < s.length then
          match Utf8.decode ⟨s.toArray⟩ pos with
          | (c, wd) => some (.val (.tup [.bool true, .int .i64 pos, .int .i32 c]) (H.set id (.siter s (pos + wd))))
        else some (.val (.tup [.bool false]) H)
      | _ => none
    | _ => none
  | .panic x => match opd e x with
    | .iface t v => some (.panic (.iface t v))
    | _ => none
  | .defer { callee := .value f, args, .. } => match opd e f with
    | .func g as caps => (opcs e args.toList).map fun vs => .defer g (as ++ vs ++ caps)
    | _ => none
  | .call { callee := .value f, args, .. } => match opd e f with
    | .func g as caps => (opcs e args.toList).map fun vs => .enter g (as ++ vs ++ caps)
    | .yield id => (opcs e args.toList).map fun vs => .yield id vs
    | _ => none
  | .call { callee := .invoke r name, args, .. } => match opd e r with
    | .iface t v => (C.meth t name).bind fun f => (opcs e args.toList).map fun vs => .enter f (v :: vs)
    | _ => none
  | .call { callee := .builtin b, args, argTypes } => match b with
    | .append => match args.toList.map (opd e), argTypes.toList with
      | [s, x], [t, u] => (C.ty u).bind fun U => match U.kd with
        | .slice _ | .string => (appendA C H t s x).map fun r => .val r.1 r.2
        | _ => none
      | _, _ => none
    | .copy => match args.toList.map (opd e), argTypes.toList with
      | [d, x], t :: _ => (copyA C H t d x).map fun r => .val r.1 r.2
      | _, _ => none
    | .delete => match args.toList.map (opd e), argTypes.toList with
      | [m, k], t :: _ => (deleteA C H t m k).map fun H => .val (.tup []) H
      | _, _ => none
    | .recover => some .recover
    | .panic => match args.toList.map (opd e) with
      | [.iface t v] => some (.panic (.iface t v))
      | _ => none
    | .unsafeString => match args.toList.map (opd e), argTypes.toList with
      | [.nilp, .int _ 0], _ :: _ => some (.val (.str []) H)
      | [.aptr id g i 0, .int _ n], pt :: _ => (C.ty pt).bind fun T => match T.kd with
        | .pointer u => (C.ty u).bind fun U => match H[id]? with
          | some (.arr e g' _ 1 xs) => if u == e && U.size == 1 && g == g' && g' % 2 == 0 && 0 ≤ n && n ≤ mostLen && i + n.toNat ≤ xs.length then (bytesOf ((xs.drop i).take n.toNat)).map fun s => .val (.str s) (if n == 0 then H else H.set id (.arr e g' true 1 xs)) else none
          | _ => none
        | _ => none
      | _, _ => none
    | _ => none
  | _ => none

def putA (e : Env) (dst : Option Tmp) (v : AVal) : Env :=
  match dst with
  | some d => (d, v) :: e
  | none => e
def wantedA (e : Env) (ops : Array Oper) (o : Oper) : Option Bool :=
  match o.guard with
  | none => some true
  | some (j, want) => match (ops[j]?).bind (·.dst) with
    | some d => match get e d with
      | .bool b => some (b == want)
      | .tup [] => some false
      | _ => none
    | none => some false
def restrict (keep : List Nat) (e : Env) : Env := List.rec [] (fun t _ ih => (t, get e t) :: ih) keep
theorem restrict_cons (t : Nat) (keep : List Nat) (e : Env) : restrict (t :: keep) e = (t, get e t) :: restrict keep e := rfl

def freezeL (H : Heap) (vs : List AVal) : Option (List AVal × List Nat) :=
  (vs.mapM (freeze depth H)).map fun ys => (ys.map (·.1), (ys.map (·.2)).flatten)

/-- What comes of a call in an empty heap: a value (or what it panicked with), to what it was led, and, where the value is a new slice, the array. -/
structure PR where
  ok : Bool
  v : AVal
  ids : List Nat
  own : Option (TypeId × Nat × Nat × List AVal)

def ownOf (H : Heap) (v w : AVal) : Option (TypeId × Nat × Nat × List AVal) :=
  match v, w with
  | .arr id _ off len, .lst false ys => match H[id]? with
    | some (.arr e g false sz xs) => if off + len == xs.length && xs.all hard then some (e, g, sz, ys) else none
    | _ => none
  | _, _ => none

/-- A call that is made in an empty heap. -/
def callPure (rec : Task → Option Res) (C : Ctx) (f : FuncId) (args : List AVal) (H : Heap) : Option PR :=
  (freezeL H args).bind fun (as, ids) =>
  match C.prim f with
  | some F => (F as).map fun v => ⟨true, v, ids, none⟩
  | none =>
    match rec (.call f as [] none) with
    | some (.call (.ret v H' _)) => (freeze depth H' v).map fun w => ⟨true, w.1, ids, ownOf H' v w.1⟩
    | some (.call (.pan v H' _)) => (freeze depth H' v).map fun w => ⟨false, w.1, ids, none⟩
    | _ => none

/-- A normal call. -/
def callA (rec : Task → Option Res) (C : Ctx) (by_ f : FuncId) (args : List AVal) (H : Heap) : Option CR :=
  match C.hprim f with
  | some F => (F args H).map fun r => .ret r.1 r.2 false
  | none =>
  if C.pure f then
    (callPure rec C f args H).map fun r =>
      if r.ok then
        match (if C.thaw by_ f then r.own else none) with
        | some (e, g, sz, ys) => .ret (.arr (markRo r.ids H).length g 0 ys.length) (markRo r.ids H ++ [.arr e g false sz ys]) false
        | none => .ret r.v (if flat r.v then H else markRo r.ids H) false
      else .pan r.v (if flat r.v then H else markRo r.ids H) false
  else
    match rec (.call f args H none) with
    | some (.call r) => some r
    | _ => none

inductive OA where
  | ok (v : AVal) (s : St)
  | pan (v : AVal) (s : St)

def putArgs (e : Env) : List Tmp → List AVal → Env
  | t :: ts, v :: vs => putArgs ((t, v) :: e) ts vs
  | _, _ => e

def jumpOf : Ex → Option Code
  | .exit i => some (.exit i)
  | .goto l => some (.goto l)
  | .ret => some .ret
  | _ => none

def yieldA (rec : Task → Option Res) (C : Ctx) (id : Nat) (args : List AVal) (s : St) : Option OA :=
  match s.H[id]? with
  | some (.loop fn env params assign body 0 pend) =>
    if params.length ≠ args.length then none else
    match rec (.code assign { fn := fn, env := putArgs env params args, defs := [], H := s.H, pan := some .bad, recd := false }) with
    | some (.code .normal s1) =>
      match s1.H[id]? with
      | some (.loop fn1 env1 ps1 as1 bd1 0 pd1) =>
        match rec (.code body { s1 with H := s1.H.set id (.loop fn1 env1 ps1 as1 bd1 1 pd1) }) with
        | some (.code e s2) =>
          if !s2.defs.isEmpty then none else
          match s2.H[id]? with
          | some (.loop fn2 env2 ps2 as2 bd2 _ _) =>
            match e with
            | .panic v => some (.pan v { s with H := s2.H })
            | .normal => some (.ok (.bool true) { s with H := s2.H.set id (.loop fn2 env2 ps2 as2 bd2 0 none) })
            | e => some (.ok (.bool false) { s with H := s2.H.set id (.loop fn2 env2 ps2 as2 bd2 2 (jumpOf e)) })
          | _ => none
        | _ => none
      | _ => none
    | _ => none
  | _ => none

def opX [Globs] (rec : Task → Option Res) (C : Ctx) (s : St) (o : Oper) : Option OA :=
  (evX C s.env s.H o).bind fun x =>
  match x with
  | .val v H => some (.ok v { s with H := H })
  | .enter f args => (callA rec C s.fn f args s.H).map fun r =>
    match r with
    | .ret v H _ => .ok v { s with H := H }
    | .pan v H _ => .pan v { s with H := H }
  | .yield id args => yieldA rec C id args s
  | .recover => match s.pan with
    | some .bad => none
    | some v => if s.recd then some (.ok .nili s) else some (.ok v { s with recd := true })
    | none => some (.ok .nili s)
  | .defer f args => match s.pan with
    | some .bad => none
    | _ => some (.ok (.tup []) { s with defs := (f, args) :: s.defs })
  | .panic v => some (.pan v s)

def opA [Globs] (rec : Task → Option Res) (C : Ctx) (s : St) (o : Oper) : Option OA :=
  match evQ C s.env s.H o with
  | some v => some (.ok v s)
  | none => match evB C s.env s.H o with
    | some (obj, f) => some (.ok (f s.H.length) { s with H := s.H ++ [obj] })
    | none => opX rec C s o

/-- A region in the order of the text: what it panicked with, if it did. -/
def opsA [Globs] (rec : Task → Option Res) (C : Ctx) (ops : Array Oper) : List Nat → St → Option (Option AVal × St)
  | [], s => some (none, s)
  | i :: r, s =>
    match ops[i]? with
    | none => opsA rec C ops r s
    | some o => (wantedA s.env ops o).bind fun w =>
      if w then (opA rec C s o).bind fun x =>
        match x with
        | .ok v s' => opsA rec C ops r { s' with env := putA s'.env o.dst v }
        | .pan v s' => some (some v, s')
      else opsA rec C ops r { s with env := putA s.env o.dst (.tup []) }

/-- A quiet operation, calls that are made in an empty heap among them. -/
def opQ [Globs] (rec : Task → Option Res) (C : Ctx) (by_ : FuncId) (e : Env) (H : Heap) (o : Oper) : Option AVal :=
  match evQ C e H o with
  | some v => some v
  | none => match evX C e H o with
    | some (.enter f args) =>
      if C.pure f && !C.thaw by_ f && (C.hprim f).isNone then (callPure rec C f args H).bind fun r => if r.ok && (flat r.v || r.ids.isEmpty) then some r.v else none
      else none
    | _ => none

structure Chk where
  i : Nat
  lo : Nat
  hi : Nat
  test : Heap → Bool

def winOf (wins : List (Nat × Nat × Nat)) (i : Nat) : Option (Nat × Nat) :=
  match wins with
  | [] => none
  | (j, lo, hi) :: r => if j == i then some (lo, hi) else winOf r i

def withChk (wins : List (Nat × Nat × Nat)) (i : Nat) (test : Heap → Bool) (cs : List Chk) : List Chk :=
  match winOf wins i with
  | some (lo, hi) => ⟨i, lo, hi, test⟩ :: cs
  | none => cs

/-- A region whose order is open, along a plan: the heaps ahead of the chain's operations, and what is to be asked of them, come out. -/
def drawA [Globs] (rec : Task → Option Res) (C : Ctx) (ops : Array Oper) (wins : List (Nat × Nat × Nat)) :
    List (Nat × Nat) → St → List Heap → List Chk → Option (Option AVal × St × List Heap × List Chk)
  | [], s, Gs, cs => some (none, s, Gs ++ [s.H], cs)
  | (i, k) :: r, s, Gs, cs =>
    match ops[i]? with
    | none => none
    | some o => (wantedA s.env ops o).bind fun w =>
      if !w then drawA rec C ops wins r { s with env := putA s.env o.dst (.tup []) } (if k == 2 then Gs ++ [s.H] else Gs) cs else
      match k with
      | 0 => (opQ rec C s.fn s.env s.H o).bind fun v =>
        drawA rec C ops wins r { s with env := putA s.env o.dst v } Gs (withChk wins i (fun G => match opQ rec C s.fn s.env G o with | some u => beqN depth u v | none => false) cs)
      | 1 => (evB C s.env s.H o).bind fun (obj, f) =>
        drawA rec C ops wins r { s with env := putA s.env o.dst (f s.H.length), H := s.H ++ [obj] } Gs (withChk wins i (fun G => match G[s.H.length]? with | some u => beqO depth u obj | none => false) cs)
      | _ => (opX rec C s o).bind fun x =>
        match x with
        | .ok v s' => drawA rec C ops wins r { s' with env := putA s'.env o.dst v } (Gs ++ [s.H]) cs
        | .pan v s' => some (some v, s', Gs ++ [s.H] ++ [s'.H], cs)

def chkOk (Gs : List Heap) (c : Chk) : Bool := (Gs.zipIdx.filter fun (_, j) => c.lo ≤ j && j ≤ c.hi).all fun (G, _) => c.test G

def runPlan [Globs] (rec : Task → Option Res) (C : Ctx) (ops : Array Oper) (p : Plan) (s : St) : Option (Option AVal × St) :=
  (drawA rec C ops p.wins p.steps s [] []).bind fun (v, s', Gs, cs) => if cs.all (chkOk Gs) then some (v, s') else none

def dropDst (ops : Array Oper) (e : Env) : Env := e.filter fun (t, _) => !ops.toList.any fun o => o.dst == some t

def sameEnv : Env → Env → Bool
  | [], [] => true
  | (t, v) :: r, (u, w) :: s => t == u && beqN depth v w && sameEnv r s
  | _, _ => false
def sameHeap : Heap → Heap → Bool
  | [], [] => true
  | a :: r, b :: s => beqO depth a b && sameHeap r s
  | _, _ => false

def finishR (keep : List Nat) (x : Option AVal × St) : Res :=
  match x.1 with
  | none => .code .normal { x.2 with env := restrict keep x.2.env }
  | some v => .code (.panic v) { x.2 with env := restrict keep x.2.env }
def finishD (keep : List Nat) (ops : Array Oper) (e0 : Env) (x : Option AVal × St) : Res :=
  match x.1 with
  | none => .code .normal { x.2 with env := restrict keep x.2.env }
  | some v => .code (.panic v) { x.2 with env := restrict keep (dropDst ops e0) }

def regionA [Globs] (rec : Task → Option Res) (C : Ctx) (id : Nat) (ops : Array Oper) (draw : Bool) (s : St) : Option Res :=
  if draw then
    match C.plan s.fn id with
    | [p] => (runPlan rec C ops p s).map (finishD (C.keep s.fn) ops s.env)
    | [p, q] =>
      match runPlan rec C ops p s, runPlan rec C ops q s with
      | some (none, s1), some (none, s2) =>
        if sameEnv (restrict (C.keep s.fn) s1.env) (restrict (C.keep s.fn) s2.env) && sameHeap s1.H s2.H && s1.defs.isEmpty && s2.defs.isEmpty && s1.recd == s2.recd then some (finishD (C.keep s.fn) ops s.env (none, s1)) else none
      | _, _ => none
    | _ => none
  else (opsA rec C ops (List.range ops.size) s).map (finishR (C.keep s.fn))

def resultsA [Globs] (C : Ctx) (s : St) : List ResultVar → Option (List AVal)
  | [] => some []
  | .tmp t :: r => (opc s.env (.tmp t)).bind fun v => (resultsA C s r).map fun vs => v :: vs
  | .cell a t :: r => (loadA C s.H t (get s.env a)).bind fun v => (resultsA C s r).map fun vs => v :: vs
def oneOf : List AVal → AVal
  | [v] => v
  | vs => .tup vs

def bodyOf (C : Ctx) (f : FuncId) : Option (Code × Func) :=
  (C.fn f).bind fun fn => fn.body.map fun c => (c, fn)

def step [Globs] (C : Ctx) (rec : Task → Option Res) : Task → Option Res
  | .code c s =>
    match c with
    | .skip | .label _ => some (.code .normal s)
    | .exit id => some (.code (.exit id) s)
    | .goto l => some (.code (.goto l) s)
    | .ret => some (.code .ret s)
    | .refuse _ => none
    | .seq a b => match rec (.code a s) with
      | some (.code .normal s') => rec (.code b s')
      | r => r
    | .cond x a b => match opd s.env x with
      | .bool t => rec (.code (if t then a else b) s)
      | _ => none
    | .block id b => match rec (.code b s) with
      | some (.code (.exit i) s') => some (.code (if i = id then .normal else .exit i) s')
      | r => r
    | .loop b => match rec (.code b s) with
      | some (.code .normal s') => rec (.code (.loop b) s')
      | r => r
    | .scope b => rec (.scope b b s)
    | .region id ops draw => regionA rec C id ops draw s
    | .rangeFunc f params assign body =>
      match opd s.env f with
      | .func g as caps =>
        match rec (.call g (as ++ .yield s.H.length :: caps) (s.H ++ [.loop s.fn s.env params.toList assign body 0 none]) none) with
        | some (.call (.ret _ H2 _)) => match H2[s.H.length]? with
          | some (.loop fn env ps as bd st pend) =>
            if st == 1 then none else
            match pend with
            | none => some (.code .normal { s with H := H2.set s.H.length (.loop fn env ps as bd 3 none) })
            | some c => rec (.code c { s with H := H2.set s.H.length (.loop fn env ps as bd 3 (some c)) })
          | _ => none
        | some (.call (.pan v H2 _)) => some (.code (.panic v) { s with H := H2 })
        | _ => none
      | _ => none
  | .scope rest body s =>
    match rec (.code rest s) with
    | some (.code (.goto l) s') => match findLabel body l with
      | some rest' => rec (.scope rest' body s')
      | none => some (.code (.goto l) s')
    | r => r
  | .call f args H p =>
    (bodyOf C f).bind fun (c, _) =>
    match rec (.code c { fn := f, env := args.zipIdx.map fun (v, i) => (i, v), defs := [], H := H, pan := p, recd := false }) with
    | some (.code .normal s) | some (.code .ret s) => rec (.unwind s none)
    | some (.code (.panic v) s) => rec (.unwind s (some v))
    | _ => none
  | .unwind s p =>
    match s.defs with
    | [] => match p with
      | none => (C.fn s.fn).bind fun fn => (resultsA C s fn.results.toList).map fun vs => .call (.ret (oneOf vs) s.H s.recd)
      | some v => some (.call (.pan v s.H s.recd))
    | (f, args) :: ds => match rec (.call f args s.H p) with
      | some (.call (.ret _ H' r)) => rec (.unwind { s with defs := ds, H := H' } (if r then none else p))
      | _ => none

def ev [Globs] (C : Ctx) : Nat → Task → Option Res
  | 0, _ => none
  | n + 1, t => step C (ev C n) t

/-- A call in an empty heap, on values that are kept. -/
def evPure [Globs] (C : Ctx) (n : Nat) (f : FuncId) (args : List AVal) : Option AVal :=
  match ev C n (.call f args [] none) with
  | some (.call (.ret v H _)) => (freeze depth H v).map (·.1)
  | _ => none

end
end Go.Ev
/- What a program's types are to the evaluator. Definitions alone; no conditions. -/
namespace Go.Ev

def kdOf : TypeDesc → Kd
  | .bool => .bool
  | .int k => .int k
  | .string => .string
  | .pointer e => .pointer e
  | .slice e => .slice e
  | .array n e => .array n e
  | .map k e => .map k e
  | .struct fs => .struct (fs.toList.map fun f => (f.offset, f.type))
  | .func _ _ _ => .func
  | .interface _ => .interface
  | .tuple _ => .tuple
  | .unsafePointer => .unsafePointer
  | _ => .other

def noBlank : TypeDesc → Bool
  | .struct fs => fs.toList.all fun f => f.name != "_"
  | _ => true

def tyOf (P : Program) (t : TypeId) : Option Ty :=
  (P.info? t).bind fun i => (P.underlying t).bind fun d => i.zero.bind fun z => (absV z).bind fun a =>
    if a.cells.length == i.size && laid a && noBlank d then some { kd := kdOf d, size := i.size, bytes := i.bytes, zero := a } else none

def methOf (P : Program) (t : TypeId) (name : String) : Option FuncId :=
  (P.info? t).bind fun i => (i.methods.find? (·.name == name)).bind fun m => if m.path.isEmpty then (match m.func, P.underlying t with
    | some (_, false), some (.pointer _) => none
    | some (f, false), some _ => some f
    | some (f, true), some (.pointer _) => some f
    | _, _ => none) else none

end Go.Ev
/- Which slots live on behind a region, and plans for regions whose order is open. Definitions alone; no conditions. -/
namespace Go.Ev
noncomputable section

def tmpOf : Operand → List Nat
  | .tmp t => [t]
  | _ => []
def readsOf (o : Oper) : List Nat := o.op.operands.toList.flatMap tmpOf
/-- Slots that a region reads and has not written. -/
def exposed : List Oper → List Nat → List Nat
  | [], _ => []
  | o :: r, w => ((readsOf o).filter fun t => !w.contains t) ++ exposed r (o.dst.toList ++ w)
def exposedIn : Code → List Nat
  | .region _ ops _ => exposed ops.toList []
  | .seq a b => exposedIn a ++ exposedIn b
  | .cond c a b => tmpOf c ++ exposedIn a ++ exposedIn b
  | .block _ c | .loop c | .scope c => exposedIn c
  | .rangeFunc f _ a b => tmpOf f ++ exposedIn a ++ exposedIn b
  | _ => []
def insN (x : Nat) : List Nat → List Nat
  | [] => [x]
  | y :: r => if Nat.blt x y then x :: y :: r else if x == y then y :: r else y :: insN x r
def sortN (l : List Nat) : List Nat := l.foldl (fun r x => insN x r) []
def keepOf (f : Func) : List Nat :=
  ((f.results.toList.map fun (r : ResultVar) => match r with | .tmp t => t | .cell a _ => a) ++ ((f.body.map exposedIn).getD [])) |> sortN

def edgesOf (o : Oper) : List Nat := (o.after.toList.filter fun e => Region.binds .any e).map (·.on)
/-- What stands ahead of each operation by its edges, whatever order is drawn. -/
def beforeOf (ops : Array Oper) : Array (List Nat) :=
  ops.foldl (init := #[]) fun acc o => acc.push ((edgesOf o).foldl (fun s e => (e :: acc.getD e []) ++ s) []).eraseDups

def clsOf (C : Ctx) (by_ : FuncId) (loud : FuncId → Bool) (o : Oper) : Nat :=
  match o.op with
  | .alloc _ | .box _ _ | .buildSlice _ _ _ | .makeMap _ _ | .makeSlice _ _ _ | .range _ _ => 1
  | .convert _ d _ => match C.ty d with
    | some T => match T.kd with
      | .slice _ => 1
      | _ => 0
    | none => 0
  | .store _ _ _ | .mapUpdate _ _ _ _ | .insert _ _ _ _ | .mapEntry _ _ _ | .entryStore _ _ _ _ | .next _ _ | .panic _ | .defer _ => 2
  | .call { callee := .value (.func f), .. } => if C.pure f && !C.thaw by_ f && !loud f && (C.hprim f).isNone then 0 else 2
  | .call { callee := .builtin b, .. } => match b with
    | .len | .cap | .max | .min | .unsafeSliceData => 0
    | _ => 2
  | .call _ => 2
  | _ => 0
def readsHeap (o : Oper) : Bool :=
  match o.op with
  | .load _ _ | .lookup _ _ _ _ | .convert _ _ _ | .call _ | .slice _ _ _ _ _ | .indexAddr _ _ _ => true
  | _ => false

def orderOf (cls : Array Nat) (before : Array (List Nat)) (extra : List (Nat × Nat)) : Nat → List Nat → List Nat
  | 0, acc => acc.reverse
  | n + 1, acc =>
    let ready := (List.range cls.size).filter fun i => !acc.contains i && (before.getD i []).all acc.contains && extra.all fun (a, b) => b != i || acc.contains a
    match ready.find? (fun i => cls.getD i 0 != 2) with
    | some i => orderOf cls before extra n (i :: acc)
    | none => match ready with
      | i :: _ => orderOf cls before extra n (i :: acc)
      | [] => acc.reverse

def planWith (C : Ctx) (by_ : FuncId) (loud : FuncId → Bool) (ops : Array Oper) (extra : List (Nat × Nat)) : Plan :=
  let cls := ops.map (clsOf C by_ loud)
  let before := beforeOf ops
  let order := orderOf cls before extra ops.size []
  let chain := order.filter fun i => cls.getD i 0 == 2
  let wins := order.filterMap fun i =>
    if cls.getD i 0 == 2 || (cls.getD i 0 == 0 && !readsHeap (ops.getD i default)) then none else
    let lo := (chain.filter fun c => (before.getD i []).contains c).length
    let hi := chain.length - (chain.filter fun c => (before.getD c []).contains i).length
    if lo == hi then none else some (i, lo, hi)
  { steps := order.map fun i => (i, cls.getD i 0), wins := wins }

/-- Two chain operations that may come in either order. -/
def looseOf (C : Ctx) (by_ : FuncId) (loud : FuncId → Bool) (ops : Array Oper) : List (Nat × Nat) :=
  let cls := ops.map (clsOf C by_ loud)
  let before := beforeOf ops
  let chain := (List.range ops.size).filter fun i => cls.getD i 0 == 2
  chain.flatMap fun i => chain.filterMap fun j => if i < j && !(before.getD j []).contains i && !(before.getD i []).contains j then some (i, j) else none

def plansOf (C : Ctx) (by_ : FuncId) (loud : FuncId → Bool) (ops : Array Oper) : List Plan :=
  match looseOf C by_ loud ops with
  | [] => [planWith C by_ loud ops []]
  | [(i, j)] => [planWith C by_ loud ops [(i, j)], planWith C by_ loud ops [(j, i)]]
  | _ => []

def drawsIn : Code → List (Nat × Array Oper)
  | .region id ops true => [(id, ops)]
  | .seq a b | .cond _ a b | .rangeFunc _ _ a b => drawsIn a ++ drawsIn b
  | .block _ c | .loop c | .scope c => drawsIn c
  | _ => []

end
end Go.Ev
/- What an abstract value says of a value of the machine, an abstract heap of a world; and that it goes on to hold where what is kept is kept. No conditions beyond those of each theorem. -/
set_option linter.unusedVariables false
namespace Go.Ev
open Go.RowKit

abbrev Locs := List (Option (Nat × Nat))
def locOf (L : Locs) (id : Nat) : Option (Nat × Nat) := (L[id]?).join

/-- An object none of whose cells at this place is written any more. -/
def keptAt (o : Option AObj) (base off : Nat) : Prop :=
  match o with
  | some (.cells _ true _) => True
  | some (.arr _ _ true sz xs) => off < base + xs.length * sz
  | _ => False

/-- A cell that nobody writes any more. -/
def Stable (Z : Nat → Nat → Prop) (H : Heap) (L : Locs) (b off : Nat) : Prop :=
  Z b off ∧ ∀ id base, locOf L id = some (b, base) → keptAt H[id]? base off

/-- What a value is that leads to cells alone that are kept. -/
inductive DRel (w : World) (S : Nat → Nat → Prop) : AVal → Value → Prop where
  | int (k : IntKind) (n : Int) : DRel w S (.int k n) (.int k n)
  | bool (b : Bool) : DRel w S (.bool b) (.bool b)
  | str (l : List UInt8) (s : ByteArray) (h : s.data.toList = l) : DRel w S (.str l) (.string s)
  | nils : DRel w S (.lst true []) (.slice none 0 0)
  | lst (xs : List AVal) (a : Addr) (len cap sz : Nat) (c : Nat → Nat → Value) (hs : a.spot = none) (hl : len = xs.length) (hc : len ≤ cap)
      (hz : ∀ (i : Nat) (x : AVal), xs[i]? = some x → x.cells.length = sz)
      (hw : ∀ (i : Nat) (x : AVal), xs[i]? = some x → ∀ (j : Nat) (y : AVal), x.cells[j]? = some y → w.cell? ⟨a.block, a.off + (i * sz + j), none⟩ = some (c i j) ∧ S a.block (a.off + (i * sz + j)) ∧ (c i j).oneCell' = true)
      (hr : ∀ (i : Nat) (x : AVal), xs[i]? = some x → ∀ (j : Nat) (y : AVal), x.cells[j]? = some y → DRel w S y (c i j)) : DRel w S (.lst false xs) (.slice (some a) len cap)
  | nilp : DRel w S .nilp (.pointer none)
  | fptr (cs : List AVal) (a : Addr) (c : Nat → Value) (hs : a.spot = none)
      (hw : ∀ (j : Nat) (y : AVal), cs[j]? = some y → w.cell? ⟨a.block, a.off + j, none⟩ = some (c j) ∧ S a.block (a.off + j) ∧ (c j).oneCell' = true)
      (hr : ∀ (j : Nat) (y : AVal), cs[j]? = some y → DRel w S y (c j)) : DRel w S (.fptr cs) (.pointer (some a))
  | nilm : DRel w S (.map none) (.map none)
  | func (f : FuncId) (as cs : List AVal) (as' cs' : Array Value) (ha : as.length = as'.size) (hc : cs.length = cs'.size)
      (hra : ∀ (j : Nat) (y : AVal) (u : Value), as[j]? = some y → as'[j]? = some u → DRel w S y u)
      (hrc : ∀ (j : Nat) (y : AVal) (u : Value), cs[j]? = some y → cs'[j]? = some u → DRel w S y u) : DRel w S (.func f as cs) (.func (.func f) as' cs')
  | nilf : DRel w S .nilf .nilFunc
  | nili : DRel w S .nili .nilIface
  | iface (t : TypeId) (x : AVal) (v : Value) (h : DRel w S x v) : DRel w S (.iface t x) (.iface t v)
  | agg (cs : List AVal) (cs' : Array Value) (hc : cs.length = cs'.size) (h1 : ∀ (j : Nat) (u : Value), cs'[j]? = some u → u.oneCell' = true)
      (hr : ∀ (j : Nat) (y : AVal) (u : Value), cs[j]? = some y → cs'[j]? = some u → DRel w S y u) : DRel w S (.agg cs) (.agg cs')
  | tup (cs : List AVal) (cs' : Array Value) (hc : cs.length = cs'.size)
      (hr : ∀ (j : Nat) (y : AVal) (u : Value), cs[j]? = some y → cs'[j]? = some u → DRel w S y u) : DRel w S (.tup cs) (.tuple cs')

theorem DRel.mono {w w' : World} {S S' : Nat → Nat → Prop} (h : ∀ b off v, S b off → w.cell? ⟨b, off, none⟩ = some v → w'.cell? ⟨b, off, none⟩ = some v ∧ S' b off)
    {x : AVal} {v : Value} (hx : DRel w S x v) : DRel w' S' x v := by
  induction hx with
  | int k n => exact .int k n
  | bool b => exact .bool b
  | str l s hs => exact .str l s hs
  | nils => exact .nils
  | lst xs a len cap sz c hs hl hc hz hw hr ih =>
    exact .lst xs a len cap sz c hs hl hc hz (fun i x hi j y hj => let k := h _ _ _ (hw i x hi j y hj).2.1 (hw i x hi j y hj).1; ⟨k.1, k.2, (hw i x hi j y hj).2.2⟩) ih
  | nilp => exact .nilp
  | fptr cs a c hs hw hr ih => exact .fptr cs a c hs (fun j y hj => let k := h _ _ _ (hw j y hj).2.1 (hw j y hj).1; ⟨k.1, k.2, (hw j y hj).2.2⟩) ih
  | nilm => exact .nilm
  | func f as cs as' cs' ha hc hra hrc iha ihc => exact .func f as cs as' cs' ha hc iha ihc
  | nilf => exact .nilf
  | nili => exact .nili
  | iface t x v _ ih => exact .iface t x v ih
  | agg cs cs' hc h1 _ ih => exact .agg cs cs' hc h1 ih
  | tup cs cs' hc _ ih => exact .tup cs cs' hc ih

/-- What a value is, the heap's objects lying where L says. -/
inductive VRel (Z : Nat → Nat → Prop) (H : Heap) (L : Locs) (w : World) : AVal → Value → Prop where
  | data (x : AVal) (v : Value) (h : DRel w (Stable Z H L) x v) : VRel Z H L w x v
  | agg (cs : List AVal) (cs' : Array Value) (hc : cs.length = cs'.size) (h1 : ∀ (j : Nat) (u : Value), cs'[j]? = some u → u.oneCell' = true)
      (hr : ∀ (j : Nat) (y : AVal) (u : Value), cs[j]? = some y → cs'[j]? = some u → VRel Z H L w y u) : VRel Z H L w (.agg cs) (.agg cs')
  | tup (cs : List AVal) (cs' : Array Value) (hc : cs.length = cs'.size)
      (hr : ∀ (j : Nat) (y : AVal) (u : Value), cs[j]? = some y → cs'[j]? = some u → VRel Z H L w y u) : VRel Z H L w (.tup cs) (.tuple cs')
  | func (f : FuncId) (as cs : List AVal) (as' cs' : Array Value) (ha : as.length = as'.size) (hc : cs.length = cs'.size)
      (hra : ∀ (j : Nat) (y : AVal) (u : Value), as[j]? = some y → as'[j]? = some u → VRel Z H L w y u)
      (hrc : ∀ (j : Nat) (y : AVal) (u : Value), cs[j]? = some y → cs'[j]? = some u → VRel Z H L w y u) : VRel Z H L w (.func f as cs) (.func (.func f) as' cs')
  | iface (t : TypeId) (x : AVal) (v : Value) (h : VRel Z H L w x v) : VRel Z H L w (.iface t x) (.iface t v)
  | ptr (id off b : Nat) (t : TypeId) (ro : Bool) (cs : List AVal) (ho : H[id]? = some (.cells t ro cs)) (hl : locOf L id = some (b, 0)) :
      VRel Z H L w (.ptr id off) (.pointer (some ⟨b, off, none⟩))
  | arr (id gen off len b base cap : Nat) (e : TypeId) (ro : Bool) (sz : Nat) (xs : List AVal) (cs' : Array Value) (e' : TypeId) (fz : Nat × Nat)
      (ho : H[id]? = some (.arr e gen ro sz xs)) (hl : locOf L id = some (b, base)) (hx : 0 ≤ len) (hc : len ≤ cap)
      (hb : w.heap[b]? = some (.cells cs' e' fz)) (hs : base + (off + cap) * sz ≤ cs'.size) :
      VRel Z H L w (.arr id gen off len) (.slice (some ⟨b, base + off * sz, none⟩) len cap)
  | arrOld (id gen off len : Nat) (a : Addr) (c : Nat) (hs : a.spot = none) (hc : len ≤ c) (e : TypeId) (g : Nat) (ro : Bool) (sz : Nat) (xs : List AVal) (ho : H[id]? = some (.arr e g ro sz xs)) (hg : gen < g) :
      VRel Z H L w (.arr id gen off len) (.slice (some a) len c)
  | aptr (id gen i off b base : Nat) (e : TypeId) (ro : Bool) (sz : Nat) (xs : List AVal)
      (ho : H[id]? = some (.arr e gen ro sz xs)) (hl : locOf L id = some (b, base)) :
      VRel Z H L w (.aptr id gen i off) (.pointer (some ⟨b, base + (i * sz + off), none⟩))
  | aptrOld (id gen i off : Nat) (a : Addr) (hs : a.spot = none) (e : TypeId) (g : Nat) (ro : Bool) (sz : Nat) (xs : List AVal) (ho : H[id]? = some (.arr e g ro sz xs)) (hg : gen < g) :
      VRel Z H L w (.aptr id gen i off) (.pointer (some a))
  | map (id b : Nat) (es : List (AVal × AVal × Nat)) (clock : Nat) (ho : H[id]? = some (.map es clock)) (hl : locOf L id = some (b, 0)) : VRel Z H L w (.map (some id)) (.map (some b))
  | iter (id b : Nat) (s : List UInt8) (pos : Nat) (ho : H[id]? = some (.siter s pos)) (hl : locOf L id = some (b, 0)) : VRel Z H L w (.iter id) (.pointer (some ⟨b, 0, none⟩))
  | yield (id b : Nat) (fn : FuncId) (env : Env) (ps : List Tmp) (as bd : Code) (st : Nat) (pd : Option Code) (ho : H[id]? = some (.loop fn env ps as bd st pd))
      (hl : locOf L id = some (b, 0)) : VRel Z H L w (.yield id) (.func (.yield b) #[] #[])

/-- How an object may go on. -/
def objOn : AObj → AObj → Prop
  | .cells t ro cs, .cells t' ro' cs' => t = t' ∧ cs.length = cs'.length ∧ (ro = true → ro' = true)
  | .arr e g ro sz xs, .arr e' g' ro' sz' xs' => e = e' ∧ sz = sz' ∧ g ≤ g' ∧ (g' = g → xs'.length = xs.length)
  | .map _ _, .map _ _ => True
  | .siter s _, .siter s' _ => s = s'
  | .loop fn _ ps as bd _ _, .loop fn' _ ps' as' bd' _ _ => fn = fn' ∧ ps = ps' ∧ as = as' ∧ bd = bd'
  | _, _ => False
/-- Is it still where it was? (An array that was appended to need not be.) -/
def sameGen : AObj → AObj → Prop
  | .arr _ g _ _ _, .arr _ g' _ _ _ => g = g'
  | _, _ => True

/-- A heap and a world behind others: what was kept is kept, what was there is of its kind; below B nothing has turned. -/
structure Ext (B : Nat) (Z : Nat → Nat → Prop) (H : Heap) (L : Locs) (w : World) (H' : Heap) (L' : Locs) (w' : World) : Prop where
  obj : ∀ (id : Nat) (o : AObj), H[id]? = some o → ∃ o', H'[id]? = some o' ∧ objOn o o'
  loc : ∀ (id b base : Nat) (o o' : AObj), locOf L id = some (b, base) → H[id]? = some o → H'[id]? = some o' → sameGen o o' → locOf L' id = some (b, base)
  size : ∀ (b : Nat) cs e fz, w.heap[b]? = some (.cells cs e fz) → ∃ cs2 e2 fz2, w'.heap[b]? = some (.cells cs2 e2 fz2) ∧ cs2.size = cs.size
  stab : ∀ (b off : Nat) (v : Value), Stable Z H L b off → w.cell? ⟨b, off, none⟩ = some v → w'.cell? ⟨b, off, none⟩ = some v ∧ Stable Z H' L' b off
  below : Below B w w'
  free : ∀ b, (∀ id base, locOf L id ≠ some (b, base)) → b < w.heap.size → w'.heap[b]? = w.heap[b]? ∧ ∀ id base, locOf L' id ≠ some (b, base)

theorem objOn.refl (o : AObj) : objOn o o := by cases o <;> simp [objOn]
theorem objOn.trans {o1 o2 o3 : AObj} (h : objOn o1 o2) (h' : objOn o2 o3) : objOn o1 o3 := by
  cases o1 <;> cases o2 <;> simp only [objOn] at h <;> cases o3 <;> simp only [objOn] at h' ⊢
  case cells.cells.cells => exact ⟨h.1.trans h'.1, h.2.1.trans h'.2.1, fun x => h'.2.2 (h.2.2 x)⟩
  case arr.arr.arr => exact ⟨h.1.trans h'.1, h.2.1.trans h'.2.1, by omega, fun x => (h'.2.2.2 (by omega)).trans (h.2.2.2 (by omega))⟩
  case siter.siter.siter => exact h.trans h'
  case loop.loop.loop => exact ⟨h.1.trans h'.1, h.2.1.trans h'.2.1, h.2.2.1.trans h'.2.2.1, h.2.2.2.trans h'.2.2.2⟩

section
variable {B : Nat} {Z : Nat → Nat → Prop} {H H' H2 : Heap} {L L' L2 : Locs} {w w' w2 : World}
theorem Ext.refl (B : Nat) (Z : Nat → Nat → Prop) (H : Heap) (L : Locs) (w : World) : Ext B Z H L w H L w :=
  ⟨fun _ o h => ⟨o, h, objOn.refl o⟩, fun _ _ _ _ _ h _ _ _ => h, fun _ cs e fz h => ⟨cs, e, fz, h, rfl⟩, fun _ _ _ hs hc => ⟨hc, hs⟩, Below.refl _ _, fun _ h _ => ⟨rfl, h⟩⟩
theorem Ext.trans (E : Ext B Z H L w H' L' w') (E' : Ext B Z H' L' w' H2 L2 w2) : Ext B Z H L w H2 L2 w2 where
  obj id o h := by
    obtain ⟨o', h', k⟩ := E.obj id o h
    obtain ⟨o2, h2, k2⟩ := E'.obj id o' h'
    exact ⟨o2, h2, k.trans k2⟩
  loc id b base o o2 hl h h2 hg := by
    obtain ⟨o', h', k⟩ := E.obj id o h
    obtain ⟨o2', h2', k2⟩ := E'.obj id o' h'
    obtain rfl : o2' = o2 := by rw [h2] at h2'; exact (Option.some.inj h2').symm
    have hg1 : sameGen o o' ∧ sameGen o' o2' := by
      cases o <;> cases o' <;> simp only [objOn] at k <;> cases o2' <;> simp only [objOn, sameGen] at k2 hg ⊢ <;> first | exact ⟨trivial, trivial⟩ | omega
    exact E'.loc id b base o' o2' (E.loc id b base o o' hl h h' hg1.1) h' h2 hg1.2
  size b cs e fz h := by
    obtain ⟨cs2, e2, fz2, h2, hs⟩ := E.size b cs e fz h
    obtain ⟨cs3, e3, fz3, h3, hs3⟩ := E'.size b cs2 e2 fz2 h2
    exact ⟨cs3, e3, fz3, h3, hs3.trans hs⟩
  stab b off v hs hc := by
    obtain ⟨h1, h2⟩ := E.stab b off v hs hc
    exact E'.stab b off v h2 h1
  below := E.below.trans E'.below
  free b hb hlt := by
    obtain ⟨h1, h2⟩ := E.free b hb hlt
    obtain ⟨h3, h4⟩ := E'.free b h2 (Nat.lt_of_lt_of_le hlt E.below.size)
    exact ⟨h3.trans h1, h4⟩

theorem VRel.mono (E : Ext B Z H L w H' L' w') {x : AVal} {v : Value} (h : VRel Z H L w x v) : VRel Z H' L' w' x v := by
  induction h with
  | data x v hx => exact .data _ _ (hx.mono fun b off v hs hc => E.stab b off v hs hc)
  | agg cs cs' hc h1 _ ih => exact .agg cs cs' hc h1 ih
  | tup cs cs' hc _ ih => exact .tup cs cs' hc ih
  | func f as cs as' cs' ha hc _ _ iha ihc => exact .func f as cs as' cs' ha hc iha ihc
  | iface t x v _ ih => exact .iface t x v ih
  | ptr id off b t ro cs ho hl =>
    obtain ⟨o', h', k⟩ := E.obj id _ ho
    cases o' <;> simp only [objOn] at k
    exact .ptr id off b _ _ _ h' (E.loc id b 0 _ _ hl ho h' trivial)
  | arr id gen off len b base cap e ro sz xs cs' e' fz ho hl hx hc hb hs =>
    obtain ⟨o', h', k⟩ := E.obj id _ ho
    cases o' <;> simp only [objOn] at k
    case arr e2 g2 ro2 sz2 xs2 =>
      obtain ⟨_, rfl, hg, hk⟩ := k
      rcases Nat.lt_or_ge gen g2 with hlt | hge
      · exact .arrOld _ _ _ _ _ _ rfl hc _ _ _ _ _ h' hlt
      · obtain rfl : g2 = gen := by omega
        have h1 := hk rfl
        obtain ⟨cs2, e3, fz2, h4, h5⟩ := E.size _ _ _ _ hb
        exact .arr id g2 off len b base cap _ _ _ _ cs2 e3 fz2 h' (E.loc id b base _ _ hl ho h' rfl) (by omega) hc h4 (by omega)
  | arrOld id gen off len a c hs hc e g ro sz xs ho hg =>
    obtain ⟨o', h', k⟩ := E.obj id _ ho
    cases o' <;> simp only [objOn] at k
    exact .arrOld _ _ _ _ _ _ hs hc _ _ _ _ _ h' (by omega)
  | aptr id gen i off b base e ro sz xs ho hl =>
    obtain ⟨o', h', k⟩ := E.obj id _ ho
    cases o' <;> simp only [objOn] at k
    case arr e2 g2 ro2 sz2 xs2 =>
      obtain ⟨_, rfl, hg, hk⟩ := k
      rcases Nat.lt_or_ge gen g2 with hlt | hge
      · exact .aptrOld _ _ _ _ _ rfl _ _ _ _ _ h' hlt
      · obtain rfl : g2 = gen := by omega
        exact .aptr id g2 i off b base _ _ _ _ h' (E.loc id b base _ _ hl ho h' rfl)
  | aptrOld id gen i off a hs e g ro sz xs ho hg =>
    obtain ⟨o', h', k⟩ := E.obj id _ ho
    cases o' <;> simp only [objOn] at k
    exact .aptrOld _ _ _ _ _ hs _ _ _ _ _ h' (by omega)
  | map id b es clock ho hl =>
    obtain ⟨o', h', k⟩ := E.obj id _ ho
    cases o' <;> simp only [objOn] at k
    exact .map id b _ _ h' (E.loc id b 0 _ _ hl ho h' trivial)
  | iter id b s pos ho hl =>
    obtain ⟨o', h', k⟩ := E.obj id _ ho
    cases o' <;> simp only [objOn] at k
    exact .iter id b _ _ h' (E.loc id b 0 _ _ hl ho h' trivial)
  | yield id b fn env ps as bd st pd ho hl =>
    obtain ⟨o', h', k⟩ := E.obj id _ ho
    cases o' <;> simp only [objOn] at k
    exact .yield id b _ _ _ _ _ _ _ h' (E.loc id b 0 _ _ hl ho h' trivial)

/-! ### What a value must be -/
theorem VRel.int_inv {k : IntKind} {n : Int} {v : Value} (h : VRel Z H L w (.int k n) v) : v = .int k n := by
  cases h with | data _ _ h => cases h; rfl
theorem VRel.bool_inv {b : Bool} {v : Value} (h : VRel Z H L w (.bool b) v) : v = .bool b := by
  cases h with | data _ _ h => cases h; rfl
theorem VRel.str_inv {l : List UInt8} {v : Value} (h : VRel Z H L w (.str l) v) : ∃ s : ByteArray, v = .string s ∧ s.data.toList = l := by
  cases h with | data _ _ h => cases h with | str _ s hs => exact ⟨s, rfl, hs⟩
theorem VRel.nilp_inv {v : Value} (h : VRel Z H L w .nilp v) : v = .pointer none := by
  cases h with | data _ _ h => cases h; rfl
theorem VRel.nilf_inv {v : Value} (h : VRel Z H L w .nilf v) : v = .nilFunc := by
  cases h with | data _ _ h => cases h; rfl
theorem VRel.nili_inv {v : Value} (h : VRel Z H L w .nili v) : v = .nilIface := by
  cases h with | data _ _ h => cases h; rfl
theorem VRel.nilm_inv {v : Value} (h : VRel Z H L w (.map none) v) : v = .map none := by
  cases h with | data _ _ h => cases h; rfl
theorem VRel.bad_inv {v : Value} (h : VRel Z H L w .bad v) : False := by
  cases h with | data _ _ h => cases h
theorem VRel.agg_inv {cs : List AVal} {v : Value} (h : VRel Z H L w (.agg cs) v) :
    ∃ cs' : Array Value, v = .agg cs' ∧ cs.length = cs'.size ∧ (∀ (j : Nat) (u : Value), cs'[j]? = some u → u.oneCell' = true) ∧
      ∀ (j : Nat) (y : AVal) (u : Value), cs[j]? = some y → cs'[j]? = some u → VRel Z H L w y u := by
  cases h with
  | data _ _ h => cases h with | agg _ cs' hc h1 hr => exact ⟨cs', rfl, hc, h1, fun j y u hy hu => .data _ _ (hr j y u hy hu)⟩
  | agg _ cs' hc h1 hr => exact ⟨cs', rfl, hc, h1, hr⟩
theorem VRel.tup_inv {cs : List AVal} {v : Value} (h : VRel Z H L w (.tup cs) v) :
    ∃ cs' : Array Value, v = .tuple cs' ∧ cs.length = cs'.size ∧ ∀ (j : Nat) (y : AVal) (u : Value), cs[j]? = some y → cs'[j]? = some u → VRel Z H L w y u := by
  cases h with
  | data _ _ h => cases h with | tup _ cs' hc hr => exact ⟨cs', rfl, hc, fun j y u hy hu => .data _ _ (hr j y u hy hu)⟩
  | tup _ cs' hc hr => exact ⟨cs', rfl, hc, hr⟩
theorem VRel.iface_inv {t : TypeId} {x : AVal} {v : Value} (h : VRel Z H L w (.iface t x) v) : ∃ u, v = .iface t u ∧ VRel Z H L w x u := by
  cases h with
  | data _ _ h => cases h with | iface _ _ u h => exact ⟨u, rfl, .data _ _ h⟩
  | iface _ _ u h => exact ⟨u, rfl, h⟩
theorem VRel.func_inv {f : FuncId} {as cs : List AVal} {v : Value} (h : VRel Z H L w (.func f as cs) v) :
    ∃ as' cs' : Array Value, v = .func (.func f) as' cs' ∧ as.length = as'.size ∧ cs.length = cs'.size ∧
      (∀ (j : Nat) (y : AVal) (u : Value), as[j]? = some y → as'[j]? = some u → VRel Z H L w y u) ∧ ∀ (j : Nat) (y : AVal) (u : Value), cs[j]? = some y → cs'[j]? = some u → VRel Z H L w y u := by
  cases h with
  | data _ _ h => cases h with | func _ _ _ as' cs' ha hc hra hrc => exact ⟨as', cs', rfl, ha, hc, fun j y u hy hu => .data _ _ (hra j y u hy hu), fun j y u hy hu => .data _ _ (hrc j y u hy hu)⟩
  | func _ _ _ as' cs' ha hc hra hrc => exact ⟨as', cs', rfl, ha, hc, hra, hrc⟩
theorem VRel.ptr_inv {id off : Nat} {v : Value} (h : VRel Z H L w (.ptr id off) v) :
    ∃ b t ro cs, v = .pointer (some ⟨b, off, none⟩) ∧ H[id]? = some (.cells t ro cs) ∧ locOf L id = some (b, 0) := by
  cases h with
  | data _ _ h => cases h
  | ptr _ _ b t ro cs ho hl => exact ⟨b, t, ro, cs, rfl, ho, hl⟩
theorem VRel.map_inv {id : Nat} {v : Value} (h : VRel Z H L w (.map (some id)) v) :
    ∃ b es clock, v = .map (some b) ∧ H[id]? = some (.map es clock) ∧ locOf L id = some (b, 0) := by
  cases h with
  | data _ _ h => cases h
  | map _ b es clock ho hl => exact ⟨b, es, clock, rfl, ho, hl⟩
theorem VRel.iter_inv {id : Nat} {v : Value} (h : VRel Z H L w (.iter id) v) :
    ∃ b s pos, v = .pointer (some ⟨b, 0, none⟩) ∧ H[id]? = some (.siter s pos) ∧ locOf L id = some (b, 0) := by
  cases h with
  | data _ _ h => cases h
  | iter _ b s pos ho hl => exact ⟨b, s, pos, rfl, ho, hl⟩
end

section
variable {Z : Nat → Nat → Prop} {H : Heap} {L : Locs} {w : World}
theorem DRel.one {S : Nat → Nat → Prop} {x : AVal} {v : Value} (h : DRel w S x v) (h1 : oneA x = true) : v.oneCell' = true := by
  cases h <;> first | rfl | simp [oneA] at h1
theorem VRel.one {x : AVal} {v : Value} (h : VRel Z H L w x v) (h1 : oneA x = true) : v.oneCell' = true := by
  cases h with
  | data _ _ h => exact h.one h1
  | agg => simp [oneA] at h1
  | tup => simp [oneA] at h1
  | _ => rfl
theorem cells_one {x : AVal} (h : oneA x = true) : x.cells = [x] := by cases x <;> first | rfl | simp [oneA] at h
theorem vcells_one {v : Value} (h : v.oneCell' = true) : v.cells = #[v] := by cases v <;> first | rfl | simp [Value.oneCell'] at h
/-- Cell by cell. -/
theorem VRel.cells {x : AVal} {v : Value} (h : VRel Z H L w x v) (hl : laid x = true) :
    x.cells.length = v.cells.size ∧ (∀ (j : Nat) (u : Value), v.cells[j]? = some u → u.oneCell' = true) ∧
      ∀ (j : Nat) (y : AVal) (u : Value), x.cells[j]? = some y → v.cells[j]? = some u → VRel Z H L w y u := by
  by_cases ha : ∃ cs, x = .agg cs
  · obtain ⟨cs, rfl⟩ := ha
    obtain ⟨cs', rfl, h1, h2, h3⟩ := h.agg_inv
    exact ⟨h1, h2, h3⟩
  · have h1 : oneA x = true := by cases x <;> first | rfl | (exact absurd ⟨_, rfl⟩ ha) | simp [laid] at hl
    have h2 := h.one h1
    rw [cells_one h1, vcells_one h2]
    refine ⟨rfl, fun j u hu => ?_, fun j y u hy hu => ?_⟩
    · cases j with
      | zero => simp at hu; exact hu ▸ h2
      | succ j => simp at hu
    · cases j with
      | zero => simp at hy hu; exact hy ▸ hu ▸ h
      | succ j => simp at hu
end

/-- Values of a slot: of one that is not known nothing is said. -/
def SRel (Z : Nat → Nat → Prop) (H : Heap) (L : Locs) (w : World) (x : AVal) (v : Value) : Prop := x = .bad ∨ VRel Z H L w x v



end Go.Ev
/- An abstract heap and a world: how they go on together where an object is made, or turned. Each theorem bears its own conditions. -/
set_option linter.unusedVariables false
set_option linter.unusedSectionVars false
namespace Go.Ev
open Go.RowKit
variable [Globs]

/-- Slots: of those that are known. -/
def ERel (Z : Nat → Nat → Prop) (H : Heap) (L : Locs) (w : World) (e : Env) (tmps : Array Value) : Prop :=
  ∀ t, SRel Z H L w (get e t) (tmps.getD t undef)

def stNat : LoopState → Nat
  | .ready => 0 | .busy => 1 | .done => 2 | .exhausted => 3

def ORel (Z : Nat → Nat → Prop) (H : Heap) (L : Locs) (w : World) : AObj → Nat → Nat → Prop
  | .cells t ro cs, b, base => base = 0 ∧ ∃ cs', w.heap[b]? = some (.cells cs' t (0, 0)) ∧ cs'.size = cs.length ∧
      (∀ (j : Nat) (u : Value), cs'[j]? = some u → u.oneCell' = true) ∧ ∀ (j : Nat) (y : AVal) (u : Value), cs[j]? = some y → cs'[j]? = some u → VRel Z H L w y u
  | .arr e g ro sz xs, b, base => 0 < sz ∧ ∃ cs' fz, w.heap[b]? = some (.cells cs' e fz) ∧ base + xs.length * sz ≤ cs'.size ∧
      (∀ (i : Nat) (x : AVal), xs[i]? = some x → x.cells.length = sz ∧ laid x = true) ∧ (∀ (j : Nat) (u : Value), cs'[j]? = some u → u.oneCell' = true) ∧
      (∀ (i : Nat) (x : AVal), xs[i]? = some x → ∀ (j : Nat) (y : AVal) (u : Value), x.cells[j]? = some y → cs'[base + (i * sz + j)]? = some u → VRel Z H L w y u) ∧
      (fz.1 ≠ fz.2 → (ro = true ∧ fz.2 ≤ base + xs.length * sz) ∨ (g % 2 = 1 ∧ cs'.size ≤ fz.1))
  | .map es clock, b, base => base = 0 ∧ ∃ es' : Array MapEntry, w.heap[b]? = some (.map es' clock) ∧ es'.size = es.length ∧
      ∀ (i : Nat) (k v : AVal) (n : Nat) (m : MapEntry), es[i]? = some (k, v, n) → es'[i]? = some m → plainKey k = true ∧ VRel Z H L w k m.key ∧ VRel Z H L w v m.val ∧ m.born = n
  | .siter s pos, b, base => base = 0 ∧ ∃ s' : ByteArray, w.heap[b]? = some (.stringIter s' pos) ∧ s'.data.toList = s
  | .loop fn env ps as bd st pd, b, base => base = 0 ∧ ∃ l : Loop, w.heap[b]? = some (.loop l) ∧ l.fn = fn ∧ l.params.toList = ps ∧ l.assign = as ∧ l.body = bd ∧
      stNat l.state = st ∧ l.pending = pd ∧ ERel Z H L w env l.tmps ∧ okC l.tmps.size as = true ∧ okC l.tmps.size bd = true ∧ ps.all (fun t => decide (t < l.tmps.size)) = true

/-- What is known of package-level variables: they lie below B, and nobody writes them. -/
structure GlobOk (B : Nat) (Z : Nat → Nat → Prop) (w : World) : Prop where
  val : ∀ g x, Globs.val g = some x → DRel w (fun b off => b < B ∧ Z b off) x (.pointer (some ⟨g, 0, none⟩))
  ints : ∀ g ∈ Globs.ints, g < B ∧ ∃ m : Int, w.cell? ⟨g, 0, none⟩ = some (.int .i64 m)
structure HRel (B : Nat) (Z : Nat → Nat → Prop) (H : Heap) (L : Locs) (w : World) : Prop where
  len : L.length = H.length
  inj : ∀ i j b x y, locOf L i = some (b, x) → locOf L j = some (b, y) → i = j
  lo : ∀ i b x, locOf L i = some (b, x) → B ≤ b
  zB : ∀ b off, B ≤ b → Z b off
  bsz : B ≤ w.heap.size
  glob : GlobOk B Z w
  obj : ∀ id b base, locOf L id = some (b, base) → ∃ o, H[id]? = some o ∧ ORel Z H L w o b base

section
variable {B : Nat} {Z : Nat → Nat → Prop} {H H' : Heap} {L L' : Locs} {w w' : World}

theorem cell?_block {a a' : World} {b off : Nat} (h : a'.heap[b]? = a.heap[b]?) : a'.cell? ⟨b, off, none⟩ = a.cell? ⟨b, off, none⟩ := by
  unfold World.cell?
  rw [h]
theorem GlobOk.mono {B : Nat} {Z : Nat → Nat → Prop} {w w' : World} (h : GlobOk B Z w) (hb : ∀ b, b < B → w'.heap[b]? = w.heap[b]?) : GlobOk B Z w' :=
  ⟨fun g x hx => (h.val g x hx).mono fun b off v h1 h2 => ⟨by rw [cell?_block (hb b h1.1)]; exact h2, h1⟩, fun g hg => by
    obtain ⟨h1, m, h2⟩ := h.ints g hg
    exact ⟨h1, m, by rw [cell?_block (hb g h1)]; exact h2⟩⟩
theorem GlobOk.cells {B : Nat} {Z : Nat → Nat → Prop} {w w' : World} (h : GlobOk B Z w) (hb : ∀ b off, w'.cell? ⟨b, off, none⟩ = w.cell? ⟨b, off, none⟩) : GlobOk B Z w' :=
  ⟨fun g x hx => (h.val g x hx).mono fun b off v h1 h2 => ⟨by rw [hb]; exact h2, h1⟩, fun g hg => by
    obtain ⟨h1, m, h2⟩ := h.ints g hg
    exact ⟨h1, m, by rw [hb]; exact h2⟩⟩
theorem GlobOk.up {B B' : Nat} {Z Z' : Nat → Nat → Prop} {w : World} (h : GlobOk B Z w) (hB : B ≤ B') (hZ : ∀ b off, b < B → Z b off → Z' b off) : GlobOk B' Z' w :=
  ⟨fun g x hx => (h.val g x hx).mono fun b off v h1 h2 => ⟨h2, by omega, hZ b off h1.1 h1.2⟩, fun g hg => by
    obtain ⟨h1, h2⟩ := h.ints g hg
    exact ⟨by omega, h2⟩⟩
theorem ORel.lt {o : AObj} {b base : Nat} (h : ORel Z H L w o b base) : b < w.heap.size := by
  have : w.heap[b]?.isSome = true := by
    cases o with
    | cells => obtain ⟨_, _, h, _⟩ := h; simp [h]
    | arr => obtain ⟨_, _, _, h, _⟩ := h; simp [h]
    | map => obtain ⟨_, _, h, _⟩ := h; simp [h]
    | siter => obtain ⟨_, _, h, _⟩ := h; simp [h]
    | loop => obtain ⟨_, _, h, _⟩ := h; simp [h]
  rcases Nat.lt_or_ge b w.heap.size with h' | h'
  · exact h'
  · rw [Array.getElem?_eq_none h'] at this
    simp at this
theorem HRel.hi (h : HRel B Z H L w) {id b base : Nat} (hl : locOf L id = some (b, base)) : b < w.heap.size := by
  obtain ⟨o, _, ho⟩ := h.obj id b base hl
  exact ho.lt

theorem ERel.mono (E : Ext B Z H L w H' L' w') {e : Env} {tmps : Array Value} (h : ERel Z H L w e tmps) : ERel Z H' L' w' e tmps :=
  fun t => (h t).imp id fun h => h.mono E

theorem ORel.mono (E : Ext B Z H L w H' L' w') {o : AObj} {b base : Nat} (h : ORel Z H L w o b base) (hb : w'.heap[b]? = w.heap[b]?) : ORel Z H' L' w' o b base := by
  cases o with
  | cells t ro cs =>
    obtain ⟨h0, cs', h1, h2, h3, h4⟩ := h
    exact ⟨h0, cs', hb.trans h1, h2, h3, fun j y u hy hu => (h4 j y u hy hu).mono E⟩
  | arr e g ro sz xs =>
    obtain ⟨h0, cs', fz, h1, h2, h3, h4, h5, h6⟩ := h
    exact ⟨h0, cs', fz, hb.trans h1, h2, h3, h4, fun i x hi j y u hy hu => (h5 i x hi j y u hy hu).mono E, h6⟩
  | map es clock =>
    obtain ⟨h0, es', h1, h2, h3⟩ := h
    exact ⟨h0, es', hb.trans h1, h2, fun i k v n m hi hm => let ⟨a, b, c, d⟩ := h3 i k v n m hi hm; ⟨a, b.mono E, c.mono E, d⟩⟩
  | siter s pos => obtain ⟨h0, s', h1, h2⟩ := h; exact ⟨h0, s', hb.trans h1, h2⟩
  | loop fn env ps as bd st pd =>
    obtain ⟨h0, l, h1, h2, h3, h4, h5, h6, h7, h8, h9⟩ := h
    exact ⟨h0, l, hb.trans h1, h2, h3, h4, h5, h6, h7, h8.mono E, h9⟩

theorem cell?_same {b off : Nat} (hb : w'.heap[b]? = w.heap[b]?) : w'.cell? ⟨b, off, none⟩ = w.cell? ⟨b, off, none⟩ := by simp [World.cell?, hb]
theorem cell?_lt {b off : Nat} {v : Value} (h : w.cell? ⟨b, off, none⟩ = some v) : b < w.heap.size := World.block_lt_of_cell? w ⟨b, off, none⟩ h
theorem cell?_of {b off : Nat} {cs : Array Value} {e : TypeId} {fz : Nat × Nat} (h : w.heap[b]? = some (.cells cs e fz)) : w.cell? ⟨b, off, none⟩ = cs[off]? := by
  simp [World.cell?, h]

/-- The world has grown, and nothing that was there has turned. -/
theorem Ext.grown (hR : HRel B Z H L w) (hb : Below w.heap.size w w') : Ext B Z H L w H L w' where
  obj _ o h := ⟨o, h, objOn.refl o⟩
  loc _ _ _ _ _ h _ _ _ := h
  size b cs e fz h := ⟨cs, e, fz, (hb.block b (Array.getElem?_eq_some_iff.1 h).1).trans h, rfl⟩
  stab b off v hs hc := ⟨(cell?_same (hb.block b (cell?_lt hc))).trans hc, hs⟩
  below := ⟨hb.os, hb.tape, hb.output, hb.size, fun i hi => hb.block i (Nat.lt_of_lt_of_le hi hR.bsz)⟩
  free b h hlt := ⟨hb.block b hlt, h⟩
theorem HRel.grown (hR : HRel B Z H L w) (hb : Below w.heap.size w w') : HRel B Z H L w' where
  len := hR.len
  inj := hR.inj
  lo := hR.lo
  zB := hR.zB
  bsz := Nat.le_trans hR.bsz hb.size
  glob := hR.glob.mono fun b h => hb.block b (Nat.lt_of_lt_of_le h hR.bsz)
  obj id b base hl := by
    obtain ⟨o, h1, h2⟩ := hR.obj id b base hl
    exact ⟨o, h1, h2.mono (Ext.grown hR hb) (hb.block b h2.lt)⟩

theorem locOf_append {x : Option (Nat × Nat)} {id : Nat} : locOf (L ++ [x]) id = if id = L.length then x else locOf L id := by
  unfold locOf
  rcases Nat.lt_trichotomy id L.length with h | h | h
  · rw [List.getElem?_append_left h, if_neg (by omega)]
  · subst h; simp
  · rw [if_neg (by omega), List.getElem?_eq_none (by simp; omega), List.getElem?_eq_none (by omega)]
theorem locOf_none {id : Nat} (h : L.length ≤ id) : locOf L id = none := by simp [locOf, List.getElem?_eq_none h]
theorem getElem?_snoc {o : AObj} {id : Nat} : (H ++ [o])[id]? = if id = H.length then some o else H[id]? := by
  rcases Nat.lt_trichotomy id H.length with h | h | h
  · rw [List.getElem?_append_left h, if_neg (by omega)]
  · subst h; simp
  · rw [if_neg (by omega), List.getElem?_eq_none (by simp; omega), List.getElem?_eq_none (by omega)]

/-- An object more, that is not there yet in the world. -/
theorem Ext.hole (hR : HRel B Z H L w) (o : AObj) : Ext B Z H L w (H ++ [o]) (L ++ [none]) w where
  obj id o' h := ⟨o', by rw [getElem?_snoc, if_neg (by have := (List.getElem?_eq_some_iff.1 h).1; omega)]; exact h, objOn.refl o'⟩
  loc id b base o1 o2 hl h1 h2 hg := by
    rw [locOf_append, if_neg (by have := (List.getElem?_eq_some_iff.1 h1).1; have := hR.len; omega)]; exact hl
  size b cs e fz h := ⟨cs, e, fz, h, rfl⟩
  stab b off v hs hc := by
    refine ⟨hc, hs.1, fun id base hl => ?_⟩
    rw [locOf_append] at hl
    split at hl
    · cases hl
    · rename_i hne
      rw [getElem?_snoc, if_neg (by rw [hR.len] at hne; exact hne)]
      exact hs.2 id base hl
  below := Below.refl _ _
  free b h hlt := ⟨rfl, fun id base hl => by
    rw [locOf_append] at hl
    split at hl
    · cases hl
    · exact h id base hl⟩
theorem HRel.hole (hR : HRel B Z H L w) (o : AObj) : HRel B Z (H ++ [o]) (L ++ [none]) w where
  len := by simp [hR.len]
  inj i j b x y hi hj := by
    rw [locOf_append] at hi hj
    split at hi <;> split at hj <;> try contradiction
    exact hR.inj i j b x y hi hj
  lo i b x hi := by
    rw [locOf_append] at hi
    split at hi
    · contradiction
    · exact hR.lo i b x hi
  zB := hR.zB
  bsz := hR.bsz
  glob := hR.glob
  obj id b base hl := by
    rw [locOf_append] at hl
    split at hl
    · contradiction
    · rename_i hne
      obtain ⟨o', h1, h2⟩ := hR.obj id b base hl
      exact ⟨o', by rw [getElem?_snoc, if_neg (by rw [hR.len] at hne; exact hne)]; exact h1, h2.mono (Ext.hole hR o) rfl⟩

/-- A hole is filled: by a block that is new. -/
theorem Ext.fill (hR : HRel B Z H L w) {id : Nat} (hid : id < L.length) (hn : locOf L id = none) (o : Obj) :
    Ext B Z H L w H (L.set id (some (w.heap.size, 0))) (w.alloc o) where
  obj _ o h := ⟨o, h, objOn.refl o⟩
  loc id' b base _ _ hl _ _ _ := by
    have hne : id ≠ id' := fun h => by subst h; rw [hn] at hl; cases hl
    simpa [locOf, List.getElem?_set, hne] using hl
  size b cs e fz h := ⟨cs, e, fz, by rw [heap_alloc_old _ _ _ (Array.getElem?_eq_some_iff.1 h).1]; exact h, rfl⟩
  stab b off v hs hc := by
    have hlt := cell?_lt hc
    refine ⟨(cell?_same (heap_alloc_old _ _ _ hlt)).trans hc, hs.1, fun id' base hl => ?_⟩
    by_cases hne : id = id'
    · subst hne
      simp [locOf, hid] at hl
      omega
    · exact hs.2 id' base (by simpa [locOf, List.getElem?_set, hne] using hl)
  below := (Below.refl _ _).alloc hR.bsz _
  free b h hlt := ⟨heap_alloc_old _ _ _ hlt, fun id' base hl => by
    by_cases hne : id = id'
    · subst hne
      simp [locOf, hid] at hl
      omega
    · exact h id' base (by simpa [locOf, List.getElem?_set, hne] using hl)⟩
theorem HRel.fill (hR : HRel B Z H L w) {id : Nat} (hid : id < L.length) (hn : locOf L id = none) {o : Obj} {ao : AObj} (ho : H[id]? = some ao)
    (hr : ORel Z H (L.set id (some (w.heap.size, 0))) (w.alloc o) ao w.heap.size 0) : HRel B Z H (L.set id (some (w.heap.size, 0))) (w.alloc o) where
  len := by simp [hR.len]
  inj i j b x y hi hj := by
    have key : ∀ i b x, locOf (L.set id (some (w.heap.size, 0))) i = some (b, x) → (i = id ∧ b = w.heap.size) ∨ (i ≠ id ∧ locOf L i = some (b, x)) := by
      intro i b x hi
      by_cases hne : id = i
      · subst hne
        simp [locOf, hid] at hi
        exact .inl ⟨rfl, hi.1.symm⟩
      · exact .inr ⟨fun h => hne h.symm, by simpa [locOf, List.getElem?_set, hne] using hi⟩
    rcases key i b x hi with ⟨h1, h2⟩ | ⟨h1, h2⟩ <;> rcases key j b y hj with ⟨h3, h4⟩ | ⟨h3, h4⟩
    · omega
    · have := hR.hi h4; omega
    · have := hR.hi h2; omega
    · exact hR.inj i j b x y h2 h4
  lo i b x hi := by
    by_cases hne : id = i
    · subst hne
      simp [locOf, hid] at hi
      have := hR.bsz
      omega
    · exact hR.lo i b x (by simpa [locOf, List.getElem?_set, hne] using hi)
  zB := hR.zB
  bsz := by have := hR.bsz; simp; omega
  glob := hR.glob.mono fun b h => ((Below.refl B w).alloc hR.bsz o).block b h
  obj i b base hl := by
    by_cases hne : id = i
    · subst hne
      simp [locOf, hid] at hl
      obtain ⟨rfl, rfl⟩ := hl
      exact ⟨ao, ho, hr⟩
    · have hl' : locOf L i = some (b, base) := by simpa [locOf, List.getElem?_set, hne] using hl
      obtain ⟨o', h1, h2⟩ := hR.obj i b base hl'
      exact ⟨o', h1, h2.mono (Ext.fill hR hid hn o) (heap_alloc_old _ _ _ h2.lt)⟩

theorem locOf_set {id j : Nat} {x : Option (Nat × Nat)} (hid : id < L.length) : locOf (L.set id x) j = if id = j then x else locOf L j := by
  unfold locOf
  by_cases h : id = j
  · subst h; simp [hid]
  · simp [h]

/-- An object is turned; it may lie elsewhere behind it, if it is an array that was appended to. -/
theorem Ext.upd (hR : HRel B Z H L w) {id b base b' base' : Nat} {o o' : AObj} (hl : locOf L id = some (b, base)) (ho : H[id]? = some o) (hon : objOn o o')
    (hloc : sameGen o o' → b' = b ∧ base' = base) (hsame : ∀ i, i ≠ b → i < w.heap.size → w'.heap[i]? = w.heap[i]?)
    (hblk : ∀ cs e fz, w.heap[b]? = some (.cells cs e fz) → ∃ cs2 e2 fz2, w'.heap[b]? = some (.cells cs2 e2 fz2) ∧ cs2.size = cs.size)
    (hkeep : ∀ off v, keptAt (some o) base off → w.cell? ⟨b, off, none⟩ = some v → w'.cell? ⟨b, off, none⟩ = some v ∧ (b' = b → keptAt (some o') base' off))
    (hb' : b' = b ∨ w.heap.size ≤ b') (hsz : w.heap.size ≤ w'.heap.size) (hos : w'.os = w.os) (htape : w'.tape = w.tape) (hout : w'.output = w.output) :
    Ext B Z H L w (H.set id o') (L.set id (some (b', base'))) w' := by
  have hidL : id < L.length := by
    rcases Nat.lt_or_ge id L.length with h | h
    · exact h
    · rw [locOf_none h] at hl; cases hl
  have hidH : id < H.length := by have := hR.len; omega
  refine ⟨fun j oj hj => ?_, fun j bj basej oj oj' hlj hj hj' hg => ?_, fun i cs e fz h => ?_, fun blk off v hs hc => ?_, ?_, fun blk hfree hlt => ?_⟩
  · by_cases h : id = j
    · subst h
      rw [ho] at hj
      cases hj
      exact ⟨o', by simp [hidH], hon⟩
    · exact ⟨oj, by simpa [List.getElem?_set, h] using hj, objOn.refl oj⟩
  · rw [locOf_set hidL]
    by_cases h : id = j
    · subst h
      rw [ho] at hj
      cases hj
      simp [hidH] at hj'
      subst hj'
      obtain ⟨rfl, rfl⟩ := hloc hg
      rw [hl] at hlj
      rw [if_pos rfl, hlj]
    · rw [if_neg h]; exact hlj
  · by_cases h' : i = b
    · subst h'; exact hblk cs e fz h
    · exact ⟨cs, e, fz, (hsame i h' (Array.getElem?_eq_some_iff.1 h).1).trans h, rfl⟩
  · have hlt := cell?_lt hc
    by_cases hb : blk = b
    · subst hb
      have hk := hs.2 id base hl
      rw [ho] at hk
      obtain ⟨h1, h2⟩ := hkeep off v hk hc
      refine ⟨h1, hs.1, fun j basej hj => ?_⟩
      rw [locOf_set hidL] at hj
      split at hj
      · rename_i heq
        subst heq
        simp at hj
        obtain ⟨rfl, rfl⟩ := hj
        simp [hidH]
        exact h2 rfl
      · rename_i hne
        exact absurd (hR.inj id j blk base basej hl hj) hne
    · refine ⟨(cell?_same (hsame blk hb hlt)).trans hc, hs.1, fun j basej hj => ?_⟩
      rw [locOf_set hidL] at hj
      split at hj
      · simp at hj
        omega
      · rename_i hne
        rw [List.getElem?_set, if_neg hne]
        exact hs.2 j basej hj
  · refine ⟨hos, htape, hout, hsz, fun i hi => hsame i ?_ ?_⟩
    · have := hR.lo id b base hl; omega
    · have := hR.bsz; omega
  · have hne : blk ≠ b := fun h => hfree id base (h ▸ hl)
    refine ⟨hsame blk hne hlt, fun j basej hj => ?_⟩
    rw [locOf_set hidL] at hj
    split at hj
    · simp at hj
      omega
    · exact hfree j basej hj
theorem HRel.upd (hR : HRel B Z H L w) {id b base b' base' : Nat} {o o' : AObj} (hl : locOf L id = some (b, base)) (ho : H[id]? = some o)
    (E : Ext B Z H L w (H.set id o') (L.set id (some (b', base'))) w') (hsame : ∀ i, i ≠ b → i < w.heap.size → w'.heap[i]? = w.heap[i]?)
    (hb' : b' = b ∨ w.heap.size ≤ b') (hr : ORel Z (H.set id o') (L.set id (some (b', base'))) w' o' b' base') :
    HRel B Z (H.set id o') (L.set id (some (b', base'))) w' := by
  have hidL : id < L.length := by
    rcases Nat.lt_or_ge id L.length with h | h
    · exact h
    · rw [locOf_none h] at hl; cases hl
  have hidH : id < H.length := by have := hR.len; omega
  refine ⟨by simp [hR.len], fun i j bb x y hi hj => ?_, fun i bb x hi => ?_, hR.zB, ?_, hR.glob.mono E.below.block, fun i bb x hi => ?_⟩
  · rw [locOf_set hidL] at hi hj
    split at hi <;> split at hj
    · omega
    · rename_i h1 h2
      simp at hi
      have := hR.hi hj
      rcases hb' with rfl | hb'
      · exact absurd (hR.inj id j bb base y (hi.1 ▸ hl) hj) h2
      · omega
    · rename_i h1 h2
      simp at hj
      have := hR.hi hi
      rcases hb' with rfl | hb'
      · exact absurd (hR.inj id i bb base x (hj.1 ▸ hl) hi) h1
      · omega
    · exact hR.inj i j bb x y hi hj
  · rw [locOf_set hidL] at hi
    split at hi
    · simp at hi
      have := hR.lo id b base hl
      have := hR.bsz
      rcases hb' with rfl | hb' <;> omega
    · exact hR.lo i bb x hi
  · exact Nat.le_trans hR.bsz E.below.size
  · rw [locOf_set hidL] at hi
    split at hi
    · rename_i h
      subst h
      simp at hi
      obtain ⟨rfl, rfl⟩ := hi
      exact ⟨o', by simp [hidH], hr⟩
    · rename_i h
      obtain ⟨o2, h1, h2⟩ := hR.obj i bb x hi
      have hne : bb ≠ b := fun he => by subst he; exact h (hR.inj id i bb base x hl hi)
      exact ⟨o2, by rw [List.getElem?_set, if_neg h]; exact h1, h2.mono E (hsame bb hne h2.lt)⟩
end
end Go.Ev
/- The quiet operations: what the evaluator says of one is what the machine does, and the world is as it was. Each theorem bears its own conditions. -/
set_option linter.unusedVariables false
set_option linter.unusedSectionVars false
set_option linter.unusedSimpArgs false
namespace Go.Ev
open Go.RowKit
variable [Globs]

structure TyR (P : Program) (t : TypeId) (T : Ty) where
  i : TypeInfo
  d : TypeDesc
  z : Value
  info : P.info? t = some i
  und : P.underlying t = some d
  zero : i.zero = some z
  abs : absV z = some T.zero
  kd : T.kd = kdOf d
  size : T.size = i.size
  bytes : T.bytes = i.bytes
  zlen : T.zero.cells.length = T.size
  zlaid : laid T.zero = true
  blank : noBlank d = true

theorem absC_not {v : Value} {x : AVal} (h : absC v = some x) : oneA x = true := by
  unfold absC at h
  split at h <;> cases h <;> rfl
theorem tyOf_inv {P : Program} {t : TypeId} {T : Ty} (h : tyOf P t = some T) : Nonempty (TyR P t T) := by
  unfold tyOf at h
  simp only [Option.bind_eq_some_iff] at h
  obtain ⟨i, hi, d, hd, z, hz, a, ha, h⟩ := h
  by_cases hc : (a.cells.length == i.size && laid a && noBlank d) = true
  · rw [if_pos hc] at h
    cases h
    simp only [Bool.and_eq_true, beq_iff_eq] at hc
    exact ⟨⟨i, d, z, hi, hd, hz, ha, rfl, rfl, rfl, hc.1.1, hc.1.2, hc.2⟩⟩
  · rw [if_neg hc] at h
    cases h

theorem run_sizeOf' {P : Program} {t : TypeId} {T : Ty} (h : TyR P t T) (w : World) : (sizeOf t).run P w = .ok T.size w := by
  rw [run_sizeOf w h.info]
  simp [Program.cellsOf, h.info, h.size]
theorem run_isAgg {P : Program} {t : TypeId} {T : Ty} (h : TyR P t T) (w : World) : (Go.isAgg t).run P w = .ok (isAgg T) w := by
  unfold Go.isAgg isAgg
  rw [h.kd]
  simp only [Sem.run_bind, run_underlying h.und, Result.andThen_ok]
  cases h.d <;> simp [kdOf]
theorem run_zeroValue {P : Program} {t : TypeId} {T : Ty} (h : TyR P t T) (w : World) : (zeroValue t).run P w = .ok h.z w := by
  simp [zeroValue, run_typeInfo w h.info, h.zero]

section
variable {Z : Nat → Nat → Prop} {H : Heap} {L : Locs} {w : World}

theorem absC_rel {S : Nat → Nat → Prop} {v : Value} {x : AVal} (h : absC v = some x) : DRel w S x v := by
  unfold absC at h
  split at h <;> cases h <;> first | exact .str _ _ rfl | constructor
theorem mapM_get {α β : Type} {f : α → Option β} : ∀ {l : List α} {r : List β}, l.mapM f = some r → r.length = l.length ∧ ∀ (j : Nat) a b, l[j]? = some a → r[j]? = some b → f a = some b
  | [], r, h => by simp at h; subst h; simp
  | a :: l, r, h => by
    simp only [List.mapM_cons, Option.pure_def, Option.bind_eq_bind, Option.bind_eq_some_iff, Option.some.injEq] at h
    obtain ⟨b, hb, bs, hbs, rfl⟩ := h
    obtain ⟨h1, h2⟩ := mapM_get hbs
    refine ⟨by simp [h1], fun j x y hx hy => ?_⟩
    cases j with
    | zero => simp at hx hy; subst hx; subst hy; exact hb
    | succ j => simp at hx hy; exact h2 j x y hx hy
theorem absC_one {v : Value} {x : AVal} (h : absC v = some x) : v.oneCell' = true := by
  unfold absC at h
  split at h <;> first | rfl | cases h
theorem absV_rel {S : Nat → Nat → Prop} {v : Value} {x : AVal} (h : absV v = some x) : DRel w S x v := by
  unfold absV at h
  split at h
  · rename_i cs
    simp only [Option.map_eq_some_iff] at h
    obtain ⟨y, hy, rfl⟩ := h
    obtain ⟨h1, h2⟩ := mapM_get hy
    refine .agg _ _ (by simpa using h1) (fun j u hu => ?_) fun j a u ha hu => absC_rel (h2 j u a (by simpa using hu) ha)
    have hj : j < y.length := by have := (Array.getElem?_eq_some_iff.1 hu).1; simp at h1; omega
    exact absC_one (h2 j u y[j] (by simpa using hu) (by simp [hj]))
  · rename_i cs
    simp only [Option.map_eq_some_iff] at h
    obtain ⟨y, hy, rfl⟩ := h
    obtain ⟨h1, h2⟩ := mapM_get hy
    exact .tup _ _ (by simpa using h1) fun j a u ha hu => absC_rel (h2 j u a (by simpa using hu) ha)
  · exact absC_rel h

theorem opd_rel {B : Nat} (hR : HRel B Z H L w) {e : Env} {a : Act} (he : ERel Z H L w e a.tmps) (x : Operand) : SRel Z H L w (opd e x) (a.eval x) := by
  cases x with
  | tmp t => exact he t
  | const v =>
    simp only [opd, Act.eval]
    cases hv : absV v with
    | none => exact .inl rfl
    | some y => exact .inr (.data _ _ (absV_rel hv))
  | global g =>
    simp only [opd, Act.eval]
    cases hv : Globs.val g with
    | none => exact .inl rfl
    | some y => exact .inr (.data _ _ ((hR.glob.val g y hv).mono fun b off v h1 h2 => ⟨h2, h1.2, fun id base hl => absurd (hR.lo id b base hl) (Nat.not_le.2 h1.1)⟩))
  | func f => exact .inr (.data _ _ (.func f [] [] #[] #[] rfl rfl (by simp) (by simp)))

theorem opd_as {B : Nat} (hR : HRel B Z H L w) {e : Env} {a : Act} (he : ERel Z H L w e a.tmps) {x : Operand} {y : AVal} (h : opd e x = y) (hb : y ≠ .bad) : VRel Z H L w y (a.eval x) := by
  rcases opd_rel hR he x with h' | h'
  · exact absurd (h ▸ h') hb
  · exact h ▸ h'
theorem opc_as {B : Nat} (hR : HRel B Z H L w) {e : Env} {a : Act} (he : ERel Z H L w e a.tmps) {x : Operand} {y : AVal} (h : opc e x = some y) : VRel Z H L w y (a.eval x) ∧ laid y = true := by
  unfold opc at h
  split at h
  · cases h
  · cases h
  · rename_i v h1 h2
    cases h
    refine ⟨opd_as hR he rfl (fun hb => h1 hb), ?_⟩
    generalize opd e x = y at h1 h2
    cases y <;> first | rfl | (exact absurd rfl h1) | (exact absurd rfl (h2 _))
theorem opcs_as {B : Nat} (hR : HRel B Z H L w) {e : Env} {a : Act} (he : ERel Z H L w e a.tmps) : ∀ {l : List Operand} {ys : List AVal}, opcs e l = some ys →
    ys.length = l.length ∧ ∀ (j : Nat) y x, ys[j]? = some y → l[j]? = some x → VRel Z H L w y (a.eval x) ∧ laid y = true
  | [], ys, h => by simp [opcs] at h; subst h; simp
  | x :: l, ys, h => by
    simp only [opcs, Option.bind_eq_some_iff, Option.map_eq_some_iff] at h
    obtain ⟨y, hy, zs, hz, rfl⟩ := h
    obtain ⟨h1, h2⟩ := opcs_as hR he hz
    refine ⟨by simp [h1], fun j u v hu hv => ?_⟩
    cases j with
    | zero => simp at hu hv; subst hu; subst hv; exact opc_as hR he hy
    | succ j => simp at hu hv; exact h2 j u v hu hv
theorem opps_as {B : Nat} (hR : HRel B Z H L w) {e : Env} {a : Act} (he : ERel Z H L w e a.tmps) : ∀ {l : List (Nat × Operand)} {ys : List (Nat × AVal)}, opps e l = some ys →
    ys.length = l.length ∧ ∀ (j : Nat) i y k x, ys[j]? = some (i, y) → l[j]? = some (k, x) → i = k ∧ VRel Z H L w y (a.eval x) ∧ laid y = true
  | [], ys, h => by simp [opps] at h; subst h; simp
  | (i, x) :: l, ys, h => by
    simp only [opps, Option.bind_eq_some_iff, Option.map_eq_some_iff] at h
    obtain ⟨y, hy, zs, hz, rfl⟩ := h
    obtain ⟨h1, h2⟩ := opps_as hR he hz
    refine ⟨by simp [h1], fun j i' u k v hu hv => ?_⟩
    cases j with
    | zero => simp at hu hv; obtain ⟨rfl, rfl⟩ := hu; obtain ⟨rfl, rfl⟩ := hv; exact ⟨rfl, opc_as hR he hy⟩
    | succ j => simp at hu hv; exact h2 j i' u k v hu hv

/-- Cells of a list lie one behind the other. -/
def LieAt (Z : Nat → Nat → Prop) (H : Heap) (L : Locs) (w : World) (cs : List AVal) (b o : Nat) : Prop :=
  ∀ (j : Nat) (y : AVal), cs[j]? = some y → ∃ u, w.cell? ⟨b, o + j, none⟩ = some u ∧ u.oneCell' = true ∧ VRel Z H L w y u

theorem addr_add (b o n : Nat) : Addr.add ⟨b, o, none⟩ n = ⟨b, o + n, none⟩ := Addr.add_lit b o n

theorem loadVar_sound {P : Program} {t : TypeId} {T : Ty} (hT : TyR P t T) {cs : List AVal} {b o off : Nat} {x : AVal} (hc : LieAt Z H L w cs b o) (h : part T cs off = some x) :
    ∃ v, (loadVar t ⟨b, o + off, none⟩).run P w = .ok v w ∧ VRel Z H L w x v := by
  unfold loadVar
  simp only [Sem.run_bind, run_isAgg hT, Result.andThen_ok]
  have key : (isAgg T = true → off + T.size ≤ cs.length ∧ x = .agg ((cs.drop off).take T.size)) ∧ (isAgg T = false → cs[off]? = some x) := by
    unfold part at h
    unfold isAgg
    split at h
    · split at h
      · cases h; rename_i hk hl; simp [hk, hl]
      · cases h
    · split at h
      · cases h; rename_i hk hl; simp [hk, hl]
      · cases h
    · rename_i h1 h2
      constructor
      · intro hh
        exfalso
        cases hk : T.kd <;> simp [hk] at hh h1 h2
      · intro _; exact h
  cases ha : isAgg T with
  | true =>
    obtain ⟨hl, rfl⟩ := key.1 ha
    have hex : ∀ j, j < T.size → ∃ u, w.cell? ⟨b, o + (off + j), none⟩ = some u ∧ u.oneCell' = true ∧ VRel Z H L w (cs.getD (off + j) .bad) u := fun j hj =>
      hc (off + j) _ (by rw [List.getD_eq_getElem?_getD, List.getElem?_eq_getElem (by omega)]; rfl)
    let f : Nat → Value := fun j => if hj : j < T.size then (hex j hj).choose else undef
    have hf : ∀ j (hj : j < T.size), w.cell? ⟨b, o + (off + j), none⟩ = some (f j) ∧ (f j).oneCell' = true ∧ VRel Z H L w (cs.getD (off + j) .bad) (f j) := fun j hj => by
      simp only [f, hj, dif_pos]
      exact (hex j hj).choose_spec
    have hrun := run_loadCells (P := P) w ⟨b, o + off, none⟩ T.size f (fun j hj => by rw [addr_add, Nat.add_assoc]; exact (hf j hj).1)
    simp only [if_true, Sem.run_bind, run_sizeOf' hT, Result.andThen_ok, hrun, Sem.run_pure]
    refine ⟨_, rfl, .agg _ _ (by simp; omega) (fun j u hu => ?_) fun j y u hy hu => ?_⟩
    · have hj : j < T.size := by have := (Array.getElem?_eq_some_iff.1 hu).1; simpa using this
      simp [hj] at hu
      exact hu ▸ (hf j hj).2.1
    · have hj : j < T.size := by have := (Array.getElem?_eq_some_iff.1 hu).1; simpa using this
      simp [hj] at hu hy
      have := (hf j hj).2.2
      rw [List.getD_eq_getElem?_getD, hy] at this
      exact hu ▸ this
  | false =>
    obtain ⟨u, h1, _, h2⟩ := hc off x (key.2 ha)
    refine ⟨u, ?_, h2⟩
    simp [h1]

/-! ### What the program's tables and functions must be -/
structure TabOk (C : Ctx) : Prop where
  ty : ∀ t T, C.ty t = some T → Nonempty (TyR C.P t T)
  flds : ∀ t T fs, C.ty t = some T → T.kd = .struct fs → ∀ p ∈ fs, (C.ty p.2).isSome = true
  fn : ∀ f fn, C.fn f = some fn → C.P.funcs[f]? = some fn ∧ (fn.name == "runtime.NumGoroutine") = false ∧ ∀ c, fn.body = some c → okC fn.ntmps c = true
  meth : ∀ t n f, C.meth t n = some f → methOf C.P t n = some f
  eqt : ∀ t, C.eqt t = true → C.P.stoodInHeld t = false ∧ C.P.eqGuardType C.P.depth t = false

variable {B : Nat} {C : Ctx}

theorem part_sound {P : Program} {t : TypeId} {T : Ty} (hT : TyR P t T) {cs : List AVal} {cs' : Array Value} (hl : cs.length = cs'.size) (h1 : ∀ (j : Nat) (u : Value), cs'[j]? = some u → u.oneCell' = true)
    (hr : ∀ (j : Nat) (y : AVal) (u : Value), cs[j]? = some y → cs'[j]? = some u → VRel Z H L w y u) {off : Nat} {x : AVal} (h : part T cs off = some x) :
    ∃ v, (Go.part t cs' off).run P w = .ok v w ∧ VRel Z H L w x v := by
  unfold Go.part
  simp only [Sem.run_bind, run_isAgg hT, Result.andThen_ok]
  have key : (isAgg T = true → off + T.size ≤ cs.length ∧ x = .agg ((cs.drop off).take T.size)) ∧ (isAgg T = false → cs[off]? = some x) := by
    unfold part at h
    unfold isAgg
    split at h
    · split at h
      · cases h; rename_i hk hl; simp [hk, hl]
      · cases h
    · split at h
      · cases h; rename_i hk hl; simp [hk, hl]
      · cases h
    · rename_i h1 h2
      constructor
      · intro hh
        exfalso
        cases hk : T.kd <;> simp [hk] at hh h1 h2
      · intro _; exact h
  cases ha : isAgg T with
  | true =>
    obtain ⟨hle, rfl⟩ := key.1 ha
    simp only [if_true, Sem.run_bind, run_sizeOf' hT, Result.andThen_ok, Sem.run_pure]
    refine ⟨_, rfl, .agg _ _ (by simp; omega) (fun j u hu => ?_) fun j y u hy hu => ?_⟩
    · rw [Array.getElem?_extract] at hu
      split at hu
      · exact h1 _ _ hu
      · cases hu
    · rw [Array.getElem?_extract] at hu
      split at hu
      · rw [List.getElem?_take] at hy
        split at hy
        · rw [List.getElem?_drop] at hy
          exact hr _ _ _ hy hu
        · cases hy
      · cases hu
  | false =>
    have h2 := key.2 ha
    have hj : off < cs'.size := by have := (List.getElem?_eq_some_iff.1 h2).1; omega
    simp only [Bool.false_eq_true, if_false, Array.getElem?_eq_getElem hj]
    exact ⟨_, rfl, hr off x _ h2 (Array.getElem?_eq_getElem hj)⟩

/-- The cells of a list of elements, where they lie. -/
theorem lie_cells (hR : HRel B Z H L w) {id b : Nat} {t : TypeId} {ro : Bool} {cs : List AVal} (ho : H[id]? = some (.cells t ro cs)) (hl : locOf L id = some (b, 0)) : LieAt Z H L w cs b 0 := by
  obtain ⟨o, h1, h2⟩ := hR.obj id b 0 hl
  rw [ho] at h1
  cases h1
  obtain ⟨_, cs', hb, hs, h3, h4⟩ := h2
  intro j y hy
  have hj : j < cs'.size := by have := (List.getElem?_eq_some_iff.1 hy).1; omega
  refine ⟨cs'[j], ?_, h3 j _ (Array.getElem?_eq_getElem hj), h4 j y _ hy (Array.getElem?_eq_getElem hj)⟩
  rw [cell?_of hb]
  simp [hj]
theorem mul_lt_of {i n sz j : Nat} (hi : i < n) (hj : j < sz) : i * sz + j < n * sz := by
  have h1 : (i + 1) * sz ≤ n * sz := Nat.mul_le_mul_right sz (by omega)
  have h2 : (i + 1) * sz = i * sz + sz := Nat.succ_mul i sz
  omega
theorem lie_elem (hR : HRel B Z H L w) {id b base : Nat} {e : TypeId} {g : Nat} {ro : Bool} {sz : Nat} {xs : List AVal} (ho : H[id]? = some (.arr e g ro sz xs)) (hl : locOf L id = some (b, base))
    {i : Nat} {x : AVal} (hx : xs[i]? = some x) : LieAt Z H L w x.cells b (base + i * sz) := by
  obtain ⟨o, h1, h2⟩ := hR.obj id b base hl
  rw [ho] at h1
  cases h1
  obtain ⟨_, cs', fz, hb, hs, h3, h4, h5, _⟩ := h2
  intro j y hy
  have hi : i < xs.length := (List.getElem?_eq_some_iff.1 hx).1
  have hj : j < sz := by have := (List.getElem?_eq_some_iff.1 hy).1; have := (h3 i x hx).1; omega
  have hlt := mul_lt_of hi hj
  have hj' : base + (i * sz + j) < cs'.size := by omega
  refine ⟨cs'[base + (i * sz + j)], ?_, h4 _ _ (Array.getElem?_eq_getElem hj'), h5 i x hx j y _ hy (Array.getElem?_eq_getElem hj')⟩
  rw [cell?_of hb]
  simp [Nat.add_assoc, hj']

theorem lie_fptr {cs : List AVal} {v : Value} (h : VRel Z H L w (.fptr cs) v) : ∃ a : Addr, v = .pointer (some a) ∧ a.spot = none ∧ LieAt Z H L w cs a.block a.off := by
  cases h with
  | data _ _ h =>
    cases h with
    | fptr _ a c hs hw hr => exact ⟨a, rfl, hs, fun j y hy => ⟨c j, (hw j y hy).1, (hw j y hy).2.2, .data _ _ (hr j y hy)⟩⟩
/-- What a pointer leads to. -/
theorem addr_eta {a : Addr} (h : a.spot = none) : a = ⟨a.block, a.off, none⟩ := by cases a; simp at h; subst h; rfl

theorem bindo {α β : Type} {x : Option α} {f : α → Option β} {r : β} (h : x.bind f = some r) : ∃ a, x = some a ∧ f a = some r := Option.bind_eq_some_iff.1 h

theorem loadA_sound (hC : TabOk C) (hR : HRel B Z H L w) {t : TypeId} {p x : AVal} {v : Value} (hp : VRel Z H L w p v) (h : loadA C H t p = some x) :
    ∃ u, (Instr.loadAt t v).run C.P w = .ok u w ∧ VRel Z H L w x u := by
  unfold loadA at h
  obtain ⟨T, hT, k⟩ := bindo h
  clear h
  obtain ⟨T'⟩ := hC.ty t T hT
  cases p with
  | ptr id off =>
    dsimp only at k
    split at k
    · rename_i t' ro cs ho
      obtain ⟨b, t2, ro2, cs2, rfl, ho2, hl⟩ := hp.ptr_inv
      obtain ⟨u, h1, h2⟩ := loadVar_sound T' (lie_cells hR ho hl) k
      exact ⟨u, by simpa [Instr.loadAt, Instr.sureAddr] using h1, h2⟩
    · cases k
  | aptr id gen i off =>
    dsimp only at k
    split at k
    · rename_i e g ro sz xs ho
      split at k
      · rename_i hg
        obtain ⟨y, hy, k2⟩ := bindo k
        have hg' : g = gen := by simpa using hg
        subst hg'
        cases hp with
        | data _ _ hd => cases hd
        | aptr _ _ _ _ b base e2 ro2 sz2 xs2 ho2 hl =>
          rw [ho] at ho2
          cases ho2
          obtain ⟨u, h1, h2⟩ := loadVar_sound T' (lie_elem hR ho hl hy) k2
          exact ⟨u, by simpa [Instr.loadAt, Instr.sureAddr, Nat.add_assoc] using h1, h2⟩
        | aptrOld _ _ _ _ a hs e2 g2 ro2 sz2 xs2 ho2 hg2 =>
          rw [ho] at ho2
          cases ho2
          omega
      · cases k
    · cases k
  | fptr cs =>
    obtain ⟨a, rfl, hs, hlie⟩ := lie_fptr hp
    obtain ⟨u, h1, h2⟩ := loadVar_sound (off := 0) T' hlie k
    refine ⟨u, ?_, h2⟩
    simp only [Instr.loadAt, Instr.sureAddr, Sem.run_bind, Sem.run_pure, Result.andThen_ok]
    rw [addr_eta hs]
    exact h1
  | _ => cases k

end
end Go.Ev
/- The quiet operations, on: numbers, texts, equality, fields, elements, cuts. Each theorem bears its own conditions. -/
set_option linter.unusedVariables false
set_option linter.unusedSectionVars false
set_option linter.unusedSimpArgs false
namespace Go.Ev
open Go.RowKit
variable [Globs]
section
variable {Z : Nat → Nat → Prop} {H : Heap} {L : Locs} {w : World} {B : Nat} {C : Ctx}

theorem VRel.ofData {x : AVal} {v : Value} (h : ∀ S, DRel w S x v) : VRel Z H L w x v := .data _ _ (h _)
theorem vint (k : IntKind) (n : Int) : VRel Z H L w (.int k n) (.int k n) := .data _ _ (.int k n)
theorem vbool (b : Bool) : VRel Z H L w (.bool b) (.bool b) := .data _ _ (.bool b)
theorem vstr (s : ByteArray) {l : List UInt8} (h : s.data.toList = l) : VRel Z H L w (.str l) (.string s) := .data _ _ (.str l s h)

theorem slice_nil_inv {v : Value} (h : VRel Z H L w (.lst true []) v) : v = .slice none 0 0 := by
  cases h with | data _ _ h => cases h; rfl
theorem slice_lst_inv {b : Bool} {xs : List AVal} {v : Value} (h : VRel Z H L w (.lst b xs) v) : ∃ a n c, v = .slice a n c ∧ n = xs.length ∧ a.isNone = b := by
  cases h with
  | data _ _ h =>
    cases h with
    | nils => exact ⟨none, 0, 0, rfl, rfl, rfl⟩
    | lst _ a n c sz f hs hl => exact ⟨some a, n, c, rfl, hl, rfl⟩
theorem slice_arr_inv {id g o n : Nat} {v : Value} (h : VRel Z H L w (.arr id g o n) v) : ∃ a m c, v = .slice (some a) m c := by
  cases h with
  | data _ _ h => cases h
  | arr => exact ⟨_, _, _, rfl⟩
  | arrOld _ _ _ _ a c => exact ⟨a, _, c, rfl⟩
theorem ptr_some_inv {x : AVal} {v : Value} (h : VRel Z H L w x v) (hx : (∃ i o, x = .ptr i o) ∨ (∃ i g j o, x = .aptr i g j o) ∨ ∃ cs, x = .fptr cs) : ∃ a, v = .pointer (some a) := by
  rcases hx with ⟨i, o, rfl⟩ | ⟨i, g, j, o, rfl⟩ | ⟨cs, rfl⟩
  · obtain ⟨b, _, _, _, rfl, _⟩ := h.ptr_inv; exact ⟨_, rfl⟩
  · cases h with
    | data _ _ h => cases h
    | aptr => exact ⟨_, rfl⟩
    | aptrOld _ _ _ _ a => exact ⟨a, rfl⟩
  · obtain ⟨a, rfl, _⟩ := lie_fptr h; exact ⟨a, rfl⟩

theorem run_equal' {P : Program} {t : TypeId} {x y : Value} {d : TypeDesc} (h : P.underlying t = some d) (w : World) :
    (Op.equal t x y).run P w = (Op.equalIn (9999 + 1) t x y).run P w := rfl

theorem frozen_no {b o : Nat} {cs : Array Value} {t : TypeId} (h : w.heap[b]? = some (.cells cs t (0, 0))) : w.frozen? ⟨b, o, none⟩ = false := by simp [World.frozen?, h]

theorem run_sameAddr {P : Program} {b b' o o' : Nat} {cs cs' : Array Value} {t t' : TypeId} (h : w.heap[b]? = some (.cells cs t (0, 0))) (h' : w.heap[b']? = some (.cells cs' t' (0, 0))) :
    (sameAddr ⟨b, o, none⟩ ⟨b', o', none⟩).run P w = .ok (b == b' && o == o') w := by
  have hd : ((⟨b, o, none⟩ : Addr) == ⟨b', o', none⟩) = (b == b' && o == o') := by
    rw [Bool.eq_iff_iff]
    simp only [beq_iff_eq, Bool.and_eq_true, Addr.mk.injEq, and_true]
  unfold sameAddr
  dsimp only
  rw [hd]
  by_cases hb : (b == b') = true
  · simp only [hb, if_true, Bool.true_and]
    rfl
  · have f1 := fun o => frozen_no (o := o) h
    have f2 := fun o => frozen_no (o := o) h'
    have hb' : (b == b') = false := by simpa using hb
    simp only [hb', Bool.false_eq_true, if_false, Bool.false_and]
    simp [f1, f2, noView, viewAt, mayBeOne, stringish, World.shape?, h, h']

theorem cells_block (hR : HRel B Z H L w) {id b : Nat} {t : TypeId} {ro : Bool} {cs : List AVal} (ho : H[id]? = some (.cells t ro cs)) (hl : locOf L id = some (b, 0)) :
    ∃ cs', w.heap[b]? = some (.cells cs' t (0, 0)) ∧ cs'.size = cs.length := by
  obtain ⟨o, h1, h2⟩ := hR.obj id b 0 hl
  rw [ho] at h1
  cases h1
  obtain ⟨_, cs', hb, hs, _⟩ := h2
  exact ⟨cs', hb, hs⟩

theorem kd_pointer {d : TypeDesc} {e : TypeId} (h : Kd.pointer e = kdOf d) : d = .pointer e := by cases d <;> simp [kdOf] at h; subst h; rfl
theorem kd_slice {d : TypeDesc} {e : TypeId} (h : Kd.slice e = kdOf d) : d = .slice e := by cases d <;> simp [kdOf] at h; subst h; rfl
theorem kd_map {d : TypeDesc} {k e : TypeId} (h : Kd.map k e = kdOf d) : d = .map k e := by cases d <;> simp [kdOf] at h; obtain ⟨rfl, rfl⟩ := h; rfl
theorem kd_bool {d : TypeDesc} (h : Kd.bool = kdOf d) : d = .bool := by cases d <;> simp [kdOf] at h; rfl
theorem kd_string {d : TypeDesc} (h : Kd.string = kdOf d) : d = .string := by cases d <;> simp [kdOf] at h; rfl
theorem kd_int {d : TypeDesc} {k : IntKind} (h : Kd.int k = kdOf d) : d = .int k := by cases d <;> simp [kdOf] at h; subst h; rfl
theorem kd_array {d : TypeDesc} {n : Nat} {e : TypeId} (h : Kd.array n e = kdOf d) : d = .array n e := by cases d <;> simp [kdOf] at h; obtain ⟨rfl, rfl⟩ := h; rfl
theorem kd_struct {d : TypeDesc} {fs : List (Nat × TypeId)} (h : Kd.struct fs = kdOf d) : ∃ fs' : Array Field, d = .struct fs' ∧ fs = fs'.toList.map fun f => (f.offset, f.type) := by
  cases d <;> simp [kdOf] at h; exact ⟨_, rfl, h⟩
theorem kd_func {d : TypeDesc} (h : Kd.func = kdOf d) : ∃ a b c, d = .func a b c := by cases d <;> simp [kdOf] at h; exact ⟨_, _, _, rfl⟩
theorem kd_interface {d : TypeDesc} (h : Kd.interface = kdOf d) : ∃ a, d = .interface a := by cases d <;> simp [kdOf] at h; exact ⟨_, rfl⟩

set_option maxHeartbeats 2000000 in
theorem eqlA_sound (hC : TabOk C) (hR : HRel B Z H L w) {t : TypeId} {T : Ty} (hT : TyR C.P t T) {x y : AVal} {u v : Value} (hx : VRel Z H L w x u) (hy : VRel Z H L w y v) {b : Bool}
    (h : eqlA C T.kd x y = some b) (d : Nat) : (Op.equalIn (d + 1) t u v).run C.P w = .ok b w := by
  have hu := hT.und
  have hk := hT.kd
  unfold eqlA at h
  generalize hkd : T.kd = kd at h hk
  split at h
  case h_1 a b' =>
    cases h
    cases hx.bool_inv
    cases hy.bool_inv
    rw [kd_bool hk] at hu
    simp [Op.equalIn, run_underlying hu]
  case h_2 e => cases h; cases hx.nilp_inv; cases hy.nilp_inv; rw [kd_pointer hk] at hu; simp [Op.equalIn, run_underlying hu]
  case h_3 e i o => cases h; cases hx.nilp_inv; obtain ⟨a, rfl⟩ := ptr_some_inv hy (.inl ⟨_, _, rfl⟩); rw [kd_pointer hk] at hu; simp [Op.equalIn, run_underlying hu]
  case h_4 e i g j o => cases h; cases hx.nilp_inv; obtain ⟨a, rfl⟩ := ptr_some_inv hy (.inr (.inl ⟨_, _, _, _, rfl⟩)); rw [kd_pointer hk] at hu; simp [Op.equalIn, run_underlying hu]
  case h_5 e cs => cases h; cases hx.nilp_inv; obtain ⟨a, rfl⟩ := ptr_some_inv hy (.inr (.inr ⟨_, rfl⟩)); rw [kd_pointer hk] at hu; simp [Op.equalIn, run_underlying hu]
  case h_6 e i o => cases h; cases hy.nilp_inv; obtain ⟨a, rfl⟩ := ptr_some_inv hx (.inl ⟨_, _, rfl⟩); rw [kd_pointer hk] at hu; simp [Op.equalIn, run_underlying hu]
  case h_7 e i g j o => cases h; cases hy.nilp_inv; obtain ⟨a, rfl⟩ := ptr_some_inv hx (.inr (.inl ⟨_, _, _, _, rfl⟩)); rw [kd_pointer hk] at hu; simp [Op.equalIn, run_underlying hu]
  case h_8 e cs => cases h; cases hy.nilp_inv; obtain ⟨a, rfl⟩ := ptr_some_inv hx (.inr (.inr ⟨_, rfl⟩)); rw [kd_pointer hk] at hu; simp [Op.equalIn, run_underlying hu]
  case h_9 e i a j c =>
    obtain ⟨E, hE, k⟩ := bindo h
    obtain ⟨E'⟩ := hC.ty e E hE
    split at k
    · cases k
    · rename_i hsz
      cases k
      obtain ⟨b1, t1, ro1, cs1, rfl, ho1, hl1⟩ := hx.ptr_inv
      obtain ⟨b2, t2, ro2, cs2, rfl, ho2, hl2⟩ := hy.ptr_inv
      obtain ⟨c1, hc1, _⟩ := cells_block hR ho1 hl1
      obtain ⟨c2, hc2, _⟩ := cells_block hR ho2 hl2
      rw [kd_pointer hk] at hu
      have hz : ¬ E.size = 0 := by simpa using hsz
      simp only [Op.equalIn, Sem.run_bind, run_underlying hu, Result.andThen_ok, run_sizeOf' E', ne_eq, hz, not_false_eq_true, if_true, run_sameAddr hc1 hc2]
      congr 2
      rw [Bool.eq_iff_iff]
      simp only [beq_iff_eq]
      constructor
      · rintro rfl; exact hR.inj i j b1 0 0 hl1 hl2
      · rintro rfl; rw [hl1] at hl2; cases hl2; rfl
  case h_10 e b' xs =>
    cases h
    cases slice_nil_inv hx
    obtain ⟨a, n, c, rfl, _, rfl⟩ := slice_lst_inv hy
    rw [kd_slice hk] at hu
    simp [Op.equalIn, run_underlying hu]
  case h_11 e b' xs hne =>
    cases h
    cases slice_nil_inv hy
    obtain ⟨a, n, c, rfl, _, rfl⟩ := slice_lst_inv hx
    rw [kd_slice hk] at hu
    cases a <;> simp [Op.equalIn, run_underlying hu]
  case h_12 =>
    cases h
    cases slice_nil_inv hx
    obtain ⟨a, n, c, rfl⟩ := slice_arr_inv hy
    rw [kd_slice hk] at hu
    simp [Op.equalIn, run_underlying hu]
  case h_13 =>
    cases h
    cases slice_nil_inv hy
    obtain ⟨a, n, c, rfl⟩ := slice_arr_inv hx
    rw [kd_slice hk] at hu
    simp [Op.equalIn, run_underlying hu]
  case h_14 k e m =>
    cases h
    cases hx.nilm_inv
    rw [kd_map hk] at hu
    cases m with
    | none => cases hy.nilm_inv; simp [Op.equalIn, run_underlying hu]
    | some id => obtain ⟨b, _, _, rfl, _⟩ := hy.map_inv; simp [Op.equalIn, run_underlying hu]
  case h_15 k e m hne =>
    cases h
    cases hy.nilm_inv
    rw [kd_map hk] at hu
    cases m with
    | none => cases hx.nilm_inv; simp [Op.equalIn, run_underlying hu]
    | some id => obtain ⟨b, _, _, rfl, _⟩ := hx.map_inv; simp [Op.equalIn, run_underlying hu]
  case h_16 => cases h; cases hx.nilf_inv; cases hy.nilf_inv; obtain ⟨_, _, _, hd⟩ := kd_func hk; rw [hd] at hu; simp [Op.equalIn, run_underlying hu]
  case h_17 => cases h; cases hx.nilf_inv; obtain ⟨_, _, rfl, _⟩ := hy.func_inv; obtain ⟨_, _, _, hd⟩ := kd_func hk; rw [hd] at hu; simp [Op.equalIn, run_underlying hu]
  case h_18 => cases h; cases hy.nilf_inv; obtain ⟨_, _, rfl, _⟩ := hx.func_inv; obtain ⟨_, _, _, hd⟩ := kd_func hk; rw [hd] at hu; simp [Op.equalIn, run_underlying hu]
  case h_19 => cases h; cases hx.nili_inv; obtain ⟨_, rfl, _⟩ := hy.iface_inv; obtain ⟨_, hd⟩ := kd_interface hk; rw [hd] at hu; simp [Op.equalIn, run_underlying hu]
  case h_20 => cases h; cases hy.nili_inv; obtain ⟨_, rfl, _⟩ := hx.iface_inv; obtain ⟨_, hd⟩ := kd_interface hk; rw [hd] at hu; simp [Op.equalIn, run_underlying hu]
  case h_21 => cases h
end
end Go.Ev
/- The quiet operations, on: equal structs, arithmetic, conversions, fields and elements. Each theorem bears its own conditions. -/
set_option linter.unusedVariables false
set_option linter.unusedSectionVars false
set_option linter.unusedSimpArgs false
namespace Go.Ev
open Go.RowKit
variable [Globs]
section
variable {Z : Nat → Nat → Prop} {H : Heap} {L : Locs} {w : World} {B : Nat} {C : Ctx}

theorem toList_data (a : ByteArray) : a.toList = a.data.toList := ByteArray.toList_eq a

theorem eqFs_run (hC : TabOk C) {P : Program} (hP : P = C.P) {n d : Nat} {xs ys : List AVal} {xs' ys' : Array Value} (hl : xs.length = xs'.size) (hl' : ys.length = ys'.size)
    (h1 : ∀ (j : Nat) (u : Value), xs'[j]? = some u → u.oneCell' = true) (h1' : ∀ (j : Nat) (u : Value), ys'[j]? = some u → u.oneCell' = true)
    (hr : ∀ (j : Nat) (y : AVal) (u : Value), xs[j]? = some y → xs'[j]? = some u → VRel Z H L w y u) (hr' : ∀ (j : Nat) (y : AVal) (u : Value), ys[j]? = some y → ys'[j]? = some u → VRel Z H L w y u)
    (ih : ∀ (t : TypeId) (x y : AVal) (u v : Value) (b : Bool), VRel Z H L w x u → VRel Z H L w y v → eqTy C n t x y = some b → (Op.equalIn d t u v).run P w = .ok b w) :
    ∀ (fs : List Field) (b : Bool), (fs.all fun f => f.name != "_") = true →
      eqFs (fun o u => (C.ty u).bind fun U => (part U xs o).bind fun p => (part U ys o).bind fun q => eqTy C n u p q) (fs.map fun f => (f.offset, f.type)) = some b →
      (Op.eqFields d xs' ys' fs).run P w = .ok b w
  | [], b, _, h => by simp [eqFs] at h; subst h; simp [Op.eqFields]
  | f :: fs, b, hb, h => by
    simp only [List.map_cons, eqFs] at h
    obtain ⟨b1, h2, h3⟩ := bindo h
    obtain ⟨U, hU, h4⟩ := bindo h2
    obtain ⟨p, hp, h5⟩ := bindo h4
    obtain ⟨q, hq, h6⟩ := bindo h5
    simp only [Option.map_eq_some_iff] at h3
    obtain ⟨b2, h7, rfl⟩ := h3
    obtain ⟨U'⟩ := hC.ty _ U hU
    subst hP
    obtain ⟨u, hu1, hu2⟩ := part_sound U' hl h1 hr hp
    obtain ⟨v, hv1, hv2⟩ := part_sound U' hl' h1' hr' hq
    simp only [List.all_cons, Bool.and_eq_true, bne_iff_ne] at hb
    have hrest := eqFs_run hC rfl hl hl' h1 h1' hr hr' ih fs b2 hb.2 h7
    simp only [Op.eqFields, ne_eq, hb.1, not_false_eq_true, if_true, Sem.run_bind, hu1, hv1, Result.andThen_ok, ih _ _ _ _ _ _ hu2 hv2 h6, Sem.run_ite, hrest, Sem.run_pure]
    cases b1 <;> simp

theorem eqTy_sound (hC : TabOk C) : ∀ (n : Nat) (t : TypeId) (x y : AVal) (u v : Value) (b : Bool) (d : Nat), n ≤ d → VRel Z H L w x u → VRel Z H L w y v → eqTy C n t x y = some b →
    (Op.equalIn d t u v).run C.P w = .ok b w
  | 0, _, _, _, _, _, _, _, _, _, _, h => by simp [eqTy] at h
  | n + 1, t, x, y, u, v, b, d, hd, hx, hy, h => by
    obtain ⟨d, rfl⟩ : ∃ e, d = e + 1 := ⟨d - 1, by omega⟩
    simp only [eqTy] at h
    obtain ⟨T, hT, k⟩ := bindo h
    clear h
    obtain ⟨T'⟩ := hC.ty t T hT
    have hu := T'.und
    have hk := T'.kd
    split at k
    · rename_i h1
      rw [h1] at hk
      split at k
      · cases k; cases hx.int_inv; cases hy.int_inv; rename_i h2; subst h2; rw [kd_int hk] at hu; exact run_equalIn_int w d t _ _ _ _ hu
      · cases k
    · rename_i h1
      rw [h1] at hk
      cases k; cases hx.bool_inv; cases hy.bool_inv; rw [kd_bool hk] at hu; exact run_equalIn_bool' w d t _ _ hu
    · rename_i h1
      rw [h1] at hk
      cases k
      obtain ⟨s, rfl, rfl⟩ := hx.str_inv
      obtain ⟨s', rfl, rfl⟩ := hy.str_inv
      rw [kd_string hk] at hu
      rw [run_equalIn_string w d t _ _ hu, toList_data, toList_data]
    · rename_i fs xs ys h1
      rw [h1] at hk
      split at k
      · rename_i he
        obtain ⟨fs', hd', rfl⟩ := kd_struct hk
        obtain ⟨xs', rfl, hl, h2, h3⟩ := hx.agg_inv
        obtain ⟨ys', rfl, hl', h2', h3'⟩ := hy.agg_inv
        have hbl := T'.blank
        rw [hd'] at hbl hu
        have hf : C.P.fieldsOf t = fs' := by simp [Program.fieldsOf, hu]
        rw [run_equalIn_struct w d t xs' ys' (by rw [hf]; exact hu) (hC.eqt t he).1, hf]
        exact eqFs_run hC rfl hl hl' h2 h2' h3 h3' (fun t x y u v b a1 a2 a3 => eqTy_sound hC n t x y u v b d (by omega) a1 a2 a3) fs'.toList b hbl k
      · cases k
    · cases k

theorem eqTy_eqt : ∀ {n : Nat} {t : TypeId} {a c : List AVal} {b : Bool}, eqTy C n t (.agg a) (.agg c) = some b → C.eqt t = true
  | 0, t, a, c, b, h => by simp [eqTy] at h
  | n + 1, t, a, c, b, h => by
    simp only [eqTy] at h
    obtain ⟨T, hT, k⟩ := bindo h
    cases hk : T.kd <;> simp only [hk] at k <;> first
      | cases k
      | (split at k
         · assumption
         · cases k)

/-! ### Arithmetic -/
theorem intArithA_sound {P : Program} {op : BinOp} {k : IntKind} {a b : Int} {x : AVal} {t : TypeId} (h : intArithA op k a b = some x) :
    ∃ v, (binOp op t (.int k a) (.int k b)).run P w = .ok v w ∧ VRel Z H L w x v := by
  cases op <;> simp only [intArithA] at h <;> first
    | (cases h; refine ⟨_, ?_, vint _ _⟩; simp [binOp, Op.intArith, Op.intBits, Op.intCmp]; done)
    | (cases h; refine ⟨_, ?_, vbool _⟩; simp [binOp, Op.intArith, Op.intBits, Op.intCmp]; done)
    | (split at h
       · cases h
       · rename_i hb; cases h; exact ⟨_, by simp [binOp, Op.intDiv, hb], vint _ _⟩)
    | cases h

theorem eqGuard_of {P : Program} {op : BinOp} {t : TypeId} {xo yo : Operand} {u v : Value} (h1 : ¬ (u = .nilIface ∧ v = .nilIface)) (h2 : ∀ a b, ¬ (u = .agg a ∧ v = .agg b)) :
    (eqGuard op t xo yo u v).run P w = .ok () w := by
  cases u with
  | nilIface =>
    cases v with
    | nilIface => exact absurd ⟨rfl, rfl⟩ h1
    | _ => cases op <;> rfl
  | agg a =>
    cases v with
    | agg b => exact absurd ⟨rfl, rfl⟩ (h2 _ _)
    | _ => cases op <;> rfl
  | _ => cases op <;> rfl

theorem str_size {s : ByteArray} {l : List UInt8} (h : s.data.toList = l) : s.size = l.length := by subst h; rw [Array.length_toList]; rfl

theorem strOp_sound {P : Program} {op : BinOp} {t : TypeId} {a b : List UInt8} {s s' : ByteArray} (ha : s.data.toList = a) (hb : s'.data.toList = b) {x : AVal} (h : binA C op t (.str a) (.str b) = some x) :
    ∃ v, (binOp op t (.string s) (.string s')).run P w = .ok v w ∧ VRel Z H L w x v := by
  subst ha
  subst hb
  cases op <;> simp only [binA] at h <;> first
    | (cases h; refine ⟨_, ?_, vbool _⟩; simp [binOp, Op.stringOp, lessB, toList_data]; done)
    | (split at h
       · rename_i hl
         cases h
         refine ⟨.string (s ++ s'), ?_, vstr _ (by simp)⟩
         have h1 : ¬ (((s.size + s'.size : Nat) : Int) > IntKind.i64.max) := by
           rw [IntKind.max_i64]
           simp only [mostLen, Array.length_toList, ByteArray.size_data] at hl
           omega
         simp only [binOp, Op.stringOp, h1, if_false, Sem.run_pure]
       · cases h)
    | cases h

theorem nili_iff {x : AVal} {u : Value} (h : VRel Z H L w x u) (hu : u = .nilIface) : x = .nili := by
  subst hu
  cases h with | data _ _ h => cases h; rfl
theorem agg_iff {x : AVal} {cs : Array Value} (h : VRel Z H L w x (.agg cs)) : ∃ a, x = .agg a := by
  cases h with
  | data _ _ h => cases h; exact ⟨_, rfl⟩
  | agg => exact ⟨_, rfl⟩

/-- Neither numbers nor texts. -/
def otherEq : AVal → Bool
  | .int _ _ | .str _ | .bad | .tup _ | .agg _ | .yield _ | .iter _ => false
  | _ => true
theorem eqlA_other {kd : Kd} {x y : AVal} {b : Bool} (h : eqlA C kd x y = some b) : otherEq x = true ∧ otherEq y = true := by
  unfold eqlA at h
  split at h <;> first | exact ⟨rfl, rfl⟩ | cases h
theorem notIntStr {x : AVal} {u : Value} (h : VRel Z H L w x u) (ho : otherEq x = true) : (∀ k n, u ≠ .int k n) ∧ (∀ s, u ≠ .string s) ∧ (∀ k n, u ≠ .float k n) ∧ ∀ k m n, u ≠ .complex k m n := by
  cases h with
  | data _ _ h => cases h <;> first | (simp [otherEq] at ho; done) | simp
  | agg => simp [otherEq] at ho
  | tup => simp [otherEq] at ho
  | _ => simp
theorem binOp_eql {P : Program} {t : TypeId} {u v : Value} (h : (∀ k n, u ≠ .int k n) ∧ (∀ s, u ≠ .string s) ∧ (∀ k n, u ≠ .float k n) ∧ ∀ k m n, u ≠ .complex k m n) :
    binOp .eql t u v = (do pure (.bool (← Op.equal t u v)) : Sem Value) ∧ binOp .neq t u v = (do pure (.bool (!(← Op.equal t u v))) : Sem Value) := by
  obtain ⟨h1, h2, h3, h4⟩ := h
  cases u with
  | int k n => exact absurd rfl (h1 k n)
  | string s => exact absurd rfl (h2 s)
  | float k n => exact absurd rfl (h3 k n)
  | complex k m n => exact absurd rfl (h4 k m n)
  | _ => constructor <;> rfl

theorem binA_sound (hC : TabOk C) (hR : HRel B Z H L w) {op : BinOp} {t : TypeId} {xo yo : Operand} {x y r : AVal} {u v : Value} (hx : VRel Z H L w x u) (hy : VRel Z H L w y v)
    (hn : ¬ (x = .nili ∧ y = .nili)) (ha : ∀ a b, ¬ (x = .agg a ∧ y = .agg b)) (h : binA C op t x y = some r) :
    ∃ q, (do eqGuard op t xo yo u v; binOp op t u v : Sem Value).run C.P w = .ok q w ∧ VRel Z H L w r q := by
  have hg := eqGuard_of (P := C.P) (w := w) (op := op) (t := t) (xo := xo) (yo := yo) (u := u) (v := v)
    (fun ⟨a, b⟩ => hn ⟨nili_iff hx a, nili_iff hy b⟩) (fun a b ⟨h1, h2⟩ => by
      subst h1; subst h2
      obtain ⟨_, rfl⟩ := agg_iff hx
      obtain ⟨_, rfl⟩ := agg_iff hy
      exact ha _ _ ⟨rfl, rfl⟩)
  simp only [Sem.run_bind, hg, Result.andThen_ok]
  by_cases hi : ∃ k a k' b, x = .int k a ∧ y = .int k' b
  · obtain ⟨k, a, k', b, rfl, rfl⟩ := hi
    cases hx.int_inv
    cases hy.int_inv
    cases op <;> simp only [binA] at h
    case shl =>
      split at h
      · cases h
      · rename_i hb
        cases h
        refine ⟨_, ?_, vint _ _⟩
        simp [binOp, Op.shift, hb]
    case shr =>
      split at h
      · cases h
      · rename_i hb
        cases h
        refine ⟨_, ?_, vint _ _⟩
        simp [binOp, Op.shift, hb]
    all_goals
      split at h
      · rename_i hk
        subst hk
        exact intArithA_sound h
      · cases h
  · by_cases hs : ∃ a b, x = .str a ∧ y = .str b
    · obtain ⟨a, b, rfl, rfl⟩ := hs
      obtain ⟨s, rfl, h1⟩ := hx.str_inv
      obtain ⟨s', rfl, h2⟩ := hy.str_inv
      exact strOp_sound h1 h2 h
    · have key : ∀ {b : Bool} {T : Ty}, C.ty t = some T → eqlA C T.kd x y = some b → (Op.equal t u v).run C.P w = .ok b w ∧ ((∀ k n, u ≠ .int k n) ∧ (∀ s, u ≠ .string s) ∧ (∀ k n, u ≠ .float k n) ∧ ∀ k m n, u ≠ .complex k m n) := by
        intro b T hT he
        obtain ⟨T'⟩ := hC.ty t T hT
        exact ⟨eqlA_sound hC hR T' hx hy he 9999, notIntStr hx (eqlA_other he).1⟩
      have hform : (op = .eql ∧ ∃ T b, C.ty t = some T ∧ eqlA C T.kd x y = some b ∧ r = .bool b) ∨ (op = .neq ∧ ∃ T b, C.ty t = some T ∧ eqlA C T.kd x y = some b ∧ r = .bool !b) := by
        unfold binA at h
        split at h
        · exact absurd ⟨_, _, _, _, rfl, rfl⟩ hi
        · exact absurd ⟨_, _, rfl, rfl⟩ hs
        · split at h
          · obtain ⟨T, hT, k⟩ := bindo h
            simp only [Option.map_eq_some_iff] at k
            obtain ⟨b, hb, rfl⟩ := k
            exact .inl ⟨rfl, T, b, hT, hb, rfl⟩
          · obtain ⟨T, hT, k⟩ := bindo h
            simp only [Option.map_eq_some_iff] at k
            obtain ⟨b, hb, rfl⟩ := k
            exact .inr ⟨rfl, T, b, hT, hb, rfl⟩
          · cases h
      rcases hform with ⟨rfl, T, b, hT, he, rfl⟩ | ⟨rfl, T, b, hT, he, rfl⟩
      · obtain ⟨h1, h2⟩ := key hT he
        rw [(binOp_eql (P := C.P) h2).1]
        exact ⟨.bool b, by simp [h1], vbool b⟩
      · obtain ⟨h1, h2⟩ := key hT he
        rw [(binOp_eql (P := C.P) h2).2]
        exact ⟨.bool !b, by simp [h1], vbool _⟩
end
end Go.Ev
/- The quiet operations, on: fields, elements, cuts, look-ups, conversions. Each theorem bears its own conditions. -/
set_option linter.unusedVariables false
set_option linter.unusedSectionVars false
set_option linter.unusedSimpArgs false
namespace Go.Ev
open Go.RowKit
variable [Globs]
section
variable {Z : Nat → Nat → Prop} {H : Heap} {L : Locs} {w : World} {B : Nat} {C : Ctx}

theorem run_fieldPlace {P : Program} {f : Field} {F : Ty} (hF : TyR P f.type F) (hz : F.size ≠ 0) (b o : Nat) : (fieldPlace ⟨b, o, none⟩ f).run P w = .ok ⟨b, o + f.offset, none⟩ w := by
  simp [fieldPlace, run_sizeOf' hF, hz, addr_add]

theorem structField {P : Program} {t : TypeId} {T : Ty} (hT : TyR P t T) {fs : List (Nat × TypeId)} (hk : T.kd = .struct fs) {i o : Nat} {u : TypeId} (hf : fs[i]? = some (o, u)) :
    ∃ fs' : Array Field, P.underlying t = some (.struct fs') ∧ ∃ f, fs'[i]? = some f ∧ f.offset = o ∧ f.type = u := by
  have h := hT.kd
  rw [hk] at h
  obtain ⟨fs', hd, rfl⟩ := kd_struct h
  refine ⟨fs', by rw [hT.und, hd], ?_⟩
  simp only [List.getElem?_map, Option.map_eq_some_iff, Prod.mk.injEq] at hf
  obtain ⟨f, h1, h2, h3⟩ := hf
  exact ⟨f, by simpa using h1, h2, h3⟩

theorem fptr_drop {cs : List AVal} {a : Addr} (h : VRel Z H L w (.fptr cs) (.pointer (some a))) (n : Nat) : VRel Z H L w (.fptr (cs.drop n)) (.pointer (some ⟨a.block, a.off + n, none⟩)) := by
  cases h with
  | data _ _ h =>
    cases h with
    | fptr _ _ c hs hw hr =>
      refine .data _ _ (.fptr _ _ (fun j => c (n + j)) rfl (fun j y hy => ?_) fun j y hy => ?_)
      · rw [List.getElem?_drop] at hy
        have := hw _ _ hy
        simp only [Nat.add_assoc] at this ⊢
        exact this
      · rw [List.getElem?_drop] at hy
        exact hr _ _ hy

theorem fieldAddrA_sound (hC : TabOk C) {s : TypeId} {p x : AVal} {f : Nat} {v : Value} (hp : VRel Z H L w p v) (h : fieldAddrA C s p f = some x) :
    ∃ u, (Instr.fieldAt s v f).run C.P w = .ok u w ∧ VRel Z H L w x u := by
  unfold fieldAddrA at h
  obtain ⟨T, hT, k⟩ := bindo h
  clear h
  obtain ⟨T'⟩ := hC.ty s T hT
  split at k
  · rename_i fs hk
    obtain ⟨⟨o, t⟩, hf, k2⟩ := bindo k
    clear k
    dsimp only at k2
    obtain ⟨F, hF, k3⟩ := bindo k2
    clear k2
    obtain ⟨F'⟩ := hC.ty t F hF
    split at k3
    · cases k3
    · rename_i hz
      have hz' : F.size ≠ 0 := by simpa using hz
      obtain ⟨fs', hu, fl, hfl, ho, ht⟩ := structField T' hk hf
      subst ho; subst ht
      have main : ∀ b o', (Instr.fieldAt s (.pointer (some ⟨b, o', none⟩)) f).run C.P w = .ok (.pointer (some ⟨b, o' + fl.offset, none⟩)) w := fun b o' => by
        simp [Instr.fieldAt, run_underlying hu, hfl, Instr.sureAddr, run_fieldPlace F' hz']
      cases p with
      | ptr id off =>
        cases k3
        obtain ⟨b, t2, ro2, cs2, rfl, ho2, hl⟩ := hp.ptr_inv
        exact ⟨_, main _ _, .ptr _ _ _ _ _ _ ho2 hl⟩
      | aptr id gen i off =>
        cases k3
        cases hp with
        | data _ _ hd => cases hd
        | aptr _ _ _ _ b base e ro sz xs ho hl =>
          refine ⟨_, main _ _, ?_⟩
          rw [show base + (i * sz + off) + fl.offset = base + (i * sz + (off + fl.offset)) by omega]
          exact .aptr _ _ _ _ _ _ _ _ _ _ ho hl
        | aptrOld _ _ _ _ a hs e g ro sz xs ho hg =>
          rw [addr_eta hs]
          exact ⟨_, main _ _, .aptrOld _ _ _ _ _ rfl _ _ _ _ _ ho hg⟩
      | fptr cs =>
        cases k3
        obtain ⟨a, rfl, hs, _⟩ := lie_fptr hp
        have := fptr_drop hp fl.offset
        rw [addr_eta hs]
        exact ⟨_, main _ _, this⟩
      | _ => cases k3
  · cases k

theorem fieldA_sound (hC : TabOk C) {s : TypeId} {p x : AVal} {f : Nat} {v : Value} (hp : VRel Z H L w p v) (h : fieldA C s p f = some x) :
    ∃ u, (Instr.field s v f).run C.P w = .ok u w ∧ VRel Z H L w x u := by
  unfold fieldA at h
  obtain ⟨T, hT, k⟩ := bindo h
  clear h
  obtain ⟨T'⟩ := hC.ty s T hT
  split at k
  · rename_i fs hk
    obtain ⟨⟨o, t⟩, hf, k2⟩ := bindo k
    clear k
    dsimp only at k2
    obtain ⟨F, hF, k3⟩ := bindo k2
    clear k2
    obtain ⟨F'⟩ := hC.ty t F hF
    obtain ⟨fs', hu, fl, hfl, ho, ht⟩ := structField T' hk hf
    subst ho; subst ht
    cases p with
    | agg cs =>
      obtain ⟨cs', rfl, hl, h1, h2⟩ := hp.agg_inv
      obtain ⟨u, hu1, hu2⟩ := part_sound F' hl h1 h2 k3
      exact ⟨u, by simp [Instr.field, run_underlying hu, hfl, asAgg, hu1], hu2⟩
    | _ => cases k3
  · cases k

theorem natOf_inv {i : AVal} {k : Nat} {v : Value} (h : natOf i = some k) (hi : VRel Z H L w i v) : ∃ q n, v = .int q n ∧ 0 ≤ n ∧ n.toNat = k := by
  unfold natOf at h
  split at h
  · split at h
    · cases h; cases hi.int_inv; exact ⟨_, _, rfl, by assumption, rfl⟩
    · cases h
  · cases h

theorem indexA_sound (hC : TabOk C) {t : TypeId} {p i x : AVal} {v vi : Value} (hp : VRel Z H L w p v) (hi : VRel Z H L w i vi)
    (h : indexA C t p i = some x) : ∃ u, (Instr.index t v vi).run C.P w = .ok u w ∧ VRel Z H L w x u := by
  unfold indexA at h
  obtain ⟨k, hk1, k2⟩ := bindo h
  clear h
  obtain ⟨q, n, rfl, hn, rfl⟩ := natOf_inv hk1 hi
  cases p with
  | str s =>
    obtain ⟨T, hT, k3⟩ := bindo k2
    clear k2
    obtain ⟨T'⟩ := hC.ty t T hT
    split at k3
    rotate_left
    · cases k3
    rename_i hkd
    simp only [Option.map_eq_some_iff] at k3
    obtain ⟨b, hb, rfl⟩ := k3
    obtain ⟨s', rfl, rfl⟩ := hp.str_inv
    have hu := T'.und
    have := T'.kd
    rw [hkd] at this
    rw [kd_string this] at hu
    refine ⟨.int .u8 b.toNat, ?_, vint _ _⟩
    have hlt : n.toNat < s'.size := by
      have := (List.getElem?_eq_some_iff.1 hb).1
      rwa [Array.length_toList] at this
    have hget : s'[n.toNat]? = some b := by
      rw [ByteArray.getElem?_lt' s' _ hlt]
      have : s'.data.toList[n.toNat]? = some b := hb
      rw [Array.getElem?_toList, Array.getElem?_eq_getElem hlt] at this
      exact this
    simp [Instr.index, asIntOf, run_underlying hu, hn, hget]
  | agg cs =>
    obtain ⟨T, hT, k3⟩ := bindo k2
    clear k2
    obtain ⟨T'⟩ := hC.ty t T hT
    split at k3
    · rename_i m e hkd
      obtain ⟨E, hE, k4⟩ := bindo k3
      clear k3
      obtain ⟨E'⟩ := hC.ty e E hE
      split at k4
      · cases k4
      · rename_i hlt
        obtain ⟨cs', rfl, hl, h1, h2⟩ := hp.agg_inv
        obtain ⟨u, hu1, hu2⟩ := part_sound E' hl h1 h2 k4
        have hu := T'.und
        have := T'.kd
        rw [hkd] at this
        rw [kd_array this] at hu
        refine ⟨u, ?_, hu2⟩
        have hc : 0 ≤ n ∧ n < (m : Int) := ⟨hn, by omega⟩
        simp only [Instr.index, asIntOf, Sem.run_bind, Sem.run_pure, Result.andThen_ok, run_underlying hu, hc, and_self, if_true, run_sizeOf' E']
        exact hu1
    · cases k3
  | _ => cases k2

theorem indexAddrA_sound (hC : TabOk C) (hR : HRel B Z H L w) {t : TypeId} {p i x : AVal} {v vi : Value} (hp : VRel Z H L w p v) (hi : VRel Z H L w i vi)
    (h : indexAddrA C H t p i = some x) : ∃ u, (Instr.indexAt t v vi).run C.P w = .ok u w ∧ VRel Z H L w x u := by
  unfold indexAddrA at h
  obtain ⟨T, hT, k⟩ := bindo h
  clear h
  obtain ⟨T'⟩ := hC.ty t T hT
  obtain ⟨k', hk1, k2⟩ := bindo k
  clear k
  obtain ⟨q, n, rfl, hn, rfl⟩ := natOf_inv hk1 hi
  have hu := T'.und
  have hkd := T'.kd
  split at k2
  · rename_i e hk
    rw [hk] at hkd
    rw [kd_slice hkd] at hu
    obtain ⟨E, hE, k3⟩ := bindo k2
    clear k2
    obtain ⟨E'⟩ := hC.ty e E hE
    split at k3
    · cases k3
    · rename_i hz
      have main : ∀ (b o len cap : Nat), n < (len : Int) → (Instr.indexAt t (.slice (some ⟨b, o, none⟩) len cap) (.int q n)).run C.P w = .ok (.pointer (some ⟨b, o + n.toNat * E.size, none⟩)) w := fun b o len cap hlt => by
        have hc : 0 ≤ n ∧ n < (len : Int) := ⟨hn, hlt⟩
        simp [Instr.indexAt, asIntOf, run_underlying hu, hc, run_sizeOf' E', addr_add]
      cases p with
      | lst b xs =>
        obtain ⟨y, hy, k4⟩ := bindo k3
        clear k3
        split at k4
        · rename_i hsz
          cases k4
          have hlt := (List.getElem?_eq_some_iff.1 hy).1
          cases hp with
          | data _ _ hp =>
            cases hp with
            | nils => simp at hy
            | lst _ a len cap sz c hs hl hc hz hw hr =>
              have hsz' : E.size = sz := by have := hz _ _ hy; simp at hsz; omega
              rw [addr_eta hs]
              refine ⟨_, main _ _ _ _ (by omega), .data _ _ (.fptr _ _ (fun j => c n.toNat j) rfl (fun j z hj => ?_) fun j z hj => hr _ _ hy j z hj)⟩
              have := hw _ _ hy j z hj
              simp only [hsz', Nat.add_assoc]
              exact this
        · cases k4
      | arr id gen off len =>
        dsimp only at k3
        split at k3
        rotate_left
        · cases k3
        rename_i e0 g0 ro0 sz0 xs0 ho0
        split at k3
        · rename_i hlt0
          simp only [Bool.and_eq_true, beq_iff_eq, decide_eq_true_eq] at hlt0
          obtain ⟨hsz0, hlt⟩ := hlt0
          cases k3
          cases hp with
          | data _ _ hd => cases hd
          | arr _ _ _ _ b base cap e2 ro sz xs cs' e' fz ho hl hx hc hb hs =>
            have hsz' : E.size = sz := by
              rw [ho] at ho0
              cases ho0
              exact hsz0.symm
            refine ⟨_, main _ _ _ _ (by omega), ?_⟩
            rw [hsz', show base + off * sz + n.toNat * sz = base + ((off + n.toNat) * sz + 0) by rw [Nat.add_mul]; omega]
            exact .aptr _ _ _ _ _ _ _ _ _ _ ho hl
          | arrOld _ _ _ _ a c hs hc e2 g ro sz xs ho hg =>
            rw [addr_eta hs]
            exact ⟨_, main _ _ _ _ (by omega), .aptrOld _ _ _ _ _ rfl _ _ _ _ _ ho hg⟩
        · cases k3
      | _ => cases k3
  · rename_i m e hk
    rw [hk] at hkd
    rw [kd_array hkd] at hu
    obtain ⟨E, hE, k3⟩ := bindo k2
    clear k2
    obtain ⟨E'⟩ := hC.ty e E hE
    split at k3
    · cases k3
    · rename_i hz
      simp only [Bool.or_eq_true, beq_iff_eq, decide_eq_true_eq, not_or, Nat.not_le] at hz
      have main : ∀ (b o : Nat), (Instr.indexAt t (.pointer (some ⟨b, o, none⟩)) (.int q n)).run C.P w = .ok (.pointer (some ⟨b, o + n.toNat * E.size, none⟩)) w := fun b o => by
        have hc : 0 ≤ n ∧ n < (m : Int) := ⟨hn, by omega⟩
        simp [Instr.indexAt, asIntOf, run_underlying hu, hc, run_sizeOf' E', addr_add, Instr.sureAddr]
      cases p with
      | ptr id off =>
        cases k3
        obtain ⟨b, t2, ro2, cs2, rfl, ho2, hl⟩ := hp.ptr_inv
        exact ⟨_, main _ _, .ptr _ _ _ _ _ _ ho2 hl⟩
      | fptr cs =>
        cases k3
        obtain ⟨a, rfl, hs, _⟩ := lie_fptr hp
        have := fptr_drop hp (n.toNat * E.size)
        rw [addr_eta hs]
        exact ⟨_, main _ _, this⟩
      | _ => cases k3
  · cases k2

theorem boundA_inv {o : Option AVal} {d k : Nat} {o' : Option Value} (h : boundA o d = some k) (hn : o.isSome = o'.isSome) (hr : ∀ x v, o = some x → o' = some v → VRel Z H L w x v) :
    (o = none ∧ o' = none ∧ k = d) ∨ ∃ q n, o' = some (.int q n) ∧ 0 ≤ n ∧ n.toNat = k := by
  unfold boundA at h
  split at h
  · cases h; cases o' <;> simp at hn; exact .inl ⟨rfl, rfl, rfl⟩
  · split at h
    · cases h
      cases o' with
      | none => simp at hn
      | some v =>
        have := hr _ v rfl rfl
        cases this.int_inv
        exact .inr ⟨_, _, rfl, by assumption, rfl⟩
    · cases h
  · cases h

theorem sliceBounds_run {P : Program} {isSlice : Bool} {len cap l h m : Nat} {lo hi mx : Option AVal} {lo' hi' mx' : Option Value} (hcap : len ≤ cap)
    (hm : boundA mx len = some m) (hh : boundA hi len = some h) (hl : boundA lo 0 = some l) (h1 : l ≤ h) (h2 : h ≤ m) (h3 : m ≤ len) (hmx : mx.isSome = true → hi.isSome = true)
    (nm : mx.isSome = mx'.isSome) (nh : hi.isSome = hi'.isSome) (nl : lo.isSome = lo'.isSome)
    (rm : ∀ x v, mx = some x → mx' = some v → VRel Z H L w x v) (rh : ∀ x v, hi = some x → hi' = some v → VRel Z H L w x v) (rl : ∀ x v, lo = some x → lo' = some v → VRel Z H L w x v) :
    ∃ m', (Instr.sliceBounds isSlice len cap lo' hi' mx').run P w = .ok (l, h, m') w ∧ h ≤ m' ∧ m' ≤ cap ∧ (mx = none → m' = cap) := by
  have bl := boundA_inv hl nl rl
  have bh := boundA_inv hh nh rh
  have bm := boundA_inv hm nm rm
  rcases bm with ⟨rfl, rfl, hm'⟩ | ⟨q, n, rfl, hn, hm'⟩
  · refine ⟨cap, ?_, by omega, Nat.le_refl _, fun _ => rfl⟩
    rcases bh with ⟨rfl, rfl, hh'⟩ | ⟨q2, n2, rfl, hn2, hh'⟩ <;> rcases bl with ⟨rfl, rfl, hl'⟩ | ⟨q3, n3, rfl, hn3, hl'⟩
    · simp [Instr.sliceBounds, hh', hl']
    · simp only [Instr.sliceBounds, Sem.run_bind, Sem.run_pure, Result.andThen_ok, run_sliceBound w q3 n3 len _ hn3 (by omega)]
      simp [hh', hl']
    · simp only [Instr.sliceBounds, Sem.run_bind, Sem.run_pure, Result.andThen_ok, run_sliceBound w q2 n2 cap _ hn2 (by omega)]
      simp [hh', hl']
    · simp only [Instr.sliceBounds, Sem.run_bind, Sem.run_pure, Result.andThen_ok, run_sliceBound w q2 n2 cap _ hn2 (by omega), run_sliceBound w q3 n3 n2.toNat _ hn3 (by omega)]
      simp [hh', hl']
  · rcases bh with ⟨rfl, rfl, hh'⟩ | ⟨q2, n2, rfl, hn2, hh'⟩
    · have := hmx (by simpa using nm)
      simp at this
    · refine ⟨m, ?_, h2, by omega, fun h => by simp [h] at nm⟩
      subst hm'
      rcases bl with ⟨rfl, rfl, hl'⟩ | ⟨q3, n3, rfl, hn3, hl'⟩
      · simp only [Instr.sliceBounds, Sem.run_bind, Sem.run_pure, Result.andThen_ok, run_sliceBound w q n cap _ hn (by omega), run_sliceBound w q2 n2 n.toNat _ hn2 (by omega)]
        simp [hh', hl']
      · simp only [Instr.sliceBounds, Sem.run_bind, Sem.run_pure, Result.andThen_ok, run_sliceBound w q n cap _ hn (by omega), run_sliceBound w q2 n2 n.toNat _ hn2 (by omega), run_sliceBound w q3 n3 n2.toNat _ hn3 (by omega)]
        simp [hh', hl']

theorem lst_take {b : Bool} {xs : List AVal} {v : Value} (h : VRel Z H L w (.lst b xs) v) :
    (b = true ∧ xs = [] ∧ v = .slice none 0 0) ∨ (b = false ∧ ∃ (a : Addr) (cap sz : Nat), a.spot = none ∧ v = .slice (some a) xs.length cap ∧ xs.length ≤ cap ∧ (∀ (i : Nat) (x : AVal), xs[i]? = some x → x.cells.length = sz) ∧
      ∀ (l n cap' : Nat), n ≤ cap' → VRel Z H L w (.lst false ((xs.drop l).take n)) (.slice (some ⟨a.block, a.off + l * sz, none⟩) ((xs.drop l).take n).length cap')) := by
  cases h with
  | data _ _ h =>
    cases h with
    | nils => exact .inl ⟨rfl, rfl, rfl⟩
    | lst _ a len cap sz c hs hl hc hz hw hr =>
      subst hl
      refine .inr ⟨rfl, a, cap, sz, hs, rfl, hc, hz, fun l n cap' hn => .data _ _ (.lst _ _ _ _ sz (fun i j => c (l + i) j) rfl rfl ?_ (fun i x hi => ?_) (fun i x hi j y hj => ?_) fun i x hi j y hj => ?_)⟩
      · simp; omega
      · rw [List.getElem?_take] at hi
        split at hi
        · rw [List.getElem?_drop] at hi; exact hz _ _ hi
        · cases hi
      · rw [List.getElem?_take] at hi
        split at hi
        · rw [List.getElem?_drop] at hi
          have := hw _ _ hi j y hj
          dsimp only
          rw [show a.off + l * sz + (i * sz + j) = a.off + ((l + i) * sz + j) by rw [Nat.add_mul]; omega]
          exact this
        · cases hi
      · rw [List.getElem?_take] at hi
        split at hi
        · rw [List.getElem?_drop] at hi
          exact hr _ _ hi j y hj
        · cases hi

theorem lst_nil {a : Addr} {c : Nat} (h : a.spot = none) : VRel Z H L w (.lst false []) (.slice (some a) 0 c) :=
  .data _ _ (.lst [] a 0 c 0 (fun _ _ => undef) h rfl (Nat.zero_le _) (by simp) (by simp) (by simp))

theorem sliceA_sound (hC : TabOk C) {t : TypeId} {p x : AVal} {v : Value} {lo hi mx : Option AVal} {lo' hi' mx' : Option Value} (hp : VRel Z H L w p v)
    (nm : mx.isSome = mx'.isSome) (nh : hi.isSome = hi'.isSome) (nl : lo.isSome = lo'.isSome)
    (rm : ∀ x v, mx = some x → mx' = some v → VRel Z H L w x v) (rh : ∀ x v, hi = some x → hi' = some v → VRel Z H L w x v) (rl : ∀ x v, lo = some x → lo' = some v → VRel Z H L w x v)
    (h : sliceA C H t p lo hi mx = some x) : ∃ u, (Instr.sliceAt t v lo' hi' mx').run C.P w = .ok u w ∧ VRel Z H L w x u := by
  unfold sliceA at h
  obtain ⟨T, hT, k1⟩ := bindo h
  clear h
  obtain ⟨T'⟩ := hC.ty t T hT
  obtain ⟨n, hn, k2⟩ := bindo k1
  clear k1
  obtain ⟨m, hm, k3⟩ := bindo k2
  clear k2
  obtain ⟨hh, hhi, k4⟩ := bindo k3
  clear k3
  obtain ⟨l, hlo, k5⟩ := bindo k4
  clear k4
  have hu := T'.und
  have hkd := T'.kd
  split at k5
  · rename_i hc
    simp only [Bool.and_eq_true, decide_eq_true_eq, Bool.or_eq_true] at hc
    obtain ⟨⟨⟨h1, h2⟩, h3⟩, h4⟩ := hc
    have hmx : mx.isSome = true → hi.isSome = true := fun hs => by cases mx <;> simp_all
    split at k5
    · rename_i s hk
      rw [hk] at hkd
      rw [kd_string hkd] at hu
      split at k5
      · cases k5
      · rename_i hmn
        have hmn' : mx = none := by cases mx <;> simp at hmn ⊢
        subst hmn'
        cases k5
        obtain ⟨s', rfl, rfl⟩ := hp.str_inv
        simp only [lenOf, Option.some.injEq] at hn
        obtain rfl : mx' = none := by cases mx' <;> simp at nm ⊢
        obtain ⟨m', hrun, _, _, _⟩ := sliceBounds_run (P := C.P) (isSlice := false) (Nat.le_refl s'.size) (by rw [str_size rfl, hn]; exact hm) (by rw [str_size rfl, hn]; exact hhi) hlo h1 h2 (by rw [str_size rfl, hn]; exact h3) (by simp) nm nh nl rm rh rl
        refine ⟨.string (s'.extract l hh), by simp [Instr.sliceAt, Instr.slice, run_underlying hu, hrun], vstr _ ?_⟩
        simp [List.extract_eq_take_drop]
    · rename_i e b xs hk
      rw [hk] at hkd
      rw [kd_slice hkd] at hu
      obtain ⟨E, hE, k6⟩ := bindo k5
      clear k5
      obtain ⟨E'⟩ := hC.ty e E hE
      split at k6
      rotate_left
      · cases k6
      rename_i hall
      cases k6
      simp only [lenOf, Option.some.injEq] at hn
      subst hn
      rcases lst_take hp with ⟨rfl, rfl, rfl⟩ | ⟨rfl, a, cap, sz, hs, rfl, hcap, hz, hmk⟩
      · obtain ⟨m', hrun, _, hm', _⟩ := sliceBounds_run (P := C.P) (isSlice := true) (Nat.le_refl 0) hm hhi hlo h1 h2 h3 hmx nm nh nl rm rh rl
        obtain rfl : l = 0 := by simp at h3; omega
        obtain rfl : hh = 0 := by simp at h3; omega
        obtain rfl : m' = 0 := by omega
        exact ⟨.slice none 0 0, by simp [Instr.sliceAt, Instr.slice, run_underlying hu, hrun, run_sizeOf' E'], .data _ _ (by simpa using DRel.nils)⟩
      · obtain ⟨m', hrun, hm1, hm2, _⟩ := sliceBounds_run (P := C.P) (isSlice := true) hcap hm hhi hlo h1 h2 h3 hmx nm nh nl rm rh rl
        refine ⟨.slice (if m' = l then some a else some (a.add (l * E.size))) (hh - l) (m' - l), ?_, ?_⟩
        · simp only [Instr.sliceAt, Instr.slice, Sem.run_bind, run_underlying hu, Result.andThen_ok, hrun, run_sizeOf' E', Sem.run_pure]
          split <;> rfl
        · have hlen : ((xs.drop l).take (hh - l)).length = hh - l := by simp; omega
          by_cases hml : m' = l
          · rw [if_pos hml]
            have : hh - l = 0 := by omega
            rw [this]
            simpa using lst_nil hs
          · rw [if_neg hml]
            have := hmk l (hh - l) (m' - l) (by omega)
            rw [hlen] at this
            have hoff : l * sz = l * E.size := by
              by_cases hl0 : l = 0
              · simp [hl0]
              · have hx : ∃ y, xs[0]? = some y := ⟨xs[0]'(by omega), by simp⟩
                obtain ⟨y, hy⟩ := hx
                simp only [Bool.or_eq_true, beq_iff_eq, hl0, false_or, List.all_eq_true] at hall
                rw [← hz 0 y hy, hall y (List.mem_of_getElem? hy)]
            rw [hoff] at this
            rw [addr_eta hs, addr_add]
            exact this
    · rename_i e id gen off len hk
      rw [hk] at hkd
      rw [kd_slice hkd] at hu
      obtain ⟨E, hE, k6⟩ := bindo k5
      clear k5
      obtain ⟨E'⟩ := hC.ty e E hE
      split at k6
      rotate_left
      · cases k6
      rename_i e0 g0 ro0 sz0 xs0 ho0
      split at k6
      rotate_left
      · cases k6
      rename_i hsz
      simp only [beq_iff_eq] at hsz
      subst hsz
      simp only [lenOf, Option.some.injEq] at hn
      subst hn
      have fin : ∀ (a : Addr) (cap : Nat), a.spot = none → len ≤ cap →
          (∀ m', hh ≤ m' → m' ≤ cap → l < m' ∨ l = 0 → VRel Z H L w (.arr id gen (off + l) (hh - l)) (.slice (some ⟨a.block, a.off + l * E.size, none⟩) (hh - l) (m' - l))) →
          ∃ u, (Instr.sliceAt t (.slice (some a) len cap) lo' hi' mx').run C.P w = .ok u w ∧ VRel Z H L w x u := by
        intro a cap hs hcap hmk
        obtain ⟨m', hrun, hm1, hm2, _⟩ := sliceBounds_run (P := C.P) (isSlice := true) hcap hm hhi hlo h1 h2 h3 hmx nm nh nl rm rh rl
        refine ⟨.slice (if m' = l then some a else some (a.add (l * E.size))) (hh - l) (m' - l), ?_, ?_⟩
        · simp only [Instr.sliceAt, Instr.slice, Sem.run_bind, run_underlying hu, Result.andThen_ok, hrun, run_sizeOf' E', Sem.run_pure]
          split <;> rfl
        · split at k6
          · rename_i he
            cases k6
            simp only [Bool.and_eq_true, beq_iff_eq] at he
            rw [show hh - l = 0 by omega]
            split
            · exact lst_nil hs
            · rw [addr_eta hs, addr_add]; exact lst_nil rfl
          · rename_i he
            cases k6
            simp only [Bool.and_eq_true, beq_iff_eq, bne_iff_ne, ne_eq, not_and, Decidable.not_not] at he
            by_cases hml : m' = l
            · rw [if_pos hml]
              have hl0 : l = 0 := he (by omega)
              have := hmk m' hm1 hm2 (.inr hl0)
              subst hl0
              rw [addr_eta hs]
              simpa using this
            · rw [if_neg hml, addr_eta hs, addr_add]
              exact hmk m' hm1 hm2 (.inl (by omega))
      cases hp with
      | data _ _ hd => cases hd
      | arr _ _ _ _ b base cap e2 ro sz xs cs' e' fz ho hl hx hc hb hs =>
        rw [ho] at ho0
        cases ho0
        refine fin _ cap rfl hc fun m' hm1 hm2 _ => ?_
        rw [show base + off * E.size + l * E.size = base + (off + l) * E.size by rw [Nat.add_mul]; omega]
        refine .arr _ _ _ _ _ _ _ _ _ _ _ cs' e' fz ho hl (by omega) (by omega) hb ?_
        have : (off + l + (m' - l)) * E.size ≤ (off + cap) * E.size := Nat.mul_le_mul_right _ (by omega)
        omega
      | arrOld _ _ _ _ a c hs hc e2 g ro sz xs ho hg =>
        exact fin a c hs hc fun m' hm1 hm2 _ => .arrOld _ _ _ _ _ _ rfl (by omega) _ _ _ _ _ ho hg
    · cases k5
  · cases k5
end
end Go.Ev
/- The quiet operations, at last: structs that are built, look-ups, conversions; and all of them together. Each theorem bears its own conditions. -/
set_option linter.unusedVariables false
set_option linter.unusedSectionVars false
set_option linter.unusedSimpArgs false
namespace Go.Ev
open Go.RowKit
variable [Globs]
section
variable {Z : Nat → Nat → Prop} {H : Heap} {L : Locs} {w : World} {B : Nat} {C : Ctx}

/-- Two rows of cells, one by one. -/
structure CRel (Z : Nat → Nat → Prop) (H : Heap) (L : Locs) (w : World) (cs : List AVal) (cs' : Array Value) : Prop where
  len : cs.length = cs'.size
  one : ∀ (j : Nat) (u : Value), cs'[j]? = some u → u.oneCell' = true
  rel : ∀ (j : Nat) (y : AVal) (u : Value), cs[j]? = some y → cs'[j]? = some u → VRel Z H L w y u

theorem VRel.crel {x : AVal} {v : Value} (h : VRel Z H L w x v) (hl : laid x = true) : CRel Z H L w x.cells v.cells :=
  let ⟨a, b, c⟩ := h.cells hl; ⟨a, b, c⟩

/-- Cells laid over others, from a place on. -/
def spliceV (cs : Array Value) (off : Nat) (vs : Array Value) : Array Value := vs.zipIdx.foldl (fun cs (c, j) => cs.setIfInBounds (off + j) c) cs

theorem foldl_set (off : Nat) : ∀ (l : List (Value × Nat)) (cs : Array Value), ((l.foldl (fun cs (p : Value × Nat) => cs.setIfInBounds (off + p.2) p.1) cs).size = cs.size)
  | [], cs => rfl
  | p :: l, cs => by simp [foldl_set off l]

theorem foldl_set_get (off : Nat) : ∀ (vs : List Value) (k : Nat) (cs : Array Value) (j : Nat), off + k + vs.length ≤ cs.size →
    ((vs.zipIdx k).foldl (fun cs (p : Value × Nat) => cs.setIfInBounds (off + p.2) p.1) cs)[j]? = if off + k ≤ j ∧ j < off + k + vs.length then vs[j - (off + k)]? else cs[j]?
  | [], k, cs, j, h => by simp; omega
  | v :: vs, k, cs, j, h => by
    simp only [List.zipIdx_cons, List.foldl_cons]
    rw [foldl_set_get off vs (k + 1) _ j (by simp only [List.length_cons, Array.size_setIfInBounds] at h ⊢; omega)]
    simp only [List.length_cons] at h ⊢
    by_cases h1 : off + k = j
    · subst h1
      rw [if_neg (by omega), if_pos (by omega)]
      have hlt : off + k < cs.size := by omega
      simp [hlt]
    · by_cases h2 : off + (k + 1) ≤ j ∧ j < off + (k + 1) + vs.length
      · rw [if_pos h2, if_pos (by omega), show j - (off + k) = (j - (off + (k + 1))) + 1 by omega]
        simp
      · rw [if_neg h2, if_neg (by omega)]
        simp [h1]

theorem spliceV_eq (cs : Array Value) (off : Nat) (vs : Array Value) : spliceV cs off vs = (vs.toList.zipIdx).foldl (fun cs (p : Value × Nat) => cs.setIfInBounds (off + p.2) p.1) cs := by
  unfold spliceV
  rw [← Array.foldl_toList, Array.toList_zipIdx]
theorem spliceV_size (cs : Array Value) (off : Nat) (vs : Array Value) : (spliceV cs off vs).size = cs.size := by rw [spliceV_eq, foldl_set]
theorem spliceV_get {cs : Array Value} {off : Nat} {vs : Array Value} (h : off + vs.size ≤ cs.size) (j : Nat) :
    (spliceV cs off vs)[j]? = if off ≤ j ∧ j < off + vs.size then vs[j - off]? else cs[j]? := by
  rw [spliceV_eq, foldl_set_get off vs.toList 0 cs j (by simpa using h)]
  simp
theorem splice_length {cs : List AVal} {off : Nat} {vs : List AVal} (h : off + vs.length ≤ cs.length) : (splice cs off vs).length = cs.length := by simp [splice]; omega
theorem splice_get {cs : List AVal} {off : Nat} {vs : List AVal} (h : off + vs.length ≤ cs.length) (j : Nat) :
    (splice cs off vs)[j]? = if off ≤ j ∧ j < off + vs.length then vs[j - off]? else cs[j]? := by
  unfold splice
  rw [List.append_assoc]
  by_cases h1 : j < off
  · rw [List.getElem?_append_left (by simp; omega), if_neg (by omega), List.getElem?_take, if_pos h1]
  · rw [List.getElem?_append_right (by simp; omega)]
    simp only [List.length_take, Nat.min_eq_left (show off ≤ cs.length by omega)]
    by_cases h2 : j < off + vs.length
    · rw [List.getElem?_append_left (by omega), if_pos (by omega)]
    · rw [List.getElem?_append_right (by omega), if_neg (by omega), List.getElem?_drop]
      congr 1
      omega

theorem CRel.splice {cs vs : List AVal} {cs' vs' : Array Value} (h : CRel Z H L w cs cs') (hv : CRel Z H L w vs vs') {off : Nat} (hl : off + vs.length ≤ cs.length) :
    CRel Z H L w (splice cs off vs) (spliceV cs' off vs') := by
  have hl' : off + vs'.size ≤ cs'.size := by rw [← hv.len, ← h.len]; exact hl
  refine ⟨by rw [splice_length hl, spliceV_size, h.len], fun j u hu => ?_, fun j y u hy hu => ?_⟩
  · rw [spliceV_get hl'] at hu
    split at hu
    · exact hv.one _ _ hu
    · exact h.one _ _ hu
  · rw [spliceV_get hl'] at hu
    rw [splice_get hl, hv.len] at hy
    split at hu
    · rename_i hc; rw [if_pos hc] at hy; exact hv.rel _ _ _ hy hu
    · rename_i hc; rw [if_neg hc] at hy; exact h.rel _ _ _ hy hu

/-- Parts, as the evaluator and as the machine see them. -/
def PRel (Z : Nat → Nat → Prop) (H : Heap) (L : Locs) (w : World) (ps : List (Nat × AVal)) (ps' : List (Nat × Value)) : Prop :=
  ps.length = ps'.length ∧ ∀ (j : Nat) i y k u, ps[j]? = some (i, y) → ps'[j]? = some (k, u) → i = k ∧ VRel Z H L w y u ∧ laid y = true

theorem fillA_sound {place : Nat → Option (Nat × Nat)} {place' : Nat → Option (Nat × Nat)} (hp : ∀ i r, place i = some r → place' i = some r) :
    ∀ (ps : List (Nat × AVal)) (ps' : List (Nat × Value)) (cs : List AVal) (cs' : Array Value) (r : List AVal), PRel Z H L w ps ps' → CRel Z H L w cs cs' → fillA place cs ps = some r →
      ∃ r', Instr.fill place' cs' ps' = some r' ∧ CRel Z H L w r r'
  | [], ps', cs, cs', r, hP, hc, h => by
    obtain ⟨hl, _⟩ := hP
    cases ps' with
    | cons => simp at hl
    | nil => simp [fillA] at h; subst h; exact ⟨cs', rfl, hc⟩
  | (i, y) :: ps, [], cs, cs', r, hP, hc, h => by simp [PRel] at hP
  | (i, y) :: ps, (k, u) :: ps', cs, cs', r, hP, hc, h => by
    obtain ⟨hl, hr⟩ := hP
    obtain ⟨rfl, hy, hyl⟩ := hr 0 i y k u rfl rfl
    simp only [fillA] at h
    cases hpl : place i with
    | none => simp [hpl] at h
    | some q =>
      obtain ⟨off, size⟩ := q
      simp only [hpl] at h
      split at h
      · cases h
      · rename_i hcond
        simp only [Bool.or_eq_true, decide_eq_true_eq, not_or, Nat.not_lt, ne_eq, decide_not, Bool.not_eq_true', decide_eq_false_iff_not, Decidable.not_not] at hcond
        obtain ⟨h1, h2⟩ := hcond
        have hcv := hy.crel hyl
        have hlen : u.cells.size = size := by rw [← hcv.len]; exact h1
        obtain ⟨r', hf, hcr⟩ := fillA_sound hp ps ps' _ _ r ⟨by simpa using hl, fun j i y k u a b => hr (j + 1) i y k u a b⟩ (hc.splice hcv h2) h
        refine ⟨r', ?_, hcr⟩
        simp only [Instr.fill, hp _ _ hpl]
        rw [if_neg (by simp only [Bool.or_eq_true, decide_eq_true_eq, not_or, ne_eq, decide_not, Bool.not_eq_true', decide_eq_false_iff_not, Decidable.not_not]; exact ⟨hlen, by rw [← hcv.len, ← hc.len]; omega⟩)]
        exact hf

theorem run_mapM_places {P : Program} (g : Field → Nat) : ∀ (fs : List Field), (∀ f ∈ fs, (sizeOf f.type).run P w = .ok (g f) w) →
    (fs.mapM (fun f => do pure (f.offset, ← sizeOf f.type) : Field → Sem (Nat × Nat))).run P w = .ok (fs.map fun f => (f.offset, g f)) w
  | [], _ => by simp
  | f :: fs, h => by
    simp only [List.mapM_cons, Sem.run_bind, h f (by simp), Result.andThen_ok, Sem.run_pure, run_mapM_places g fs (fun f hf => h f (by simp [hf])), List.map_cons]


theorem fieldsOf_get (C : Ctx) : ∀ (fs : List (Nat × TypeId)) (i : Nat) (r : Nat × Nat), fieldsOf C fs i = some r → ∃ o t T, fs[i]? = some (o, t) ∧ C.ty t = some T ∧ r = (o, T.size)
  | [], i, r, h => by cases i <;> simp [fieldsOf] at h
  | (o, t) :: fs, 0, r, h => by
    simp only [fieldsOf, Option.map_eq_some_iff] at h
    obtain ⟨T, hT, rfl⟩ := h
    exact ⟨o, t, T, rfl, hT, rfl⟩
  | p :: fs, i + 1, r, h => by
    simp only [fieldsOf] at h
    obtain ⟨o, t, T, h1, h2, h3⟩ := fieldsOf_get C fs i r h
    exact ⟨o, t, T, by simpa using h1, h2, h3⟩

theorem zero_crel {P : Program} {t : TypeId} {T : Ty} (hT : TyR P t T) : CRel Z H L w T.zero.cells hT.z.cells :=
  (VRel.data _ _ (absV_rel hT.abs)).crel hT.zlaid

theorem buildA_sound (hC : TabOk C) {t : TypeId} {ps : List (Nat × AVal)} {ps' : Array (Nat × Value)} {x : AVal} (hp : PRel Z H L w ps ps'.toList) (h : buildA C t ps = some x) :
    ∃ u, (Instr.build t ps').run C.P w = .ok u w ∧ VRel Z H L w x u := by
  unfold buildA at h
  obtain ⟨T, hT, k⟩ := bindo h
  clear h
  obtain ⟨T'⟩ := hC.ty t T hT
  have hu := T'.und
  have hkd := T'.kd
  split at k
  · rename_i fs hk
    have hfl := hC.flds t T fs hT hk
    rw [hk] at hkd
    obtain ⟨fs', hd, rfl⟩ := kd_struct hkd
    rw [hd] at hu
    simp only [Option.map_eq_some_iff] at k
    obtain ⟨r, hr, rfl⟩ := k
    let g : Field → Nat := fun f => ((C.ty f.type).map (·.size)).getD 0
    have hg : ∀ f ∈ fs'.toList, (sizeOf f.type).run C.P w = .ok (g f) w := fun f hf => by
      have := hfl (f.offset, f.type) (List.mem_map.2 ⟨f, hf, rfl⟩)
      obtain ⟨F, hF⟩ := Option.isSome_iff_exists.1 this
      obtain ⟨F'⟩ := hC.ty _ F hF
      rw [run_sizeOf' F']
      simp only [g, show C.ty f.type = some F from hF, Option.map_some, Option.getD_some]
    have hm := run_mapM_places (P := C.P) (w := w) g fs'.toList hg
    obtain ⟨r', hf, hcr⟩ := fillA_sound (place' := fun i => ((fs'.toList.map fun f => (f.offset, g f)).toArray)[i]?) (fun i q hq => by
      obtain ⟨o, u, U, h1, h2, rfl⟩ := fieldsOf_get C _ i q hq
      simp only [List.getElem?_map, Option.map_eq_some_iff, Prod.mk.injEq] at h1
      obtain ⟨f, hf1, hf2, hf3⟩ := h1
      subst hf2; subst hf3
      simp only [List.getElem?_toArray, List.getElem?_map, hf1, Option.map_some, g, h2, Option.getD_some]) ps ps'.toList _ _ r hp (zero_crel T') hr
    refine ⟨.agg r', ?_, .agg _ _ hcr.len hcr.one hcr.rel⟩
    simp only [Instr.build, Sem.run_bind, run_zeroValue T', Result.andThen_ok, run_underlying hu, Array.mapM_eq_mapM_toList, Sem.run_map, hm]
    rw [hf]
    rfl
  · rename_i m e hk
    rw [hk] at hkd
    rw [kd_array hkd] at hu
    obtain ⟨E, hE, k2⟩ := bindo k
    clear k
    obtain ⟨E'⟩ := hC.ty e E hE
    simp only [Option.map_eq_some_iff] at k2
    obtain ⟨r, hr, rfl⟩ := k2
    obtain ⟨r', hf, hcr⟩ := fillA_sound (place' := fun i => some (i * E.size, E.size)) (fun i q hq => hq) ps ps'.toList _ _ r hp (zero_crel T') hr
    refine ⟨.agg r', ?_, .agg _ _ hcr.len hcr.one hcr.rel⟩
    simp only [Instr.build, Sem.run_bind, run_zeroValue T', Result.andThen_ok, run_underlying hu, run_sizeOf' E']
    rw [hf]
    rfl
  · cases k

/-! ### Maps -/
theorem map_block (hR : HRel B Z H L w) {id b : Nat} {es : List (AVal × AVal × Nat)} {clock : Nat} (ho : H[id]? = some (.map es clock)) (hl : locOf L id = some (b, 0)) :
    ∃ es' : Array MapEntry, w.heap[b]? = some (.map es' clock) ∧ es'.size = es.length ∧
      ∀ (i : Nat) (k v : AVal) (n : Nat) (m : MapEntry), es[i]? = some (k, v, n) → es'[i]? = some m → plainKey k = true ∧ VRel Z H L w k m.key ∧ VRel Z H L w v m.val ∧ m.born = n := by
  obtain ⟨o, h1, h2⟩ := hR.obj id b 0 hl
  rw [ho] at h1
  cases h1
  obtain ⟨_, h⟩ := h2
  exact h

theorem mapElem_inv (hC : TabOk C) {t : TypeId} {K E : Ty} (h : mapElem C t = some (K, E)) : ∃ (k e : TypeId), C.P.underlying t = some (.map k e) ∧ Nonempty (TyR C.P k K) ∧ Nonempty (TyR C.P e E) := by
  unfold mapElem at h
  obtain ⟨T, hT, k⟩ := bindo h
  obtain ⟨T'⟩ := hC.ty t T hT
  split at k
  · rename_i q e hk
    have := T'.kd
    rw [hk] at this
    obtain ⟨K', hK, k2⟩ := bindo k
    simp only [Option.map_eq_some_iff, Prod.mk.injEq] at k2
    obtain ⟨E', hE, rfl, rfl⟩ := k2
    exact ⟨q, e, by rw [T'.und, kd_map this], hC.ty q _ hK, hC.ty e _ hE⟩
  · cases k

/-- The kind of a key that is plain. -/
theorem checkKey_plain {P : Program} {kt : TypeId} {d : TypeDesc} (hd : P.underlying kt = some d) {k : AVal} {v : Value} (hk : VRel Z H L w k v) (hp : plainKey k = true) (b : Bool)
    (hi : ∀ ms, d ≠ .interface ms) (ha : ∀ n e, d ≠ .array n e) (hs : ∀ fs, d ≠ .struct fs) : (Instr.checkKey b 10000 kt v).run P w = .ok () w := by
  show (Instr.checkKey b (9999 + 1) kt v).run P w = .ok () w
  generalize 9999 = n
  have hv : (∃ q m, v = .int q m) ∨ ∃ s, v = .string s := by
    cases k <;> simp [plainKey] at hp
    · exact .inl ⟨_, _, hk.int_inv⟩
    · obtain ⟨s, rfl, _⟩ := hk.str_inv; exact .inr ⟨s, rfl⟩
  rcases hv with ⟨q, m, rfl⟩ | ⟨s, rfl⟩ <;> cases d <;> simp [Instr.checkKey, run_underlying hd] <;> first | exact hi _ rfl | exact ha _ _ rfl | exact hs _ rfl | skip
end
end Go.Ev
/- The quiet operations, at last: look-ups, lengths, conversions. Each theorem bears its own conditions. -/
set_option linter.unusedVariables false
set_option linter.unusedSectionVars false
set_option linter.unusedSimpArgs false
namespace Go.Ev
open Go.RowKit
variable [Globs]
section
variable {Z : Nat → Nat → Prop} {H : Heap} {L : Locs} {w : World} {B : Nat} {C : Ctx}

theorem keyKd_plain {kd : Kd} {k : AVal} (h : keyKd kd k = true) : plainKey k = true := by
  unfold keyKd at h
  split at h <;> first | rfl | cases h

/-- What a kind of key is to the machine. -/
theorem keyKd_desc {d : TypeDesc} {k : AVal} (h : keyKd (kdOf d) k = true) : ((∃ q j n, d = .int q ∧ k = .int j n)) ∨ (d = .string ∧ ∃ s, k = .str s) := by
  unfold keyKd at h
  split at h
  · rename_i q j n hk; exact .inl ⟨q, j, n, kd_int hk.symm, rfl⟩
  · rename_i s hk; exact .inr ⟨kd_string hk.symm, s, rfl⟩
  · cases h

theorem findKey_sound {d : TypeDesc} {k : AVal} {k' : Value} (hk : VRel Z H L w k k') (hkd : keyKd (kdOf d) k = true) : ∀ (es : List (AVal × AVal × Nat)) (es' : List MapEntry) (i : Nat) (r : Option (Nat × AVal × Nat)),
    es'.length = es.length →
    (∀ (i : Nat) (k v : AVal) (n : Nat) (m : MapEntry), es[i]? = some (k, v, n) → es'[i]? = some m → plainKey k = true ∧ VRel Z H L w k m.key ∧ VRel Z H L w v m.val ∧ m.born = n) →
    findKey k es i = some r →
    match r with
    | none => Instr.findNow d k' es' i = some none
    | some (j, v, n) => ∃ v' m, Instr.findNow d k' es' i = some (some (j, v')) ∧ i ≤ j ∧ es'[j - i]? = some m ∧ m.val = v' ∧ m.born = n ∧ VRel Z H L w v v' ∧ m.key = k' ∧ ∃ q, es[j - i]? = some (q, v, n) ∧ keyEq k q = some true
  | [], es', i, r, hl, hr, h => by
    simp [findKey] at h
    subst h
    obtain rfl : es' = [] := by cases es' <;> simp at hl ⊢
    rfl
  | (q, v, n) :: es, [], i, r, hl, hr, h => by simp at hl
  | (q, v, n) :: es, m :: es', i, r, hl, hr, h => by
    simp only [findKey] at h
    obtain ⟨b, hb, h2⟩ := bindo h
    obtain ⟨hp, hq, hv, hn⟩ := hr 0 q v n m rfl rfl
    have hsame : Instr.sameNow d k' m.key = some b ∧ (b = true → m.key = k') := by
      rcases keyKd_desc hkd with ⟨q0, j, x, rfl, rfl⟩ | ⟨rfl, s, rfl⟩
      · cases hk.int_inv
        cases q <;> simp only [keyEq] at hb <;> first | cases hb | skip
        rename_i j2 x2
        split at hb
        · rename_i hj
          subst hj
          cases hb
          rw [hq.int_inv]
          simp [Instr.sameNow]
          rintro rfl; rfl
        · cases hb
      · obtain ⟨s', rfl, rfl⟩ := hk.str_inv
        cases q <;> simp only [keyEq] at hb <;> first | cases hb | skip
        obtain ⟨s2, h1, h3⟩ := hq.str_inv
        rw [h1]
        subst h3
        simp only [Instr.sameNow, Option.some.injEq, Value.string.injEq]
        constructor
        · rw [beq_toListBytes, toList_data, toList_data]
        · intro hh
          simp only [beq_iff_eq] at hh
          exact (ByteArray.ext (by simpa using hh)).symm
    cases b with
    | true =>
      simp only [if_true] at h2
      cases h2
      exact ⟨m.val, m, by simp only [Instr.findNow, hsame.1], Nat.le_refl i, by simp, rfl, hn, hv, hsame.2 rfl, q, by simp, hb⟩
    | false =>
      simp only [Bool.false_eq_true, if_false] at h2
      have ih := findKey_sound hk hkd es es' (i + 1) r (by simpa using hl) (fun i k v n m a b => hr (i + 1) k v n m a b) h2
      cases r with
      | none => simp only [Instr.findNow, hsame.1]; exact ih
      | some t =>
        obtain ⟨j, v2, n2⟩ := t
        obtain ⟨v', m', h3, h4, h5, h6, h7, h8, h9, q', h10, h11⟩ := ih
        refine ⟨v', m', by simp only [Instr.findNow, hsame.1]; exact h3, by omega, ?_, h6, h7, h8, h9, q', ?_, h11⟩
        · rw [show j - i = (j - (i + 1)) + 1 by omega]; simpa using h5
        · rw [show j - i = (j - (i + 1)) + 1 by omega]; simpa using h10

theorem checkKey_kd {P : Program} {kt : TypeId} {d : TypeDesc} (hd : P.underlying kt = some d) {k : AVal} {v : Value} (hk : VRel Z H L w k v) (hp : keyKd (kdOf d) k = true) (b : Bool) :
    (Instr.checkKey b 10000 kt v).run P w = .ok () w := by
  refine checkKey_plain hd hk (keyKd_plain hp) b ?_ ?_ ?_ <;> rcases keyKd_desc hp with ⟨q0, j, x, rfl, rfl⟩ | ⟨rfl, s, rfl⟩ <;> simp

theorem run_findKey {P : Program} {kt : TypeId} {d : TypeDesc} (hd : P.underlying kt = some d) {k : Value} {es : List MapEntry} {r : Option (Nat × Value)} (h : Instr.findNow d k es 0 = some r) :
    (Instr.findKey kt k es).run P w = .ok r w := by
  simp [Instr.findKey, run_underlying hd, h]

theorem run_getObj' {P : Program} {b : Nat} {es : Array MapEntry} {clock : Nat} (h : w.heap[b]? = some (.map es clock)) : (getObj b).run P w = .ok (.map es clock) w := by
  show (Sem.getObj b .pure).run P w = _
  simp only [Sem.run, h]
theorem run_getIter {P : Program} {b : Nat} {s : ByteArray} {n : Nat} (h : w.heap[b]? = some (.stringIter s n)) : (getObj b).run P w = .ok (.stringIter s n) w := by
  show (Sem.getObj b .pure).run P w = _
  simp only [Sem.run, h]

theorem lookupA_sound (hC : TabOk C) (hR : HRel B Z H L w) {t : TypeId} {m k x : AVal} {ok : Bool} {v vk : Value} (hm : VRel Z H L w m v) (hk : VRel Z H L w k vk) (h : lookupA C H t m k ok = some x) :
    ∃ u, (Instr.lookup t v vk ok).run C.P w = .ok u w ∧ VRel Z H L w x u := by
  unfold lookupA at h
  obtain ⟨⟨K, E⟩, hE, h2⟩ := bindo h
  clear h
  dsimp only at h2
  split at h2
  · cases h2
  rename_i hkd
  obtain ⟨kt, e, hu, ⟨K'⟩, ⟨E'⟩⟩ := mapElem_inv hC hE
  rw [K'.kd] at hkd
  have hkd' : keyKd (kdOf K'.d) k = true := by simpa using hkd
  obtain ⟨r, hr, h3⟩ := bindo h2
  clear h2
  have two : ∀ (b : Bool) (y : AVal) (u : Value), VRel Z H L w y u → VRel Z H L w (if ok then .tup [y, .bool b] else y) (if ok then .tuple #[u, .bool b] else u) := by
    intro b y u hy
    cases ok with
    | false => exact hy
    | true =>
      refine .tup _ _ rfl fun j z q hz hq => ?_
      match j with
      | 0 => simp at hz hq; exact hz ▸ hq ▸ hy
      | 1 => simp at hz hq; exact hz ▸ hq ▸ vbool b
      | j + 2 => simp at hz
  have fin : ∀ (es : List (AVal × AVal × Nat)) (es' : Array MapEntry) (q : Value), es'.size = es.length →
      (∀ (i : Nat) (k v : AVal) (n : Nat) (m : MapEntry), es[i]? = some (k, v, n) → es'[i]? = some m → plainKey k = true ∧ VRel Z H L w k m.key ∧ VRel Z H L w v m.val ∧ m.born = n) →
      findKey k es 0 = some r → v = q → (q = .map none ∧ es' = #[] ∨ ∃ b clock, q = .map (some b) ∧ w.heap[b]? = some (.map es' clock)) →
      ∃ u, (Instr.lookup t v vk ok).run C.P w = .ok u w ∧ VRel Z H L w x u := by
    intro es es' q hl hes hf hv hq
    subst hv
    have hfs := findKey_sound hk hkd' es es'.toList 0 r (by simpa using hl) (fun i k v n m a b => hes i k v n m a (by simpa using b)) hf
    have hck := checkKey_kd (w := w) K'.und hk hkd' es'.isEmpty
    cases r with
    | none =>
      cases h3
      refine ⟨_, ?_, two false _ _ (VRel.data _ _ (absV_rel E'.abs))⟩
      unfold Instr.lookup
      simp only [Sem.run_bind, run_underlying hu, Result.andThen_ok]
      rcases hq with ⟨rfl, rfl⟩ | ⟨b, clock, rfl, hb⟩
      · simp only [Sem.run_bind, Sem.run_pure, Result.andThen_ok, hck, run_findKey K'.und hfs, run_zeroValue E']
      · simp only [Sem.run_bind, Sem.run_pure, Result.andThen_ok, run_getObj' hb, hck, run_findKey K'.und hfs, run_zeroValue E']
    | some s =>
      obtain ⟨j, y, n⟩ := s
      cases h3
      obtain ⟨v', m', h4, _, _, _, _, h8, _⟩ := hfs
      refine ⟨_, ?_, two true _ _ h8⟩
      unfold Instr.lookup
      simp only [Sem.run_bind, run_underlying hu, Result.andThen_ok]
      rcases hq with ⟨rfl, rfl⟩ | ⟨b, clock, rfl, hb⟩
      · simp only [Sem.run_bind, Sem.run_pure, Result.andThen_ok, hck, run_findKey K'.und h4, run_zeroValue E']
      · simp only [Sem.run_bind, Sem.run_pure, Result.andThen_ok, run_getObj' hb, hck, run_findKey K'.und h4, run_zeroValue E']
  split at hr
  · cases hr
    exact fin [] #[] (.map none) rfl (by simp) rfl hm.nilm_inv (.inl ⟨rfl, rfl⟩)
  · rename_i id
    split at hr
    · rename_i es clock ho
      obtain ⟨b, es2, clock2, rfl, ho2, hl⟩ := hm.map_inv
      obtain ⟨es', hb, hs, hes⟩ := map_block hR ho hl
      exact fin es es' (.map (some b)) hs hes hr rfl (.inr ⟨b, clock, rfl, hb⟩)
    · cases hr
  · cases hr

theorem lenA_sound (hC : TabOk C) (hR : HRel B Z H L w) {t ty : TypeId} {ts : Array TypeId} {x : AVal} {n : Nat} {v : Value} (ht : ts[0]? = some t) (hx : VRel Z H L w x v) (h : lenA C H t x = some n) :
    (Builtin.len_ ts ty #[v]).run C.P w = .ok (.int .i64 n) w := by
  unfold lenA at h
  obtain ⟨T, hT, k⟩ := bindo h
  clear h
  obtain ⟨T'⟩ := hC.ty t T hT
  have hu := T'.und
  have hkd := T'.kd
  split at k
  · rename_i s hk
    cases k
    rw [hk] at hkd
    rw [kd_string hkd] at hu
    obtain ⟨s', rfl, hs⟩ := hx.str_inv
    simp [Builtin.len_, ht, run_underlying hu, goInt, str_size hs]
  · rename_i e b xs hk
    cases k
    rw [hk] at hkd
    rw [kd_slice hkd] at hu
    obtain ⟨a, m, c, rfl, rfl, _⟩ := slice_lst_inv hx
    simp [Builtin.len_, ht, run_underlying hu, goInt]
  · rename_i e id g o n hk
    cases k
    rw [hk] at hkd
    rw [kd_slice hkd] at hu
    cases hx with
    | data _ _ h => cases h
    | arr => simp [Builtin.len_, ht, run_underlying hu, goInt]
    | arrOld => simp [Builtin.len_, ht, run_underlying hu, goInt]
  · rename_i q e hk
    cases k
    rw [hk] at hkd
    rw [kd_map hkd] at hu
    cases hx.nilm_inv
    simp [Builtin.len_, ht, run_underlying hu, goInt]
  · rename_i q e id hk
    rw [hk] at hkd
    rw [kd_map hkd] at hu
    split at k
    · rename_i es clock ho
      cases k
      obtain ⟨b, es2, clock2, rfl, ho2, hl⟩ := hx.map_inv
      obtain ⟨es', hb, hs, _⟩ := map_block hR ho hl
      simp [Builtin.len_, ht, run_underlying hu, goInt, run_getObj' hb, hs]
    · cases k
  · cases k

theorem maxA_fold {P : Program} (k : IntKind) : ∀ (l : List AVal) (l' : List Value) (a r : Int), l.length = l'.length → (∀ (j : Nat) y u, l[j]? = some y → l'[j]? = some u → SRel Z H L w y u) →
    l.foldlM (fun (a : Int) (x : AVal) => match x with | .int k' b => if k = k' then some (if b > a then b else a) else none | _ => none) a = some r →
    (l'.foldlM Builtin.max2 (.int k a)).run P w = .ok (.int k r) w
  | [], l', a, r, hl, hr, h => by
    obtain rfl : l' = [] := by cases l' <;> simp at hl ⊢
    simp at h
    subst h
    simp
  | y :: l, [], a, r, hl, hr, h => by simp at hl
  | y :: l, u :: l', a, r, hl, hr, h => by
    simp only [List.foldlM_cons, Option.bind_eq_bind] at h
    obtain ⟨c, hc, h2⟩ := bindo h
    split at hc
    · rename_i k' b
      split at hc
      · rename_i hk
        subst hk
        cases hc
        have := (hr 0 _ u rfl rfl).resolve_left (by simp)
        cases this.int_inv
        simp only [List.foldlM_cons, Sem.run_bind, Builtin.max2, Sem.run_pure, Result.andThen_ok]
        exact maxA_fold k l l' _ r (by simpa using hl) (fun j y u a b => hr (j + 1) y u a b) h2
      · cases hc
    · cases hc
theorem minA_fold {P : Program} (k : IntKind) : ∀ (l : List AVal) (l' : List Value) (a r : Int), l.length = l'.length → (∀ (j : Nat) y u, l[j]? = some y → l'[j]? = some u → SRel Z H L w y u) →
    l.foldlM (fun (a : Int) (x : AVal) => match x with | .int k' b => if k = k' then some (if b < a then b else a) else none | _ => none) a = some r →
    (l'.foldlM Builtin.min2 (.int k a)).run P w = .ok (.int k r) w
  | [], l', a, r, hl, hr, h => by
    obtain rfl : l' = [] := by cases l' <;> simp at hl ⊢
    simp at h
    subst h
    simp
  | y :: l, [], a, r, hl, hr, h => by simp at hl
  | y :: l, u :: l', a, r, hl, hr, h => by
    simp only [List.foldlM_cons, Option.bind_eq_bind] at h
    obtain ⟨c, hc, h2⟩ := bindo h
    split at hc
    · rename_i k' b
      split at hc
      · rename_i hk
        subst hk
        cases hc
        have := (hr 0 _ u rfl rfl).resolve_left (by simp)
        cases this.int_inv
        simp only [List.foldlM_cons, Sem.run_bind, Builtin.min2, Sem.run_pure, Result.andThen_ok]
        exact minA_fold k l l' _ r (by simpa using hl) (fun j y u a b => hr (j + 1) y u a b) h2
      · cases hc
    · cases hc

theorem maxA_sound {P : Program} {l : List AVal} {l' : Array Value} {x : AVal} {ts : Array TypeId} {ty : TypeId} (hl : l.length = l'.size) (hr : ∀ (j : Nat) y u, l[j]? = some y → l'[j]? = some u → SRel Z H L w y u) (h : maxA l = some x) :
    ∃ u, (Builtin.max_ ts ty l').run P w = .ok u w ∧ VRel Z H L w x u := by
  unfold maxA at h
  split at h
  · rename_i k a r
    simp only [Option.map_eq_some_iff] at h
    obtain ⟨n, hn, rfl⟩ := h
    unfold Builtin.max_
    obtain ⟨l'⟩ := l'
    cases l' with
    | nil => simp at hl
    | cons u l' =>
      have := (hr 0 _ u rfl rfl).resolve_left (by simp)
      cases this.int_inv
      exact ⟨_, maxA_fold k r l' a n (by simpa using hl) (fun j y u a b => hr (j + 1) y u (by simpa using a) (by simpa using b)) hn, vint _ _⟩
  · cases h
theorem minA_sound {P : Program} {l : List AVal} {l' : Array Value} {x : AVal} {ts : Array TypeId} {ty : TypeId} (hl : l.length = l'.size) (hr : ∀ (j : Nat) y u, l[j]? = some y → l'[j]? = some u → SRel Z H L w y u) (h : minA l = some x) :
    ∃ u, (Builtin.min_ ts ty l').run P w = .ok u w ∧ VRel Z H L w x u := by
  unfold minA at h
  split at h
  · rename_i k a r
    simp only [Option.map_eq_some_iff] at h
    obtain ⟨n, hn, rfl⟩ := h
    unfold Builtin.min_
    obtain ⟨l'⟩ := l'
    cases l' with
    | nil => simp at hl
    | cons u l' =>
      have := (hr 0 _ u rfl rfl).resolve_left (by simp)
      cases this.int_inv
      exact ⟨_, minA_fold k r l' a n (by simpa using hl) (fun j y u a b => hr (j + 1) y u (by simpa using a) (by simpa using b)) hn, vint _ _⟩
  · cases h

theorem unA_sound {P : Program} {op : UnOp} {x y : AVal} {v : Value} (hx : SRel Z H L w x v) (h : unA op x = some y) : ∃ u, (Op.unary op v).run P w = .ok u w ∧ VRel Z H L w y u := by
  unfold unA at h
  split at h
  · cases h
    cases (hx.resolve_left (by simp)).bool_inv
    exact ⟨_, rfl, vbool _⟩
  · cases h
    cases (hx.resolve_left (by simp)).int_inv
    exact ⟨_, by simp [Op.unary, Op.intArith], vint _ _⟩
  · cases h
end
end Go.Ev
/- Conversions, and all the quiet operations together. Each theorem bears its own conditions. -/
set_option linter.unusedVariables false
set_option linter.unusedSectionVars false
set_option linter.unusedSimpArgs false
namespace Go.Ev
open Go.RowKit
variable [Globs]
section
variable {Z : Nat → Nat → Prop} {H : Heap} {L : Locs} {w : World} {B : Nat} {C : Ctx}

/-- The elements of a slice, where they lie. -/
theorem elems_sound (hR : HRel B Z H L w) {v : AVal} {xs : List AVal} {u : Value} (hv : VRel Z H L w v u) (h : elems H v = some xs) :
    (u = .slice none 0 0 ∧ xs = []) ∨ ∃ (b o cap sz : Nat), u = .slice (some ⟨b, o, none⟩) xs.length cap ∧ xs.length ≤ cap ∧ (∀ (i : Nat) (x : AVal), xs[i]? = some x → x.cells.length = sz) ∧
      (∀ (i : Nat) (x : AVal), xs[i]? = some x → LieAt Z H L w x.cells b (o + i * sz)) := by
  unfold elems at h
  split at h
  · rename_i b xs'
    cases h
    cases hv with
    | data _ _ h =>
      cases h with
      | nils => exact .inl ⟨rfl, rfl⟩
      | lst _ a len cap sz c hs hl hc hz hw hr =>
        subst hl
        refine .inr ⟨a.block, a.off, cap, sz, by rw [← addr_eta hs], hc, hz, fun i x hi j y hj => ⟨c i j, ?_, (hw i x hi j y hj).2.2, .data _ _ (hr i x hi j y hj)⟩⟩
        have := (hw i x hi j y hj).1
        rwa [← Nat.add_assoc] at this
  · rename_i id gen off len
    split at h
    · rename_i e g ro sz xs' ho
      split at h
      · rename_i hc
        simp only [Bool.and_eq_true, beq_iff_eq, decide_eq_true_eq] at hc
        obtain ⟨hg, hlen⟩ := hc
        subst hg
        cases h
        cases hv with
        | data _ _ hd => cases hd
        | arr _ _ _ _ b base cap e2 ro2 sz2 xs2 cs' e' fz ho2 hl hx hcap hb hs =>
          rw [ho] at ho2
          cases ho2
          have hlen' : ((xs'.drop off).take len).length = len := by simp; omega
          have hsz : ∀ (i : Nat) (x : AVal), xs'[i]? = some x → x.cells.length = sz := by
            obtain ⟨o2, h1, h2⟩ := hR.obj id b base hl
            rw [ho] at h1
            cases h1
            obtain ⟨_, c2, f2, _, _, h3, _⟩ := h2
            exact fun i x hi => (h3 i x hi).1
          refine .inr ⟨b, base + off * sz, cap, sz, by rw [hlen'], by omega, fun i x hi => ?_, fun i x hi => ?_⟩
          · rw [List.getElem?_take] at hi
            split at hi
            · rw [List.getElem?_drop] at hi; exact hsz _ _ hi
            · cases hi
          · rw [List.getElem?_take] at hi
            split at hi
            · rw [List.getElem?_drop] at hi
              have := lie_elem hR ho hl hi
              rwa [Nat.add_mul, ← Nat.add_assoc] at this
            · cases hi
        | arrOld _ _ _ _ a c hs hc e2 g2 ro2 sz2 xs2 ho2 hg2 =>
          rw [ho] at ho2
          cases ho2
          omega
      · cases h
    · cases h
  · cases h

theorem valByte_inv {x : AVal} {b : UInt8} (h : valByte x = some b) : x = byteVal b := by
  unfold valByte at h
  split at h
  · rename_i n
    split at h
    · rename_i hc
      simp only [Bool.and_eq_true, decide_eq_true_eq] at hc
      cases h
      simp only [byteVal, AVal.int.injEq, true_and]
      simp [UInt8.toNat_ofNat']
      omega
    · cases h
  · cases h
theorem bytesOf_inv : ∀ {xs : List AVal} {s : List UInt8}, bytesOf xs = some s → xs = s.map byteVal
  | [], s, h => by simp [bytesOf] at h; subst h; rfl
  | x :: xs, s, h => by
    simp only [bytesOf] at h
    obtain ⟨b, hb, h2⟩ := bindo h
    simp only [Option.map_eq_some_iff] at h2
    obtain ⟨s', hs', rfl⟩ := h2
    rw [valByte_inv hb, bytesOf_inv hs']
    rfl

/-- Bytes that lie one behind the other. -/
theorem lie_bytes {s : List UInt8} {b o sz : Nat} (hsz : ∀ (i : Nat) (x : AVal), (s.map byteVal)[i]? = some x → x.cells.length = sz)
    (h : ∀ (i : Nat) (x : AVal), (s.map byteVal)[i]? = some x → LieAt Z H L w x.cells b (o + i * sz)) :
    ∀ j c, s[j]? = some c → w.cell? ⟨b, o + j, none⟩ = some (.int .u8 c.toNat) := by
  intro j c hj
  have hj' : (s.map byteVal)[j]? = some (byteVal c) := by simp [hj]
  have h1 : 1 = sz := hsz j _ hj'
  subst h1
  obtain ⟨u, h2, _, h3⟩ := h j _ hj' 0 (byteVal c) rfl
  rw [h3.int_inv] at h2
  simpa using h2

theorem foldl_push : ∀ (l : List UInt8) (r : ByteArray), (l.foldl (fun (r : ByteArray) (c : UInt8) => r.push (UInt8.ofNat ((c.toNat : Int)).toNat)) r).data.toList = r.data.toList ++ l
  | [], r => by simp
  | c :: l, r => by
    rw [List.foldl_cons, foldl_push l]
    simp

theorem bytesToString_sound (hR : HRel B Z H L w) {P : Program} {v : AVal} {xs : List AVal} {s : List UInt8} {u : Value} (hv : VRel Z H L w v u) (he : elems H v = some xs) (hb : bytesOf xs = some s) :
    ∃ t, (Conv.bytesToString u).run P w = .ok (.string t) w ∧ t.data.toList = s := by
  have hx := bytesOf_inv hb
  subst hx
  rcases elems_sound hR hv he with ⟨rfl, hn⟩ | ⟨b, o, cap, sz, rfl, hc, hz, hl⟩
  · obtain rfl : s = [] := by simpa using hn
    exact ⟨.empty, by simp [Conv.bytesToString], rfl⟩
  · have h1 := lie_bytes hz hl
    have h2 := run_loadCells_list (P := P) w ⟨b, o, none⟩ ((s.map fun c => (c.toNat : Int)).map (Value.int .u8)) (fun j v hj => by
      simp only [List.getElem?_map, Option.map_eq_some_iff] at hj
      obtain ⟨n, ⟨c, hc, rfl⟩, rfl⟩ := hj
      rw [addr_add]
      exact h1 j c hc)
    simp only [List.length_map] at h2
    refine ⟨_, by rw [show (s.map byteVal).length = s.length by simp]; exact run_bytesToString w ⟨b, o, none⟩ s.length cap _ h2, ?_⟩
    rw [List.foldl_map, foldl_push]
    simp

theorem kd_unsafe {d : TypeDesc} (h : Kd.unsafePointer = kdOf d) : d = .unsafePointer := by cases d <;> simp [kdOf] at h; rfl

theorem sameLayout_self {P : Program} (d : Nat) (t : TypeId) : Go.sameLayout P (d + 1) t t = true := by simp [Go.sameLayout]
theorem rowAt_self {P : Program} {fits : TypeId → Bool} {t : TypeId} (d n : Nat) (hs : P.cellsOf t ≠ 0) (hf : fits t = true) (h1 : 1 ≤ n) : Go.rowAt P fits (d + 1) t n 0 1 = true := by
  simp only [Go.rowAt]
  rw [if_neg hs]
  simp [hf]
  omega
theorem liesAt_self {P : Program} {t : TypeId} (n : Nat) (hs : P.cellsOf t ≠ 0) (hn : P.cellsOf t ≤ n) : Go.liesAt P P.depth t (n / P.cellsOf t) 0 t 1 = true := by
  have h1 : 1 ≤ n / P.cellsOf t := (Nat.le_div_iff_mul_le (by omega)).2 (by omega)
  obtain ⟨d, hd⟩ : ∃ d, P.depth = d + 1 := ⟨P.depth - 1, by unfold Program.depth; omega⟩
  rw [hd]
  simp only [Go.liesAt, Bool.or_eq_true]
  left
  rw [hd]
  exact rowAt_self d _ hs (sameLayout_self _ t) h1

theorem TyR.cellsOf {P : Program} {t : TypeId} {T : Ty} (h : TyR P t T) : P.cellsOf t = T.size := by simp [Program.cellsOf, h.info, h.size]

theorem convertA_sound (hC : TabOk C) (hR : HRel B Z H L w) {src dst : TypeId} {x y : AVal} {H' : Heap} {v : Value} (hx : VRel Z H L w x v) (h : convertA C H src dst x = some (y, H')) :
    ∃ u, (convert src dst v).run C.P w = .ok u w ∧ VRel Z H L w y u := by
  unfold convertA at h
  obtain ⟨S, hS, h2⟩ := bindo h
  clear h
  obtain ⟨D, hD, h3⟩ := bindo h2
  clear h2
  obtain ⟨S'⟩ := hC.ty src S hS
  obtain ⟨D'⟩ := hC.ty dst D hD
  have hs := S'.und
  have hd := D'.und
  have hks := S'.kd
  have hkd := D'.kd
  split at h3
  · rename_i k k' n hk
    cases h3
    rw [hk] at hkd
    rw [kd_int hkd] at hd
    cases hx.int_inv
    exact ⟨_, by simp [convert, run_underlying hs, run_underlying hd, Conv.intToInt], vint _ _⟩
  · rename_i k n hk
    cases h3
    rw [hk] at hkd
    rw [kd_string hkd] at hd
    cases hx.int_inv
    refine ⟨_, by simp [convert, run_underlying hs, run_underlying hd, Conv.intToString], vstr _ rfl⟩
  · rename_i s hk
    cases h3
    rw [hk] at hkd
    rw [kd_string hkd] at hd
    obtain ⟨s', rfl, h4⟩ := hx.str_inv
    exact ⟨_, by simp [convert, run_underlying hs, run_underlying hd], vstr _ h4⟩
  · rename_i id off hk
    rw [hk] at hkd
    rw [kd_unsafe hkd] at hd
    split at h3
    · rename_i e hke
      rw [hke] at hks
      rw [kd_pointer hks] at hs
      obtain ⟨E, hE, h4⟩ := bindo h3
      clear h3
      obtain ⟨E'⟩ := hC.ty e E hE
      split at h4
      · cases h4
      rename_i hz
      split at h4
      · rename_i t ro cs ho
        split at h4
        · rename_i hlt
          cases h4
          obtain ⟨b, t2, ro2, cs2, rfl, ho2, hl⟩ := hx.ptr_inv
          obtain ⟨u, hu, _, _⟩ := lie_cells hR ho hl off _ (List.getElem?_eq_getElem hlt)
          rw [Nat.zero_add] at hu
          refine ⟨_, run_convert_to_unsafe hs hd ?_ hu, .ptr _ _ _ _ _ _ ho2 hl⟩
          rw [E'.info]
          simp only [Option.map_some, ← E'.size]
          simpa using hz
        · cases h4
      · cases h4
    · cases h3
  · rename_i e id hk
    rw [hk] at hkd
    rw [kd_pointer hkd] at hd
    split at h3
    · rename_i hke
      rw [hke] at hks
      rw [kd_unsafe hks] at hs
      obtain ⟨E, hE, h4⟩ := bindo h3
      clear h3
      obtain ⟨E'⟩ := hC.ty e E hE
      split at h4
      · rename_i t ro cs ho
        split at h4
        · rename_i hc
          simp only [Bool.and_eq_true, beq_iff_eq, decide_eq_true_eq, bne_iff_ne] at hc
          obtain ⟨⟨rfl, hle⟩, hz⟩ := hc
          cases h4
          obtain ⟨b, t2, ro2, cs2, rfl, ho2, hl⟩ := hx.ptr_inv
          obtain ⟨cs', hb, hsz⟩ := cells_block hR ho hl
          have hsh : w.shape? b = some (t, cs'.size) := by simp [World.shape?, hb]
          have hli := liesAt_self (P := C.P) (t := t) cs'.size (by rw [E'.cellsOf]; exact hz) (by rw [E'.cellsOf]; omega)
          refine ⟨.pointer (some ⟨b, 0, none⟩), ?_, .ptr _ _ _ _ _ _ ho2 hl⟩
          simp [convert, Conv.unsafePointer, Conv.seenAt, viewAt, run_underlying hs, run_underlying hd, run_sizeOf' E', hz, hsh, variablesAt, hli]
        · cases h4
      · cases h4
    · cases h3
  · rename_i hk hn1 hn2
    rw [hk] at hkd
    rw [kd_string hkd] at hd
    split at h3
    · rename_i e hke
      rw [hke] at hks
      rw [kd_slice hks] at hs
      obtain ⟨E, hE, h4⟩ := bindo h3
      clear h3
      obtain ⟨E'⟩ := hC.ty e E hE
      split at h4
      · rename_i hke2
        have he := E'.und
        have hk2 := E'.kd
        rw [hke2] at hk2
        rw [kd_int hk2] at he
        obtain ⟨xs, hxs, h5⟩ := bindo h4
        simp only [Option.map_eq_some_iff, Prod.mk.injEq] at h5
        obtain ⟨s, hs5, rfl, rfl⟩ := h5
        obtain ⟨t, h6, h7⟩ := bytesToString_sound hR (P := C.P) hx hxs hs5
        have hsl : ∃ a l c, v = .slice a l c := by
          rcases elems_sound hR hx hxs with ⟨rfl, _⟩ | ⟨b, o, cap, sz, rfl, _⟩ <;> exact ⟨_, _, _, rfl⟩
        obtain ⟨a, l, c, rfl⟩ := hsl
        exact ⟨.string t, by rw [run_convert_bytes_string w src dst e a l c hs he hd]; exact h6, vstr t h7⟩
      · cases h4
    · cases h3
  · cases h3
end
end Go.Ev
