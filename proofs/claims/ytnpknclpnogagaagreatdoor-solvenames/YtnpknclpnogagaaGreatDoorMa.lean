/- THE ABSTRACT MACHINE AND WHY IT IS RIGHT, part a. Nothing is assumed. -/
import GoSem.Claims
import Derived.CallsIn
import Derived.Below
import Derived.WalkKit
import Derived.Great.FillDense
import Derived.Great.BuildSlice
import Derived.ChangeKeysEq
set_option linter.unusedSimpArgs false
set_option linter.unusedVariables false
/- The abstract machine: values, memory and a deterministic evaluator of the model's Code. Definitions alone. -/
noncomputable section
namespace Go.Ax

/-- A map from numbers, as a tree by the number's binary digits. -/
inductive Tr (α : Type) where
  | e
  | n (l : Tr α) (v : Option α) (r : Tr α)

def Tr.get {α : Type} (t : Tr α) : Nat → Option α :=
  Tr.rec (motive := fun _ => Nat → Option α) (fun _ => none)
    (fun _ v _ ihl ihr i => Nat.rec (motive := fun _ => Option α) v (fun j _ => Nat.rec (motive := fun _ => Option α) (ihl (Nat.div j 2)) (fun _ _ => ihr (Nat.div j 2)) (Nat.mod j 2)) i) t
def Tr.sing {α : Type} (f : Nat) (x : α) : Nat → Tr α :=
  Nat.rec (motive := fun _ => Nat → Tr α) (fun _ => .e)
    (fun _ ih i => Nat.rec (motive := fun _ => Tr α) (.n .e (some x) .e) (fun j _ => Nat.rec (motive := fun _ => Tr α) (.n (ih (Nat.div j 2)) none .e) (fun _ _ => .n .e none (ih (Nat.div j 2))) (Nat.mod j 2)) i) f
def Tr.set {α : Type} (t : Tr α) (i : Nat) (x : α) : Tr α :=
  Tr.rec (motive := fun _ => Nat → Tr α) (fun i => Tr.sing (Nat.succ i) x i)
    (fun l v r ihl ihr i => Nat.rec (motive := fun _ => Tr α) (.n l (some x) r) (fun j _ => Nat.rec (motive := fun _ => Tr α) (.n (ihl (Nat.div j 2)) v r) (fun _ _ => .n l v (ihr (Nat.div j 2))) (Nat.mod j 2)) i) t i

/-- Values: what is undefined stands for whatever the machine has. -/
inductive AV where
  | undef
  | bool (b : Bool)
  | int (k : IntKind) (n : Int)
  | str (s : List Nat)
  | nilptr
  | ptr (r o : Nat)
  | nilsl
  | sl (r o len cap es : Nat) (x : Bool)
  | isl (xs : List (List AV))
  | iptr (xs : List (List AV)) (i o : Nat)
  | nilmap
  | map (r : Nat)
  | fn (f : Fn) (first cap : List AV)
  | nilfn
  | iface (t : TypeId) (v : AV)
  | nilif
  | agg (cs : List AV)
  | tup (vs : List AV)
  | typ (t : TypeId)
  | raw (v : Value)
  deriving Inhabited

def isFlt : Value → Bool
  | .float _ _ => true
  | .complex _ _ _ => true
  | .slice _ _ _ => true
  | _ => false

inductive ADef where
  | fn (f : Fn) (cap args : List AV)
  | coll (r : Nat)
  | clr (t : TypeId) (x : AV)

inductive AObj where
  | cells (elem : TypeId) (cs : List AV)
  | map (es : List (AV × AV × Nat)) (clock : Nat)
  | siter (s : List Nat) (pos : Nat)
  | miter (r since : Nat) (seen : List Nat) (last : Nat)
  | loop (st : LoopState) (pending : Option Code) (tmps : Tr AV) (n : Nat) (params : List Nat) (assign body : Code) (defers : Nat)
  | defd (ds : Option (List ADef))
  | dead

structure Hp where
  nx : Nat
  m : Tr AObj
  lo : Nat

def Hp.get (h : Hp) (r : Nat) : Option AObj := h.m.get r
def Hp.put (h : Hp) (r : Nat) (o : AObj) : Hp := { nx := h.nx, m := h.m.set r o, lo := bif Nat.ble h.lo r then h.lo else r }
def Hp.new (h : Hp) (o : AObj) : Hp := { nx := Nat.succ h.nx, m := h.m.set h.nx o, lo := h.lo }

/-- What is known of a type. -/
structure TI where
  desc : TypeDesc
  size : Nat
  isAgg : Bool
  zero : List AV
  zeroOk : Bool
  bytes : Nat
  comparable : Bool
  zv : AV

mutual
def ofV : Value → AV
  | .bool b => .bool b
  | .int k n => .int k n
  | .string s => .str (s.data.toList.map UInt8.toNat)
  | .pointer none => .nilptr
  | .slice none 0 0 => .nilsl
  | .map none => .nilmap
  | .nilFunc => .nilfn
  | .nilIface => .nilif
  | .iface t v => .iface t (ofV v)
  | .agg ⟨l⟩ => .agg (ofVs l)
  | .tuple ⟨l⟩ => .tup (ofVs l)
  | .func (.func f) ⟨[]⟩ ⟨[]⟩ => .fn (.func f) [] []
  | .float k b => .raw (.float k b)
  | .complex k a b => .raw (.complex k a b)
  | _ => .undef
def ofVs : List Value → List AV
  | [] => []
  | v :: l => ofV v :: ofVs l
end

def descAgg : TypeDesc → Bool
  | .struct _ => true
  | .array _ _ => true
  | _ => false

def mkTI (P : Program) (t : TypeId) : Option TI :=
  match P.info? t, P.underlying t with
  | some i, some d =>
    let z : List AV := match i.zero with | some v => (match ofV v with | .agg l => l | x => [x]) | none => []
    some { desc := d, size := i.size, isAgg := descAgg d, zero := z, zeroOk := i.zero.isSome && z.length == i.size, bytes := i.bytes, comparable := i.comparable, zv := match i.zero with | some v => ofV v | none => .undef }
  | _, _ => none

/-- The program's tables, as trees. -/
structure Knob where
  eqT : Nat → Bool
  orc : FuncId → List AV → Option AV
  ext : FuncId → List AV → Option AV
  prim : FuncId → List AV → Hp → Option (AV × Hp)
structure Ctx where
  ty : Tr (Option TI)
  fn : Tr Func
  gl : Nat → AV
  eqT : Nat → Bool
  orc : FuncId → List AV → Option AV
  ext : FuncId → List AV → Option AV
  prim : FuncId → List AV → Hp → Option (AV × Hp)

def trOf {α : Type} (f : Nat → Option α) : Nat → Tr α → Tr α
  | 0, t => t
  | k + 1, t => match f k with | some x => trOf f k (t.set k x) | none => trOf f k t

def Ctx.of (P : Program) (gl : Nat → AV) (eqT : Knob) : Ctx :=
  { ty := trOf (fun t => some (mkTI P t)) P.types.size .e, fn := trOf (fun f => P.funcs[f]?) P.funcs.size .e, gl := gl, eqT := eqT.eqT, orc := eqT.orc, ext := eqT.ext, prim := eqT.prim }

def Ctx.ti (C : Ctx) (t : TypeId) : Option TI := match C.ty.get t with | some (some x) => some x | _ => none

/-- The state of a function under way. -/
structure St where
  n : Nat
  tm : Tr AV
  h : Hp
  ds : List ADef
  rd : Option Nat

def tget (tm : Tr AV) (t : Nat) : AV := match tm.get t with | some v => v | none => .tup []
def St.ev (s : St) (C : Ctx) : Operand → AV
  | .tmp t => tget s.tm t
  | .const v => ofV v
  | .global g => C.gl g
  | .func f => .fn (.func f) [] []

/-- Memory and one answer. -/
abbrev R (α : Type) := Option (α × Hp)

def cellsOf : AV → Option (List AV)
  | .undef => none
  | .agg l => some l
  | .tup _ => none
  | v => some [v]
def isCell : AV → Bool
  | .undef => false
  | .agg _ => false
  | .tup _ => false
  | _ => true

/-- So many cells of some, from one on. -/
def sub (cs : List AV) (o k : Nat) : Option (List AV) :=
  bif Nat.ble (Nat.add o k) cs.length then some ((cs.drop o).take k) else none

def partOf (ti : TI) (cs : List AV) (o : Nat) : Option AV :=
  match ti.isAgg with
  | true => (match sub cs o ti.size with | some l => some (.agg l) | none => none)
  | false => cs[o]?

def loadAt (C : Ctx) (t : TypeId) (p : AV) (h : Hp) : Option AV :=
  match C.ti t with
  | none => none
  | some ti => match p with
    | .ptr r o => (match h.get r with | some (.cells _ cs) => partOf ti cs o | _ => none)
    | .iptr xs i o => (match xs[i]? with | some cs => partOf ti cs o | none => none)
    | _ => none

def putCells (cs : List AV) (o : Nat) (vs : List AV) : List AV := cs.take o ++ (vs ++ cs.drop (Nat.add o vs.length))

def storeAt (C : Ctx) (t : TypeId) (p v : AV) (h : Hp) : Option Hp :=
  match C.ti t, cellsOf v, p with
  | some ti, some vs, .ptr r o =>
    (match h.get r with
     | some (.cells e cs) =>
       bif Nat.beq vs.length ti.size && (Nat.ble (Nat.add o vs.length) cs.length && vs.all isCell) then some (h.put r (.cells e (putCells cs o vs))) else none
     | _ => none)
  | _, _, _ => none

def zeroCells (k : Nat) (z : List AV) : List AV := Nat.rec (motive := fun _ => List AV) [] (fun _ ih => z ++ ih) k

def alloc (C : Ctx) (t : TypeId) (h : Hp) : R AV :=
  match C.ti t with
  | some ti => bif ti.zeroOk then some (.ptr h.nx 0, h.new (.cells t ti.zero)) else none
  | none => none

def box (t : TypeId) (v : AV) (h : Hp) : R AV :=
  match cellsOf v with
  | some cs => some (.ptr h.nx 0, h.new (.cells t cs))
  | none => none

def fillA (place : Nat → Option (Nat × Nat)) (cells : List AV) : List (Nat × AV) → Option (List AV)
  | [] => some cells
  | (i, v) :: rest =>
    match place i, cellsOf v with
    | some (o, k), some vs => bif Nat.beq vs.length k && Nat.ble (Nat.add o vs.length) cells.length then fillA place (putCells cells o vs) rest else none
    | _, _ => none

def build (C : Ctx) (t : TypeId) (parts : List (Nat × AV)) : Option AV :=
  match C.ti t with
  | none => none
  | some ti => bif ti.zeroOk then
      (match ti.desc with
      | .struct fs => bif fs.toList.all (fun f => (C.ti f.type).isSome) then (match fillA (fun i => match fs.toList[i]? with | some f => (match C.ti f.type with | some x => some (f.offset, x.size) | none => none) | none => none) ti.zero parts with | some l => some (.agg l) | none => none) else none
      | .array _ e => (match C.ti e with
        | some x => (match fillA (fun i => some (Nat.mul i x.size, x.size)) ti.zero parts with | some l => some (.agg l) | none => none)
        | none => none)
      | _ => none) else none

def buildSlice (C : Ctx) (t : TypeId) (len : Nat) (parts : List (Nat × AV)) (h : Hp) : R AV :=
  match C.ti t with
  | some { desc := .slice e, .. } => (match C.ti e with
    | some x => bif x.zeroOk && Nat.ble (Nat.mul len x.size) 1000000 then
        (match fillA (fun i => some (Nat.mul i x.size, x.size)) (zeroCells len x.zero) parts with
         | some l => some (.sl h.nx 0 len len x.size true, h.new (.cells e l))
         | none => none) else none
    | none => none)
  | _ => none

def fieldAt (C : Ctx) (t : TypeId) (p : AV) (k : Nat) : Option AV :=
  match C.ti t with
  | some { desc := .struct fs, .. } => (match fs.toList[k]? with
    | some f => (match C.ti f.type with
      | some x => bif Nat.beq x.size 0 then none else
        (match p with
         | .ptr r o => some (.ptr r (Nat.add o f.offset))
         | .iptr xs i o => some (.iptr xs i (Nat.add o f.offset))
         | _ => none)
      | none => none)
    | none => none)
  | _ => none

def fieldOf (C : Ctx) (t : TypeId) (v : AV) (k : Nat) : Option AV :=
  match C.ti t with
  | some { desc := .struct fs, .. } => (match fs.toList[k]?, v with
    | some f, .agg cs => (match C.ti f.type with | some x => partOf x cs f.offset | none => none)
    | _, _ => none)
  | _ => none

def natOf : AV → Option Nat
  | .int _ (.ofNat n) => some n
  | _ => none

def indexAt (C : Ctx) (t : TypeId) (x ix : AV) : Option AV :=
  match C.ti t, natOf ix with
  | some ti, some i => (match ti.desc, x with
    | .array len e, .ptr r o => (match C.ti e with | some y => bif Nat.blt i len then some (.ptr r (Nat.add o (Nat.mul i y.size))) else none | none => none)
    | .array len e, .iptr xs j o => (match C.ti e with | some y => bif Nat.blt i len then some (.iptr xs j (Nat.add o (Nat.mul i y.size))) else none | none => none)
    | .slice e, .sl r o len _ es _ => (match C.ti e with | some y => bif Nat.blt i len && Nat.beq y.size es then some (.ptr r (Nat.add o (Nat.mul i es))) else none | none => none)
    | .slice e, .isl xs => (match C.ti e, xs[i]? with | some y, some ch => bif Nat.beq y.size ch.length then some (.iptr xs i 0) else none | _, _ => none)
    | _, _ => none)
  | _, _ => none

def indexOf (C : Ctx) (t : TypeId) (x ix : AV) : Option AV :=
  match C.ti t, natOf ix with
  | some ti, some i => (match ti.desc, x with
    | .array len e, .agg cs => (match C.ti e with | some y => bif Nat.blt i len then partOf y cs (Nat.mul i y.size) else none | none => none)
    | .string, .str s => (match s[i]? with | some b => some (.int .u8 (.ofNat b)) | none => none)
    | _, _ => none)
  | _, _ => none

def natOr (d : Nat) : Option AV → Option Nat
  | none => some d
  | some v => natOf v

def sliceOf (C : Ctx) (t : TypeId) (x : AV) (lo hi mx : Option AV) (h : Hp) : Option AV :=
  match C.ti t with
  | none => none
  | some ti => match ti.desc, x with
    | .string, .str s =>
      (match natOr 0 lo, natOr s.length hi, mx with
       | some l, some u, none => bif Nat.ble l u && Nat.ble u s.length then some (.str ((s.drop l).take (Nat.sub u l))) else none
       | _, _, _ => none)
    | .slice e, .sl r o len cap es x =>
      (match C.ti e, natOr 0 lo, natOr len hi, natOr cap mx with
       | some y, some l, some u, some m =>
         bif Nat.ble l u && (Nat.ble u m && (Nat.ble m cap && Nat.beq y.size es)) then
           bif mx.isSome then bif hi.isSome then some (.sl r (bif Nat.beq m l then o else Nat.add o (Nat.mul l es)) (Nat.sub u l) (Nat.sub m l) es true) else none
           else bif Nat.beq l 0 then some (.sl r o u cap es x)
           else bif Nat.blt l cap then some (.sl r (Nat.add o (Nat.mul l es)) (Nat.sub u l) (Nat.sub cap l) es x)
           else some (.isl [])
         else none
       | _, _, _, _ => none)
    | .slice e, .isl xs =>
      (match C.ti e, natOr 0 lo, natOr xs.length hi, mx with
       | some y, some l, some u, none =>
         bif Nat.ble l u && (Nat.ble u xs.length && xs.all (fun c => Nat.beq c.length y.size)) then some (.isl ((xs.drop l).take (Nat.sub u l))) else none
       | _, _, _, _ => none)
    | .slice e, .nilsl =>
      (match natOr 0 lo, natOr 0 hi, natOr 0 mx with
       | some 0, some 0, some 0 => (match C.ti e with | some _ => bif mx.isSome && !hi.isSome then none else some .nilsl | none => none)
       | _, _, _ => none)
    | .array k e, .ptr r o =>
      (match C.ti e, natOr 0 lo, natOr k hi, mx, h.get r with
       | some y, some l, some u, none, some (.cells _ cs) =>
         bif Nat.ble l u && (Nat.ble u k && Nat.ble (Nat.add o (Nat.mul k y.size)) cs.length) then
           some (.sl r (bif Nat.beq k l then o else Nat.add o (Nat.mul l y.size)) (Nat.sub u l) (Nat.sub k l) y.size true) else none
       | _, _, _, _, _ => none)
    | _, _ => none

def makeSlice (C : Ctx) (t : TypeId) (len cap : AV) (h : Hp) : R AV :=
  match C.ti t with
  | some { desc := .slice e, .. } => (match C.ti e, natOf len, natOf cap with
    | some x, some l, some c =>
      bif x.zeroOk && (Nat.ble l c && (Nat.ble c 1000000 && Nat.ble x.bytes 1000000)) then some (.sl h.nx 0 l c x.size true, h.new (.cells e (zeroCells c x.zero))) else none
    | _, _, _ => none)
  | _ => none

/-- Sums that stay in their kind. -/
def wrapF (k : IntKind) (n : Int) : Int :=
  match k, n with
  | .i64, .ofNat m => bif Nat.ble m 9223372036854775807 then n else k.wrap n
  | .u8, .ofNat m => .ofNat (Nat.mod m 256)
  | .u64, .ofNat m => .ofNat (Nat.mod m 18446744073709551616)
  | _, _ => k.wrap n

def addI (a b : Int) : Int :=
  match a, b with
  | .ofNat x, .ofNat y => .ofNat (Nat.add x y)
  | _, _ => a + b
def subI (a b : Int) : Int :=
  match a, b with
  | .ofNat x, .ofNat y => bif Nat.ble y x then .ofNat (Nat.sub x y) else a - b
  | _, _ => a - b
def mulI (a b : Int) : Int :=
  match a, b with
  | .ofNat x, .ofNat y => .ofNat (Nat.mul x y)
  | _, _ => a * b
def eqI (a b : Int) : Bool :=
  match a, b with
  | .ofNat x, .ofNat y => Nat.beq x y
  | .negSucc x, .negSucc y => Nat.beq x y
  | _, _ => false
def ltI (a b : Int) : Bool :=
  match a, b with
  | .ofNat x, .ofNat y => Nat.blt x y
  | .negSucc x, .negSucc y => Nat.blt y x
  | .negSucc _, .ofNat _ => true
  | .ofNat _, .negSucc _ => false
def quoI (a b : Int) : Int :=
  match a, b with
  | .ofNat x, .ofNat y => .ofNat (Nat.div x y)
  | _, _ => a.tdiv b
def remI (a b : Int) : Int :=
  match a, b with
  | .ofNat x, .ofNat y => .ofNat (Nat.mod x y)
  | _, _ => a.tmod b

def kindEq : IntKind → IntKind → Bool
  | .i8, .i8 => true | .i16, .i16 => true | .i32, .i32 => true | .i64, .i64 => true
  | .u8, .u8 => true | .u16, .u16 => true | .u32, .u32 => true | .u64, .u64 => true
  | _, _ => false

def eqS : List Nat → List Nat → Bool
  | [], [] => true
  | a :: l, b :: k => Nat.beq a b && eqS l k
  | _, _ => false

/-- Are the parts of an array, of a struct, one? -/
def eqArr (ih : AV → AV → Option Bool) (y : TI) (a b : List AV) : Nat → Nat → Option Bool
  | 0, _ => some true
  | k + 1, i => match partOf y a (Nat.mul i y.size), partOf y b (Nat.mul i y.size) with
    | some p, some q => (match ih p q with | some true => eqArr ih y a b k (Nat.succ i) | r => r)
    | _, _ => none
def eqFields (C : Ctx) (ih : TypeId → AV → AV → Option Bool) (a b : List AV) : List Field → Option Bool
  | [] => some true
  | f :: l => match C.ti f.type with
    | some y => (match partOf y a f.offset, partOf y b f.offset with
      | some p, some q => (match ih f.type p q with | some true => eqFields C ih a b l | r => r)
      | _, _ => none)
    | none => none

/-- Are two values one? Nothing: it is not told. -/
def eqStep (C : Ctx) (ih : TypeId → AV → AV → Option Bool) (t : TypeId) (x y : AV) : Option Bool :=
  match C.ti t with
  | none => none
  | some ti => match ti.desc, x, y with
    | .bool, .bool a, .bool b => some (a == b)
    | .int _, .int k a, .int j b => bif kindEq k j then some (eqI a b) else none
    | .string, .str a, .str b => some (eqS a b)
    | .pointer _, .nilptr, .nilptr => some true
    | .pointer _, .nilptr, .ptr _ _ => some false
    | .pointer _, .ptr _ _, .nilptr => some false
    | .pointer e, .ptr r o, .ptr q p => bif Nat.beq r q then (match C.ti e with | some y => bif Nat.beq y.size 0 then none else some (Nat.beq o p) | none => none) else none
    | .interface _, .nilif, .nilif => some true
    | .interface _, .nilif, .iface _ _ => some false
    | .interface _, .iface _ _, .nilif => some false
    | .interface _, .iface u a, .iface v b =>
      bif Nat.beq u v then (match C.ti u with | some w => bif w.comparable then ih u a b else none | none => none) else some false
    | .array len e, .agg a, .agg b => (match C.ti e with | some y => eqArr (ih e) y a b len 0 | none => none)
    | .struct fs, .agg a, .agg b => bif C.eqT t then eqFields C ih a b fs.toList else none
    | .slice _, .nilsl, .nilsl => some true
    | .slice _, .sl _ _ _ _ _ _, .nilsl => some false
    | .slice _, .isl (_ :: _), .nilsl => some false
    | .func _ _ _, .nilfn, .nilfn => some true
    | .func _ _ _, .fn _ _ _, .nilfn => some false
    | _, _, _ => none
def eqA (C : Ctx) : Nat → TypeId → AV → AV → Option Bool
  | 0, _, _, _ => none
  | d + 1, t, x, y => eqStep C (eqA C d) t x y

def ltS : List Nat → List Nat → Bool
  | [], [] => false
  | [], _ :: _ => true
  | _ :: _, [] => false
  | a :: l, b :: k => bif Nat.blt a b then true else bif Nat.beq a b then ltS l k else false

def bitsA (f : Nat → Nat → Nat) (k : IntKind) (a b : Int) : Option AV :=
  match k, a, b with
  | .u64, .ofNat x, .ofNat y => bif Nat.ble x 18446744073709551615 && Nat.ble y 18446744073709551615 then some (.int k (.ofNat (f x y))) else none
  | .i64, .ofNat x, .ofNat y => bif Nat.ble x 9223372036854775807 && Nat.ble y 9223372036854775807 then some (.int k (.ofNat (f x y))) else none
  | .u8, .ofNat x, .ofNat y => bif Nat.ble x 255 && Nat.ble y 255 then some (.int k (.ofNat (f x y))) else none
  | _, _, _ => none

/-- Structs and arrays are held against each other only where their types are listed. -/
def guardA (C : Ctx) (t : TypeId) (x y : AV) : Bool :=
  match x, y with
  | .agg _, .agg _ => C.eqT t
  | .nilif, .nilif => false
  | .undef, _ => false
  | _, .undef => false
  | .raw _, _ => false
  | _, .raw _ => false
  | _, _ => true

def binOpA (C : Ctx) (op : BinOp) (t : TypeId) (x y : AV) : Option AV :=
  match op, x, y with
  | .shl, .int k (.ofNat a), .int _ (.ofNat b) => bif Nat.ble b (match k with | .u64 => 64 | .i64 => 64 | _ => 8) then some (.int k (wrapF k (.ofNat (Nat.mul a (Nat.pow 2 b))))) else none
  | .shl, .int _ _, .int _ _ => none
  | .shr, .int k (.ofNat a), .int _ (.ofNat b) => bif Nat.ble b 63 then (match k with | .u64 => some (.int k (.ofNat (Nat.shiftRight a b))) | .i64 => some (.int k (.ofNat (Nat.shiftRight a b))) | _ => none) else none
  | .shr, .int _ _, .int _ _ => none
  | .eql, .raw (.float .f64 a), .raw (.float .f64 b) => some (.bool (FloatKind.f64.format.order a b == some .eq))
  | .lss, .raw (.float .f64 a), .raw (.float .f64 b) => some (.bool (FloatKind.f64.format.order a b == some .lt))
  | op, .int k a, .int j b =>
    bif kindEq k j then
      (match op with
       | .add => some (.int k (wrapF k (addI a b)))
       | .sub => some (.int k (wrapF k (subI a b)))
       | .mul => some (.int k (wrapF k (mulI a b)))
       | .quo => bif eqI b 0 then none else some (.int k (wrapF k (quoI a b)))
       | .rem => bif eqI b 0 then none else some (.int k (remI a b))
       | .eql => some (.bool (eqI a b))
       | .neq => some (.bool (!eqI a b))
       | .lss => some (.bool (ltI a b))
       | .leq => some (.bool (!ltI b a))
       | .gtr => some (.bool (ltI b a))
       | .geq => some (.bool (!ltI a b))
       | .and => bitsA Nat.land k a b
       | .or => bitsA Nat.lor k a b
       | .xor => bitsA Nat.xor k a b
       | .andNot => bitsA (fun x y => Nat.xor x (Nat.land x y)) k a b
       | _ => none)
    else none
  | .add, .str a, .str b => bif Nat.ble (Nat.add a.length b.length) 1000000 then some (.str (a ++ b)) else none
  | .eql, .str a, .str b => some (.bool (eqS a b))
  | .neq, .str a, .str b => some (.bool (!eqS a b))
  | .lss, .str a, .str b => some (.bool (ltS a b))
  | .eql, x, y => bif guardA C t x y then (match eqA C 100 t x y with | some b => some (.bool b) | none => none) else none
  | .neq, x, y => bif guardA C t x y then (match eqA C 100 t x y with | some b => some (.bool (!b)) | none => none) else none
  | _, _, _ => none

def unOpA (op : UnOp) (x : AV) : Option AV :=
  match op, x with
  | .not, .bool b => some (.bool (!b))
  | .neg, .int k n => some (.int k (wrapF k (subI 0 n)))
  | _, _ => none

def convA (C : Ctx) (src dst : TypeId) (x : AV) : Option AV :=
  match C.ti src, C.ti dst with
  | some a, some b => (match a.desc, b.desc, x with
    | .int _, .int k, .int _ n => some (.int k (wrapF k n))
    | .int _, .float .f64, .int _ n => some (.raw (.float .f64 (FloatKind.f64.nearest n)))
    | .string, .string, .str s => some (.str s)
    | _, _, _ => none)
  | _, _ => none

/-- The first cells of what is appended or copied. -/
def srcCells (h : Hp) (es k : Nat) : AV → Option (List AV)
  | .nilsl => bif Nat.beq k 0 then some [] else none
  | .sl r o len _ fs _ => bif Nat.ble k len && Nat.beq fs es then (match h.get r with | some (.cells _ cs) => sub cs o (Nat.mul k es) | _ => none) else none
  | .isl xs => bif Nat.ble k xs.length && xs.all (fun c => Nat.beq c.length es) then some (xs.take k).flatten else none
  | .str s => bif Nat.ble k s.length && Nat.beq es 1 then some ((s.take k).map fun b => .int .u8 (.ofNat b)) else none
  | _ => none
def lenA : AV → Option Nat
  | .nilsl => some 0
  | .sl _ _ len _ _ _ => some len
  | .isl xs => some xs.length
  | .str s => some s.length
  | _ => none

def isSrc : TypeDesc → Bool
  | .slice _ => true
  | .string => true
  | _ => false

def appendA (C : Ctx) (st xt : TypeId) (s x : AV) (h : Hp) : R AV :=
  match C.ti st, C.ti xt, lenA x with
  | some { desc := .slice e, .. }, some xi, some k => (match C.ti e, isSrc xi.desc with
    | none, _ => none
    | _, false => none
    | some y, true => (match srcCells h y.size k x with
      | none => none
      | some new => bif new.all isCell && (Nat.ble y.bytes 1000000 && Nat.beq new.length (Nat.mul k y.size)) then
        (match s with
        | .nilsl => bif Nat.beq k 0 then some (.nilsl, h) else
            bif y.zeroOk && Nat.ble k 1000000 then some (.sl h.nx 0 k k y.size false, h.new (.cells e new)) else none
        | .sl r o len cap es ex =>
          (match h.get r with
           | some (.cells e' cs) =>
             bif Nat.beq es y.size && (Nat.ble (Nat.add o (Nat.mul len es)) cs.length && Nat.ble (Nat.add len k) 1000000) then
               bif Nat.ble (Nat.add len k) cap then
                 (bif Nat.ble (Nat.add (Nat.add o (Nat.mul len es)) new.length) cs.length then
                   some (.sl r o (Nat.add len k) cap es ex, h.put r (.cells e' (putCells cs (Nat.add o (Nat.mul len es)) new))) else none)
               else bif !y.zeroOk then none else bif ex then some (.sl h.nx 0 (Nat.add len k) (Nat.add len k) es false, h.new (.cells e ((cs.drop o).take (Nat.mul len es) ++ new)))
               else bif Nat.beq o 0 && Nat.ble (Nat.mul len es) cs.length then
                 (bif Nat.beq e e' then some (.sl h.nx 0 (Nat.add len k) (Nat.add len k) es false, (h.put r .dead).new (.cells e' (cs.take (Nat.mul len es) ++ new))) else none)
               else none
             else none
           | _ => none)
        | _ => none) else none))
  | _, _, _ => none

def copyA (C : Ctx) (dt : TypeId) (d x : AV) (h : Hp) : R AV :=
  match C.ti dt, lenA d, lenA x with
  | some { desc := .slice e, .. }, some n, some k => (match C.ti e with
    | none => none
    | some y =>
      let c := bif Nat.ble k n then k else n
      (match srcCells h y.size c x, d with
       | some new, .nilsl => bif Nat.beq new.length (Nat.mul c y.size) then some (.int .i64 (.ofNat c), h) else none
       | some new, .sl r o _ _ es _ => (match h.get r with
         | some (.cells e' cs) => bif new.all isCell && (Nat.beq es y.size && (Nat.beq new.length (Nat.mul c y.size) && Nat.ble (Nat.add o new.length) cs.length)) then
             some (.int .i64 (.ofNat c), h.put r (.cells e' (putCells cs o new))) else none
         | _ => none)
       | _, _ => none))
  | _, _, _ => none

def lenOfA (C : Ctx) (t : TypeId) (x : AV) (h : Hp) : Option AV :=
  match C.ti t with
  | none => none
  | some ti => match ti.desc, x with
    | .string, .str s => some (.int .i64 (.ofNat s.length))
    | .array n _, _ => some (.int .i64 (.ofNat n))
    | .slice _, .str _ => none
    | .slice _, x => (match lenA x with | some n => some (.int .i64 (.ofNat n)) | none => none)
    | .map _ _, .nilmap => some (.int .i64 0)
    | .map _ _, .map r => (match h.get r with | some (.map es _) => some (.int .i64 (.ofNat es.length)) | _ => none)
    | _, _ => none

/-- Keys: numbers; arrays and structs of numbers. -/
def isInts : List AV → Bool
  | [] => true
  | .int _ _ :: l => isInts l
  | _ :: _ => false
def isIntT : TypeDesc → Bool
  | .int _ => true
  | _ => false
/-- Is a part of an array, of a struct, a number? -/
def partInt (C : Ctx) (l : List AV) (t : TypeId) (o : Nat → Nat) : Bool :=
  match C.ti t with
  | some y => isIntT y.desc && (partOf y l (o y.size)).isSome
  | none => false
def keyOk (C : Ctx) (kt : TypeId) (k : AV) : Bool :=
  match C.ti kt, k with
  | some ti, .int _ _ => isIntT ti.desc
  | some ti, .agg l => isInts l && (match ti.desc with
    | .array n e => (List.range' 0 n).all fun i => partInt C l e (fun s => i * s)
    | .struct fs => fs.toList.all fun f => partInt C l f.type (fun _ => f.offset)
    | _ => false)
  | _, _ => false
def sameInts : List AV → List AV → Bool
  | [], [] => true
  | .int k a :: l, .int j b :: m => kindEq k j && (eqI a b && sameInts l m)
  | _, _ => false
def keyEq (C : Ctx) (kt : TypeId) : AV → AV → Option Bool
  | .int k a, .int j b => bif kindEq k j then some (eqI a b) else none
  | .agg a, .agg b => (match eqA C 100 kt (.agg a) (.agg b) with
    | some true => bif sameInts a b then some true else none
    | some false => some false
    | none => none)
  | _, _ => none
def findK (C : Ctx) (kt : TypeId) (k : AV) : List (AV × AV × Nat) → Nat → Option (Option (Nat × AV × Nat))
  | [], _ => some none
  | (q, v, b) :: l, i => match keyEq C kt k q with
    | some true => some (some (i, v, b))
    | some false => findK C kt k l (Nat.succ i)
    | none => none

def mapAt (x : AV) (h : Hp) : Option (List (AV × AV × Nat)) :=
  match x with
  | .nilmap => some []
  | .map r => (match h.get r with | some (.map es _) => some es | _ => none)
  | _ => none
def lookupA (C : Ctx) (t : TypeId) (x k : AV) (ok : Bool) (h : Hp) : Option AV :=
  match C.ti t with
  | some { desc := .map kt e, .. } => (match C.ti kt, C.ti e with
    | some _, some y => (match mapAt x h with
      | some es => bif keyOk C kt k then (match findK C kt k es 0 with
        | some (some (_, v, _)) => some (bif ok then .tup [v, .bool true] else v)
        | some none => bif y.zeroOk then some (bif ok then .tup [y.zv, .bool false] else y.zv) else none
        | none => none) else none
      | _ => none)
    | _, _ => none)
  | _ => none

def setAt {α : Type} (l : List α) (i : Nat) (x : α) : List α := l.set i x

def mapPut (C : Ctx) (t : TypeId) (x k v : AV) (h : Hp) : Option Hp :=
  match C.ti t, x with
  | some { desc := .map kt _, .. }, .map r => (match C.ti kt, h.get r with
    | some _, some (.map es clock) => bif keyOk C kt k then (match findK C kt k es 0 with
        | some (some (i, _, b)) => some (h.put r (.map (setAt es i (k, v, b)) clock))
        | some none => some (h.put r (.map (es ++ [(k, v, clock)]) (Nat.succ clock)))
        | none => none) else none
    | _, _ => none)
  | _, _ => none
def mapDel (C : Ctx) (t : TypeId) (x k : AV) (h : Hp) : Option Hp :=
  match C.ti t, x with
  | some { desc := .map kt _, .. }, .map r => (match C.ti kt, h.get r with
    | some _, some (.map es clock) => bif keyOk C kt k then (match findK C kt k es 0 with
        | some (some (i, _, _)) => some (h.put r (.map (es.eraseIdx i) clock))
        | some none => some (h.put r (.map es clock))
        | none => none) else none
    | _, _ => none)
  | _, _ => none


/-! ### Running -/

inductive Ex where
  | normal
  | exit (id : Nat)
  | goto (l : Nat)
  | ret
  | panic (v : AV)

abbrev Res := Option (Ex × St)

/-- What an operation does: it answers, with this memory; or the frame gets a deferred call; or it panics. -/
inductive OpR where
  | val (v : AV) (h : Hp)
  | push (d : ADef)
  | pan (v : AV) (h : Hp)

def setArgs (tm : Tr AV) : Nat → List AV → Tr AV
  | _, [] => tm
  | i, v :: l => setArgs (tm.set i v) (Nat.succ i) l

def resultsA (C : Ctx) (s : St) : List ResultVar → Option (List AV)
  | [] => some []
  | .tmp t :: l => (match resultsA C s l with | some vs => some (tget s.tm t :: vs) | none => none)
  | .cell a t :: l => (match loadAt C t (tget s.tm a) s.h, resultsA C s l with | some v, some vs => some (v :: vs) | _, _ => none)

def tupOf : List AV → AV
  | [v] => v
  | l => .tup l

def putD (s : St) (d : Option Nat) (v : AV) (h : Hp) : Option St :=
  match d with
  | none => some { s with h := h }
  | some t => bif Nat.blt t s.n then some { s with tm := s.tm.set t v, h := h } else none

/-- Is an operation a call of 'recover'? -/
def isRec (o : Oper) : Option Nat :=
  match o.op, o.guard, o.dst with
  | .call c, none, some d => (match c.callee with | .builtin .recover => some d | _ => none)
  | _, _, _ => none
/-- The body of a deferred function, while nothing panics: it may ask 'recover' ahead of all else. -/
def deferB (ih : Code → St → Res) (c : Code) (s : St) : Res :=
  match c with
  | .seq (.region _ ops false) rest => (match ops.toList with
    | [o] => (match isRec o with
      | some d => (match putD s (some d) .nilif s.h with | some s' => ih rest s' | none => none)
      | none => ih c s)
    | _ => ih c s)
  | c => ih c s
def deferF (C : Ctx) (ih : Code → St → Res) (f : FuncId) (args : List AV) (h : Hp) : Option Hp :=
  match C.fn.get f with
  | some fn => (match fn.body with
    | some c => bif Nat.ble args.length fn.ntmps then
        (match deferB ih c { n := fn.ntmps, tm := setArgs .e 0 args, h := h, ds := [], rd := none } with
        | some (e, s) => (match e, s.ds, resultsA C s fn.results.toList with
          | .normal, [], some _ => some s.h
          | .ret, [], some _ => some s.h
          | _, _, _ => none)
        | none => none) else none
    | none => none)
  | none => none
def clearA (C : Ctx) (t : TypeId) (x : AV) (h : Hp) : Option Hp :=
  match C.ti t with
  | some { desc := .slice e, .. } => (match x with
    | .nilsl => some h
    | .sl r o len _ es _ => bif Nat.beq len 0 then some h else (match C.ti e, h.get r with
      | some y, some (.cells e' cs) => bif y.zeroOk && (Nat.beq y.size es && (Nat.ble (Nat.add o (zeroCells len y.zero).length) cs.length && (zeroCells len y.zero).all isCell)) then some (h.put r (.cells e' (putCells cs o (zeroCells len y.zero)))) else none
      | _, _ => none)
    | _ => none)
  | some { desc := .map _ _, .. } => (match x with
    | .nilmap => some h
    | .map r => (match h.get r with
      | some (.map _ clock) => some (h.put r (.map [] clock))
      | _ => none)
    | _ => none)
  | _ => none
/-- The body of a deferred function, while a panic of v goes on: it asks 'recover' ahead of all else. -/
def recB (ih : Code → St → Res) (v : AV) (c : Code) (s : St) : Res :=
  match c with
  | .seq (.region _ ops false) rest => (match ops.toList with
    | [o] => (match isRec o with
      | some d => (match putD s (some d) v s.h with | some s' => ih rest s' | none => none)
      | none => none)
    | _ => none)
  | _ => none
def recF (C : Ctx) (ih : Code → St → Res) (v : AV) (f : FuncId) (args : List AV) (h : Hp) : Option Hp :=
  match C.fn.get f with
  | some fn => (match fn.body with
    | some c => bif Nat.ble args.length fn.ntmps then
        (match recB ih v c { n := fn.ntmps, tm := setArgs .e 0 args, h := h, ds := [], rd := none } with
        | some (e, s) => (match e, s.ds, resultsA C s fn.results.toList with
          | .normal, [], some _ => some s.h
          | .ret, [], some _ => some s.h
          | _, _, _ => none)
        | none => none) else none
    | none => none)
  | none => none
/-- The frame goes: what was deferred is done. -/
def runDefs (C : Ctx) (ih : Code → St → Res) : List ADef → Hp → Option Hp
  | [], h => some h
  | .coll r :: l, h => (match h.get r with | some (.defd (some [])) => runDefs C ih l (h.put r (.defd none)) | _ => none)
  | .fn (.func g) cap args :: l, h => (match deferF C ih g (args ++ cap) h with | some h' => runDefs C ih l h' | none => none)
  | .clr t x :: l, h => (match clearA C t x h with | some h' => runDefs C ih l h' | none => none)
  | .fn _ _ _ :: _, _ => none

def callF (C : Ctx) (ih : Code → St → Res) (f : FuncId) (args : List AV) (h : Hp) : Option OpR :=
  match C.fn.get f with
  | some fn => (match fn.body with
    | some c => match C.orc f args with
      | some v => some (.val v h)
      | none => match C.prim f args h with
       | some x => some (.val x.1 x.2)
       | none => bif Nat.ble args.length fn.ntmps then
        (match ih c { n := fn.ntmps, tm := setArgs .e 0 args, h := h, ds := [], rd := none } with
        | some (.normal, s) => (match runDefs C ih s.ds s.h with
            | some h' => (match resultsA C { s with h := h' } fn.results.toList with | some vs => some (.val (tupOf vs) h') | none => none)
            | none => none)
        | some (.ret, s) => (match runDefs C ih s.ds s.h with
            | some h' => (match resultsA C { s with h := h' } fn.results.toList with | some vs => some (.val (tupOf vs) h') | none => none)
            | none => none)
        | some (.panic v, s) => (match s.ds with
          | .fn (.func g) cap dargs :: ds => (match recF C ih v g (dargs ++ cap) s.h with
            | some h1 => (match runDefs C ih ds h1 with
              | some h' => (match resultsA C { s with h := h' } fn.results.toList with | some vs => some (.val (tupOf vs) h') | none => none)
              | none => none)
            | none => none)
          | _ => none)
        | _ => none) else none
    | none => none)
  | none => none
/-- A call that panics: of what, in which memory. -/
def panF (C : Ctx) (ih : Code → St → Res) (f : FuncId) (args : List AV) (h : Hp) : Option (AV × Hp) :=
  match C.fn.get f with
  | some fn => (match fn.body with
    | some c => bif Nat.ble args.length fn.ntmps then
        (match ih c { n := fn.ntmps, tm := setArgs .e 0 args, h := h, ds := [], rd := none } with
        | some (.panic v, s) => (match s.ds with | [] => some (v, s.h) | _ => none)
        | _ => none) else none
    | none => none)
  | none => none

def setParams (tm : Tr AV) : List Nat → List AV → Option (Tr AV)
  | [], [] => some tm
  | t :: ts, v :: vs => setParams (tm.set t v) ts vs
  | _, _ => none

def yieldF (ih : Code → St → Res) (l : Nat) (args : List AV) (h : Hp) : Option OpR :=
  match h.get l with
  | some (.loop .ready _ tm n ps asn body _) => (match setParams tm ps args with
    | none => none
    | some tm' => bif ps.all (fun p => Nat.blt p n) then
      (match ih asn { n := n, tm := tm', h := h, ds := [], rd := some l } with
      | some (.normal, s1) => (match s1.h.get l with
        | some (.loop .ready pd tm2 n2 ps2 as2 b2 ds2) =>
          (match ih body { s1 with h := s1.h.put l (.loop .busy pd tm2 n2 ps2 as2 b2 ds2) } with
          | some (e, s2) => (match s2.h.get l with
            | some (.loop .busy _ tm3 n3 ps3 as3 b3 ds3) => (match e with
              | .normal => some (.val (.bool true) (s2.h.put l (.loop .ready none tm3 n3 ps3 as3 b3 ds3)))
              | .ret => some (.val (.bool false) (s2.h.put l (.loop .done (some .ret) tm3 n3 ps3 as3 b3 ds3)))
              | .exit id => some (.val (.bool false) (s2.h.put l (.loop .done (some (.exit id)) tm3 n3 ps3 as3 b3 ds3)))
              | .goto g => some (.val (.bool false) (s2.h.put l (.loop .done (some (.goto g)) tm3 n3 ps3 as3 b3 ds3)))
              | .panic _ => none)
            | _ => none)
          | none => none)
        | _ => none)
      | _ => none) else none)
  | _ => none

def allA (C : Ctx) (s : St) : List Operand → List AV
  | [] => []
  | x :: l => s.ev C x :: allA C s l

/-- Which function answers a method of a dynamic type, where that takes the value as it is. -/
def methodA (P : Program) (C : Ctx) (t : TypeId) (name : String) : Option FuncId :=
  match P.info? t, C.ti t with
  | some i, some ti => (match i.methods.find? (·.name == name) with
    | some m => bif m.path.isEmpty then
        (match m.func, ti.desc with
        | some (f, true), .pointer _ => some f
        | some (_, false), .pointer _ => none
        | some (_, true), _ => none
        | some (f, false), _ => some f
        | none, _ => none) else none
    | none => none)
  | _, _ => none

/-- Has a type all that an interface wants? -/
def allThere (want : Array (String × TypeId)) (got : Array Method) : Bool := want.toList.all fun x => got.any fun m => m.name == x.1 && m.sig == x.2
def typeAssertA (P : Program) (C : Ctx) (x : AV) (asserted : TypeId) (ok : Bool) : Option AV :=
  match C.ti asserted with
  | none => none
  | some ti =>
    let yes (v : AV) : Option AV := some (bif ok then .tup [v, .bool true] else v)
    let no : Option AV := bif ok && ti.zeroOk then some (.tup [ti.zv, .bool false]) else none
    match ti.desc, x with
    | .interface want, .iface t v => (match P.info? t with
      | some i => bif allThere want i.methods then yes (.iface t v) else no
      | none => none)
    | _, .nilif => no
    | .interface _, _ => none
    | _, .iface t v => bif Nat.beq t asserted then yes v else no
    | _, _ => none

/-- The letters of bytes. -/
def bytesOf : List AV → Option (List Nat)
  | [] => some []
  | .int .u8 (.ofNat n) :: l => bif Nat.blt n 256 then (match bytesOf l with | some k => some (n :: k) | none => none) else none
  | _ :: _ => none
def builtinA (C : Ctx) (b : Builtin) (ts : List TypeId) (args : List AV) (h : Hp) : Option OpR :=
  match b, ts, args with
  | .len, t :: _, x :: _ => (match lenOfA C t x h with | some v => some (.val v h) | none => none)
  | .append, st :: xt :: _, s :: x :: _ => (match appendA C st xt s x h with | some (v, h') => some (.val v h') | none => none)
  | .copy, dt :: _, d :: x :: _ => (match copyA C dt d x h with | some (v, h') => some (.val v h') | none => none)
  | .delete, t :: _, [x, k] => (match mapDel C t x k h with | some h' => some (.val (.tup []) h') | none => none)
  | .complex, _, [.raw (.float .f64 a), .raw (.float .f64 b)] => some (.val (.raw (.complex .f64 a b)) h)
  | .real, _, [.raw (.complex k a _)] => some (.val (.raw (.float k a)) h)
  | .imag, _, [.raw (.complex k _ b)] => some (.val (.raw (.float k b)) h)
  | .clear, t :: _, x :: _ => (match clearA C t x h with | some h' => some (.val (.tup []) h') | none => none)
  | .unsafeSliceData, _, [.nilsl] => some (.val .nilptr h)
  | .unsafeSliceData, _, [.sl r o _ cap _ _] => bif Nat.beq cap 0 then none else some (.val (.ptr r o) h)
  | .unsafeString, [t, _], [.nilptr, .int .i64 0] => (match C.ti t with | some { desc := .pointer _, .. } => some (.val (.str []) h) | _ => none)
  | .unsafeString, [t, _], [.ptr r 0, .int .i64 (.ofNat n)] => (match C.ti t, h.get r with
    | some { desc := .pointer u, .. }, some (.cells e cs) => (match C.ti u, sub cs 0 n with
      | some y, some l => (match bytesOf l with
        | some k => bif Nat.beq e u && (Nat.beq y.size 1 && Nat.ble n 1000000) then some (.val (.str k) (bif Nat.beq n 0 then h else h.put r .dead)) else none
        | none => none)
      | _, _ => none)
    | _, _ => none)
  | .min, _, [.int k a, .int j b, .int i c] => bif kindEq k j && kindEq k i then some (.val (.int k (bif ltI c (bif ltI b a then b else a) then c else (bif ltI b a then b else a))) h) else none
  | .min, _, [.int k a, .int j b] => bif kindEq k j then some (.val (.int k (bif ltI b a then b else a)) h) else none
  | .max, _, [.int k a, .int j b] => bif kindEq k j then some (.val (.int k (bif ltI a b then b else a)) h) else none
  | _, _, _ => none

def ov {α : Type} (f : α → OpR) : Option α → Option OpR
  | some x => some (f x)
  | none => none

def applyF (C : Ctx) (ih : Code → St → Res) (f : AV) (args : List AV) (h : Hp) : Option OpR :=
  match f with
  | .fn (.func g) first cap => (match C.ext g (first ++ args ++ cap) with
    | some v => some (.val v h)
    | none => callF C ih g (first ++ args ++ cap) h)
  | .fn (.yield l) [] [] => yieldF ih l args h
  | _ => none

def convS (C : Ctx) (a b : TypeId) (x : AV) (h : Hp) : Option AV :=
  match C.ti a, C.ti b, lenA x with
  | some p, some q, some k => (match p.desc, q.desc with
    | .slice e, .string => (match C.ti e with
      | some y => (match y.desc, srcCells h 1 k x with
        | .int .u8, some cs => (match bytesOf cs with | some l => some (.str l) | none => none)
        | _, _ => none)
      | none => none)
    | _, _ => none)
  | _, _, _ => none
/-- A pointer turned into unsafe.Pointer, and back: it is itself. -/
def isPtrA : AV → Bool
  | .ptr _ _ => true
  | _ => false
def convP (C : Ctx) (a b : TypeId) (x : AV) (h : Hp) : Option AV :=
  match C.ti a, C.ti b, x with
  | some p, some q, .ptr r o => (match p.desc, q.desc, h.get r with
    | .pointer t, .unsafePointer, some (.cells _ cs) => (match C.ti t with
      | some y => bif Nat.blt o cs.length && !Nat.beq y.size 0 then some (.ptr r o) else none
      | none => none)
    | .unsafePointer, .pointer u, some (.cells e cs) => bif Nat.beq e u && Nat.beq o 0 then (match C.ti u with
      | some y => bif Nat.ble y.size cs.length && !Nat.beq y.size 0 then some (.ptr r o) else none
      | none => none) else none
    | _, _, _ => none)
  | _, _, _ => none
def convB (C : Ctx) (a b : TypeId) (x : AV) (h : Hp) : Option AV := bif isPtrA x then convP C a b x h else convS C a b x h
def isStr : AV → Bool
  | .str _ => true
  | _ => false
def isSlice : AV → Bool
  | .ptr _ _ => true
  | .nilsl => true
  | .sl _ _ _ _ _ _ => true
  | .isl _ => true
  | _ => false
def rangeA (C : Ctx) (t : TypeId) (x : AV) (h : Hp) : R AV :=
  match C.ti t, x with
  | some ti, .str b => (match ti.desc with | .string => some (.ptr h.nx 0, h.new (.siter b 0)) | _ => none)
  | some ti, .map r => (match ti.desc, h.get r with | .map _ _, some (.map _ clock) => some (.ptr h.nx 0, h.new (.miter r clock [] clock)) | _, _ => none)
  | _, _ => none
def nextA (x : AV) (h : Hp) : R AV :=
  match x with
  | .ptr r 0 => (match h.get r with
    | some (.siter b pos) => (match b[pos]? with
      | none => some (.tup [.bool false], h)
      | some c => bif Nat.blt c 128 then some (.tup [.bool true, .int .i64 (.ofNat pos), .int .i32 (.ofNat c)], h.put r (.siter b (Nat.succ pos))) else none)
    | _ => none)
  | _ => none
/-- The entries of a map that an iterator has not seen. -/
def leftM (seen : List Nat) (es : List (AV × AV × Nat)) : List (AV × AV × Nat) := es.filter fun e => !seen.contains e.2.2
/-- The next entry of a map, where there is no choice. -/
def nextM (x : AV) (h : Hp) : R AV :=
  match x with
  | .ptr r 0 => (match h.get r with
    | some (.miter q since seen last) => (match h.get q with
      | some (.map es clock) => bif !seen.isEmpty && (!es.isEmpty && es.all fun e => Nat.ble last e.2.2) then none else (match leftM seen es with
        | [] => some (.tup [.bool false], h)
        | [(k, v, b)] => bif Nat.blt b since then some (.tup [.bool true, k, v], h.put r (.miter q since (seen ++ [b]) clock)) else none
        | _ => none)
      | _ => none)
    | _ => none)
  | _ => none
def findB (n : Nat) : List (AV × AV × Nat) → Option (AV × AV)
  | [] => none
  | (k, v, b) :: l => bif Nat.beq b n then some (k, v) else findB n l
/-- The entry at which a map's iterator stands. -/
def entryM (x : AV) (h : Hp) : Option AV :=
  match x with
  | .ptr r 0 => (match h.get r with
    | some (.miter q _ seen last) => (match h.get q, seen.getLast? with
      | some (.map es clock), some b => bif Nat.beq clock last then (match findB b es with | some (k, v) => some (.tup [k, v]) | none => none) else none
      | _, _ => none)
    | _ => none)
  | _ => none
def mapEntryA (C : Ctx) (t : TypeId) (x k : AV) (h : Hp) : R AV :=
  match C.ti t, x with
  | some { desc := .map kt e, .. }, .map r => (match C.ti kt, C.ti e, h.get r with
    | some _, some y, some (.map es clock) => bif keyOk C kt k then (match findK C kt k es 0 with
        | some (some (i, v, b)) => some (.tup [v, .int .i64 (.ofNat b)], h.put r (.map (setAt es i (k, v, b)) clock))
        | some none => bif y.zeroOk then some (.tup [y.zv, .int .i64 (.ofNat clock)], h.put r (.map (es ++ [(k, y.zv, clock)]) (Nat.succ clock))) else none
        | none => none) else none
    | _, _, _ => none)
  | _, _ => none
def bornAt (n : Nat) : List (AV × AV × Nat) → Nat → Option (Nat × AV)
  | [], _ => none
  | (k, _, b) :: l, i => bif Nat.beq b n then some (i, k) else bornAt n l (Nat.succ i)
def entryStoreA (x st v : AV) (h : Hp) : Option Hp :=
  match x, st with
  | .map r, .int _ (.ofNat n) => (match h.get r with
    | some (.map es clock) => (match bornAt n es 0 with | some (i, k) => some (h.put r (.map (setAt es i (k, v, n)) clock)) | none => none)
    | _ => none)
  | _, _ => none
def deferA (_C : Ctx) (f : AV) (args : List AV) : Option OpR :=
  match f with
  | .fn (.func g) first cap => some (.push (.fn (.func g) cap (first ++ args)))
  | _ => none

def deferC : List TypeId → List AV → Option OpR
  | t :: _, [x] => some (.push (.clr t x))
  | _, _ => none

def isConstA : Operand → Bool
  | .const _ => true
  | _ => false

def opA (P : Program) (C : Ctx) (ih : Code → St → Res) (s : St) (o : Oper) : Option OpR :=
  let v (x : Option AV) : Option OpR := ov (fun x => .val x s.h) x
  let w (x : R AV) : Option OpR := ov (fun x => .val x.1 x.2) x
  match o.op with
  | .move x => some (.val (s.ev C x) s.h)
  | .assign x => some (.val (s.ev C x) s.h)
  | .pick c a b => (match s.ev C c with | .bool t => some (.val (bif t then s.ev C a else s.ev C b) s.h) | _ => none)
  | .alloc t => w (alloc C t s.h)
  | .box t x => w (box t (s.ev C x) s.h)
  | .build t ps => v (build C t (ps.toList.map fun p => (p.1, s.ev C p.2)))
  | .buildSlice t n ps => w (buildSlice C t n (ps.toList.map fun p => (p.1, s.ev C p.2)) s.h)
  | .load t a => v (loadAt C t (s.ev C a) s.h)
  | .store t a x => ov (fun h => .val .undef h) (storeAt C t (s.ev C a) (s.ev C x) s.h)
  | .nilCheck x => (match s.ev C x with | .ptr r o => some (.val (.ptr r o) s.h) | .iptr xs i o => some (.val (.iptr xs i o) s.h) | .fn (.func f) a b => some (.val (.fn (.func f) a b) s.h) | .fn (.yield f) a b => some (.val (.fn (.yield f) a b) s.h) | _ => none)
  | .binOp op t x y _ => (match s.ev C x, s.ev C y with
    | .nilif, .nilif => (match op, isConstA x || isConstA y, C.ti t with
      | .eql, true, some ti => (match ti.desc with | .interface _ => some (.val (.bool true) s.h) | _ => none)
      | .neq, true, some ti => (match ti.desc with | .interface _ => some (.val (.bool false) s.h) | _ => none)
      | _, _, _ => none)
    | p, q => v (binOpA C op t p q))
  | .unOp op _ x => v (unOpA op (s.ev C x))
  | .convert a b x => bif isSlice (s.ev C x) then v (convB C a b (s.ev C x) s.h) else v (convA C a b (s.ev C x))
  | .range t x => w (rangeA C t (s.ev C x) s.h)
  | .next x str => bif str then w (nextA (s.ev C x) s.h) else w (nextM (s.ev C x) s.h)
  | .entry x => v (entryM (s.ev C x) s.h)
  | .mapEntry t m k => w (mapEntryA C t (s.ev C m) (s.ev C k) s.h)
  | .entryStore _ m st x => ov (fun h => .val .undef h) (entryStoreA (s.ev C m) (s.ev C st) (s.ev C x) s.h)
  | .defer c => (match c.callee with | .value f => deferA C (s.ev C f) (allA C s c.args.toList) | .builtin .clear => deferC c.argTypes.toList (allA C s c.args.toList) | _ => none)
  | .makeInterface t x => (match C.ti t with | some ti => (match ti.desc with | .interface _ => none | _ => some (.val (.iface t (s.ev C x)) s.h)) | none => none)
  | .makeFunc f a b => (match f with | .func g => some (.val (.fn (.func g) (allA C s a.toList) (allA C s b.toList)) s.h) | _ => none)
  | .makeMap t r => (match (match r with | none => some 0 | some x => natOf (s.ev C x)), C.ti t with | some _, some ti => (match ti.desc with | .map _ _ => some (.val (.map s.h.nx) (s.h.new (.map [] 0))) | _ => none) | _, _ => none)
  | .makeSlice t l c => w (makeSlice C t (s.ev C l) (s.ev C c) s.h)
  | .slice t x lo hi mx => v (sliceOf C t (s.ev C x) (lo.map (s.ev C)) (hi.map (s.ev C)) (mx.map (s.ev C)) s.h)
  | .fieldAddr t x k => v (fieldAt C t (s.ev C x) k)
  | .field t x k => v (fieldOf C t (s.ev C x) k)
  | .indexAddr t x i => v (indexAt C t (s.ev C x) (s.ev C i))
  | .index t x i => v (indexOf C t (s.ev C x) (s.ev C i))
  | .lookup t x k ok => v (lookupA C t (s.ev C x) (s.ev C k) ok s.h)
  | .mapUpdate t m k x => ov (fun h => .val .undef h) (mapPut C t (s.ev C m) (s.ev C k) (s.ev C x) s.h)
  | .insert t m k x => ov (fun h => .val .undef h) (mapPut C t (s.ev C m) (s.ev C k) (s.ev C x) s.h)
  | .typeAssert x _ t ok => v (typeAssertA P C (s.ev C x) t ok)
  | .extract x i => (match s.ev C x with | .tup vs => v vs[i]? | _ => none)
  | .call c => (match c.callee with
    | .value f => applyF C ih (s.ev C f) (allA C s c.args.toList) s.h
    | .invoke r name => (match s.ev C r with
      | .iface t x => (match methodA P C t name with
        | some f => callF C ih f (x :: allA C s c.args.toList) s.h
        | none => none)
      | _ => none)
    | .builtin b => builtinA C b c.argTypes.toList (allA C s c.args.toList) s.h)
  | _ => none

/-- An operation that panics. -/
def panA (C : Ctx) (ih : Code → St → Res) (s : St) (o : Oper) : Option (AV × Hp) :=
  match o.op with
  | .panic x => (match s.ev C x with | .iface t v => some (.iface t v, s.h) | _ => none)
  | .call c => (match c.callee with
    | .value f => (match s.ev C f with
      | .fn (.func g) first cap => (match C.ext g (first ++ allA C s c.args.toList ++ cap) with
        | some _ => none
        | none => panF C ih g (first ++ allA C s c.args.toList ++ cap) s.h)
      | _ => none)
    | _ => none)
  | _ => none

/-- Is an operation carried out? -/
def wantedA (ops : List Oper) (s : St) (o : Oper) : Option Bool :=
  match o.guard with
  | none => some true
  | some (j, want) => (match ops[j]? with
    | some p => (match p.dst with
      | some d => (match tget s.tm d with | .bool b => some (b == want) | .undef => none | _ => some false)
      | none => some false)
    | none => some false)

def runOps (P : Program) (C : Ctx) (ih : Code → St → Res) (ops : List Oper) : List Oper → St → Res
  | [], s => some (.normal, s)
  | o :: l, s => match wantedA ops s o with
    | none => none
    | some false => (match putD s o.dst (.tup []) s.h with | some s' => runOps P C ih ops l s' | none => none)
    | some true => (match opA P C ih s o with
      | some (.val v h) => (match putD s o.dst v h with | some s' => runOps P C ih ops l s' | none => none)
      | some (.push d) => (match s.rd with | none => (match putD s o.dst .undef s.h with | some s' => runOps P C ih ops l { s' with ds := d :: s'.ds } | none => none) | some _ => none)
      | some (.pan v h) => some (.panic v, { s with h := h })
      | none => (match panA C ih s o with
        | some (v, h) => some (.panic v, { s with h := h })
        | none => none))

/-- What an operation reads, and may write, of the memory that it finds; nothing: of all of it. -/
def refOf : AV → List Nat
  | .ptr r _ => [r]
  | .sl r _ _ _ _ _ => [r]
  | .map r => [r]
  | _ => []
def fpOf (C : Ctx) (s : St) (o : Oper) : Option (List Nat × List Nat) :=
  match o.op with
  | .load _ a => some (refOf (s.ev C a), [])
  | .store _ a _ => some (refOf (s.ev C a), refOf (s.ev C a))
  | .slice _ x _ _ _ => some (refOf (s.ev C x), [])
  | .lookup _ x _ _ => some (refOf (s.ev C x), [])
  | .mapUpdate _ x _ _ => some (refOf (s.ev C x), refOf (s.ev C x))
  | .insert _ x _ _ => some (refOf (s.ev C x), refOf (s.ev C x))
  | .mapEntry _ x _ => some (refOf (s.ev C x), refOf (s.ev C x))
  | .entryStore _ x _ _ => some (refOf (s.ev C x), refOf (s.ev C x))
  | .next x str => bif str then some (refOf (s.ev C x), refOf (s.ev C x)) else none
  | .range _ x => some (refOf (s.ev C x), [])
  | .entry _ => none
  | .convert _ _ x => some (refOf (s.ev C x), [])
  | .call c => (match c.callee with
    | .builtin b => (match b, allA C s c.args.toList with
      | .len, x :: _ => some (refOf x, [])
      | .append, x :: y :: _ => some (refOf x ++ refOf y, refOf x)
      | .copy, x :: y :: _ => some (refOf x ++ refOf y, refOf x)
      | .unsafeSliceData, _ => some ([], [])
      | .unsafeString, x :: _ => some (refOf x, refOf x)
      | .delete, x :: _ => some (refOf x, refOf x)
      | .complex, _ => some ([], [])
      | .real, _ => some ([], [])
      | .imag, _ => some ([], [])
      | .min, _ => some ([], [])
      | .max, _ => some ([], [])
      | _, _ => none)
    | _ => none)
  | _ => some ([], [])

def overlap (a b : List Nat) : Bool := a.any fun x => b.any fun y => Nat.beq x y

/-! ### Values held against each other -/
def rawEq : Value → Value → Bool
  | .float .f64 a, .float .f64 b => Nat.beq a b
  | .complex .f64 a b, .complex .f64 c d => Nat.beq a c && Nat.beq b d
  | _, _ => false
mutual
def eqV : AV → AV → Bool
  | .undef, .undef => true
  | .raw a, .raw b => rawEq a b
  | .bool a, .bool b => a == b
  | .int k a, .int j b => kindEq k j && eqI a b
  | .str a, .str b => eqS a b
  | .nilptr, .nilptr => true
  | .nilsl, .nilsl => true
  | .isl a, .isl b => eqVss a b
  | .iptr a i o, .iptr b j q => Nat.beq i j && (Nat.beq o q && eqVss a b)
  | .nilmap, .nilmap => true
  | .nilfn, .nilfn => true
  | .nilif, .nilif => true
  | .fn (.func f) a c, .fn (.func g) b d => Nat.beq f g && (eqVs a b && eqVs c d)
  | .iface t a, .iface u b => Nat.beq t u && eqV a b
  | .agg a, .agg b => eqVs a b
  | .tup a, .tup b => eqVs a b
  | .ptr r o, .ptr q p => Nat.beq r q && Nat.beq o p
  | .sl r o l c e x, .sl q p k d f y => Nat.beq r q && (Nat.beq o p && (Nat.beq l k && (Nat.beq c d && (Nat.beq e f && (x == y)))))
  | .map r, .map q => Nat.beq r q
  | _, _ => false
def eqVs : List AV → List AV → Bool
  | [], [] => true
  | a :: l, b :: k => eqV a b && eqVs l k
  | _, _ => false
def eqVss : List (List AV) → List (List AV) → Bool
  | [], [] => true
  | a :: l, b :: k => eqVs a b && eqVss l k
  | _, _ => false
end
/-- What an operation touched: what it read (nothing: all), what it wrote of what was there (nothing: it is not told), and its new blocks. -/
structure FP where
  i : Nat
  rd : Option (List Nat)
  wr : Option (List Nat)
  nl : Nat
  nh : Nat
  ld : Hp → Option AV
  h0 : Hp
  h1 : Hp

def inR (l h r : Nat) : Bool := Nat.ble l r && Nat.blt r h
/-- May the later operation b not go ahead of a, or not behind it? -/
def FP.hard (a b : FP) : Bool :=
  (match b.rd with
   | none => (match a.wr with | some [] => false | _ => true)
   | some r => (match a.wr with | some w => overlap w r | none => r.any (fun x => Nat.blt x a.nl)) || r.any (inR a.nl a.nh)) ||
  (match b.wr with
   | some [] => false
   | some w => (match a.rd with | some r => overlap w r | none => true)
   | none => (match a.rd with | some [] => Nat.blt a.nl a.nh | _ => true))

def sameO : Option AV → Option AV → Bool
  | some x, some y => eqV x y
  | _, _ => false
/-- One of them only reads a place, and reads the same there before and behind the other one. -/
def FP.soft (a b : FP) : Bool := sameO (a.ld b.h0) (a.ld b.h1) || sameO (b.ld a.h0) (b.ld a.h1)
def FP.clash (a b : FP) : Bool := bif FP.hard a b then !FP.soft a b else false

def hard (e : Edge) : Bool := match e.ground with | .textOnly _ => false | .gcOnly _ => false | _ => true
def maskOf (acc : List Nat) : List Edge → Nat
  | [] => 0
  | e :: l => bif hard e then Nat.lor (Nat.lor (Nat.shiftLeft 1 e.on) (match acc[e.on]? with | some m => m | none => 0)) (maskOf acc l) else maskOf acc l
def masks : List Nat → List Oper → List Nat
  | acc, [] => acc
  | acc, o :: l => masks (acc ++ [maskOf acc o.after.toList]) l
def inMask (ms : List Nat) (j i : Nat) : Bool := match ms[j]? with | some m => Nat.testBit m i | none => false

/-- The temporaries that an operation looks at, that it writes: as bits. -/
def bits : List Nat → Nat
  | [] => 0
  | t :: l => Nat.lor (Nat.shiftLeft 1 t) (bits l)
def tmpsOf : List Operand → List Nat
  | [] => []
  | .tmp t :: l => t :: tmpsOf l
  | _ :: l => tmpsOf l
def guardTmp (ops : List Oper) (o : Oper) : List Nat :=
  match o.guard with
  | some (g, _) => (match ops[g]? with | some p => (match p.dst with | some d => [d] | none => []) | none => [])
  | none => []
def looks (ops : List Oper) (o : Oper) : Nat := bits (tmpsOf o.op.operands.toList ++ guardTmp ops o)
def dstBit (o : Oper) : Nat := match o.dst with | some d => Nat.shiftLeft 1 d | none => 0
def meets (a b : Nat) : Bool := !Nat.beq (Nat.land a b) 0
/-- Of each pair: one goes ahead of the other always, or their temporaries are apart. -/
def pairOk (m : Nat) (lk dt : Nat) : List (Nat × Nat × Nat) → Bool
  | [] => true
  | (i, l, d) :: rest => bif meets d lk || (meets d dt || meets dt l) then (bif Nat.testBit m i then pairOk m lk dt rest else false) else pairOk m lk dt rest
def edgesOk (i : Nat) : List Edge → Bool
  | [] => true
  | e :: l => bif hard e then (bif Nat.blt e.on i then edgesOk i l else false) else edgesOk i l
def drawOk (ops : List Oper) : List Oper → List Nat → Nat → List (Nat × Nat × Nat) → Bool
  | o :: l, m :: ms, i, acc => bif edgesOk i o.after.toList && pairOk m (looks ops o) (dstBit o) acc then drawOk ops l ms (Nat.succ i) ((i, looks ops o, dstBit o) :: acc) else false
  | [], [], _, _ => true
  | _, _, _, _ => false

def clashFree (ms : List Nat) (b : FP) : List FP → Bool
  | [] => true
  | a :: l => bif FP.clash a b then (bif inMask ms b.i a.i then clashFree ms b l else false) else clashFree ms b l

/-- The touched blocks of an operation that has gone from one memory to another, whether it is to be held against those before it, and those after it with it among them. -/
def ldOf (C : Ctx) (s : St) (o : Oper) : Hp → Option AV :=
  match o.op with
  | .load t a => fun h => loadAt C t (s.ev C a) h
  | .lookup t x k ok => fun h => lookupA C t (s.ev C x) (s.ev C k) ok h
  | _ => fun _ => none
def fpAt (C : Ctx) (s : St) (o : Oper) (i : Nat) (h : Hp) : FP :=
  match fpOf C s o with
  | some (r, w) => { i := i, rd := some r, wr := some w, nl := s.h.nx, nh := h.nx, ld := ldOf C s o, h0 := s.h, h1 := h }
  | none => { i := i, rd := none, wr := bif Nat.ble s.h.nx h.lo then some [] else none, nl := s.h.nx, nh := h.nx, ld := fun _ => none, h0 := s.h, h1 := h }
def fpNext (ms : List Nat) (f : FP) (fps : List FP) : Option (List FP) :=
  match f.rd, f.wr with
  | some [], some [] => bif Nat.blt f.nl f.nh then some (f :: fps) else some fps
  | _, _ => bif clashFree ms f fps then some (f :: fps) else none

def runDraw (P : Program) (C : Ctx) (ih : Code → St → Res) (ops : List Oper) (ms : List Nat) : List Oper → Nat → List FP → St → Res
  | [], _, _, s => some (.normal, s)
  | o :: l, i, fps, s => match wantedA ops s o with
    | none => none
    | some false => (match putD s o.dst (.tup []) s.h with | some s' => runDraw P C ih ops ms l (Nat.succ i) fps s' | none => none)
    | some true => (match opA P C ih { s with h := { s.h with lo := s.h.nx } } o with
      | some (.val v h) => (match fpNext ms (fpAt C s o i h) fps with
        | some fps' => (match putD s o.dst v { h with lo := bif Nat.ble s.h.lo h.lo then s.h.lo else h.lo } with | some s' => runDraw P C ih ops ms l (Nat.succ i) fps' s' | none => none)
        | none => none)
      | _ => none)

def drawF (P : Program) (C : Ctx) (ih : Code → St → Res) (ops : List Oper) (ms : List Nat) (s : St) : Res :=
  bif drawOk ops ops ms 0 [] then runDraw P C ih ops ms ops 0 [] s else none

def scopeRun (ih : Code → St → Res) (body : Code) : Nat → Code → St → Res
  | 0, _, _ => none
  | k + 1, c, s => match ih c s with
    | some (.goto l, s') => (match findLabel body l with
      | some rest => scopeRun ih body k rest s'
      | none => some (.goto l, s'))
    | r => r

def callV (C : Ctx) (ih : Code → St → Res) (f : AV) (args : List AV) (h : Hp) : Option OpR :=
  match f with
  | .fn (.func g) first cap => callF C ih g (first ++ args ++ cap) h
  | _ => none
def rangeF (C : Ctx) (ih : Code → St → Res) (g : Operand) (ps : List Nat) (asn body : Code) (s : St) : Res :=
  match s.rd with
  | some _ => none
  | none =>
    let d := s.h.nx
    let h1 := s.h.new (.defd (some []))
    let l := h1.nx
    let h2 := h1.new (.loop .ready none s.tm s.n ps asn body d)
    match callV C ih (s.ev C g) [.fn (.yield l) [] []] h2 with
    | some (.val _ h3) => (match h3.get l with
      | some (.loop st pend _ _ _ _ _ _) => (match st with
        | .busy => none
        | _ =>
          let s' : St := { s with h := h3.put l .dead, ds := .coll d :: s.ds }
          (match pend with
          | none => some (.normal, s')
          | some .ret => some (.ret, s')
          | some (.exit id) => some (.exit id, s')
          | some (.goto t) => some (.goto t, s')
          | some _ => none))
      | _ => none)
    | _ => none

def step (P : Program) (C : Ctx) (ih : Code → St → Res) (k : Nat) (c : Code) (s : St) : Res :=
  match c with
  | .skip => some (.normal, s)
  | .label _ => some (.normal, s)
  | .region _ ops draw => bif draw then drawF P C ih ops.toList (masks [] ops.toList) s else runOps P C ih ops.toList ops.toList s
  | .seq a b => (match ih a s with
    | some (.normal, s') => ih b s'
    | r => r)
  | .cond x a b => (match s.ev C x with
    | .bool true => ih a s
    | .bool false => ih b s
    | _ => none)
  | .block id a => (match ih a s with
    | some (.exit j, s') => bif Nat.beq j id then some (.normal, s') else some (.exit j, s')
    | r => r)
  | .loop a => (match ih a s with
    | some (.normal, s') => ih (.loop a) s'
    | r => r)
  | .rangeFunc g ps asn body => rangeF C ih g ps.toList asn body s
  | .exit id => some (.exit id, s)
  | .goto l => some (.goto l, s)
  | .scope body => scopeRun ih body k body s
  | .ret => some (.ret, s)
  | .refuse _ => none

def exec (P : Program) (C : Ctx) (n : Nat) : Code → St → Res :=
  Nat.rec (motive := fun _ => Code → St → Res) (fun _ _ => none) (fun k ih c s => step P C ih k c s) n

/-- A call of a function, from a memory on. -/
def call (P : Program) (C : Ctx) (n : Nat) (f : FuncId) (args : List AV) (h : Hp) : Option OpR := callF C (exec P C n) f args h

end Go.Ax

/- The abstract machine and the model: how values and memories stand for each other. -/
namespace Go.Ax
open Go.RowKit (Below)

/-! ### Trees -/
section tr
variable {α : Type}
theorem Tr.get_e (i : Nat) : Tr.get (α := α) .e i = none := rfl
theorem Tr.get_n (l : Tr α) (v : Option α) (r : Tr α) (i : Nat) : Tr.get (.n l v r) i = if i = 0 then v else if (i - 1) % 2 = 0 then l.get ((i - 1) / 2) else r.get ((i - 1) / 2) := by
  cases i with
  | zero => rfl
  | succ j =>
    show Nat.rec (motive := fun _ => Option α) (l.get (j / 2)) (fun _ _ => r.get (j / 2)) (j % 2) = _
    rw [if_neg (Nat.succ_ne_zero j), Nat.add_sub_cancel]
    have : j % 2 = 0 ∨ j % 2 = 1 := by omega
    rcases this with h | h <;> rw [h] <;> rfl
theorem Tr.set_e (i : Nat) (x : α) : Tr.set .e i x = Tr.sing (i + 1) x i := rfl
theorem Tr.sing_s (f : Nat) (x : α) (i : Nat) : Tr.sing (f + 1) x i = if i = 0 then .n .e (some x) .e else if (i - 1) % 2 = 0 then .n (Tr.sing f x ((i - 1) / 2)) none .e else .n .e none (Tr.sing f x ((i - 1) / 2)) := by
  cases i with
  | zero => rfl
  | succ j =>
    show Nat.rec (motive := fun _ => Tr α) (.n (Tr.sing f x (j / 2)) none .e) (fun _ _ => .n .e none (Tr.sing f x (j / 2))) (j % 2) = _
    rw [if_neg (Nat.succ_ne_zero j), Nat.add_sub_cancel]
    have : j % 2 = 0 ∨ j % 2 = 1 := by omega
    rcases this with h | h <;> rw [h] <;> rfl
theorem Tr.set_n (l : Tr α) (v : Option α) (r : Tr α) (i : Nat) (x : α) : Tr.set (.n l v r) i x = if i = 0 then .n l (some x) r else if (i - 1) % 2 = 0 then .n (l.set ((i - 1) / 2) x) v r else .n l v (r.set ((i - 1) / 2) x) := by
  cases i with
  | zero => rfl
  | succ j =>
    show Nat.rec (motive := fun _ => Tr α) (.n (l.set (j / 2) x) v r) (fun _ _ => .n l v (r.set (j / 2) x)) (j % 2) = _
    rw [if_neg (Nat.succ_ne_zero j), Nat.add_sub_cancel]
    have : j % 2 = 0 ∨ j % 2 = 1 := by omega
    rcases this with h | h <;> rw [h] <;> rfl
theorem Tr.get_sing (x : α) : ∀ (f i j : Nat), i < f → (Tr.sing f x i).get j = if i = j then some x else none := by
  intro f
  induction f with
  | zero => intro i j h; omega
  | succ f ih =>
    intro i j h
    rw [Tr.sing_s]
    by_cases hi : i = 0
    · subst hi
      rw [if_pos rfl, Tr.get_n]
      by_cases hj : j = 0
      · subst hj; rfl
      · rw [if_neg hj, if_neg (show ¬ 0 = j from fun e => hj e.symm), Tr.get_e, ite_self]
    · rw [if_neg hi]
      by_cases h1 : (i - 1) % 2 = 0
      · rw [if_pos h1, Tr.get_n]
        by_cases hj : j = 0
        · subst hj; rw [if_pos rfl, if_neg hi]
        · rw [if_neg hj]
          by_cases h2 : (j - 1) % 2 = 0
          · rw [if_pos h2, ih _ _ (by omega)]
            by_cases he : i = j
            · subst he; rw [if_pos rfl, if_pos rfl]
            · rw [if_neg he, if_neg (by omega)]
          · rw [if_neg h2, Tr.get_e, if_neg (fun e => by subst e; exact h2 h1)]
      · rw [if_neg h1, Tr.get_n]
        by_cases hj : j = 0
        · subst hj; rw [if_pos rfl, if_neg hi]
        · rw [if_neg hj]
          by_cases h2 : (j - 1) % 2 = 0
          · rw [if_pos h2, Tr.get_e, if_neg (fun e => by subst e; exact h1 h2)]
          · rw [if_neg h2, ih _ _ (by omega)]
            by_cases he : i = j
            · subst he; rw [if_pos rfl, if_pos rfl]
            · rw [if_neg he, if_neg (by omega)]
theorem Tr.get_set (t : Tr α) : ∀ (i j : Nat) (x : α), (t.set i x).get j = if i = j then some x else t.get j := by
  induction t with
  | e => intro i j x; rw [Tr.set_e, Tr.get_sing x _ _ _ (by omega), Tr.get_e]
  | n l v r ihl ihr =>
    intro i j x
    rw [Tr.set_n]
    by_cases hi : i = 0
    · subst hi
      rw [if_pos rfl, Tr.get_n, Tr.get_n]
      by_cases hj : j = 0
      · subst hj; rfl
      · rw [if_neg hj, if_neg hj, if_neg (show ¬ 0 = j from fun e => hj e.symm)]
    · rw [if_neg hi]
      by_cases h1 : (i - 1) % 2 = 0
      · rw [if_pos h1, Tr.get_n, Tr.get_n]
        by_cases hj : j = 0
        · subst hj; rw [if_pos rfl, if_neg hi, if_pos rfl]
        · rw [if_neg hj, if_neg hj]
          by_cases h2 : (j - 1) % 2 = 0
          · rw [if_pos h2, if_pos h2, ihl]
            by_cases he : i = j
            · subst he; rw [if_pos rfl, if_pos rfl]
            · rw [if_neg he, if_neg (by omega)]
          · rw [if_neg h2, if_neg h2, if_neg (fun e => by subst e; exact h2 h1)]
      · rw [if_neg h1, Tr.get_n, Tr.get_n]
        by_cases hj : j = 0
        · subst hj; rw [if_pos rfl, if_neg hi, if_pos rfl]
        · rw [if_neg hj, if_neg hj]
          by_cases h2 : (j - 1) % 2 = 0
          · rw [if_pos h2, if_pos h2, if_neg (fun e => by subst e; exact h1 h2)]
          · rw [if_neg h2, if_neg h2, ihr]
            by_cases he : i = j
            · subst he; rw [if_pos rfl, if_pos rfl]
            · rw [if_neg he, if_neg (by omega)]
theorem Tr.get_set_same (t : Tr α) (i : Nat) (x : α) : (t.set i x).get i = some x := by rw [Tr.get_set, if_pos rfl]
theorem Tr.get_set_ne (t : Tr α) {i j : Nat} (x : α) (h : i ≠ j) : (t.set i x).get j = t.get j := by rw [Tr.get_set, if_neg h]
theorem trOf_get (f : Nat → Option α) : ∀ (k : Nat) (t : Tr α) (i : Nat), (trOf f k t).get i = if i < k then (match f i with | some x => some x | none => t.get i) else t.get i := by
  intro k
  induction k with
  | zero => intro t i; rw [if_neg (by omega)]; rfl
  | succ k ih =>
    intro t i
    unfold trOf
    cases hk : f k with
    | none =>
      simp only [ih]
      by_cases h : i < k
      · rw [if_pos h, if_pos (by omega)]
      · rw [if_neg h]
        by_cases he : i = k
        · subst he; rw [if_pos (by omega), hk]
        · rw [if_neg (by omega)]
    | some x =>
      simp only [ih]
      by_cases h : i < k
      · rw [if_pos h, if_pos (by omega)]
        cases f i with
        | some y => rfl
        | none => exact Tr.get_set_ne _ _ (by omega)
      · rw [if_neg h]
        by_cases he : i = k
        · subst he; rw [if_pos (by omega), hk, Tr.get_set_same]
        · rw [if_neg (by omega), Tr.get_set_ne _ _ (by omega)]
end tr

/-! ### The tables -/
theorem mkTI_info {P : Program} {t : TypeId} {x : TI} (h : mkTI P t = some x) : ∃ i d, P.info? t = some i ∧ P.underlying t = some d ∧ x.desc = d ∧ x.size = i.size ∧ x.isAgg = descAgg d ∧ x.bytes = i.bytes ∧ x.comparable = i.comparable ∧
    (x.zeroOk = true → ∃ v, i.zero = some v ∧ x.zero = (match ofV v with | .agg l => l | y => [y]) ∧ x.zero.length = x.size ∧ x.zv = ofV v) := by
  unfold mkTI at h
  split at h
  · rename_i i d hi hd
    cases h
    refine ⟨i, d, hi, hd, rfl, rfl, rfl, rfl, rfl, fun hz => ?_⟩
    cases hv : i.zero with
    | none => rw [hv] at hz; simp at hz
    | some v =>
      simp only [hv, Option.isSome_some, Bool.true_and] at hz
      exact ⟨v, rfl, rfl, (by simpa using hz), (by simp only)⟩
  · cases h
theorem Ctx.of_ti {P : Program} {gl : Nat → AV} {eqT : Knob} {t : TypeId} {x : TI} (h : (Ctx.of P gl eqT).ti t = some x) : mkTI P t = some x := by
  unfold Ctx.ti at h
  split at h
  · rename_i y hy
    cases h
    simp only [Ctx.of] at hy
    rw [trOf_get] at hy
    split at hy
    · simpa using hy
    · rw [Tr.get_e] at hy; cases hy
  · cases h
theorem Ctx.of_fn {P : Program} {gl : Nat → AV} {eqT : Knob} {f : FuncId} {fn : Func} (h : (Ctx.of P gl eqT).fn.get f = some fn) : P.funcs[f]? = some fn := by
  simp only [Ctx.of] at h
  rw [trOf_get] at h
  split at h
  · cases hf : P.funcs[f]? with
    | none => rw [hf] at h; rw [Tr.get_e] at h; cases h
    | some y => rw [hf] at h; exact h
  · rw [Tr.get_e] at h; cases h

/-! ### Values -/
/-- Where an abstract block lies: its number in the model, and how many cells it has there. -/
structure Loc where
  loc : Nat → Option (Nat × Nat)
  fz : Nat → Option Obj
instance : CoeFun Loc fun _ => Nat → Option (Nat × Nat) := ⟨Loc.loc⟩
/-- A block that nobody writes any more. -/
def Fz (F : Nat → Option Obj) (m : Loc) (b : Nat) (o : Obj) : Prop := F b = some o ∨ m.fz b = some o

inductive FnRel (m : Loc) : Fn → Fn → Prop
  | func (f : FuncId) : FnRel m (.func f) (.func f)
  | yield {l cl z : Nat} (h : m l = some (cl, z)) : FnRel m (.yield l) (.yield cl)

/-- Whether a value stands for one of the model. 'F': blocks that nobody writes. -/
inductive VRel (P : Program) (F : Nat → Option Obj) (m : Loc) : AV → Value → Prop
  | undef (v : Value) : VRel P F m .undef v
  | bool (b : Bool) : VRel P F m (.bool b) (.bool b)
  | int (k : IntKind) (n : Int) : VRel P F m (.int k n) (.int k n)
  | str (s : ByteArray) : VRel P F m (.str (s.data.toList.map UInt8.toNat)) (.string s)
  | nilptr : VRel P F m .nilptr (.pointer none)
  | ptr {r o b z : Nat} (h : m r = some (b, z)) : VRel P F m (.ptr r o) (.pointer (some ⟨b, o, none⟩))
  | nilsl : VRel P F m .nilsl (.slice none 0 0)
  | sl {r o len cap es : Nat} {x : Bool} {b z ccap : Nat} (h : m r = some (b, z)) (hl : len ≤ cap) (hc : cap ≤ ccap) (hx : x = true → ccap = cap) (hz : o + ccap * es ≤ z) :
      VRel P F m (.sl r o len cap es x) (.slice (some ⟨b, o, none⟩) len ccap)
  | isl0 (a : Option Addr) (cap : Nat) : VRel P F m (.isl []) (.slice a 0 cap)
  | isl {xs : List (List AV)} {b off cap : Nat} {arr : Array Value} {e : TypeId} {fz : Nat × Nat} (es : Nat) (f : Nat → Nat → Value) (hF : Fz F m b (.cells arr e fz)) (hl : xs.length ≤ cap) (hes : ∀ c ∈ xs, c.length = es)
      (hf : ∀ i j, i < xs.length → j < es → arr[off + i * es + j]? = some (f i j)) (hc : ∀ (i j : Nat) (c : List AV) (x : AV), xs[i]? = some c → c[j]? = some x → VRel P F m x (f i j)) :
      VRel P F m (.isl xs) (.slice (some ⟨b, off, none⟩) xs.length cap)
  | iptr {xs : List (List AV)} {i o b off : Nat} {arr : Array Value} {e : TypeId} {fz : Nat × Nat} (es : Nat) (f : Nat → Nat → Value) (hF : Fz F m b (.cells arr e fz)) (hi : i < xs.length) (hes : ∀ c ∈ xs, c.length = es)
      (hf : ∀ i j, i < xs.length → j < es → arr[off + i * es + j]? = some (f i j)) (hc : ∀ (i j : Nat) (c : List AV) (x : AV), xs[i]? = some c → c[j]? = some x → VRel P F m x (f i j)) :
      VRel P F m (.iptr xs i o) (.pointer (some ⟨b, off + i * es + o, none⟩))
  | nilmap : VRel P F m .nilmap (.map none)
  | map {r b z : Nat} (h : m r = some (b, z)) : VRel P F m (.map r) (.map (some b))
  | fn {f f' : Fn} {l k : List AV} {a c : Array Value} (hf : FnRel m f f') (hl : l.length = a.size) (hc : ∀ (i : Nat) (x : AV) (y : Value), l[i]? = some x → a[i]? = some y → VRel P F m x y)
      (hk : k.length = c.size) (hd : ∀ (i : Nat) (x : AV) (y : Value), k[i]? = some x → c[i]? = some y → VRel P F m x y) : VRel P F m (.fn f l k) (.func f' a c)
  | nilfn : VRel P F m .nilfn .nilFunc
  | iface (t : TypeId) {v : AV} {v' : Value} (h : VRel P F m v v') : VRel P F m (.iface t v) (.iface t v')
  | nilif : VRel P F m .nilif .nilIface
  | agg {l : List AV} {a : Array Value} (hl : l.length = a.size) (hc : ∀ (i : Nat) (x : AV) (y : Value), l[i]? = some x → a[i]? = some y → VRel P F m x y) : VRel P F m (.agg l) (.agg a)
  | tup {l : List AV} {a : Array Value} (hl : l.length = a.size) (hc : ∀ (i : Nat) (x : AV) (y : Value), l[i]? = some x → a[i]? = some y → VRel P F m x y) : VRel P F m (.tup l) (.tuple a)
  | typ (t : TypeId) : VRel P F m (.typ t) (.pointer (some ⟨P.globals.size, t, none⟩))
  | raw {v : Value} (h : isFlt v = true) : VRel P F m (.raw v) v

/-- One map goes on where the other one is. -/
structure Loc.le (m m' : Loc) : Prop where
  to : ∀ r c, m r = some c → m' r = some c
  frz : ∀ b o, m.fz b = some o → m'.fz b = some o
instance (m m' : Loc) : CoeFun (Loc.le m m') fun _ => ∀ r c, m r = some c → m' r = some c := ⟨Loc.le.to⟩
theorem Loc.le_refl (m : Loc) : Loc.le m m := ⟨fun _ _ h => h, fun _ _ h => h⟩
theorem Loc.le_trans {a b c : Loc} (h : Loc.le a b) (k : Loc.le b c) : Loc.le a c := ⟨fun r x hx => k r x (h r x hx), fun b o hb => k.frz b o (h.frz b o hb)⟩
theorem Fz.mono {F : Nat → Option Obj} {m m' : Loc} (hm : Loc.le m m') {b : Nat} {o : Obj} (h : Fz F m b o) : Fz F m' b o := h.elim .inl fun h => .inr (hm.frz b o h)
theorem FnRel.mono {m m' : Loc} (hm : Loc.le m m') {f f' : Fn} (h : FnRel m f f') : FnRel m' f f' := by
  cases h with
  | func f => exact .func f
  | yield h => exact .yield (hm _ _ h)
theorem VRel.mono {P : Program} {F : Nat → Option Obj} {m m' : Loc} (hm : Loc.le m m') {x : AV} {v : Value} (h : VRel P F m x v) : VRel P F m' x v := by
  induction h with
  | undef v => exact .undef v
  | bool b => exact .bool b
  | int k n => exact .int k n
  | str s => exact .str s
  | nilptr => exact .nilptr
  | ptr h => exact .ptr (hm _ _ h)
  | nilsl => exact .nilsl
  | sl h hl hc hx hz => exact .sl (hm _ _ h) hl hc hx hz
  | isl0 a cap => exact .isl0 a cap
  | isl es f hF hl hes hf _ ih => exact .isl es f (hF.mono hm) hl hes hf ih
  | iptr es f hF hi hes hf _ ih => exact .iptr es f (hF.mono hm) hi hes hf ih
  | nilmap => exact .nilmap
  | map h => exact .map (hm _ _ h)
  | fn hf hl _ hk _ ih1 ih2 => exact .fn (hf.mono hm) hl ih1 hk ih2
  | nilfn => exact .nilfn
  | iface t _ ih => exact .iface t ih
  | nilif => exact .nilif
  | agg hl _ ih => exact .agg hl ih
  | tup hl _ ih => exact .tup hl ih
  | typ t => exact .typ t
  | raw h => exact .raw h

/-- Lists of values. -/
structure LRel (P : Program) (F : Nat → Option Obj) (m : Loc) (l : List AV) (a : List Value) : Prop where
  len : l.length = a.length
  at' : ∀ (i : Nat) (x : AV) (y : Value), l[i]? = some x → a[i]? = some y → VRel P F m x y

section lists
variable {P : Program} {F : Nat → Option Obj} {m : Loc}
theorem LRel.nil : LRel P F m [] [] := ⟨rfl, fun i x y h => by simp at h⟩
theorem LRel.cons {x : AV} {y : Value} {l : List AV} {a : List Value} (h : VRel P F m x y) (hl : LRel P F m l a) : LRel P F m (x :: l) (y :: a) := by
  refine ⟨by simp [hl.len], fun i p q hp hq => ?_⟩
  cases i with
  | zero => simp at hp hq; subst hp; subst hq; exact h
  | succ i => exact hl.at' i p q (by simpa using hp) (by simpa using hq)
theorem LRel.head {x : AV} {y : Value} {l : List AV} {a : List Value} (h : LRel P F m (x :: l) (y :: a)) : VRel P F m x y := h.at' 0 x y rfl rfl
theorem LRel.tail {x : AV} {y : Value} {l : List AV} {a : List Value} (h : LRel P F m (x :: l) (y :: a)) : LRel P F m l a :=
  ⟨by have := h.len; simpa using this, fun i p q hp hq => h.at' (i + 1) p q (by simpa using hp) (by simpa using hq)⟩
theorem LRel.cases_cons {x : AV} {l : List AV} {a : List Value} (h : LRel P F m (x :: l) a) : ∃ y k, a = y :: k ∧ VRel P F m x y ∧ LRel P F m l k := by
  cases a with
  | nil => have := h.len; simp at this
  | cons y k => exact ⟨y, k, rfl, h.head, h.tail⟩
theorem LRel.cases_nil {a : List Value} (h : LRel P F m [] a) : a = [] := by
  cases a with
  | nil => rfl
  | cons y k => have := h.len; simp at this
theorem LRel.mono {m' : Loc} (hm : Loc.le m m') {l : List AV} {a : List Value} (h : LRel P F m l a) : LRel P F m' l a := ⟨h.len, fun i x y hx hy => (h.at' i x y hx hy).mono hm⟩
theorem LRel.append {l l' : List AV} {a a' : List Value} (h : LRel P F m l a) (h' : LRel P F m l' a') : LRel P F m (l ++ l') (a ++ a') := by
  refine ⟨by simp [h.len, h'.len], fun i x y hx hy => ?_⟩
  by_cases hi : i < l.length
  · rw [List.getElem?_append_left hi] at hx
    rw [List.getElem?_append_left (h.len ▸ hi)] at hy
    exact h.at' i x y hx hy
  · rw [List.getElem?_append_right (by omega)] at hx
    rw [List.getElem?_append_right (by rw [← h.len]; omega), ← h.len] at hy
    exact h'.at' _ x y hx hy
theorem LRel.take {l : List AV} {a : List Value} (h : LRel P F m l a) (k : Nat) : LRel P F m (l.take k) (a.take k) := by
  refine ⟨by simp [h.len], fun i x y hx hy => ?_⟩
  rw [List.getElem?_take] at hx hy
  split at hx
  · rename_i hi; rw [if_pos hi] at hy; exact h.at' i x y hx hy
  · cases hx
theorem LRel.drop {l : List AV} {a : List Value} (h : LRel P F m l a) (k : Nat) : LRel P F m (l.drop k) (a.drop k) := by
  refine ⟨by simp [h.len], fun i x y hx hy => ?_⟩
  rw [List.getElem?_drop] at hx hy
  exact h.at' _ x y hx hy
theorem LRel.get {l : List AV} {a : List Value} (h : LRel P F m l a) {i : Nat} {x : AV} (hx : l[i]? = some x) : ∃ y, a[i]? = some y ∧ VRel P F m x y := by
  have hi : i < l.length := (List.getElem?_eq_some_iff.1 hx).1
  have hj : i < a.length := h.len ▸ hi
  exact ⟨a[i], List.getElem?_eq_getElem hj, h.at' i x _ hx (List.getElem?_eq_getElem hj)⟩
theorem LRel.agg {l : List AV} {a : Array Value} (h : LRel P F m l a.toList) : VRel P F m (.agg l) (.agg a) :=
  .agg (by simpa using h.len) fun i x y hx hy => h.at' i x y hx (by simpa using hy)
theorem LRel.tup {l : List AV} {a : Array Value} (h : LRel P F m l a.toList) : VRel P F m (.tup l) (.tuple a) :=
  .tup (by simpa using h.len) fun i x y hx hy => h.at' i x y hx (by simpa using hy)
theorem LRel.of_agg {l : List AV} {v : Value} (h : VRel P F m (.agg l) v) : ∃ a, v = .agg a ∧ LRel P F m l a.toList := by
  cases h with
  | agg hl hc => exact ⟨_, rfl, by simpa using hl, fun i x y hx hy => hc i x y hx (by simpa using hy)⟩
theorem LRel.of_tup {l : List AV} {v : Value} (h : VRel P F m (.tup l) v) : ∃ a, v = .tuple a ∧ LRel P F m l a.toList := by
  cases h with
  | tup hl hc => exact ⟨_, rfl, by simpa using hl, fun i x y hx hy => hc i x y hx (by simpa using hy)⟩
end lists

mutual
theorem ofV_rel (P : Program) (F : Nat → Option Obj) (m : Loc) : (v : Value) → VRel P F m (ofV v) v
  | .bool b => by simp only [ofV]; exact .bool b
  | .int k n => by simp only [ofV]; exact .int k n
  | .string s => by simp only [ofV]; exact .str s
  | .pointer none => by simp only [ofV]; exact .nilptr
  | .pointer (some a) => by simp only [ofV]; exact .undef _
  | .slice none 0 0 => by simp only [ofV]; exact .nilsl
  | .slice none 0 (c + 1) => by simp only [ofV]; exact .undef _
  | .slice none (l + 1) c => by simp only [ofV]; exact .undef _
  | .slice (some a) l c => by simp only [ofV]; exact .undef _
  | .map none => by simp only [ofV]; exact .nilmap
  | .map (some r) => by simp only [ofV]; exact .undef _
  | .nilFunc => by simp only [ofV]; exact .nilfn
  | .nilIface => by simp only [ofV]; exact .nilif
  | .iface t v => by simp only [ofV]; exact .iface t (ofV_rel P F m v)
  | .agg ⟨l⟩ => by simp only [ofV]; exact LRel.agg (ofVs_rel P F m l)
  | .tuple ⟨l⟩ => by simp only [ofV]; exact LRel.tup (ofVs_rel P F m l)
  | .float k b => by simp only [ofV]; exact .raw rfl
  | .complex k a b => by simp only [ofV]; exact .raw rfl
  | .chan r => by simp only [ofV]; exact .undef _
  | .func f a b => by
    unfold ofV
    split <;> first
      | exact .undef _
      | (rename_i h; cases h; exact .fn (.func _) rfl (fun i x y h _ => by simp at h) rfl (fun i x y h _ => by simp at h))
      | (simp_all; done)
      | skip
theorem ofVs_rel (P : Program) (F : Nat → Option Obj) (m : Loc) : (l : List Value) → LRel P F m (ofVs l) l
  | [] => by simp only [ofVs]; exact .nil
  | v :: l => by simp only [ofVs]; exact .cons (ofV_rel P F m v) (ofVs_rel P F m l)
end
end Go.Ax

/- Memories that stand for each other, and what keeps them so. -/
namespace Go.Ax

def AObj.live : AObj → Bool
  | .dead => false
  | _ => true

/-- What a tree of values tells of a frame's temporaries. -/
structure TRel (P : Program) (F : Nat → Option Obj) (m : Loc) (tm : Tr AV) (n : Nat) (a : Array Value) : Prop where
  size : a.size = n
  at' : ∀ t, t < n → VRel P F m (tget tm t) (a.getD t Go.undef)
  out : ∀ t, n ≤ t → tget tm t = .tup []

structure ERel (P : Program) (F : Nat → Option Obj) (m : Loc) (x : AV × AV × Nat) (e : MapEntry) : Prop where
  key : VRel P F m x.1 e.key
  val : VRel P F m x.2.1 e.val
  born : x.2.2 = e.born

/-- Whether an abstract block stands for what lies at its place. -/
def ORel (P : Program) (F : Nat → Option Obj) (m : Loc) (z : Nat) : AObj → Option Obj → Prop
  | .cells e cs, ob => ∃ arr, ob = some (.cells arr e (0, 0)) ∧ arr.size = z ∧ cs.length ≤ z ∧ ∀ (i : Nat) (x : AV) (y : Value), cs[i]? = some x → arr[i]? = some y → VRel P F m x y
  | .map es clock, ob => ∃ ces : Array MapEntry, ob = some (.map ces clock) ∧ es.length = ces.size ∧ ∀ (i : Nat) (x : AV × AV × Nat) (y : MapEntry), es[i]? = some x → ces[i]? = some y → ERel P F m x y
  | .siter s pos, ob => ∃ b : ByteArray, ob = some (.stringIter b pos) ∧ b.data.toList.map UInt8.toNat = s
  | .miter q since seen last, ob => ∃ b y, m q = some (b, y) ∧ ob = some (.mapIter (some b) since seen.toArray last)
  | .loop st pend tm n ps asn body ds, ob => ∃ fn tmps cds zd, ob = some (.loop { state := st, pending := pend, fn := fn, tmps := tmps, params := ps.toArray, assign := asn, body := body, defers := cds }) ∧ TRel P F m tm n tmps ∧ m ds = some (cds, zd)
  | .defd ds, ob => (ds = some [] ∧ ob = some (.deferred (some []))) ∨ (ds = none ∧ ob = some (.deferred none))
  | .dead, _ => True

structure HRel (P : Program) (F : Nat → Option Obj) (m : Loc) (h : Hp) (w : World) : Prop where
  obj : ∀ r o b z, h.get r = some o → m r = some (b, z) → ORel P F m z o w.heap[b]?
  inj : ∀ r s o q b y z, h.get r = some o → o.live = true → h.get s = some q → q.live = true → m r = some (b, y) → m s = some (b, z) → r = s
  out : ∀ r o b z, h.get r = some o → o.live = true → m r = some (b, z) → F b = none ∧ m.fz b = none
  frz : ∀ b o, Fz F m b o → w.heap[b]? = some o
  wf : ∀ r, h.nx ≤ r → h.get r = none

/-- What no step of ours turns. -/
structure SameOut (w w' : World) : Prop where
  os : w'.os = w.os
  tape : w'.tape = w.tape
  output : w'.output = w.output
theorem SameOut.refl (w : World) : SameOut w w := ⟨rfl, rfl, rfl⟩
theorem SameOut.trans {a b c : World} (h : SameOut a b) (k : SameOut b c) : SameOut a c := ⟨k.os.trans h.os, k.tape.trans h.tape, k.output.trans h.output⟩

/-- The memory behind a step: what stood for it goes on standing for it, new blocks have new names, and what none of the names means is as it was. -/
structure Step (P : Program) (F : Nat → Option Obj) (m : Loc) (h h' : Hp) (w w' : World) (m' : Loc) : Prop where
  le : Loc.le m m'
  new : ∀ r c, m' r = some c → m r = none → h.nx ≤ r ∧ r < h'.nx
  rel : HRel P F m' h' w'
  same : SameOut w w'
  size : w.heap.size ≤ w'.heap.size
  old : ∀ b, b < w.heap.size → (∀ r o z, h.get r = some o → o.live = true → m r ≠ some (b, z)) → w'.heap[b]? = w.heap[b]?
  nx : h.nx ≤ h'.nx
  keep : ∀ r o' c, h'.get r = some o' → o'.live = true → m r = some c → ∃ o, h.get r = some o ∧ o.live = true
  mnew : ∀ r b z, m' r = some (b, z) → m r = none → (∃ o, h'.get r = some o ∧ o.live = true) → w.heap.size ≤ b ∨ ∃ s o y, h.get s = some o ∧ o.live = true ∧ m s = some (b, y)
  fnew : ∀ b o, m'.fz b = some o → m.fz b = some o ∨ w.heap.size ≤ b ∨ ∃ s q y, h.get s = some q ∧ q.live = true ∧ m s = some (b, y)

section
variable {P : Program} {F : Nat → Option Obj} {m m' : Loc}
theorem TRel.mono (hm : Loc.le m m') {tm : Tr AV} {n : Nat} {a : Array Value} (h : TRel P F m tm n a) : TRel P F m' tm n a := ⟨h.size, fun t ht => (h.at' t ht).mono hm, h.out⟩
theorem ORel.mono (hm : Loc.le m m') {z : Nat} {o : AObj} {ob : Option Obj} (h : ORel P F m z o ob) : ORel P F m' z o ob := by
  cases o with
  | cells e cs => obtain ⟨arr, h1, h2, h3, h4⟩ := h; exact ⟨arr, h1, h2, h3, fun i x y hx hy => (h4 i x y hx hy).mono hm⟩
  | map es clock => obtain ⟨ces, h1, h2, h3⟩ := h; exact ⟨ces, h1, h2, fun i x y hx hy => ⟨(h3 i x y hx hy).key.mono hm, (h3 i x y hx hy).val.mono hm, (h3 i x y hx hy).born⟩⟩
  | siter s pos => exact h
  | miter q since seen last => obtain ⟨b, y, h1, h2⟩ := h; exact ⟨b, y, hm _ _ h1, h2⟩
  | loop st pend tm n ps asn body ds => obtain ⟨fn, tmps, cds, zd, h1, h2, h3⟩ := h; exact ⟨fn, tmps, cds, zd, h1, h2.mono hm, hm _ _ h3⟩
  | defd ds => exact h
  | dead => trivial
theorem ORel.some {z : Nat} {o : AObj} {ob : Option Obj} (h : ORel P F m z o ob) (hl : o.live = true) : ∃ x, ob = some x := by
  cases o with
  | cells e cs => obtain ⟨arr, h1, _⟩ := h; exact ⟨_, h1⟩
  | map es clock => obtain ⟨ces, h1, _⟩ := h; exact ⟨_, h1⟩
  | siter s pos => obtain ⟨b, h1, _⟩ := h; exact ⟨_, h1⟩
  | miter q since seen last => obtain ⟨_, _, _, h1⟩ := h; exact ⟨_, h1⟩
  | loop st pend tm n ps asn body ds => obtain ⟨fn, tmps, cds, zd, h1, _⟩ := h; exact ⟨_, h1⟩
  | defd ds => rcases h with ⟨_, h⟩ | ⟨_, h⟩ <;> exact ⟨_, h⟩
  | dead => cases hl
theorem HRel.lt {h : Hp} {w : World} (hr : HRel P F m h w) {r : Nat} {o : AObj} {b z : Nat} (hg : h.get r = some o) (hl : o.live = true) (hm : m r = some (b, z)) : b < w.heap.size := by
  obtain ⟨x, hx⟩ := (hr.obj r o b z hg hm).some hl
  exact (Array.getElem?_eq_some_iff.1 hx).1
theorem HRel.flt {h : Hp} {w : World} (hr : HRel P F m h w) {b : Nat} {o : Obj} (hf : Fz F m b o) : b < w.heap.size := (Array.getElem?_eq_some_iff.1 (hr.frz b o hf)).1

/-- Nothing happens to memory. -/
theorem Step.refl {h : Hp} {w w' : World} (hr : HRel P F m h w) (hh : w'.heap = w.heap) (hs : SameOut w w') : Step P F m h h w w' m where
  le := Loc.le_refl m
  new r c hc hn := by rw [hn] at hc; cases hc
  rel := ⟨fun r o b z hg hm => by rw [hh]; exact hr.obj r o b z hg hm, hr.inj, hr.out, fun b o hb => by rw [hh]; exact hr.frz b o hb, hr.wf⟩
  same := hs
  size := by rw [hh]; exact Nat.le_refl _
  old b _ _ := by rw [hh]
  nx := Nat.le_refl _
  keep r o' c hg hl _ := ⟨o', hg, hl⟩
  mnew r b z hc hn _ := by rw [hn] at hc; cases hc
  fnew b o h := .inl h

/-- A new name. -/
def Loc.put (m : Loc) (r b z : Nat) : Loc := ⟨fun s => if s = r then some (b, z) else m s, m.fz⟩
theorem Loc.put_same (m : Loc) (r b z : Nat) : m.put r b z r = some (b, z) := if_pos rfl
theorem Loc.put_ne (m : Loc) {r s : Nat} (b z : Nat) (h : s ≠ r) : m.put r b z s = m s := if_neg h
theorem Loc.le_put {r b z : Nat} (hn : m r = none) : Loc.le m (m.put r b z) := ⟨fun s c hs => by
  by_cases h : s = r
  · subst h; rw [hn] at hs; cases hs
  · rw [Loc.put_ne m _ _ h]; exact hs, fun _ _ h => h⟩

theorem Hp.get_new (h : Hp) (o : AObj) (r : Nat) : (h.new o).get r = if h.nx = r then some o else h.get r := by
  show (h.m.set h.nx o).get r = _
  rw [Tr.get_set]; rfl
theorem Hp.get_put (h : Hp) (s : Nat) (o : AObj) (r : Nat) : (h.put s o).get r = if s = r then some o else h.get r := by
  show (h.m.set s o).get r = _
  rw [Tr.get_set]; rfl
theorem Hp.nx_new (h : Hp) (o : AObj) : (h.new o).nx = h.nx + 1 := rfl
theorem Hp.nx_put (h : Hp) (s : Nat) (o : AObj) : (h.put s o).nx = h.nx := rfl

/-- One block more. -/
theorem Step.alloc {h : Hp} {w w' : World} (hr : HRel P F m h w) (hn : m h.nx = none) {o : AObj} {ob : Obj} {z : Nat}
    (hh : w'.heap = w.heap.push ob) (hs : SameOut w w') (ho : ORel P F (m.put h.nx w.heap.size z) z o (some ob)) :
    Step P F m h (h.new o) w w' (m.put h.nx w.heap.size z) := by
  have hle : Loc.le m (m.put h.nx w.heap.size z) := Loc.le_put hn
  have hold : ∀ b, b < w.heap.size → w'.heap[b]? = w.heap[b]? := fun b hb => by rw [hh, Array.getElem?_push, if_neg (by omega)]
  have hnew : w'.heap[w.heap.size]? = some ob := by rw [hh, Array.getElem?_push, if_pos rfl]
  have hF : F w.heap.size = none ∧ m.fz w.heap.size = none := by
    constructor
    · cases hf : F w.heap.size with
      | none => rfl
      | some x => have := hr.flt (.inl hf); omega
    · cases hf : m.fz w.heap.size with
      | none => rfl
      | some x => have := hr.flt (.inr hf); omega
  refine ⟨hle, ?_, ⟨?_, ?_, ?_, ?_, fun r hr' => by rw [Hp.get_new, if_neg (by have : h.nx + 1 ≤ r := hr'; omega)]; exact hr.wf r (Nat.le_of_succ_le hr')⟩, hs, (by rw [hh]; simp), fun b hb _ => hold b hb, Nat.le_succ _, ?_, ?_, fun b o h => .inl h⟩
  · intro r c hc hn'
    by_cases h' : r = h.nx
    · subst h'; exact ⟨Nat.le_refl _, Nat.lt_succ_self _⟩
    · rw [Loc.put_ne m _ _ h', hn'] at hc; cases hc
  · intro r q b y hg hm
    rw [Hp.get_new] at hg
    by_cases h' : h.nx = r
    · rw [if_pos h'] at hg; cases hg
      subst h'
      rw [Loc.put_same] at hm; cases hm
      rw [hnew]; exact ho
    · rw [if_neg h'] at hg
      rw [Loc.put_ne m _ _ (fun e => h' e.symm)] at hm
      have := hr.obj r q b y hg hm
      by_cases hl : q.live = true
      · rw [hold b (hr.lt hg hl hm)]; exact this.mono hle
      · cases q <;> first | trivial | exact absurd rfl hl
  · intro r s q p b y y' hg hl hg' hl' hm hm'
    rw [Hp.get_new] at hg hg'
    by_cases h1 : h.nx = r
    · by_cases h2 : h.nx = s
      · exact h1.symm.trans h2
      · rw [if_neg h2] at hg'
        subst h1
        rw [Loc.put_same] at hm; cases hm
        rw [Loc.put_ne m _ _ (fun e => h2 e.symm)] at hm'
        have := hr.lt hg' hl' hm'; omega
    · rw [if_neg h1] at hg
      rw [Loc.put_ne m _ _ (fun e => h1 e.symm)] at hm
      by_cases h2 : h.nx = s
      · subst h2
        rw [Loc.put_same] at hm'; cases hm'
        have := hr.lt hg hl hm; omega
      · rw [if_neg h2] at hg'
        rw [Loc.put_ne m _ _ (fun e => h2 e.symm)] at hm'
        exact hr.inj r s q p b y y' hg hl hg' hl' hm hm'
  · intro r q b y hg hl hm
    rw [Hp.get_new] at hg
    by_cases h' : h.nx = r
    · subst h'
      rw [Loc.put_same] at hm; cases hm; exact hF
    · rw [if_neg h'] at hg
      rw [Loc.put_ne m _ _ (fun e => h' e.symm)] at hm
      exact hr.out r q b y hg hl hm
  · intro b x hb
    rw [hold b (hr.flt hb)]; exact hr.frz b x hb
  · intro r q c hg hl hm
    rw [Hp.get_new] at hg
    by_cases h' : h.nx = r
    · subst h'; rw [hn] at hm; cases hm
    · rw [if_neg h'] at hg; exact ⟨q, hg, hl⟩
  · intro r b y hc hn' _
    by_cases h' : r = h.nx
    · subst h'; rw [Loc.put_same] at hc; cases hc; exact .inl (Nat.le_refl _)
    · rw [Loc.put_ne m _ _ h', hn'] at hc; cases hc

/-- One block turned. -/
theorem Step.put {h : Hp} {w w' : World} (hr : HRel P F m h w) {r : Nat} {q : AObj} {b z : Nat} (hg : h.get r = some q) (hq : q.live = true) (hm : m r = some (b, z)) {o : AObj} {ob : Obj}
    (hat : w'.heap[b]? = some ob) (hne : ∀ c, c ≠ b → w'.heap[c]? = w.heap[c]?) (hsz : w'.heap.size = w.heap.size) (hs : SameOut w w') (ho : ORel P F m z o (some ob)) :
    Step P F m h (h.put r o) w w' m := by
  refine ⟨Loc.le_refl m, (fun s c hc hn => by rw [hn] at hc; cases hc), ⟨?_, ?_, ?_, ?_, fun s hs' => by rw [Hp.get_put, if_neg (fun e => by subst e; have := hr.wf _ hs'; rw [hg] at this; cases this)]; exact hr.wf s hs'⟩, hs, (by rw [hsz]; exact Nat.le_refl _), ?_, Nat.le_refl _, ?_, (fun s b z hc hn _ => by rw [hn] at hc; cases hc), fun b o h => .inl h⟩
  · intro s p c y hg' hm'
    rw [Hp.get_put] at hg'
    by_cases h' : r = s
    · rw [if_pos h'] at hg'; cases hg'
      subst h'
      rw [hm] at hm'; cases hm'
      rw [hat]; exact ho
    · rw [if_neg h'] at hg'
      have h1 := hr.obj s p c y hg' hm'
      by_cases hl : p.live = true
      · have hc : c ≠ b := fun e => h' (hr.inj r s q p b z y hg hq hg' hl hm (e ▸ hm'))
        rw [hne c hc]; exact h1
      · cases p <;> first | trivial | exact absurd rfl hl
  · intro s t p p' c y y' hg1 hl1 hg2 hl2 hm1 hm2
    rw [Hp.get_put] at hg1 hg2
    have e1 : ∃ o1, h.get s = some o1 ∧ o1.live = true := by
      by_cases h' : r = s
      · exact ⟨q, h' ▸ hg, hq⟩
      · rw [if_neg h'] at hg1; exact ⟨p, hg1, hl1⟩
    have e2 : ∃ o1, h.get t = some o1 ∧ o1.live = true := by
      by_cases h' : r = t
      · exact ⟨q, h' ▸ hg, hq⟩
      · rw [if_neg h'] at hg2; exact ⟨p', hg2, hl2⟩
    obtain ⟨o1, a1, b1⟩ := e1
    obtain ⟨o2, a2, b2⟩ := e2
    exact hr.inj s t o1 o2 c y y' a1 b1 a2 b2 hm1 hm2
  · intro s p c y hg' hl hm'
    rw [Hp.get_put] at hg'
    by_cases h' : r = s
    · subst h'; exact hr.out r q c y hg hq hm'
    · rw [if_neg h'] at hg'; exact hr.out s p c y hg' hl hm'
  · intro c x hx
    have hc : c ≠ b := fun e => by have := hr.out r q b z hg hq hm; rw [← e] at this; rcases hx with hx | hx <;> simp [hx] at this
    rw [hne c hc]; exact hr.frz c x hx
  · intro c hc hall
    exact hne c (fun e => hall r q z hg hq (e ▸ hm))
  · intro s o' c hg' hl _
    rw [Hp.get_put] at hg'
    by_cases h' : r = s
    · exact ⟨q, h' ▸ hg, hq⟩
    · rw [if_neg h'] at hg'; exact ⟨o', hg', hl⟩

/-- Two steps. -/
theorem Step.trans {h h1 h2 : Hp} {w w1 w2 : World} {m1 m2 : Loc} (a : Step P F m h h1 w w1 m1) (b : Step P F m1 h1 h2 w1 w2 m2) : Step P F m h h2 w w2 m2 where
  le := Loc.le_trans a.le b.le
  new r c hc hn := by
    cases h1r : m1 r with
    | none => have := b.new r c hc h1r; exact ⟨Nat.le_trans a.nx this.1, this.2⟩
    | some d => have := a.new r d h1r hn; exact ⟨this.1, Nat.lt_of_lt_of_le this.2 b.nx⟩
  rel := b.rel
  same := a.same.trans b.same
  size := Nat.le_trans a.size b.size
  old c hc hall := by
    rw [b.old c (Nat.lt_of_lt_of_le hc a.size) ?_, a.old c hc hall]
    intro r o z hg hl hm
    cases hr : m r with
    | some d =>
      obtain ⟨o', hg', hl'⟩ := a.keep r o d hg hl hr
      have := a.le r d hr
      rw [hm] at this; cases this
      exact hall r o' z hg' hl' hr
    | none =>
      rcases a.mnew r c z hm hr ⟨o, hg, hl⟩ with h' | ⟨s, o', y, hg', hl', hm'⟩
      · omega
      · exact hall s o' y hg' hl' hm'
  nx := Nat.le_trans a.nx b.nx
  keep r o' c hg hl hm := by
    obtain ⟨o1, hg1, hl1⟩ := b.keep r o' c hg hl (a.le r c hm)
    exact a.keep r o1 c hg1 hl1 hm
  mnew r c z hc hn hlive := by
    obtain ⟨o, hg, hl⟩ := hlive
    cases h1r : m1 r with
    | some d =>
      have hd := b.le r d h1r
      rw [hc] at hd; cases hd
      obtain ⟨o1, hg1, hl1⟩ := b.keep r o _ hg hl h1r
      exact a.mnew r c z h1r hn ⟨o1, hg1, hl1⟩
    | none =>
      rcases b.mnew r c z hc h1r ⟨o, hg, hl⟩ with h' | ⟨s, o', y, hg', hl', hm'⟩
      · exact .inl (Nat.le_trans a.size h')
      · cases hs : m s with
        | some d =>
          obtain ⟨o2, hg2, hl2⟩ := a.keep s o' d hg' hl' hs
          have := a.le s d hs
          rw [hm'] at this; cases this
          exact .inr ⟨s, o2, y, hg2, hl2, hs⟩
        | none => exact a.mnew s c y hm' hs ⟨o', hg', hl'⟩
  fnew c x h := by
    rcases b.fnew c x h with h1 | h1 | ⟨s, q, y, hg, hl, hm⟩
    · exact a.fnew c x h1
    · exact .inr (.inl (Nat.le_trans a.size h1))
    · cases hs : m s with
      | some d =>
        obtain ⟨o2, hg2, hl2⟩ := a.keep s q d hg hl hs
        have := a.le s d hs
        rw [hm] at this; cases this
        exact .inr (.inr ⟨s, o2, y, hg2, hl2, hs⟩)
      | none =>
        rcases a.mnew s c y hm hs ⟨q, hg, hl⟩ with h2 | ⟨s', q', y', hg', hl', hm'⟩
        · exact .inr (.inl h2)
        · exact .inr (.inr ⟨s', q', y', hg', hl', hm'⟩)
end

end Go.Ax

/- Numbers and texts: what is reckoned fast is what the model reckons. -/
namespace Go.Ax
theorem wrapF_eq (k : IntKind) (n : Int) : wrapF k n = k.wrap n := by
  unfold wrapF
  split
  · rename_i m
    cases h : Nat.ble m 9223372036854775807 with
    | false => rfl
    | true =>
      have h := Nat.le_of_ble_eq_true h
      have h1 : (Int.ofNat m : Int) = (m : Int) := rfl
      rw [cond_true, h1]
      exact (Go.IntWalk.i64_in _ (by omega)).symm
  · rename_i m
    simp only [IntKind.wrap, IntKind.bits, IntKind.signed, Bool.false_and]
    show ((m % 256 : Nat) : Int) = (m : Int) % 256
    omega
  · rename_i m
    simp only [IntKind.wrap, IntKind.bits, IntKind.signed, Bool.false_and]
    show ((m % 18446744073709551616 : Nat) : Int) = (m : Int) % 18446744073709551616
    omega
  · rfl
theorem addI_eq (a b : Int) : addI a b = a + b := by unfold addI; split <;> rfl
theorem subI_eq (a b : Int) : subI a b = a - b := by
  unfold subI
  split
  · rename_i x y
    cases h : Nat.ble y x with
    | false => rfl
    | true => have := Nat.le_of_ble_eq_true h; simp only [cond_true]; show ((Nat.sub x y : Nat) : Int) = (x : Int) - (y : Int); simp only [Nat.sub_eq]; omega
  · rfl
theorem mulI_eq (a b : Int) : mulI a b = a * b := by unfold mulI; split <;> rfl
theorem quoI_eq (a b : Int) : quoI a b = a.tdiv b := by unfold quoI; split <;> rfl
theorem remI_eq (a b : Int) : remI a b = a.tmod b := by unfold remI; split <;> rfl
theorem beq_nat (x y : Nat) : Nat.beq x y = (x == y) := by rw [Bool.eq_iff_iff]; simp
theorem eqI_eq (a b : Int) : eqI a b = (a == b) := by
  unfold eqI
  split
  · rename_i x y
    rw [beq_nat, Bool.eq_iff_iff]; simp; omega
  · rename_i x y
    rw [beq_nat, Bool.eq_iff_iff]; simp
  · rename_i h1 h2
    cases a <;> cases b <;> first | (exact absurd rfl (h1 _ _ rfl)) | (exact absurd rfl (h2 _ _ rfl)) | rfl
theorem ltI_eq (a b : Int) : ltI a b = decide (a < b) := by
  unfold ltI
  split
  · rename_i x y
    rw [Bool.eq_iff_iff]; simp [Nat.blt, Nat.lt_iff_add_one_le]
  · rename_i x y
    rw [Bool.eq_iff_iff]; simp [Nat.blt]; omega
  · rename_i x y
    rw [Bool.eq_iff_iff]; simp; omega
  · rename_i x y
    rw [Bool.eq_iff_iff]; simp; omega
theorem kindEq_iff {k j : IntKind} (h : kindEq k j = true) : k = j := by cases k <;> cases j <;> first | rfl | cases h
theorem eqS_iff (a b : List Nat) : eqS a b = true ↔ a = b := by
  induction a generalizing b with
  | nil => cases b <;> simp [eqS]
  | cons x a ih =>
    cases b with
    | nil => simp [eqS]
    | cons y b => simp [eqS, ih, beq_nat]
theorem map_toNat_inj {a b : List UInt8} (h : a.map UInt8.toNat = b.map UInt8.toNat) : a = b := by
  induction a generalizing b with
  | nil => cases b with
    | nil => rfl
    | cons y b => simp at h
  | cons x a ih =>
    cases b with
    | nil => simp at h
    | cons y b =>
      simp only [List.map_cons, List.cons.injEq] at h
      rw [ih h.2, UInt8.toNat_inj.1 h.1]
theorem eqS_bytes (a b : ByteArray) : eqS (a.data.toList.map UInt8.toNat) (b.data.toList.map UInt8.toNat) = (a.toList == b.toList) := by
  rw [Bool.eq_iff_iff, eqS_iff, beq_iff_eq, ByteArray.toList_eq, ByteArray.toList_eq]
  exact ⟨map_toNat_inj, fun h => by rw [h]⟩
theorem ltS_bytes : ∀ (a b : List UInt8), ltS (a.map UInt8.toNat) (b.map UInt8.toNat) = Op.bytesLess a b
  | [], [] => rfl
  | [], _ :: _ => rfl
  | _ :: _, [] => rfl
  | x :: a, y :: b => by
    simp only [List.map_cons, ltS, Op.bytesLess, ltS_bytes a b]
    by_cases h1 : x < y
    · have : Nat.blt x.toNat y.toNat = true := by simp [Nat.blt]; exact UInt8.lt_iff_toNat_lt.1 h1
      simp [this, h1]
    · have h1' : Nat.blt x.toNat y.toNat = false := by
        cases h : Nat.blt x.toNat y.toNat with
        | false => rfl
        | true => exact absurd (UInt8.lt_iff_toNat_lt.2 (Nat.le_of_ble_eq_true h)) h1
      by_cases h2 : x = y
      · subst h2; simp [h1', h1]
      · have : Nat.beq x.toNat y.toNat = false := by
          rw [beq_nat]; simp; exact fun e => h2 (UInt8.toNat_inj.1 e)
        simp [h1', this, h1, h2]
end Go.Ax

/- The operations on values and memory, each as the model has it. -/
namespace Go.Ax
section
variable {P : Program} {F : Nat → Option Obj} {m : Loc} {gl : Nat → AV} {eqT : Knob}

/-! ### What a value is, by what stands for it -/
theorem VRel.int_inv {k : IntKind} {n : Int} {v : Value} (h : VRel P F m (.int k n) v) : v = .int k n := by cases h; rfl
theorem VRel.bool_inv {b : Bool} {v : Value} (h : VRel P F m (.bool b) v) : v = .bool b := by cases h; rfl
theorem VRel.str_inv {s : List Nat} {v : Value} (h : VRel P F m (.str s) v) : ∃ b : ByteArray, v = .string b ∧ b.data.toList.map UInt8.toNat = s := by cases h; exact ⟨_, rfl, rfl⟩
theorem VRel.ptr_inv {r o : Nat} {v : Value} (h : VRel P F m (.ptr r o) v) : ∃ b z, m r = some (b, z) ∧ v = .pointer (some ⟨b, o, none⟩) := by cases h; exact ⟨_, _, ‹_›, rfl⟩
theorem VRel.nilptr_inv {v : Value} (h : VRel P F m .nilptr v) : v = .pointer none := by cases h; rfl
theorem VRel.nilsl_inv {v : Value} (h : VRel P F m .nilsl v) : v = .slice none 0 0 := by cases h; rfl
theorem VRel.nilmap_inv {v : Value} (h : VRel P F m .nilmap v) : v = .map none := by cases h; rfl
theorem VRel.nilif_inv {v : Value} (h : VRel P F m .nilif v) : v = .nilIface := by cases h; rfl
theorem VRel.nilfn_inv {v : Value} (h : VRel P F m .nilfn v) : v = .nilFunc := by cases h; rfl
theorem VRel.map_inv {r : Nat} {v : Value} (h : VRel P F m (.map r) v) : ∃ b z, m r = some (b, z) ∧ v = .map (some b) := by cases h; exact ⟨_, _, ‹_›, rfl⟩
theorem VRel.iface_inv {t : TypeId} {x : AV} {v : Value} (h : VRel P F m (.iface t x) v) : ∃ y, v = .iface t y ∧ VRel P F m x y := by cases h; exact ⟨_, rfl, ‹_›⟩
theorem VRel.sl_inv {r o len cap es : Nat} {x : Bool} {v : Value} (h : VRel P F m (.sl r o len cap es x) v) :
    ∃ b z ccap, m r = some (b, z) ∧ v = .slice (some ⟨b, o, none⟩) len ccap ∧ len ≤ cap ∧ cap ≤ ccap ∧ (x = true → ccap = cap) ∧ o + ccap * es ≤ z := by
  cases h; exact ⟨_, _, _, ‹_›, rfl, ‹_›, ‹_›, ‹_›, ‹_›⟩
theorem VRel.fn_inv {f : Fn} {l k : List AV} {v : Value} (h : VRel P F m (.fn f l k) v) : ∃ f' a c, v = .func f' a c ∧ FnRel m f f' ∧ LRel P F m l a.toList ∧ LRel P F m k c.toList := by
  cases h with
  | fn hf hl hc hk hd => exact ⟨_, _, _, rfl, hf, ⟨by simpa using hl, fun i x y hx hy => hc i x y hx (by simpa using hy)⟩, ⟨by simpa using hk, fun i x y hx hy => hd i x y hx (by simpa using hy)⟩⟩
theorem VRel.isl_inv {xs : List (List AV)} {v : Value} (h : VRel P F m (.isl xs) v) : ∃ a cap, v = .slice a xs.length cap ∧ xs.length ≤ cap ∧
    (xs ≠ [] → ∃ (b off : Nat) (arr : Array Value) (e : TypeId) (fz : Nat × Nat) (es : Nat) (f : Nat → Nat → Value), a = some ⟨b, off, none⟩ ∧ Fz F m b (.cells arr e fz) ∧ (∀ c ∈ xs, c.length = es) ∧
      (∀ i j, i < xs.length → j < es → arr[off + i * es + j]? = some (f i j)) ∧ (∀ (i j : Nat) (c : List AV) (x : AV), xs[i]? = some c → c[j]? = some x → VRel P F m x (f i j))) := by
  cases h with
  | isl0 a cap => exact ⟨a, cap, rfl, Nat.zero_le _, fun h => absurd rfl h⟩
  | isl es f hF hl hes hf hc => exact ⟨_, _, rfl, hl, fun _ => ⟨_, _, _, _, _, es, f, rfl, hF, hes, hf, hc⟩⟩

/-- Cells that can be stored. -/
theorem VRel.one {x : AV} {v : Value} (h : VRel P F m x v) (hx : isCell x = true) : v.oneCell' = true := by
  cases h with
  | raw h => cases v <;> first | rfl | cases h
  | _ => first | rfl | exact absurd hx (by simp [isCell])
theorem VRel.raw_cells {v : Value} (h : isFlt v = true) : v.cells = #[v] := by cases v <;> first | rfl | cases h
theorem cellsOf_rel {x : AV} {v : Value} {l : List AV} (h : VRel P F m x v) (hl : cellsOf x = some l) : LRel P F m l v.cells.toList := by
  cases x with
  | agg cs => cases hl; obtain ⟨a, rfl, ha⟩ := LRel.of_agg h; exact ha
  | undef => cases hl
  | tup vs => cases hl
  | raw u =>
    cases hl
    have : v.cells = #[v] := by cases h with | raw h => exact VRel.raw_cells h
    rw [this]
    exact .cons h .nil
  | _ =>
    cases hl
    have : v.cells = #[v] := by cases h <;> rfl
    rw [this]
    exact .cons h .nil
theorem LRel.one {l : List AV} {a : List Value} (h : LRel P F m l a) (hl : l.all isCell = true) : ∀ v ∈ a, v.oneCell' = true := by
  intro v hv
  obtain ⟨i, hi, rfl⟩ := List.getElem_of_mem hv
  have hi' : i < l.length := h.len ▸ hi
  exact (h.at' i _ _ (List.getElem?_eq_getElem hi') (List.getElem?_eq_getElem hi)).one (List.all_eq_true.1 hl _ (List.getElem_mem hi'))

/-! ### Types -/
theorem ti_underlying {t : TypeId} {x : TI} (h : (Ctx.of P gl eqT).ti t = some x) : P.underlying t = some x.desc := by
  obtain ⟨i, d, _, hd, e, _⟩ := mkTI_info (Ctx.of_ti h)
  rw [hd, e]
theorem ti_info {t : TypeId} {x : TI} (h : (Ctx.of P gl eqT).ti t = some x) : ∃ i, P.info? t = some i ∧ x.size = i.size ∧ x.bytes = i.bytes ∧ x.comparable = i.comparable := by
  obtain ⟨i, d, hi, _, _, e, _, e2, e3, _⟩ := mkTI_info (Ctx.of_ti h)
  exact ⟨i, hi, e, e2, e3⟩
theorem run_underlying_ti {t : TypeId} {x : TI} (h : (Ctx.of P gl eqT).ti t = some x) (w : World) : (underlying t).run P w = .ok x.desc w := by
  simp [underlying, ti_underlying h]
theorem run_size_ti {t : TypeId} {x : TI} (h : (Ctx.of P gl eqT).ti t = some x) (w : World) : (sizeOf t).run P w = .ok x.size w := by
  obtain ⟨i, hi, e, _⟩ := ti_info h
  simp [sizeOf, typeInfo, hi, e]
theorem run_isAgg_ti {t : TypeId} {x : TI} (h : (Ctx.of P gl eqT).ti t = some x) (w : World) : (isAgg t).run P w = .ok x.isAgg w := by
  have e2 : x.isAgg = descAgg x.desc := by
    obtain ⟨i, d, _, hd, e, _, e2, _⟩ := mkTI_info (Ctx.of_ti h)
    rw [e2, e]
  simp only [isAgg, Sem.run_bind, run_underlying_ti h, Result.andThen, e2]
  cases x.desc <;> simp [descAgg]
theorem run_zero_ti {t : TypeId} {x : TI} (h : (Ctx.of P gl eqT).ti t = some x) (hz : x.zeroOk = true) (w : World) : ∃ v, (zeroValue t).run P w = .ok v w ∧ LRel P F m x.zero v.cells.toList ∧ v.cells.size = x.size := by
  obtain ⟨i, d, hi, _, _, _, _, _, _, hz'⟩ := mkTI_info (Ctx.of_ti h)
  obtain ⟨v, hv, e, hl, _⟩ := hz' hz
  have hr : LRel P F m x.zero v.cells.toList := by
    have := ofV_rel P F m v
    rw [e]
    split
    · rename_i l hl'
      rw [hl'] at this
      obtain ⟨a, rfl, ha⟩ := LRel.of_agg this
      exact ha
    · rename_i hne
      have hc : v.cells = #[v] := by
        cases v with
        | agg a => obtain ⟨l⟩ := a; exact absurd rfl (hne (ofVs l))
        | _ => rfl
      rw [hc]; exact .cons this .nil
  refine ⟨v, by simp [zeroValue, typeInfo, hi, hv], hr, ?_⟩
  have := hr.len
  simp at this
  omega

theorem run_zv_ti {t : TypeId} {x : TI} (h : (Ctx.of P gl eqT).ti t = some x) (hz : x.zeroOk = true) (w : World) : ∃ v, (zeroValue t).run P w = .ok v w ∧ VRel P F m x.zv v := by
  obtain ⟨i, d, hi, _, _, _, _, _, _, hz'⟩ := mkTI_info (Ctx.of_ti h)
  obtain ⟨v, hv, _, _, e⟩ := hz' hz
  exact ⟨v, by simp [zeroValue, typeInfo, hi, hv], by rw [e]; exact ofV_rel P F m v⟩

/-! ### Loads -/
theorem sub_some {cs : List AV} {o k : Nat} {l : List AV} (h : sub cs o k = some l) : o + k ≤ cs.length ∧ l = (cs.drop o).take k := by
  unfold sub at h
  cases hb : Nat.ble (Nat.add o k) cs.length with
  | false => rw [hb] at h; cases h
  | true => rw [hb] at h; cases h; exact ⟨Nat.le_of_ble_eq_true hb, rfl⟩
theorem loadVar_rel {t : TypeId} {ti : TI} (ht : (Ctx.of P gl eqT).ti t = some ti) {cs : List AV} {o b off : Nat} {v : AV} {w : World} (hp : partOf ti cs o = some v)
    (hc : ∀ (j : Nat) (x : AV), cs[j]? = some x → ∃ y, w.cell? ⟨b, off + j, none⟩ = some y ∧ VRel P F m x y) :
    ∃ cv, (loadVar t ⟨b, off + o, none⟩).run P w = .ok cv w ∧ VRel P F m v cv := by
  unfold partOf at hp
  cases ha : ti.isAgg with
  | false =>
    rw [ha] at hp
    obtain ⟨y, hy, hr⟩ := hc o v hp
    exact ⟨y, by simp [loadVar, run_isAgg_ti ht, ha, Result.andThen, hy], hr⟩
  | true =>
    rw [ha] at hp
    dsimp only at hp
    split at hp
    case h_2 => cases hp
    rename_i l hl
    cases hp
    obtain ⟨hle, rfl⟩ := sub_some hl
    have hlen : ((cs.drop o).take ti.size).length = ti.size := by simp; omega
    have hex : ∀ j, j < ti.size → ∃ x, ((cs.drop o).take ti.size)[j]? = some x ∧ cs[o + j]? = some x := fun j hj => by
      have : o + j < cs.length := by omega
      refine ⟨cs[o + j], ?_, List.getElem?_eq_getElem this⟩
      rw [List.getElem?_take, if_pos hj, List.getElem?_drop, List.getElem?_eq_getElem this]
    let vs : List Value := (List.range ti.size).map fun j => (w.cell? ⟨b, off + (o + j), none⟩).getD Go.undef
    have hvl : vs.length = ti.size := by simp [vs]
    have hv : ∀ j v, vs[j]? = some v → w.cell? ((⟨b, off + o, none⟩ : Addr).add j) = some v := by
      intro j v hj
      have hj' : j < ti.size := by rw [← hvl]; exact (List.getElem?_eq_some_iff.1 hj).1
      obtain ⟨x, hx1, hx2⟩ := hex j hj'
      obtain ⟨y, hy, _⟩ := hc _ x hx2
      have : vs[j]? = some ((w.cell? ⟨b, off + (o + j), none⟩).getD Go.undef) := by simp [vs, hj']
      rw [hj] at this
      cases this
      rw [hy]
      have ea : (⟨b, off + o, none⟩ : Addr).add j = ⟨b, off + (o + j), none⟩ := by
        unfold Addr.add; split
        · rename_i h0; subst h0; rfl
        · simp [Nat.add_assoc]
      rw [ea, hy]; rfl
    have hrun := run_loadCells_list (P := P) w ⟨b, off + o, none⟩ vs hv
    rw [hvl] at hrun
    refine ⟨.agg vs.toArray, by simp [loadVar, run_isAgg_ti ht, run_size_ti ht, ha, Result.andThen, hrun], LRel.agg ⟨by simp [hvl]; omega, ?_⟩⟩
    intro j x y hx hy
    have hy : vs[j]? = some y := hy
    have hj' : j < ti.size := by rw [← hvl]; exact (List.getElem?_eq_some_iff.1 hy).1
    obtain ⟨x', hx1, hx2⟩ := hex j hj'
    rw [hx] at hx1; cases hx1
    obtain ⟨y', hy', hr⟩ := hc _ x hx2
    have : vs[j]? = some ((w.cell? ⟨b, off + (o + j), none⟩).getD Go.undef) := by simp [vs, hj']
    rw [hy] at this
    cases this
    rw [hy']; exact hr
theorem cell_cells {w : World} {b j : Nat} {arr : Array Value} {e : TypeId} {fz : Nat × Nat} (h : w.heap[b]? = some (.cells arr e fz)) : w.cell? ⟨b, j, none⟩ = arr[j]? := by simp [World.cell?, h]
theorem loadAt_rel {t : TypeId} {p v : AV} {h : Hp} {cp : Value} {w : World} (hl : loadAt (Ctx.of P gl eqT) t p h = some v) (hp : VRel P F m p cp) (hr : HRel P F m h w) :
    ∃ cv, (Instr.loadAt t cp).run P w = .ok cv w ∧ VRel P F m v cv := by
  unfold loadAt at hl
  split at hl
  · cases hl
  · rename_i ti ht
    split at hl
    · rename_i r o
      split at hl
      · rename_i e cs hg
        obtain ⟨b, z, hm, rfl⟩ := hp.ptr_inv
        obtain ⟨arr, h1, h2, h3, h4⟩ := hr.obj r _ b z hg hm
        obtain ⟨cv, hrun, hrel⟩ := loadVar_rel (P := P) (F := F) (m := m) (b := b) (off := 0) (w := w) ht hl (fun j x hx => by
          have hj : j < arr.size := by have := (List.getElem?_eq_some_iff.1 hx).1; omega
          exact ⟨arr[j], by rw [Nat.zero_add, cell_cells h1, Array.getElem?_eq_getElem hj], h4 j x _ hx (Array.getElem?_eq_getElem hj)⟩)
        rw [Nat.zero_add] at hrun
        exact ⟨cv, by simpa [Instr.loadAt, Instr.sureAddr, Result.andThen] using hrun, hrel⟩
      · cases hl
    · rename_i xs i o
      split at hl
      · rename_i cs hi
        cases hp with
        | iptr es f hF hi' hes hf hc =>
          rename_i b off arr e fz
          obtain ⟨cv, hrun, hrel⟩ := loadVar_rel (P := P) (F := F) (m := m) (b := b) (off := off + i * es) (w := w) ht hl (fun j x hx => by
            have hj : j < es := by have := (List.getElem?_eq_some_iff.1 hx).1; rw [hes cs (List.mem_of_getElem? hi)] at this; exact this
            exact ⟨f i j, by rw [cell_cells (hr.frz b _ hF), hf i j hi' hj], hc i j cs x hi hx⟩)
          exact ⟨cv, by simpa [Instr.loadAt, Instr.sureAddr, Result.andThen] using hrun, hrel⟩
      · cases hl
    · cases hl

/-! ### Stores -/
theorem putCells_length {cs vs : List AV} {o : Nat} (h : o + vs.length ≤ cs.length) : (putCells cs o vs).length = cs.length := by
  simp [putCells]; omega
theorem putCells_rel {cs vs : List AV} {o : Nat} {arr : Array Value} {us : List Value} (hv : LRel P F m vs us) (hle : o + vs.length ≤ cs.length) (hsz : cs.length ≤ arr.size)
    (hc : ∀ (i : Nat) (x : AV) (y : Value), cs[i]? = some x → arr[i]? = some y → VRel P F m x y) :
    ∀ (i : Nat) (x : AV) (y : Value), (putCells cs o vs)[i]? = some x → (arr.toList.take o ++ us ++ arr.toList.drop (o + us.length))[i]? = some y → VRel P F m x y := by
  intro i x y hx hy
  have hl := hv.len
  unfold putCells at hx
  simp only [Nat.add_eq] at hx
  by_cases h1 : i < o
  · rw [List.getElem?_append_left (by simp; omega), List.getElem?_take, if_pos h1] at hx
    rw [List.append_assoc, List.getElem?_append_left (by simp; omega), List.getElem?_take, if_pos h1] at hy
    exact hc i x y hx (by simpa using hy)
  · rw [List.getElem?_append_right (by simp; omega)] at hx
    rw [List.append_assoc, List.getElem?_append_right (by simp; omega)] at hy
    have e1 : (List.take o cs).length = o := by simp; omega
    have e2 : (List.take o arr.toList).length = o := by simp; omega
    rw [e1] at hx; rw [e2] at hy
    by_cases h2 : i - o < vs.length
    · rw [List.getElem?_append_left h2] at hx
      rw [List.getElem?_append_left (by omega)] at hy
      exact hv.at' _ x y hx hy
    · rw [List.getElem?_append_right (by omega), List.getElem?_drop] at hx
      rw [List.getElem?_append_right (by omega), List.getElem?_drop, ← hl] at hy
      exact hc _ x y hx (by simpa using hy)
/-- A row of cells turned from a place on. -/
theorem Step.cells {h : Hp} {w : World} (hr : HRel P F m h w) {r : Nat} {e : TypeId} {cs : List AV} {b z : Nat} (hg : h.get r = some (.cells e cs)) (hm : m r = some (b, z)) {o : Nat} {vs : List AV} {us : List Value}
    (hv : LRel P F m vs us) (hc : vs.all isCell = true) (hle : o + vs.length ≤ cs.length) :
    ∃ w', (storeCells ⟨b, o, none⟩ us).run P w = .ok () w' ∧ Step P F m h (h.put r (.cells e (putCells cs o vs))) w w' m := by
  obtain ⟨arr, h1, h2, h3, h4⟩ := hr.obj r _ b z hg hm
  have hl := hv.len
  refine ⟨_, run_storeCells_at P b o e us 0 arr w h1 (by omega) (hv.one hc), ?_⟩
  refine Step.put hr hg rfl hm (setRow_heap w b arr _ e (0, 0) h1) (fun c hcb => setRow_other w b c _ hcb) (setRow_size w b _) ⟨rfl, rfl, rfl⟩ ?_
  refine ⟨_, rfl, ?_, ?_, ?_⟩
  · simp; omega
  · rw [putCells_length hle]; exact h3
  · intro i x y hx hy
    exact putCells_rel hv hle (by omega) h4 i x y hx (by simpa using hy)
theorem and_bool {a b : Bool} (h : (a && b) = true) : a = true ∧ b = true := by simpa using h
theorem cond_some {α : Type} {c : Bool} {x : α} {y : α} (h : (bif c then some x else none) = some y) : c = true ∧ x = y := by
  cases c with
  | true => simpa using h
  | false => cases h
theorem storeAt_rel {t : TypeId} {p v : AV} {h h' : Hp} {cp cv : Value} {w : World} (hs : storeAt (Ctx.of P gl eqT) t p v h = some h') (hp : VRel P F m p cp) (hv : VRel P F m v cv) (hr : HRel P F m h w) :
    ∃ w', (Instr.storeAt t cp cv).run P w = .ok () w' ∧ Step P F m h h' w w' m := by
  unfold storeAt at hs
  split at hs
  · rename_i ti vs r o ht hcv
    split at hs
    · rename_i e cs hg
      obtain ⟨hcond, rfl⟩ := cond_some hs
      obtain ⟨c1, c2⟩ := and_bool hcond
      obtain ⟨c2, c3⟩ := and_bool c2
      have c1 := Nat.eq_of_beq_eq_true c1
      have c2 := Nat.le_of_ble_eq_true c2
      obtain ⟨b, z, hm, rfl⟩ := hp.ptr_inv
      have hl := cellsOf_rel hv hcv
      obtain ⟨w', hrun, hst⟩ := Step.cells hr hg hm hl c3 c2
      refine ⟨w', ?_, hst⟩
      have hsz : cv.cells.size = ti.size := by have := hl.len; simp at this; omega
      simp [Instr.storeAt, Instr.sureAddr, storeVar, run_size_ti ht, Result.andThen, hsz, hrun]
    · cases hs
  · cases hs
end
end Go.Ax

/- The operations that make blocks, build values, and take places and parts. -/
namespace Go.Ax
section
variable {P : Program} {F : Nat → Option Obj} {m : Loc} {gl : Nat → AV} {eqT : Knob}

theorem run_newRow (e : TypeId) (cells : Array Value) (w : World) : (newRow e cells).run P w = .ok ⟨w.heap.size, 0, none⟩ { w with heap := w.heap.push (.cells cells e) } := by
  simp [newRow, newObj, Sem.run, Result.andThen]
theorem newRow_step {h : Hp} {w : World} (hr : HRel P F m h w) (hn : m h.nx = none) (e : TypeId) {cs : List AV} {cells : Array Value} (hc : LRel P F m cs cells.toList) :
    Step P F m h (h.new (.cells e cs)) w { w with heap := w.heap.push (.cells cells e) } (m.put h.nx w.heap.size cells.size) := by
  refine Step.alloc hr hn rfl ⟨rfl, rfl, rfl⟩ ⟨cells, rfl, rfl, ?_, fun i x y hx hy => (hc.at' i x y hx (by simpa using hy)).mono (Loc.le_put hn)⟩
  have := hc.len; simp at this; omega
theorem alloc_rel {t : TypeId} {h h' : Hp} {v : AV} {w : World} (ha : alloc (Ctx.of P gl eqT) t h = some (v, h')) (hr : HRel P F m h w) (hn : ∀ r, h.nx ≤ r → r < h'.nx → m r = none) :
    ∃ cv w' m', (Instr.alloc t true (.tuple #[])).run P w = .ok cv w' ∧ Step P F m h h' w w' m' ∧ VRel P F m' v cv := by
  unfold alloc at ha
  split at ha
  · rename_i ti ht
    obtain ⟨hz, he⟩ := cond_some ha
    cases he
    have hn' := hn h.nx (Nat.le_refl _) (Nat.lt_succ_self _)
    obtain ⟨z, hrun, hl, hsz⟩ := run_zero_ti (P := P) (F := F) (m := m) ht hz w
    refine ⟨_, _, _, ?_, newRow_step hr hn' t hl, .ptr (z := z.cells.size) (Loc.put_same _ _ _ _)⟩
    simp [Instr.alloc, hrun, newVar, run_newRow, Result.andThen]
  · cases ha
theorem box_rel {t : TypeId} {x v : AV} {cx : Value} {h h' : Hp} {w : World} (ha : box t x h = some (v, h')) (hx : VRel P F m x cx) (hr : HRel P F m h w) (hn : ∀ r, h.nx ≤ r → r < h'.nx → m r = none) :
    ∃ cv w' m', (Instr.box t cx).run P w = .ok cv w' ∧ Step P F m h h' w w' m' ∧ VRel P F m' v cv := by
  unfold box at ha
  split at ha
  · rename_i cs hcs
    cases ha
    have hn' := hn h.nx (Nat.le_refl _) (Nat.lt_succ_self _)
    refine ⟨_, _, _, ?_, newRow_step hr hn' t (cellsOf_rel hx hcs), .ptr (z := cx.cells.size) (Loc.put_same _ _ _ _)⟩
    simp [Instr.box, newVar, run_newRow, Result.andThen]
  · cases ha

/-! ### Values out of parts -/
/-- Parts of values, each with its place. -/
def PRel (P : Program) (F : Nat → Option Obj) (m : Loc) (l : List (Nat × AV)) (a : List (Nat × Value)) : Prop :=
  l.length = a.length ∧ ∀ (i : Nat) (x : Nat × AV) (y : Nat × Value), l[i]? = some x → a[i]? = some y → x.1 = y.1 ∧ VRel P F m x.2 y.2
theorem fold_put {cs vs : List AV} {arr us : Array Value} {o : Nat} (hc : LRel P F m cs arr.toList) (hv : LRel P F m vs us.toList) (hle : o + vs.length ≤ cs.length) :
    LRel P F m (putCells cs o vs) (us.zipIdx.foldl (fun cs (c, j) => cs.setIfInBounds (o + j) c) arr).toList := by
  have hl := hv.len
  have hl2 := hc.len
  simp at hl hl2
  have h0 : us.zipIdx.foldl (fun cs (c, j) => cs.setIfInBounds (o + j) c) arr = (us.toList.zipIdx 0).foldl (fun cs (x : Value × Nat) => cs.setIfInBounds (o + x.2) x.1) arr := by
    rw [← Array.foldl_toList, Array.toList_zipIdx]
  obtain ⟨g1, g2⟩ := Great.foldl_set o us.toList 0 arr
  rw [h0]
  refine ⟨by rw [putCells_length hle]; simp only [Array.length_toList] at g1 ⊢; rw [g1]; exact hl2, fun i x y hx hy => ?_⟩
  have hy' : (arr.toList.take o ++ us.toList ++ arr.toList.drop (o + us.toList.length))[i]? = some y := by
    have hy := (by simpa using hy : ((us.toList.zipIdx 0).foldl (fun cs (x : Value × Nat) => cs.setIfInBounds (o + x.2) x.1) arr)[i]? = some y)
    rw [g2 i] at hy
    simp only [Nat.add_zero, Array.length_toList] at hy
    rw [List.append_assoc]
    by_cases h1 : i < o
    · rw [if_neg (by omega)] at hy
      rw [List.getElem?_append_left (by simp; omega), List.getElem?_take, if_pos h1]; simpa using hy
    · rw [List.getElem?_append_right (by simp; omega)]
      have e2 : (List.take o arr.toList).length = o := by simp; omega
      rw [e2]
      by_cases h2 : i < o + us.size
      · rw [if_pos (by omega)] at hy
        rw [List.getElem?_append_left (by simp; omega)]; exact hy
      · rw [if_neg (by omega)] at hy
        rw [List.getElem?_append_right (by simp; omega), List.getElem?_drop]
        simp only [Array.length_toList]
        rw [show o + us.size + (i - o - us.size) = i by omega]; simpa using hy
  exact putCells_rel hv hle (by omega) (fun i x y hx hy => hc.at' i x y hx (by simpa using hy)) i x y hx hy'
theorem fillA_rel {place place' : Nat → Option (Nat × Nat)} (hpl : ∀ i x, place i = some x → place' i = some x) : ∀ (ps : List (Nat × AV)) (cps : List (Nat × Value)) (cs l : List AV) (arr : Array Value), fillA place cs ps = some l → PRel P F m ps cps → LRel P F m cs arr.toList →
    ∃ r, Instr.fill place' arr cps = some r ∧ LRel P F m l r.toList
  | [], cps, cs, l, arr, h, hp, hc => by
    cases cps with
    | nil => cases h; exact ⟨arr, rfl, hc⟩
    | cons y k => have := hp.1; simp at this
  | (i, v) :: ps, cps, cs, l, arr, h, hp, hc => by
    cases cps with
    | nil => have := hp.1; simp at this
    | cons y k =>
      obtain ⟨j, u⟩ := y
      obtain ⟨e, hvu⟩ := hp.2 0 _ _ rfl rfl
      dsimp only at e hvu
      subst e
      unfold fillA at h
      split at h
      · rename_i o kk vs hpi hvs
        cases hb : (Nat.beq vs.length kk && Nat.ble (Nat.add o vs.length) cs.length) with
        | false => rw [hb] at h; cases h
        | true =>
          rw [hb] at h
          obtain ⟨c1, c2⟩ := and_bool hb
          have c1 := Nat.eq_of_beq_eq_true c1
          have c2 : o + vs.length ≤ cs.length := Nat.le_of_ble_eq_true c2
          have hl := cellsOf_rel hvu hvs
          have hll := hl.len
          have hcl := hc.len
          simp at hll hcl
          obtain ⟨r, hr, hrel⟩ := fillA_rel hpl ps k _ l _ h ⟨by have := hp.1; simpa using this, fun i x y hx hy => hp.2 (i + 1) x y (by simpa using hx) (by simpa using hy)⟩ (fold_put hc hl c2)
          refine ⟨r, ?_, hrel⟩
          unfold Instr.fill
          rw [hpl _ _ hpi]
          dsimp only
          rw [if_neg (by simp; omega)]
          exact hr
      · cases h
theorem PRel.map {s : St} {ρ : Operand → Value} {C : Ctx} (hev : ∀ x, VRel P F m (s.ev C x) (ρ x)) (ps : Array (Nat × Operand)) :
    PRel P F m (ps.toList.map fun p => (p.1, s.ev C p.2)) (ps.map fun (i, x) => (i, ρ x)).toList := by
  refine ⟨by simp, fun i x y hx hy => ?_⟩
  simp only [Array.toList_map, List.getElem?_map, Option.map_eq_some_iff] at hx hy
  obtain ⟨p, hp, rfl⟩ := hx
  obtain ⟨q, hq, rfl⟩ := hy
  rw [hp] at hq; cases hq
  exact ⟨rfl, hev _⟩
theorem mapM_all {α β : Type} {f : α → Option β} (d : β) : ∀ {l : List α}, (∀ x ∈ l, ∃ y, f x = some y) → l.mapM f = some (l.map fun x => (f x).getD d) := by
  intro l
  induction l with
  | nil => intro _; rfl
  | cons x l ih =>
    intro h
    obtain ⟨y, hy⟩ := h x List.mem_cons_self
    simp [List.mapM_cons, hy, ih fun z hz => h z (List.mem_cons_of_mem _ hz)]
theorem ti_size {t : TypeId} {x : TI} (h : (Ctx.of P gl eqT).ti t = some x) : (P.info? t).map (·.size) = some x.size := by
  obtain ⟨i, hi, e, _⟩ := ti_info h
  rw [hi, e]; rfl
theorem ti_zero {t : TypeId} {x : TI} (h : (Ctx.of P gl eqT).ti t = some x) (hz : x.zeroOk = true) : ∃ i v, P.info? t = some i ∧ i.zero = some v ∧ i.size = x.size ∧ LRel P F m x.zero v.cells.toList ∧ v.cells.size = x.size := by
  obtain ⟨i, hi, e, _⟩ := ti_info h
  obtain ⟨v, hv, hl, hs⟩ := run_zero_ti (P := P) (F := F) (m := m) h hz default
  refine ⟨i, v, hi, ?_, e.symm, hl, hs⟩
  simp [zeroValue, typeInfo, hi] at hv
  cases hz' : i.zero with
  | none => rw [hz'] at hv; simp at hv
  | some u => rw [hz'] at hv; simp at hv; rw [hv]
theorem build_rel {t : TypeId} {ps : List (Nat × AV)} {cps : Array (Nat × Value)} {v : AV} {w : World} (hb : build (Ctx.of P gl eqT) t ps = some v) (hp : PRel P F m ps cps.toList) :
    ∃ cv, (Instr.build t cps).run P w = .ok cv w ∧ VRel P F m v cv := by
  unfold build at hb
  split at hb
  · cases hb
  · rename_i ti ht
    cases hz : ti.zeroOk with
    | false => rw [hz] at hb; cases hb
    | true =>
      rw [hz] at hb
      obtain ⟨i, z, hi, hiz, hsz, hzl, _⟩ := ti_zero (P := P) (F := F) (m := m) ht hz
      have hu := ti_underlying ht
      simp only [cond_true] at hb
      split at hb
      · rename_i fs hd
        rw [hd] at hu
        cases hall : fs.toList.all (fun f => ((Ctx.of P gl eqT).ti f.type).isSome) with
        | false => rw [hall] at hb; cases hb
        | true =>
          rw [hall] at hb
          simp only [cond_true] at hb
          split at hb
          · rename_i l hl
            cases hb
            have hmem : ∀ f ∈ fs.toList, ∃ y, ((P.info? f.type).map fun i => (f.offset, i.size)) = some y := fun f hf => by
              obtain ⟨x, hx⟩ := Option.isSome_iff_exists.1 (List.all_eq_true.1 hall f hf)
              obtain ⟨j, hj, _⟩ := ti_info hx
              exact ⟨_, by rw [hj]; rfl⟩
            have hmm := mapM_all (0, 0) hmem
            obtain ⟨r, hr, hrel⟩ := fillA_rel (P := P) (F := F) (m := m) (place' := fun j => ((fs.toList.map fun f => (((P.info? f.type).map fun i => (f.offset, i.size)) : Option (Nat × Nat)).getD (0, 0)).toArray)[j]?) (fun j x hx => by
              split at hx
              · rename_i f hf
                split at hx
                · rename_i y hy
                  cases hx
                  obtain ⟨j', hj', e, _⟩ := ti_info hy
                  simp [hf, hj', e]
                · cases hx
              · cases hx) ps cps.toList ti.zero l z.cells hl hp hzl
            exact ⟨.agg r, run_build w t cps r (by simp only [Program.built, hi, hu, hiz, hmm]; exact hr), LRel.agg hrel⟩
          · cases hb
      · rename_i k e hd
        rw [hd] at hu
        split at hb
        · rename_i y hy
          split at hb
          · rename_i l hl
            cases hb
            obtain ⟨j, hj, e', _⟩ := ti_info hy
            obtain ⟨r, hr, hrel⟩ := fillA_rel (P := P) (F := F) (m := m) (place' := fun i => some (i * j.size, j.size)) (fun i x hx => by rw [← e']; exact hx) ps cps.toList ti.zero l z.cells hl hp hzl
            exact ⟨.agg r, run_build w t cps r (by simp only [Program.built, hi, hu, hiz, hj]; exact hr), LRel.agg hrel⟩
          · cases hb
        · cases hb
      · cases hb
theorem zeroCells_zero (z : List AV) : zeroCells 0 z = [] := rfl
theorem zeroCells_succ (k : Nat) (z : List AV) : zeroCells (k + 1) z = z ++ zeroCells k z := rfl
theorem zeroCells_length (k : Nat) (z : List AV) : (zeroCells k z).length = k * z.length := by
  induction k with
  | zero => simp [zeroCells_zero]
  | succ k ih => rw [zeroCells_succ, List.length_append, ih, Nat.succ_mul, Nat.add_comm]
theorem zeroCells_at (k : Nat) (z : List AV) (i : Nat) (h : i < k * z.length) : (zeroCells k z)[i]? = z[i % z.length]? := by
  induction k generalizing i with
  | zero => simp at h
  | succ k ih =>
    rw [zeroCells_succ]
    by_cases hi : i < z.length
    · rw [List.getElem?_append_left hi, Nat.mod_eq_of_lt hi]
    · rw [List.getElem?_append_right (by omega), ih _ (by rw [Nat.succ_mul] at h; omega)]
      rw [show i % z.length = (i - z.length) % z.length from by rw [Nat.mod_eq_sub_mod (by omega)]]
theorem zeroCells_rel {z : List AV} {zv : Array Value} (h : LRel P F m z zv.toList) (k n : Nat) (hn : n = k * zv.size) : LRel P F m (zeroCells k z) ((Array.range n).map (zv[· % zv.size]!)).toList := by
  have hl := h.len
  simp at hl
  subst hn
  refine ⟨by simp [zeroCells_length, hl], fun i x y hx hy => ?_⟩
  have hi : i < k * z.length := by have := (List.getElem?_eq_some_iff.1 hx).1; rwa [zeroCells_length] at this
  rw [zeroCells_at k z i hi] at hx
  have hz : 0 < z.length := by
    rcases Nat.eq_zero_or_pos z.length with h0 | h0
    · rw [h0, Nat.mul_zero] at hi; omega
    · exact h0
  have hlt : i % zv.size < zv.size := Nat.mod_lt _ (by omega)
  have : y = zv[i % zv.size]! := by
    have hi' : i < k * zv.size := by rw [← hl]; exact hi
    simp [hi'] at hy
    exact hy.symm
  rw [this, getElem!_pos zv _ hlt]
  exact h.at' _ x _ hx (by rw [hl]; simp [hlt])
theorem buildSlice_rel {t : TypeId} {len : Nat} {ps : List (Nat × AV)} {cps : Array (Nat × Value)} {h h' : Hp} {v : AV} {w : World} (hb : buildSlice (Ctx.of P gl eqT) t len ps h = some (v, h')) (hp : PRel P F m ps cps.toList)
    (hr : HRel P F m h w) (hn : ∀ r, h.nx ≤ r → r < h'.nx → m r = none) : ∃ cv w' m', (Instr.buildSlice t len cps).run P w = .ok cv w' ∧ Step P F m h h' w w' m' ∧ VRel P F m' v cv := by
  unfold buildSlice at hb
  split at hb
  case h_2 => cases hb
  rename_i ti e size isAgg zero zeroOk bytes comparable zv ht
  split at hb
  case h_2 => cases hb
  rename_i y hy
  cases hc : (y.zeroOk && Nat.ble (Nat.mul len y.size) 1000000) with
  | false => rw [hc] at hb; cases hb
  | true =>
    rw [hc] at hb
    simp only [cond_true] at hb
    obtain ⟨hz, hlim⟩ := and_bool hc
    have hlim : len * y.size ≤ 1000000 := Nat.le_of_ble_eq_true hlim
    split at hb
    case h_2 => cases hb
    rename_i l hl
    cases hb
    obtain ⟨i, z, hi, hiz, hsz, hzl, hzs⟩ := ti_zero (P := P) (F := F) (m := m) hy hz
    have hu := ti_underlying ht
    dsimp only at hu
    have hzero := zeroCells_rel hzl len (len * y.size) (by rw [hzs])
    obtain ⟨r, hrf, hrel⟩ := fillA_rel (P := P) (F := F) (m := m) (place' := fun k => some (k * i.size, i.size)) (fun k x hx => by rw [hsz]; exact hx) ps cps.toList _ l _ hl hp hzero
    have hn' := hn h.nx (Nat.le_refl _) (Nat.lt_succ_self _)
    have hrun : (Instr.buildSlice t len cps).run P w = .ok (.slice (some ⟨w.heap.size, 0, none⟩) len len) { w with heap := w.heap.push (.cells r e) } := by
      by_cases h0 : len * i.size = 0
      · have h00 : len * y.size = 0 := by rw [← hsz]; exact h0
        have e0 : (Array.range 0).map (z.cells[· % z.cells.size]!) = #[] := by simp
        rw [h00, e0] at hrf
        have er : Array.range 0 = #[] := rfl
        simp [Instr.buildSlice, run_underlying hu, sizeOf, typeInfo, hi, h0, Result.andThen, run_newRow, hrf, er]
      · rw [← hsz] at hrf
        exact run_buildSlice w t e len cps r i z hu hi hiz (by rw [hsz]; omega) h0 hrf
    have hlen := hrel.len
    have hl1 : l.length = len * y.size := by
      rw [hlen]
      have := zeroCells_length len y.zero
      have hzz := hzl.len
      simp at hzz
      have : ∀ (ps : List (Nat × AV)) (cs l : List AV), fillA (fun i => some (Nat.mul i y.size, y.size)) cs ps = some l → l.length = cs.length := by
        intro ps
        induction ps with
        | nil => intro cs l h; cases h; rfl
        | cons p ps ih =>
          intro cs l h
          unfold fillA at h
          split at h
          · rename_i o kk vs _ hvs
            obtain ⟨hcc, h⟩ : (Nat.beq vs.length kk && Nat.ble (Nat.add o vs.length) cs.length) = true ∧ fillA (fun i => some (Nat.mul i y.size, y.size)) (putCells cs o vs) ps = some l := by
              cases hbb : (Nat.beq vs.length kk && Nat.ble (Nat.add o vs.length) cs.length) with
              | false => rw [hbb] at h; cases h
              | true => rw [hbb] at h; exact ⟨rfl, h⟩
            rw [ih _ _ h, putCells_length (Nat.le_of_ble_eq_true (and_bool hcc).2)]
          · cases h
      rw [← hlen, this ps _ l hl, zeroCells_length, hzz, hzs]
    refine ⟨_, _, _, hrun, newRow_step hr hn' e hrel, .sl (z := r.size) (Loc.put_same _ _ _ _) (Nat.le_refl _) (Nat.le_refl _) (fun _ => rfl) ?_⟩
    simp at hlen
    omega

/-! ### Places and parts -/
theorem add_none (b o k : Nat) : (⟨b, o, none⟩ : Addr).add k = ⟨b, o + k, none⟩ := by
  unfold Addr.add
  split
  · rename_i h; subst h; rfl
  · rfl
theorem fieldAt_rel {t : TypeId} {p v : AV} {k : Nat} {cp : Value} {w : World} (hf : fieldAt (Ctx.of P gl eqT) t p k = some v) (hp : VRel P F m p cp) : ∃ cv, (Instr.fieldAt t cp k).run P w = .ok cv w ∧ VRel P F m v cv := by
  unfold fieldAt at hf
  split at hf
  case h_2 => cases hf
  rename_i ti fs size isAgg zero zeroOk bytes comparable zv ht
  split at hf
  case h_2 => cases hf
  rename_i f hk
  split at hf
  case h_2 => cases hf
  rename_i x hx
  have hu := run_underlying_ti ht w
  dsimp only at hu
  have hk' : fs[k]? = some f := by simpa using hk
  cases hb : Nat.beq x.size 0 with
  | true => rw [hb] at hf; cases hf
  | false =>
    rw [hb] at hf
    simp only [cond_false] at hf
    have h0 : x.size ≠ 0 := fun e => by rw [e] at hb; cases hb
    split at hf
    · rename_i r o
      cases hf
      obtain ⟨b, z, hm, rfl⟩ := hp.ptr_inv
      exact ⟨_, by simp [Instr.fieldAt, hu, hk', Result.andThen, Instr.sureAddr, fieldPlace, run_size_ti hx, h0, add_none], .ptr hm⟩
    · rename_i xs i o
      cases hf
      cases hp with
      | iptr es g hF hi hes hfc hc =>
        rename_i b off arr e fz
        refine ⟨.pointer (some ⟨b, off + i * es + o + f.offset, none⟩), by simp [Instr.fieldAt, hu, hk', Result.andThen, Instr.sureAddr, fieldPlace, run_size_ti hx, h0, add_none], ?_⟩
        rw [Nat.add_assoc]
        exact .iptr es g hF hi hes hfc hc
    · cases hf
theorem part_rel {t : TypeId} {ti : TI} (ht : (Ctx.of P gl eqT).ti t = some ti) {cs : List AV} {arr : Array Value} {o : Nat} {v : AV} {w : World} (hp : partOf ti cs o = some v) (hc : LRel P F m cs arr.toList) :
    ∃ cv, (part t arr o).run P w = .ok cv w ∧ VRel P F m v cv := by
  unfold partOf at hp
  have hl := hc.len
  simp at hl
  cases ha : ti.isAgg with
  | false =>
    rw [ha] at hp
    obtain ⟨y, hy, hr⟩ := hc.get hp
    have hy' : arr[o]? = some y := by simpa using hy
    exact ⟨y, by simp [part, run_isAgg_ti ht, ha, Result.andThen, hy'], hr⟩
  | true =>
    rw [ha] at hp
    dsimp only at hp
    split at hp
    case h_2 => cases hp
    rename_i l hl'
    cases hp
    obtain ⟨hle, rfl⟩ := sub_some hl'
    refine ⟨.agg (arr.extract o (o + ti.size)), by simp [part, run_isAgg_ti ht, run_size_ti ht, ha, Result.andThen], LRel.agg ?_⟩
    have : (arr.extract o (o + ti.size)).toList = (arr.toList.drop o).take ti.size := by
      simp [Array.toList_extract, List.extract_eq_take_drop]
    rw [this]
    exact (hc.drop o).take _
theorem fieldOf_rel {t : TypeId} {x v : AV} {k : Nat} {cx : Value} {w : World} (hf : fieldOf (Ctx.of P gl eqT) t x k = some v) (hx : VRel P F m x cx) : ∃ cv, (Instr.field t cx k).run P w = .ok cv w ∧ VRel P F m v cv := by
  unfold fieldOf at hf
  split at hf
  case h_2 => cases hf
  rename_i ti fs size isAgg zero zeroOk bytes comparable zv ht
  split at hf
  case h_2 => cases hf
  rename_i f cs hk
  split at hf
  case h_2 => cases hf
  rename_i y hy
  have hu := run_underlying_ti ht w
  dsimp only at hu
  have hk' : fs[k]? = some f := by simpa using hk
  obtain ⟨a, rfl, ha⟩ := LRel.of_agg hx
  obtain ⟨cv, hrun, hrel⟩ := part_rel (w := w) hy hf ha
  exact ⟨cv, by simp [Instr.field, hu, hk', Result.andThen, asAgg, hrun], hrel⟩
theorem natOf_some {v : AV} {n : Nat} (h : natOf v = some n) : ∃ k, v = .int k (.ofNat n) := by
  unfold natOf at h
  split at h
  · cases h; exact ⟨_, rfl⟩
  · cases h
theorem indexAt_rel {t : TypeId} {x ix v : AV} {cx ci : Value} {w : World} (hf : indexAt (Ctx.of P gl eqT) t x ix = some v) (hx : VRel P F m x cx) (hi : VRel P F m ix ci) : ∃ cv, (Instr.indexAt t cx ci).run P w = .ok cv w ∧ VRel P F m v cv := by
  unfold indexAt at hf
  split at hf
  case h_2 => cases hf
  rename_i ti i ht hni
  obtain ⟨k, rfl⟩ := natOf_some hni
  obtain rfl := hi.int_inv
  have hu := run_underlying_ti ht w
  have h0 : (0 : Int) ≤ Int.ofNat i := Int.natCast_nonneg i
  split at hf
  · rename_i len e r o hd
    split at hf
    case h_2 => cases hf
    rename_i y hy
    obtain ⟨hlt, rfl⟩ := cond_some hf
    have hlt : i < len := Nat.le_of_ble_eq_true hlt
    obtain ⟨b, z, hm, rfl⟩ := hx.ptr_inv
    rw [hd] at hu
    refine ⟨_, ?_, .ptr (o := o + i * y.size) hm⟩
    simp [Instr.indexAt, asIntOf, hu, Result.andThen, Instr.sureAddr, run_size_ti hy, add_none, hlt]
  · rename_i len e xs j o hd
    split at hf
    case h_2 => cases hf
    rename_i y hy
    obtain ⟨hlt, rfl⟩ := cond_some hf
    have hlt : i < len := Nat.le_of_ble_eq_true hlt
    rw [hd] at hu
    cases hx with
    | iptr es g hF hi hes hfc hc =>
      rename_i b off arr e' fz
      refine ⟨.pointer (some ⟨b, off + j * es + o + i * y.size, none⟩), by simp [Instr.indexAt, asIntOf, hu, Result.andThen, Instr.sureAddr, run_size_ti hy, add_none, hlt], ?_⟩
      rw [Nat.add_assoc]
      exact .iptr es g hF hi hes hfc hc
  · rename_i e r o len cap es fx hd
    split at hf
    case h_2 => cases hf
    rename_i y hy
    obtain ⟨hb, rfl⟩ := cond_some hf
    obtain ⟨hlt, he⟩ := and_bool hb
    have hlt : i < len := Nat.le_of_ble_eq_true hlt
    have he := Nat.eq_of_beq_eq_true he
    obtain ⟨b, z, ccap, hm, rfl, _⟩ := hx.sl_inv
    rw [hd] at hu
    refine ⟨_, ?_, .ptr (o := o + i * es) hm⟩
    simp [Instr.indexAt, asIntOf, hu, Result.andThen, run_size_ti hy, add_none, hlt, he]
  · rename_i e xs hd
    split at hf
    case h_2 => cases hf
    rename_i y ch hy hch
    obtain ⟨he, rfl⟩ := cond_some hf
    have he := Nat.eq_of_beq_eq_true he
    have hlt : i < xs.length := (List.getElem?_eq_some_iff.1 hch).1
    rw [hd] at hu
    obtain ⟨a, cap, rfl, hcap, hne⟩ := hx.isl_inv
    obtain ⟨b, off, arr, e', fz, es, g, rfl, hF, hes, hfc, hc⟩ := hne (fun e => by rw [e] at hlt; simp at hlt)
    have hes' : y.size = es := by rw [he, hes ch (List.mem_of_getElem? hch)]
    refine ⟨.pointer (some ⟨b, off + i * es, none⟩), by simp [Instr.indexAt, asIntOf, hu, Result.andThen, run_size_ti hy, add_none, hlt, hes'], ?_⟩
    exact .iptr (o := 0) es g hF hlt hes hfc hc
  · cases hf
theorem indexOf_rel {t : TypeId} {x ix v : AV} {cx ci : Value} {w : World} (hf : indexOf (Ctx.of P gl eqT) t x ix = some v) (hx : VRel P F m x cx) (hi : VRel P F m ix ci) : ∃ cv, (Instr.index t cx ci).run P w = .ok cv w ∧ VRel P F m v cv := by
  unfold indexOf at hf
  split at hf
  case h_2 => cases hf
  rename_i ti i ht hni
  obtain ⟨k, rfl⟩ := natOf_some hni
  obtain rfl := hi.int_inv
  have hu := run_underlying_ti ht w
  split at hf
  · rename_i len e cs hd
    split at hf
    case h_2 => cases hf
    rename_i y hy
    cases hlt : Nat.blt i len with
    | false => rw [hlt] at hf; cases hf
    | true =>
      rw [hlt] at hf
      have hlt : i < len := Nat.le_of_ble_eq_true hlt
      obtain ⟨a, rfl, ha⟩ := LRel.of_agg hx
      obtain ⟨cv, hrun, hrel⟩ := part_rel (w := w) hy hf ha
      rw [hd] at hu
      exact ⟨cv, by
        have hrun : (part e a (i * y.size)).run P w = .ok cv w := hrun
        simp [Instr.index, asIntOf, hu, Result.andThen, run_size_ti hy, hlt, hrun], hrel⟩
  · rename_i s hd
    split at hf
    case h_2 => cases hf
    rename_i b hb
    cases hf
    obtain ⟨bs, rfl, rfl⟩ := hx.str_inv
    rw [hd] at hu
    rw [List.getElem?_map, Option.map_eq_some_iff] at hb
    obtain ⟨u, hu1, rfl⟩ := hb
    have hlt : i < bs.size := by have := (List.getElem?_eq_some_iff.1 hu1).1; simpa using this
    have hu2 : bs[i]? = some u := by
      have h1 : bs.data.toList[i]? = some u := hu1
      rw [getElem?_pos bs i hlt]
      have h2 : bs.data[i]? = some u := by simpa using h1
      rw [getElem?_pos bs.data i hlt] at h2
      exact h2
    refine ⟨.int .u8 u.toNat, ?_, .int .u8 _⟩
    simp [Instr.index, asIntOf, hu, Result.andThen, hu2]
  · cases hf
end
end Go.Ax

/- Operations with two operands, conversions, slices, what is appended and copied, maps. -/
namespace Go.Ax
/-- What is asked of the listed types, of which values are held against each other part by part. -/
structure EqOk (P : Program) (eqT : Knob) : Prop where
  held : ∀ t, eqT.eqT t = true → P.stoodInHeld t = false
  guard : ∀ t, eqT.eqT t = true → P.eqGuardType P.depth t = false
  names : ∀ t fs, eqT.eqT t = true → P.underlying t = some (.struct fs) → ∀ f ∈ fs.toList, f.name ≠ "_"
section
variable {P : Program} {F : Nat → Option Obj} {m : Loc} {gl : Nat → AV} {eqT : Knob}

theorem eqArr_rel {d : Nat} {e : TypeId} {y : TI} (hy : (Ctx.of P gl eqT).ti e = some y) {ih : AV → AV → Option Bool} {w : World}
    (hih : ∀ p q b, ih p q = some b → ∀ cp cq, VRel P F m p cp → VRel P F m q cq → (Op.equalIn d e cp cq).run P w = .ok b w) {a b : List AV} {xs ys : Array Value} (ha : LRel P F m a xs.toList) (hb : LRel P F m b ys.toList) :
    ∀ (k i : Nat) (r : Bool), eqArr ih y a b k i = some r → (Op.eqItems d e (P.cellsOf e) xs ys (List.range' i k)).run P w = .ok r w := by
  have hc : P.cellsOf e = y.size := by
    obtain ⟨j, hj, e', _⟩ := ti_info hy
    simp [Program.cellsOf, hj, e']
  rw [hc]
  intro k
  induction k with
  | zero => intro i r h; cases h; rfl
  | succ k ihk =>
    intro i r h
    unfold eqArr at h
    split at h
    case h_2 => cases h
    rename_i p q hp hq
    obtain ⟨cp, hrp, hvp⟩ := part_rel (w := w) hy hp ha
    obtain ⟨cq, hrq, hvq⟩ := part_rel (w := w) hy hq hb
    have hrp : (part e xs (i * y.size)).run P w = .ok cp w := hrp
    have hrq : (part e ys (i * y.size)).run P w = .ok cq w := hrq
    rw [List.range'_succ]
    simp only [Op.eqItems, Sem.run_bind, hrp, hrq, Result.andThen_ok]
    split at h
    · rename_i ht
      rw [hih p q true ht cp cq hvp hvq]
      simp only [Result.andThen_ok, Bool.not_true, Bool.false_eq_true, if_false]
      exact ihk (i + 1) r h
    · rename_i hne2
      cases hi : ih p q with
      | none => rw [hi] at h; cases h
      | some b' =>
        rw [hi] at h; cases h
        cases r with
        | true => exact absurd hi (hne2)
        | false => rw [hih p q false hi cp cq hvp hvq]; simp
theorem eqFields_rel {d : Nat} {ih : TypeId → AV → AV → Option Bool} {w : World} (hih : ∀ t p q b, ih t p q = some b → ∀ cp cq, VRel P F m p cp → VRel P F m q cq → (Op.equalIn d t cp cq).run P w = .ok b w)
    {a b : List AV} {xs ys : Array Value} (ha : LRel P F m a xs.toList) (hb : LRel P F m b ys.toList) :
    ∀ (fs : List Field) (r : Bool), (∀ f ∈ fs, f.name ≠ "_") → eqFields (Ctx.of P gl eqT) ih a b fs = some r → (Op.eqFields d xs ys fs).run P w = .ok r w
  | [], r, _, h => by cases h; rfl
  | f :: fs, r, hn, h => by
    unfold eqFields at h
    split at h
    case h_2 => cases h
    rename_i y hy
    split at h
    case h_2 => cases h
    rename_i p q hp hq
    obtain ⟨cp, hrp, hvp⟩ := part_rel (w := w) hy hp ha
    obtain ⟨cq, hrq, hvq⟩ := part_rel (w := w) hy hq hb
    have hne := hn f List.mem_cons_self
    simp only [Op.eqFields, hne, ne_eq, not_false_eq_true, if_true, Sem.run_bind, hrp, hrq, Result.andThen_ok]
    split at h
    · rename_i ht
      rw [hih f.type p q true ht cp cq hvp hvq]
      simp only [Result.andThen_ok, Bool.not_true, Bool.false_eq_true, if_false]
      exact eqFields_rel hih ha hb fs r (fun g hg => hn g (List.mem_cons_of_mem _ hg)) h
    · rename_i hne2
      cases hi : ih f.type p q with
      | none => rw [hi] at h; cases h
      | some b' =>
        rw [hi] at h; cases h
        cases r with
        | true => exact absurd hi (hne2)
        | false => rw [hih f.type p q false hi cp cq hvp hvq]; simp
theorem cond_someT {α : Type} {c : Bool} {x : Option α} {y : α} (h : (bif c then x else none) = some y) : c = true ∧ x = some y := by
  cases c with
  | true => exact ⟨rfl, h⟩
  | false => cases h
theorem eqA_rel (hE : EqOk P eqT) (w : World) : ∀ (k : Nat) (t : TypeId) (x y : AV) (b : Bool), eqA (Ctx.of P gl eqT) k t x y = some b → ∀ cx cy, VRel P F m x cx → VRel P F m y cy → ∀ d, k ≤ d → (Op.equalIn d t cx cy).run P w = .ok b w := by
  intro k
  induction k with
  | zero => intro t x y b h; cases h
  | succ k ih =>
    intro t x y b h cx cy hx hy d hd
    obtain ⟨d, rfl⟩ : ∃ e, d = e + 1 := ⟨d - 1, by omega⟩
    unfold eqA eqStep at h
    split at h
    · cases h
    · rename_i ti ht
      have hu := ti_underlying ht
      split at h
      · rename_i hdesc; rw [hdesc] at hu; obtain rfl := hx.bool_inv; obtain rfl := hy.bool_inv; cases h
        simp [Op.equalIn, run_underlying hu]
      · rename_i hdesc; rw [hdesc] at hu; obtain rfl := hx.int_inv; obtain rfl := hy.int_inv
        obtain ⟨hk, rfl⟩ := cond_some h
        obtain rfl := kindEq_iff hk
        simp [Op.equalIn, run_underlying hu, eqI_eq]
      · rename_i hdesc; rw [hdesc] at hu; obtain ⟨s1, rfl, rfl⟩ := hx.str_inv; obtain ⟨s2, rfl, rfl⟩ := hy.str_inv; cases h
        simp [Op.equalIn, run_underlying hu, eqS_bytes, beq_toListBytes]
      · rename_i hdesc; rw [hdesc] at hu; obtain rfl := hx.nilptr_inv; obtain rfl := hy.nilptr_inv; cases h
        simp [Op.equalIn, run_underlying hu]
      · rename_i hdesc; rw [hdesc] at hu; obtain rfl := hx.nilptr_inv; obtain ⟨_, _, _, rfl⟩ := hy.ptr_inv; cases h
        simp [Op.equalIn, run_underlying hu]
      · rename_i hdesc; rw [hdesc] at hu; obtain ⟨_, _, _, rfl⟩ := hx.ptr_inv; obtain rfl := hy.nilptr_inv; cases h
        simp [Op.equalIn, run_underlying hu]
      · rename_i e r o q p hdesc; rw [hdesc] at hu; obtain ⟨b1, z1, hm1, rfl⟩ := hx.ptr_inv; obtain ⟨b2, z2, hm2, rfl⟩ := hy.ptr_inv
        obtain ⟨hrq, h⟩ := cond_someT h
        have hrq := Nat.eq_of_beq_eq_true hrq
        rw [← hrq, hm1] at hm2; cases hm2
        cases hy : (Ctx.of P gl eqT).ti e with
        | none => rw [hy] at h; cases h
        | some y =>
        rw [hy] at h
        dsimp only at h
        cases hz : Nat.beq y.size 0 with
        | true => rw [hz] at h; cases h
        | false =>
          rw [hz] at h; cases h
          have hne : y.size ≠ 0 := fun e => by rw [e] at hz; cases hz
          have key : (({ block := b1, off := o, spot := none } : Addr) == { block := b1, off := p, spot := none }) = Nat.beq o p := by
            by_cases hop : o = p
            · subst hop; rw [Nat.beq_refl]; simp
            · have : Nat.beq o p = false := by
                cases hb : Nat.beq o p with
                | false => rfl
                | true => exact absurd (Nat.eq_of_beq_eq_true hb) hop
              rw [this]; simp
          simp only [Op.equalIn, Sem.run_bind, run_underlying hu, Result.andThen_ok, run_size_ti hy, sameAddr, beq_self_eq_true, if_true]
          rw [if_pos hne, ← key]; rfl
      · rename_i hdesc; rw [hdesc] at hu; obtain rfl := hx.nilif_inv; obtain rfl := hy.nilif_inv; cases h
        simp [Op.equalIn, run_underlying hu]
      · rename_i hdesc; rw [hdesc] at hu; obtain rfl := hx.nilif_inv; obtain ⟨_, rfl, _⟩ := hy.iface_inv; cases h
        simp [Op.equalIn, run_underlying hu]
      · rename_i hdesc; rw [hdesc] at hu; obtain ⟨_, rfl, _⟩ := hx.iface_inv; obtain rfl := hy.nilif_inv; cases h
        simp [Op.equalIn, run_underlying hu]
      · rename_i u a v c hdesc; rw [hdesc] at hu; obtain ⟨ca, rfl, ha⟩ := hx.iface_inv; obtain ⟨cb, rfl, hb⟩ := hy.iface_inv
        cases huv : Nat.beq u v with
        | false =>
          rw [huv] at h; cases h
          have hne : u ≠ v := fun e => by rw [e, Nat.beq_refl] at huv; cases huv
          simp [Op.equalIn, run_underlying hu, hne]
        | true =>
          rw [huv] at h
          obtain rfl := Nat.eq_of_beq_eq_true huv
          simp only [cond_true] at h
          split at h
          case h_2 => cases h
          rename_i wi hwi
          obtain ⟨j, hj, _, _, hcmp⟩ := ti_info hwi
          cases hc : wi.comparable with
          | false => rw [hc] at h; cases h
          | true =>
            rw [hc] at h
            simp only [cond_true] at h
            have := ih u a c b h ca cb ha hb d (by omega)
            rw [hc] at hcmp
            simp [Op.equalIn, run_underlying hu, typeInfo, hj, ← hcmp, this]
      · rename_i len e a c hdesc; rw [hdesc] at hu
        split at h
        case h_2 => cases h
        rename_i yi hyi
        obtain ⟨xs, rfl, ha⟩ := LRel.of_agg hx
        obtain ⟨ys, rfl, hb⟩ := LRel.of_agg hy
        obtain ⟨j, hj, _⟩ := ti_info hyi
        rw [run_equalIn_array w d xs ys hu hj, List.range_eq_range']
        exact eqArr_rel hyi (fun p q b hpq cp cq hp hq => ih e p q b hpq cp cq hp hq d (by omega)) ha hb len 0 b h
      · rename_i fs a c hdesc; rw [hdesc] at hu
        cases hq : eqT.eqT t with
        | false => rw [show (Ctx.of P gl eqT).eqT t = false from hq] at h; cases h
        | true =>
          rw [show (Ctx.of P gl eqT).eqT t = true from hq] at h
          obtain ⟨xs, rfl, ha⟩ := LRel.of_agg hx
          obtain ⟨ys, rfl, hb⟩ := LRel.of_agg hy
          have hfo : P.fieldsOf t = fs := by simp [Program.fieldsOf, hu]
          rw [run_equalIn_struct w d t xs ys (by rw [hfo]; exact hu) (hE.held t hq), hfo]
          exact eqFields_rel (fun u p q b hpq cp cq hp hq => ih u p q b hpq cp cq hp hq d (by omega)) ha hb fs.toList b (hE.names t fs hq hu) h
      · rename_i hdesc; rw [hdesc] at hu; obtain rfl := hx.nilsl_inv; obtain rfl := hy.nilsl_inv; cases h
        simp [Op.equalIn, run_underlying hu]
      · rename_i hdesc; rw [hdesc] at hu; obtain ⟨_, _, _, _, rfl, _⟩ := hx.sl_inv; obtain rfl := hy.nilsl_inv; cases h
        simp [Op.equalIn, run_underlying hu]
      · rename_i hdesc; rw [hdesc] at hu; obtain ⟨ad, cap, rfl, _, hne⟩ := hx.isl_inv; obtain rfl := hy.nilsl_inv; cases h
        obtain ⟨_, _, _, _, _, _, _, he, _⟩ := hne (by simp)
        subst he
        simp [Op.equalIn, run_underlying hu]
      · rename_i hdesc; rw [hdesc] at hu; obtain rfl := hx.nilfn_inv; obtain rfl := hy.nilfn_inv; cases h
        simp [Op.equalIn, run_underlying hu]
      · rename_i hdesc; rw [hdesc] at hu; obtain ⟨_, _, _, rfl, _⟩ := hx.fn_inv; obtain rfl := hy.nilfn_inv; cases h
        simp [Op.equalIn, run_underlying hu]
      · cases h
end
end Go.Ax

/- Operations with two operands and with one; conversions. -/
namespace Go.Ax
section
variable {P : Program} {F : Nat → Option Obj} {m : Loc} {gl : Nat → AV} {eqT : Knob}

theorem VRel.of_nilIface {x : AV} (h : VRel P F m x .nilIface) : x = .nilif ∨ x = .undef := by cases h <;> first | (rename_i h; cases h; done) | simp
theorem VRel.of_agg {x : AV} {a : Array Value} (h : VRel P F m x (.agg a)) : (∃ l, x = .agg l) ∨ x = .undef := by cases h <;> first | (rename_i h; cases h; done) | simp
theorem eqGuard_other {op : BinOp} {t : TypeId} {ox oy : Operand} {cx cy : Value} (w : World) (h1 : ¬ (cx = .nilIface ∧ cy = .nilIface)) (h2 : ¬ ∃ a b, cx = .agg a ∧ cy = .agg b) : (eqGuard op t ox oy cx cy).run P w = .ok () w := by
  unfold eqGuard
  split
  · simp only [Bool.not_true, Bool.false_eq_true, if_false]
    split
    · exact absurd ⟨rfl, rfl⟩ h1
    · exact absurd ⟨_, _, rfl, rfl⟩ h2
    · simp
  · simp only [Bool.not_true, Bool.false_eq_true, if_false]
    split
    · exact absurd ⟨rfl, rfl⟩ h1
    · exact absurd ⟨_, _, rfl, rfl⟩ h2
    · simp
  · simp
theorem eqGuard_rel (hE : EqOk P eqT) {op : BinOp} {t : TypeId} {ox oy : Operand} {x y : AV} {cx cy : Value} (w : World) (hg : guardA (Ctx.of P gl eqT) t x y = true) (hx : VRel P F m x cx) (hy : VRel P F m y cy) :
    (eqGuard op t ox oy cx cy).run P w = .ok () w := by
  by_cases h1 : cx = .nilIface ∧ cy = .nilIface
  · obtain ⟨rfl, rfl⟩ := h1
    rcases hx.of_nilIface with rfl | rfl <;> rcases hy.of_nilIface with rfl | rfl <;> simp [guardA] at hg
  · by_cases h2 : ∃ a b, cx = .agg a ∧ cy = .agg b
    · obtain ⟨a, b, rfl, rfl⟩ := h2
      rcases hx.of_agg with ⟨l, rfl⟩ | rfl <;> rcases hy.of_agg with ⟨k, rfl⟩ | rfl <;> simp [guardA] at hg
      exact run_eqGuard_agg w op t ox oy a b (hE.guard t hg)
    · exact eqGuard_other w h1 h2
theorem bits_and (k : IntKind) (x y : Nat) (f : BitVec k.bits → BitVec k.bits → BitVec k.bits) (g : Nat → Nat → Nat) (hx : x < 2 ^ k.bits) (hy : y < 2 ^ k.bits) (hf : ∀ a b : BitVec k.bits, (f a b).toNat = g a.toNat b.toNat) :
    (f (BitVec.ofInt k.bits (Int.ofNat x)) (BitVec.ofInt k.bits (Int.ofNat y))).toNat = g x y := by
  rw [hf]
  have e : ∀ n, n < 2 ^ k.bits → (BitVec.ofInt k.bits (Int.ofNat n)).toNat = n := fun n hn => by
    simp only [BitVec.toNat_ofInt]
    show ((n : Int) % ((2 ^ k.bits : Nat) : Int)).toNat = n
    rw [Int.emod_eq_of_lt (Int.natCast_nonneg n) (by omega)]
    simp
  rw [e x hx, e y hy]
theorem bitsA_some {f : Nat → Nat → Nat} {k : IntKind} {a b : Int} {v : AV} (h : bitsA f k a b = some v) : ∃ x y, a = .ofNat x ∧ b = .ofNat y ∧ v = .int k (.ofNat (f x y)) ∧
    ((k = .u64 ∧ x < 2 ^ 64 ∧ y < 2 ^ 64) ∨ (k = .i64 ∧ x < 2 ^ 63 ∧ y < 2 ^ 63) ∨ (k = .u8 ∧ x < 2 ^ 8 ∧ y < 2 ^ 8)) := by
  unfold bitsA at h
  split at h
  · obtain ⟨hc, rfl⟩ := cond_some h
    obtain ⟨h1, h2⟩ := and_bool hc
    have h1 := Nat.le_of_ble_eq_true h1
    have h2 := Nat.le_of_ble_eq_true h2
    exact ⟨_, _, rfl, rfl, rfl, .inl ⟨rfl, by omega, by omega⟩⟩
  · obtain ⟨hc, rfl⟩ := cond_some h
    obtain ⟨h1, h2⟩ := and_bool hc
    have h1 := Nat.le_of_ble_eq_true h1
    have h2 := Nat.le_of_ble_eq_true h2
    exact ⟨_, _, rfl, rfl, rfl, .inr (.inl ⟨rfl, by omega, by omega⟩)⟩
  · obtain ⟨hc, rfl⟩ := cond_some h
    obtain ⟨h1, h2⟩ := and_bool hc
    have h1 := Nat.le_of_ble_eq_true h1
    have h2 := Nat.le_of_ble_eq_true h2
    exact ⟨_, _, rfl, rfl, rfl, .inr (.inr ⟨rfl, by omega, by omega⟩)⟩
  · cases h
theorem wrap_small {k : IntKind} {n : Nat} (h : (k = .u64 ∧ n < 2 ^ 64) ∨ (k = .i64 ∧ n < 2 ^ 63) ∨ (k = .u8 ∧ n < 2 ^ 8)) : k.wrap (n : Int) = n := by
  rcases h with ⟨rfl, h⟩ | ⟨rfl, h⟩ | ⟨rfl, h⟩
  · simp only [IntKind.wrap, IntKind.bits, IntKind.signed, Bool.false_and]
    show (n : Int) % 18446744073709551616 = n
    omega
  · exact Go.IntWalk.i64_in _ (by omega)
  · simp only [IntKind.wrap, IntKind.bits, IntKind.signed, Bool.false_and]
    show (n : Int) % 256 = n
    omega
theorem intBits_rel {op : BinOp} {f : Nat → Nat → Nat} (hop : (op = .and ∧ f = Nat.land) ∨ (op = .or ∧ f = Nat.lor) ∨ (op = .xor ∧ f = Nat.xor) ∨ (op = .andNot ∧ f = fun x y => Nat.xor x (Nat.land x y))) {k : IntKind} {a b : Int} {v : AV} (h : bitsA f k a b = some v) (w : World) :
    ∃ cv, (Op.intBits op k a b).run P w = .ok cv w ∧ VRel P F m v cv := by
  obtain ⟨x, y, rfl, rfl, rfl, hk⟩ := bitsA_some h
  have hb : x < 2 ^ k.bits ∧ y < 2 ^ k.bits := by
    rcases hk with ⟨rfl, h1, h2⟩ | ⟨rfl, h1, h2⟩ | ⟨rfl, h1, h2⟩ <;> simp only [IntKind.bits] <;> omega
  have hr : k.wrap ((f x y : Nat) : Int) = (f x y : Nat) := by
    apply wrap_small
    rcases hop with ⟨_, rfl⟩ | ⟨_, rfl⟩ | ⟨_, rfl⟩ | ⟨_, rfl⟩ <;> rcases hk with ⟨rfl, h1, h2⟩ | ⟨rfl, h1, h2⟩ | ⟨rfl, h1, h2⟩
    · exact .inl ⟨rfl, Nat.and_lt_two_pow _ h2⟩
    · exact .inr (.inl ⟨rfl, Nat.and_lt_two_pow _ h2⟩)
    · exact .inr (.inr ⟨rfl, Nat.and_lt_two_pow _ h2⟩)
    · exact .inl ⟨rfl, Nat.or_lt_two_pow h1 h2⟩
    · exact .inr (.inl ⟨rfl, Nat.or_lt_two_pow h1 h2⟩)
    · exact .inr (.inr ⟨rfl, Nat.or_lt_two_pow h1 h2⟩)
    · exact .inl ⟨rfl, Nat.xor_lt_two_pow h1 h2⟩
    · exact .inr (.inl ⟨rfl, Nat.xor_lt_two_pow h1 h2⟩)
    · exact .inr (.inr ⟨rfl, Nat.xor_lt_two_pow h1 h2⟩)
    · exact .inl ⟨rfl, Nat.xor_lt_two_pow h1 (Nat.and_lt_two_pow _ h2)⟩
    · exact .inr (.inl ⟨rfl, Nat.xor_lt_two_pow h1 (Nat.and_lt_two_pow _ h2)⟩)
    · exact .inr (.inr ⟨rfl, Nat.xor_lt_two_pow h1 (Nat.and_lt_two_pow _ h2)⟩)
  refine ⟨.int k (.ofNat (f x y)), ?_, .int _ _⟩
  rcases hop with ⟨rfl, rfl⟩ | ⟨rfl, rfl⟩ | ⟨rfl, rfl⟩ | ⟨rfl, rfl⟩
  · have := bits_and k x y (fun a b => a &&& b) Nat.land hb.1 hb.2 (fun a b => BitVec.toNat_and a b)
    simp only [Op.intBits, Sem.run_pure, this, hr]; rfl
  · have := bits_and k x y (fun a b => a ||| b) Nat.lor hb.1 hb.2 (fun a b => BitVec.toNat_or a b)
    simp only [Op.intBits, Sem.run_pure, this, hr]; rfl
  · have := bits_and k x y (fun a b => a ^^^ b) Nat.xor hb.1 hb.2 (fun a b => BitVec.toNat_xor a b)
    simp only [Op.intBits, Sem.run_pure, this, hr]; rfl
  · have := bits_and k x y (fun a b => a &&& ~~~b) (fun x y => Nat.xor x (Nat.land x y)) hb.1 hb.2 (fun a b => by
      have e : a &&& ~~~b = a ^^^ (a &&& b) := by
        ext i hi
        simp only [BitVec.getElem_and, BitVec.getElem_not, BitVec.getElem_xor]
        cases a[i] <;> cases b[i] <;> rfl
      rw [e, BitVec.toNat_xor, BitVec.toNat_and]; rfl)
    simp only [Op.intBits, Sem.run_pure, this, hr]; rfl
theorem shr_rel {k : IntKind} {a b : Nat} (hb : b ≤ 63) (hk : k = .u64 ∨ k = .i64) (j : IntKind) (w : World) : (Op.shift .shr k (.ofNat a) j (.ofNat b)).run P w = .ok (.int k (.ofNat (Nat.shiftRight a b))) w := by
  have h0 : ¬ ((Int.ofNat b : Int) < 0) := by have := Int.natCast_nonneg b; show ¬ ((b : Int) < 0); omega
  have hm : min ((Int.ofNat b : Int).toNat) k.bits = b := by
    rcases hk with rfl | rfl <;> simp only [IntKind.bits] <;> show min b 64 = b <;> omega
  have e : (Int.ofNat a : Int).fdiv (2 ^ b) = Int.ofNat (a >>> b) := by
    rw [Nat.shiftRight_eq_div_pow, Int.fdiv_eq_ediv_of_nonneg _ (Int.pow_nonneg (by decide))]
    show (a : Int) / 2 ^ b = ((a / 2 ^ b : Nat) : Int)
    simp
  simp only [Op.shift, h0, if_false, hm, Sem.run_pure, e]
  rfl
theorem shl_rel {k : IntKind} {a b : Nat} (hb : b ≤ k.bits) (j : IntKind) (w : World) : (Op.shift .shl k (.ofNat a) j (.ofNat b)).run P w = .ok (.int k (wrapF k (.ofNat (Nat.mul a (Nat.pow 2 b))))) w := by
  have h0 : ¬ ((Int.ofNat b : Int) < 0) := by have := Int.natCast_nonneg b; show ¬ ((b : Int) < 0); omega
  have hm : min ((Int.ofNat b : Int).toNat) k.bits = b := by show min b k.bits = b; omega
  have e : (Int.ofNat a : Int) * 2 ^ b = Int.ofNat (Nat.mul a (Nat.pow 2 b)) := by
    show (a : Int) * 2 ^ b = ((a * 2 ^ b : Nat) : Int)
    simp
  simp only [Op.shift, h0, if_false, hm, Sem.run_pure, e, wrapF_eq]

theorem binOp_eql {t : TypeId} {cx cy : Value} (hI : ¬ ∃ k a j b, cx = .int k a ∧ cy = .int j b) (hS : ¬ ∃ a b, cx = .string a ∧ cy = .string b) (hF : ∀ k b, cx ≠ .float k b) (hC : ∀ k a b, cx ≠ .complex k a b) :
    binOp .eql t cx cy = (do pure (.bool (← Op.equal t cx cy))) ∧ binOp .neq t cx cy = (do pure (.bool (!(← Op.equal t cx cy)))) := by
  constructor
  · unfold binOp
    split <;> first
      | (exact absurd ⟨_, _, _, _, rfl, rfl⟩ hI)
      | (exact absurd ⟨_, _, rfl, rfl⟩ hS)
      | (exact absurd rfl (hF _ _))
      | (exact absurd rfl (hC _ _ _))
      | rfl
      | (simp_all; done)
  · unfold binOp
    split <;> first
      | (exact absurd ⟨_, _, _, _, rfl, rfl⟩ hI)
      | (exact absurd ⟨_, _, rfl, rfl⟩ hS)
      | (exact absurd rfl (hF _ _))
      | (exact absurd rfl (hC _ _ _))
      | rfl
      | (simp_all; done)
theorem VRel.of_int {x : AV} {k : IntKind} {n : Int} (h : VRel P F m x (.int k n)) : x = .int k n ∨ x = .undef := by cases h <;> first | (rename_i h; cases h; done) | simp
theorem VRel.of_string {x : AV} {s : ByteArray} (h : VRel P F m x (.string s)) : (∃ l, x = .str l) ∨ x = .undef := by cases h <;> first | (rename_i h; cases h; done) | simp
theorem VRel.of_float {x : AV} {k : FloatKind} {b : Nat} (h : VRel P F m x (.float k b)) : x = .raw (.float k b) ∨ x = .undef := by cases h <;> simp
theorem VRel.of_complex {x : AV} {k : FloatKind} {a b : Nat} (h : VRel P F m x (.complex k a b)) : x = .raw (.complex k a b) ∨ x = .undef := by cases h <;> simp
theorem VRel.raw_inv {u v : Value} (h : VRel P F m (.raw u) v) : v = u := by cases h; rfl
theorem guardA_undef {C : Ctx} {t : TypeId} {x y : AV} (h : guardA C t x y = true) : x ≠ .undef ∧ y ≠ .undef ∧ (∀ v, x ≠ .raw v) := by
  refine ⟨?_, ?_, ?_⟩
  · rintro rfl; cases y <;> cases h
  · rintro rfl; cases x <;> cases h
  · rintro v rfl; cases y <;> cases h

theorem binOpA_rel (hE : EqOk P eqT) {op : BinOp} {t : TypeId} {ox oy : Operand} {x y v : AV} {cx cy : Value} {w : World} (h : binOpA (Ctx.of P gl eqT) op t x y = some v) (hx : VRel P F m x cx) (hy : VRel P F m y cy) :
    ∃ cv, (do eqGuard op t ox oy cx cy; binOp op t cx cy : Sem Value).run P w = .ok cv w ∧ VRel P F m v cv := by
  have intNo : ∀ {op : BinOp} {k n} {cy : Value}, (eqGuard op t ox oy (.int k n) cy).run P w = .ok () w := fun {_ _ _ _} => eqGuard_other w (fun h => nomatch h.1) (fun ⟨_, _, h, _⟩ => nomatch h)
  have floNo : ∀ {op : BinOp} {k n} {cy : Value}, (eqGuard op t ox oy (.float k n) cy).run P w = .ok () w := fun {_ _ _ _} => eqGuard_other w (fun h => nomatch h.1) (fun ⟨_, _, h, _⟩ => nomatch h)
  have strNo : ∀ {op : BinOp} {s} {cy : Value}, (eqGuard op t ox oy (.string s) cy).run P w = .ok () w := fun {_ _ _} => eqGuard_other w (fun h => nomatch h.1) (fun ⟨_, _, h, _⟩ => nomatch h)
  unfold binOpA at h
  split at h
  · rename_i k a j b
    obtain rfl := hx.int_inv; obtain rfl := hy.int_inv
    obtain ⟨hb, rfl⟩ := cond_some h
    have hb := Nat.le_of_ble_eq_true hb
    refine ⟨_, ?_, .int _ _⟩
    simp only [Sem.run_bind, intNo, Result.andThen_ok, binOp]
    exact shl_rel (by cases k <;> simp only [IntKind.bits] <;> simp only at hb <;> omega) j w
  · cases h
  · rename_i k a j b
    obtain rfl := hx.int_inv; obtain rfl := hy.int_inv
    cases hb : Nat.ble b 63 with
    | false => rw [hb] at h; cases h
    | true =>
      rw [hb] at h
      have hb := Nat.le_of_ble_eq_true hb
      have hk : (k = .u64 ∨ k = .i64) ∧ v = .int k (.ofNat (Nat.shiftRight a b)) := by
        cases k <;> simp only [cond_true] at h <;> first | (cases h; done) | (cases h; exact ⟨.inl rfl, rfl⟩) | (cases h; exact ⟨.inr rfl, rfl⟩)
      obtain ⟨hk, rfl⟩ := hk
      refine ⟨_, ?_, .int _ _⟩
      simp only [Sem.run_bind, intNo, Result.andThen_ok, binOp]
      exact shr_rel hb hk j w
  · cases h
  · rename_i a b
    obtain rfl := hx.raw_inv; obtain rfl := hy.raw_inv
    cases h
    exact ⟨.bool (FloatKind.f64.format.order a b == some .eq), by simp only [Sem.run_bind, floNo, Result.andThen_ok]; simp [binOp, Op.floatCmp], .bool _⟩
  · rename_i a b
    obtain rfl := hx.raw_inv; obtain rfl := hy.raw_inv
    cases h
    exact ⟨.bool (FloatKind.f64.format.order a b == some .lt), by simp only [Sem.run_bind, floNo, Result.andThen_ok]; simp [binOp, Op.floatCmp], .bool _⟩
  · rename_i op k a j b hn1 hn2 hn3 hn4
    obtain rfl := hx.int_inv; obtain rfl := hy.int_inv
    cases hk : kindEq k j with
    | false => rw [hk] at h; cases h
    | true =>
      rw [hk] at h
      obtain rfl := kindEq_iff hk
      simp only [cond_true] at h
      split at h
      · cases h; exact ⟨.int k (k.wrap (a + b)), by simp only [Sem.run_bind, intNo, Result.andThen_ok]; simp [binOp, Op.intArith], by rw [wrapF_eq, addI_eq]; exact .int _ _⟩
      · cases h; exact ⟨.int k (k.wrap (a - b)), by simp only [Sem.run_bind, intNo, Result.andThen_ok]; simp [binOp, Op.intArith], by rw [wrapF_eq, subI_eq]; exact .int _ _⟩
      · cases h; exact ⟨.int k (k.wrap (a * b)), by simp only [Sem.run_bind, intNo, Result.andThen_ok]; simp [binOp, Op.intArith], by rw [wrapF_eq, mulI_eq]; exact .int _ _⟩
      · have hb : eqI b 0 = false ∧ some (AV.int k (wrapF k (quoI a b))) = some v := by
          cases hz : eqI b 0 with
          | true => rw [hz] at h; cases h
          | false => rw [hz] at h; exact ⟨rfl, h⟩
        obtain ⟨hz, he⟩ := hb
        cases he
        have hz : b ≠ 0 := fun e => by rw [eqI_eq, e] at hz; simp at hz
        exact ⟨.int k (k.wrap (a.tdiv b)), by simp only [Sem.run_bind, intNo, Result.andThen_ok]; simp [binOp, Op.intDiv, hz], by rw [wrapF_eq, quoI_eq]; exact .int _ _⟩
      · have hb : eqI b 0 = false ∧ some (AV.int k (remI a b)) = some v := by
          cases hz : eqI b 0 with
          | true => rw [hz] at h; cases h
          | false => rw [hz] at h; exact ⟨rfl, h⟩
        obtain ⟨hz, he⟩ := hb
        cases he
        have hz : b ≠ 0 := fun e => by rw [eqI_eq, e] at hz; simp at hz
        exact ⟨.int k (a.tmod b), by simp only [Sem.run_bind, intNo, Result.andThen_ok]; simp [binOp, Op.intDiv, hz], by rw [remI_eq]; exact .int _ _⟩
      · cases h; exact ⟨.bool (a == b), by simp only [Sem.run_bind, intNo, Result.andThen_ok]; simp [binOp, Op.intCmp], by rw [eqI_eq]; exact .bool _⟩
      · cases h; exact ⟨.bool (!(a == b)), by simp only [Sem.run_bind, intNo, Result.andThen_ok]; simp [binOp, Op.intCmp, bne], by rw [eqI_eq]; exact .bool _⟩
      · cases h; exact ⟨.bool (decide (a < b)), by simp only [Sem.run_bind, intNo, Result.andThen_ok]; simp [binOp, Op.intCmp], by rw [ltI_eq]; exact .bool _⟩
      · cases h; exact ⟨.bool (decide (a ≤ b)), by simp only [Sem.run_bind, intNo, Result.andThen_ok]; simp [binOp, Op.intCmp], by
          have : (!ltI b a) = decide (a ≤ b) := by rw [ltI_eq, Bool.eq_iff_iff]; simp
          rw [this]; exact .bool _⟩
      · cases h; exact ⟨.bool (decide (b < a)), by simp only [Sem.run_bind, intNo, Result.andThen_ok]; simp [binOp, Op.intCmp], by rw [ltI_eq]; exact .bool _⟩
      · cases h; exact ⟨.bool (decide (b ≤ a)), by simp only [Sem.run_bind, intNo, Result.andThen_ok]; simp [binOp, Op.intCmp], by
          have : (!ltI a b) = decide (b ≤ a) := by rw [ltI_eq, Bool.eq_iff_iff]; simp
          rw [this]; exact .bool _⟩
      · obtain ⟨cv, hr, hv⟩ := intBits_rel (P := P) (F := F) (m := m) (.inl ⟨rfl, rfl⟩) h w
        exact ⟨cv, by simp only [Sem.run_bind, intNo, Result.andThen_ok]; simpa [binOp] using hr, hv⟩
      · obtain ⟨cv, hr, hv⟩ := intBits_rel (P := P) (F := F) (m := m) (.inr (.inl ⟨rfl, rfl⟩)) h w
        exact ⟨cv, by simp only [Sem.run_bind, intNo, Result.andThen_ok]; simpa [binOp] using hr, hv⟩
      · obtain ⟨cv, hr, hv⟩ := intBits_rel (P := P) (F := F) (m := m) (.inr (.inr (.inl ⟨rfl, rfl⟩))) h w
        exact ⟨cv, by simp only [Sem.run_bind, intNo, Result.andThen_ok]; simpa [binOp] using hr, hv⟩
      · obtain ⟨cv, hr, hv⟩ := intBits_rel (P := P) (F := F) (m := m) (.inr (.inr (.inr ⟨rfl, rfl⟩))) h w
        exact ⟨cv, by simp only [Sem.run_bind, intNo, Result.andThen_ok]; simpa [binOp] using hr, hv⟩
      · cases h
  · obtain ⟨s1, rfl, rfl⟩ := hx.str_inv; obtain ⟨s2, rfl, rfl⟩ := hy.str_inv
    obtain ⟨hc, rfl⟩ := cond_some h
    have hc := Nat.le_of_ble_eq_true hc
    simp only [List.length_map, Array.length_toList, Nat.add_eq] at hc
    have hc : s1.size + s2.size ≤ 1000000 := hc
    have hno : ¬ (((s1.size + s2.size : Nat) : Int) > IntKind.i64.max) := by
      have : (IntKind.i64.max : Int) = 9223372036854775807 := by decide
      omega
    refine ⟨.string (s1 ++ s2), ?_, ?_⟩
    · simp only [Sem.run_bind, strNo, Result.andThen_ok]
      simp only [binOp, Op.stringOp, hno, if_false, Sem.run_pure]
    · have : s1.data.toList.map UInt8.toNat ++ s2.data.toList.map UInt8.toNat = (s1 ++ s2).data.toList.map UInt8.toNat := by simp [ByteArray.data_append]
      rw [this]; exact .str _
  · obtain ⟨s1, rfl, rfl⟩ := hx.str_inv; obtain ⟨s2, rfl, rfl⟩ := hy.str_inv; cases h
    exact ⟨.bool (s1.toList == s2.toList), by simp only [Sem.run_bind, strNo, Result.andThen_ok]; simp [binOp, Op.stringOp], by rw [eqS_bytes]; exact .bool _⟩
  · obtain ⟨s1, rfl, rfl⟩ := hx.str_inv; obtain ⟨s2, rfl, rfl⟩ := hy.str_inv; cases h
    exact ⟨.bool (!(s1.toList == s2.toList)), by simp only [Sem.run_bind, strNo, Result.andThen_ok]; simp [binOp, Op.stringOp], by rw [eqS_bytes]; exact .bool _⟩
  · obtain ⟨s1, rfl, rfl⟩ := hx.str_inv; obtain ⟨s2, rfl, rfl⟩ := hy.str_inv; cases h
    exact ⟨.bool (Op.bytesLess s1.toList s2.toList), by simp only [Sem.run_bind, strNo, Result.andThen_ok]; simp [binOp, Op.stringOp], by rw [ltS_bytes, ← ByteArray.toList_eq, ← ByteArray.toList_eq]; exact .bool _⟩
  · rename_i px py hn1 hn2
    cases hg : guardA (Ctx.of P gl eqT) t x y with
    | false => rw [hg] at h; cases h
    | true =>
      rw [hg] at h
      simp only [cond_true] at h
      split at h
      case h_2 => cases h
      rename_i b hb
      cases h
      have he := eqA_rel hE w 100 t x y b hb cx cy hx hy 10000 (by decide)
      refine ⟨.bool b, ?_, .bool _⟩
      obtain ⟨u1, u2, u3⟩ := guardA_undef hg
      have hI : ¬ ∃ k a j b, cx = .int k a ∧ cy = .int j b := by
        rintro ⟨k, a, j, b, rfl, rfl⟩
        rcases hx.of_int with rfl | rfl
        · rcases hy.of_int with rfl | rfl
          · exact hn1 _ _ _ _ rfl rfl
          · exact u2 rfl
        · exact u1 rfl
      have hS : ¬ ∃ a b, cx = .string a ∧ cy = .string b := by
        rintro ⟨a, b, rfl, rfl⟩
        rcases hx.of_string with ⟨l, rfl⟩ | rfl
        · rcases hy.of_string with ⟨k, rfl⟩ | rfl
          · exact hn2 _ _ rfl rfl
          · exact u2 rfl
        · exact u1 rfl
      have hbo := binOp_eql (t := t) hI hS (fun k b e => by subst e; exact hx.of_float.elim (u3 _) u1) (fun k a b e => by subst e; exact hx.of_complex.elim (u3 _) u1)
      rw [hbo.1]
      simp [Sem.run_bind, eqGuard_rel hE w hg hx hy, Result.andThen_ok, Op.equal, Op.maxDepth, he]
  · rename_i px py hn1 hn2
    cases hg : guardA (Ctx.of P gl eqT) t x y with
    | false => rw [hg] at h; cases h
    | true =>
      rw [hg] at h
      simp only [cond_true] at h
      split at h
      case h_2 => cases h
      rename_i b hb
      cases h
      have he := eqA_rel hE w 100 t x y b hb cx cy hx hy 10000 (by decide)
      refine ⟨.bool (!b), ?_, .bool _⟩
      obtain ⟨u1, u2, u3⟩ := guardA_undef hg
      have hI : ¬ ∃ k a j b, cx = .int k a ∧ cy = .int j b := by
        rintro ⟨k, a, j, b, rfl, rfl⟩
        rcases hx.of_int with rfl | rfl
        · rcases hy.of_int with rfl | rfl
          · exact hn1 _ _ _ _ rfl rfl
          · exact u2 rfl
        · exact u1 rfl
      have hS : ¬ ∃ a b, cx = .string a ∧ cy = .string b := by
        rintro ⟨a, b, rfl, rfl⟩
        rcases hx.of_string with ⟨l, rfl⟩ | rfl
        · rcases hy.of_string with ⟨k, rfl⟩ | rfl
          · exact hn2 _ _ rfl rfl
          · exact u2 rfl
        · exact u1 rfl
      have hbo := binOp_eql (t := t) hI hS (fun k b e => by subst e; exact hx.of_float.elim (u3 _) u1) (fun k a b e => by subst e; exact hx.of_complex.elim (u3 _) u1)
      rw [hbo.2]
      simp [Sem.run_bind, eqGuard_rel hE w hg hx hy, Result.andThen_ok, Op.equal, Op.maxDepth, he]
  · cases h
theorem unOpA_rel {op : UnOp} {x v : AV} {cx : Value} {w : World} (h : unOpA op x = some v) (hx : VRel P F m x cx) : ∃ cv, (Op.unary op cx).run P w = .ok cv w ∧ VRel P F m v cv := by
  unfold unOpA at h
  split at h
  · obtain rfl := hx.bool_inv; cases h
    exact ⟨_, by simp [Op.unary], .bool _⟩
  · rename_i k n
    obtain rfl := hx.int_inv; cases h
    exact ⟨.int k (k.wrap (0 - n)), by simp [Op.unary, Op.intArith], by rw [wrapF_eq, subI_eq]; exact .int _ _⟩
  · cases h
theorem convA_rel {a b : TypeId} {x v : AV} {cx : Value} {w : World} (h : convA (Ctx.of P gl eqT) a b x = some v) (hx : VRel P F m x cx) : ∃ cv, (convert a b cx).run P w = .ok cv w ∧ VRel P F m v cv := by
  unfold convA at h
  split at h
  case h_2 => cases h
  rename_i ta tb ha hb
  have h1 := run_underlying_ti ha w
  have h2 := run_underlying_ti hb w
  split at h
  · rename_i j k j' n hd1 hd2
    rw [hd1] at h1; rw [hd2] at h2
    obtain rfl := hx.int_inv; cases h
    exact ⟨.int k (k.wrap n), by simp [convert, h1, h2, Conv.intToInt, Result.andThen], by rw [wrapF_eq]; exact .int _ _⟩
  · rename_i j j' n hd1 hd2
    rw [hd1] at h1; rw [hd2] at h2
    obtain rfl := hx.int_inv; cases h
    exact ⟨.float .f64 (FloatKind.f64.nearest n), by simp [convert, h1, h2, Conv.intToFloat, Result.andThen], .raw rfl⟩
  · rename_i s hd1 hd2
    rw [hd1] at h1; rw [hd2] at h2
    obtain ⟨s1, rfl, rfl⟩ := hx.str_inv; cases h
    exact ⟨.string s1, by simp [convert, h1, h2, Result.andThen], .str _⟩
  · cases h
end
end Go.Ax
