/- The plain machine (values, one memory of rows, no tape) and how a function's code is turned into its text; how its memory stands to the model's; its operations say what the model's do. No condition. -/
import Derived.Orders
import Derived.Still
import Derived.WalkKit
import Derived.WalkSpells
namespace Go.AM

/-- A row of cells in the plain machine's memory: what it holds, its element's type, when it was written last. -/
structure Row where
  cells : List Value
  elem : TypeId
  ver : Nat

inductive Tree where
  | nil
  | node (l : Tree) (v : Option Row) (r : Tree)

noncomputable def Tree.get (t : Tree) : Nat → Option Row :=
  Tree.rec (motive := fun _ => Nat → Option Row) (fun _ => none)
    (fun _ v _ gl gr k => cond (Nat.beq k 0) v (cond (Nat.beq (Nat.mod k 2) 1) (gl (Nat.div k 2)) (gr (Nat.sub (Nat.div k 2) 1)))) t

/-- One row alone. -/
noncomputable def Tree.lone (f : Nat) : Nat → Option Row → Tree :=
  Nat.rec (motive := fun _ => Nat → Option Row → Tree) (fun _ _ => .nil)
    (fun _ mk k o => cond (Nat.beq k 0) (.node .nil o .nil)
      (cond (Nat.beq (Nat.mod k 2) 1) (.node (mk (Nat.div k 2) o) none .nil) (.node .nil none (mk (Nat.sub (Nat.div k 2) 1) o)))) f

noncomputable def Tree.set (t : Tree) : Nat → Option Row → Tree :=
  Tree.rec (motive := fun _ => Nat → Option Row → Tree) (fun k o => Tree.lone 50 k o)
    (fun l v r sl sr k o => cond (Nat.beq k 0) (.node l o r)
      (cond (Nat.beq (Nat.mod k 2) 1) (.node (sl (Nat.div k 2) o) v r) (.node l v (sr (Nat.sub (Nat.div k 2) 1) o)))) t

/-- The plain machine's memory. -/
structure Mem where
  tab : Tree
  next : Nat
  clock : Nat

noncomputable def Mem.get (h : Mem) (i : Nat) : Option Row := h.tab.get i

/-- A new row: its number is the memory's 'next'. -/
noncomputable def Mem.new (h : Mem) (cells : List Value) (elem : TypeId) : Option Mem :=
  bif Nat.blt h.next (2 ^ 40) then
    some { tab := Tree.set h.tab h.next (some ⟨cells, elem, h.clock⟩), next := Nat.add h.next 1, clock := Nat.add h.clock 1 }
  else none

/-- A row's cells, written anew. -/
noncomputable def Mem.put (h : Mem) (i : Nat) (cells : List Value) (elem : TypeId) : Option Mem :=
  bif Nat.blt i (2 ^ 40) then
    some { tab := Tree.set h.tab i (some ⟨cells, elem, h.clock⟩), next := h.next, clock := Nat.add h.clock 1 }
  else none

/-- A row let go. -/
noncomputable def Mem.drop (h : Mem) (i : Nat) : Option Mem :=
  bif Nat.blt i (2 ^ 40) then some { tab := Tree.set h.tab i none, next := h.next, clock := h.clock } else none

def atom : Value → Bool
  | .bool _ | .int .. | .float .. | .complex .. | .string _ | .pointer none | .nilFunc | .nilIface | .slice none 0 0 => true
  | _ => false

/-- No address in it, as far as so many levels. -/
def plainN : Nat → Value → Bool
  | 0, v => atom v
  | n + 1, v => atom v || (match v with
    | .agg cs => cs.toList.all (plainN n)
    | .tuple cs => cs.toList.all (plainN n)
    | _ => false)

def plain (v : Value) : Bool := plainN 3 v

def cellOk : Value → Bool
  | .agg _ | .tuple _ => false
  | _ => true

/-- An operation of the plain machine. -/
inductive A where
  | mv (x : Operand)
  | pick (c a b : Operand)
  | new (zero : List Value) (elem : TypeId)
  | box (x : Operand) (elem : TypeId)
  | build (zero : List Value) (parts : List (Nat × Nat × Operand))
  | row (zero : List Value) (parts : List (Nat × Nat × Operand)) (len size : Nat) (elem : TypeId)
  | ld (x : Operand)
  | lds (n : Nat) (x : Operand)
  | st (n : Nat) (a x : Operand)
  | nilc (x : Operand)
  | ibin (op : BinOp) (x y : Operand)
  | pbin (op : BinOp) (t : TypeId) (x y : Operand)
  | isnil (eq : Bool) (x : Operand)
  | un (op : UnOp) (x : Operand)
  | iconv (k : IntKind) (x : Operand)
  | pconv (s d : TypeId) (x : Operand)
  | mkf (g : FuncId) (first captured : List Operand)
  | mks (zero : List Value) (bytes size : Nat) (elem : TypeId) (len cap : Operand)
  | slc (size : Nat) (x : Operand) (lo hi mx : Option Operand)
  | fa (off : Nat) (x : Operand)
  | fld (off : Nat) (x : Operand)
  | flds (off n : Nat) (x : Operand)
  | ia (size : Nat) (x ix : Operand)
  | iarr (len size : Nat) (x ix : Operand)
  | ipl (t : TypeId) (x ix : Operand)
  | ext (n : Nat) (x : Operand)
  | call (f : Operand) (args : List Operand)
  | len (x : Operand)
  | app (elem : TypeId) (size bytes : Nat) (s x : Operand)
  | bi (b : Builtin) (ts : Array TypeId) (type : TypeId) (args : List Operand)
  | chk (xs : List Operand)

structure AO where
  dst : Option Tmp
  guard : Option (Tmp × Bool)
  op : A

inductive AC where
  | skip
  | seq (a b : AC)
  | cond (c : Operand) (x y : AC)
  | block (id : Nat) (c : AC)
  | loop (c : AC)
  | exit (id : Nat)
  | ret
  | region (ops : List AO)

/-! ### The machine -/

abbrev Fr := List Value

noncomputable def fget (l : Fr) : Nat → Value :=
  List.rec (motive := fun _ => Nat → Value) (fun _ => undef) (fun a _ ih n => Nat.rec (motive := fun _ => Value) a (fun m _ => ih m) n) l

noncomputable def fset (l : Fr) : Nat → Value → Fr :=
  List.rec (motive := fun _ => Nat → Value → Fr) (fun _ _ => []) (fun a l ih n v => Nat.rec (motive := fun _ => Fr) (v :: l) (fun m _ => a :: ih m v) n) l

noncomputable def ev (fr : Fr) : Operand → Value
  | .tmp t => fget fr t
  | .const v => v
  | .global g => .pointer (some ⟨g, 0, none⟩)
  | .func f => .func (.func f) #[] #[]

/-- The outcome of a 'Sem' that asks for the program alone. -/
def pureRun {α : Type} (P : Program) : Sem α → Option α
  | .pure a => some a
  | .program k => pureRun P (k P)
  | .mark _ k => pureRun P k
  | _ => none

def ptr (i off : Nat) : Value := .pointer (some ⟨i, off, none⟩)

/-- Cells laid over others, from a place on. -/
def over : List Value → Nat → List Value → List Value
  | [], _, _ => []
  | _ :: cs, 0, v :: vs => v :: over cs 0 vs
  | cs, 0, [] => cs
  | c :: cs, n + 1, vs => c :: over cs n vs

/-- An int from 0 to a bound. -/
def bnd (v : Value) (hi : Nat) : Option Nat :=
  match v with
  | .int _ (.ofNat n) => bif Nat.ble n hi then some n else none
  | _ => none

def zeros (z : List Value) : Nat → List Value
  | 0 => []
  | n + 1 => z ++ zeros z n

def orLen (v : Option Value) (hi dflt : Nat) : Option Nat :=
  match v with
  | some v => bnd v hi
  | none => some dflt

/-- x[lo:hi], x[lo:hi:0]. -/
def sliceOp (size : Nat) (x : Value) (lo hi mx : Option Value) : Option Value :=
  match x with
  | .slice none 0 0 =>
    match orLen hi 0 0, orLen lo 0 0, orLen mx 0 0 with
    | some _, some _, some _ => some (.slice none 0 0)
    | _, _, _ => none
  | .slice (some ⟨i, off, sp⟩) len s =>
    bif Nat.beq s size then
      match orLen hi len len with
      | none => none
      | some h =>
        match orLen lo h 0 with
        | none => none
        | some l =>
          match mx with
          | none => match sp with
            | none => some (.slice (some ⟨i, Nat.add off (Nat.mul l s), none⟩) (Nat.sub h l) s)
            | some _ => none
          | some m => match bnd m 0 with
            | some _ => bif Nat.beq h 0 then some (.slice (some ⟨i, off, some 0⟩) 0 s) else none
            | none => none
    else none
  | _ => none

/-- So many cells behind an address. -/
noncomputable def cellsAt (h : Mem) (i off n : Nat) : Option (List Value) :=
  match h.get i with
  | some r => let l := (r.cells.drop off).take n; bif Nat.beq l.length n then some l else none
  | none => none

noncomputable def rowOf (h : Mem) (size : Nat) (x : Value) : Option (Nat × List Value) :=
  match x with
  | .slice none 0 0 => some (0, [])
  | .slice (some ⟨i, off, _⟩) len s => bif Nat.beq s size then
      bif Nat.beq len 0 then some (0, []) else match cellsAt h i off (Nat.mul len s) with
      | some l => some (len, l)
      | none => none
    else none
  | _ => none

inductive AR where
  | val (v : Value) (h : Mem)
  | call (f : FuncId) (args : List Value)

noncomputable def mkRow (h : Mem) (cells : List Value) (elem : TypeId) (v : Nat → Value) : Option AR :=
  match h.new cells elem with
  | some h' => some (.val (v h.next) h')
  | none => none

noncomputable def appendOp (h : Mem) (e : TypeId) (size bytes : Nat) (s x : Value) : Option AR :=
  match rowOf h size x with
  | some (n, new) =>
    bif Nat.beq n 0 then
      match s with
      | .slice _ _ _ => some (.val s h)
      | _ => none
    else
      match s with
      | .slice none 0 0 =>
        bif Nat.ble ((2 * n + 1024) * bytes) (2 ^ 48) then
          mkRow h new e fun i => .slice (some ⟨i, 0, none⟩) n size
        else none
      | .slice (some ⟨i, off, sp⟩) len sz =>
        bif Nat.beq sz size && Nat.ble ((2 * (len + n) + 1024) * bytes) (2 ^ 48) then
          match sp with
          | some _ => bif Nat.beq len 0 then mkRow h new e fun i => .slice (some ⟨i, 0, none⟩) n size else none
          | none =>
            bif Nat.beq off 0 then
              match h.get i with
              | some r =>
                bif Nat.beq (Nat.mul len size) r.cells.length && Nat.beq r.elem e then
                  match h.drop i with
                  | some h' => mkRow h' (r.cells ++ new) e fun i => .slice (some ⟨i, 0, none⟩) (Nat.add len n) size
                  | none => none
                else none
              | none => none
            else none
        else none
      | _ => none
  | none => none

def kindNo : IntKind → Nat
  | .i8 => 0 | .i16 => 1 | .i32 => 2 | .i64 => 3 | .u8 => 4 | .u16 => 5 | .u32 => 6 | .u64 => 7

/-- Above the greatest number of a kind. -/
def kLim : IntKind → Nat
  | .i8 => 128 | .i16 => 32768 | .i32 => 2147483648 | .i64 => 9223372036854775808
  | .u8 => 256 | .u16 => 65536 | .u32 => 4294967296 | .u64 => 18446744073709551616

def kBits : IntKind → Nat
  | .i8 => 8 | .i16 => 16 | .i32 => 32 | .i64 => 64 | .u8 => 8 | .u16 => 16 | .u32 => 32 | .u64 => 64

/-- 'IntKind.wrap', with its numbers written out. -/
def wrapF (k : IntKind) (n : Int) : Int :=
  match k with
  | .i64 => match Int.emod n 18446744073709551616 with
    | .ofNat m => bif Nat.ble 9223372036854775808 m then Int.negSucc (Nat.sub 18446744073709551615 m) else .ofNat m
    | m => m
  | .u64 => Int.emod n 18446744073709551616
  | .u32 => Int.emod n 4294967296
  | .u8 => Int.emod n 256
  | k => k.wrap n

def isShift : BinOp → Bool
  | .shl | .shr => true
  | _ => false

def ibinOp (op : BinOp) (k : IntKind) (a b : Int) : Option Value :=
  match op with
  | .add => some (.int k (wrapF k (Int.add a b)))
  | .sub => some (.int k (wrapF k (Int.sub a b)))
  | .mul => some (.int k (wrapF k (Int.mul a b)))
  | .eql => some (.bool (decide (a = b)))
  | .neq => some (.bool (!decide (a = b)))
  | .lss => some (.bool (decide (a < b)))
  | .leq => some (.bool (decide (a ≤ b)))
  | .gtr => some (.bool (decide (b < a)))
  | .geq => some (.bool (decide (b ≤ a)))
  | .quo => match b with
    | .ofNat 0 => none
    | _ => some (.int k (wrapF k (Int.tdiv a b)))
  | .rem => match b with
    | .ofNat 0 => none
    | _ => some (.int k (Int.tmod a b))
  | .shl => match a, b with
    | .ofNat x, .ofNat y => bif Nat.blt y (kBits k) then some (.int k (wrapF k (.ofNat (Nat.shiftLeft x y)))) else none
    | _, _ => none
  | .shr => match a, b with
    | .ofNat x, .ofNat y => bif Nat.blt y (kBits k) then some (.int k (.ofNat (Nat.shiftRight x y))) else none
    | _, _ => none
  | .and => match a, b with
    | .ofNat x, .ofNat y => bif Nat.blt x (kLim k) && Nat.blt y (kLim k) then some (.int k (.ofNat (Nat.land x y))) else none
    | _, _ => none
  | .or => match a, b with
    | .ofNat x, .ofNat y => bif Nat.blt x (kLim k) && Nat.blt y (kLim k) then some (.int k (.ofNat (Nat.lor x y))) else none
    | _, _ => none
  | .xor => match a, b with
    | .ofNat x, .ofNat y => bif Nat.blt x (kLim k) && Nat.blt y (kLim k) then some (.int k (.ofNat (Nat.xor x y))) else none
    | _, _ => none
  | .andNot => match a, b with
    | .ofNat x, .ofNat y => bif Nat.blt x (kLim k) && Nat.blt y (kLim k) then some (.int k (.ofNat (Nat.xor x (Nat.land x y)))) else none
    | _, _ => none

/-- Parts laid over zero cells: each from its place on, of its size. -/
noncomputable def fillP (σ : Operand → Value) : List Value → List (Nat × Nat × Operand) → Option (List Value)
  | cs, [] => some cs
  | cs, (off, size, x) :: ps =>
    let vs := (σ x).cells.toList
    bif Nat.beq vs.length size && Nat.ble (off + size) cs.length then fillP σ (over cs off vs) ps else none

def valP (h : Mem) : Option Value → Option AR
  | some r => bif plain r then some (.val r h) else none
  | none => none

/-- Each of these addresses' rows has not been written since. -/
noncomputable def chkB (σ : Operand → Value) (c0 : Nat) (h : Mem) : List Operand → Bool
  | [] => true
  | x :: xs => (match σ x with
    | .pointer (some ⟨i, _, _⟩) => match h.get i with
      | some r => Nat.blt r.ver c0
      | none => false
    | _ => true) && chkB σ c0 h xs

abbrev OpF := Program → Nat → (Operand → Value) → Mem → Option AR

noncomputable def aMv (x : Operand) : OpF := fun _ _ σ h => some (.val (σ x) h)
noncomputable def aPick (c a b : Operand) : OpF := fun _ _ σ h => match σ c with
  | .bool t => some (.val (bif t then σ a else σ b) h)
  | _ => none
noncomputable def aNew (z : List Value) (e : TypeId) : OpF := fun _ _ _ h => mkRow h z e fun i => ptr i 0
noncomputable def aBox (x : Operand) (e : TypeId) : OpF := fun _ _ σ h => let cs := (σ x).cells.toList
  bif cs.all cellOk then mkRow h cs e fun i => ptr i 0 else none
noncomputable def aBuild (z : List Value) (ps : List (Nat × Nat × Operand)) : OpF := fun _ _ σ h => match fillP σ z ps with
  | some cs => some (.val (.agg cs.toArray) h)
  | none => none
noncomputable def aRow (z : List Value) (ps : List (Nat × Nat × Operand)) (len size : Nat) (e : TypeId) : OpF := fun _ _ σ h => match fillP σ z ps with
  | some cs => bif cs.all cellOk then mkRow h cs e fun i => .slice (some ⟨i, 0, none⟩) len size else none
  | none => none
noncomputable def aLd (a : Operand) : OpF := fun _ _ σ h => match σ a with
  | .pointer (some ⟨i, off, none⟩) => match h.get i with
    | some r => match r.cells[off]? with
      | some v => some (.val v h)
      | none => none
    | none => none
  | _ => none
noncomputable def aLds (n : Nat) (a : Operand) : OpF := fun _ _ σ h => match σ a with
  | .pointer (some ⟨i, off, none⟩) => match cellsAt h i off n with
    | some l => some (.val (.agg l.toArray) h)
    | none => none
  | _ => none
noncomputable def aSt (n : Nat) (a x : Operand) : OpF := fun _ _ σ h => match σ a with
  | .pointer (some ⟨i, off, none⟩) => match h.get i with
    | some r =>
      let cs := (σ x).cells.toList
      bif Nat.beq cs.length n && cs.all cellOk && Nat.ble (Nat.add off n) r.cells.length then
        match h.put i (over r.cells off cs) r.elem with
        | some h' => some (.val undef h')
        | none => none
      else none
    | none => none
  | _ => none
noncomputable def aNilc (x : Operand) : OpF := fun _ _ σ h => match σ x with
  | .pointer (some a) => some (.val (.pointer (some a)) h)
  | .func (.func g) a b => some (.val (.func (.func g) a b) h)
  | _ => none
noncomputable def aIbin (op : BinOp) (x y : Operand) : OpF := fun _ _ σ h => match σ x, σ y with
  | .int k a, .int k' b => bif Nat.beq (kindNo k) (kindNo k') || isShift op then
      match ibinOp op k a b with
      | some v => some (.val v h)
      | none => none
    else none
  | _, _ => none
noncomputable def aPbin (op : BinOp) (t : TypeId) (x y : Operand) : OpF := fun P _ σ h => let u := σ x; let v := σ y
  bif plain u && plain v then valP h (pureRun P (do eqGuard op t x y u v; binOp op t u v)) else none
noncomputable def aIsnil (e : Bool) (x : Operand) : OpF := fun _ _ σ h => match σ x with
  | .slice a _ _ => some (.val (.bool (a.isNone == e)) h)
  | _ => none
noncomputable def aUn (op : UnOp) (x : Operand) : OpF := fun P _ σ h => let u := σ x
  bif plain u then valP h (pureRun P (Op.unary op u)) else none
noncomputable def aIconv (k : IntKind) (x : Operand) : OpF := fun _ _ σ h => match σ x with
  | .int _ n => some (.val (.int k (wrapF k n)) h)
  | _ => none
noncomputable def aPconv (s d : TypeId) (x : Operand) : OpF := fun P _ σ h => let u := σ x
  bif plain u then valP h (pureRun P (convert s d u)) else none
noncomputable def aMkf (g : FuncId) (a b : List Operand) : OpF := fun _ _ σ h => some (.val (.func (.func g) (a.map σ).toArray (b.map σ).toArray) h)
noncomputable def aMks (z : List Value) (bytes size : Nat) (e : TypeId) (len cap : Operand) : OpF := fun _ _ σ h => match bnd (σ cap) (2 ^ 48) with
  | some c => match bnd (σ len) c with
    | some l => bif Nat.ble (bytes * c) (2 ^ 48) then mkRow h (zeros z l) e fun i => .slice (some ⟨i, 0, none⟩) l size else none
    | none => none
  | none => none
noncomputable def aSlc (size : Nat) (x : Operand) (lo hi mx : Option Operand) : OpF := fun _ _ σ h => match sliceOp size (σ x) (lo.map σ) (hi.map σ) (mx.map σ) with
  | some v => some (.val v h)
  | none => none
noncomputable def aFa (fo : Nat) (x : Operand) : OpF := fun _ _ σ h => match σ x with
  | .pointer (some ⟨i, off, none⟩) => some (.val (ptr i (Nat.add off fo)) h)
  | _ => none
noncomputable def aFld (off : Nat) (x : Operand) : OpF := fun _ _ σ h => match σ x with
  | .agg cs => match cs.toList[off]? with
    | some v => some (.val v h)
    | none => none
  | _ => none
noncomputable def aFlds (off n : Nat) (x : Operand) : OpF := fun _ _ σ h => match σ x with
  | .agg cs => some (.val (.agg ((cs.toList.drop off).take n).toArray) h)
  | _ => none
noncomputable def aIa (size : Nat) (x ix : Operand) : OpF := fun _ _ σ h => match σ x with
  | .slice (some ⟨i, off, none⟩) len s => match σ ix with
    | .int _ (.ofNat n) => bif Nat.blt n len && Nat.beq s size then some (.val (ptr i (Nat.add off (Nat.mul n s))) h) else none
    | _ => none
  | _ => none
noncomputable def aIarr (len size : Nat) (x ix : Operand) : OpF := fun _ _ σ h => match σ x with
  | .pointer (some ⟨i, off, none⟩) => match σ ix with
    | .int _ (.ofNat n) => bif Nat.blt n len then some (.val (ptr i (Nat.add off (Nat.mul n size))) h) else none
    | _ => none
  | _ => none
noncomputable def aIpl (t : TypeId) (x ix : Operand) : OpF := fun P _ σ h => let u := σ x; let v := σ ix
  bif plain u && plain v then valP h (pureRun P (Instr.index t u v)) else none
noncomputable def aExt (n : Nat) (x : Operand) : OpF := fun _ _ σ h => match σ x with
  | .tuple vs => match vs.toList[n]? with
    | some v => some (.val v h)
    | none => none
  | _ => none
noncomputable def aCall (f : Operand) (args : List Operand) : OpF := fun _ _ σ _ => match σ f with
  | .func (.func g) a b => some (.call g (a.toList ++ args.map σ ++ b.toList))
  | _ => none
noncomputable def aLen (x : Operand) : OpF := fun _ _ σ h => match σ x with
  | .slice _ n _ => some (.val (.int .i64 (.ofNat n)) h)
  | _ => none
noncomputable def aApp (e : TypeId) (size bytes : Nat) (s x : Operand) : OpF := fun _ _ σ h => appendOp h e size bytes (σ s) (σ x)
noncomputable def aBi (b : Builtin) (ts : Array TypeId) (t : TypeId) (args : List Operand) : OpF := fun P _ σ h => let l := args.map σ
  bif l.all plain then match pureRun P (builtin b ts t #[] l.toArray) with
    | some (.value v) => valP h (some v)
    | _ => none
  else none
noncomputable def aChk (xs : List Operand) : OpF := fun _ c0 σ h => bif chkB σ c0 h xs then some (.val undef h) else none

noncomputable def aop : A → OpF
  | .mv x => aMv x
  | .pick c a b => aPick c a b
  | .new z e => aNew z e
  | .box x e => aBox x e
  | .build z ps => aBuild z ps
  | .row z ps len size e => aRow z ps len size e
  | .ld a => aLd a
  | .lds n a => aLds n a
  | .st n a x => aSt n a x
  | .nilc x => aNilc x
  | .ibin op x y => aIbin op x y
  | .pbin op t x y => aPbin op t x y
  | .isnil e x => aIsnil e x
  | .un op x => aUn op x
  | .iconv k x => aIconv k x
  | .pconv s d x => aPconv s d x
  | .mkf g a b => aMkf g a b
  | .mks z bytes size e len cap => aMks z bytes size e len cap
  | .slc size x lo hi mx => aSlc size x lo hi mx
  | .fa fo x => aFa fo x
  | .fld off x => aFld off x
  | .flds off n x => aFlds off n x
  | .ia size x ix => aIa size x ix
  | .iarr len size x ix => aIarr len size x ix
  | .ipl t x ix => aIpl t x ix
  | .ext n x => aExt n x
  | .call f args => aCall f args
  | .len x => aLen x
  | .app e size bytes s x => aApp e size bytes s x
  | .bi b ts t args => aBi b ts t args
  | .chk xs => aChk xs

noncomputable def fput (fr : Fr) : Option Tmp → Value → Fr
  | some d, v => fset fr d v
  | none, _ => fr

noncomputable def wantedA (fr : Fr) : Option (Tmp × Bool) → Bool
  | none => true
  | some (d, want) => match fget fr d with
    | .bool b => bif want then b else !b
    | _ => false

inductive AE where
  | normal
  | exit (id : Nat)
  | ret

/-- What the machine is told of a program: its functions, its types that are structs or arrays, and functions whose outcome is told. -/
structure Tab where
  fn : FuncId → Option (Nat × List ResultVar × AC)
  agg : TypeId → Option Nat
  stub : FuncId → List Value → Mem → Option (Value × Mem)

abbrev Res := Option (AE × Fr × Mem)
abbrev Ev := AC → Fr → Mem → Res

/-- What a function hands back: a slot, or what lies at an address in a slot (agg: of how many cells the type is, where it is a struct or an array; else 0). -/
noncomputable def resultOf (T : Tab) (fr : Fr) (h : Mem) : ResultVar → Option Value
  | .tmp t => some (fget fr t)
  | .cell a t => match fget fr a with
    | .pointer (some ⟨i, off, none⟩) => match T.agg t with
      | some 0 => match h.get i with
        | some r => r.cells[off]?
        | none => none
      | some n => match cellsAt h i off n with
        | some l => some (.agg l.toArray)
        | none => none
      | none => none
    | _ => none

noncomputable def resultsOf (T : Tab) (fr : Fr) (h : Mem) : List ResultVar → Option (List Value)
  | [] => some []
  | r :: rs => match resultOf T fr h r with
    | some v => match resultsOf T fr h rs with
      | some vs => some (v :: vs)
      | none => none
    | none => none

def handBack : List Value → Value
  | [v] => v
  | vs => .tuple vs.toArray

noncomputable def leave (T : Tab) (rs : List ResultVar) (fr : Fr) (h : Mem) : Option (Value × Mem) :=
  match resultsOf T fr h rs with
  | some vs => some (handBack vs, h)
  | none => none

noncomputable def ended (T : Tab) (rs : List ResultVar) : Res → Option (Value × Mem)
  | some (.normal, fr, h) => leave T rs fr h
  | some (.ret, fr, h) => leave T rs fr h
  | _ => none

noncomputable def callWith (T : Tab) (rc : Ev) (f : FuncId) (args : List Value) (h : Mem) : Option (Value × Mem) :=
  match T.stub f args h with
  | some r => some r
  | none =>
    match T.fn f with
    | some (n, rs, c) => ended T rs (rc c (args ++ List.replicate (n - args.length) undef) h)
    | none => none

abbrev Cont := Fr → Mem → Res

noncomputable def goOn (k : Cont) (d : Option Tmp) (fr : Fr) : Option (Value × Mem) → Res
  | some (v, h) => k (fput fr d v) h
  | none => none

noncomputable def doOp (P : Program) (T : Tab) (rc : Ev) (c0 : Nat) (o : AO) (k : Cont) : Cont := fun fr h =>
  bif wantedA fr o.guard then
    match aop o.op P c0 (ev fr) h with
    | some (.val v h') => k (fput fr o.dst v) h'
    | some (.call f args) => goOn k o.dst fr (callWith T rc f args h)
    | none => none
  else k (fput fr o.dst undef) h

noncomputable def aops (P : Program) (T : Tab) (rc : Ev) (c0 : Nat) (l : List AO) : Cont :=
  List.rec (motive := fun _ => Cont) (fun fr h => some (.normal, fr, h)) (fun o _ k => doOp P T rc c0 o k) l

abbrev StepF := Program → Tab → Ev → Fr → Mem → Res

noncomputable def sSkip : StepF := fun _ _ _ fr h => some (.normal, fr, h)
noncomputable def sSeq (a b : AC) : StepF := fun _ _ rc fr h => match rc a fr h with
  | some (.normal, fr', h') => rc b fr' h'
  | r => r
noncomputable def sCond (c : Operand) (x y : AC) : StepF := fun _ _ rc fr h => match ev fr c with
  | .bool t => rc (bif t then x else y) fr h
  | _ => none
noncomputable def sBlock (id : Nat) (c : AC) : StepF := fun _ _ rc fr h => match rc c fr h with
  | some (.exit j, fr', h') => bif Nat.beq j id then some (.normal, fr', h') else some (.exit j, fr', h')
  | r => r
noncomputable def sLoop (c : AC) : StepF := fun _ _ rc fr h => match rc c fr h with
  | some (.normal, fr', h') => rc (.loop c) fr' h'
  | r => r
noncomputable def sExit (id : Nat) : StepF := fun _ _ _ fr h => some (.exit id, fr, h)
noncomputable def sRet : StepF := fun _ _ _ fr h => some (.ret, fr, h)
noncomputable def sRegion (ops : List AO) : StepF := fun P T rc fr h => aops P T rc h.clock ops fr h

noncomputable def stepD : AC → StepF
  | .skip => sSkip
  | .seq a b => sSeq a b
  | .cond c x y => sCond c x y
  | .block id c => sBlock id c
  | .loop c => sLoop c
  | .exit id => sExit id
  | .ret => sRet
  | .region ops => sRegion ops

noncomputable def step (P : Program) (T : Tab) (rc : Ev) : Ev := fun c => stepD c P T rc

noncomputable def run (P : Program) (T : Tab) (n : Nat) : Ev :=
  Nat.rec (motive := fun _ => Ev) (fun _ _ _ => none) (fun _ rc => step P T rc) n

noncomputable def call (P : Program) (T : Tab) (n : Nat) (f : FuncId) (args : List Value) (h : Mem) : Option (Value × Mem) :=
  callWith T (run P T n) f args h

/-! ### A function's code, turned into the machine's text -/

def opdOk : Operand → Bool
  | .const v => plain v
  | .global g => Nat.blt g 2
  | _ => true

structure TI where
  desc : TypeDesc
  size : Nat
  bytes : Nat
  zero : List Value
  agg : Bool

def isAggD : TypeDesc → Bool
  | .struct _ | .array _ _ => true
  | _ => false

def infoOf (P : Program) (t : TypeId) : Option TI :=
  match P.info? t, P.underlying t with
  | some i, some d => match i.zero with
    | some z => let cs := z.cells.toList
      bif cs.all plain && cs.all cellOk && Nat.beq cs.length i.size && Nat.blt 0 i.size then some ⟨d, i.size, i.bytes, cs, isAggD d⟩ else none
    | none => none
  | _, _ => none

def fieldOf (P : Program) (fields : Array Field) (i : Nat) : Option (Nat × TI) :=
  match fields[i]? with
  | some f => match infoOf P f.type with
    | some fi => some (f.offset, fi)
    | none => none
  | none => none

def partsOf (place : Nat → Option (Nat × Nat)) : List (Nat × Operand) → Option (List (Nat × Nat × Operand))
  | [] => some []
  | (i, x) :: ps => match place i with
    | some (off, size) => match partsOf place ps with
      | some r => some ((off, size, x) :: r)
      | none => none
    | none => none

def placesOf (P : Program) : List Field → Option (List (Nat × Nat))
  | [] => some []
  | f :: fs => match infoOf P f.type with
    | some fi => match placesOf P fs with
      | some r => some ((f.offset, fi.size) :: r)
      | none => none
    | none => none

def sliceElem (P : Program) (t : TypeId) : Option (TypeId × TI) :=
  match infoOf P t with
  | some ⟨.slice e, _, _, _, _⟩ => match infoOf P e with
    | some ie => some (e, ie)
    | none => none
  | _ => none

def isInt (P : Program) (t : TypeId) : Option IntKind :=
  match P.underlying t with
  | some (.int k) => some k
  | _ => none

def compOp (P : Program) (o : Oper) : Option A :=
  match o.op with
  | .move x | .assign x => some (.mv x)
  | .pick c a b => some (.pick c a b)
  | .alloc t => match infoOf P t with
    | some i => some (.new i.zero t)
    | none => none
  | .box t x => some (.box x t)
  | .build t parts => match infoOf P t with
    | some ⟨.struct fields, _, _, zero, _⟩ => match placesOf P fields.toList with
      | some pl => match partsOf (fun i => pl[i]?) parts.toList with
        | some ps => some (.build zero ps)
        | none => none
      | none => none
    | some ⟨.array _ e, _, _, zero, _⟩ => match infoOf P e with
      | some ie => match partsOf (fun i => some (i * ie.size, ie.size)) parts.toList with
        | some ps => some (.build zero ps)
        | none => none
      | none => none
    | _ => none
  | .buildSlice t len parts => match sliceElem P t with
    | some (e, ie) =>
      bif Nat.ble (len * ie.size) 1000 then
        match partsOf (fun i => some (i * ie.size, ie.size)) parts.toList with
        | some ps => some (.row (zeros ie.zero len) ps len ie.size e)
        | none => none
      else none
    | none => none
  | .load t a => match infoOf P t with
    | some i => bif i.agg then some (.lds i.size a) else some (.ld a)
    | none => none
  | .store t a x => match infoOf P t with
    | some i => some (.st i.size a x)
    | none => none
  | .nilCheck x => some (.nilc x)
  | .binOp op t x y _ => match op, isInt P t with
    | op, some _ => some (.ibin op x y)
    | op, none => match y, sliceElem P t with
      | .const (.slice none 0 0), some _ => match op with
        | .eql => some (.isnil true x)
        | .neq => some (.isnil false x)
        | _ => none
      | _, _ => some (.pbin op t x y)
  | .unOp op _ x => some (.un op x)
  | .convert s d x => match isInt P s, isInt P d with
    | some _, some k => some (.iconv k x)
    | _, _ => some (.pconv s d x)
  | .makeFunc (.func g) first captured => some (.mkf g first.toList captured.toList)
  | .makeSlice t len cap => match sliceElem P t with
    | some (e, ie) => some (.mks ie.zero ie.bytes ie.size e len cap)
    | none => none
  | .slice t x lo hi mx => match sliceElem P t with
    | some (_, ie) => bif mx.isNone || hi.isSome then some (.slc ie.size x lo hi mx) else none
    | none => none
  | .fieldAddr t x f => match P.underlying t with
    | some (.struct fields) => match fieldOf P fields f with
      | some (off, _) => some (.fa off x)
      | none => none
    | _ => none
  | .field t x f => match P.underlying t with
    | some (.struct fields) => match fieldOf P fields f with
      | some (off, fi) => bif fi.agg then some (.flds off fi.size x) else some (.fld off x)
      | none => none
    | _ => none
  | .indexAddr t x ix => match P.underlying t with
    | some (.slice e) => match infoOf P e with
      | some ie => some (.ia ie.size x ix)
      | none => none
    | some (.array len e) => match infoOf P e with
      | some ie => some (.iarr len ie.size x ix)
      | none => none
    | _ => none
  | .index t x ix => some (.ipl t x ix)
  | .extract t ix => some (.ext ix t)
  | .call { callee := .value f, args, .. } => some (.call f args.toList)
  | .call { callee := .builtin b, args, argTypes } => match b, args.toList with
    | .len, [x] => match argTypes[0]? with
      | some t => match sliceElem P t with
        | some _ => some (.len x)
        | none => some (.bi b argTypes o.type [x])
      | none => none
    | .append, [s, x] => match argTypes[0]?, argTypes[1]? with
      | some t, some xt => match sliceElem P t, sliceElem P xt with
        | some (e, ie), some _ => bif Nat.blt 0 ie.bytes then some (.app e ie.size ie.bytes s x) else none
        | _, _ => none
      | _, _ => none
    | .min, l | .max, l | .real, l | .imag, l | .complex, l => some (.bi b argTypes o.type l)
    | _, _ => none
  | _ => none

def compGuard (ops : Array Oper) : Option (Nat × Bool) → Option (Option (Tmp × Bool))
  | none => some none
  | some (j, want) => match (ops[j]?).bind (·.dst) with
    | some d => some (some (d, want))
    | none => none

def compAO (P : Program) (ops : Array Oper) (o : Oper) : Option AO :=
  bif o.op.operands.toList.all opdOk then
    match compOp P o, compGuard ops o.guard with
    | some a, some g => some ⟨o.dst, g, a⟩
    | _, _ => none
  else none

def compAOs (P : Program) (ops : Array Oper) : List Oper → Option (List AO)
  | [] => some []
  | o :: os => match compAO P ops o, compAOs P ops os with
    | some a, some as => some (a :: as)
    | _, _ => none

/-! #### A region that draws its order -/

def effect : A → Bool
  | .new .. | .box .. | .row .. | .st .. | .mks .. | .call .. | .app .. => true
  | _ => false

def isNew : A → Bool
  | .new .. | .box .. | .row .. | .mks .. => true
  | _ => false

/-- An operation's address, if it is a load. -/
def loadsAt : A → Option Operand
  | .ld x => some x
  | .lds _ x => some x
  | _ => none

/-- An operation of a region: its number there, what it has ahead of it (bits), what it looks at, where it writes, what it is in the machine's text. -/
structure RO where
  no : Nat
  mask : Nat
  looks : List Tmp
  op : AO

def edgesOf (o : Oper) : List Nat := (o.after.toList.filter (Region.binds .any)).map (·.on)

/-- What an operation has ahead of it, as bits: by its own edges and by those of what they lead to. -/
def maskOf (masks : List Nat) (o : Oper) : Nat :=
  (edgesOf o).foldl (fun m e => m ||| (2 ^ e) ||| masks.getD e 0) 0

def masksOf : List Oper → List Nat → List Nat
  | [], ms => ms
  | o :: os, ms => masksOf os (ms ++ [maskOf ms o])

def rosOf (ops : Array Oper) (ms : List Nat) : Nat → List (Oper × AO) → List RO
  | _, [] => []
  | k, (o, a) :: l => ⟨k, ms.getD k 0, o.looksAt ops, a⟩ :: rosOf ops ms (k + 1) l

/-- New rows as late as may be: each ahead of the first operation that has it ahead of it. -/
def lateNew : List RO → List RO → List RO
  | [], pend => pend
  | r :: rs, pend =>
    bif isNew r.op.op && Nat.beq r.mask 0 then lateNew rs (pend ++ [r])
    else (pend.filter fun p => r.mask.testBit p.no) ++ r :: lateNew rs (pend.filter fun p => !r.mask.testBit p.no)

/-- Of two operations, the first one ahead of the second in the machine's text: the second one's slots are not the first one's, or it waits for it; it does not write a load's address; and of two with effects the second one waits for the first one, but if it is a new row. -/
def pairOk (x y : RO) : Bool :=
  (match x.op.dst with
    | some d => (!y.looks.contains d || y.mask.testBit x.no) && (y.op.dst != some d)
    | none => true) &&
  (match y.op.dst with
    | some d => (!x.looks.contains d || y.mask.testBit x.no) && !(match loadsAt x.op.op with
      | some (.tmp t) => Nat.beq t d
      | _ => false)
    | none => true) &&
  (!(effect x.op.op && effect y.op.op) || isNew y.op.op || y.mask.testBit x.no) &&
  !x.mask.testBit y.no && !Nat.beq x.no y.no

/-- A load does not write its own address. -/
def selfOk (x : RO) : Bool :=
  match x.op.dst, loadsAt x.op.op with
  | some d, some (.tmp t) => !Nat.beq t d
  | _, _ => true

def pairsOk : List RO → Bool
  | [] => true
  | x :: xs => xs.all (pairOk x) && selfOk x && pairsOk xs

/-- Ahead of an effect: of the loads that must be ahead of it and have not been looked at yet, the addresses. -/
def withChk : List RO → List (Nat × Operand) → List AO
  | [], pend => [⟨none, none, .chk (pend.map (·.2))⟩]
  | r :: rs, pend =>
    bif effect r.op.op then
      ⟨none, none, .chk ((pend.filter fun p => r.mask.testBit p.1).map (·.2))⟩ :: r.op :: withChk rs (pend.filter fun p => !r.mask.testBit p.1)
    else match loadsAt r.op.op with
      | some x => r.op :: withChk rs (pend ++ [(r.no, x)])
      | none => r.op :: withChk rs pend

def backward (os : List Oper) (k : Nat) : Bool :=
  match os with
  | [] => true
  | o :: os => (edgesOf o).all (fun e => Nat.blt e k) && backward os (k + 1)

def compRegion (P : Program) (ops : Array Oper) (draw : Bool) : Option AC :=
  match compAOs P ops ops.toList with
  | some as => bif draw then
      let rs := lateNew (rosOf ops (masksOf ops.toList []) 0 (ops.toList.zip as)) []
      bif backward ops.toList 0 && pairsOk rs && Nat.beq rs.length ops.size then some (.region (withChk rs [])) else none
    else some (.region as)
  | none => none

def comp (P : Program) : Code → Option AC
  | .skip => some .skip
  | .region _ ops draw => compRegion P ops draw
  | .seq a b => match comp P a, comp P b with
    | some x, some y => some (.seq x y)
    | _, _ => none
  | .cond c a b => bif opdOk c then match comp P a, comp P b with
      | some x, some y => some (.cond c x y)
      | _, _ => none
    else none
  | .block id c => match comp P c with
    | some x => some (.block id x)
    | none => none
  | .loop c => match comp P c with
    | some x => some (.loop x)
    | none => none
  | .exit id => some (.exit id)
  | .ret => some .ret
  | _ => none

end Go.AM

namespace Go.AM

/-! ### The tree -/

theorem Tree.get_nil (k : Nat) : Tree.get .nil k = none := rfl
theorem Tree.get_node (l : Tree) (v : Option Row) (r : Tree) (k : Nat) :
    Tree.get (.node l v r) k = if k = 0 then v else if k % 2 = 1 then l.get (k / 2) else r.get (k / 2 - 1) := by
  show cond (Nat.beq k 0) v (cond (Nat.beq (k % 2) 1) (l.get (k / 2)) (r.get (k / 2 - 1))) = _
  by_cases h : k = 0
  · subst h; rfl
  · have : Nat.beq k 0 = false := by cases k <;> simp_all [Nat.beq]
    rw [this, if_neg h]
    by_cases h2 : k % 2 = 1
    · rw [h2]; rfl
    · have : Nat.beq (k % 2) 1 = false := by
        have := Nat.beq_eq_true_eq (k % 2) 1
        cases hb : Nat.beq (k % 2) 1
        · rfl
        · exact absurd (Nat.eq_of_beq_eq_true hb) h2
      rw [this, if_neg h2]; rfl

theorem Tree.lone_succ (f k : Nat) (o : Option Row) :
    Tree.lone (f + 1) k o = if k = 0 then .node .nil o .nil else if k % 2 = 1 then .node (Tree.lone f (k / 2) o) none .nil else .node .nil none (Tree.lone f (k / 2 - 1) o) := by
  show cond (Nat.beq k 0) _ (cond (Nat.beq (k % 2) 1) _ _) = _
  by_cases h : k = 0
  · subst h; rfl
  · have : Nat.beq k 0 = false := by cases k <;> simp_all [Nat.beq]
    rw [this, if_neg h]
    by_cases h2 : k % 2 = 1
    · rw [h2]; rfl
    · have : Nat.beq (k % 2) 1 = false := by
        cases hb : Nat.beq (k % 2) 1
        · rfl
        · exact absurd (Nat.eq_of_beq_eq_true hb) h2
      rw [this, if_neg h2]; rfl

theorem Tree.get_lone (f : Nat) : ∀ (k j : Nat) (o : Option Row), k + 1 < 2 ^ f → (Tree.lone f k o).get j = if j = k then o else none := by
  induction f with
  | zero => intro k j o h; simp at h
  | succ f ih =>
    intro k j o h
    rw [Tree.lone_succ]
    have hp : 2 ^ (f + 1) = 2 * 2 ^ f := by rw [Nat.pow_succ]; omega
    by_cases h0 : k = 0
    · subst h0
      rw [if_pos rfl, Tree.get_node]
      by_cases hj : j = 0
      · rw [if_pos hj, if_pos hj]
      · rw [if_neg hj, if_neg hj]; split <;> rfl
    · rw [if_neg h0]
      by_cases h1 : k % 2 = 1
      · rw [if_pos h1, Tree.get_node, ih _ _ _ (by omega)]
        by_cases hj : j = 0
        · rw [if_pos hj, if_neg (by omega)]
        · rw [if_neg hj]
          by_cases h2 : j % 2 = 1
          · rw [if_pos h2]
            by_cases h3 : j = k
            · rw [if_pos (by omega), if_pos h3]
            · rw [if_neg (by omega), if_neg h3]
          · rw [if_neg h2, if_neg (by omega), Tree.get_nil]
      · rw [if_neg h1, Tree.get_node, ih _ _ _ (by omega)]
        by_cases hj : j = 0
        · rw [if_pos hj, if_neg (by omega)]
        · rw [if_neg hj]
          by_cases h2 : j % 2 = 1
          · rw [if_pos h2, if_neg (by omega), Tree.get_nil]
          · rw [if_neg h2]
            by_cases h3 : j = k
            · rw [if_pos (by omega), if_pos h3]
            · rw [if_neg (by omega), if_neg h3]

theorem Tree.set_node (l : Tree) (v : Option Row) (r : Tree) (k : Nat) (o : Option Row) :
    Tree.set (.node l v r) k o = if k = 0 then .node l o r else if k % 2 = 1 then .node (l.set (k / 2) o) v r else .node l v (r.set (k / 2 - 1) o) := by
  show cond (Nat.beq k 0) _ (cond (Nat.beq (k % 2) 1) _ _) = _
  by_cases h : k = 0
  · subst h; rfl
  · have : Nat.beq k 0 = false := by cases k <;> simp_all [Nat.beq]
    rw [this, if_neg h]
    by_cases h2 : k % 2 = 1
    · rw [h2]; rfl
    · have : Nat.beq (k % 2) 1 = false := by
        cases hb : Nat.beq (k % 2) 1
        · rfl
        · exact absurd (Nat.eq_of_beq_eq_true hb) h2
      rw [this, if_neg h2]; rfl

theorem Tree.get_set (t : Tree) : ∀ (k j : Nat) (o : Option Row), k < 2 ^ 40 → (t.set k o).get j = if j = k then o else t.get j := by
  induction t with
  | nil =>
    intro k j o h
    show (Tree.lone 50 k o).get j = _
    rw [Tree.get_lone 50 k j o (by omega)]; rfl
  | node l v r ihl ihr =>
    intro k j o h
    rw [Tree.set_node]
    by_cases h0 : k = 0
    · subst h0
      rw [if_pos rfl, Tree.get_node, Tree.get_node]
      by_cases hj : j = 0
      · rw [if_pos hj, if_pos hj]
      · rw [if_neg hj, if_neg hj, if_neg hj]
    · rw [if_neg h0]
      by_cases h1 : k % 2 = 1
      · rw [if_pos h1, Tree.get_node, Tree.get_node, ihl _ _ _ (by omega)]
        by_cases hj : j = 0
        · rw [if_pos hj, if_neg (by omega), if_pos hj]
        · rw [if_neg hj, if_neg hj]
          by_cases h2 : j % 2 = 1
          · rw [if_pos h2, if_pos h2]
            by_cases h3 : j = k
            · rw [if_pos (by omega), if_pos h3]
            · rw [if_neg (by omega), if_neg h3]
          · rw [if_neg h2, if_neg (by omega), if_neg h2]
      · rw [if_neg h1, Tree.get_node, Tree.get_node, ihr _ _ _ (by omega)]
        by_cases hj : j = 0
        · rw [if_pos hj, if_neg (by omega), if_pos hj]
        · rw [if_neg hj, if_neg hj]
          by_cases h2 : j % 2 = 1
          · rw [if_pos h2, if_pos h2, if_neg (by omega)]
          · rw [if_neg h2, if_neg h2]
            by_cases h3 : j = k
            · rw [if_pos (by omega), if_pos h3]
            · rw [if_neg (by omega), if_neg h3]

/-! ### The memory -/

theorem Mem.new_some {h h' : Mem} {cs : List Value} {e : TypeId} (hn : h.new cs e = some h') :
    h.next < 2 ^ 40 ∧ h'.next = h.next + 1 ∧ h'.clock = h.clock + 1 ∧ ∀ j, h'.get j = if j = h.next then some ⟨cs, e, h.clock⟩ else h.get j := by
  unfold Mem.new at hn
  cases hb : Nat.blt h.next (2 ^ 40) with
  | false => rw [hb] at hn; cases hn
  | true =>
    rw [hb] at hn
    have hlt : h.next < 2 ^ 40 := by simpa [Nat.blt_eq] using hb
    cases hn
    exact ⟨hlt, rfl, rfl, fun j => Tree.get_set _ _ _ _ hlt⟩

theorem Mem.put_some {h h' : Mem} {i : Nat} {cs : List Value} {e : TypeId} (hn : h.put i cs e = some h') :
    h'.next = h.next ∧ h'.clock = h.clock + 1 ∧ ∀ j, h'.get j = if j = i then some ⟨cs, e, h.clock⟩ else h.get j := by
  unfold Mem.put at hn
  cases hb : Nat.blt i (2 ^ 40) with
  | false => rw [hb] at hn; cases hn
  | true =>
    rw [hb] at hn
    have hlt : i < 2 ^ 40 := by simpa [Nat.blt_eq] using hb
    cases hn
    exact ⟨rfl, rfl, fun j => Tree.get_set _ _ _ _ hlt⟩

theorem Mem.drop_some {h h' : Mem} {i : Nat} (hn : h.drop i = some h') :
    h'.next = h.next ∧ h'.clock = h.clock ∧ ∀ j, h'.get j = if j = i then none else h.get j := by
  unfold Mem.drop at hn
  cases hb : Nat.blt i (2 ^ 40) with
  | false => rw [hb] at hn; cases hn
  | true =>
    rw [hb] at hn
    have hlt : i < 2 ^ 40 := by simpa [Nat.blt_eq] using hb
    cases hn
    exact ⟨rfl, rfl, fun j => Tree.get_set _ _ _ _ hlt⟩

/-! ### Frames -/

theorem fget_eq (l : Fr) : ∀ t, fget l t = l.getD t undef := by
  induction l with
  | nil => intro t; rfl
  | cons a l ih =>
    intro t
    cases t with
    | zero => rfl
    | succ t => show fget l t = _; rw [ih]; simp

theorem fset_eq (l : Fr) : ∀ t v, fset l t v = l.set t v := by
  induction l with
  | nil => intro t v; rfl
  | cons a l ih =>
    intro t v
    cases t with
    | zero => rfl
    | succ t => show a :: fset l t v = _; rw [ih]; rfl

/-! ### Values -/

abbrev Inj := Nat → Option (Nat × Nat)

mutual
/-- A value of the machine, and one of the model's: 'I' tells of each row's number its block and how many cells that has. -/
inductive RV (I : Inj) : Value → Value → Prop
  | bool (b : Bool) : RV I (.bool b) (.bool b)
  | int (k : IntKind) (n : Int) : RV I (.int k n) (.int k n)
  | float (k : FloatKind) (b : Nat) : RV I (.float k b) (.float k b)
  | complex (k : FloatKind) (a b : Nat) : RV I (.complex k a b) (.complex k a b)
  | string (s : ByteArray) : RV I (.string s) (.string s)
  | nilPtr : RV I (.pointer none) (.pointer none)
  | nilFunc : RV I .nilFunc .nilFunc
  | nilIface : RV I .nilIface .nilIface
  | nilSlice : RV I (.slice none 0 0) (.slice none 0 0)
  | ptr {i off b n : Nat} (h : I i = some (b, n)) : RV I (.pointer (some ⟨i, off, none⟩)) (.pointer (some ⟨b, off, none⟩))
  | slice {i off len s b n off' cap : Nat} {sp : Option Nat} (h : I i = some (b, n)) (hl : len ≤ cap) (hc : cap ≠ 0 → off' = off ∧ off + cap * s ≤ n) (hs : sp ≠ none → cap = 0) :
      RV I (.slice (some ⟨i, off, sp⟩) len s) (.slice (some ⟨b, off', none⟩) len cap)
  | func {fn : Fn} {a c a' c' : Array Value} (ha : RL I a.toList a'.toList) (hc : RL I c.toList c'.toList) : RV I (.func fn a c) (.func fn a' c')
  | agg {cs ds : Array Value} (h : RL I cs.toList ds.toList) : RV I (.agg cs) (.agg ds)
  | tuple {cs ds : Array Value} (h : RL I cs.toList ds.toList) : RV I (.tuple cs) (.tuple ds)
inductive RL (I : Inj) : List Value → List Value → Prop
  | nil : RL I [] []
  | cons {v w : Value} {vs ws : List Value} (h : RV I v w) (t : RL I vs ws) : RL I (v :: vs) (w :: ws)
end

/-- More is told of the rows' numbers, and nothing else of those below a number. -/
structure Ext (lo : Nat) (I J : Inj) : Prop where
  up : ∀ i x, I i = some x → J i = some x
  low : ∀ i, i < lo → J i = I i

theorem Ext.refl (lo : Nat) (I : Inj) : Ext lo I I := ⟨fun _ _ h => h, fun _ _ => rfl⟩
theorem Ext.trans {lo lo' : Nat} {I J K : Inj} (a : Ext lo I J) (b : Ext lo' J K) (hl : lo ≤ lo') : Ext lo I K :=
  ⟨fun i x h => b.up i x (a.up i x h), fun i h => (b.low i (Nat.lt_of_lt_of_le h hl)).trans (a.low i h)⟩

mutual
theorem RV.mono {lo : Nat} {I J : Inj} (e : Ext lo I J) {v w : Value} (h : RV I v w) : RV J v w := by
  cases h with
  | bool b => exact .bool b
  | int k n => exact .int k n
  | float k b => exact .float k b
  | complex k a b => exact .complex k a b
  | string s => exact .string s
  | nilPtr => exact .nilPtr
  | nilFunc => exact .nilFunc
  | nilIface => exact .nilIface
  | nilSlice => exact .nilSlice
  | ptr h => exact .ptr (e.up _ _ h)
  | slice h hl hc hs => exact .slice (e.up _ _ h) hl hc hs
  | func ha hc => exact .func (RL.mono e ha) (RL.mono e hc)
  | agg h => exact .agg (RL.mono e h)
  | tuple h => exact .tuple (RL.mono e h)
theorem RL.mono {lo : Nat} {I J : Inj} (e : Ext lo I J) {vs ws : List Value} (h : RL I vs ws) : RL J vs ws := by
  cases h with
  | nil => exact .nil
  | cons h t => exact .cons (RV.mono e h) (RL.mono e t)
end

namespace RL
variable {I : Inj}

theorem length_eq {vs ws : List Value} (h : RL I vs ws) : vs.length = ws.length := by
  induction vs generalizing ws with
  | nil => cases h; rfl
  | cons v vs ih => cases h with | cons h t => simp [ih t]

theorem get {vs ws : List Value} (h : RL I vs ws) : ∀ {n : Nat} {v : Value}, vs[n]? = some v → ∃ w, ws[n]? = some w ∧ RV I v w := by
  induction vs generalizing ws with
  | nil => intro n v hv; simp at hv
  | cons x vs ih =>
    intro n v hv
    cases h with
    | cons hx t =>
      cases n with
      | zero => simp at hv; subst hv; exact ⟨_, rfl, hx⟩
      | succ n => simp at hv; obtain ⟨w, h1, h2⟩ := ih t hv; exact ⟨w, by simpa using h1, h2⟩

theorem of_get {vs ws : List Value} (hl : vs.length = ws.length) (h : ∀ (n : Nat) (v w : Value), vs[n]? = some v → ws[n]? = some w → RV I v w) : RL I vs ws := by
  induction vs generalizing ws with
  | nil => cases ws with
    | nil => exact .nil
    | cons => simp at hl
  | cons v vs ih => cases ws with
    | nil => simp at hl
    | cons w ws => exact .cons (h 0 v w rfl rfl) (ih (by simpa using hl) fun n a b ha hb => h (n + 1) a b (by simpa using ha) (by simpa using hb))

theorem append {vs ws vs' ws' : List Value} (h : RL I vs ws) (h' : RL I vs' ws') : RL I (vs ++ vs') (ws ++ ws') := by
  induction vs generalizing ws with
  | nil => cases h; exact h'
  | cons v vs ih => cases h with | cons a t => exact .cons a (ih t)

theorem take {vs ws : List Value} (h : RL I vs ws) (n : Nat) : RL I (vs.take n) (ws.take n) := by
  induction vs generalizing ws n with
  | nil => cases h; simp; exact .nil
  | cons v vs ih => cases h with
    | cons a t => cases n with
      | zero => simp; exact .nil
      | succ n => simpa using .cons a (ih t n)

theorem drop {vs ws : List Value} (h : RL I vs ws) (n : Nat) : RL I (vs.drop n) (ws.drop n) := by
  induction vs generalizing ws n with
  | nil => cases h; simp; exact .nil
  | cons v vs ih => cases h with
    | cons a t => cases n with
      | zero => simpa using .cons a t
      | succ n => simpa using ih t n

theorem set {vs ws : List Value} (h : RL I vs ws) (n : Nat) {v w : Value} (hv : RV I v w) : RL I (vs.set n v) (ws.set n w) := by
  induction vs generalizing ws n with
  | nil => cases h; simp; exact .nil
  | cons x vs ih => cases h with
    | cons a t => cases n with
      | zero => simpa using .cons hv t
      | succ n => simpa using .cons a (ih t n)

theorem replicate (n : Nat) {v w : Value} (hv : RV I v w) : RL I (List.replicate n v) (List.replicate n w) := by
  induction n with
  | zero => exact .nil
  | succ n ih => exact .cons hv ih

end RL

theorem RV.undef (I : Inj) : RV I undef undef := .tuple .nil

theorem RL.getD {I : Inj} {vs ws : List Value} (h : RL I vs ws) (n : Nat) : RV I (vs.getD n undef) (ws.getD n undef) := by
  rw [List.getD_eq_getElem?_getD, List.getD_eq_getElem?_getD]
  cases hv : vs[n]? with
  | none =>
    have : ws[n]? = none := by
      rw [List.getElem?_eq_none_iff] at hv ⊢; rw [← h.length_eq]; exact hv
    rw [this]; exact .undef I
  | some v =>
    obtain ⟨w, hw, r⟩ := h.get hv
    rw [hw]; exact r

/-! ### Plain values -/

theorem atom_self {v : Value} (I : Inj) (h : atom v = true) : RV I v v := by
  cases v <;> simp [atom] at h
  case bool => exact .bool _
  case int => exact .int _ _
  case float => exact .float _ _
  case complex => exact .complex _ _ _
  case string => exact .string _
  case nilFunc => exact .nilFunc
  case nilIface => exact .nilIface
  case pointer a => cases a with
    | none => exact .nilPtr
    | some a => simp at h
  case slice a n c =>
    cases a with
    | none => cases n with
      | zero => cases c with
        | zero => exact .nilSlice
        | succ => simp at h
      | succ => simp at h
    | some => simp at h

theorem atom_eq {v w : Value} {I : Inj} (h : atom v = true) (r : RV I v w) : w = v := by
  cases r <;> simp [atom] at h <;> rfl

theorem plainN_self {I : Inj} : ∀ (n : Nat) {v : Value}, plainN n v = true → RV I v v
  | 0, _, h => atom_self I h
  | n + 1, v, h => by
    have all : ∀ l : List Value, l.all (plainN n) = true → RL I l l := by
      intro l hl
      induction l with
      | nil => exact .nil
      | cons a l ih => simp only [List.all_cons, Bool.and_eq_true] at hl; exact .cons (plainN_self n hl.1) (ih hl.2)
    cases v
    case agg cs => exact .agg (all _ (by simpa only [plainN, atom, Bool.false_or] using h))
    case tuple cs => exact .tuple (all _ (by simpa only [plainN, atom, Bool.false_or] using h))
    all_goals exact atom_self I (by simpa only [plainN, Bool.or_false] using h)

theorem plainN_eq {I : Inj} : ∀ (n : Nat) {v w : Value}, plainN n v = true → RV I v w → w = v
  | 0, _, _, h, r => atom_eq h r
  | n + 1, v, w, h, r => by
    have all : ∀ l l' : List Value, l.all (plainN n) = true → RL I l l' → l' = l := by
      intro l
      induction l with
      | nil => intro l' _ r; cases r; rfl
      | cons a l ih =>
        intro l' hl r
        simp only [List.all_cons, Bool.and_eq_true] at hl
        cases r with
        | cons x t => rw [plainN_eq n hl.1 x, ih _ hl.2 t]
    cases v
    case agg cs =>
      cases r with
      | agg r => exact congrArg Value.agg (Array.toList_inj.1 (all _ _ (by simpa only [plainN, atom, Bool.false_or] using h) r))
    case tuple cs =>
      cases r with
      | tuple r => exact congrArg Value.tuple (Array.toList_inj.1 (all _ _ (by simpa only [plainN, atom, Bool.false_or] using h) r))
    all_goals exact atom_eq (by simpa only [plainN, Bool.or_false] using h) r

theorem plain_self {I : Inj} {v : Value} (h : plain v = true) : RV I v v := plainN_self 3 h
theorem plain_eq {I : Inj} {v w : Value} (h : plain v = true) (r : RV I v w) : w = v := plainN_eq 3 h r

theorem RL.plain_self {I : Inj} {l : List Value} (h : l.all plain = true) : RL I l l := by
  induction l with
  | nil => exact .nil
  | cons a l ih => simp only [List.all_cons, Bool.and_eq_true] at h; exact .cons (Go.AM.plain_self h.1) (ih h.2)

theorem RL.plain_eq {I : Inj} {l l' : List Value} (h : l.all plain = true) (r : RL I l l') : l' = l := by
  induction l generalizing l' with
  | nil => cases r; rfl
  | cons a l ih =>
    simp only [List.all_cons, Bool.and_eq_true] at h
    cases r with
    | cons x t => rw [Go.AM.plain_eq h.1 x, ih h.2 t]

/-- The cells of a value, and of what it stands for. -/
theorem RV.cells {I : Inj} {v w : Value} (h : RV I v w) : RL I v.cells.toList w.cells.toList := by
  cases h with
  | agg h => exact h
  | _ => simp only [Value.cells]; exact .cons (by constructor <;> assumption) .nil

theorem RV.cellOk {I : Inj} {v w : Value} (h : RV I v w) : cellOk w = cellOk v := by
  cases h <;> rfl

/-! ### The memory and the world -/

/-- What stays as it is, whatever the machine does. -/
structure Base where
  snap : Nat → Option Obj
  tape : Nat → Question → Nat
  os : Os
  output : Array (Nat × ByteArray)
  globs : Nat
  later : Nat → Option (Nat × Nat)

/-- The numbers that the machine gives out on its way from one memory to another have no block yet. -/
def Free (B : Base) (h h' : Mem) : Prop := ∀ i, h.next ≤ i → i < h'.next → B.later i = none

structure RW (B : Base) (I : Inj) (h : Mem) (w : World) : Prop where
  rows : ∀ i r, h.get i = some r → ∃ b n arr, I i = some (b, n) ∧ w.heap[b]? = some (.cells arr r.elem (0, 0)) ∧ arr.size = n ∧ RL I r.cells (arr.toList.take r.cells.length) ∧ B.snap b = none
  inj : ∀ i j r r' b n m, h.get i = some r → h.get j = some r' → I i = some (b, n) → I j = some (b, m) → i = j
  fresh : ∀ i, h.next ≤ i → I i = B.later i
  gone : ∀ i, h.next ≤ i → h.get i = none
  vers : ∀ i r, h.get i = some r → r.ver < h.clock
  cellok : ∀ i r, h.get i = some r → r.cells.all cellOk = true
  snap : ∀ b o, B.snap b = some o → w.heap[b]? = some o
  rest : w.tape = B.tape ∧ w.os = B.os ∧ w.output = B.output
  globs : ∀ g, g < B.globs → ∃ n, I g = some (g, n)

end Go.AM

namespace Go.AM

variable {B : Base} {I : Inj} {h h' : Mem} {w : World}

/-- The same memory; of the world nothing has turned but the count of draws. -/
theorem RW.at_world {w' : World} (R : RW B I h w) (hh : w'.heap = w.heap) (ht : w'.tape = w.tape) (ho : w'.os = w.os) (hu : w'.output = w.output) : RW B I h w' where
  rows := fun i r hi => by rw [hh]; exact R.rows i r hi
  inj := R.inj
  fresh := R.fresh
  gone := R.gone
  vers := R.vers
  cellok := R.cellok
  snap := fun b o hb => by rw [hh]; exact R.snap b o hb
  rest := ⟨ht.trans R.rest.1, ho.trans R.rest.2.1, hu.trans R.rest.2.2⟩
  globs := R.globs

theorem RW.drew (R : RW B I h w) : RW B I h { w with drawn := w.drawn + 1 } := R.at_world rfl rfl rfl rfl

/-- The new row's number, and its block. -/
def extend (I : Inj) (i b n : Nat) : Inj := fun j => if j = i then some (b, n) else I j

theorem extend_self (I : Inj) (i b n : Nat) : extend I i b n i = some (b, n) := by simp [extend]
theorem extend_ext {I : Inj} {i b n : Nat} (hi : I i = none) : Ext i I (extend I i b n) := by
  refine ⟨fun j x hj => ?_, fun j hj => ?_⟩
  · unfold extend
    by_cases e : j = i
    · subst e; rw [hi] at hj; cases hj
    · rw [if_neg e]; exact hj
  · unfold extend
    rw [if_neg (Nat.ne_of_lt hj)]

theorem heap_lt {w : World} {b : Nat} {o : Obj} (hb : w.heap[b]? = some o) : b < w.heap.size := by
  rcases Nat.lt_or_ge b w.heap.size with h | h
  · exact h
  · rw [Array.getElem?_eq_none h] at hb; cases hb

theorem alloc_old {w : World} {b : Nat} {o o' : Obj} (hb : w.heap[b]? = some o) : (w.alloc o').heap[b]? = some o := by
  have := heap_lt hb
  simp only [World.alloc, Array.getElem?_push]
  rw [if_neg (by omega)]; exact hb

theorem alloc_new (w : World) (o : Obj) : (w.alloc o).heap[w.heap.size]? = some o := by
  show (w.heap.push o)[w.heap.size]? = some o
  simp

theorem addr_add (b off j : Nat) : (⟨b, off, none⟩ : Addr).add j = ⟨b, off + j, none⟩ := by
  unfold Addr.add
  split
  · rename_i e; subst e; rfl
  · rfl

/-- A new row in the memory, a new block in the world. -/
theorem RW.new (R : RW B I h w) {cs : List Value} {e : TypeId} (hn : h.new cs e = some h') (ht : B.later h.next = none) {arr : Array Value}
    (hr : RL I cs (arr.toList.take cs.length)) (hc : cs.all cellOk = true) :
    Ext h.next I (extend I h.next w.heap.size arr.size) ∧ RW B (extend I h.next w.heap.size arr.size) h' (w.alloc (.cells arr e (0, 0))) := by
  obtain ⟨_, hn1, hn2, hget⟩ := Mem.new_some hn
  have hI : I h.next = none := (R.fresh _ (Nat.le_refl _)).trans ht
  have hE : Ext h.next I (extend I h.next w.heap.size arr.size) := extend_ext hI
  refine ⟨hE, ?_, ?_, ?_, ?_, ?_, ?_, ?_, ?_, ?_⟩
  · intro i r hi
    rw [hget] at hi
    by_cases he : i = h.next
    · subst he
      rw [if_pos rfl] at hi; cases hi
      refine ⟨_, _, arr, extend_self _ _ _ _, alloc_new _ _, rfl, hr.mono hE, ?_⟩
      cases hs : B.snap w.heap.size with
      | none => rfl
      | some o => exact absurd (heap_lt (R.snap _ _ hs)) (Nat.lt_irrefl _)
    · rw [if_neg he] at hi
      obtain ⟨b, n, a, h1, h2, h3, h4, h5⟩ := R.rows i r hi
      exact ⟨b, n, a, hE.up _ _ h1, alloc_old h2, h3, h4.mono hE, h5⟩
  · intro i j r r' b n m hi hj hi' hj'
    rw [hget] at hi hj
    have old : ∀ k r, h.get k = some r → ∀ b n, extend I h.next w.heap.size arr.size k = some (b, n) → k ≠ h.next → b ≠ w.heap.size ∧ I k = some (b, n) := by
      intro k r hk b n hb hne
      unfold extend at hb
      rw [if_neg hne] at hb
      obtain ⟨b', n', a, h1, h2, _⟩ := R.rows k r hk
      rw [hb] at h1; cases h1
      exact ⟨fun e => by have := heap_lt h2; omega, hb⟩
    by_cases e1 : i = h.next
    · by_cases e2 : j = h.next
      · rw [e1, e2]
      · rw [if_neg e2] at hj
        rw [e1, extend_self] at hi'; cases hi'
        exact absurd rfl (old j _ hj _ _ hj' e2).1
    · rw [if_neg e1] at hi
      by_cases e2 : j = h.next
      · rw [e2, extend_self] at hj'; cases hj'
        exact absurd rfl (old i _ hi _ _ hi' e1).1
      · rw [if_neg e2] at hj
        exact R.inj i j _ _ _ _ _ hi hj (old i _ hi _ _ hi' e1).2 (old j _ hj _ _ hj' e2).2
  · intro i hi
    rw [hn1] at hi
    unfold extend
    rw [if_neg (by omega)]
    exact R.fresh i (by omega)
  · intro i hi
    rw [hn1] at hi
    rw [hget, if_neg (by omega)]
    exact R.gone i (by omega)
  · intro i r hi
    rw [hget] at hi
    rw [hn2]
    by_cases he : i = h.next
    · rw [if_pos he] at hi; cases hi; exact Nat.lt_succ_self _
    · rw [if_neg he] at hi; have := R.vers i r hi; omega
  · intro i r hi
    rw [hget] at hi
    by_cases he : i = h.next
    · rw [if_pos he] at hi; cases hi; exact hc
    · rw [if_neg he] at hi; exact R.cellok i r hi
  · exact fun b o hb => alloc_old (R.snap b o hb)
  · exact R.rest
  · intro g hg'
    obtain ⟨n, hn⟩ := R.globs g hg'
    exact ⟨n, hE.up _ _ hn⟩

/-- A row written anew. -/
theorem RW.put (R : RW B I h w) {i : Nat} {r : Row} {cs : List Value} (hi : h.get i = some r) {b n : Nat} (hb : I i = some (b, n)) (hp : h.put i cs r.elem = some h') {arr : Array Value}
    (hn : arr.size = n) (hr : RL I cs (arr.toList.take cs.length)) (hc : cs.all cellOk = true) : RW B I h' (w.setRow b arr) := by
  obtain ⟨hp1, hp2, hget⟩ := Mem.put_some hp
  obtain ⟨b', n', a, h1, h2, h3, h4, h5⟩ := R.rows i r hi
  rw [hb] at h1; cases h1
  have hlt : i < h.next := by
    rcases Nat.lt_or_ge i h.next with hl | hl
    · exact hl
    · rw [R.gone i hl] at hi; cases hi
  refine ⟨?_, ?_, ?_, ?_, ?_, ?_, ?_, R.rest, R.globs⟩
  · intro j s hj
    rw [hget] at hj
    by_cases he : j = i
    · subst he
      rw [if_pos rfl] at hj; cases hj
      exact ⟨b, n, arr, hb, setRow_heap w b _ _ _ _ h2, hn, hr, h5⟩
    · rw [if_neg he] at hj
      obtain ⟨c, m, a', k1, k2, k3, k4, k5⟩ := R.rows j s hj
      have hne : c ≠ b := fun e => he (R.inj j i _ _ _ _ _ hj hi (e ▸ k1) hb)
      exact ⟨c, m, a', k1, by rw [setRow_other w b c _ hne]; exact k2, k3, k4, k5⟩
  · intro j k s s' c m m' hj hk hj' hk'
    rw [hget] at hj hk
    have live : ∀ x s, (if x = i then some (⟨cs, r.elem, h.clock⟩ : Row) else h.get x) = some s → ∃ s', h.get x = some s' := by
      intro x s hx
      by_cases he : x = i
      · exact ⟨r, he ▸ hi⟩
      · rw [if_neg he] at hx; exact ⟨s, hx⟩
    obtain ⟨_, l1⟩ := live j s hj
    obtain ⟨_, l2⟩ := live k s' hk
    exact R.inj j k _ _ _ _ _ l1 l2 hj' hk'
  · rw [hp1]; exact R.fresh
  · intro j hj
    rw [hp1] at hj
    rw [hget, if_neg (by omega)]
    exact R.gone j hj
  · intro j s hj
    rw [hget] at hj
    rw [hp2]
    by_cases he : j = i
    · rw [if_pos he] at hj; cases hj; exact Nat.lt_succ_self _
    · rw [if_neg he] at hj; have := R.vers j s hj; omega
  · intro j s hj
    rw [hget] at hj
    by_cases he : j = i
    · rw [if_pos he] at hj; cases hj; exact hc
    · rw [if_neg he] at hj; exact R.cellok j s hj
  · intro c o hco
    have hne : c ≠ b := fun e => by rw [e, h5] at hco; cases hco
    rw [setRow_other w b c _ hne]
    exact R.snap c o hco

/-- A row let go, and a new one over its block. -/
theorem RW.renew (R : RW B I h w) {i : Nat} {r : Row} {cs : List Value} (hi : h.get i = some r) {b n : Nat} (hb : I i = some (b, n)) {h1 : Mem} (hd : h.drop i = some h1)
    (hn : h1.new cs r.elem = some h') (ht : B.later h.next = none) {arr : Array Value} (hs : arr.size = n) (hr : RL I cs (arr.toList.take cs.length)) (hc : cs.all cellOk = true) :
    Ext h.next I (extend I h.next b n) ∧ RW B (extend I h.next b n) h' (w.setRow b arr) := by
  obtain ⟨hd1, hd2, hdget⟩ := Mem.drop_some hd
  obtain ⟨_, hn1, hn2, hnget⟩ := Mem.new_some hn
  rw [hd1] at hn1 hnget
  rw [hd2] at hn2 hnget
  have hget : ∀ j, h'.get j = if j = h.next then some ⟨cs, r.elem, h.clock⟩ else if j = i then none else h.get j := fun j => by rw [hnget, hdget]
  obtain ⟨b', n', a, k1, k2, k3, k4, k5⟩ := R.rows i r hi
  rw [hb] at k1; cases k1
  have hI : I h.next = none := (R.fresh _ (Nat.le_refl _)).trans ht
  have hE : Ext h.next I (extend I h.next b n) := extend_ext hI
  have hlt : i < h.next := by
    rcases Nat.lt_or_ge i h.next with hl | hl
    · exact hl
    · rw [R.gone i hl] at hi; cases hi
  have other : ∀ j s, h.get j = some s → j ≠ i → ∀ c m, I j = some (c, m) → c ≠ b := fun j s hj he c m hc e => he (R.inj j i _ _ _ _ _ hj hi (e ▸ hc) hb)
  refine ⟨hE, ?_, ?_, ?_, ?_, ?_, ?_, ?_, R.rest, ?_⟩
  · intro j s hj
    rw [hget] at hj
    by_cases e1 : j = h.next
    · subst e1
      rw [if_pos rfl] at hj; cases hj
      exact ⟨b, n, arr, extend_self _ _ _ _, setRow_heap w b _ _ _ _ k2, hs, hr.mono hE, k5⟩
    · rw [if_neg e1] at hj
      by_cases e2 : j = i
      · rw [if_pos e2] at hj; cases hj
      · rw [if_neg e2] at hj
        obtain ⟨c, m, a', l1, l2, l3, l4, l5⟩ := R.rows j s hj
        exact ⟨c, m, a', hE.up _ _ l1, by rw [setRow_other w b c _ (other j s hj e2 c m l1)]; exact l2, l3, l4.mono hE, l5⟩
  · intro j k s s' c m m' hj hk hj' hk'
    rw [hget] at hj hk
    have cls : ∀ x s c m, (if x = h.next then some (⟨cs, r.elem, h.clock⟩ : Row) else if x = i then none else h.get x) = some s → extend I h.next b n x = some (c, m) →
        (x = h.next ∧ c = b) ∨ (x ≠ h.next ∧ h.get x = some s ∧ I x = some (c, m) ∧ c ≠ b) := by
      intro x s c m hx hx'
      by_cases e1 : x = h.next
      · subst e1; rw [extend_self] at hx'; cases hx'; exact .inl ⟨rfl, rfl⟩
      · rw [if_neg e1] at hx
        by_cases e2 : x = i
        · rw [if_pos e2] at hx; cases hx
        · rw [if_neg e2] at hx
          unfold extend at hx'
          rw [if_neg e1] at hx'
          exact .inr ⟨e1, hx, hx', other x s hx e2 c m hx'⟩
    rcases cls j s c m hj hj' with ⟨a1, a2⟩ | ⟨a1, a2, a3, a4⟩ <;> rcases cls k s' c m' hk hk' with ⟨b1, b2⟩ | ⟨b1, b2, b3, b4⟩
    · rw [a1, b1]
    · exact absurd a2 b4
    · exact absurd b2 a4
    · exact R.inj j k _ _ _ _ _ a2 b2 a3 b3
  · intro j hj
    rw [hn1] at hj
    unfold extend
    rw [if_neg (by omega)]
    exact R.fresh j (by omega)
  · intro j hj
    rw [hn1] at hj
    rw [hget, if_neg (by omega), if_neg (by omega)]
    exact R.gone j (by omega)
  · intro j s hj
    rw [hget] at hj
    rw [hn2]
    by_cases e1 : j = h.next
    · rw [if_pos e1] at hj; cases hj; exact Nat.lt_succ_self _
    · rw [if_neg e1] at hj
      by_cases e2 : j = i
      · rw [if_pos e2] at hj; cases hj
      · rw [if_neg e2] at hj; have := R.vers j s hj; omega
  · intro j s hj
    rw [hget] at hj
    by_cases e1 : j = h.next
    · rw [if_pos e1] at hj; cases hj; exact hc
    · rw [if_neg e1] at hj
      by_cases e2 : j = i
      · rw [if_pos e2] at hj; cases hj
      · rw [if_neg e2] at hj; exact R.cellok j s hj
  · intro c o hco
    have hne : c ≠ b := fun e => by rw [e, k5] at hco; cases hco
    rw [setRow_other w b c _ hne]
    exact R.snap c o hco
  · intro g hg'
    obtain ⟨m, hm⟩ := R.globs g hg'
    exact ⟨m, hE.up _ _ hm⟩

/-! ### Reading -/

/-- One cell. -/
theorem RW.cell (R : RW B I h w) {i : Nat} {r : Row} (hi : h.get i = some r) {b n : Nat} (hb : I i = some (b, n)) {off : Nat} {v : Value} (hv : r.cells[off]? = some v) :
    ∃ u, w.cell? ⟨b, off, none⟩ = some u ∧ RV I v u := by
  obtain ⟨b', n', a, h1, h2, h3, h4, h5⟩ := R.rows i r hi
  rw [hb] at h1; cases h1
  obtain ⟨u, hu, hr⟩ := h4.get hv
  refine ⟨u, ?_, hr⟩
  have hlt : off < r.cells.length := by
    rcases Nat.lt_or_ge off r.cells.length with hl | hl
    · exact hl
    · rw [List.getElem?_eq_none hl] at hv; cases hv
  rw [List.getElem?_take, if_pos hlt] at hu
  simp only [World.cell?, h2]
  simpa using hu

/-- Many cells. -/
theorem RW.cells (R : RW B I h w) (P : Program) {i off k : Nat} {l : List Value} (hl : cellsAt h i off k = some l) {b n : Nat} (hb : I i = some (b, n)) :
    ∃ us : List Value, (∀ d, (loadCells ⟨b, off, none⟩ k).run P { w with drawn := d } = .ok us.toArray { w with drawn := d }) ∧ RL I l us ∧ l.length = k ∧ l.all cellOk = true := by
  unfold cellsAt at hl
  cases hi : h.get i with
  | none => rw [hi] at hl; cases hl
  | some r =>
    rw [hi] at hl
    simp only at hl
    cases hq : Nat.beq (List.take k (List.drop off r.cells)).length k with
    | false => rw [hq] at hl; cases hl
    | true =>
      rw [hq] at hl
      have hk : (List.take k (List.drop off r.cells)).length = k := Nat.eq_of_beq_eq_true hq
      cases hl
      obtain ⟨b', n', a, h1, h2, h3, h4, h5⟩ := R.rows i r hi
      rw [hb] at h1; cases h1
      have hRL : RL I (List.take k (List.drop off r.cells)) (List.take k (List.drop off (List.take r.cells.length a.toList))) := (h4.drop off).take k
      refine ⟨_, ?_, hRL, hk, ?_⟩
      · intro d
        have hlen := hRL.length_eq
        rw [hk] at hlen
        have := run_loadCells_list (P := P) { w with drawn := d } ⟨b, off, none⟩ (List.take k (List.drop off (List.take r.cells.length a.toList))) (fun j v hj => by
          rw [addr_add]
          show World.cell? w _ = _
          simp only [World.cell?, h2]
          rw [List.getElem?_take] at hj
          split at hj
          · rw [List.getElem?_drop, List.getElem?_take] at hj
            split at hj
            · simpa using hj
            · cases hj
          · cases hj)
        rw [← hlen] at this
        exact this
      · have := R.cellok i r hi
        rw [List.all_eq_true] at this ⊢
        intro x hx
        exact this x (List.mem_of_mem_drop (List.mem_of_mem_take hx))

theorem oneCell_of_cellOk {v : Value} (h : cellOk v = true) : v.oneCell' = true := by cases v <;> first | rfl | simp [cellOk] at h

end Go.AM

namespace Go.AM

variable {P : Program} {B : Base} {I : Inj} {h h' : Mem} {w : World} {σ : Operand → Value} {ρ : Operand → Value}

theorem pureRun_run {α : Type} {s : Sem α} : ∀ {a : α}, pureRun P s = some a → ∀ w, s.run P w = .ok a w := by
  induction s with
  | pure a => intro b hb w; simp only [pureRun] at hb; cases hb; rfl
  | program k ih => intro b hb w; simp only [pureRun] at hb; exact ih P hb w
  | mark m k ih => intro b hb w; simp only [pureRun] at hb; exact ih hb w
  | _ => intro b hb w; simp only [pureRun] at hb; cases hb

theorem of_cond {α : Type} {b : Bool} {x : Option α} {z : α} (h : (bif b then x else none) = some z) : b = true ∧ x = some z := by
  cases b with
  | true => exact ⟨rfl, h⟩
  | false => cases h

theorem and_left {a b : Bool} (h : (a && b) = true) : a = true := by cases a <;> simp_all
theorem and_right {a b : Bool} (h : (a && b) = true) : b = true := by cases a <;> simp_all

/-! ### Types -/

structure Told (P : Program) (t : TypeId) (ti : TI) : Prop where
  info : ∃ i z, P.info? t = some i ∧ i.zero = some z ∧ z.cells.toList = ti.zero ∧ i.size = ti.size ∧ i.bytes = ti.bytes
  under : P.underlying t = some ti.desc
  plain : ti.zero.all plain = true
  cellok : ti.zero.all cellOk = true
  len : ti.zero.length = ti.size
  pos : 0 < ti.size
  agg : ti.agg = isAggD ti.desc

theorem told {t : TypeId} {ti : TI} (hi : infoOf P t = some ti) : Told P t ti := by
  unfold infoOf at hi
  cases h1 : P.info? t with
  | none => rw [h1] at hi; cases hi
  | some i =>
    cases h2 : P.underlying t with
    | none => rw [h1, h2] at hi; cases hi
    | some d =>
      rw [h1, h2] at hi
      simp only at hi
      cases h3 : i.zero with
      | none => rw [h3] at hi; cases hi
      | some z =>
        rw [h3] at hi
        obtain ⟨hb, he⟩ := of_cond hi
        cases he
        exact ⟨⟨i, z, h1, h3, rfl, rfl, rfl⟩, h2, and_left (and_left (and_left hb)), and_right (and_left (and_left hb)), Nat.eq_of_beq_eq_true (and_right (and_left hb)), by have := and_right hb; simpa [Nat.blt_eq] using this, rfl⟩

namespace Told
variable {t : TypeId} {ti : TI}

theorem run_sizeOf (T : Told P t ti) (w : World) : (sizeOf t).run P w = .ok ti.size w := by
  obtain ⟨i, z, h1, _, _, h4, _⟩ := T.info
  simp [sizeOf, typeInfo, h1, h4]

theorem run_typeInfo (T : Told P t ti) : ∃ i, i.bytes = ti.bytes ∧ ∀ w, (typeInfo t).run P w = .ok i w := by
  obtain ⟨i, z, h1, _, _, h4, h5⟩ := T.info
  exact ⟨i, h5, fun w => by simp [typeInfo, h1]⟩

theorem run_zeroValue (T : Told P t ti) : ∃ z, z.cells.toList = ti.zero ∧ ∀ w, (zeroValue t).run P w = .ok z w := by
  obtain ⟨i, z, h1, h2, h3, _⟩ := T.info
  exact ⟨z, h3, fun w => by simp [zeroValue, typeInfo, h1, h2]⟩

theorem run_underlying (T : Told P t ti) (w : World) : (underlying t).run P w = .ok ti.desc w := Go.run_underlying T.under w

theorem run_isAgg (T : Told P t ti) (w : World) : (isAgg t).run P w = .ok ti.agg w := by
  have := T.agg
  unfold isAgg
  simp only [Sem.run_bind, T.run_underlying, Result.andThen_ok]
  rw [this]
  cases ti.desc <;> rfl

theorem zeroRL (T : Told P t ti) (I : Inj) : RL I ti.zero ti.zero := RL.plain_self T.plain

end Told

/-! ### What an operation gives -/

/-- The operation yields a value (or nothing at all, where it stores), and leaves a world. -/
def Gives (P : Program) (s : Sem Next) (w : World) (Q : Value → World → Prop) : Prop :=
  (∃ v w', s.run P w = .ok (.value v) w' ∧ Q v w') ∨ (∃ w', s.run P w = .ok .skip w' ∧ Q undef w')

theorem gives_value {s : Sem Value} {v : Value} {w w' : World} {Q : Value → World → Prop} (hr : s.run P w = .ok v w') (hq : Q v w') :
    Gives P (do pure (.value (← s))) w Q := .inl ⟨v, w', by simp [hr], hq⟩

/-- What is said of the value and the world behind an operation. -/
def Post (B : Base) (I : Inj) (lo : Nat) (v : Value) (h : Mem) (u : Value) (w : World) : Prop :=
  ∃ J, Ext lo I J ∧ RV J v u ∧ RW B J h w

theorem Post.same {v u : Value} (R : RW B I h w) {lo : Nat} (r : RV I v u) : Post B I lo v h u w := ⟨I, .refl lo I, r, R⟩

/-! ### Reading and writing -/

theorem RV.ptr_inv {i off : Nat} {u : Value} (r : RV I (.pointer (some ⟨i, off, none⟩)) u) : ∃ b n, I i = some (b, n) ∧ u = .pointer (some ⟨b, off, none⟩) := by
  cases r with
  | ptr hb => exact ⟨_, _, hb, rfl⟩

theorem load_one {t : TypeId} {ti : TI} (T : Told P t ti) (ha : ti.agg = false) (R : RW B I h w) {i off : Nat} {r : Row} (hi : h.get i = some r) {b n : Nat} (hb : I i = some (b, n)) {v : Value} (hv : r.cells[off]? = some v) :
    ∃ u, (loadVar t ⟨b, off, none⟩).run P w = .ok u w ∧ RV I v u := by
  obtain ⟨u, hu, r⟩ := R.cell hi hb hv
  refine ⟨u, ?_, r⟩
  unfold loadVar
  simp [T.run_isAgg, ha, hu]

theorem load_many {t : TypeId} {ti : TI} (T : Told P t ti) (ha : ti.agg = true) (R : RW B I h w) {i off : Nat} {l : List Value} (hl : cellsAt h i off ti.size = some l) {b n : Nat} (hb : I i = some (b, n)) :
    ∃ u, (loadVar t ⟨b, off, none⟩).run P w = .ok u w ∧ RV I (.agg l.toArray) u := by
  obtain ⟨us, h1', h2, _, _⟩ := R.cells P hl hb
  have h1 : (loadCells ⟨b, off, none⟩ ti.size).run P w = .ok us.toArray w := h1' w.drawn
  refine ⟨.agg us.toArray, ?_, .agg (by simpa using h2)⟩
  unfold loadVar
  simp [T.run_isAgg, ha, T.run_sizeOf, h1]

theorem over_eq : ∀ (cs : List Value) (off : Nat) (vs : List Value), off + vs.length ≤ cs.length → over cs off vs = cs.take off ++ vs ++ cs.drop (off + vs.length)
  | [], off, vs, hl => by
    have h1 : off = 0 := by rw [List.length_nil] at hl; omega
    have h2 : vs = [] := List.eq_nil_of_length_eq_zero (by rw [List.length_nil] at hl; omega)
    subst h1; subst h2; rfl
  | c :: cs, 0, v :: vs, hl => by
    have := over_eq cs 0 vs (by simp at hl ⊢; omega)
    simp only [over, this]
    simp [Nat.add_comm]
  | c :: cs, 0, [], _ => by simp [over]
  | c :: cs, n + 1, vs, hl => by
    have := over_eq cs n vs (by simp at hl ⊢; omega)
    simp only [over, this]
    simp [show n + 1 + vs.length = (n + vs.length) + 1 by omega]

theorem store_ok {t : TypeId} {ti : TI} (T : Told P t ti) (R : RW B I h w) {i off : Nat} {r : Row} (hi : h.get i = some r) {b n : Nat} (hb : I i = some (b, n)) {v u : Value} (hv : RV I v u)
    (hn : v.cells.toList.length = ti.size) (hc : v.cells.toList.all cellOk = true) (hl : off + ti.size ≤ r.cells.length) (hp : h.put i (over r.cells off v.cells.toList) r.elem = some h') :
    ∃ w', (storeVar t ⟨b, off, none⟩ u).run P w = .ok () w' ∧ RW B I h' w' := by
  obtain ⟨b', n', a, h1, h2, h3, h4, h5⟩ := R.rows i r hi
  rw [hb] at h1; cases h1
  have hcells := hv.cells
  have hlen := hcells.length_eq
  rw [hn] at hlen
  have hsz : a.toList.length = n := by simpa using h3
  have h4l := h4.length_eq
  rw [List.length_take] at h4l
  have hfit : off + 0 + u.cells.toList.length ≤ a.size := by rw [← hlen, ← Array.length_toList]; omega
  have hok : ∀ x ∈ u.cells.toList, x.oneCell' = true := by
    intro x hx
    obtain ⟨j, hj, hjx⟩ := List.getElem_of_mem hx
    have hj' : j < v.cells.toList.length := by rw [hcells.length_eq]; exact hj
    obtain ⟨y, hy, ry⟩ := hcells.get (List.getElem?_eq_getElem hj')
    rw [List.getElem?_eq_getElem hj] at hy
    cases hy
    rw [List.all_eq_true] at hc
    exact oneCell_of_cellOk (by rw [← hjx, ry.cellOk]; exact hc _ (List.getElem_mem hj'))
  have hrun := run_storeCells_at (P := P) b off r.elem u.cells.toList 0 a w h2 hfit hok
  refine ⟨_, ?_, R.put hi hb hp (arr := (a.toList.take (off + 0) ++ u.cells.toList ++ a.toList.drop (off + 0 + u.cells.toList.length)).toArray) ?_ ?_ ?_⟩
  · unfold storeVar
    have : u.cells.size = ti.size := by rw [← Array.length_toList]; exact hlen.symm
    simp only [Sem.run_bind, T.run_sizeOf, Result.andThen_ok, this, ne_eq, not_true_eq_false, if_false]
    simpa using hrun
  · rw [List.size_toArray]
    simp only [List.length_append, List.length_take, List.length_drop]
    omega
  · rw [over_eq _ _ _ (by omega)]
    have e : (a.toList.take (off + 0) ++ u.cells.toList ++ a.toList.drop (off + 0 + u.cells.toList.length)).toArray.toList.take (r.cells.take off ++ v.cells.toList ++ r.cells.drop (off + v.cells.toList.length)).length
        = (a.toList.take r.cells.length).take off ++ u.cells.toList ++ (a.toList.take r.cells.length).drop (off + u.cells.toList.length) := by
      have l1 : (r.cells.take off ++ v.cells.toList ++ r.cells.drop (off + v.cells.toList.length)).length = r.cells.length := by simp only [List.length_append, List.length_take, List.length_drop]; omega
      rw [l1]
      simp only [Nat.add_zero]
      apply List.ext_getElem?
      intro j
      simp only [List.getElem?_take, List.getElem?_append, List.length_append, List.length_take, List.getElem?_drop]
      repeat' split
      all_goals try omega
      all_goals try rfl
      all_goals (congr 1; omega)
    rw [e]
    have hle : v.cells.toList.length = u.cells.toList.length := hcells.length_eq
    rw [hle]
    exact ((h4.take off).append hcells).append (h4.drop _)
  · rw [over_eq _ _ _ (by omega)]
    have hr := R.cellok i r hi
    simp only [List.all_append, Bool.and_eq_true]
    rw [List.all_eq_true] at hr
    refine ⟨⟨?_, hc⟩, ?_⟩
    · rw [List.all_eq_true]; exact fun x hx => hr x (List.mem_of_mem_take hx)
    · rw [List.all_eq_true]; exact fun x hx => hr x (List.mem_of_mem_drop hx)

end Go.AM

namespace Go.AM

theorem kBits_eq (k : IntKind) : kBits k = k.bits := by cases k <;> rfl

theorem wrap_small (k : IntKind) (n : Nat) (h : n < kLim k) : k.wrap (Int.ofNat n) = Int.ofNat n := by
  have hn : (Int.ofNat n) = (n : Int) := rfl
  rw [hn]
  cases k <;> simp only [kLim] at h <;> simp only [IntKind.wrap, IntKind.bits, IntKind.signed] <;> simp <;> omega

theorem wrapF_eq (k : IntKind) (n : Int) : wrapF k n = k.wrap n := by
  cases k
  case i64 =>
    have he : Int.emod n 18446744073709551616 = n % 18446744073709551616 := rfl
    simp only [wrapF, he]
    have h0 : 0 ≤ n % 18446744073709551616 := Int.emod_nonneg _ (by decide)
    have h1 : n % 18446744073709551616 < 18446744073709551616 := Int.emod_lt_of_pos _ (by decide)
    generalize hm : n % 18446744073709551616 = m at h0 h1
    have hw : IntKind.i64.wrap n = if m ≥ 9223372036854775808 then m - 18446744073709551616 else m := by
      simp [IntKind.wrap, IntKind.bits, IntKind.signed, hm]
    rw [hw]
    cases m with
    | ofNat q =>
      simp only
      cases hb : Nat.ble 9223372036854775808 q with
      | true =>
        have hq : 9223372036854775808 ≤ q := Nat.le_of_ble_eq_true hb
        simp only [cond_true]
        rw [if_pos (by show (9223372036854775808 : Int) ≤ (q : Int); omega)]
        have hq2 : (q : Int) < 18446744073709551616 := h1
        show Int.negSucc (18446744073709551615 - q) = (q : Int) - 18446744073709551616
        rw [Int.negSucc_eq]
        omega
      | false =>
        have hq : ¬ 9223372036854775808 ≤ q := by intro hle; rw [Nat.ble_eq_true_of_le hle] at hb; cases hb
        simp only [cond_false]
        rw [if_neg (by show ¬ (9223372036854775808 : Int) ≤ (q : Int); omega)]
    | negSucc q => exact absurd h0 (by omega)
  case u64 => simp [wrapF, IntKind.wrap, IntKind.bits, IntKind.signed]; rfl
  case u32 => simp [wrapF, IntKind.wrap, IntKind.bits, IntKind.signed]; rfl
  case u8 => simp [wrapF, IntKind.wrap, IntKind.bits, IntKind.signed]; rfl
  all_goals rfl

theorem kindNo_inj {j k : IntKind} (h : Nat.beq (kindNo j) (kindNo k) = true) : j = k := by
  cases j <;> cases k <;> first | rfl | (exact absurd h (by decide))

/-- The bits below which a number of a kind lies. -/
def limBits : IntKind → Nat
  | .i8 => 7 | .i16 => 15 | .i32 => 31 | .i64 => 63 | .u8 => 8 | .u16 => 16 | .u32 => 32 | .u64 => 64

theorem kLim_eq (k : IntKind) : kLim k = 2 ^ limBits k := by cases k <;> rfl
theorem limBits_le (k : IntKind) : limBits k ≤ k.bits := by cases k <;> decide

theorem toNat_ofInt (k : IntKind) (x : Nat) (h : x < kLim k) : (BitVec.ofInt k.bits (Int.ofNat x)).toNat = x := by
  rw [kLim_eq] at h
  have h2 : x < 2 ^ k.bits := Nat.lt_of_lt_of_le h (Nat.pow_le_pow_right (by decide) (limBits_le k))
  show (BitVec.ofInt k.bits (x : Int)).toNat = x
  rw [BitVec.ofInt_natCast, BitVec.toNat_ofNat, Nat.mod_eq_of_lt h2]

variable {P : Program}

theorem bits_back {op : BinOp} {k : IntKind} {x y z : Nat} (hz : z < kLim k)
    (hop : Op.intBits op k (Int.ofNat x) (Int.ofNat y) = pure (.int k (k.wrap z))) : Op.intBits op k (Int.ofNat x) (Int.ofNat y) = pure (.int k (Int.ofNat z)) := by
  rw [hop]
  have := wrap_small k z hz
  rw [show ((z : Nat) : Int) = Int.ofNat z from rfl, this]

theorem and_lt {k : IntKind} {x y : Nat} (hx : x < kLim k) : Nat.land x y < kLim k := Nat.lt_of_le_of_lt Nat.and_le_left hx
theorem or_lt {k : IntKind} {x y : Nat} (hx : x < kLim k) (hy : y < kLim k) : Nat.lor x y < kLim k := by
  rw [kLim_eq] at *; exact Nat.or_lt_two_pow hx hy
theorem xor_lt {k : IntKind} {x y : Nat} (hx : x < kLim k) (hy : y < kLim k) : Nat.xor x y < kLim k := by
  rw [kLim_eq] at *; exact Nat.xor_lt_two_pow hx hy

theorem intBits_and' {k : IntKind} {x y : Nat} (hx : x < kLim k) (hy : y < kLim k) : Op.intBits .and k (Int.ofNat x) (Int.ofNat y) = pure (.int k (Int.ofNat (Nat.land x y))) := by
  refine bits_back (and_lt hx) ?_
  simp only [Op.intBits]
  rw [BitVec.toNat_and, toNat_ofInt k x hx, toNat_ofInt k y hy]; rfl
theorem intBits_or' {k : IntKind} {x y : Nat} (hx : x < kLim k) (hy : y < kLim k) : Op.intBits .or k (Int.ofNat x) (Int.ofNat y) = pure (.int k (Int.ofNat (Nat.lor x y))) := by
  refine bits_back (or_lt hx hy) ?_
  simp only [Op.intBits]
  rw [BitVec.toNat_or, toNat_ofInt k x hx, toNat_ofInt k y hy]; rfl
theorem intBits_xor' {k : IntKind} {x y : Nat} (hx : x < kLim k) (hy : y < kLim k) : Op.intBits .xor k (Int.ofNat x) (Int.ofNat y) = pure (.int k (Int.ofNat (Nat.xor x y))) := by
  refine bits_back (xor_lt hx hy) ?_
  simp only [Op.intBits]
  rw [BitVec.toNat_xor, toNat_ofInt k x hx, toNat_ofInt k y hy]; rfl

theorem andNot_nat (n : Nat) (a b : BitVec n) : (a &&& ~~~b).toNat = Nat.xor a.toNat (Nat.land a.toNat b.toNat) := by
  have h : a &&& ~~~b = a ^^^ (a &&& b) := by
    apply BitVec.eq_of_getLsbD_eq
    intro i hi
    simp only [BitVec.getLsbD_and, BitVec.getLsbD_not, BitVec.getLsbD_xor, hi, decide_true, Bool.true_and]
    cases a.getLsbD i <;> cases b.getLsbD i <;> rfl
  rw [h, BitVec.toNat_xor, BitVec.toNat_and]; rfl

theorem intBits_andNot' {k : IntKind} {x y : Nat} (hx : x < kLim k) (hy : y < kLim k) : Op.intBits .andNot k (Int.ofNat x) (Int.ofNat y) = pure (.int k (Int.ofNat (Nat.xor x (Nat.land x y)))) := by
  refine bits_back (xor_lt hx (and_lt hx)) ?_
  simp only [Op.intBits]
  rw [andNot_nat, toNat_ofInt k x hx, toNat_ofInt k y hy]

theorem ibin_ok {op : BinOp} {t : TypeId} {k k' : IntKind} {a b : Int} {v : Value} (hk : (Nat.beq (kindNo k) (kindNo k') || isShift op) = true) (hv : ibinOp op k a b = some v) (w : World) :
    (binOp op t (.int k a) (.int k' b)).run P w = .ok v w := by
  cases op
  case shl =>
    simp only [ibinOp] at hv
    split at hv
    · rename_i x y
      obtain ⟨hb, he⟩ := of_cond hv
      cases he
      have hb : y < k.bits := by rw [← kBits_eq]; simpa [Nat.blt_eq] using hb
      simp only [binOp, Op.shift]
      rw [if_neg (by show ¬ ((y : Int) < 0); omega)]
      simp only [Int.ofNat_eq_natCast, Int.toNat_natCast]
      rw [Nat.min_eq_left (Nat.le_of_lt hb), wrapF_eq]
      simp only [Sem.run_pure]
      congr 3
      show (x : Int) * 2 ^ y = ((x <<< y : Nat) : Int)
      rw [Nat.shiftLeft_eq]
      simp
    · cases hv
  case shr =>
    simp only [ibinOp] at hv
    split at hv
    · rename_i x y
      obtain ⟨hb, he⟩ := of_cond hv
      cases he
      have hb : y < k.bits := by rw [← kBits_eq]; simpa [Nat.blt_eq] using hb
      simp only [binOp, Op.shift]
      rw [if_neg (by show ¬ ((y : Int) < 0); omega)]
      simp only [Int.ofNat_eq_natCast, Int.toNat_natCast]
      rw [Nat.min_eq_left (Nat.le_of_lt hb)]
      simp only [Sem.run_pure]
      congr 3
      show Int.fdiv (x : Int) (2 ^ y) = ((x >>> y : Nat) : Int)
      rw [Nat.shiftRight_eq_div_pow, Int.fdiv_eq_ediv_of_nonneg _ (by exact Int.le_of_lt (Int.pow_pos (by decide)))]
      simp
    · cases hv
  all_goals
    have hkk : k = k' := kindNo_inj (by simpa [isShift] using hk)
    subst hkk
  case add => simp only [ibinOp, Option.some.injEq] at hv; subst hv; rw [wrapF_eq]; simp [binOp, Op.intArith]
  case sub => simp only [ibinOp, Option.some.injEq] at hv; subst hv; rw [wrapF_eq]; simp [binOp, Op.intArith]; rfl
  case mul => simp only [ibinOp, Option.some.injEq] at hv; subst hv; rw [wrapF_eq]; simp [binOp, Op.intArith]
  case eql => simp only [ibinOp, Option.some.injEq] at hv; subst hv; simp [binOp, Op.intCmp]; rfl
  case neq => simp only [ibinOp, Option.some.injEq] at hv; subst hv; simp [binOp, Op.intCmp]; rfl
  case lss => simp only [ibinOp, Option.some.injEq] at hv; subst hv; simp [binOp, Op.intCmp]
  case leq => simp only [ibinOp, Option.some.injEq] at hv; subst hv; simp [binOp, Op.intCmp]
  case gtr => simp only [ibinOp, Option.some.injEq] at hv; subst hv; simp [binOp, Op.intCmp]
  case geq => simp only [ibinOp, Option.some.injEq] at hv; subst hv; simp [binOp, Op.intCmp]
  case quo =>
    simp only [ibinOp] at hv
    split at hv
    · cases hv
    · rename_i hb
      cases hv
      rw [wrapF_eq]
      have : b ≠ 0 := fun e => hb (by rw [e]; rfl)
      simp [binOp, Op.intDiv, this]
  case rem =>
    simp only [ibinOp] at hv
    split at hv
    · cases hv
    · rename_i hb
      cases hv
      have : b ≠ 0 := fun e => hb (by rw [e]; rfl)
      simp [binOp, Op.intDiv, this]
  case and =>
    simp only [ibinOp] at hv
    split at hv
    · obtain ⟨hb, he⟩ := of_cond hv
      cases he
      simp only [binOp, ne_eq, not_true_eq_false, if_false]
      rw [intBits_and' (by have := and_left hb; simpa [Nat.blt_eq] using this) (by have := and_right hb; simpa [Nat.blt_eq] using this)]; rfl
    · cases hv
  case or =>
    simp only [ibinOp] at hv
    split at hv
    · obtain ⟨hb, he⟩ := of_cond hv
      cases he
      simp only [binOp, ne_eq, not_true_eq_false, if_false]
      rw [intBits_or' (by have := and_left hb; simpa [Nat.blt_eq] using this) (by have := and_right hb; simpa [Nat.blt_eq] using this)]; rfl
    · cases hv
  case xor =>
    simp only [ibinOp] at hv
    split at hv
    · obtain ⟨hb, he⟩ := of_cond hv
      cases he
      simp only [binOp, ne_eq, not_true_eq_false, if_false]
      rw [intBits_xor' (by have := and_left hb; simpa [Nat.blt_eq] using this) (by have := and_right hb; simpa [Nat.blt_eq] using this)]; rfl
    · cases hv
  case andNot =>
    simp only [ibinOp] at hv
    split at hv
    · obtain ⟨hb, he⟩ := of_cond hv
      cases he
      simp only [binOp, ne_eq, not_true_eq_false, if_false]
      rw [intBits_andNot' (by have := and_left hb; simpa [Nat.blt_eq] using this) (by have := and_right hb; simpa [Nat.blt_eq] using this)]; rfl
    · cases hv

end Go.AM

namespace Go.AM

variable {P : Program} {B : Base} {I : Inj} {h h' : Mem} {w : World} {σ : Operand → Value} {ρ : Operand → Value}

/-! ### New rows -/

theorem mkRow_ok (R : RW B I h w) {cs : List Value} {e : TypeId} {f : Nat → Value} {v : Value} (hm : mkRow h cs e f = some (.val v h')) (ht : Free B h h') {arr : Array Value}
    (hr : RL I cs (arr.toList.take cs.length)) (hc : cs.all cellOk = true) :
    v = f h.next ∧ h'.next = h.next + 1 ∧ Ext h.next I (extend I h.next w.heap.size arr.size) ∧ RW B (extend I h.next w.heap.size arr.size) h' (w.alloc (.cells arr e (0, 0))) := by
  unfold mkRow at hm
  cases hn : h.new cs e with
  | none => rw [hn] at hm; cases hm
  | some h1 =>
    rw [hn] at hm; cases hm
    obtain ⟨_, h2, _, _⟩ := Mem.new_some hn
    obtain ⟨h3, h4⟩ := R.new hn (ht _ (Nat.le_refl _) (by omega)) hr hc
    exact ⟨rfl, h2, h3, h4⟩

theorem new_ok {t : TypeId} {ti : TI} (T : Told P t ti) (R : RW B I h w) {v : Value} (hm : mkRow h ti.zero t (fun i => ptr i 0) = some (.val v h')) (ht : Free B h h') :
    ∃ u w', (Instr.alloc t true (.tuple #[])).run P w = .ok u w' ∧ Post B I h.next v h' u w' := by
  obtain ⟨z, hz, hzr⟩ := T.run_zeroValue
  have hcs : RL I ti.zero (z.cells.toList.take ti.zero.length) := by rw [hz, List.take_length]; exact T.zeroRL I
  obtain ⟨rfl, _, hE, hR⟩ := mkRow_ok R hm ht (arr := z.cells) hcs T.cellok
  refine ⟨_, _, ?_, _, hE, .ptr (extend_self _ _ _ _), hR⟩
  unfold Instr.alloc
  simp only [Sem.run_bind, hzr, Result.andThen_ok, newVar, newRow, run_newObj, Sem.run_pure]
  rfl

theorem box_ok (R : RW B I h w) {e : TypeId} {x u : Value} (hx : RV I x u) {v : Value} (hc : x.cells.toList.all cellOk = true) (hm : mkRow h x.cells.toList e (fun i => ptr i 0) = some (.val v h')) (ht : Free B h h') :
    ∃ y w', (Instr.box e u).run P w = .ok y w' ∧ Post B I h.next v h' y w' := by
  have hl := hx.cells.length_eq
  have hcs : RL I x.cells.toList (u.cells.toList.take x.cells.toList.length) := by rw [hl, List.take_length]; exact hx.cells
  obtain ⟨rfl, _, hE, hR⟩ := mkRow_ok R hm ht (arr := u.cells) hcs hc
  refine ⟨_, _, ?_, _, hE, .ptr (extend_self _ _ _ _), hR⟩
  unfold Instr.box
  simp only [Sem.run_bind, Result.andThen_ok, newVar, newRow, run_newObj, Sem.run_pure]
  rfl

/-! ### Parts -/

/-- 'Instr.fill', on lists. -/
theorem fill_one (cs : Array Value) (off : Nat) (vs : Array Value) (hl : off + vs.size ≤ cs.size) :
    (vs.zipIdx.foldl (fun cs (c, j) => cs.setIfInBounds (off + j) c) cs).toList = over cs.toList off vs.toList := by
  have key : ∀ (l : List Value) (k : Nat) (c : Array Value), off + k + l.length ≤ c.size →
      ((l.zipIdx k).foldl (fun (cs : Array Value) (p : Value × Nat) => cs.setIfInBounds (off + p.2) p.1) c).toList = over c.toList (off + k) l := by
    intro l
    induction l with
    | nil =>
      intro k c hc
      simp only [List.zipIdx_nil, List.foldl_nil]
      rw [over_eq _ _ _ (by simpa using hc)]
      simp
    | cons x l ih =>
      intro k c hc
      simp only [List.zipIdx_cons, List.foldl_cons]
      rw [ih (k + 1) _ (by simp at hc ⊢; omega)]
      rw [over_eq _ _ _ (by simp at hc ⊢; omega), over_eq _ _ _ (by simpa using hc)]
      simp only [Array.toList_setIfInBounds]
      apply List.ext_getElem?
      intro j
      simp only [List.getElem?_append, List.length_append, List.length_take, List.length_set, List.getElem?_take, List.getElem?_drop, List.getElem?_set, List.length_cons, List.getElem?_cons, Array.length_toList]
      simp only [List.length_cons] at hc
      repeat' split
      all_goals try omega
      all_goals try rfl
      all_goals first | (congr 1; omega) | skip
  have := key vs.toList 0 cs (by simpa using hl)
  rw [← Array.foldl_toList, Array.toList_zipIdx]
  simpa using this

theorem fill_ok {place : Nat → Option (Nat × Nat)} : ∀ (parts : List (Nat × Operand)) (ps : List (Nat × Nat × Operand)) (cs0 cs : List Value) (arr0 : Array Value),
    partsOf place parts = some ps → RL I cs0 arr0.toList → (∀ p ∈ parts, RV I (σ p.2) (ρ p.2)) → fillP σ cs0 ps = some cs →
    ∃ arr, Instr.fill place arr0 (parts.map fun p => (p.1, ρ p.2)) = some arr ∧ RL I cs arr.toList
  | [], ps, cs0, cs, arr0, hp, hr, _, hf => by
    simp only [partsOf, Option.some.injEq] at hp
    subst hp
    simp only [fillP, Option.some.injEq] at hf
    subst hf
    exact ⟨arr0, rfl, hr⟩
  | (i, x) :: parts, ps, cs0, cs, arr0, hp, hr, hv, hf => by
    simp only [partsOf] at hp
    cases hpl : place i with
    | none => rw [hpl] at hp; cases hp
    | some os =>
      obtain ⟨off, size⟩ := os
      rw [hpl] at hp
      simp only at hp
      cases hrest : partsOf place parts with
      | none => rw [hrest] at hp; cases hp
      | some r =>
        rw [hrest] at hp
        simp only [Option.some.injEq] at hp
        subst hp
        simp only [fillP] at hf
        obtain ⟨hb, hf⟩ := of_cond hf
        have h1 : (σ x).cells.toList.length = size := Nat.eq_of_beq_eq_true (and_left hb)
        have h2 : off + size ≤ cs0.length := Nat.le_of_ble_eq_true (and_right hb)
        have hx : RV I (σ x) (ρ x) := hv (i, x) (by simp)
        have hcl := hx.cells.length_eq
        have hrl := hr.length_eq
        have hsz : (ρ x).cells.size = size := by rw [← Array.length_toList]; omega
        have hfit : off + (ρ x).cells.size ≤ arr0.size := by rw [hsz, ← Array.length_toList (xs := arr0)]; omega
        have hone := fill_one arr0 off (ρ x).cells hfit
        have hover : RL I (over cs0 off (σ x).cells.toList) (over arr0.toList off (ρ x).cells.toList) := by
          rw [over_eq _ _ _ (by omega), over_eq _ _ _ (by omega), hcl]
          exact ((hr.take off).append hx.cells).append (hr.drop _)
        rw [← hone] at hover
        obtain ⟨arr, ha, hra⟩ := fill_ok parts r _ cs _ hrest hover (fun p hp => hv p (by simp [hp])) hf
        refine ⟨arr, ?_, hra⟩
        simp only [List.map_cons, Instr.fill, hpl]
        rw [if_neg (by simp; omega)]
        exact ha

theorem places_run : ∀ (fields : List Field) (pl : List (Nat × Nat)), placesOf P fields = some pl → ∀ w,
    (fields.mapM (fun f => do pure (f.offset, ← sizeOf f.type)) : Sem (List (Nat × Nat))).run P w = .ok pl w
  | [], pl, hp, w => by simp only [placesOf, Option.some.injEq] at hp; subst hp; rfl
  | f :: fs, pl, hp, w => by
    simp only [placesOf] at hp
    cases h1 : infoOf P f.type with
    | none => rw [h1] at hp; cases hp
    | some fi =>
      rw [h1] at hp
      simp only at hp
      cases h2 : placesOf P fs with
      | none => rw [h2] at hp; cases hp
      | some r =>
        rw [h2] at hp
        simp only [Option.some.injEq] at hp
        subst hp
        simp only [List.mapM_cons, Sem.run_bind, (told h1).run_sizeOf, Result.andThen_ok, Sem.run_pure]
        rw [places_run fs r h2 w]
        rfl

theorem build_struct {t : TypeId} {ti : TI} {fields : Array Field} (T : Told P t ti) (hd : ti.desc = .struct fields) {pl : List (Nat × Nat)} (hpl : placesOf P fields.toList = some pl)
    {parts : Array (Nat × Operand)} {ps : List (Nat × Nat × Operand)} (hps : partsOf (fun i => pl[i]?) parts.toList = some ps) (hv : ∀ p ∈ parts.toList, RV I (σ p.2) (ρ p.2))
    {cs : List Value} (hf : fillP σ ti.zero ps = some cs) (w : World) :
    ∃ u, (Instr.build t (parts.map fun p => (p.1, ρ p.2))).run P w = .ok u w ∧ RV I (.agg cs.toArray) u := by
  obtain ⟨z, hz, hzr⟩ := T.run_zeroValue
  obtain ⟨arr, ha, hr⟩ := fill_ok parts.toList ps ti.zero cs z.cells hps (by rw [hz]; exact T.zeroRL I) hv hf
  refine ⟨.agg arr, ?_, .agg (by simpa using hr)⟩
  unfold Instr.build
  simp only [Sem.run_bind, hzr, Result.andThen_ok, T.run_underlying, hd, Array.mapM_eq_mapM_toList, Sem.run_map, places_run _ _ hpl]
  have e : (fun x : Nat => pl.toArray[x]?) = fun i : Nat => pl[i]? := by funext i; simp
  rw [e, Array.toList_map, ha]
  rfl

theorem build_array {t e : TypeId} {ti ie : TI} {n : Nat} (T : Told P t ti) (hd : ti.desc = .array n e) (E : Told P e ie)
    {parts : Array (Nat × Operand)} {ps : List (Nat × Nat × Operand)} (hps : partsOf (fun i => some (i * ie.size, ie.size)) parts.toList = some ps) (hv : ∀ p ∈ parts.toList, RV I (σ p.2) (ρ p.2))
    {cs : List Value} (hf : fillP σ ti.zero ps = some cs) (w : World) :
    ∃ u, (Instr.build t (parts.map fun p => (p.1, ρ p.2))).run P w = .ok u w ∧ RV I (.agg cs.toArray) u := by
  obtain ⟨z, hz, hzr⟩ := T.run_zeroValue
  obtain ⟨arr, ha, hr⟩ := fill_ok parts.toList ps ti.zero cs z.cells hps (by rw [hz]; exact T.zeroRL I) hv hf
  refine ⟨.agg arr, ?_, .agg (by simpa using hr)⟩
  unfold Instr.build
  simp only [Sem.run_bind, hzr, Result.andThen_ok, T.run_underlying, hd, E.run_sizeOf]
  rw [Array.toList_map, ha]
  rfl

/-! ### Zeros -/

theorem zeros_length (z : List Value) (n : Nat) : (zeros z n).length = n * z.length := by
  induction n with
  | zero => simp [zeros]
  | succ n ih => simp only [zeros, List.length_append, ih, Nat.succ_mul]; omega

theorem zeros_add (z : List Value) (m n : Nat) : zeros z (m + n) = zeros z m ++ zeros z n := by
  induction m with
  | zero => simp [zeros]
  | succ m ih => rw [show m + 1 + n = (m + n) + 1 by omega]; simp only [zeros, ih, List.append_assoc]

theorem zeros_get (z : List Value) (hz : 0 < z.length) : ∀ (n i : Nat), i < n * z.length → (zeros z n)[i]? = z[i % z.length]?
  | 0, i, hi => by simp at hi
  | n + 1, i, hi => by
    simp only [zeros, List.getElem?_append]
    split
    · rename_i h; rw [Nat.mod_eq_of_lt h]
    · rename_i h
      rw [Nat.succ_mul] at hi
      rw [zeros_get z hz n (i - z.length) (by omega)]
      rw [Nat.mod_eq_sub_mod (a := i) (by omega)]

theorem zeros_range (z : Array Value) (hz : 0 < z.size) (n : Nat) : ((Array.range (n * z.size)).map fun i => z[i % z.size]!).toList = zeros z.toList n := by
  apply List.ext_getElem?
  intro i
  by_cases hi : i < n * z.size
  · rw [zeros_get _ (by simpa using hz) n i (by simpa using hi)]
    have hm : i % z.size < z.size := Nat.mod_lt _ hz
    simp [hi, hm]
  · rw [List.getElem?_eq_none (by simpa using hi), List.getElem?_eq_none (by rw [zeros_length]; simpa using hi)]

theorem zeros_plain {z : List Value} (hz : z.all plain = true) (n : Nat) : (zeros z n).all plain = true := by
  induction n with
  | zero => rfl
  | succ n ih => simp only [zeros, List.all_append, hz, ih, Bool.and_self]

theorem zeros_cellOk {z : List Value} (hz : z.all cellOk = true) (n : Nat) : (zeros z n).all cellOk = true := by
  induction n with
  | zero => rfl
  | succ n ih => simp only [zeros, List.all_append, hz, ih, Bool.and_self]

theorem sliceElem_some {t e : TypeId} {ie : TI} (hs : sliceElem P t = some (e, ie)) : P.underlying t = some (.slice e) ∧ Told P e ie := by
  unfold sliceElem at hs
  split at hs
  · rename_i e' _ _ _ _ h1
    cases h2 : infoOf P e' with
    | none => rw [h2] at hs; cases hs
    | some i => rw [h2] at hs; cases hs; exact ⟨(told h1).under, told h2⟩
  · cases hs

end Go.AM

namespace Go.AM

variable {P : Program} {B : Base} {I : Inj} {h h' : Mem} {w : World} {σ : Operand → Value} {ρ : Operand → Value}

theorem row_ok {t e : TypeId} {ie : TI} (ht : P.underlying t = some (.slice e)) (E : Told P e ie) (R : RW B I h w) {len : Nat} (hlen : len * ie.size ≤ 1000)
    {parts : Array (Nat × Operand)} {ps : List (Nat × Nat × Operand)} (hps : partsOf (fun i => some (i * ie.size, ie.size)) parts.toList = some ps) (hv : ∀ p ∈ parts.toList, RV I (σ p.2) (ρ p.2))
    {cs : List Value} (hf : fillP σ (zeros ie.zero len) ps = some cs) (hc : cs.all cellOk = true) {v : Value}
    (hm : mkRow h cs e (fun i => .slice (some ⟨i, 0, none⟩) len ie.size) = some (.val v h')) (htop : Free B h h') (hcl : cs.length = len * ie.size) :
    ∃ u w', (Instr.buildSlice t len (parts.map fun p => (p.1, ρ p.2))).run P w = .ok u w' ∧ Post B I h.next v h' u w' := by
  obtain ⟨z, hz, hzr⟩ := E.run_zeroValue
  have hzs : z.cells.size = ie.size := by rw [← Array.length_toList, hz, E.len]
  have hpos := E.pos
  let c0 : Array Value := if len * ie.size = 0 then #[] else z.cells
  have h0 : ((Array.range (len * ie.size)).map fun i => c0[i % c0.size]!).toList = zeros ie.zero len := by
    by_cases hl : len = 0
    · subst hl; simp [zeros]
    · have : ¬ len * ie.size = 0 := by
        intro h0; rcases Nat.mul_eq_zero.1 h0 with h | h <;> omega
      show ((Array.range (len * ie.size)).map fun i => (if len * ie.size = 0 then #[] else z.cells)[i % (if len * ie.size = 0 then (#[] : Array Value) else z.cells).size]!).toList = _
      rw [if_neg this, ← hzs, zeros_range _ (by omega), hz]
  obtain ⟨arr, ha, hr⟩ := fill_ok parts.toList ps (zeros ie.zero len) cs ((Array.range (len * ie.size)).map fun i => c0[i % c0.size]!) hps (by rw [h0]; exact RL.plain_self (zeros_plain E.plain len)) hv hf
  have hcs : RL I cs (arr.toList.take cs.length) := by rw [hr.length_eq, List.take_length]; exact hr
  obtain ⟨rfl, _, hE, hR⟩ := mkRow_ok R hm htop (arr := arr) hcs hc
  have hal : arr.size = len * ie.size := by rw [← Array.length_toList, ← hr.length_eq, hcl]
  refine ⟨_, _, ?_, _, hE, .slice (extend_self _ _ _ _) (Nat.le_refl _) (fun _ => ⟨rfl, by rw [hal]; omega⟩) (fun h => absurd rfl h), hR⟩
  have hbig : ¬ len * ie.size > 2 ^ 24 := by omega
  unfold Instr.buildSlice
  rw [Array.toList_map]
  by_cases hq : len * ie.size = 0
  · have hc0 : c0 = #[] := if_pos hq
    rw [hc0] at ha
    rw [hq] at ha
    simp only [Sem.run_bind, Go.run_underlying ht, Result.andThen_ok, E.run_sizeOf, hq, if_true, Sem.run_pure, Sem.run_ite, ha, newRow, run_newObj]
    rfl
  · have hc0 : c0 = z.cells := if_neg hq
    rw [hc0] at ha
    simp only [Sem.run_bind, Go.run_underlying ht, Result.andThen_ok, E.run_sizeOf, if_neg hbig, hq, if_false, Sem.run_pure, Sem.run_ite, hzr, ha, newRow, run_newObj]
    rfl

theorem bnd_some {v : Value} {hi n : Nat} (hb : bnd v hi = some n) : ∃ k, v = .int k (Int.ofNat n) ∧ n ≤ hi := by
  unfold bnd at hb
  split at hb
  · rename_i k m
    obtain ⟨h1, h2⟩ := of_cond hb
    cases h2
    exact ⟨k, rfl, Nat.le_of_ble_eq_true h1⟩
  · cases hb

theorem RV.int_inv {k : IntKind} {n : Int} {u : Value} (r : RV I (.int k n) u) : u = .int k n := by cases r; rfl

theorem mks_ok {t e : TypeId} {ie : TI} (ht : P.underlying t = some (.slice e)) (E : Told P e ie) (R : RW B I h w) {lv cv lu cu : Value} (rl : RV I lv lu) (rc : RV I cv cu) {c l : Nat}
    (hc : bnd cv (2 ^ 48) = some c) (hl : bnd lv c = some l) (hby : ie.bytes * c ≤ 2 ^ 48) {v : Value}
    (hm : mkRow h (zeros ie.zero l) e (fun i => .slice (some ⟨i, 0, none⟩) l ie.size) = some (.val v h')) (htop : Free B h h') :
    ∃ u w', (Instr.makeSlice t lu cu).run P w = .ok u w' ∧ Post B I h.next v h' u w' := by
  obtain ⟨kc, rfl, hc48⟩ := bnd_some hc
  obtain ⟨kl, rfl, hlc⟩ := bnd_some hl
  have := rl.int_inv; subst this
  have := rc.int_inv; subst this
  obtain ⟨z, hz, hzr⟩ := E.run_zeroValue
  obtain ⟨inf, hib, hir⟩ := E.run_typeInfo
  have hzs : z.cells.size = ie.size := by rw [← Array.length_toList, hz, E.len]
  have hpos := E.pos
  have w1 : ∀ n : Nat, n ≤ 2 ^ 48 → IntKind.i64.wrap (Int.ofNat n) = Int.ofNat n := fun n hn => wrap_small .i64 n (by simp only [kLim]; omega)
  let c0 : Array Value := if c * ie.size = 0 then #[] else z.cells
  have h0 : ((Array.range (c * ie.size)).map fun i => c0[i % c0.size]!).toList = zeros ie.zero c := by
    by_cases hl : c = 0
    · subst hl; simp [zeros]
    · have : ¬ c * ie.size = 0 := by
        intro h0; rcases Nat.mul_eq_zero.1 h0 with h | h <;> omega
      show ((Array.range (c * ie.size)).map fun i => (if c * ie.size = 0 then #[] else z.cells)[i % (if c * ie.size = 0 then (#[] : Array Value) else z.cells).size]!).toList = _
      rw [if_neg this, ← hzs, zeros_range _ (by omega), hz]
  have hcs : RL I (zeros ie.zero l) (((Array.range (c * ie.size)).map fun i => c0[i % c0.size]!).toList.take (zeros ie.zero l).length) := by
    rw [h0]
    have : zeros ie.zero c = zeros ie.zero l ++ zeros ie.zero (c - l) := by rw [← zeros_add]; congr 1; omega
    rw [this, List.take_left]
    exact RL.plain_self (zeros_plain E.plain l)
  obtain ⟨rfl, _, hE, hR⟩ := mkRow_ok R hm htop (arr := (Array.range (c * ie.size)).map fun i => c0[i % c0.size]!) hcs (zeros_cellOk E.cellok l)
  refine ⟨_, _, ?_, _, hE, .slice (extend_self _ _ _ _) hlc (fun _ => ⟨rfl, by simp⟩) (fun h => absurd rfl h), hR⟩
  unfold Instr.makeSlice
  simp only [Sem.run_bind, Go.run_underlying ht, Result.andThen_ok, asInt, asIntOf, Sem.run_pure, hir, hib]
  rw [w1 c hc48, w1 l (by omega)]
  have hcond : (decide ((Int.ofNat c) < 0) || decide ((ie.bytes : Int) * (Int.ofNat c) > 2 ^ 48) || decide ((Int.ofNat l) < 0) || decide ((Int.ofNat l) > (Int.ofNat c))) = false := by
    have h1 : ¬ ((Int.ofNat c) < 0) := by show ¬ ((c : Int) < 0); omega
    have h2 : ¬ ((ie.bytes : Int) * (Int.ofNat c) > 2 ^ 48) := by
      have : ((ie.bytes * c : Nat) : Int) ≤ 2 ^ 48 := by exact_mod_cast hby
      show ¬ ((2 : Int) ^ 48 < (ie.bytes : Int) * (c : Int))
      rw [Int.natCast_mul] at this; omega
    have h3 : ¬ ((Int.ofNat l) < 0) := by show ¬ ((l : Int) < 0); omega
    have h4 : ¬ ((Int.ofNat l) > (Int.ofNat c)) := by show ¬ ((c : Int) < (l : Int)); omega
    simp only [decide_eq_false h1, decide_eq_false h2, decide_eq_false h3, decide_eq_false h4, Bool.or_self]
  rw [hcond]
  have ctn : (Int.ofNat c).toNat = c := rfl
  have ltn : (Int.ofNat l).toNat = l := rfl
  by_cases hq : c * ie.size = 0
  · have hc0 : c0 = #[] := if_pos hq
    simp only [Bool.false_eq_true, if_false, Sem.run_bind, run_askRoom, Result.andThen_ok, ctn, ltn, E.run_sizeOf, hq, if_true, Sem.run_pure, Sem.run_ite, newRow, run_newObj, hc0]
    rfl
  · have hc0 : c0 = z.cells := if_neg hq
    simp only [Bool.false_eq_true, if_false, Sem.run_bind, run_askRoom, Result.andThen_ok, ctn, ltn, E.run_sizeOf, hq, Sem.run_pure, Sem.run_ite, hzr, newRow, run_newObj, hc0]
    rfl

end Go.AM

namespace Go.AM

variable {P : Program} {B : Base} {I : Inj} {h h' : Mem} {w : World} {σ : Operand → Value} {ρ : Operand → Value}

/-- An optional bound, of the machine and of the model. -/
inductive RO' (I : Inj) : Option Value → Option Value → Prop
  | none : RO' I none none
  | some {v u : Value} (r : RV I v u) : RO' I (some v) (some u)

theorem sliceBound_ok {v u : Value} (r : RV I v u) {hi n : Nat} (hb : bnd v hi = some n) {y : Nat} (hy : hi ≤ y) (code : BoundsCode) (w : World) :
    (Instr.sliceBound u y code).run P w = .ok n w := by
  obtain ⟨k, rfl, hn⟩ := bnd_some hb
  have := r.int_inv; subst this
  unfold Instr.sliceBound
  simp only [asIntOf, Sem.run_bind, Sem.run_pure, Result.andThen_ok]
  have h1 : 0 ≤ (Int.ofNat n) ∧ (Int.ofNat n) ≤ (y : Int) := by
    refine ⟨Int.natCast_nonneg n, ?_⟩
    show (n : Int) ≤ (y : Int); omega
  rw [if_pos h1]
  rfl

theorem slc_ok {t e : TypeId} {ie : TI} (ht : P.underlying t = some (.slice e)) (E : Told P e ie) {x u : Value} (rx : RV I x u) {lo hi mx lo' hi' mx' : Option Value}
    (rlo : RO' I lo lo') (rhi : RO' I hi hi') (rmx : RO' I mx mx') (hmh : mx ≠ none → hi ≠ none) {v : Value} (hs : sliceOp ie.size x lo hi mx = some v) (w : World) :
    ∃ y, (Instr.sliceAt t u lo' hi' mx').run P w = .ok y w ∧ RV I v y := by
  have hrun : (Instr.sliceAt t u lo' hi' mx').run P w = (Instr.slice t u lo' hi' mx').run P w := by
    unfold Instr.sliceAt
    simp only [Sem.run_bind, Go.run_underlying ht, Result.andThen_ok]
  rw [hrun]
  unfold sliceOp at hs
  split at hs
  · -- nil
    cases rx
    split at hs
    · rename_i n1 n2 n3 e1 e2 e3
      cases hs
      refine ⟨.slice none 0 0, ?_, .nilSlice⟩
      unfold Instr.slice
      simp only [Sem.run_bind, Go.run_underlying ht, Result.andThen_ok]
      have z : ∀ {v : Value} {n : Nat}, bnd v 0 = some n → n = 0 := fun hb => by obtain ⟨_, _, h⟩ := bnd_some hb; omega
      have hm : (Instr.sliceBounds true 0 0 lo' hi' mx').run P w = .ok (0, 0, 0) w := by
        unfold Instr.sliceBounds
        cases rmx with
        | none =>
          cases rhi with
          | none =>
            cases rlo with
            | none => simp
            | some r => simp only [orLen] at e2; have := z e2; subst this; simp [sliceBound_ok r e2 (Nat.le_refl 0)]
          | some rh =>
            simp only [orLen] at e1; have := z e1; subst this
            cases rlo with
            | none => simp [sliceBound_ok rh e1 (Nat.le_refl 0)]
            | some r => simp only [orLen] at e2; have := z e2; subst this; simp [sliceBound_ok rh e1 (Nat.le_refl 0), sliceBound_ok r e2 (Nat.le_refl 0)]
        | some rm =>
          simp only [orLen] at e3; have := z e3; subst this
          cases rhi with
          | none => exact absurd rfl (hmh (by simp))
          | some rh =>
            simp only [orLen] at e1; have := z e1; subst this
            cases rlo with
            | none => simp [sliceBound_ok rm e3 (Nat.le_refl 0), sliceBound_ok rh e1 (Nat.le_refl 0)]
            | some r => simp only [orLen] at e2; have := z e2; subst this; simp [sliceBound_ok rm e3 (Nat.le_refl 0), sliceBound_ok rh e1 (Nat.le_refl 0), sliceBound_ok r e2 (Nat.le_refl 0)]
      simp [hm, E.run_sizeOf]
    · cases hs
  · rename_i i off sp len s
    obtain ⟨hsz, hs⟩ := of_cond hs
    have hsz : s = ie.size := Nat.eq_of_beq_eq_true hsz
    subst hsz
    cases rx
    rename_i b n off' cap hI hsp hlen hc
    cases e1 : orLen hi len len with
    | none => rw [e1] at hs; cases hs
    | some hh =>
      rw [e1] at hs
      simp only at hs
      cases e2 : orLen lo hh 0 with
      | none => rw [e2] at hs; cases hs
      | some l =>
        rw [e2] at hs
        simp only at hs
        have hhl : hh ≤ len := by
          cases hi with
          | none => simp only [orLen, Option.some.injEq] at e1; omega
          | some v => obtain ⟨_, _, hq⟩ := bnd_some e1; exact hq
        have hlh : l ≤ hh := by
          cases lo with
          | none => simp only [orLen, Option.some.injEq] at e2; omega
          | some v => obtain ⟨_, _, hq⟩ := bnd_some e2; exact hq
        cases rmx with
        | none =>
          simp only at hs
          cases sp with
          | some _ => cases hs
          | none =>
            simp only [Option.some.injEq] at hs
            subst hs
            have hm : (Instr.sliceBounds true len cap lo' hi' none).run P w = .ok (l, hh, cap) w := by
              unfold Instr.sliceBounds
              cases rhi with
              | none =>
                simp only [orLen, Option.some.injEq] at e1; subst e1
                cases rlo with
                | none => simp only [orLen, Option.some.injEq] at e2; subst e2; simp
                | some r => simp only [orLen] at e2; simp [sliceBound_ok r e2 (Nat.le_refl _)]
              | some rh =>
                simp only [orLen] at e1
                cases rlo with
                | none => simp only [orLen, Option.some.injEq] at e2; subst e2; simp [sliceBound_ok rh e1 hlen]
                | some r => simp only [orLen] at e2; simp [sliceBound_ok rh e1 hlen, sliceBound_ok r e2 (Nat.le_refl _)]
            refine ⟨.slice (if cap = l then some ⟨b, off', none⟩ else some ((⟨b, off', none⟩ : Addr).add (l * ie.size))) (hh - l) (cap - l), ?_, ?_⟩
            · unfold Instr.slice
              simp only [Sem.run_bind, Go.run_underlying ht, Result.andThen_ok, hm, E.run_sizeOf, Sem.run_pure]
              rfl
            · by_cases hcl : cap = l
              · rw [if_pos hcl]
                exact .slice hI (by show hh - l ≤ cap - l; omega) (fun hne => absurd hne (by omega)) (fun h => absurd rfl h)
              · rw [if_neg hcl, addr_add]
                refine .slice hI (by show hh - l ≤ cap - l; omega) (fun _ => ?_) (fun h => absurd rfl h)
                obtain ⟨g1, g2⟩ := hc (by omega)
                refine ⟨by rw [g1]; rfl, ?_⟩
                show off + l * ie.size + (cap - l) * ie.size ≤ n
                have : l * ie.size + (cap - l) * ie.size = cap * ie.size := by rw [← Nat.add_mul]; congr 1; omega
                omega
        | @some mv mu rm =>
          simp only at hs
          cases e3 : bnd mv 0 with
          | none => rw [e3] at hs; cases hs
          | some m0 =>
            rw [e3] at hs
            obtain ⟨hz, hs⟩ := of_cond hs
            have hz : hh = 0 := Nat.eq_of_beq_eq_true hz
            subst hz
            cases hs
            have hm0 : m0 = 0 := by obtain ⟨_, _, hq⟩ := bnd_some e3; omega
            subst hm0
            have hl0 : l = 0 := by omega
            subst hl0
            cases rhi with
            | none => exact absurd rfl (hmh (by simp))
            | @some hv hu rh =>
              simp only [orLen] at e1
              have e1' : bnd hv 0 = some 0 := by
                obtain ⟨k, rfl, _⟩ := bnd_some e1; rfl
              have hm : (Instr.sliceBounds true len cap lo' (some hu) (some mu)).run P w = .ok (0, 0, 0) w := by
                unfold Instr.sliceBounds
                cases rlo with
                | none => simp [sliceBound_ok rm e3 (Nat.zero_le cap), sliceBound_ok rh e1' (Nat.le_refl 0)]
                | some r =>
                  simp only [orLen] at e2
                  simp [sliceBound_ok rm e3 (Nat.zero_le cap), sliceBound_ok rh e1' (Nat.le_refl 0), sliceBound_ok r e2 (Nat.le_refl 0)]
              refine ⟨.slice (some ⟨b, off', none⟩) 0 0, ?_, .slice hI (Nat.le_refl 0) (fun h => absurd rfl h) (fun _ => rfl)⟩
              unfold Instr.slice
              simp only [Sem.run_bind, Go.run_underlying ht, Result.andThen_ok, hm, E.run_sizeOf, Sem.run_pure]
              rfl
  · cases hs

end Go.AM

namespace Go.AM

variable {P : Program} {B : Base} {I : Inj} {h h' : Mem} {w : World} {σ : Operand → Value} {ρ : Operand → Value}

theorem growBy_le (m : Nat) : ∀ (r c : Nat), Builtin.growBy m r c ≤ max c (m + (m + 768) / 4)
  | 0, c => by simp only [Builtin.growBy]; omega
  | r + 1, c => by
    simp only [Builtin.growBy]
    split
    · omega
    · have := growBy_le m r (c + (c + 768) / 4); omega

theorem nextslicecap_le {m c : Nat} (hc : c < m) : Builtin.nextslicecap m c ≤ 2 * m + 1024 := by
  unfold Builtin.nextslicecap
  split
  · omega
  · split
    · omega
    · have := growBy_le m 4 c; omega

theorem RW.drop (R : RW B I h w) {i : Nat} {h1 : Mem} (hd : h.drop i = some h1) : RW B I h1 w := by
  obtain ⟨hd1, hd2, hget⟩ := Mem.drop_some hd
  have live : ∀ j r, h1.get j = some r → h.get j = some r := fun j r hj => by
    rw [hget] at hj
    by_cases e : j = i
    · rw [if_pos e] at hj; cases hj
    · rw [if_neg e] at hj; exact hj
  exact ⟨fun j r hj => R.rows j r (live j r hj), fun j k r r' b n m hj hk => R.inj j k r r' b n m (live j r hj) (live k r' hk), by rw [hd1]; exact R.fresh,
    fun j hj => by
      rw [hd1] at hj; rw [hget]
      by_cases e : j = i
      · rw [if_pos e]
      · rw [if_neg e]; exact R.gone j hj,
    fun j r hj => by rw [hd2]; exact R.vers j r (live j r hj), fun j r hj => R.cellok j r (live j r hj), R.snap, R.rest, R.globs⟩

theorem rowOf_ok (R : RW B I h w) {size n : Nat} {x u : Value} {new : List Value} (rx : RV I x u) (hx : rowOf h size x = some (n, new)) :
    ∃ us : List Value, (Builtin.lenOf u).run P w = .ok n w ∧ (∀ d, (Builtin.firstCells size n u).run P { w with drawn := d } = .ok us.toArray { w with drawn := d }) ∧ RL I new us ∧ new.all cellOk = true ∧ new.length = n * size := by
  unfold rowOf at hx
  split at hx
  · cases rx
    simp only [Option.some.injEq, Prod.mk.injEq] at hx
    obtain ⟨rfl, rfl⟩ := hx
    exact ⟨[], rfl, fun _ => rfl, .nil, rfl, by simp⟩
  · rename_i i off sp len s
    have hx' := of_cond hx
    clear hx
    obtain ⟨hs', hx⟩ := hx'
    have hs : s = size := Nat.eq_of_beq_eq_true hs'
    clear hs'
    subst hs
    cases rx
    rename_i b nb off' cap hI hsp hlen hc
    cases hz : Nat.beq len 0 with
    | true =>
      rw [hz] at hx
      have : len = 0 := Nat.eq_of_beq_eq_true hz
      subst this
      simp only [cond_true, Option.some.injEq, Prod.mk.injEq] at hx
      obtain ⟨rfl, rfl⟩ := hx
      refine ⟨[], rfl, ?_, .nil, rfl, by simp⟩
      intro d
      simp only [Builtin.firstCells, Nat.zero_mul]
      rfl
    | false =>
      rw [hz] at hx
      simp only [cond_false] at hx
      cases hl : cellsAt h i off (Nat.mul len s) with
      | none => rw [hl] at hx; cases hx
      | some l =>
        rw [hl] at hx
        simp only [Option.some.injEq, Prod.mk.injEq] at hx
        obtain ⟨rfl, rfl⟩ := hx
        have hne : len ≠ 0 := fun e => by rw [e] at hz; cases hz
        obtain ⟨h1, _⟩ := hc (by omega)
        obtain ⟨us, k1, k2, k3, k4⟩ := R.cells P hl hI
        refine ⟨us, rfl, ?_, k2, k4, k3⟩
        intro d
        rw [h1]
        exact k1 d
  · cases hx

/-- What a growing append does. -/
theorem grow_run {t xt e : TypeId} {ie : TI} {ex : TypeId} (ht : P.underlying t = some (.slice e)) (hxt : P.underlying xt = some (.slice ex)) (E : Told P e ie) (hb0 : 0 < ie.bytes)
    {base : Option Addr} {sLen sCap n : Nat} {u : Value} {old us : List Value} (hlen : (Builtin.lenOf u).run P w = .ok n w) 
    (hnew' : ∀ k, (Builtin.firstCells ie.size n u).run P { w with drawn := k } = .ok us.toArray { w with drawn := k })
    (hold : ∀ k, (Builtin.firstCells ie.size sLen (.slice base sLen sCap)).run P { w with drawn := k } = .ok old.toArray { w with drawn := k })
    (hgt : sCap < sLen + n) (hby : (2 * (sLen + n) + 1024) * ie.bytes ≤ 2 ^ 48) (ty : TypeId) :
    ∃ (newCap : Nat) (z : List Value), sLen + n ≤ newCap ∧ z.length = (newCap - (sLen + n)) * ie.size ∧
      (Builtin.append_ #[t, xt] ty #[.slice base sLen sCap, u]).run P w = .ok (.slice (some ⟨w.heap.size, 0, none⟩) (sLen + n) newCap) (World.alloc { w with drawn := w.drawn + 1 } (.cells (old ++ us ++ z).toArray e (0, 0))) := by
  obtain ⟨z0, hz, hzr⟩ := E.run_zeroValue
  obtain ⟨inf, hib, hir⟩ := E.run_typeInfo
  have hzs : z0.cells.size = ie.size := by rw [← Array.length_toList, hz, E.len]
  refine ⟨Question.cut (.appendCap (sLen + n) sCap e) (w.tape w.drawn (.appendCap (sLen + n) sCap e)),
    (Builtin.zeroCells z0.cells (Question.cut (.appendCap (sLen + n) sCap e) (w.tape w.drawn (.appendCap (sLen + n) sCap e)) - (sLen + n))).toList, ?_, ?_, ?_⟩
  · simp only [Question.cut]; omega
  · simp [Builtin.zeroCells, hzs]
  · unfold Builtin.append_
    have hcap : ¬ Builtin.nextslicecap (sLen + n) sCap * ie.bytes > 2 ^ 48 := by
      have h1 := nextslicecap_le hgt
      have h2 := Nat.mul_le_mul_right ie.bytes h1
      omega
    have hbz : (ie.bytes = 0) = False := eq_false (by omega)
    have hforced : (Question.appendCap (sLen + n) sCap e).forced = false := rfl
    simp only [List.getElem?_toArray, List.getElem?_cons_zero, List.getElem?_cons_succ, Sem.run_bind, Go.run_underlying ht, Result.andThen_ok, E.run_sizeOf, Go.run_underlying hxt, Sem.run_pure]
    simp only [Bool.false_eq_true, if_false, Sem.run_bind, hlen, Result.andThen_ok]
    rw [if_neg (by omega)]
    have hd := hold (w.drawn + 1)
    have hn := hnew' (w.drawn + 1)
    simp only [Sem.run_bind, hir, Result.andThen_ok, hib, hbz, Bool.false_eq_true, or_self, and_false, if_false, if_neg hcap, run_choose, hforced, run_askRoom]
    simp only [hd, hn, Result.andThen_ok, Bool.not_false, if_true, hzr, newRow, Sem.run_bind, run_newObj, Sem.run_pure]
    simp only [List.append_toArray]
    congr 3
    simp

theorem grown_post {e : TypeId} {hx : Mem} (R : RW B I hx w) {oa new old us z : List Value} {m size newCap : Nat} {v : Value}
    (hm : mkRow hx (oa ++ new) e (fun i => .slice (some ⟨i, 0, none⟩) m size) = some (.val v h')) (htop : Free B hx h') (ho : RL I oa old) (hn : RL I new us) (hco : oa.all cellOk = true) (hcn : new.all cellOk = true)
    (hlen : (oa ++ new).length = m * size) (hc : m ≤ newCap) (hz : z.length = (newCap - m) * size) :
    Post B I hx.next v h' (.slice (some ⟨w.heap.size, 0, none⟩) m newCap) (World.alloc { w with drawn := w.drawn + 1 } (.cells (old ++ us ++ z).toArray e (0, 0))) := by
  have hRL := ho.append hn
  have hlr := hRL.length_eq
  have hr : RL I (oa ++ new) ((old ++ us ++ z).toArray.toList.take (oa ++ new).length) := by
    rw [hlr]
    simp only [List.take_left]
    exact hRL
  obtain ⟨rfl, _, hE, hR⟩ := mkRow_ok R.drew hm htop (arr := (old ++ us ++ z).toArray) hr (by rw [List.all_append, hco, hcn]; rfl)
  refine ⟨_, hE, .slice (extend_self _ _ _ _) hc (fun _ => ⟨rfl, ?_⟩) (fun h => absurd rfl h), hR⟩
  rw [List.size_toArray, List.length_append, ← hlr, hlen, hz]
  have : m * size + (newCap - m) * size = newCap * size := by rw [← Nat.add_mul]; congr 1; omega
  omega

theorem app_ok {t xt e ex : TypeId} {ie : TI} (ht : P.underlying t = some (.slice e)) (hxt : P.underlying xt = some (.slice ex)) (E : Told P e ie) (hb0 : 0 < ie.bytes) (R : RW B I h w)
    {s x s' x' : Value} (rs : RV I s s') (rx : RV I x x') {v : Value} (ha : appendOp h e ie.size ie.bytes s x = some (.val v h')) (htop : Free B h h') (ty : TypeId) :
    ∃ y w', (Builtin.append_ #[t, xt] ty #[s', x']).run P w = .ok y w' ∧ Post B I h.next v h' y w' := by
  unfold appendOp at ha
  cases hrow : rowOf h ie.size x with
  | none => rw [hrow] at ha; cases ha
  | some p =>
    obtain ⟨n, new⟩ := p
    rw [hrow] at ha
    simp only at ha
    have hpos := E.pos
    obtain ⟨us, hlen, hnew, hRL, hcell, hnl⟩ := rowOf_ok (P := P) R rx hrow
    have hul := hRL.length_eq
    cases hz : Nat.beq n 0 with
    | true =>
      -- nothing is appended
      rw [hz] at ha
      have hn0 : n = 0 := Nat.eq_of_beq_eq_true hz
      subst hn0
      simp only [cond_true] at ha
      have hus : us = [] := by
        have : us.length = 0 := by rw [← hul, hnl]; simp
        exact List.eq_nil_of_length_eq_zero this
      subst hus
      have hn0 := hnew w.drawn
      have nothing : ∀ (base : Option Addr) (sLen cap : Nat), sLen ≤ cap → (Builtin.append_ #[t, xt] ty #[.slice base sLen cap, x']).run P w = .ok (.slice base sLen cap) w := by
        intro base sLen cap hle
        unfold Builtin.append_
        simp only [List.getElem?_toArray, List.getElem?_cons_zero, List.getElem?_cons_succ, Sem.run_bind, Go.run_underlying ht, Result.andThen_ok, E.run_sizeOf, Go.run_underlying hxt, Sem.run_pure]
        simp only [Bool.false_eq_true, if_false, Sem.run_bind, hlen, Result.andThen_ok]
        rw [if_pos (by omega)]
        have hn1 : (Builtin.firstCells ie.size 0 x').run P w = .ok [].toArray w := hn0
        simp only [Bool.not_false, if_true, Sem.run_bind, hn1, Result.andThen_ok]
        cases base with
        | none => simp
        | some b => simp [storeCells]
      split at ha
      · cases ha
        cases rs with
        | nilSlice => exact ⟨_, _, nothing none 0 0 (Nat.le_refl 0), .same R .nilSlice⟩
        | slice hI hl hc hs => exact ⟨_, _, nothing _ _ _ hl, .same R (.slice hI hl hc hs)⟩
      · cases ha
    | false =>
      rw [hz] at ha
      have hn0 : n ≠ 0 := fun e => by rw [e] at hz; cases hz
      simp only [cond_false] at ha
      split at ha
      · -- onto nil
        cases rs
        obtain ⟨hby, hm⟩ := of_cond ha
        have hby : (2 * n + 1024) * ie.bytes ≤ 2 ^ 48 := Nat.le_of_ble_eq_true hby
        obtain ⟨newCap, z, h1, h2, h3⟩ := grow_run (P := P) (w := w) ht hxt E hb0 (base := none) (sLen := 0) (sCap := 0) (u := x') (old := []) hlen hnew (fun k => rfl) (by omega) (by rw [Nat.zero_add]; exact hby) ty
        rw [Nat.zero_add] at h1 h2 h3
        exact ⟨_, _, h3, grown_post R (oa := []) hm htop .nil hRL rfl hcell (by simpa using hnl) h1 h2⟩
      · rename_i i off sp len sz
        have ha' := of_cond ha
        clear ha
        obtain ⟨hb, ha⟩ := ha'
        have hsz : sz = ie.size := Nat.eq_of_beq_eq_true (and_left hb)
        have hby : (2 * (len + n) + 1024) * ie.bytes ≤ 2 ^ 48 := Nat.le_of_ble_eq_true (and_right hb)
        subst hsz
        cases rs
        rename_i b nb off' cap hI hsp hl hc
        split at ha
        · -- no room, nothing in it
          rename_i q
          have ha' := of_cond ha
          clear ha
          obtain ⟨hlb, hm⟩ := ha'
          have hl0 : len = 0 := Nat.eq_of_beq_eq_true hlb
          clear hlb
          subst hl0
          have hcap : cap = 0 := hsp (by simp)
          subst hcap
          obtain ⟨newCap, z, h1, h2, h3⟩ := grow_run (P := P) (w := w) ht hxt E hb0 (base := some ⟨b, off', none⟩) (sLen := 0) (sCap := 0) (u := x') (old := []) hlen hnew
            (fun k => by simp only [Builtin.firstCells, Nat.zero_mul]; rfl) (by omega) hby ty
          rw [Nat.zero_add] at h1 h2 h3
          exact ⟨_, _, h3, grown_post R (oa := []) hm htop .nil hRL rfl hcell (by simpa using hnl) h1 h2⟩
        · have ha' := of_cond ha
          clear ha
          obtain ⟨hob, ha⟩ := ha'
          have ho : off = 0 := Nat.eq_of_beq_eq_true hob
          clear hob
          subst ho
          cases hi : h.get i with
          | none => rw [hi] at ha; cases ha
          | some r =>
            rw [hi] at ha
            simp only at ha
            have ha' := of_cond ha
            clear ha
            obtain ⟨hb2, ha⟩ := ha'
            have hrl : len * ie.size = r.cells.length := Nat.eq_of_beq_eq_true (and_left hb2)
            have hel : r.elem = e := Nat.eq_of_beq_eq_true (and_right hb2)
            clear hb2
            subst hel
            cases hd : h.drop i with
            | none => rw [hd] at ha; cases ha
            | some h1 =>
              rw [hd] at ha
              simp only at ha
              obtain ⟨b', nb', arr, k1, k2, k3, k4, k5⟩ := R.rows i r hi
              rw [hI] at k1; cases k1
              have k4l := k4.length_eq
              rw [List.length_take] at k4l
              have hsz : arr.toList.length = arr.size := Array.length_toList
              by_cases hfit : len + n ≤ cap
              · -- there is room
                obtain ⟨g1, g2⟩ := hc (by omega)
                subst g1
                have hadd : (⟨b, 0, none⟩ : Addr).add (len * ie.size) = ⟨b, len * ie.size, none⟩ := by rw [addr_add]; simp
                have hmul : (len + n) * ie.size ≤ cap * ie.size := Nat.mul_le_mul_right _ hfit
                rw [Nat.add_mul] at hmul
                have hok : ∀ y ∈ us, y.oneCell' = true := by
                  intro y hy
                  obtain ⟨j, hj, hjy⟩ := List.getElem_of_mem hy
                  have hj' : j < new.length := by rw [hul]; exact hj
                  obtain ⟨a, ha1, ra⟩ := hRL.get (List.getElem?_eq_getElem hj')
                  rw [List.getElem?_eq_getElem hj] at ha1
                  cases ha1
                  rw [List.all_eq_true] at hcell
                  exact oneCell_of_cellOk (by rw [← hjy, ra.cellOk]; exact hcell _ (List.getElem_mem hj'))
                have hst := run_storeCells_at (P := P) b (len * ie.size) r.elem us 0 arr w k2 (by omega) hok
                rw [Nat.add_zero] at hst
                unfold mkRow at ha
                cases hn : h1.new (r.cells ++ new) r.elem with
                | none => rw [hn] at ha; cases ha
                | some h2 =>
                  rw [hn] at ha
                  cases ha
                  obtain ⟨d1, d2, _⟩ := Mem.drop_some hd
                  obtain ⟨_, n1, _, _⟩ := Mem.new_some hn
                  have hRL2 : RL I (r.cells ++ new) ((arr.toList.take (len * ie.size) ++ us ++ arr.toList.drop (len * ie.size + us.length)).toArray.toList.take (r.cells ++ new).length) := by
                    have e1 : (r.cells ++ new).length = (arr.toList.take (len * ie.size) ++ us).length := by
                      simp only [List.length_append, List.length_take]; omega
                    rw [e1]
                    simp only [List.take_left]
                    rw [hrl]
                    exact k4.append hRL
                  obtain ⟨hE, hR⟩ := R.renew hi hI hd hn (htop _ (Nat.le_refl _) (by omega)) (arr := (arr.toList.take (len * ie.size) ++ us ++ arr.toList.drop (len * ie.size + us.length)).toArray)
                    (by rw [List.size_toArray]; simp only [List.length_append, List.length_take, List.length_drop]; omega) hRL2 (by rw [List.all_append, hcell, R.cellok i r hi]; rfl)
                  refine ⟨.slice (some ⟨b, 0, none⟩) (len + n) cap, _, ?_, _, hE, ?_, hR⟩
                  · unfold Builtin.append_
                    simp only [List.getElem?_toArray, List.getElem?_cons_zero, List.getElem?_cons_succ, Sem.run_bind, Go.run_underlying ht, Result.andThen_ok, E.run_sizeOf, Go.run_underlying hxt, Sem.run_pure]
                    simp only [Bool.false_eq_true, if_false, Sem.run_bind, hlen, Result.andThen_ok]
                    rw [if_pos hfit]
                    have hn1 : (Builtin.firstCells ie.size n x').run P w = .ok us.toArray w := hnew w.drawn
                    simp only [Bool.not_false, if_true, Sem.run_bind, hn1, Result.andThen_ok, hadd, hst, Sem.run_pure]
                  · rw [← d1]
                    exact .slice (extend_self _ _ _ _) hfit (fun _ => ⟨rfl, g2⟩) (fun h => absurd rfl h)
              · -- it grows
                have hold : ∃ old : List Value, RL I r.cells old ∧ ∀ k, (Builtin.firstCells ie.size len (.slice (some ⟨b, off', none⟩) len cap)).run P { w with drawn := k } = .ok old.toArray { w with drawn := k } := by
                  by_cases hl0 : len = 0
                  · subst hl0
                    have : r.cells = [] := List.eq_nil_of_length_eq_zero (by omega)
                    rw [this]
                    exact ⟨[], .nil, fun k => by simp only [Builtin.firstCells, Nat.zero_mul]; rfl⟩
                  · obtain ⟨g1, _⟩ := hc (by omega)
                    subst g1
                    have hca : cellsAt h i 0 (len * ie.size) = some r.cells := by
                      unfold cellsAt
                      rw [hi]
                      simp only [List.drop_zero]
                      rw [hrl, List.take_length, show Nat.beq r.cells.length r.cells.length = true from Nat.beq_refl _]; rfl
                    obtain ⟨us2, q1, q2, _, _⟩ := R.cells P hca hI
                    exact ⟨us2, q2, fun k => q1 k⟩
                obtain ⟨old, ho1, ho2⟩ := hold
                obtain ⟨newCap, z, q1, q2, q3⟩ := grow_run (P := P) (w := w) ht hxt E hb0 (base := some ⟨b, off', none⟩) (sLen := len) (sCap := cap) (u := x') hlen hnew ho2 (by omega) hby ty
                have hdn := (Mem.drop_some hd).1
                exact ⟨_, _, q3, by rw [← hdn]; exact grown_post (R.drop hd) (oa := r.cells) ha (by rw [Free, hdn]; exact htop) ho1 hRL (R.cellok i r hi) hcell (by rw [List.length_append, ← hrl, hnl, ← Nat.add_mul]) q1 q2⟩
      · cases ha

end Go.AM

namespace Go.AM

variable {P : Program} {B : Base} {I : Inj} {h h' : Mem} {w : World} {σ : Operand → Value} {ρ : Operand → Value}

theorem over_length : ∀ (cs : List Value) (off : Nat) (vs : List Value), (over cs off vs).length = cs.length
  | [], _, _ => by simp [over]
  | _ :: cs, 0, v :: vs => by simp [over, over_length cs 0 vs]
  | _ :: _, 0, [] => by simp [over]
  | c :: cs, n + 1, vs => by simp [over, over_length cs n vs]

theorem fillP_length : ∀ {ps : List (Nat × Nat × Operand)} {cs ds : List Value}, fillP σ cs ps = some ds → ds.length = cs.length
  | [], cs, ds, hf => by simp only [fillP, Option.some.injEq] at hf; rw [hf]
  | (off, size, x) :: ps, cs, ds, hf => by
    simp only [fillP] at hf
    obtain ⟨_, hf⟩ := of_cond hf
    rw [fillP_length hf, over_length]

theorem map_RL {l : List Operand} (hl : ∀ x ∈ l, RV I (σ x) (ρ x)) : RL I (l.map σ) (l.map ρ) := by
  induction l with
  | nil => exact .nil
  | cons a l ih => exact .cons (hl a List.mem_cons_self) (ih fun x hx => hl x (List.mem_cons_of_mem _ hx))

theorem valP_some {h : Mem} {o : Option Value} {v : Value} (hv : valP h o = some (.val v h')) : o = some v ∧ plain v = true ∧ h' = h := by
  unfold valP at hv
  cases o with
  | none => cases hv
  | some r =>
    obtain ⟨h1, h2⟩ := of_cond hv
    cases h2
    exact ⟨rfl, h1, rfl⟩

theorem gives_pure {s : Sem Value} {v : Value} (R : RW B I h w) (hp : plain v = true) (hr : pureRun P s = some v) :
    Gives P (do pure (.value (← s))) w (fun u w' => Post B I h.next v h u w') :=
  gives_value (pureRun_run hr w) (.same R (plain_self hp))

theorem gives_same {s : Sem Value} {v u : Value} (R : RW B I h w) (hr : s.run P w = .ok u w) (rv : RV I v u) :
    Gives P (do pure (.value (← s))) w (fun u w' => Post B I h.next v h u w') :=
  gives_value hr (.same R rv)

/-- A value that an operation yields. -/
abbrev vv (s : Sem Value) : Sem Next := do pure (.value (← s))

def binS (op : BinOp) (t : TypeId) (x y : Operand) (a b : Value) : Sem Value := do eqGuard op t x y a b; binOp op t a b

variable {t : TypeId} {v : Value} {c0 : Nat}

theorem s_pick {c a b : Operand} (hc : RV I (σ c) (ρ c)) (ha : RV I (σ a) (ρ a)) (hb : RV I (σ b) (ρ b)) (R : RW B I h w)
    (hr : aPick c a b P c0 σ h = some (.val v h')) : Gives P (do pure (.value (if ← asBool (ρ c) then ρ a else ρ b))) w (fun u w' => Post B I h.next v h' u w') := by
  unfold aPick at hr
  split at hr
  · rename_i t e
    rw [e] at hc
    cases hr
    generalize hq : ρ c = q at hc
    cases hc
    refine .inl ⟨if t then ρ a else ρ b, w, by simp [asBool], ?_⟩
    cases t
    · exact .same R hb
    · exact .same R ha
  · cases hr

theorem s_nilc {o : Oper} {x : Operand} (ho : o.op = .nilCheck x) (hx : RV I (σ x) (ρ x)) (R : RW B I h w) (hr : aNilc x P c0 σ h = some (.val v h')) :
    Gives P (execOp ρ o) w (fun u w' => Post B I h.next v h' u w') := by
  unfold aNilc at hr
  unfold execOp
  rw [ho]
  simp only
  split at hr
  · rename_i a e
    rw [e] at hx
    cases hr
    generalize ρ x = q at hx
    cases hx with
    | ptr hI => exact .inl ⟨_, w, rfl, .same R (.ptr hI)⟩
  · rename_i g a b e
    rw [e] at hx
    cases hr
    generalize ρ x = q at hx
    cases hx with
    | func ha hc => exact .inl ⟨_, w, rfl, .same R (.func ha hc)⟩
  · cases hr

theorem ibinOp_plain {op : BinOp} {k : IntKind} {a b : Int} {v : Value} (hi : ibinOp op k a b = some v) : plain v = true := by
  unfold ibinOp at hi
  split at hi
  all_goals first
    | (cases hi; rfl)
    | (split at hi <;> first
        | (cases hi; rfl)
        | cases hi
        | (obtain ⟨_, hi⟩ := of_cond hi; cases hi; rfl))

theorem s_ibin {op : BinOp} {x y : Operand} (hx : RV I (σ x) (ρ x)) (hy : RV I (σ y) (ρ y)) (R : RW B I h w) (hr : aIbin op x y P c0 σ h = some (.val v h')) :
    Gives P (vv (binS op t x y (ρ x) (ρ y))) w (fun u w' => Post B I h.next v h' u w') := by
  unfold aIbin at hr
  split at hr
  · rename_i k a k' b e1 e2
    rw [e1] at hx; rw [e2] at hy
    have hx := hx.int_inv; have hy := hy.int_inv
    obtain ⟨hk, hr⟩ := of_cond hr
    cases hi : ibinOp op k a b with
    | none => rw [hi] at hr; cases hr
    | some u =>
      rw [hi] at hr; cases hr
      rw [hx, hy]
      have q1 := ibin_ok (P := P) (t := t) hk hi w
      refine gives_same R ?_ (plain_self (ibinOp_plain hi))
      have hg : (eqGuard op t x y (.int k a) (.int k' b)).run P w = .ok () w := by
        unfold eqGuard; cases op <;> rfl
      simp only [binS, Sem.run_bind, hg, Result.andThen_ok, q1]
  · cases hr

theorem s_pbin {op : BinOp} {x y : Operand} (hx : RV I (σ x) (ρ x)) (hy : RV I (σ y) (ρ y)) (R : RW B I h w) (hr : aPbin op t x y P c0 σ h = some (.val v h')) :
    Gives P (vv (binS op t x y (ρ x) (ρ y))) w (fun u w' => Post B I h.next v h' u w') := by
  unfold aPbin at hr
  obtain ⟨hp, hr⟩ := of_cond hr
  obtain ⟨h1, h2, rfl⟩ := valP_some hr
  rw [plain_eq (and_left hp) hx, plain_eq (and_right hp) hy]
  exact gives_pure R h2 h1

theorem s_isnil {op : BinOp} {e : Bool} {x : Operand} {el : TypeId} (hop : op = if e then .eql else .neq) (ht : P.underlying t = some (.slice el)) (hx : RV I (σ x) (ρ x)) (R : RW B I h w) (hr : aIsnil e x P c0 σ h = some (.val v h')) :
    Gives P (vv (binS op t x (.const (.slice none 0 0)) (ρ x) (.slice none 0 0))) w (fun u w' => Post B I h.next v h' u w') := by
  unfold aIsnil at hr
  split at hr
  · rename_i a n c e1
    rw [e1] at hx
    cases hr
    have key : ∃ a' n' c', ρ x = .slice a' n' c' ∧ a'.isNone = a.isNone := by
      generalize ρ x = q at hx
      cases hx with
      | nilSlice => exact ⟨_, _, _, rfl, rfl⟩
      | slice hI => exact ⟨_, _, _, rfl, rfl⟩
    obtain ⟨a', n', c', hq, hn⟩ := key
    rw [hq]
    refine gives_same R (u := .bool (a.isNone == e)) ?_ (.bool _)
    cases e with
    | true =>
      simp only [if_true] at hop; subst hop
      have hg : (eqGuard .eql t x (.const (.slice none 0 0)) (.slice a' n' c') (.slice none 0 0)).run P w = .ok () w := rfl
      simp only [binS, Sem.run_bind, hg, Result.andThen_ok, Lib.run_eql_slice_nil w t el a' n' c' 0 0 ht, hn]
      cases a.isNone <;> rfl
    | false =>
      simp only [Bool.false_eq_true, if_false] at hop; subst hop
      have hg : (eqGuard .neq t x (.const (.slice none 0 0)) (.slice a' n' c') (.slice none 0 0)).run P w = .ok () w := rfl
      simp only [binS, Sem.run_bind, hg, Result.andThen_ok, run_neq_slice_nil_any w t el a' n' c' 0 0 ht, hn]
      cases a.isNone <;> rfl
  · cases hr

theorem s_un {op : UnOp} {x : Operand} (hx : RV I (σ x) (ρ x)) (R : RW B I h w) (hr : aUn op x P c0 σ h = some (.val v h')) :
    Gives P (do pure (.value (← Op.unary op (ρ x)))) w (fun u w' => Post B I h.next v h' u w') := by
  unfold aUn at hr
  obtain ⟨hp, hr⟩ := of_cond hr
  obtain ⟨h1, h2, rfl⟩ := valP_some hr
  rw [plain_eq hp hx]
  exact gives_pure R h2 h1

theorem s_pconv {s d : TypeId} {x : Operand} (hx : RV I (σ x) (ρ x)) (R : RW B I h w) (hr : aPconv s d x P c0 σ h = some (.val v h')) :
    Gives P (do pure (.value (← convert s d (ρ x)))) w (fun u w' => Post B I h.next v h' u w') := by
  unfold aPconv at hr
  obtain ⟨hp, hr⟩ := of_cond hr
  obtain ⟨h1, h2, rfl⟩ := valP_some hr
  rw [plain_eq hp hx]
  exact gives_pure R h2 h1

theorem isInt_some {k : IntKind} (hi : isInt P t = some k) : P.underlying t = some (.int k) := by
  unfold isInt at hi
  split at hi
  · rename_i k' e; cases hi; exact e
  · cases hi

theorem s_iconv {s d : TypeId} {ks k : IntKind} (hs : isInt P s = some ks) (hd : isInt P d = some k) {x : Operand} (hx : RV I (σ x) (ρ x)) (R : RW B I h w) (hr : aIconv k x P c0 σ h = some (.val v h')) :
    Gives P (do pure (.value (← convert s d (ρ x)))) w (fun u w' => Post B I h.next v h' u w') := by
  unfold aIconv at hr
  split at hr
  · rename_i k' n e
    rw [e] at hx
    cases hr
    rw [hx.int_inv, wrapF_eq]
    refine gives_same R ?_ (.int _ _)
    simp [convert, Go.run_underlying (isInt_some hs), Go.run_underlying (isInt_some hd), Conv.intToInt]
  · cases hr

theorem s_ld {ti : TI} (T : Told P t ti) (hagg : ti.agg = false) {x : Operand} (hx : RV I (σ x) (ρ x)) (R : RW B I h w) (hr : aLd x P c0 σ h = some (.val v h')) :
    Gives P (do pure (.value (← Instr.loadAt t (ρ x)))) w (fun u w' => Post B I h.next v h' u w') := by
  unfold aLd at hr
  split at hr
  · rename_i i off e
    rw [e] at hx
    obtain ⟨b, n, hI, hq⟩ := hx.ptr_inv
    cases hi : h.get i with
    | none => rw [hi] at hr; cases hr
    | some r =>
      rw [hi] at hr
      simp only at hr
      cases hc : r.cells[off]? with
      | none => rw [hc] at hr; cases hr
      | some u =>
        rw [hc] at hr; cases hr
        obtain ⟨y, h1, h2⟩ := load_one (P := P) T hagg R hi hI hc
        rw [hq]
        exact gives_same R (by simpa [Instr.loadAt, Instr.sureAddr] using h1) h2
  · cases hr

theorem s_lds {ti : TI} (T : Told P t ti) (hagg : ti.agg = true) {x : Operand} (hx : RV I (σ x) (ρ x)) (R : RW B I h w) (hr : aLds ti.size x P c0 σ h = some (.val v h')) :
    Gives P (do pure (.value (← Instr.loadAt t (ρ x)))) w (fun u w' => Post B I h.next v h' u w') := by
  unfold aLds at hr
  split at hr
  · rename_i i off e
    rw [e] at hx
    obtain ⟨b, n, hI, hq⟩ := hx.ptr_inv
    cases hc : cellsAt h i off ti.size with
    | none => rw [hc] at hr; cases hr
    | some l =>
      rw [hc] at hr; cases hr
      obtain ⟨y, h1, h2⟩ := load_many (P := P) T hagg R hc hI
      rw [hq]
      exact gives_same R (by simpa [Instr.loadAt, Instr.sureAddr] using h1) h2
  · cases hr

theorem s_st {ti : TI} (T : Told P t ti) {a x : Operand} (haa : RV I (σ a) (ρ a)) (hx : RV I (σ x) (ρ x)) (R : RW B I h w) (hr : aSt ti.size a x P c0 σ h = some (.val v h')) :
    Gives P (do Instr.storeAt t (ρ a) (ρ x); pure .skip) w (fun u w' => Post B I h.next v h' u w') := by
  unfold aSt at hr
  split at hr
  · rename_i i off e
    rw [e] at haa
    obtain ⟨b, n, hI, hq⟩ := haa.ptr_inv
    cases hi : h.get i with
    | none => rw [hi] at hr; cases hr
    | some r =>
      rw [hi] at hr
      simp only at hr
      obtain ⟨hb, hr⟩ := of_cond hr
      cases hp : h.put i (over r.cells off (σ x).cells.toList) r.elem with
      | none => rw [hp] at hr; cases hr
      | some h1 =>
        rw [hp] at hr; cases hr
        obtain ⟨w', h1, h2⟩ := store_ok (P := P) T R hi hI hx (Nat.eq_of_beq_eq_true (and_left (and_left hb))) (and_right (and_left hb)) (Nat.le_of_ble_eq_true (and_right hb)) hp
        rw [hq]
        refine .inr ⟨w', ?_, .same h2 (.undef I)⟩
        simp [Instr.storeAt, Instr.sureAddr, h1]
  · cases hr

theorem fieldOf_some {fields : Array Field} {i off : Nat} {fi : TI} (hf : fieldOf P fields i = some (off, fi)) : ∃ f, fields[i]? = some f ∧ f.offset = off ∧ Told P f.type fi := by
  unfold fieldOf at hf
  cases h1 : fields[i]? with
  | none => rw [h1] at hf; cases hf
  | some f =>
    rw [h1] at hf
    simp only at hf
    cases h2 : infoOf P f.type with
    | none => rw [h2] at hf; cases hf
    | some fi' =>
      rw [h2] at hf
      simp only [Option.some.injEq, Prod.mk.injEq] at hf
      obtain ⟨rfl, rfl⟩ := hf
      exact ⟨f, rfl, rfl, told h2⟩

theorem s_fa {fields : Array Field} {i fo : Nat} {fi : TI} (ht : P.underlying t = some (.struct fields)) (hf : fieldOf P fields i = some (fo, fi)) {x : Operand} (hx : RV I (σ x) (ρ x)) (R : RW B I h w) (hr : aFa fo x P c0 σ h = some (.val v h')) :
    Gives P (do pure (.value (← Instr.fieldAt t (ρ x) i))) w (fun u w' => Post B I h.next v h' u w') := by
  unfold aFa at hr
  obtain ⟨f, f1, f2, f3⟩ := fieldOf_some hf
  split at hr
  · rename_i j off e
    rw [e] at hx
    obtain ⟨b, n, hI, hq⟩ := hx.ptr_inv
    cases hr
    rw [hq]
    refine gives_same R ?_ (.ptr hI)
    have hpos := f3.pos
    have hne : (fi.size = 0) = False := eq_false (by omega)
    simp [Instr.fieldAt, Go.run_underlying ht, f1, Instr.sureAddr, fieldPlace, f3.run_sizeOf, hne, addr_add, f2]
  · cases hr

theorem s_fld {fields : Array Field} {i fo : Nat} {fi : TI} (ht : P.underlying t = some (.struct fields)) (hf : fieldOf P fields i = some (fo, fi)) (hagg : fi.agg = false) {x : Operand} (hx : RV I (σ x) (ρ x)) (R : RW B I h w) (hr : aFld fo x P c0 σ h = some (.val v h')) :
    Gives P (do pure (.value (← Instr.field t (ρ x) i))) w (fun u w' => Post B I h.next v h' u w') := by
  unfold aFld at hr
  obtain ⟨f, f1, f2, f3⟩ := fieldOf_some hf
  split at hr
  · rename_i cs e
    rw [e] at hx
    cases hc : cs.toList[fo]? with
    | none => rw [hc] at hr; cases hr
    | some u =>
      rw [hc] at hr; cases hr
      generalize ρ x = q at hx
      cases hx with
      | agg hl =>
        obtain ⟨y, h1, h2⟩ := hl.get hc
        refine gives_same R ?_ h2
        rw [Array.getElem?_toList] at h1
        simp [Instr.field, Go.run_underlying ht, f1, asAgg, part, f3.run_isAgg, hagg, f2, h1]
  · cases hr

theorem s_flds {fields : Array Field} {i fo : Nat} {fi : TI} (ht : P.underlying t = some (.struct fields)) (hf : fieldOf P fields i = some (fo, fi)) (hagg : fi.agg = true) {x : Operand} (hx : RV I (σ x) (ρ x)) (R : RW B I h w) (hr : aFlds fo fi.size x P c0 σ h = some (.val v h')) :
    Gives P (do pure (.value (← Instr.field t (ρ x) i))) w (fun u w' => Post B I h.next v h' u w') := by
  unfold aFlds at hr
  obtain ⟨f, f1, f2, f3⟩ := fieldOf_some hf
  split at hr
  · rename_i cs e
    rw [e] at hx
    cases hr
    generalize ρ x = q at hx
    cases hx with
    | @agg _ ds hl =>
      refine gives_same R (v := .agg ((cs.toList.drop fo).take fi.size).toArray) (u := .agg (ds.extract fo (fo + fi.size))) ?_ (.agg ?_)
      · simp [Instr.field, Go.run_underlying ht, f1, asAgg, part, f3.run_isAgg, hagg, f2, f3.run_sizeOf]
      · have := (hl.drop fo).take fi.size
        simp only [Array.toList_extract, List.extract_eq_take_drop, Nat.add_sub_cancel_left]
        exact this
  · cases hr

theorem s_ia {e : TypeId} {ie : TI} (ht : P.underlying t = some (.slice e)) (E : Told P e ie) {x ix : Operand} (hx : RV I (σ x) (ρ x)) (hi : RV I (σ ix) (ρ ix)) (R : RW B I h w) (hr : aIa ie.size x ix P c0 σ h = some (.val v h')) :
    Gives P (do pure (.value (← Instr.indexAt t (ρ x) (ρ ix)))) w (fun u w' => Post B I h.next v h' u w') := by
  unfold aIa at hr
  split at hr
  · rename_i i off len s e1
    rw [e1] at hx
    split at hr
    · rename_i k n e2
      rw [e2] at hi
      obtain ⟨hb, hr⟩ := of_cond hr
      cases hr
      rw [hi.int_inv]
      have hn : n < len := by have := and_left hb; simpa [Nat.blt_eq] using this
      have hs : s = ie.size := Nat.eq_of_beq_eq_true (and_right hb)
      generalize ρ x = q at hx
      cases hx with
      | slice hI hl hc hsp =>
        obtain ⟨h1, _⟩ := hc (by omega)
        subst h1
        refine gives_same R ?_ (.ptr hI)
        simp [Instr.indexAt, asIntOf, Go.run_underlying ht, hn, E.run_sizeOf, addr_add, hs]
    · cases hr
  · cases hr

theorem s_iarr {len : Nat} {e : TypeId} {ie : TI} (ht : P.underlying t = some (.array len e)) (E : Told P e ie) {x ix : Operand} (hx : RV I (σ x) (ρ x)) (hi : RV I (σ ix) (ρ ix)) (R : RW B I h w) (hr : aIarr len ie.size x ix P c0 σ h = some (.val v h')) :
    Gives P (do pure (.value (← Instr.indexAt t (ρ x) (ρ ix)))) w (fun u w' => Post B I h.next v h' u w') := by
  unfold aIarr at hr
  split at hr
  · rename_i i off e1
    rw [e1] at hx
    obtain ⟨b, m, hI, hq⟩ := hx.ptr_inv
    split at hr
    · rename_i k n e2
      rw [e2] at hi
      obtain ⟨hb, hr⟩ := of_cond hr
      cases hr
      rw [hi.int_inv, hq]
      have hn : n < len := by simpa [Nat.blt_eq] using hb
      refine gives_same R ?_ (.ptr hI)
      simp [Instr.indexAt, asIntOf, Go.run_underlying ht, hn, E.run_sizeOf, addr_add, Instr.sureAddr]
    · cases hr
  · cases hr

theorem s_ipl {x ix : Operand} (hx : RV I (σ x) (ρ x)) (hy : RV I (σ ix) (ρ ix)) (R : RW B I h w) (hr : aIpl t x ix P c0 σ h = some (.val v h')) :
    Gives P (do pure (.value (← Instr.index t (ρ x) (ρ ix)))) w (fun u w' => Post B I h.next v h' u w') := by
  unfold aIpl at hr
  obtain ⟨hp, hr⟩ := of_cond hr
  obtain ⟨h1, h2, rfl⟩ := valP_some hr
  rw [plain_eq (and_left hp) hx, plain_eq (and_right hp) hy]
  exact gives_pure R h2 h1

theorem s_ext {n : Nat} {x : Operand} (hx : RV I (σ x) (ρ x)) (R : RW B I h w) (hr : aExt n x P c0 σ h = some (.val v h')) :
    Gives P (do pure (.value (← Instr.extract (ρ x) n))) w (fun u w' => Post B I h.next v h' u w') := by
  unfold aExt at hr
  split at hr
  · rename_i cs e
    rw [e] at hx
    cases hc : cs.toList[n]? with
    | none => rw [hc] at hr; cases hr
    | some u =>
      rw [hc] at hr; cases hr
      generalize ρ x = q at hx
      cases hx with
      | tuple hl =>
        obtain ⟨y, h1, h2⟩ := hl.get hc
        refine gives_same R ?_ h2
        rw [Array.getElem?_toList] at h1
        simp [Instr.extract, h1]
  · cases hr

end Go.AM

namespace Go.AM

variable {P : Program} {B : Base} {I : Inj} {h h' : Mem} {w : World} {σ : Operand → Value} {ρ : Operand → Value} {v : Value} {c0 : Nat}

theorem bi_ok {b : Builtin} {ts : Array TypeId} {t : TypeId} {consts : Array Bool} {args : List Operand} (hb : builtin b ts t consts (args.map ρ).toArray = builtin b ts t #[] (args.map ρ).toArray)
    (hx : ∀ x ∈ args, RV I (σ x) (ρ x)) (R : RW B I h w) (hr : aBi b ts t args P c0 σ h = some (.val v h')) :
    Gives P (builtin b ts t consts (args.map ρ).toArray) w (fun u w' => Post B I h.next v h' u w') := by
  unfold aBi at hr
  obtain ⟨hp, hr⟩ := of_cond hr
  have he : args.map ρ = (args.map σ) := RL.plain_eq hp (map_RL hx)
  rw [hb, he]
  split at hr
  · rename_i u e
    obtain ⟨h1, h2, rfl⟩ := valP_some hr
    cases h1
    exact .inl ⟨_, w, pureRun_run e w, .same R (plain_self h2)⟩
  · cases hr

theorem op_sound {o : Oper} {a : A} (hcon : ∀ v, σ (.const v) = v) (C : compOp P o = some a) (hρ : ∀ x ∈ o.op.operands.toList, RV I (σ x) (ρ x)) (R : RW B I h w)
    (hr : aop a P c0 σ h = some (.val v h')) (htop : Free B h h') : Gives P (execOp ρ o) w (fun u w' => Post B I h.next v h' u w') := by
  unfold compOp at C
  cases ho : o.op <;> rw [ho] at C hρ <;> simp only [Op.operands] at C hρ
  case move x =>
    cases C; cases hr
    unfold execOp; rw [ho]
    exact .inl ⟨_, w, rfl, .same R (hρ x (by simp))⟩
  case assign x =>
    cases C; cases hr
    unfold execOp; rw [ho]
    exact .inl ⟨_, w, rfl, .same R (hρ x (by simp))⟩
  case pick c a b =>
    cases C
    unfold execOp; rw [ho]
    exact s_pick (c0 := c0) (hρ c (by simp)) (hρ a (by simp)) (hρ b (by simp)) R hr
  case alloc t =>
    cases hi : infoOf P t with
    | none => rw [hi] at C; cases C
    | some ti =>
      rw [hi] at C; cases C
      obtain ⟨u, w', h1, h2⟩ := new_ok (told hi) R hr htop
      unfold execOp; rw [ho]
      exact gives_value h1 h2
  case box t x =>
    cases C
    obtain ⟨hc, hr⟩ := of_cond hr
    obtain ⟨u, w', h1, h2⟩ := box_ok (P := P) R (hρ x (by simp)) hc hr htop
    unfold execOp; rw [ho]
    exact gives_value h1 h2
  case build t parts =>
    have hv : ∀ p ∈ parts.toList, RV I (σ p.2) (ρ p.2) := fun p hp => hρ p.2 (by simp; exact ⟨p.1, by simpa using hp⟩)
    unfold execOp; rw [ho]
    split at C
    · rename_i fields sz by_ zero ag hi
      cases hpl : placesOf P fields.toList with
      | none => rw [hpl] at C; cases C
      | some pl =>
        rw [hpl] at C; simp only at C
        cases hps : partsOf (fun i => pl[i]?) parts.toList with
        | none => rw [hps] at C; cases C
        | some ps =>
          rw [hps] at C; cases C
          simp only [aop, aBuild] at hr
          cases hf : fillP σ zero ps with
          | none => rw [hf] at hr; cases hr
          | some cs =>
            rw [hf] at hr; cases hr
            obtain ⟨u, h1, h2⟩ := build_struct (told hi) rfl hpl hps hv hf w
            exact gives_same R h1 h2
    · rename_i n e sz by_ zero ag hi
      cases he : infoOf P e with
      | none => rw [he] at C; cases C
      | some ie =>
        rw [he] at C; simp only at C
        cases hps : partsOf (fun i => some (i * ie.size, ie.size)) parts.toList with
        | none => rw [hps] at C; cases C
        | some ps =>
          rw [hps] at C; cases C
          simp only [aop, aBuild] at hr
          cases hf : fillP σ zero ps with
          | none => rw [hf] at hr; cases hr
          | some cs =>
            rw [hf] at hr; cases hr
            obtain ⟨u, h1, h2⟩ := build_array (told hi) rfl (told he) hps hv hf w
            exact gives_same R h1 h2
    · cases C
  case buildSlice t len parts =>
    have hv : ∀ p ∈ parts.toList, RV I (σ p.2) (ρ p.2) := fun p hp => hρ p.2 (by simp; exact ⟨p.1, by simpa using hp⟩)
    unfold execOp; rw [ho]
    cases hs : sliceElem P t with
    | none => rw [hs] at C; cases C
    | some q =>
      obtain ⟨e, ie⟩ := q
      rw [hs] at C; simp only at C
      obtain ⟨hlen, C⟩ := of_cond C
      obtain ⟨ht, E⟩ := sliceElem_some hs
      cases hps : partsOf (fun i => some (i * ie.size, ie.size)) parts.toList with
      | none => rw [hps] at C; cases C
      | some ps =>
        rw [hps] at C; cases C
        simp only [aop, aRow] at hr
        cases hf : fillP σ (zeros ie.zero len) ps with
        | none => rw [hf] at hr; cases hr
        | some cs =>
          rw [hf] at hr; simp only at hr
          obtain ⟨hc, hr⟩ := of_cond hr
          have hcl : cs.length = len * ie.size := by rw [fillP_length hf, zeros_length, E.len]
          obtain ⟨u, w', h1, h2⟩ := row_ok ht E R (Nat.le_of_ble_eq_true hlen) hps hv hf hc hr htop hcl
          exact gives_value h1 h2
  case load t x =>
    unfold execOp; rw [ho]
    cases hi : infoOf P t with
    | none => rw [hi] at C; cases C
    | some ti =>
      rw [hi] at C; simp only at C
      cases hg : ti.agg with
      | true => rw [hg] at C; cases C; exact s_lds (c0 := c0) (told hi) hg (hρ x (by simp)) R hr
      | false => rw [hg] at C; cases C; exact s_ld (c0 := c0) (told hi) hg (hρ x (by simp)) R hr
  case store t a x =>
    unfold execOp; rw [ho]
    cases hi : infoOf P t with
    | none => rw [hi] at C; cases C
    | some ti =>
      rw [hi] at C; cases C
      exact s_st (c0 := c0) (told hi) (hρ a (by simp)) (hρ x (by simp)) R hr
  case nilCheck x =>
    cases C
    exact s_nilc (c0 := c0) ho (hρ x (by simp)) R hr
  case binOp op t x y yt =>
    unfold execOp; rw [ho]
    cases hi : isInt P t with
    | some k => rw [hi] at C; cases C; exact s_ibin (c0 := c0) (hρ x (by simp)) (hρ y (by simp)) R hr
    | none =>
      rw [hi] at C; simp only at C
      split at C
      · rename_i e hs
        obtain ⟨ht, _⟩ := sliceElem_some hs
        have hnil : ρ (.const (.slice none 0 0)) = .slice none 0 0 := plain_eq (I := I) rfl (by rw [← hcon (.slice none 0 0)]; simpa only [hcon] using hρ (.const (.slice none 0 0)) (by simp))
        split at C
        · cases C
          show Gives P (vv (binS .eql t x (.const (.slice none 0 0)) (ρ x) (ρ (.const (.slice none 0 0))))) w _
          rw [hnil]
          exact s_isnil (c0 := c0) (e := true) rfl ht (hρ x (by simp)) R hr
        · cases C
          show Gives P (vv (binS .neq t x (.const (.slice none 0 0)) (ρ x) (ρ (.const (.slice none 0 0))))) w _
          rw [hnil]
          exact s_isnil (c0 := c0) (e := false) rfl ht (hρ x (by simp)) R hr
        · cases C
      · cases C; exact s_pbin (c0 := c0) (hρ x (by simp)) (hρ _ (by simp)) R hr
  case unOp op t x =>
    cases C
    unfold execOp; rw [ho]
    exact s_un (c0 := c0) (hρ x (by simp)) R hr
  case convert s d x =>
    unfold execOp; rw [ho]
    split at C
    · rename_i ks k e1 e2
      cases C
      exact s_iconv (c0 := c0) e1 e2 (hρ x (by simp)) R hr
    · cases C; exact s_pconv (c0 := c0) (hρ x (by simp)) R hr
  case makeFunc fn first captured =>
    cases fn <;> simp only at C
    case func g =>
      cases C; cases hr
      unfold execOp; rw [ho]
      refine gives_same R (u := .func (.func g) (first.map ρ) (captured.map ρ)) rfl (.func ?_ ?_)
      · rw [Array.toList_map]; exact map_RL fun x hx => hρ x (by simp; exact .inl (by simpa using hx))
      · rw [Array.toList_map]; exact map_RL fun x hx => hρ x (by simp; exact .inr (by simpa using hx))
    all_goals cases C
  case makeSlice t len cap =>
    unfold execOp; rw [ho]
    cases hs : sliceElem P t with
    | none => rw [hs] at C; cases C
    | some q =>
      obtain ⟨e, ie⟩ := q
      rw [hs] at C; cases C
      obtain ⟨ht, E⟩ := sliceElem_some hs
      simp only [aop, aMks] at hr
      cases hc : bnd (σ cap) (2 ^ 48) with
      | none => rw [hc] at hr; cases hr
      | some c =>
        rw [hc] at hr; simp only at hr
        cases hl : bnd (σ len) c with
        | none => rw [hl] at hr; cases hr
        | some l =>
          rw [hl] at hr; simp only at hr
          obtain ⟨hby, hr⟩ := of_cond hr
          obtain ⟨u, w', h1, h2⟩ := mks_ok ht E R (hρ len (by simp)) (hρ cap (by simp)) hc hl (Nat.le_of_ble_eq_true hby) hr htop
          exact gives_value h1 h2
  case slice t x lo hi mx =>
    unfold execOp; rw [ho]
    cases hs : sliceElem P t with
    | none => rw [hs] at C; cases C
    | some q =>
      obtain ⟨e, ie⟩ := q
      rw [hs] at C; simp only at C
      obtain ⟨hm, C⟩ := of_cond C
      cases C
      obtain ⟨ht, E⟩ := sliceElem_some hs
      simp only [aop, aSlc] at hr
      cases hv : sliceOp ie.size (σ x) (lo.map σ) (hi.map σ) (mx.map σ) with
      | none => rw [hv] at hr; cases hr
      | some u =>
        rw [hv] at hr; cases hr
        have mk : ∀ q : Option Operand, (∀ y, q = some y → RV I (σ y) (ρ y)) → RO' I (q.map σ) (q.map ρ) := by
          intro q hq
          cases q with
          | none => exact .none
          | some y => exact .some (hq y rfl)
        obtain ⟨y, h1, h2⟩ := slc_ok (P := P) ht E (hρ x (by simp)) (mk lo fun y e => hρ y (by simp [e])) (mk hi fun y e => hρ y (by simp [e])) (mk mx fun y e => hρ y (by simp [e]))
          (by cases mx <;> cases hi <;> simp at hm ⊢) hv w
        exact gives_same R h1 h2
  case fieldAddr t x f =>
    unfold execOp; rw [ho]
    split at C
    · rename_i fields ht
      cases hf : fieldOf P fields f with
      | none => rw [hf] at C; cases C
      | some q =>
        obtain ⟨off, fi⟩ := q
        rw [hf] at C; cases C
        exact s_fa (c0 := c0) ht hf (hρ x (by simp)) R hr
    · cases C
  case field t x f =>
    unfold execOp; rw [ho]
    split at C
    · rename_i fields ht
      cases hf : fieldOf P fields f with
      | none => rw [hf] at C; cases C
      | some q =>
        obtain ⟨off, fi⟩ := q
        rw [hf] at C; simp only at C
        cases hg : fi.agg with
        | true => rw [hg] at C; cases C; exact s_flds (c0 := c0) ht hf hg (hρ x (by simp)) R hr
        | false => rw [hg] at C; cases C; exact s_fld (c0 := c0) ht hf hg (hρ x (by simp)) R hr
    · cases C
  case indexAddr t x ix =>
    unfold execOp; rw [ho]
    split at C
    · rename_i e ht
      cases he : infoOf P e with
      | none => rw [he] at C; cases C
      | some ie => rw [he] at C; cases C; exact s_ia (c0 := c0) ht (told he) (hρ x (by simp)) (hρ ix (by simp)) R hr
    · rename_i len e ht
      cases he : infoOf P e with
      | none => rw [he] at C; cases C
      | some ie => rw [he] at C; cases C; exact s_iarr (c0 := c0) ht (told he) (hρ x (by simp)) (hρ ix (by simp)) R hr
    · cases C
  case index t x ix =>
    cases C
    unfold execOp; rw [ho]
    exact s_ipl (c0 := c0) (hρ x (by simp)) (hρ ix (by simp)) R hr
  case extract x n =>
    cases C
    unfold execOp; rw [ho]
    exact s_ext (c0 := c0) (hρ x (by simp)) R hr
  case call c =>
    obtain ⟨callee, args, argTypes⟩ := c
    cases callee with
    | value f =>
      cases C
      simp only [aop, aCall] at hr
      split at hr <;> cases hr
    | invoke => cases C
    | builtin b =>
      have hex : execOp ρ o = (do
          let d ← resolve ρ { callee := .builtin b, args, argTypes } o.type
          invoke d.target d.args) := by unfold execOp; rw [ho]
      rw [hex]
      have hres : (do
          let d ← resolve ρ { callee := .builtin b, args, argTypes } o.type
          invoke d.target d.args) = builtin b argTypes o.type (args.map fun | .const _ => true | _ => false) (args.toList.map ρ).toArray := by
        have : (args.toList.map ρ).toArray = args.map ρ := by rw [← Array.toList_map]
        rw [this]
        rfl
      rw [hres]
      simp only [Call.operands] at hρ C
      have hA : ∀ x ∈ args.toList, RV I (σ x) (ρ x) := fun x hx => hρ x (by simpa using hx)
      split at C
      · -- len
        rename_i x ea
        rw [ea] at hA ⊢
        cases ht0 : argTypes[0]? with
        | none => rw [ht0] at C; cases C
        | some t =>
          rw [ht0] at C; simp only at C
          cases hs : sliceElem P t with
          | none =>
            rw [hs] at C; cases C
            exact bi_ok (c0 := c0) rfl hA R hr
          | some q =>
            rw [hs] at C; cases C
            obtain ⟨ht, _⟩ := sliceElem_some hs
            have hx := hA x (by simp)
            simp only [aop, aLen] at hr
            split at hr
            · rename_i a n c e1
              rw [e1] at hx
              cases hr
              have key : ∃ a' c', ρ x = .slice a' n c' := by
                generalize ρ x = q at hx
                cases hx with
                | nilSlice => exact ⟨_, _, rfl⟩
                | slice hI => exact ⟨_, _, rfl⟩
              obtain ⟨a', c', hq⟩ := key
              show Gives P (vv (Builtin.len_ argTypes o.type ([x].map ρ).toArray)) w _
              refine gives_same R (u := .int .i64 (Int.ofNat n)) ?_ (.int _ _)
              simp [Builtin.len_, ht0, hq, Go.run_underlying ht, goInt]
            · cases hr
      · -- append
        rename_i s x ea
        rw [ea] at hA ⊢
        cases ht0 : argTypes[0]? with
        | none => rw [ht0] at C; cases C
        | some t =>
          cases ht1 : argTypes[1]? with
          | none => rw [ht0, ht1] at C; cases C
          | some xt =>
            rw [ht0, ht1] at C; simp only at C
            cases hs : sliceElem P t with
            | none => rw [hs] at C; cases C
            | some q =>
              obtain ⟨e, ie⟩ := q
              cases hs1 : sliceElem P xt with
              | none => rw [hs, hs1] at C; cases C
              | some q1 =>
                obtain ⟨e1, ie1⟩ := q1
                rw [hs, hs1] at C; simp only at C
                obtain ⟨hb0, C⟩ := of_cond C
                cases C
                obtain ⟨ht, E⟩ := sliceElem_some hs
                obtain ⟨hxt, _⟩ := sliceElem_some hs1
                obtain ⟨y, w', h1, h2⟩ := app_ok (P := P) ht hxt E (by simpa [Nat.blt_eq] using hb0) R (hA s (by simp)) (hA x (by simp)) hr htop o.type
                have hr2 : (Builtin.append_ argTypes o.type ([s, x].map ρ).toArray) = Builtin.append_ #[t, xt] o.type #[ρ s, ρ x] := by
                  unfold Builtin.append_
                  simp [ht0, ht1]
                show Gives P (vv (Builtin.append_ argTypes o.type ([s, x].map ρ).toArray)) w _
                rw [hr2]
                exact gives_value h1 h2
      all_goals first
        | (cases C; exact bi_ok (c0 := c0) rfl hA R hr)
        | cases C
  all_goals cases C

/-- A call: what the model calls, and on what. -/
theorem op_call {o : Oper} {a : A} (C : compOp P o = some a) (hρ : ∀ x ∈ o.op.operands.toList, RV I (σ x) (ρ x)) {f : FuncId} {args : List Value}
    (hr : aop a P c0 σ h = some (.call f args)) : ∃ args', RL I args args'.toList ∧ execOp ρ o = callFunc f args' := by
  have key : ∃ x xs, a = .call x xs := by
    cases a
    case call x xs => exact ⟨x, xs, rfl⟩
    all_goals
      exfalso
      simp only [aop, aMv, aPick, aNew, aBox, aBuild, aRow, aLd, aLds, aSt, aNilc, aIbin, aPbin, aIsnil, aUn, aIconv, aPconv, aMkf, aMks, aSlc, aFa, aFld, aFlds, aIa, aIarr, aIpl, aExt, aLen, aApp, appendOp, aBi, aChk, mkRow, valP] at hr
      repeat' (split at hr)
      all_goals first
        | cases hr
        | (simp only [cond] at hr; repeat' (split at hr)
           all_goals cases hr)
  obtain ⟨x, xs, rfl⟩ := key
  have ho : ∃ args argTypes, o.op = .call { callee := .value x, args, argTypes } ∧ xs = args.toList := by
    unfold compOp at C
    cases ho : o.op <;> rw [ho] at C <;> simp only at C
    case call c =>
      obtain ⟨callee, as, ts⟩ := c
      cases callee with
      | value f => cases C; exact ⟨as, ts, rfl, rfl⟩
      | invoke => cases C
      | builtin b =>
        exfalso
        try simp only [cond_eq_ite] at C
        repeat' (split at C)
        all_goals (cases C; done)
    all_goals
      exfalso
      try simp only [cond_eq_ite] at C
      repeat' (split at C)
      all_goals first
        | (cases C; done)
        | (rename_i e _; cases e; done)
        | (rename_i e; cases e; done)
  obtain ⟨as, ts, ho, rfl⟩ := ho
  rw [ho] at hρ
  simp only [Op.operands, Call.operands] at hρ
  simp only [aop, aCall] at hr
  split at hr
  · rename_i g a b e
    cases hr
    have hx := hρ x (by simp)
    rw [e] at hx
    generalize hq : ρ x = q at hx
    cases hx with
    | @func _ _ _ a' b' ha hb =>
      refine ⟨a' ++ as.map ρ ++ b', ?_, ?_⟩
      · simp only [Array.toList_append, Array.toList_map]
        exact (ha.append (map_RL fun y hy => hρ y (by simp; exact .inr (by simpa using hy)))).append hb
      · unfold execOp
        rw [ho]
        simp only [resolve, hq, Deferred.ofValue]
        rfl
  · cases hr

end Go.AM
