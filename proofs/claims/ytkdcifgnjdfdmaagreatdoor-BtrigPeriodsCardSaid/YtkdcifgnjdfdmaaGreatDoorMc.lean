/- A fast form of the plain machine: its definitions. No condition. -/
import Derived.Test.YtkdcifgnjdfdmaaGreatDoorMa
namespace Go.AM

structure S7 (α : Type) where
  a : α
  b : α
  c : α
  d : α
  e : α
  f : α
  g : α

abbrev Fm := S7 (S7 (S7 Value))
abbrev X := Fm → Value
abbrev W := Fm → Value → Fm

def S7.at {α : Type} (q : S7 α) : Nat → α
  | 0 => q.a
  | 1 => q.b
  | 2 => q.c
  | 3 => q.d
  | 4 => q.e
  | 5 => q.f
  | _ => q.g

def S7.put {α : Type} (q : S7 α) (u : α → α) : Nat → S7 α
  | 0 => ⟨u q.a, q.b, q.c, q.d, q.e, q.f, q.g⟩
  | 1 => ⟨q.a, u q.b, q.c, q.d, q.e, q.f, q.g⟩
  | 2 => ⟨q.a, q.b, u q.c, q.d, q.e, q.f, q.g⟩
  | 3 => ⟨q.a, q.b, q.c, u q.d, q.e, q.f, q.g⟩
  | 4 => ⟨q.a, q.b, q.c, q.d, u q.e, q.f, q.g⟩
  | 5 => ⟨q.a, q.b, q.c, q.d, q.e, u q.f, q.g⟩
  | _ => ⟨q.a, q.b, q.c, q.d, q.e, q.f, u q.g⟩

def getN (t : Nat) : X := fun q => ((q.at (t / 49)).at (t / 7 % 7)).at (t % 7)
def putN (t : Nat) : W := fun q v => q.put (fun r => r.put (fun s => s.put (fun _ => v) (t % 7)) (t / 7 % 7)) (t / 49)

def evF (q : Fm) : Operand → Value
  | .tmp t => getN t q
  | .const v => v
  | .global g => .pointer (some ⟨g, 0, none⟩)
  | .func f => .func (.func f) #[] #[]

/-- An operation of the fast machine. -/
inductive FA where
  | mv (x : X)
  | pick (c a b : X)
  | ld (x : X)
  | st (a x : X)
  | nilc (x : X)
  | ib (f : IntKind → Int → Int → Option Value) (x y : X)
  | sh (f : IntKind → Int → Int → Option Value) (x y : X)
  | cv (f : Int → Value) (x : X)
  | fa (off : Nat) (x : X)
  | ia (size : Nat) (x i : X)
  | ext (n : Nat) (x : X)
  | len (x : X)
  | call (f : FuncId) (args : List X)
  | chk0
  | slow (a : A)

inductive FO where
  | u (w : W) (op : FA)
  | g (w : W) (c : X) (want : Bool) (op : FA)

inductive FC where
  | skip
  | seq (a b : FC)
  | cond (c : X) (x y : FC)
  | block (id : Nat) (c : FC)
  | loop (c : FC)
  | exit (id : Nat)
  | ret
  | region (ops : List FO)

abbrev R := Option (Value × Mem)
abbrev Kt := Fm → Mem → R
abbrev CallF := FuncId → List Value → Mem → R

/-! ### Cases of values, told to a continuation -/

noncomputable def intC (v : Value) : (IntKind → Int → R) → R :=
  @Value.rec (fun _ => (IntKind → Int → R) → R) (fun _ => PUnit) (fun _ => PUnit)
    (fun _ _ => none) (fun k n c => c k n) (fun _ _ _ => none) (fun _ _ _ _ => none) (fun _ _ => none) (fun _ _ => none) (fun _ _ _ _ => none) (fun _ _ => none) (fun _ _ => none)
    (fun _ _ _ _ _ _ => none) (fun _ => none) (fun _ _ _ _ => none) (fun _ => none) (fun _ _ _ => none) (fun _ _ _ => none) (fun _ _ => ⟨⟩) ⟨⟩ (fun _ _ _ _ => ⟨⟩) v

noncomputable def boolC (v : Value) : (Bool → R) → R :=
  @Value.rec (fun _ => (Bool → R) → R) (fun _ => PUnit) (fun _ => PUnit)
    (fun b c => c b) (fun _ _ _ => none) (fun _ _ _ => none) (fun _ _ _ _ => none) (fun _ _ => none) (fun _ _ => none) (fun _ _ _ _ => none) (fun _ _ => none) (fun _ _ => none)
    (fun _ _ _ _ _ _ => none) (fun _ => none) (fun _ _ _ _ => none) (fun _ => none) (fun _ _ _ => none) (fun _ _ _ => none) (fun _ _ => ⟨⟩) ⟨⟩ (fun _ _ _ _ => ⟨⟩) v

/-- A bool, or no bool at all. -/
noncomputable def guardC (v : Value) : Bool → Bool :=
  @Value.rec (fun _ => Bool → Bool) (fun _ => PUnit) (fun _ => PUnit)
    (fun b want => Bool.rec (motive := fun _ => Bool → Bool) (fun b => Bool.rec (motive := fun _ => Bool) true false b) (fun b => b) want b) (fun _ _ _ => false) (fun _ _ _ => false) (fun _ _ _ _ => false) (fun _ _ => false) (fun _ _ => false) (fun _ _ _ _ => false) (fun _ _ => false) (fun _ _ => false)
    (fun _ _ _ _ _ _ => false) (fun _ => false) (fun _ _ _ _ => false) (fun _ => false) (fun _ _ _ => false) (fun _ _ _ => false) (fun _ _ => ⟨⟩) ⟨⟩ (fun _ _ _ _ => ⟨⟩) v

/-- A pointer that leads somewhere, to its row and place. -/
noncomputable def ptrC (v : Value) : (Nat → Nat → R) → R :=
  @Value.rec (fun _ => (Nat → Nat → R) → R) (fun _ => PUnit) (fun _ => PUnit)
    (fun _ _ => none) (fun _ _ _ => none) (fun _ _ _ => none) (fun _ _ _ _ => none) (fun _ _ => none)
    (fun a => Option.rec (motive := fun _ => (Nat → Nat → R) → R) (fun _ => none) (fun a => Addr.rec (motive := fun _ => (Nat → Nat → R) → R) (fun i off sp c => Option.rec (motive := fun _ => R) (c i off) (fun _ => none) sp) a) a)
    (fun _ _ _ _ => none) (fun _ _ => none) (fun _ _ => none)
    (fun _ _ _ _ _ _ => none) (fun _ => none) (fun _ _ _ _ => none) (fun _ => none) (fun _ _ _ => none) (fun _ _ _ => none) (fun _ _ => ⟨⟩) ⟨⟩ (fun _ _ _ _ => ⟨⟩) v

/-- A slice that is not nil and has room. -/
noncomputable def sliceC (v : Value) : (Nat → Nat → Nat → Nat → R) → R :=
  @Value.rec (fun _ => (Nat → Nat → Nat → Nat → R) → R) (fun _ => PUnit) (fun _ => PUnit)
    (fun _ _ => none) (fun _ _ _ => none) (fun _ _ _ => none) (fun _ _ _ _ => none) (fun _ _ => none) (fun _ _ => none)
    (fun a => Option.rec (motive := fun _ => Nat → Nat → (Nat → Nat → Nat → Nat → R) → R) (fun _ _ _ => none) (fun a => Addr.rec (motive := fun _ => Nat → Nat → (Nat → Nat → Nat → Nat → R) → R) (fun i off sp n s c => Option.rec (motive := fun _ => R) (c i off n s) (fun _ => none) sp) a) a)
    (fun _ _ => none) (fun _ _ => none)
    (fun _ _ _ _ _ _ => none) (fun _ => none) (fun _ _ _ _ => none) (fun _ => none) (fun _ _ _ => none) (fun _ _ _ => none) (fun _ _ => ⟨⟩) ⟨⟩ (fun _ _ _ _ => ⟨⟩) v

/-- A slice's length. -/
noncomputable def lenC (v : Value) : (Nat → R) → R :=
  @Value.rec (fun _ => (Nat → R) → R) (fun _ => PUnit) (fun _ => PUnit)
    (fun _ _ => none) (fun _ _ _ => none) (fun _ _ _ => none) (fun _ _ _ _ => none) (fun _ _ => none) (fun _ _ => none)
    (fun _ n _ c => c n)
    (fun _ _ => none) (fun _ _ => none)
    (fun _ _ _ _ _ _ => none) (fun _ => none) (fun _ _ _ _ => none) (fun _ => none) (fun _ _ _ => none) (fun _ _ _ => none) (fun _ _ => ⟨⟩) ⟨⟩ (fun _ _ _ _ => ⟨⟩) v

noncomputable def tupC (v : Value) : (Array Value → R) → R :=
  @Value.rec (fun _ => (Array Value → R) → R) (fun _ => PUnit) (fun _ => PUnit)
    (fun _ _ => none) (fun _ _ _ => none) (fun _ _ _ => none) (fun _ _ _ _ => none) (fun _ _ => none) (fun _ _ => none) (fun _ _ _ _ => none)
    (fun _ _ => none) (fun _ _ => none)
    (fun _ _ _ _ _ _ => none) (fun _ => none) (fun _ _ _ _ => none) (fun _ => none) (fun _ _ _ => none) (fun vs _ c => c vs) (fun _ _ => ⟨⟩) ⟨⟩ (fun _ _ _ _ => ⟨⟩) v

/-- What is not nil. -/
noncomputable def nilC (v : Value) : R → R :=
  @Value.rec (fun _ => R → R) (fun _ => PUnit) (fun _ => PUnit)
    (fun _ _ => none) (fun _ _ _ => none) (fun _ _ _ => none) (fun _ _ _ _ => none) (fun _ _ => none)
    (fun a c => Option.rec (motive := fun _ => R) none (fun _ => c) a)
    (fun _ _ _ _ => none) (fun _ _ => none) (fun _ _ => none)
    (fun f _ _ _ _ c => match f with | .func _ => c | _ => none) (fun _ => none) (fun _ _ _ _ => none) (fun _ => none) (fun _ _ _ => none) (fun _ _ _ => none) (fun _ _ => ⟨⟩) ⟨⟩ (fun _ _ _ _ => ⟨⟩) v

noncomputable def natC (n : Int) : (Nat → R) → R := Int.rec (motive := fun _ => (Nat → R) → R) (fun n c => c n) (fun _ _ => none) n
noncomputable def bifR (b : Bool) : R → R := Bool.rec (motive := fun _ => R → R) (fun _ => none) (fun c => c) b

noncomputable def nthC (l : List Value) : Nat → (Value → R) → R :=
  List.rec (motive := fun _ => Nat → (Value → R) → R) (fun _ _ => none) (fun a _ ih n => Nat.rec (motive := fun _ => (Value → R) → R) (fun c => c a) (fun m _ => ih m) n) l

noncomputable def rowC (o : Option Row) : (Row → R) → R := Option.rec (motive := fun _ => (Row → R) → R) (fun _ => none) (fun r c => c r) o
noncomputable def valC (o : Option Value) : (Value → R) → R := Option.rec (motive := fun _ => (Value → R) → R) (fun _ => none) (fun r c => c r) o
noncomputable def memC (o : Option Mem) : (Mem → R) → R := Option.rec (motive := fun _ => (Mem → R) → R) (fun _ => none) (fun r c => c r) o
noncomputable def resC (o : R) : (Value → Mem → R) → R := Option.rec (motive := fun _ => (Value → Mem → R) → R) (fun _ => none) (fun r => Prod.rec (motive := fun _ => (Value → Mem → R) → R) (fun v h c => c v h) r) o
noncomputable def arC (o : Option AR) : (Value → Mem → R) → (FuncId → List Value → R) → R :=
  Option.rec (motive := fun _ => (Value → Mem → R) → (FuncId → List Value → R) → R) (fun _ _ => none) (fun r => AR.rec (motive := fun _ => (Value → Mem → R) → (FuncId → List Value → R) → R) (fun v h c _ => c v h) (fun f a _ d => d f a) r) o

/-! ### Ints -/

/-- Two numbers that are not below nought, or else. -/
noncomputable def nat2 (a b : Int) : (Nat → Nat → Option Value) → Option Value → Option Value :=
  Int.rec (motive := fun _ => (Nat → Nat → Option Value) → Option Value → Option Value)
    (fun m c d => Int.rec (motive := fun _ => Option Value) (fun n => c m n) (fun _ => d) b) (fun _ _ d => d) a

noncomputable def lim (k : IntKind) : Nat := IntKind.rec (motive := fun _ => Nat) 128 32768 2147483648 9223372036854775808 256 65536 4294967296 18446744073709551616 k

noncomputable def small (k : IntKind) (s : Nat) (d : Option Value) : Option Value :=
  Bool.rec (motive := fun _ => Option Value) d (some (.int k (.ofNat s))) (Nat.ble (Nat.succ s) (lim k))

noncomputable def iAdd : IntKind → Int → Int → Option Value := fun k a b => nat2 a b (fun m n => small k (Nat.add m n) (ibinOp .add k a b)) (ibinOp .add k a b)
noncomputable def iMul : IntKind → Int → Int → Option Value := fun k a b => nat2 a b (fun m n => small k (Nat.mul m n) (ibinOp .mul k a b)) (ibinOp .mul k a b)
noncomputable def iSub : IntKind → Int → Int → Option Value := fun k a b => nat2 a b (fun m n => Bool.rec (motive := fun _ => Option Value) (ibinOp .sub k a b) (small k (Nat.sub m n) (ibinOp .sub k a b)) (Nat.ble n m)) (ibinOp .sub k a b)
noncomputable def iEql : IntKind → Int → Int → Option Value := fun k a b => nat2 a b (fun m n => some (.bool (Nat.beq m n))) (ibinOp .eql k a b)
noncomputable def iNeq : IntKind → Int → Int → Option Value := fun k a b => nat2 a b (fun m n => some (.bool (Bool.rec (motive := fun _ => Bool) true false (Nat.beq m n)))) (ibinOp .neq k a b)
noncomputable def iLss : IntKind → Int → Int → Option Value := fun k a b => nat2 a b (fun m n => some (.bool (Nat.ble (Nat.succ m) n))) (ibinOp .lss k a b)
noncomputable def iLeq : IntKind → Int → Int → Option Value := fun k a b => nat2 a b (fun m n => some (.bool (Nat.ble m n))) (ibinOp .leq k a b)
noncomputable def iGtr : IntKind → Int → Int → Option Value := fun k a b => nat2 a b (fun m n => some (.bool (Nat.ble (Nat.succ n) m))) (ibinOp .gtr k a b)
noncomputable def iGeq : IntKind → Int → Int → Option Value := fun k a b => nat2 a b (fun m n => some (.bool (Nat.ble n m))) (ibinOp .geq k a b)
noncomputable def nbits (k : IntKind) : Nat := IntKind.rec (motive := fun _ => Nat) 8 16 32 64 8 16 32 64 k
noncomputable def when (b : Bool) (x y : Option Value) : Option Value := Bool.rec (motive := fun _ => Option Value) y x b
noncomputable def iShr : IntKind → Int → Int → Option Value := fun k a b => nat2 a b (fun m n => when (Nat.ble (Nat.succ n) (nbits k)) (some (.int k (.ofNat (Nat.shiftRight m n)))) none) (ibinOp .shr k a b)
noncomputable def iShl : IntKind → Int → Int → Option Value := fun k a b => nat2 a b (fun m n => when (Nat.ble (Nat.succ n) (nbits k)) (small k (Nat.shiftLeft m n) (ibinOp .shl k a b)) none) (ibinOp .shl k a b)
noncomputable def iAnd : IntKind → Int → Int → Option Value := fun k a b => nat2 a b (fun m n => when (Nat.ble (Nat.succ m) (lim k)) (when (Nat.ble (Nat.succ n) (lim k)) (some (.int k (.ofNat (Nat.land m n)))) none) none) (ibinOp .and k a b)
noncomputable def iOr : IntKind → Int → Int → Option Value := fun k a b => nat2 a b (fun m n => when (Nat.ble (Nat.succ m) (lim k)) (when (Nat.ble (Nat.succ n) (lim k)) (some (.int k (.ofNat (Nat.lor m n)))) none) none) (ibinOp .or k a b)
noncomputable def iQuo : IntKind → Int → Int → Option Value := fun k a b => nat2 a b (fun m n => Nat.rec (motive := fun _ => Option Value) none (fun n' _ => small k (Nat.div m (Nat.succ n')) (ibinOp .quo k a b)) n) (ibinOp .quo k a b)
noncomputable def iRem : IntKind → Int → Int → Option Value := fun k a b => nat2 a b (fun m n => Nat.rec (motive := fun _ => Option Value) none (fun n' _ => some (.int k (.ofNat (Nat.mod m (Nat.succ n'))))) n) (ibinOp .rem k a b)
noncomputable def iElse (op : BinOp) : IntKind → Int → Int → Option Value := fun k a b => ibinOp op k a b

noncomputable def opF (op : BinOp) : IntKind → Int → Int → Option Value :=
  match op with
  | .add => iAdd | .sub => iSub | .mul => iMul | .eql => iEql | .neq => iNeq | .lss => iLss | .leq => iLeq | .gtr => iGtr | .geq => iGeq
  | .shr => iShr | .shl => iShl | .and => iAnd | .or => iOr | .quo => iQuo | .rem => iRem
  | .xor => iElse .xor | .andNot => iElse .andNot

noncomputable def cvF (k : IntKind) : Int → Value := fun n => Int.rec (motive := fun _ => Value) (fun m => Bool.rec (motive := fun _ => Value) (.int k (wrapF k n)) (.int k n) (Nat.ble (Nat.succ m) (lim k))) (fun _ => .int k (wrapF k n)) n

/-! ### Operations -/

abbrev OpT := Program → CallF → Nat → W → Kt → Kt

noncomputable def oMv (x : X) : OpT := fun _ _ _ w k q h => k (w q (x q)) h
noncomputable def oPick (c a b : X) : OpT := fun _ _ _ w k q h => boolC (c q) fun t => k (w q (Bool.rec (motive := fun _ => Value) (b q) (a q) t)) h
noncomputable def oLd (x : X) : OpT := fun _ _ _ w k q h => ptrC (x q) fun i off => rowC (h.get i) fun r => nthC r.cells off fun v => k (w q v) h
noncomputable def oSt (a x : X) : OpT := fun _ _ _ w k q h => ptrC (a q) fun i off => rowC (h.get i) fun r =>
  bifR (cellOk (x q)) (bifR (Nat.ble (Nat.succ off) r.cells.length) (memC (h.put i (over r.cells off [x q]) r.elem) fun h' => k (w q undef) h'))
noncomputable def oNilc (x : X) : OpT := fun _ _ _ w k q h => nilC (x q) (k (w q (x q)) h)
noncomputable def kno (k : IntKind) : Nat := IntKind.rec (motive := fun _ => Nat) 0 1 2 3 4 5 6 7 k
noncomputable def oIb (f : IntKind → Int → Int → Option Value) (x y : X) : OpT := fun _ _ _ w k q h => intC (x q) fun kd a => intC (y q) fun ke b => bifR (Nat.beq (kno kd) (kno ke)) (valC (f kd a b) fun v => k (w q v) h)
noncomputable def oSh (f : IntKind → Int → Int → Option Value) (x y : X) : OpT := fun _ _ _ w k q h => intC (x q) fun kd a => intC (y q) fun _ b => valC (f kd a b) fun v => k (w q v) h
noncomputable def oCv (f : Int → Value) (x : X) : OpT := fun _ _ _ w k q h => intC (x q) fun _ n => k (w q (f n)) h
noncomputable def oFa (fo : Nat) (x : X) : OpT := fun _ _ _ w k q h => ptrC (x q) fun i off => k (w q (ptr i (Nat.add off fo))) h
noncomputable def oIa (size : Nat) (x y : X) : OpT := fun _ _ _ w k q h => sliceC (x q) fun i off n s => intC (y q) fun _ a => natC a fun m =>
  bifR (Nat.ble (Nat.succ m) n) (bifR (Nat.beq s size) (k (w q (ptr i (Nat.add off (Nat.mul m s)))) h))
noncomputable def oExt (n : Nat) (x : X) : OpT := fun _ _ _ w k q h => tupC (x q) fun vs => nthC vs.toList n fun v => k (w q v) h
noncomputable def oLen (x : X) : OpT := fun _ _ _ w k q h => lenC (x q) fun n => k (w q (.int .i64 (.ofNat n))) h
noncomputable def oCall (f : FuncId) (args : List X) : OpT := fun _ cf _ w k q h => resC (cf f (args.map fun x => x q) h) fun v h' => k (w q v) h'
noncomputable def oChk0 : OpT := fun _ _ _ _ k q h => k q h
noncomputable def oSlow (a : A) : OpT := fun P cf c0 w k q h => arC (aop a P c0 (evF q) h) (fun v h' => k (w q v) h') fun f args => resC (cf f args h) fun v h' => k (w q v) h'

noncomputable def opD (a : FA) : OpT :=
  FA.rec (motive := fun _ => OpT) oMv oPick oLd oSt oNilc oIb oSh oCv oFa oIa oExt oLen oCall oChk0 oSlow a

noncomputable def fO (o : FO) : Program → CallF → Nat → Kt → Kt :=
  FO.rec (motive := fun _ => Program → CallF → Nat → Kt → Kt) (fun w op P cf c0 k => opD op P cf c0 w k)
    (fun w c want op P cf c0 k q h => Bool.rec (motive := fun _ => R) (k (w q undef) h) (opD op P cf c0 w k q h) (guardC (c q) want)) o

noncomputable def fOs (l : List FO) : Program → CallF → Nat → Kt → Kt :=
  List.rec (motive := fun _ => Program → CallF → Nat → Kt → Kt) (fun _ _ _ k => k) (fun o _ ih P cf c0 k => fO o P cf c0 (ih P cf c0 k)) l

/-- Code: what comes behind it, where it is left, where the function ends. -/
abbrev Den := Program → CallF → Nat → Kt → (Nat → Kt) → Kt → Kt

noncomputable def den (c : FC) : Den :=
  FC.rec (motive := fun _ => Den)
    (fun _ _ _ k _ _ => k)
    (fun _ _ da db P cf n k ke kr => da P cf n (db P cf n k ke kr) ke kr)
    (fun c _ _ dx dy P cf n k ke kr q h => boolC (c q) fun t => Bool.rec (motive := fun _ => Den) dy dx t P cf n k ke kr q h)
    (fun id _ dc P cf n k ke kr => dc P cf n k (fun j => Bool.rec (motive := fun _ => Kt) (ke j) k (Nat.beq j id)) kr)
    (fun _ dc P cf n _ ke kr => Nat.rec (motive := fun _ => Kt) (fun _ _ => none) (fun _ ih => dc P cf n ih ke kr) n)
    (fun id _ _ _ _ ke _ => ke id)
    (fun _ _ _ _ _ kr => kr)
    (fun ops P cf _ k _ _ q h => fOs ops P cf h.clock k q h) c

/-- A function of the fast machine: its first frame, what it hands back, its code. -/
structure FF where
  n : Nat
  init : List Value → Option Fm
  res : Fm → Mem → Option Value
  code : FC

structure FTab where
  fn : FuncId → Option FF
  stub : FuncId → List Value → Mem → R

/-- What a function hands back: a slot, or what lies behind one (0: one cell; else so many). -/
inductive FR where
  | t (x : X)
  | c (x : X) (n : Nat)

noncomputable def ptrO (v : Value) (c : Nat → Nat → Option Value) : Option Value :=
  match v with
  | .pointer (some ⟨i, off, none⟩) => c i off
  | _ => none

noncomputable def res1 (q : Fm) (h : Mem) (r : FR) : Option Value :=
  match r with
  | .t x => some (x q)
  | .c x 0 => ptrO (x q) fun i off => match h.get i with
    | some r => r.cells[off]?
    | none => none
  | .c x n => ptrO (x q) fun i off => match cellsAt h i off n with
    | some l => some (.agg l.toArray)
    | none => none

noncomputable def resL (q : Fm) (h : Mem) : List FR → Option (List Value)
  | [] => some []
  | r :: rs => match res1 q h r with
    | some v => match resL q h rs with
      | some vs => some (v :: vs)
      | none => none
    | none => none

noncomputable def resF (rs : List FR) : Fm → Mem → Option Value := fun q h => match resL q h rs with
  | some vs => some (handBack vs)
  | none => none

def z7 {α : Type} (x : α) : S7 α := ⟨x, x, x, x, x, x, x⟩
def zF : Fm := z7 (z7 (z7 undef))

noncomputable def initF (ws : List W) : List Value → Option Fm :=
  List.rec (motive := fun _ => Fm → List Value → Option Fm) (fun q l => List.rec (motive := fun _ => Option Fm) (some q) (fun _ _ _ => none) l)
    (fun w _ ih q l => List.rec (motive := fun _ => Option Fm) none (fun a l _ => ih (w q a) l) l) ws zF

noncomputable def optC {α : Type} (o : Option α) : (α → R) → R := Option.rec (motive := fun _ => (α → R) → R) (fun _ => none) (fun r c => c r) o

noncomputable def leaveF (f : FF) : Kt := fun q h => valC (f.res q h) fun v => some (v, h)

noncomputable def bodyF (P : Program) (n : Nat) (cf : CallF) (f : FF) (args : List Value) (h : Mem) : R :=
  optC (f.init args) fun q => den f.code P cf n (leaveF f) (fun _ _ _ => none) (leaveF f) q h

noncomputable def callF (P : Program) (T : FTab) (n : Nat) (d : Nat) : CallF :=
  Nat.rec (motive := fun _ => CallF) (fun _ _ _ => none) (fun _ cf f args h =>
    Option.rec (motive := fun _ => R) (optC (T.fn f) fun ff => bodyF P n cf ff args h) (fun r => some r) (T.stub f args h)) d

end Go.AM

namespace Go.AM

def s0 : X := fun q => q.a.a.a
def s1 : X := fun q => q.a.a.b
def s2 : X := fun q => q.a.a.c
def s3 : X := fun q => q.a.a.d
def s4 : X := fun q => q.a.a.e
def s5 : X := fun q => q.a.a.f
def s6 : X := fun q => q.a.a.g
def s7 : X := fun q => q.a.b.a
def s8 : X := fun q => q.a.b.b
def s9 : X := fun q => q.a.b.c
def s10 : X := fun q => q.a.b.d
def s11 : X := fun q => q.a.b.e
def s12 : X := fun q => q.a.b.f
def s13 : X := fun q => q.a.b.g
def s14 : X := fun q => q.a.c.a
def s15 : X := fun q => q.a.c.b
def s16 : X := fun q => q.a.c.c
def s17 : X := fun q => q.a.c.d
def s18 : X := fun q => q.a.c.e
def s19 : X := fun q => q.a.c.f
def s20 : X := fun q => q.a.c.g
def s21 : X := fun q => q.a.d.a
def s22 : X := fun q => q.a.d.b
def s23 : X := fun q => q.a.d.c
def s24 : X := fun q => q.a.d.d
def s25 : X := fun q => q.a.d.e
def s26 : X := fun q => q.a.d.f
def s27 : X := fun q => q.a.d.g
def s28 : X := fun q => q.a.e.a
def s29 : X := fun q => q.a.e.b
def s30 : X := fun q => q.a.e.c
def s31 : X := fun q => q.a.e.d
def s32 : X := fun q => q.a.e.e
def s33 : X := fun q => q.a.e.f
def s34 : X := fun q => q.a.e.g
def s35 : X := fun q => q.a.f.a
def s36 : X := fun q => q.a.f.b
def s37 : X := fun q => q.a.f.c
def s38 : X := fun q => q.a.f.d
def s39 : X := fun q => q.a.f.e
def s40 : X := fun q => q.a.f.f
def s41 : X := fun q => q.a.f.g
def s42 : X := fun q => q.a.g.a
def s43 : X := fun q => q.a.g.b
def s44 : X := fun q => q.a.g.c
def s45 : X := fun q => q.a.g.d
def s46 : X := fun q => q.a.g.e
def s47 : X := fun q => q.a.g.f
def s48 : X := fun q => q.a.g.g
def s49 : X := fun q => q.b.a.a
def s50 : X := fun q => q.b.a.b
def s51 : X := fun q => q.b.a.c
def s52 : X := fun q => q.b.a.d
def s53 : X := fun q => q.b.a.e
def s54 : X := fun q => q.b.a.f
def s55 : X := fun q => q.b.a.g
def s56 : X := fun q => q.b.b.a
def s57 : X := fun q => q.b.b.b
def s58 : X := fun q => q.b.b.c
def s59 : X := fun q => q.b.b.d
def s60 : X := fun q => q.b.b.e
def s61 : X := fun q => q.b.b.f
def s62 : X := fun q => q.b.b.g
def s63 : X := fun q => q.b.c.a
def s64 : X := fun q => q.b.c.b
def s65 : X := fun q => q.b.c.c
def s66 : X := fun q => q.b.c.d
def s67 : X := fun q => q.b.c.e
def s68 : X := fun q => q.b.c.f
def s69 : X := fun q => q.b.c.g
def s70 : X := fun q => q.b.d.a
def s71 : X := fun q => q.b.d.b
def s72 : X := fun q => q.b.d.c
def s73 : X := fun q => q.b.d.d
def s74 : X := fun q => q.b.d.e
def s75 : X := fun q => q.b.d.f
def s76 : X := fun q => q.b.d.g
def s77 : X := fun q => q.b.e.a
def s78 : X := fun q => q.b.e.b
def s79 : X := fun q => q.b.e.c
def s80 : X := fun q => q.b.e.d
def s81 : X := fun q => q.b.e.e
def s82 : X := fun q => q.b.e.f
def s83 : X := fun q => q.b.e.g
def s84 : X := fun q => q.b.f.a
def s85 : X := fun q => q.b.f.b
def s86 : X := fun q => q.b.f.c
def s87 : X := fun q => q.b.f.d
def s88 : X := fun q => q.b.f.e
def s89 : X := fun q => q.b.f.f
def s90 : X := fun q => q.b.f.g
def s91 : X := fun q => q.b.g.a
def s92 : X := fun q => q.b.g.b
def s93 : X := fun q => q.b.g.c
def s94 : X := fun q => q.b.g.d
def s95 : X := fun q => q.b.g.e
def s96 : X := fun q => q.b.g.f
def s97 : X := fun q => q.b.g.g
def s98 : X := fun q => q.c.a.a
def s99 : X := fun q => q.c.a.b
def s100 : X := fun q => q.c.a.c
def s101 : X := fun q => q.c.a.d
def s102 : X := fun q => q.c.a.e
def s103 : X := fun q => q.c.a.f
def s104 : X := fun q => q.c.a.g
def s105 : X := fun q => q.c.b.a
def s106 : X := fun q => q.c.b.b
def s107 : X := fun q => q.c.b.c
def s108 : X := fun q => q.c.b.d
def s109 : X := fun q => q.c.b.e
def s110 : X := fun q => q.c.b.f
def s111 : X := fun q => q.c.b.g
def s112 : X := fun q => q.c.c.a
def s113 : X := fun q => q.c.c.b
def s114 : X := fun q => q.c.c.c
def s115 : X := fun q => q.c.c.d
def s116 : X := fun q => q.c.c.e
def s117 : X := fun q => q.c.c.f
def s118 : X := fun q => q.c.c.g
def s119 : X := fun q => q.c.d.a
def s120 : X := fun q => q.c.d.b
def s121 : X := fun q => q.c.d.c
def s122 : X := fun q => q.c.d.d
def s123 : X := fun q => q.c.d.e
def s124 : X := fun q => q.c.d.f
def s125 : X := fun q => q.c.d.g
def s126 : X := fun q => q.c.e.a
def s127 : X := fun q => q.c.e.b
def s128 : X := fun q => q.c.e.c
def s129 : X := fun q => q.c.e.d
def s130 : X := fun q => q.c.e.e
def s131 : X := fun q => q.c.e.f
def s132 : X := fun q => q.c.e.g
def s133 : X := fun q => q.c.f.a
def s134 : X := fun q => q.c.f.b
def s135 : X := fun q => q.c.f.c
def s136 : X := fun q => q.c.f.d
def s137 : X := fun q => q.c.f.e
def s138 : X := fun q => q.c.f.f
def s139 : X := fun q => q.c.f.g
def s140 : X := fun q => q.c.g.a
def s141 : X := fun q => q.c.g.b
def s142 : X := fun q => q.c.g.c
def s143 : X := fun q => q.c.g.d
def s144 : X := fun q => q.c.g.e
def s145 : X := fun q => q.c.g.f
def s146 : X := fun q => q.c.g.g
def s147 : X := fun q => q.d.a.a
def s148 : X := fun q => q.d.a.b
def s149 : X := fun q => q.d.a.c
def s150 : X := fun q => q.d.a.d
def s151 : X := fun q => q.d.a.e
def s152 : X := fun q => q.d.a.f
def s153 : X := fun q => q.d.a.g
def s154 : X := fun q => q.d.b.a
def s155 : X := fun q => q.d.b.b
def s156 : X := fun q => q.d.b.c
def s157 : X := fun q => q.d.b.d
def s158 : X := fun q => q.d.b.e
def s159 : X := fun q => q.d.b.f
def s160 : X := fun q => q.d.b.g
def s161 : X := fun q => q.d.c.a
def s162 : X := fun q => q.d.c.b
def s163 : X := fun q => q.d.c.c
def s164 : X := fun q => q.d.c.d
def s165 : X := fun q => q.d.c.e
def s166 : X := fun q => q.d.c.f
def s167 : X := fun q => q.d.c.g
def s168 : X := fun q => q.d.d.a
def s169 : X := fun q => q.d.d.b
def s170 : X := fun q => q.d.d.c
def s171 : X := fun q => q.d.d.d
def s172 : X := fun q => q.d.d.e
def s173 : X := fun q => q.d.d.f
def s174 : X := fun q => q.d.d.g
def s175 : X := fun q => q.d.e.a
def s176 : X := fun q => q.d.e.b
def s177 : X := fun q => q.d.e.c
def s178 : X := fun q => q.d.e.d
def s179 : X := fun q => q.d.e.e
def s180 : X := fun q => q.d.e.f
def s181 : X := fun q => q.d.e.g
def s182 : X := fun q => q.d.f.a
def s183 : X := fun q => q.d.f.b
def s184 : X := fun q => q.d.f.c
def s185 : X := fun q => q.d.f.d
def s186 : X := fun q => q.d.f.e
def s187 : X := fun q => q.d.f.f
def s188 : X := fun q => q.d.f.g
def s189 : X := fun q => q.d.g.a
def s190 : X := fun q => q.d.g.b
def s191 : X := fun q => q.d.g.c
def s192 : X := fun q => q.d.g.d
def s193 : X := fun q => q.d.g.e
def s194 : X := fun q => q.d.g.f
def s195 : X := fun q => q.d.g.g
def s196 : X := fun q => q.e.a.a
def s197 : X := fun q => q.e.a.b
def s198 : X := fun q => q.e.a.c
def s199 : X := fun q => q.e.a.d
def s200 : X := fun q => q.e.a.e
def s201 : X := fun q => q.e.a.f
def s202 : X := fun q => q.e.a.g
def s203 : X := fun q => q.e.b.a
def s204 : X := fun q => q.e.b.b
def s205 : X := fun q => q.e.b.c
def s206 : X := fun q => q.e.b.d
def s207 : X := fun q => q.e.b.e
def s208 : X := fun q => q.e.b.f
def s209 : X := fun q => q.e.b.g
def s210 : X := fun q => q.e.c.a
def s211 : X := fun q => q.e.c.b
def s212 : X := fun q => q.e.c.c
def s213 : X := fun q => q.e.c.d
def s214 : X := fun q => q.e.c.e
def s215 : X := fun q => q.e.c.f
def s216 : X := fun q => q.e.c.g
def s217 : X := fun q => q.e.d.a
def s218 : X := fun q => q.e.d.b
def s219 : X := fun q => q.e.d.c
def s220 : X := fun q => q.e.d.d
def s221 : X := fun q => q.e.d.e
def s222 : X := fun q => q.e.d.f
def s223 : X := fun q => q.e.d.g
def s224 : X := fun q => q.e.e.a
def s225 : X := fun q => q.e.e.b
def s226 : X := fun q => q.e.e.c
def s227 : X := fun q => q.e.e.d
def s228 : X := fun q => q.e.e.e
def s229 : X := fun q => q.e.e.f
def s230 : X := fun q => q.e.e.g
def s231 : X := fun q => q.e.f.a
def s232 : X := fun q => q.e.f.b
def s233 : X := fun q => q.e.f.c
def s234 : X := fun q => q.e.f.d
def s235 : X := fun q => q.e.f.e
def s236 : X := fun q => q.e.f.f
def s237 : X := fun q => q.e.f.g
def s238 : X := fun q => q.e.g.a
def s239 : X := fun q => q.e.g.b
def s240 : X := fun q => q.e.g.c
def s241 : X := fun q => q.e.g.d
def s242 : X := fun q => q.e.g.e
def s243 : X := fun q => q.e.g.f
def s244 : X := fun q => q.e.g.g
def s245 : X := fun q => q.f.a.a
def s246 : X := fun q => q.f.a.b
def s247 : X := fun q => q.f.a.c
def s248 : X := fun q => q.f.a.d
def s249 : X := fun q => q.f.a.e
def s250 : X := fun q => q.f.a.f
def s251 : X := fun q => q.f.a.g
def s252 : X := fun q => q.f.b.a
def s253 : X := fun q => q.f.b.b
def s254 : X := fun q => q.f.b.c
def s255 : X := fun q => q.f.b.d
def s256 : X := fun q => q.f.b.e
def s257 : X := fun q => q.f.b.f
def s258 : X := fun q => q.f.b.g
def s259 : X := fun q => q.f.c.a
def s260 : X := fun q => q.f.c.b
def s261 : X := fun q => q.f.c.c
def s262 : X := fun q => q.f.c.d
def s263 : X := fun q => q.f.c.e
def s264 : X := fun q => q.f.c.f
def s265 : X := fun q => q.f.c.g
def s266 : X := fun q => q.f.d.a
def s267 : X := fun q => q.f.d.b
def s268 : X := fun q => q.f.d.c
def s269 : X := fun q => q.f.d.d
def s270 : X := fun q => q.f.d.e
def s271 : X := fun q => q.f.d.f
def s272 : X := fun q => q.f.d.g
def s273 : X := fun q => q.f.e.a
def s274 : X := fun q => q.f.e.b
def s275 : X := fun q => q.f.e.c
def s276 : X := fun q => q.f.e.d
def s277 : X := fun q => q.f.e.e
def s278 : X := fun q => q.f.e.f
def s279 : X := fun q => q.f.e.g
def s280 : X := fun q => q.f.f.a
def s281 : X := fun q => q.f.f.b
def s282 : X := fun q => q.f.f.c
def s283 : X := fun q => q.f.f.d
def s284 : X := fun q => q.f.f.e
def s285 : X := fun q => q.f.f.f
def s286 : X := fun q => q.f.f.g
def s287 : X := fun q => q.f.g.a
def s288 : X := fun q => q.f.g.b
def s289 : X := fun q => q.f.g.c
def s290 : X := fun q => q.f.g.d
def s291 : X := fun q => q.f.g.e
def s292 : X := fun q => q.f.g.f
def s293 : X := fun q => q.f.g.g
def s294 : X := fun q => q.g.a.a
def s295 : X := fun q => q.g.a.b
def s296 : X := fun q => q.g.a.c
def s297 : X := fun q => q.g.a.d
def s298 : X := fun q => q.g.a.e
def s299 : X := fun q => q.g.a.f
def s300 : X := fun q => q.g.a.g
def s301 : X := fun q => q.g.b.a
def s302 : X := fun q => q.g.b.b
def s303 : X := fun q => q.g.b.c
def s304 : X := fun q => q.g.b.d
def s305 : X := fun q => q.g.b.e
def s306 : X := fun q => q.g.b.f
def s307 : X := fun q => q.g.b.g
def s308 : X := fun q => q.g.c.a
def s309 : X := fun q => q.g.c.b
def s310 : X := fun q => q.g.c.c
def s311 : X := fun q => q.g.c.d
def s312 : X := fun q => q.g.c.e
def s313 : X := fun q => q.g.c.f
def s314 : X := fun q => q.g.c.g
def s315 : X := fun q => q.g.d.a
def s316 : X := fun q => q.g.d.b
def s317 : X := fun q => q.g.d.c
def s318 : X := fun q => q.g.d.d
def s319 : X := fun q => q.g.d.e
def s320 : X := fun q => q.g.d.f
def s321 : X := fun q => q.g.d.g
def s322 : X := fun q => q.g.e.a
def s323 : X := fun q => q.g.e.b
def s324 : X := fun q => q.g.e.c
def s325 : X := fun q => q.g.e.d
def s326 : X := fun q => q.g.e.e
def s327 : X := fun q => q.g.e.f
def s328 : X := fun q => q.g.e.g
def s329 : X := fun q => q.g.f.a
def s330 : X := fun q => q.g.f.b
def s331 : X := fun q => q.g.f.c
def s332 : X := fun q => q.g.f.d
def s333 : X := fun q => q.g.f.e
def s334 : X := fun q => q.g.f.f
def s335 : X := fun q => q.g.f.g
def s336 : X := fun q => q.g.g.a
def s337 : X := fun q => q.g.g.b
def s338 : X := fun q => q.g.g.c
def s339 : X := fun q => q.g.g.d
def s340 : X := fun q => q.g.g.e
def s341 : X := fun q => q.g.g.f
def s342 : X := fun q => q.g.g.g
noncomputable def w0 : W := fun q v => S7.rec (motive := fun _ => Fm) (fun x0 x1 x2 x3 x4 x5 x6 => S7.rec (motive := fun _ => Fm) (fun y0 y1 y2 y3 y4 y5 y6 => S7.rec (motive := fun _ => Fm) (fun _ z1 z2 z3 z4 z5 z6 => ⟨⟨⟨v, z1, z2, z3, z4, z5, z6⟩, y1, y2, y3, y4, y5, y6⟩, x1, x2, x3, x4, x5, x6⟩) y0) x0) q
noncomputable def w1 : W := fun q v => S7.rec (motive := fun _ => Fm) (fun x0 x1 x2 x3 x4 x5 x6 => S7.rec (motive := fun _ => Fm) (fun y0 y1 y2 y3 y4 y5 y6 => S7.rec (motive := fun _ => Fm) (fun z0 _ z2 z3 z4 z5 z6 => ⟨⟨⟨z0, v, z2, z3, z4, z5, z6⟩, y1, y2, y3, y4, y5, y6⟩, x1, x2, x3, x4, x5, x6⟩) y0) x0) q
noncomputable def w2 : W := fun q v => S7.rec (motive := fun _ => Fm) (fun x0 x1 x2 x3 x4 x5 x6 => S7.rec (motive := fun _ => Fm) (fun y0 y1 y2 y3 y4 y5 y6 => S7.rec (motive := fun _ => Fm) (fun z0 z1 _ z3 z4 z5 z6 => ⟨⟨⟨z0, z1, v, z3, z4, z5, z6⟩, y1, y2, y3, y4, y5, y6⟩, x1, x2, x3, x4, x5, x6⟩) y0) x0) q
noncomputable def w3 : W := fun q v => S7.rec (motive := fun _ => Fm) (fun x0 x1 x2 x3 x4 x5 x6 => S7.rec (motive := fun _ => Fm) (fun y0 y1 y2 y3 y4 y5 y6 => S7.rec (motive := fun _ => Fm) (fun z0 z1 z2 _ z4 z5 z6 => ⟨⟨⟨z0, z1, z2, v, z4, z5, z6⟩, y1, y2, y3, y4, y5, y6⟩, x1, x2, x3, x4, x5, x6⟩) y0) x0) q
noncomputable def w4 : W := fun q v => S7.rec (motive := fun _ => Fm) (fun x0 x1 x2 x3 x4 x5 x6 => S7.rec (motive := fun _ => Fm) (fun y0 y1 y2 y3 y4 y5 y6 => S7.rec (motive := fun _ => Fm) (fun z0 z1 z2 z3 _ z5 z6 => ⟨⟨⟨z0, z1, z2, z3, v, z5, z6⟩, y1, y2, y3, y4, y5, y6⟩, x1, x2, x3, x4, x5, x6⟩) y0) x0) q
noncomputable def w5 : W := fun q v => S7.rec (motive := fun _ => Fm) (fun x0 x1 x2 x3 x4 x5 x6 => S7.rec (motive := fun _ => Fm) (fun y0 y1 y2 y3 y4 y5 y6 => S7.rec (motive := fun _ => Fm) (fun z0 z1 z2 z3 z4 _ z6 => ⟨⟨⟨z0, z1, z2, z3, z4, v, z6⟩, y1, y2, y3, y4, y5, y6⟩, x1, x2, x3, x4, x5, x6⟩) y0) x0) q
noncomputable def w6 : W := fun q v => S7.rec (motive := fun _ => Fm) (fun x0 x1 x2 x3 x4 x5 x6 => S7.rec (motive := fun _ => Fm) (fun y0 y1 y2 y3 y4 y5 y6 => S7.rec (motive := fun _ => Fm) (fun z0 z1 z2 z3 z4 z5 _ => ⟨⟨⟨z0, z1, z2, z3, z4, z5, v⟩, y1, y2, y3, y4, y5, y6⟩, x1, x2, x3, x4, x5, x6⟩) y0) x0) q
noncomputable def w7 : W := fun q v => S7.rec (motive := fun _ => Fm) (fun x0 x1 x2 x3 x4 x5 x6 => S7.rec (motive := fun _ => Fm) (fun y0 y1 y2 y3 y4 y5 y6 => S7.rec (motive := fun _ => Fm) (fun _ z1 z2 z3 z4 z5 z6 => ⟨⟨y0, ⟨v, z1, z2, z3, z4, z5, z6⟩, y2, y3, y4, y5, y6⟩, x1, x2, x3, x4, x5, x6⟩) y1) x0) q
noncomputable def w8 : W := fun q v => S7.rec (motive := fun _ => Fm) (fun x0 x1 x2 x3 x4 x5 x6 => S7.rec (motive := fun _ => Fm) (fun y0 y1 y2 y3 y4 y5 y6 => S7.rec (motive := fun _ => Fm) (fun z0 _ z2 z3 z4 z5 z6 => ⟨⟨y0, ⟨z0, v, z2, z3, z4, z5, z6⟩, y2, y3, y4, y5, y6⟩, x1, x2, x3, x4, x5, x6⟩) y1) x0) q
noncomputable def w9 : W := fun q v => S7.rec (motive := fun _ => Fm) (fun x0 x1 x2 x3 x4 x5 x6 => S7.rec (motive := fun _ => Fm) (fun y0 y1 y2 y3 y4 y5 y6 => S7.rec (motive := fun _ => Fm) (fun z0 z1 _ z3 z4 z5 z6 => ⟨⟨y0, ⟨z0, z1, v, z3, z4, z5, z6⟩, y2, y3, y4, y5, y6⟩, x1, x2, x3, x4, x5, x6⟩) y1) x0) q
noncomputable def w10 : W := fun q v => S7.rec (motive := fun _ => Fm) (fun x0 x1 x2 x3 x4 x5 x6 => S7.rec (motive := fun _ => Fm) (fun y0 y1 y2 y3 y4 y5 y6 => S7.rec (motive := fun _ => Fm) (fun z0 z1 z2 _ z4 z5 z6 => ⟨⟨y0, ⟨z0, z1, z2, v, z4, z5, z6⟩, y2, y3, y4, y5, y6⟩, x1, x2, x3, x4, x5, x6⟩) y1) x0) q
noncomputable def w11 : W := fun q v => S7.rec (motive := fun _ => Fm) (fun x0 x1 x2 x3 x4 x5 x6 => S7.rec (motive := fun _ => Fm) (fun y0 y1 y2 y3 y4 y5 y6 => S7.rec (motive := fun _ => Fm) (fun z0 z1 z2 z3 _ z5 z6 => ⟨⟨y0, ⟨z0, z1, z2, z3, v, z5, z6⟩, y2, y3, y4, y5, y6⟩, x1, x2, x3, x4, x5, x6⟩) y1) x0) q
noncomputable def w12 : W := fun q v => S7.rec (motive := fun _ => Fm) (fun x0 x1 x2 x3 x4 x5 x6 => S7.rec (motive := fun _ => Fm) (fun y0 y1 y2 y3 y4 y5 y6 => S7.rec (motive := fun _ => Fm) (fun z0 z1 z2 z3 z4 _ z6 => ⟨⟨y0, ⟨z0, z1, z2, z3, z4, v, z6⟩, y2, y3, y4, y5, y6⟩, x1, x2, x3, x4, x5, x6⟩) y1) x0) q
noncomputable def w13 : W := fun q v => S7.rec (motive := fun _ => Fm) (fun x0 x1 x2 x3 x4 x5 x6 => S7.rec (motive := fun _ => Fm) (fun y0 y1 y2 y3 y4 y5 y6 => S7.rec (motive := fun _ => Fm) (fun z0 z1 z2 z3 z4 z5 _ => ⟨⟨y0, ⟨z0, z1, z2, z3, z4, z5, v⟩, y2, y3, y4, y5, y6⟩, x1, x2, x3, x4, x5, x6⟩) y1) x0) q
noncomputable def w14 : W := fun q v => S7.rec (motive := fun _ => Fm) (fun x0 x1 x2 x3 x4 x5 x6 => S7.rec (motive := fun _ => Fm) (fun y0 y1 y2 y3 y4 y5 y6 => S7.rec (motive := fun _ => Fm) (fun _ z1 z2 z3 z4 z5 z6 => ⟨⟨y0, y1, ⟨v, z1, z2, z3, z4, z5, z6⟩, y3, y4, y5, y6⟩, x1, x2, x3, x4, x5, x6⟩) y2) x0) q
noncomputable def w15 : W := fun q v => S7.rec (motive := fun _ => Fm) (fun x0 x1 x2 x3 x4 x5 x6 => S7.rec (motive := fun _ => Fm) (fun y0 y1 y2 y3 y4 y5 y6 => S7.rec (motive := fun _ => Fm) (fun z0 _ z2 z3 z4 z5 z6 => ⟨⟨y0, y1, ⟨z0, v, z2, z3, z4, z5, z6⟩, y3, y4, y5, y6⟩, x1, x2, x3, x4, x5, x6⟩) y2) x0) q
noncomputable def w16 : W := fun q v => S7.rec (motive := fun _ => Fm) (fun x0 x1 x2 x3 x4 x5 x6 => S7.rec (motive := fun _ => Fm) (fun y0 y1 y2 y3 y4 y5 y6 => S7.rec (motive := fun _ => Fm) (fun z0 z1 _ z3 z4 z5 z6 => ⟨⟨y0, y1, ⟨z0, z1, v, z3, z4, z5, z6⟩, y3, y4, y5, y6⟩, x1, x2, x3, x4, x5, x6⟩) y2) x0) q
noncomputable def w17 : W := fun q v => S7.rec (motive := fun _ => Fm) (fun x0 x1 x2 x3 x4 x5 x6 => S7.rec (motive := fun _ => Fm) (fun y0 y1 y2 y3 y4 y5 y6 => S7.rec (motive := fun _ => Fm) (fun z0 z1 z2 _ z4 z5 z6 => ⟨⟨y0, y1, ⟨z0, z1, z2, v, z4, z5, z6⟩, y3, y4, y5, y6⟩, x1, x2, x3, x4, x5, x6⟩) y2) x0) q
noncomputable def w18 : W := fun q v => S7.rec (motive := fun _ => Fm) (fun x0 x1 x2 x3 x4 x5 x6 => S7.rec (motive := fun _ => Fm) (fun y0 y1 y2 y3 y4 y5 y6 => S7.rec (motive := fun _ => Fm) (fun z0 z1 z2 z3 _ z5 z6 => ⟨⟨y0, y1, ⟨z0, z1, z2, z3, v, z5, z6⟩, y3, y4, y5, y6⟩, x1, x2, x3, x4, x5, x6⟩) y2) x0) q
noncomputable def w19 : W := fun q v => S7.rec (motive := fun _ => Fm) (fun x0 x1 x2 x3 x4 x5 x6 => S7.rec (motive := fun _ => Fm) (fun y0 y1 y2 y3 y4 y5 y6 => S7.rec (motive := fun _ => Fm) (fun z0 z1 z2 z3 z4 _ z6 => ⟨⟨y0, y1, ⟨z0, z1, z2, z3, z4, v, z6⟩, y3, y4, y5, y6⟩, x1, x2, x3, x4, x5, x6⟩) y2) x0) q
noncomputable def w20 : W := fun q v => S7.rec (motive := fun _ => Fm) (fun x0 x1 x2 x3 x4 x5 x6 => S7.rec (motive := fun _ => Fm) (fun y0 y1 y2 y3 y4 y5 y6 => S7.rec (motive := fun _ => Fm) (fun z0 z1 z2 z3 z4 z5 _ => ⟨⟨y0, y1, ⟨z0, z1, z2, z3, z4, z5, v⟩, y3, y4, y5, y6⟩, x1, x2, x3, x4, x5, x6⟩) y2) x0) q
noncomputable def w21 : W := fun q v => S7.rec (motive := fun _ => Fm) (fun x0 x1 x2 x3 x4 x5 x6 => S7.rec (motive := fun _ => Fm) (fun y0 y1 y2 y3 y4 y5 y6 => S7.rec (motive := fun _ => Fm) (fun _ z1 z2 z3 z4 z5 z6 => ⟨⟨y0, y1, y2, ⟨v, z1, z2, z3, z4, z5, z6⟩, y4, y5, y6⟩, x1, x2, x3, x4, x5, x6⟩) y3) x0) q
noncomputable def w22 : W := fun q v => S7.rec (motive := fun _ => Fm) (fun x0 x1 x2 x3 x4 x5 x6 => S7.rec (motive := fun _ => Fm) (fun y0 y1 y2 y3 y4 y5 y6 => S7.rec (motive := fun _ => Fm) (fun z0 _ z2 z3 z4 z5 z6 => ⟨⟨y0, y1, y2, ⟨z0, v, z2, z3, z4, z5, z6⟩, y4, y5, y6⟩, x1, x2, x3, x4, x5, x6⟩) y3) x0) q
noncomputable def w23 : W := fun q v => S7.rec (motive := fun _ => Fm) (fun x0 x1 x2 x3 x4 x5 x6 => S7.rec (motive := fun _ => Fm) (fun y0 y1 y2 y3 y4 y5 y6 => S7.rec (motive := fun _ => Fm) (fun z0 z1 _ z3 z4 z5 z6 => ⟨⟨y0, y1, y2, ⟨z0, z1, v, z3, z4, z5, z6⟩, y4, y5, y6⟩, x1, x2, x3, x4, x5, x6⟩) y3) x0) q
noncomputable def w24 : W := fun q v => S7.rec (motive := fun _ => Fm) (fun x0 x1 x2 x3 x4 x5 x6 => S7.rec (motive := fun _ => Fm) (fun y0 y1 y2 y3 y4 y5 y6 => S7.rec (motive := fun _ => Fm) (fun z0 z1 z2 _ z4 z5 z6 => ⟨⟨y0, y1, y2, ⟨z0, z1, z2, v, z4, z5, z6⟩, y4, y5, y6⟩, x1, x2, x3, x4, x5, x6⟩) y3) x0) q
noncomputable def w25 : W := fun q v => S7.rec (motive := fun _ => Fm) (fun x0 x1 x2 x3 x4 x5 x6 => S7.rec (motive := fun _ => Fm) (fun y0 y1 y2 y3 y4 y5 y6 => S7.rec (motive := fun _ => Fm) (fun z0 z1 z2 z3 _ z5 z6 => ⟨⟨y0, y1, y2, ⟨z0, z1, z2, z3, v, z5, z6⟩, y4, y5, y6⟩, x1, x2, x3, x4, x5, x6⟩) y3) x0) q
noncomputable def w26 : W := fun q v => S7.rec (motive := fun _ => Fm) (fun x0 x1 x2 x3 x4 x5 x6 => S7.rec (motive := fun _ => Fm) (fun y0 y1 y2 y3 y4 y5 y6 => S7.rec (motive := fun _ => Fm) (fun z0 z1 z2 z3 z4 _ z6 => ⟨⟨y0, y1, y2, ⟨z0, z1, z2, z3, z4, v, z6⟩, y4, y5, y6⟩, x1, x2, x3, x4, x5, x6⟩) y3) x0) q
noncomputable def w27 : W := fun q v => S7.rec (motive := fun _ => Fm) (fun x0 x1 x2 x3 x4 x5 x6 => S7.rec (motive := fun _ => Fm) (fun y0 y1 y2 y3 y4 y5 y6 => S7.rec (motive := fun _ => Fm) (fun z0 z1 z2 z3 z4 z5 _ => ⟨⟨y0, y1, y2, ⟨z0, z1, z2, z3, z4, z5, v⟩, y4, y5, y6⟩, x1, x2, x3, x4, x5, x6⟩) y3) x0) q
noncomputable def w28 : W := fun q v => S7.rec (motive := fun _ => Fm) (fun x0 x1 x2 x3 x4 x5 x6 => S7.rec (motive := fun _ => Fm) (fun y0 y1 y2 y3 y4 y5 y6 => S7.rec (motive := fun _ => Fm) (fun _ z1 z2 z3 z4 z5 z6 => ⟨⟨y0, y1, y2, y3, ⟨v, z1, z2, z3, z4, z5, z6⟩, y5, y6⟩, x1, x2, x3, x4, x5, x6⟩) y4) x0) q
noncomputable def w29 : W := fun q v => S7.rec (motive := fun _ => Fm) (fun x0 x1 x2 x3 x4 x5 x6 => S7.rec (motive := fun _ => Fm) (fun y0 y1 y2 y3 y4 y5 y6 => S7.rec (motive := fun _ => Fm) (fun z0 _ z2 z3 z4 z5 z6 => ⟨⟨y0, y1, y2, y3, ⟨z0, v, z2, z3, z4, z5, z6⟩, y5, y6⟩, x1, x2, x3, x4, x5, x6⟩) y4) x0) q
noncomputable def w30 : W := fun q v => S7.rec (motive := fun _ => Fm) (fun x0 x1 x2 x3 x4 x5 x6 => S7.rec (motive := fun _ => Fm) (fun y0 y1 y2 y3 y4 y5 y6 => S7.rec (motive := fun _ => Fm) (fun z0 z1 _ z3 z4 z5 z6 => ⟨⟨y0, y1, y2, y3, ⟨z0, z1, v, z3, z4, z5, z6⟩, y5, y6⟩, x1, x2, x3, x4, x5, x6⟩) y4) x0) q
noncomputable def w31 : W := fun q v => S7.rec (motive := fun _ => Fm) (fun x0 x1 x2 x3 x4 x5 x6 => S7.rec (motive := fun _ => Fm) (fun y0 y1 y2 y3 y4 y5 y6 => S7.rec (motive := fun _ => Fm) (fun z0 z1 z2 _ z4 z5 z6 => ⟨⟨y0, y1, y2, y3, ⟨z0, z1, z2, v, z4, z5, z6⟩, y5, y6⟩, x1, x2, x3, x4, x5, x6⟩) y4) x0) q
noncomputable def w32 : W := fun q v => S7.rec (motive := fun _ => Fm) (fun x0 x1 x2 x3 x4 x5 x6 => S7.rec (motive := fun _ => Fm) (fun y0 y1 y2 y3 y4 y5 y6 => S7.rec (motive := fun _ => Fm) (fun z0 z1 z2 z3 _ z5 z6 => ⟨⟨y0, y1, y2, y3, ⟨z0, z1, z2, z3, v, z5, z6⟩, y5, y6⟩, x1, x2, x3, x4, x5, x6⟩) y4) x0) q
noncomputable def w33 : W := fun q v => S7.rec (motive := fun _ => Fm) (fun x0 x1 x2 x3 x4 x5 x6 => S7.rec (motive := fun _ => Fm) (fun y0 y1 y2 y3 y4 y5 y6 => S7.rec (motive := fun _ => Fm) (fun z0 z1 z2 z3 z4 _ z6 => ⟨⟨y0, y1, y2, y3, ⟨z0, z1, z2, z3, z4, v, z6⟩, y5, y6⟩, x1, x2, x3, x4, x5, x6⟩) y4) x0) q
noncomputable def w34 : W := fun q v => S7.rec (motive := fun _ => Fm) (fun x0 x1 x2 x3 x4 x5 x6 => S7.rec (motive := fun _ => Fm) (fun y0 y1 y2 y3 y4 y5 y6 => S7.rec (motive := fun _ => Fm) (fun z0 z1 z2 z3 z4 z5 _ => ⟨⟨y0, y1, y2, y3, ⟨z0, z1, z2, z3, z4, z5, v⟩, y5, y6⟩, x1, x2, x3, x4, x5, x6⟩) y4) x0) q
noncomputable def w35 : W := fun q v => S7.rec (motive := fun _ => Fm) (fun x0 x1 x2 x3 x4 x5 x6 => S7.rec (motive := fun _ => Fm) (fun y0 y1 y2 y3 y4 y5 y6 => S7.rec (motive := fun _ => Fm) (fun _ z1 z2 z3 z4 z5 z6 => ⟨⟨y0, y1, y2, y3, y4, ⟨v, z1, z2, z3, z4, z5, z6⟩, y6⟩, x1, x2, x3, x4, x5, x6⟩) y5) x0) q
noncomputable def w36 : W := fun q v => S7.rec (motive := fun _ => Fm) (fun x0 x1 x2 x3 x4 x5 x6 => S7.rec (motive := fun _ => Fm) (fun y0 y1 y2 y3 y4 y5 y6 => S7.rec (motive := fun _ => Fm) (fun z0 _ z2 z3 z4 z5 z6 => ⟨⟨y0, y1, y2, y3, y4, ⟨z0, v, z2, z3, z4, z5, z6⟩, y6⟩, x1, x2, x3, x4, x5, x6⟩) y5) x0) q
noncomputable def w37 : W := fun q v => S7.rec (motive := fun _ => Fm) (fun x0 x1 x2 x3 x4 x5 x6 => S7.rec (motive := fun _ => Fm) (fun y0 y1 y2 y3 y4 y5 y6 => S7.rec (motive := fun _ => Fm) (fun z0 z1 _ z3 z4 z5 z6 => ⟨⟨y0, y1, y2, y3, y4, ⟨z0, z1, v, z3, z4, z5, z6⟩, y6⟩, x1, x2, x3, x4, x5, x6⟩) y5) x0) q
noncomputable def w38 : W := fun q v => S7.rec (motive := fun _ => Fm) (fun x0 x1 x2 x3 x4 x5 x6 => S7.rec (motive := fun _ => Fm) (fun y0 y1 y2 y3 y4 y5 y6 => S7.rec (motive := fun _ => Fm) (fun z0 z1 z2 _ z4 z5 z6 => ⟨⟨y0, y1, y2, y3, y4, ⟨z0, z1, z2, v, z4, z5, z6⟩, y6⟩, x1, x2, x3, x4, x5, x6⟩) y5) x0) q
noncomputable def w39 : W := fun q v => S7.rec (motive := fun _ => Fm) (fun x0 x1 x2 x3 x4 x5 x6 => S7.rec (motive := fun _ => Fm) (fun y0 y1 y2 y3 y4 y5 y6 => S7.rec (motive := fun _ => Fm) (fun z0 z1 z2 z3 _ z5 z6 => ⟨⟨y0, y1, y2, y3, y4, ⟨z0, z1, z2, z3, v, z5, z6⟩, y6⟩, x1, x2, x3, x4, x5, x6⟩) y5) x0) q
noncomputable def w40 : W := fun q v => S7.rec (motive := fun _ => Fm) (fun x0 x1 x2 x3 x4 x5 x6 => S7.rec (motive := fun _ => Fm) (fun y0 y1 y2 y3 y4 y5 y6 => S7.rec (motive := fun _ => Fm) (fun z0 z1 z2 z3 z4 _ z6 => ⟨⟨y0, y1, y2, y3, y4, ⟨z0, z1, z2, z3, z4, v, z6⟩, y6⟩, x1, x2, x3, x4, x5, x6⟩) y5) x0) q
noncomputable def w41 : W := fun q v => S7.rec (motive := fun _ => Fm) (fun x0 x1 x2 x3 x4 x5 x6 => S7.rec (motive := fun _ => Fm) (fun y0 y1 y2 y3 y4 y5 y6 => S7.rec (motive := fun _ => Fm) (fun z0 z1 z2 z3 z4 z5 _ => ⟨⟨y0, y1, y2, y3, y4, ⟨z0, z1, z2, z3, z4, z5, v⟩, y6⟩, x1, x2, x3, x4, x5, x6⟩) y5) x0) q
noncomputable def w42 : W := fun q v => S7.rec (motive := fun _ => Fm) (fun x0 x1 x2 x3 x4 x5 x6 => S7.rec (motive := fun _ => Fm) (fun y0 y1 y2 y3 y4 y5 y6 => S7.rec (motive := fun _ => Fm) (fun _ z1 z2 z3 z4 z5 z6 => ⟨⟨y0, y1, y2, y3, y4, y5, ⟨v, z1, z2, z3, z4, z5, z6⟩⟩, x1, x2, x3, x4, x5, x6⟩) y6) x0) q
noncomputable def w43 : W := fun q v => S7.rec (motive := fun _ => Fm) (fun x0 x1 x2 x3 x4 x5 x6 => S7.rec (motive := fun _ => Fm) (fun y0 y1 y2 y3 y4 y5 y6 => S7.rec (motive := fun _ => Fm) (fun z0 _ z2 z3 z4 z5 z6 => ⟨⟨y0, y1, y2, y3, y4, y5, ⟨z0, v, z2, z3, z4, z5, z6⟩⟩, x1, x2, x3, x4, x5, x6⟩) y6) x0) q
noncomputable def w44 : W := fun q v => S7.rec (motive := fun _ => Fm) (fun x0 x1 x2 x3 x4 x5 x6 => S7.rec (motive := fun _ => Fm) (fun y0 y1 y2 y3 y4 y5 y6 => S7.rec (motive := fun _ => Fm) (fun z0 z1 _ z3 z4 z5 z6 => ⟨⟨y0, y1, y2, y3, y4, y5, ⟨z0, z1, v, z3, z4, z5, z6⟩⟩, x1, x2, x3, x4, x5, x6⟩) y6) x0) q
noncomputable def w45 : W := fun q v => S7.rec (motive := fun _ => Fm) (fun x0 x1 x2 x3 x4 x5 x6 => S7.rec (motive := fun _ => Fm) (fun y0 y1 y2 y3 y4 y5 y6 => S7.rec (motive := fun _ => Fm) (fun z0 z1 z2 _ z4 z5 z6 => ⟨⟨y0, y1, y2, y3, y4, y5, ⟨z0, z1, z2, v, z4, z5, z6⟩⟩, x1, x2, x3, x4, x5, x6⟩) y6) x0) q
noncomputable def w46 : W := fun q v => S7.rec (motive := fun _ => Fm) (fun x0 x1 x2 x3 x4 x5 x6 => S7.rec (motive := fun _ => Fm) (fun y0 y1 y2 y3 y4 y5 y6 => S7.rec (motive := fun _ => Fm) (fun z0 z1 z2 z3 _ z5 z6 => ⟨⟨y0, y1, y2, y3, y4, y5, ⟨z0, z1, z2, z3, v, z5, z6⟩⟩, x1, x2, x3, x4, x5, x6⟩) y6) x0) q
noncomputable def w47 : W := fun q v => S7.rec (motive := fun _ => Fm) (fun x0 x1 x2 x3 x4 x5 x6 => S7.rec (motive := fun _ => Fm) (fun y0 y1 y2 y3 y4 y5 y6 => S7.rec (motive := fun _ => Fm) (fun z0 z1 z2 z3 z4 _ z6 => ⟨⟨y0, y1, y2, y3, y4, y5, ⟨z0, z1, z2, z3, z4, v, z6⟩⟩, x1, x2, x3, x4, x5, x6⟩) y6) x0) q
noncomputable def w48 : W := fun q v => S7.rec (motive := fun _ => Fm) (fun x0 x1 x2 x3 x4 x5 x6 => S7.rec (motive := fun _ => Fm) (fun y0 y1 y2 y3 y4 y5 y6 => S7.rec (motive := fun _ => Fm) (fun z0 z1 z2 z3 z4 z5 _ => ⟨⟨y0, y1, y2, y3, y4, y5, ⟨z0, z1, z2, z3, z4, z5, v⟩⟩, x1, x2, x3, x4, x5, x6⟩) y6) x0) q
noncomputable def w49 : W := fun q v => S7.rec (motive := fun _ => Fm) (fun x0 x1 x2 x3 x4 x5 x6 => S7.rec (motive := fun _ => Fm) (fun y0 y1 y2 y3 y4 y5 y6 => S7.rec (motive := fun _ => Fm) (fun _ z1 z2 z3 z4 z5 z6 => ⟨x0, ⟨⟨v, z1, z2, z3, z4, z5, z6⟩, y1, y2, y3, y4, y5, y6⟩, x2, x3, x4, x5, x6⟩) y0) x1) q
noncomputable def w50 : W := fun q v => S7.rec (motive := fun _ => Fm) (fun x0 x1 x2 x3 x4 x5 x6 => S7.rec (motive := fun _ => Fm) (fun y0 y1 y2 y3 y4 y5 y6 => S7.rec (motive := fun _ => Fm) (fun z0 _ z2 z3 z4 z5 z6 => ⟨x0, ⟨⟨z0, v, z2, z3, z4, z5, z6⟩, y1, y2, y3, y4, y5, y6⟩, x2, x3, x4, x5, x6⟩) y0) x1) q
noncomputable def w51 : W := fun q v => S7.rec (motive := fun _ => Fm) (fun x0 x1 x2 x3 x4 x5 x6 => S7.rec (motive := fun _ => Fm) (fun y0 y1 y2 y3 y4 y5 y6 => S7.rec (motive := fun _ => Fm) (fun z0 z1 _ z3 z4 z5 z6 => ⟨x0, ⟨⟨z0, z1, v, z3, z4, z5, z6⟩, y1, y2, y3, y4, y5, y6⟩, x2, x3, x4, x5, x6⟩) y0) x1) q
noncomputable def w52 : W := fun q v => S7.rec (motive := fun _ => Fm) (fun x0 x1 x2 x3 x4 x5 x6 => S7.rec (motive := fun _ => Fm) (fun y0 y1 y2 y3 y4 y5 y6 => S7.rec (motive := fun _ => Fm) (fun z0 z1 z2 _ z4 z5 z6 => ⟨x0, ⟨⟨z0, z1, z2, v, z4, z5, z6⟩, y1, y2, y3, y4, y5, y6⟩, x2, x3, x4, x5, x6⟩) y0) x1) q
noncomputable def w53 : W := fun q v => S7.rec (motive := fun _ => Fm) (fun x0 x1 x2 x3 x4 x5 x6 => S7.rec (motive := fun _ => Fm) (fun y0 y1 y2 y3 y4 y5 y6 => S7.rec (motive := fun _ => Fm) (fun z0 z1 z2 z3 _ z5 z6 => ⟨x0, ⟨⟨z0, z1, z2, z3, v, z5, z6⟩, y1, y2, y3, y4, y5, y6⟩, x2, x3, x4, x5, x6⟩) y0) x1) q
noncomputable def w54 : W := fun q v => S7.rec (motive := fun _ => Fm) (fun x0 x1 x2 x3 x4 x5 x6 => S7.rec (motive := fun _ => Fm) (fun y0 y1 y2 y3 y4 y5 y6 => S7.rec (motive := fun _ => Fm) (fun z0 z1 z2 z3 z4 _ z6 => ⟨x0, ⟨⟨z0, z1, z2, z3, z4, v, z6⟩, y1, y2, y3, y4, y5, y6⟩, x2, x3, x4, x5, x6⟩) y0) x1) q
noncomputable def w55 : W := fun q v => S7.rec (motive := fun _ => Fm) (fun x0 x1 x2 x3 x4 x5 x6 => S7.rec (motive := fun _ => Fm) (fun y0 y1 y2 y3 y4 y5 y6 => S7.rec (motive := fun _ => Fm) (fun z0 z1 z2 z3 z4 z5 _ => ⟨x0, ⟨⟨z0, z1, z2, z3, z4, z5, v⟩, y1, y2, y3, y4, y5, y6⟩, x2, x3, x4, x5, x6⟩) y0) x1) q
noncomputable def w56 : W := fun q v => S7.rec (motive := fun _ => Fm) (fun x0 x1 x2 x3 x4 x5 x6 => S7.rec (motive := fun _ => Fm) (fun y0 y1 y2 y3 y4 y5 y6 => S7.rec (motive := fun _ => Fm) (fun _ z1 z2 z3 z4 z5 z6 => ⟨x0, ⟨y0, ⟨v, z1, z2, z3, z4, z5, z6⟩, y2, y3, y4, y5, y6⟩, x2, x3, x4, x5, x6⟩) y1) x1) q
noncomputable def w57 : W := fun q v => S7.rec (motive := fun _ => Fm) (fun x0 x1 x2 x3 x4 x5 x6 => S7.rec (motive := fun _ => Fm) (fun y0 y1 y2 y3 y4 y5 y6 => S7.rec (motive := fun _ => Fm) (fun z0 _ z2 z3 z4 z5 z6 => ⟨x0, ⟨y0, ⟨z0, v, z2, z3, z4, z5, z6⟩, y2, y3, y4, y5, y6⟩, x2, x3, x4, x5, x6⟩) y1) x1) q
noncomputable def w58 : W := fun q v => S7.rec (motive := fun _ => Fm) (fun x0 x1 x2 x3 x4 x5 x6 => S7.rec (motive := fun _ => Fm) (fun y0 y1 y2 y3 y4 y5 y6 => S7.rec (motive := fun _ => Fm) (fun z0 z1 _ z3 z4 z5 z6 => ⟨x0, ⟨y0, ⟨z0, z1, v, z3, z4, z5, z6⟩, y2, y3, y4, y5, y6⟩, x2, x3, x4, x5, x6⟩) y1) x1) q
noncomputable def w59 : W := fun q v => S7.rec (motive := fun _ => Fm) (fun x0 x1 x2 x3 x4 x5 x6 => S7.rec (motive := fun _ => Fm) (fun y0 y1 y2 y3 y4 y5 y6 => S7.rec (motive := fun _ => Fm) (fun z0 z1 z2 _ z4 z5 z6 => ⟨x0, ⟨y0, ⟨z0, z1, z2, v, z4, z5, z6⟩, y2, y3, y4, y5, y6⟩, x2, x3, x4, x5, x6⟩) y1) x1) q
noncomputable def w60 : W := fun q v => S7.rec (motive := fun _ => Fm) (fun x0 x1 x2 x3 x4 x5 x6 => S7.rec (motive := fun _ => Fm) (fun y0 y1 y2 y3 y4 y5 y6 => S7.rec (motive := fun _ => Fm) (fun z0 z1 z2 z3 _ z5 z6 => ⟨x0, ⟨y0, ⟨z0, z1, z2, z3, v, z5, z6⟩, y2, y3, y4, y5, y6⟩, x2, x3, x4, x5, x6⟩) y1) x1) q
noncomputable def w61 : W := fun q v => S7.rec (motive := fun _ => Fm) (fun x0 x1 x2 x3 x4 x5 x6 => S7.rec (motive := fun _ => Fm) (fun y0 y1 y2 y3 y4 y5 y6 => S7.rec (motive := fun _ => Fm) (fun z0 z1 z2 z3 z4 _ z6 => ⟨x0, ⟨y0, ⟨z0, z1, z2, z3, z4, v, z6⟩, y2, y3, y4, y5, y6⟩, x2, x3, x4, x5, x6⟩) y1) x1) q
noncomputable def w62 : W := fun q v => S7.rec (motive := fun _ => Fm) (fun x0 x1 x2 x3 x4 x5 x6 => S7.rec (motive := fun _ => Fm) (fun y0 y1 y2 y3 y4 y5 y6 => S7.rec (motive := fun _ => Fm) (fun z0 z1 z2 z3 z4 z5 _ => ⟨x0, ⟨y0, ⟨z0, z1, z2, z3, z4, z5, v⟩, y2, y3, y4, y5, y6⟩, x2, x3, x4, x5, x6⟩) y1) x1) q
noncomputable def w63 : W := fun q v => S7.rec (motive := fun _ => Fm) (fun x0 x1 x2 x3 x4 x5 x6 => S7.rec (motive := fun _ => Fm) (fun y0 y1 y2 y3 y4 y5 y6 => S7.rec (motive := fun _ => Fm) (fun _ z1 z2 z3 z4 z5 z6 => ⟨x0, ⟨y0, y1, ⟨v, z1, z2, z3, z4, z5, z6⟩, y3, y4, y5, y6⟩, x2, x3, x4, x5, x6⟩) y2) x1) q
noncomputable def w64 : W := fun q v => S7.rec (motive := fun _ => Fm) (fun x0 x1 x2 x3 x4 x5 x6 => S7.rec (motive := fun _ => Fm) (fun y0 y1 y2 y3 y4 y5 y6 => S7.rec (motive := fun _ => Fm) (fun z0 _ z2 z3 z4 z5 z6 => ⟨x0, ⟨y0, y1, ⟨z0, v, z2, z3, z4, z5, z6⟩, y3, y4, y5, y6⟩, x2, x3, x4, x5, x6⟩) y2) x1) q
noncomputable def w65 : W := fun q v => S7.rec (motive := fun _ => Fm) (fun x0 x1 x2 x3 x4 x5 x6 => S7.rec (motive := fun _ => Fm) (fun y0 y1 y2 y3 y4 y5 y6 => S7.rec (motive := fun _ => Fm) (fun z0 z1 _ z3 z4 z5 z6 => ⟨x0, ⟨y0, y1, ⟨z0, z1, v, z3, z4, z5, z6⟩, y3, y4, y5, y6⟩, x2, x3, x4, x5, x6⟩) y2) x1) q
noncomputable def w66 : W := fun q v => S7.rec (motive := fun _ => Fm) (fun x0 x1 x2 x3 x4 x5 x6 => S7.rec (motive := fun _ => Fm) (fun y0 y1 y2 y3 y4 y5 y6 => S7.rec (motive := fun _ => Fm) (fun z0 z1 z2 _ z4 z5 z6 => ⟨x0, ⟨y0, y1, ⟨z0, z1, z2, v, z4, z5, z6⟩, y3, y4, y5, y6⟩, x2, x3, x4, x5, x6⟩) y2) x1) q
noncomputable def w67 : W := fun q v => S7.rec (motive := fun _ => Fm) (fun x0 x1 x2 x3 x4 x5 x6 => S7.rec (motive := fun _ => Fm) (fun y0 y1 y2 y3 y4 y5 y6 => S7.rec (motive := fun _ => Fm) (fun z0 z1 z2 z3 _ z5 z6 => ⟨x0, ⟨y0, y1, ⟨z0, z1, z2, z3, v, z5, z6⟩, y3, y4, y5, y6⟩, x2, x3, x4, x5, x6⟩) y2) x1) q
noncomputable def w68 : W := fun q v => S7.rec (motive := fun _ => Fm) (fun x0 x1 x2 x3 x4 x5 x6 => S7.rec (motive := fun _ => Fm) (fun y0 y1 y2 y3 y4 y5 y6 => S7.rec (motive := fun _ => Fm) (fun z0 z1 z2 z3 z4 _ z6 => ⟨x0, ⟨y0, y1, ⟨z0, z1, z2, z3, z4, v, z6⟩, y3, y4, y5, y6⟩, x2, x3, x4, x5, x6⟩) y2) x1) q
noncomputable def w69 : W := fun q v => S7.rec (motive := fun _ => Fm) (fun x0 x1 x2 x3 x4 x5 x6 => S7.rec (motive := fun _ => Fm) (fun y0 y1 y2 y3 y4 y5 y6 => S7.rec (motive := fun _ => Fm) (fun z0 z1 z2 z3 z4 z5 _ => ⟨x0, ⟨y0, y1, ⟨z0, z1, z2, z3, z4, z5, v⟩, y3, y4, y5, y6⟩, x2, x3, x4, x5, x6⟩) y2) x1) q
noncomputable def w70 : W := fun q v => S7.rec (motive := fun _ => Fm) (fun x0 x1 x2 x3 x4 x5 x6 => S7.rec (motive := fun _ => Fm) (fun y0 y1 y2 y3 y4 y5 y6 => S7.rec (motive := fun _ => Fm) (fun _ z1 z2 z3 z4 z5 z6 => ⟨x0, ⟨y0, y1, y2, ⟨v, z1, z2, z3, z4, z5, z6⟩, y4, y5, y6⟩, x2, x3, x4, x5, x6⟩) y3) x1) q
noncomputable def w71 : W := fun q v => S7.rec (motive := fun _ => Fm) (fun x0 x1 x2 x3 x4 x5 x6 => S7.rec (motive := fun _ => Fm) (fun y0 y1 y2 y3 y4 y5 y6 => S7.rec (motive := fun _ => Fm) (fun z0 _ z2 z3 z4 z5 z6 => ⟨x0, ⟨y0, y1, y2, ⟨z0, v, z2, z3, z4, z5, z6⟩, y4, y5, y6⟩, x2, x3, x4, x5, x6⟩) y3) x1) q
noncomputable def w72 : W := fun q v => S7.rec (motive := fun _ => Fm) (fun x0 x1 x2 x3 x4 x5 x6 => S7.rec (motive := fun _ => Fm) (fun y0 y1 y2 y3 y4 y5 y6 => S7.rec (motive := fun _ => Fm) (fun z0 z1 _ z3 z4 z5 z6 => ⟨x0, ⟨y0, y1, y2, ⟨z0, z1, v, z3, z4, z5, z6⟩, y4, y5, y6⟩, x2, x3, x4, x5, x6⟩) y3) x1) q
noncomputable def w73 : W := fun q v => S7.rec (motive := fun _ => Fm) (fun x0 x1 x2 x3 x4 x5 x6 => S7.rec (motive := fun _ => Fm) (fun y0 y1 y2 y3 y4 y5 y6 => S7.rec (motive := fun _ => Fm) (fun z0 z1 z2 _ z4 z5 z6 => ⟨x0, ⟨y0, y1, y2, ⟨z0, z1, z2, v, z4, z5, z6⟩, y4, y5, y6⟩, x2, x3, x4, x5, x6⟩) y3) x1) q
noncomputable def w74 : W := fun q v => S7.rec (motive := fun _ => Fm) (fun x0 x1 x2 x3 x4 x5 x6 => S7.rec (motive := fun _ => Fm) (fun y0 y1 y2 y3 y4 y5 y6 => S7.rec (motive := fun _ => Fm) (fun z0 z1 z2 z3 _ z5 z6 => ⟨x0, ⟨y0, y1, y2, ⟨z0, z1, z2, z3, v, z5, z6⟩, y4, y5, y6⟩, x2, x3, x4, x5, x6⟩) y3) x1) q
noncomputable def w75 : W := fun q v => S7.rec (motive := fun _ => Fm) (fun x0 x1 x2 x3 x4 x5 x6 => S7.rec (motive := fun _ => Fm) (fun y0 y1 y2 y3 y4 y5 y6 => S7.rec (motive := fun _ => Fm) (fun z0 z1 z2 z3 z4 _ z6 => ⟨x0, ⟨y0, y1, y2, ⟨z0, z1, z2, z3, z4, v, z6⟩, y4, y5, y6⟩, x2, x3, x4, x5, x6⟩) y3) x1) q
noncomputable def w76 : W := fun q v => S7.rec (motive := fun _ => Fm) (fun x0 x1 x2 x3 x4 x5 x6 => S7.rec (motive := fun _ => Fm) (fun y0 y1 y2 y3 y4 y5 y6 => S7.rec (motive := fun _ => Fm) (fun z0 z1 z2 z3 z4 z5 _ => ⟨x0, ⟨y0, y1, y2, ⟨z0, z1, z2, z3, z4, z5, v⟩, y4, y5, y6⟩, x2, x3, x4, x5, x6⟩) y3) x1) q
noncomputable def w77 : W := fun q v => S7.rec (motive := fun _ => Fm) (fun x0 x1 x2 x3 x4 x5 x6 => S7.rec (motive := fun _ => Fm) (fun y0 y1 y2 y3 y4 y5 y6 => S7.rec (motive := fun _ => Fm) (fun _ z1 z2 z3 z4 z5 z6 => ⟨x0, ⟨y0, y1, y2, y3, ⟨v, z1, z2, z3, z4, z5, z6⟩, y5, y6⟩, x2, x3, x4, x5, x6⟩) y4) x1) q
noncomputable def w78 : W := fun q v => S7.rec (motive := fun _ => Fm) (fun x0 x1 x2 x3 x4 x5 x6 => S7.rec (motive := fun _ => Fm) (fun y0 y1 y2 y3 y4 y5 y6 => S7.rec (motive := fun _ => Fm) (fun z0 _ z2 z3 z4 z5 z6 => ⟨x0, ⟨y0, y1, y2, y3, ⟨z0, v, z2, z3, z4, z5, z6⟩, y5, y6⟩, x2, x3, x4, x5, x6⟩) y4) x1) q
noncomputable def w79 : W := fun q v => S7.rec (motive := fun _ => Fm) (fun x0 x1 x2 x3 x4 x5 x6 => S7.rec (motive := fun _ => Fm) (fun y0 y1 y2 y3 y4 y5 y6 => S7.rec (motive := fun _ => Fm) (fun z0 z1 _ z3 z4 z5 z6 => ⟨x0, ⟨y0, y1, y2, y3, ⟨z0, z1, v, z3, z4, z5, z6⟩, y5, y6⟩, x2, x3, x4, x5, x6⟩) y4) x1) q
noncomputable def w80 : W := fun q v => S7.rec (motive := fun _ => Fm) (fun x0 x1 x2 x3 x4 x5 x6 => S7.rec (motive := fun _ => Fm) (fun y0 y1 y2 y3 y4 y5 y6 => S7.rec (motive := fun _ => Fm) (fun z0 z1 z2 _ z4 z5 z6 => ⟨x0, ⟨y0, y1, y2, y3, ⟨z0, z1, z2, v, z4, z5, z6⟩, y5, y6⟩, x2, x3, x4, x5, x6⟩) y4) x1) q
noncomputable def w81 : W := fun q v => S7.rec (motive := fun _ => Fm) (fun x0 x1 x2 x3 x4 x5 x6 => S7.rec (motive := fun _ => Fm) (fun y0 y1 y2 y3 y4 y5 y6 => S7.rec (motive := fun _ => Fm) (fun z0 z1 z2 z3 _ z5 z6 => ⟨x0, ⟨y0, y1, y2, y3, ⟨z0, z1, z2, z3, v, z5, z6⟩, y5, y6⟩, x2, x3, x4, x5, x6⟩) y4) x1) q
noncomputable def w82 : W := fun q v => S7.rec (motive := fun _ => Fm) (fun x0 x1 x2 x3 x4 x5 x6 => S7.rec (motive := fun _ => Fm) (fun y0 y1 y2 y3 y4 y5 y6 => S7.rec (motive := fun _ => Fm) (fun z0 z1 z2 z3 z4 _ z6 => ⟨x0, ⟨y0, y1, y2, y3, ⟨z0, z1, z2, z3, z4, v, z6⟩, y5, y6⟩, x2, x3, x4, x5, x6⟩) y4) x1) q
noncomputable def w83 : W := fun q v => S7.rec (motive := fun _ => Fm) (fun x0 x1 x2 x3 x4 x5 x6 => S7.rec (motive := fun _ => Fm) (fun y0 y1 y2 y3 y4 y5 y6 => S7.rec (motive := fun _ => Fm) (fun z0 z1 z2 z3 z4 z5 _ => ⟨x0, ⟨y0, y1, y2, y3, ⟨z0, z1, z2, z3, z4, z5, v⟩, y5, y6⟩, x2, x3, x4, x5, x6⟩) y4) x1) q
noncomputable def w84 : W := fun q v => S7.rec (motive := fun _ => Fm) (fun x0 x1 x2 x3 x4 x5 x6 => S7.rec (motive := fun _ => Fm) (fun y0 y1 y2 y3 y4 y5 y6 => S7.rec (motive := fun _ => Fm) (fun _ z1 z2 z3 z4 z5 z6 => ⟨x0, ⟨y0, y1, y2, y3, y4, ⟨v, z1, z2, z3, z4, z5, z6⟩, y6⟩, x2, x3, x4, x5, x6⟩) y5) x1) q
noncomputable def w85 : W := fun q v => S7.rec (motive := fun _ => Fm) (fun x0 x1 x2 x3 x4 x5 x6 => S7.rec (motive := fun _ => Fm) (fun y0 y1 y2 y3 y4 y5 y6 => S7.rec (motive := fun _ => Fm) (fun z0 _ z2 z3 z4 z5 z6 => ⟨x0, ⟨y0, y1, y2, y3, y4, ⟨z0, v, z2, z3, z4, z5, z6⟩, y6⟩, x2, x3, x4, x5, x6⟩) y5) x1) q
noncomputable def w86 : W := fun q v => S7.rec (motive := fun _ => Fm) (fun x0 x1 x2 x3 x4 x5 x6 => S7.rec (motive := fun _ => Fm) (fun y0 y1 y2 y3 y4 y5 y6 => S7.rec (motive := fun _ => Fm) (fun z0 z1 _ z3 z4 z5 z6 => ⟨x0, ⟨y0, y1, y2, y3, y4, ⟨z0, z1, v, z3, z4, z5, z6⟩, y6⟩, x2, x3, x4, x5, x6⟩) y5) x1) q
noncomputable def w87 : W := fun q v => S7.rec (motive := fun _ => Fm) (fun x0 x1 x2 x3 x4 x5 x6 => S7.rec (motive := fun _ => Fm) (fun y0 y1 y2 y3 y4 y5 y6 => S7.rec (motive := fun _ => Fm) (fun z0 z1 z2 _ z4 z5 z6 => ⟨x0, ⟨y0, y1, y2, y3, y4, ⟨z0, z1, z2, v, z4, z5, z6⟩, y6⟩, x2, x3, x4, x5, x6⟩) y5) x1) q
noncomputable def w88 : W := fun q v => S7.rec (motive := fun _ => Fm) (fun x0 x1 x2 x3 x4 x5 x6 => S7.rec (motive := fun _ => Fm) (fun y0 y1 y2 y3 y4 y5 y6 => S7.rec (motive := fun _ => Fm) (fun z0 z1 z2 z3 _ z5 z6 => ⟨x0, ⟨y0, y1, y2, y3, y4, ⟨z0, z1, z2, z3, v, z5, z6⟩, y6⟩, x2, x3, x4, x5, x6⟩) y5) x1) q
noncomputable def w89 : W := fun q v => S7.rec (motive := fun _ => Fm) (fun x0 x1 x2 x3 x4 x5 x6 => S7.rec (motive := fun _ => Fm) (fun y0 y1 y2 y3 y4 y5 y6 => S7.rec (motive := fun _ => Fm) (fun z0 z1 z2 z3 z4 _ z6 => ⟨x0, ⟨y0, y1, y2, y3, y4, ⟨z0, z1, z2, z3, z4, v, z6⟩, y6⟩, x2, x3, x4, x5, x6⟩) y5) x1) q
noncomputable def w90 : W := fun q v => S7.rec (motive := fun _ => Fm) (fun x0 x1 x2 x3 x4 x5 x6 => S7.rec (motive := fun _ => Fm) (fun y0 y1 y2 y3 y4 y5 y6 => S7.rec (motive := fun _ => Fm) (fun z0 z1 z2 z3 z4 z5 _ => ⟨x0, ⟨y0, y1, y2, y3, y4, ⟨z0, z1, z2, z3, z4, z5, v⟩, y6⟩, x2, x3, x4, x5, x6⟩) y5) x1) q
noncomputable def w91 : W := fun q v => S7.rec (motive := fun _ => Fm) (fun x0 x1 x2 x3 x4 x5 x6 => S7.rec (motive := fun _ => Fm) (fun y0 y1 y2 y3 y4 y5 y6 => S7.rec (motive := fun _ => Fm) (fun _ z1 z2 z3 z4 z5 z6 => ⟨x0, ⟨y0, y1, y2, y3, y4, y5, ⟨v, z1, z2, z3, z4, z5, z6⟩⟩, x2, x3, x4, x5, x6⟩) y6) x1) q
noncomputable def w92 : W := fun q v => S7.rec (motive := fun _ => Fm) (fun x0 x1 x2 x3 x4 x5 x6 => S7.rec (motive := fun _ => Fm) (fun y0 y1 y2 y3 y4 y5 y6 => S7.rec (motive := fun _ => Fm) (fun z0 _ z2 z3 z4 z5 z6 => ⟨x0, ⟨y0, y1, y2, y3, y4, y5, ⟨z0, v, z2, z3, z4, z5, z6⟩⟩, x2, x3, x4, x5, x6⟩) y6) x1) q
noncomputable def w93 : W := fun q v => S7.rec (motive := fun _ => Fm) (fun x0 x1 x2 x3 x4 x5 x6 => S7.rec (motive := fun _ => Fm) (fun y0 y1 y2 y3 y4 y5 y6 => S7.rec (motive := fun _ => Fm) (fun z0 z1 _ z3 z4 z5 z6 => ⟨x0, ⟨y0, y1, y2, y3, y4, y5, ⟨z0, z1, v, z3, z4, z5, z6⟩⟩, x2, x3, x4, x5, x6⟩) y6) x1) q
noncomputable def w94 : W := fun q v => S7.rec (motive := fun _ => Fm) (fun x0 x1 x2 x3 x4 x5 x6 => S7.rec (motive := fun _ => Fm) (fun y0 y1 y2 y3 y4 y5 y6 => S7.rec (motive := fun _ => Fm) (fun z0 z1 z2 _ z4 z5 z6 => ⟨x0, ⟨y0, y1, y2, y3, y4, y5, ⟨z0, z1, z2, v, z4, z5, z6⟩⟩, x2, x3, x4, x5, x6⟩) y6) x1) q
noncomputable def w95 : W := fun q v => S7.rec (motive := fun _ => Fm) (fun x0 x1 x2 x3 x4 x5 x6 => S7.rec (motive := fun _ => Fm) (fun y0 y1 y2 y3 y4 y5 y6 => S7.rec (motive := fun _ => Fm) (fun z0 z1 z2 z3 _ z5 z6 => ⟨x0, ⟨y0, y1, y2, y3, y4, y5, ⟨z0, z1, z2, z3, v, z5, z6⟩⟩, x2, x3, x4, x5, x6⟩) y6) x1) q
noncomputable def w96 : W := fun q v => S7.rec (motive := fun _ => Fm) (fun x0 x1 x2 x3 x4 x5 x6 => S7.rec (motive := fun _ => Fm) (fun y0 y1 y2 y3 y4 y5 y6 => S7.rec (motive := fun _ => Fm) (fun z0 z1 z2 z3 z4 _ z6 => ⟨x0, ⟨y0, y1, y2, y3, y4, y5, ⟨z0, z1, z2, z3, z4, v, z6⟩⟩, x2, x3, x4, x5, x6⟩) y6) x1) q
noncomputable def w97 : W := fun q v => S7.rec (motive := fun _ => Fm) (fun x0 x1 x2 x3 x4 x5 x6 => S7.rec (motive := fun _ => Fm) (fun y0 y1 y2 y3 y4 y5 y6 => S7.rec (motive := fun _ => Fm) (fun z0 z1 z2 z3 z4 z5 _ => ⟨x0, ⟨y0, y1, y2, y3, y4, y5, ⟨z0, z1, z2, z3, z4, z5, v⟩⟩, x2, x3, x4, x5, x6⟩) y6) x1) q
noncomputable def w98 : W := fun q v => S7.rec (motive := fun _ => Fm) (fun x0 x1 x2 x3 x4 x5 x6 => S7.rec (motive := fun _ => Fm) (fun y0 y1 y2 y3 y4 y5 y6 => S7.rec (motive := fun _ => Fm) (fun _ z1 z2 z3 z4 z5 z6 => ⟨x0, x1, ⟨⟨v, z1, z2, z3, z4, z5, z6⟩, y1, y2, y3, y4, y5, y6⟩, x3, x4, x5, x6⟩) y0) x2) q
noncomputable def w99 : W := fun q v => S7.rec (motive := fun _ => Fm) (fun x0 x1 x2 x3 x4 x5 x6 => S7.rec (motive := fun _ => Fm) (fun y0 y1 y2 y3 y4 y5 y6 => S7.rec (motive := fun _ => Fm) (fun z0 _ z2 z3 z4 z5 z6 => ⟨x0, x1, ⟨⟨z0, v, z2, z3, z4, z5, z6⟩, y1, y2, y3, y4, y5, y6⟩, x3, x4, x5, x6⟩) y0) x2) q
noncomputable def w100 : W := fun q v => S7.rec (motive := fun _ => Fm) (fun x0 x1 x2 x3 x4 x5 x6 => S7.rec (motive := fun _ => Fm) (fun y0 y1 y2 y3 y4 y5 y6 => S7.rec (motive := fun _ => Fm) (fun z0 z1 _ z3 z4 z5 z6 => ⟨x0, x1, ⟨⟨z0, z1, v, z3, z4, z5, z6⟩, y1, y2, y3, y4, y5, y6⟩, x3, x4, x5, x6⟩) y0) x2) q
noncomputable def w101 : W := fun q v => S7.rec (motive := fun _ => Fm) (fun x0 x1 x2 x3 x4 x5 x6 => S7.rec (motive := fun _ => Fm) (fun y0 y1 y2 y3 y4 y5 y6 => S7.rec (motive := fun _ => Fm) (fun z0 z1 z2 _ z4 z5 z6 => ⟨x0, x1, ⟨⟨z0, z1, z2, v, z4, z5, z6⟩, y1, y2, y3, y4, y5, y6⟩, x3, x4, x5, x6⟩) y0) x2) q
noncomputable def w102 : W := fun q v => S7.rec (motive := fun _ => Fm) (fun x0 x1 x2 x3 x4 x5 x6 => S7.rec (motive := fun _ => Fm) (fun y0 y1 y2 y3 y4 y5 y6 => S7.rec (motive := fun _ => Fm) (fun z0 z1 z2 z3 _ z5 z6 => ⟨x0, x1, ⟨⟨z0, z1, z2, z3, v, z5, z6⟩, y1, y2, y3, y4, y5, y6⟩, x3, x4, x5, x6⟩) y0) x2) q
noncomputable def w103 : W := fun q v => S7.rec (motive := fun _ => Fm) (fun x0 x1 x2 x3 x4 x5 x6 => S7.rec (motive := fun _ => Fm) (fun y0 y1 y2 y3 y4 y5 y6 => S7.rec (motive := fun _ => Fm) (fun z0 z1 z2 z3 z4 _ z6 => ⟨x0, x1, ⟨⟨z0, z1, z2, z3, z4, v, z6⟩, y1, y2, y3, y4, y5, y6⟩, x3, x4, x5, x6⟩) y0) x2) q
noncomputable def w104 : W := fun q v => S7.rec (motive := fun _ => Fm) (fun x0 x1 x2 x3 x4 x5 x6 => S7.rec (motive := fun _ => Fm) (fun y0 y1 y2 y3 y4 y5 y6 => S7.rec (motive := fun _ => Fm) (fun z0 z1 z2 z3 z4 z5 _ => ⟨x0, x1, ⟨⟨z0, z1, z2, z3, z4, z5, v⟩, y1, y2, y3, y4, y5, y6⟩, x3, x4, x5, x6⟩) y0) x2) q
noncomputable def w105 : W := fun q v => S7.rec (motive := fun _ => Fm) (fun x0 x1 x2 x3 x4 x5 x6 => S7.rec (motive := fun _ => Fm) (fun y0 y1 y2 y3 y4 y5 y6 => S7.rec (motive := fun _ => Fm) (fun _ z1 z2 z3 z4 z5 z6 => ⟨x0, x1, ⟨y0, ⟨v, z1, z2, z3, z4, z5, z6⟩, y2, y3, y4, y5, y6⟩, x3, x4, x5, x6⟩) y1) x2) q
noncomputable def w106 : W := fun q v => S7.rec (motive := fun _ => Fm) (fun x0 x1 x2 x3 x4 x5 x6 => S7.rec (motive := fun _ => Fm) (fun y0 y1 y2 y3 y4 y5 y6 => S7.rec (motive := fun _ => Fm) (fun z0 _ z2 z3 z4 z5 z6 => ⟨x0, x1, ⟨y0, ⟨z0, v, z2, z3, z4, z5, z6⟩, y2, y3, y4, y5, y6⟩, x3, x4, x5, x6⟩) y1) x2) q
noncomputable def w107 : W := fun q v => S7.rec (motive := fun _ => Fm) (fun x0 x1 x2 x3 x4 x5 x6 => S7.rec (motive := fun _ => Fm) (fun y0 y1 y2 y3 y4 y5 y6 => S7.rec (motive := fun _ => Fm) (fun z0 z1 _ z3 z4 z5 z6 => ⟨x0, x1, ⟨y0, ⟨z0, z1, v, z3, z4, z5, z6⟩, y2, y3, y4, y5, y6⟩, x3, x4, x5, x6⟩) y1) x2) q
noncomputable def w108 : W := fun q v => S7.rec (motive := fun _ => Fm) (fun x0 x1 x2 x3 x4 x5 x6 => S7.rec (motive := fun _ => Fm) (fun y0 y1 y2 y3 y4 y5 y6 => S7.rec (motive := fun _ => Fm) (fun z0 z1 z2 _ z4 z5 z6 => ⟨x0, x1, ⟨y0, ⟨z0, z1, z2, v, z4, z5, z6⟩, y2, y3, y4, y5, y6⟩, x3, x4, x5, x6⟩) y1) x2) q
noncomputable def w109 : W := fun q v => S7.rec (motive := fun _ => Fm) (fun x0 x1 x2 x3 x4 x5 x6 => S7.rec (motive := fun _ => Fm) (fun y0 y1 y2 y3 y4 y5 y6 => S7.rec (motive := fun _ => Fm) (fun z0 z1 z2 z3 _ z5 z6 => ⟨x0, x1, ⟨y0, ⟨z0, z1, z2, z3, v, z5, z6⟩, y2, y3, y4, y5, y6⟩, x3, x4, x5, x6⟩) y1) x2) q
noncomputable def w110 : W := fun q v => S7.rec (motive := fun _ => Fm) (fun x0 x1 x2 x3 x4 x5 x6 => S7.rec (motive := fun _ => Fm) (fun y0 y1 y2 y3 y4 y5 y6 => S7.rec (motive := fun _ => Fm) (fun z0 z1 z2 z3 z4 _ z6 => ⟨x0, x1, ⟨y0, ⟨z0, z1, z2, z3, z4, v, z6⟩, y2, y3, y4, y5, y6⟩, x3, x4, x5, x6⟩) y1) x2) q
noncomputable def w111 : W := fun q v => S7.rec (motive := fun _ => Fm) (fun x0 x1 x2 x3 x4 x5 x6 => S7.rec (motive := fun _ => Fm) (fun y0 y1 y2 y3 y4 y5 y6 => S7.rec (motive := fun _ => Fm) (fun z0 z1 z2 z3 z4 z5 _ => ⟨x0, x1, ⟨y0, ⟨z0, z1, z2, z3, z4, z5, v⟩, y2, y3, y4, y5, y6⟩, x3, x4, x5, x6⟩) y1) x2) q
noncomputable def w112 : W := fun q v => S7.rec (motive := fun _ => Fm) (fun x0 x1 x2 x3 x4 x5 x6 => S7.rec (motive := fun _ => Fm) (fun y0 y1 y2 y3 y4 y5 y6 => S7.rec (motive := fun _ => Fm) (fun _ z1 z2 z3 z4 z5 z6 => ⟨x0, x1, ⟨y0, y1, ⟨v, z1, z2, z3, z4, z5, z6⟩, y3, y4, y5, y6⟩, x3, x4, x5, x6⟩) y2) x2) q
noncomputable def w113 : W := fun q v => S7.rec (motive := fun _ => Fm) (fun x0 x1 x2 x3 x4 x5 x6 => S7.rec (motive := fun _ => Fm) (fun y0 y1 y2 y3 y4 y5 y6 => S7.rec (motive := fun _ => Fm) (fun z0 _ z2 z3 z4 z5 z6 => ⟨x0, x1, ⟨y0, y1, ⟨z0, v, z2, z3, z4, z5, z6⟩, y3, y4, y5, y6⟩, x3, x4, x5, x6⟩) y2) x2) q
noncomputable def w114 : W := fun q v => S7.rec (motive := fun _ => Fm) (fun x0 x1 x2 x3 x4 x5 x6 => S7.rec (motive := fun _ => Fm) (fun y0 y1 y2 y3 y4 y5 y6 => S7.rec (motive := fun _ => Fm) (fun z0 z1 _ z3 z4 z5 z6 => ⟨x0, x1, ⟨y0, y1, ⟨z0, z1, v, z3, z4, z5, z6⟩, y3, y4, y5, y6⟩, x3, x4, x5, x6⟩) y2) x2) q
noncomputable def w115 : W := fun q v => S7.rec (motive := fun _ => Fm) (fun x0 x1 x2 x3 x4 x5 x6 => S7.rec (motive := fun _ => Fm) (fun y0 y1 y2 y3 y4 y5 y6 => S7.rec (motive := fun _ => Fm) (fun z0 z1 z2 _ z4 z5 z6 => ⟨x0, x1, ⟨y0, y1, ⟨z0, z1, z2, v, z4, z5, z6⟩, y3, y4, y5, y6⟩, x3, x4, x5, x6⟩) y2) x2) q
noncomputable def w116 : W := fun q v => S7.rec (motive := fun _ => Fm) (fun x0 x1 x2 x3 x4 x5 x6 => S7.rec (motive := fun _ => Fm) (fun y0 y1 y2 y3 y4 y5 y6 => S7.rec (motive := fun _ => Fm) (fun z0 z1 z2 z3 _ z5 z6 => ⟨x0, x1, ⟨y0, y1, ⟨z0, z1, z2, z3, v, z5, z6⟩, y3, y4, y5, y6⟩, x3, x4, x5, x6⟩) y2) x2) q
noncomputable def w117 : W := fun q v => S7.rec (motive := fun _ => Fm) (fun x0 x1 x2 x3 x4 x5 x6 => S7.rec (motive := fun _ => Fm) (fun y0 y1 y2 y3 y4 y5 y6 => S7.rec (motive := fun _ => Fm) (fun z0 z1 z2 z3 z4 _ z6 => ⟨x0, x1, ⟨y0, y1, ⟨z0, z1, z2, z3, z4, v, z6⟩, y3, y4, y5, y6⟩, x3, x4, x5, x6⟩) y2) x2) q
noncomputable def w118 : W := fun q v => S7.rec (motive := fun _ => Fm) (fun x0 x1 x2 x3 x4 x5 x6 => S7.rec (motive := fun _ => Fm) (fun y0 y1 y2 y3 y4 y5 y6 => S7.rec (motive := fun _ => Fm) (fun z0 z1 z2 z3 z4 z5 _ => ⟨x0, x1, ⟨y0, y1, ⟨z0, z1, z2, z3, z4, z5, v⟩, y3, y4, y5, y6⟩, x3, x4, x5, x6⟩) y2) x2) q
noncomputable def w119 : W := fun q v => S7.rec (motive := fun _ => Fm) (fun x0 x1 x2 x3 x4 x5 x6 => S7.rec (motive := fun _ => Fm) (fun y0 y1 y2 y3 y4 y5 y6 => S7.rec (motive := fun _ => Fm) (fun _ z1 z2 z3 z4 z5 z6 => ⟨x0, x1, ⟨y0, y1, y2, ⟨v, z1, z2, z3, z4, z5, z6⟩, y4, y5, y6⟩, x3, x4, x5, x6⟩) y3) x2) q
noncomputable def w120 : W := fun q v => S7.rec (motive := fun _ => Fm) (fun x0 x1 x2 x3 x4 x5 x6 => S7.rec (motive := fun _ => Fm) (fun y0 y1 y2 y3 y4 y5 y6 => S7.rec (motive := fun _ => Fm) (fun z0 _ z2 z3 z4 z5 z6 => ⟨x0, x1, ⟨y0, y1, y2, ⟨z0, v, z2, z3, z4, z5, z6⟩, y4, y5, y6⟩, x3, x4, x5, x6⟩) y3) x2) q
noncomputable def w121 : W := fun q v => S7.rec (motive := fun _ => Fm) (fun x0 x1 x2 x3 x4 x5 x6 => S7.rec (motive := fun _ => Fm) (fun y0 y1 y2 y3 y4 y5 y6 => S7.rec (motive := fun _ => Fm) (fun z0 z1 _ z3 z4 z5 z6 => ⟨x0, x1, ⟨y0, y1, y2, ⟨z0, z1, v, z3, z4, z5, z6⟩, y4, y5, y6⟩, x3, x4, x5, x6⟩) y3) x2) q
noncomputable def w122 : W := fun q v => S7.rec (motive := fun _ => Fm) (fun x0 x1 x2 x3 x4 x5 x6 => S7.rec (motive := fun _ => Fm) (fun y0 y1 y2 y3 y4 y5 y6 => S7.rec (motive := fun _ => Fm) (fun z0 z1 z2 _ z4 z5 z6 => ⟨x0, x1, ⟨y0, y1, y2, ⟨z0, z1, z2, v, z4, z5, z6⟩, y4, y5, y6⟩, x3, x4, x5, x6⟩) y3) x2) q
noncomputable def w123 : W := fun q v => S7.rec (motive := fun _ => Fm) (fun x0 x1 x2 x3 x4 x5 x6 => S7.rec (motive := fun _ => Fm) (fun y0 y1 y2 y3 y4 y5 y6 => S7.rec (motive := fun _ => Fm) (fun z0 z1 z2 z3 _ z5 z6 => ⟨x0, x1, ⟨y0, y1, y2, ⟨z0, z1, z2, z3, v, z5, z6⟩, y4, y5, y6⟩, x3, x4, x5, x6⟩) y3) x2) q
noncomputable def w124 : W := fun q v => S7.rec (motive := fun _ => Fm) (fun x0 x1 x2 x3 x4 x5 x6 => S7.rec (motive := fun _ => Fm) (fun y0 y1 y2 y3 y4 y5 y6 => S7.rec (motive := fun _ => Fm) (fun z0 z1 z2 z3 z4 _ z6 => ⟨x0, x1, ⟨y0, y1, y2, ⟨z0, z1, z2, z3, z4, v, z6⟩, y4, y5, y6⟩, x3, x4, x5, x6⟩) y3) x2) q
noncomputable def w125 : W := fun q v => S7.rec (motive := fun _ => Fm) (fun x0 x1 x2 x3 x4 x5 x6 => S7.rec (motive := fun _ => Fm) (fun y0 y1 y2 y3 y4 y5 y6 => S7.rec (motive := fun _ => Fm) (fun z0 z1 z2 z3 z4 z5 _ => ⟨x0, x1, ⟨y0, y1, y2, ⟨z0, z1, z2, z3, z4, z5, v⟩, y4, y5, y6⟩, x3, x4, x5, x6⟩) y3) x2) q
noncomputable def w126 : W := fun q v => S7.rec (motive := fun _ => Fm) (fun x0 x1 x2 x3 x4 x5 x6 => S7.rec (motive := fun _ => Fm) (fun y0 y1 y2 y3 y4 y5 y6 => S7.rec (motive := fun _ => Fm) (fun _ z1 z2 z3 z4 z5 z6 => ⟨x0, x1, ⟨y0, y1, y2, y3, ⟨v, z1, z2, z3, z4, z5, z6⟩, y5, y6⟩, x3, x4, x5, x6⟩) y4) x2) q
noncomputable def w127 : W := fun q v => S7.rec (motive := fun _ => Fm) (fun x0 x1 x2 x3 x4 x5 x6 => S7.rec (motive := fun _ => Fm) (fun y0 y1 y2 y3 y4 y5 y6 => S7.rec (motive := fun _ => Fm) (fun z0 _ z2 z3 z4 z5 z6 => ⟨x0, x1, ⟨y0, y1, y2, y3, ⟨z0, v, z2, z3, z4, z5, z6⟩, y5, y6⟩, x3, x4, x5, x6⟩) y4) x2) q
noncomputable def w128 : W := fun q v => S7.rec (motive := fun _ => Fm) (fun x0 x1 x2 x3 x4 x5 x6 => S7.rec (motive := fun _ => Fm) (fun y0 y1 y2 y3 y4 y5 y6 => S7.rec (motive := fun _ => Fm) (fun z0 z1 _ z3 z4 z5 z6 => ⟨x0, x1, ⟨y0, y1, y2, y3, ⟨z0, z1, v, z3, z4, z5, z6⟩, y5, y6⟩, x3, x4, x5, x6⟩) y4) x2) q
noncomputable def w129 : W := fun q v => S7.rec (motive := fun _ => Fm) (fun x0 x1 x2 x3 x4 x5 x6 => S7.rec (motive := fun _ => Fm) (fun y0 y1 y2 y3 y4 y5 y6 => S7.rec (motive := fun _ => Fm) (fun z0 z1 z2 _ z4 z5 z6 => ⟨x0, x1, ⟨y0, y1, y2, y3, ⟨z0, z1, z2, v, z4, z5, z6⟩, y5, y6⟩, x3, x4, x5, x6⟩) y4) x2) q
noncomputable def w130 : W := fun q v => S7.rec (motive := fun _ => Fm) (fun x0 x1 x2 x3 x4 x5 x6 => S7.rec (motive := fun _ => Fm) (fun y0 y1 y2 y3 y4 y5 y6 => S7.rec (motive := fun _ => Fm) (fun z0 z1 z2 z3 _ z5 z6 => ⟨x0, x1, ⟨y0, y1, y2, y3, ⟨z0, z1, z2, z3, v, z5, z6⟩, y5, y6⟩, x3, x4, x5, x6⟩) y4) x2) q
noncomputable def w131 : W := fun q v => S7.rec (motive := fun _ => Fm) (fun x0 x1 x2 x3 x4 x5 x6 => S7.rec (motive := fun _ => Fm) (fun y0 y1 y2 y3 y4 y5 y6 => S7.rec (motive := fun _ => Fm) (fun z0 z1 z2 z3 z4 _ z6 => ⟨x0, x1, ⟨y0, y1, y2, y3, ⟨z0, z1, z2, z3, z4, v, z6⟩, y5, y6⟩, x3, x4, x5, x6⟩) y4) x2) q
noncomputable def w132 : W := fun q v => S7.rec (motive := fun _ => Fm) (fun x0 x1 x2 x3 x4 x5 x6 => S7.rec (motive := fun _ => Fm) (fun y0 y1 y2 y3 y4 y5 y6 => S7.rec (motive := fun _ => Fm) (fun z0 z1 z2 z3 z4 z5 _ => ⟨x0, x1, ⟨y0, y1, y2, y3, ⟨z0, z1, z2, z3, z4, z5, v⟩, y5, y6⟩, x3, x4, x5, x6⟩) y4) x2) q
noncomputable def w133 : W := fun q v => S7.rec (motive := fun _ => Fm) (fun x0 x1 x2 x3 x4 x5 x6 => S7.rec (motive := fun _ => Fm) (fun y0 y1 y2 y3 y4 y5 y6 => S7.rec (motive := fun _ => Fm) (fun _ z1 z2 z3 z4 z5 z6 => ⟨x0, x1, ⟨y0, y1, y2, y3, y4, ⟨v, z1, z2, z3, z4, z5, z6⟩, y6⟩, x3, x4, x5, x6⟩) y5) x2) q
noncomputable def w134 : W := fun q v => S7.rec (motive := fun _ => Fm) (fun x0 x1 x2 x3 x4 x5 x6 => S7.rec (motive := fun _ => Fm) (fun y0 y1 y2 y3 y4 y5 y6 => S7.rec (motive := fun _ => Fm) (fun z0 _ z2 z3 z4 z5 z6 => ⟨x0, x1, ⟨y0, y1, y2, y3, y4, ⟨z0, v, z2, z3, z4, z5, z6⟩, y6⟩, x3, x4, x5, x6⟩) y5) x2) q
noncomputable def w135 : W := fun q v => S7.rec (motive := fun _ => Fm) (fun x0 x1 x2 x3 x4 x5 x6 => S7.rec (motive := fun _ => Fm) (fun y0 y1 y2 y3 y4 y5 y6 => S7.rec (motive := fun _ => Fm) (fun z0 z1 _ z3 z4 z5 z6 => ⟨x0, x1, ⟨y0, y1, y2, y3, y4, ⟨z0, z1, v, z3, z4, z5, z6⟩, y6⟩, x3, x4, x5, x6⟩) y5) x2) q
noncomputable def w136 : W := fun q v => S7.rec (motive := fun _ => Fm) (fun x0 x1 x2 x3 x4 x5 x6 => S7.rec (motive := fun _ => Fm) (fun y0 y1 y2 y3 y4 y5 y6 => S7.rec (motive := fun _ => Fm) (fun z0 z1 z2 _ z4 z5 z6 => ⟨x0, x1, ⟨y0, y1, y2, y3, y4, ⟨z0, z1, z2, v, z4, z5, z6⟩, y6⟩, x3, x4, x5, x6⟩) y5) x2) q
noncomputable def w137 : W := fun q v => S7.rec (motive := fun _ => Fm) (fun x0 x1 x2 x3 x4 x5 x6 => S7.rec (motive := fun _ => Fm) (fun y0 y1 y2 y3 y4 y5 y6 => S7.rec (motive := fun _ => Fm) (fun z0 z1 z2 z3 _ z5 z6 => ⟨x0, x1, ⟨y0, y1, y2, y3, y4, ⟨z0, z1, z2, z3, v, z5, z6⟩, y6⟩, x3, x4, x5, x6⟩) y5) x2) q
noncomputable def w138 : W := fun q v => S7.rec (motive := fun _ => Fm) (fun x0 x1 x2 x3 x4 x5 x6 => S7.rec (motive := fun _ => Fm) (fun y0 y1 y2 y3 y4 y5 y6 => S7.rec (motive := fun _ => Fm) (fun z0 z1 z2 z3 z4 _ z6 => ⟨x0, x1, ⟨y0, y1, y2, y3, y4, ⟨z0, z1, z2, z3, z4, v, z6⟩, y6⟩, x3, x4, x5, x6⟩) y5) x2) q
noncomputable def w139 : W := fun q v => S7.rec (motive := fun _ => Fm) (fun x0 x1 x2 x3 x4 x5 x6 => S7.rec (motive := fun _ => Fm) (fun y0 y1 y2 y3 y4 y5 y6 => S7.rec (motive := fun _ => Fm) (fun z0 z1 z2 z3 z4 z5 _ => ⟨x0, x1, ⟨y0, y1, y2, y3, y4, ⟨z0, z1, z2, z3, z4, z5, v⟩, y6⟩, x3, x4, x5, x6⟩) y5) x2) q
noncomputable def w140 : W := fun q v => S7.rec (motive := fun _ => Fm) (fun x0 x1 x2 x3 x4 x5 x6 => S7.rec (motive := fun _ => Fm) (fun y0 y1 y2 y3 y4 y5 y6 => S7.rec (motive := fun _ => Fm) (fun _ z1 z2 z3 z4 z5 z6 => ⟨x0, x1, ⟨y0, y1, y2, y3, y4, y5, ⟨v, z1, z2, z3, z4, z5, z6⟩⟩, x3, x4, x5, x6⟩) y6) x2) q
noncomputable def w141 : W := fun q v => S7.rec (motive := fun _ => Fm) (fun x0 x1 x2 x3 x4 x5 x6 => S7.rec (motive := fun _ => Fm) (fun y0 y1 y2 y3 y4 y5 y6 => S7.rec (motive := fun _ => Fm) (fun z0 _ z2 z3 z4 z5 z6 => ⟨x0, x1, ⟨y0, y1, y2, y3, y4, y5, ⟨z0, v, z2, z3, z4, z5, z6⟩⟩, x3, x4, x5, x6⟩) y6) x2) q
noncomputable def w142 : W := fun q v => S7.rec (motive := fun _ => Fm) (fun x0 x1 x2 x3 x4 x5 x6 => S7.rec (motive := fun _ => Fm) (fun y0 y1 y2 y3 y4 y5 y6 => S7.rec (motive := fun _ => Fm) (fun z0 z1 _ z3 z4 z5 z6 => ⟨x0, x1, ⟨y0, y1, y2, y3, y4, y5, ⟨z0, z1, v, z3, z4, z5, z6⟩⟩, x3, x4, x5, x6⟩) y6) x2) q
noncomputable def w143 : W := fun q v => S7.rec (motive := fun _ => Fm) (fun x0 x1 x2 x3 x4 x5 x6 => S7.rec (motive := fun _ => Fm) (fun y0 y1 y2 y3 y4 y5 y6 => S7.rec (motive := fun _ => Fm) (fun z0 z1 z2 _ z4 z5 z6 => ⟨x0, x1, ⟨y0, y1, y2, y3, y4, y5, ⟨z0, z1, z2, v, z4, z5, z6⟩⟩, x3, x4, x5, x6⟩) y6) x2) q
noncomputable def w144 : W := fun q v => S7.rec (motive := fun _ => Fm) (fun x0 x1 x2 x3 x4 x5 x6 => S7.rec (motive := fun _ => Fm) (fun y0 y1 y2 y3 y4 y5 y6 => S7.rec (motive := fun _ => Fm) (fun z0 z1 z2 z3 _ z5 z6 => ⟨x0, x1, ⟨y0, y1, y2, y3, y4, y5, ⟨z0, z1, z2, z3, v, z5, z6⟩⟩, x3, x4, x5, x6⟩) y6) x2) q
noncomputable def w145 : W := fun q v => S7.rec (motive := fun _ => Fm) (fun x0 x1 x2 x3 x4 x5 x6 => S7.rec (motive := fun _ => Fm) (fun y0 y1 y2 y3 y4 y5 y6 => S7.rec (motive := fun _ => Fm) (fun z0 z1 z2 z3 z4 _ z6 => ⟨x0, x1, ⟨y0, y1, y2, y3, y4, y5, ⟨z0, z1, z2, z3, z4, v, z6⟩⟩, x3, x4, x5, x6⟩) y6) x2) q
noncomputable def w146 : W := fun q v => S7.rec (motive := fun _ => Fm) (fun x0 x1 x2 x3 x4 x5 x6 => S7.rec (motive := fun _ => Fm) (fun y0 y1 y2 y3 y4 y5 y6 => S7.rec (motive := fun _ => Fm) (fun z0 z1 z2 z3 z4 z5 _ => ⟨x0, x1, ⟨y0, y1, y2, y3, y4, y5, ⟨z0, z1, z2, z3, z4, z5, v⟩⟩, x3, x4, x5, x6⟩) y6) x2) q
noncomputable def w147 : W := fun q v => S7.rec (motive := fun _ => Fm) (fun x0 x1 x2 x3 x4 x5 x6 => S7.rec (motive := fun _ => Fm) (fun y0 y1 y2 y3 y4 y5 y6 => S7.rec (motive := fun _ => Fm) (fun _ z1 z2 z3 z4 z5 z6 => ⟨x0, x1, x2, ⟨⟨v, z1, z2, z3, z4, z5, z6⟩, y1, y2, y3, y4, y5, y6⟩, x4, x5, x6⟩) y0) x3) q
noncomputable def w148 : W := fun q v => S7.rec (motive := fun _ => Fm) (fun x0 x1 x2 x3 x4 x5 x6 => S7.rec (motive := fun _ => Fm) (fun y0 y1 y2 y3 y4 y5 y6 => S7.rec (motive := fun _ => Fm) (fun z0 _ z2 z3 z4 z5 z6 => ⟨x0, x1, x2, ⟨⟨z0, v, z2, z3, z4, z5, z6⟩, y1, y2, y3, y4, y5, y6⟩, x4, x5, x6⟩) y0) x3) q
noncomputable def w149 : W := fun q v => S7.rec (motive := fun _ => Fm) (fun x0 x1 x2 x3 x4 x5 x6 => S7.rec (motive := fun _ => Fm) (fun y0 y1 y2 y3 y4 y5 y6 => S7.rec (motive := fun _ => Fm) (fun z0 z1 _ z3 z4 z5 z6 => ⟨x0, x1, x2, ⟨⟨z0, z1, v, z3, z4, z5, z6⟩, y1, y2, y3, y4, y5, y6⟩, x4, x5, x6⟩) y0) x3) q
noncomputable def w150 : W := fun q v => S7.rec (motive := fun _ => Fm) (fun x0 x1 x2 x3 x4 x5 x6 => S7.rec (motive := fun _ => Fm) (fun y0 y1 y2 y3 y4 y5 y6 => S7.rec (motive := fun _ => Fm) (fun z0 z1 z2 _ z4 z5 z6 => ⟨x0, x1, x2, ⟨⟨z0, z1, z2, v, z4, z5, z6⟩, y1, y2, y3, y4, y5, y6⟩, x4, x5, x6⟩) y0) x3) q
noncomputable def w151 : W := fun q v => S7.rec (motive := fun _ => Fm) (fun x0 x1 x2 x3 x4 x5 x6 => S7.rec (motive := fun _ => Fm) (fun y0 y1 y2 y3 y4 y5 y6 => S7.rec (motive := fun _ => Fm) (fun z0 z1 z2 z3 _ z5 z6 => ⟨x0, x1, x2, ⟨⟨z0, z1, z2, z3, v, z5, z6⟩, y1, y2, y3, y4, y5, y6⟩, x4, x5, x6⟩) y0) x3) q
noncomputable def w152 : W := fun q v => S7.rec (motive := fun _ => Fm) (fun x0 x1 x2 x3 x4 x5 x6 => S7.rec (motive := fun _ => Fm) (fun y0 y1 y2 y3 y4 y5 y6 => S7.rec (motive := fun _ => Fm) (fun z0 z1 z2 z3 z4 _ z6 => ⟨x0, x1, x2, ⟨⟨z0, z1, z2, z3, z4, v, z6⟩, y1, y2, y3, y4, y5, y6⟩, x4, x5, x6⟩) y0) x3) q
noncomputable def w153 : W := fun q v => S7.rec (motive := fun _ => Fm) (fun x0 x1 x2 x3 x4 x5 x6 => S7.rec (motive := fun _ => Fm) (fun y0 y1 y2 y3 y4 y5 y6 => S7.rec (motive := fun _ => Fm) (fun z0 z1 z2 z3 z4 z5 _ => ⟨x0, x1, x2, ⟨⟨z0, z1, z2, z3, z4, z5, v⟩, y1, y2, y3, y4, y5, y6⟩, x4, x5, x6⟩) y0) x3) q
noncomputable def w154 : W := fun q v => S7.rec (motive := fun _ => Fm) (fun x0 x1 x2 x3 x4 x5 x6 => S7.rec (motive := fun _ => Fm) (fun y0 y1 y2 y3 y4 y5 y6 => S7.rec (motive := fun _ => Fm) (fun _ z1 z2 z3 z4 z5 z6 => ⟨x0, x1, x2, ⟨y0, ⟨v, z1, z2, z3, z4, z5, z6⟩, y2, y3, y4, y5, y6⟩, x4, x5, x6⟩) y1) x3) q
noncomputable def w155 : W := fun q v => S7.rec (motive := fun _ => Fm) (fun x0 x1 x2 x3 x4 x5 x6 => S7.rec (motive := fun _ => Fm) (fun y0 y1 y2 y3 y4 y5 y6 => S7.rec (motive := fun _ => Fm) (fun z0 _ z2 z3 z4 z5 z6 => ⟨x0, x1, x2, ⟨y0, ⟨z0, v, z2, z3, z4, z5, z6⟩, y2, y3, y4, y5, y6⟩, x4, x5, x6⟩) y1) x3) q
noncomputable def w156 : W := fun q v => S7.rec (motive := fun _ => Fm) (fun x0 x1 x2 x3 x4 x5 x6 => S7.rec (motive := fun _ => Fm) (fun y0 y1 y2 y3 y4 y5 y6 => S7.rec (motive := fun _ => Fm) (fun z0 z1 _ z3 z4 z5 z6 => ⟨x0, x1, x2, ⟨y0, ⟨z0, z1, v, z3, z4, z5, z6⟩, y2, y3, y4, y5, y6⟩, x4, x5, x6⟩) y1) x3) q
noncomputable def w157 : W := fun q v => S7.rec (motive := fun _ => Fm) (fun x0 x1 x2 x3 x4 x5 x6 => S7.rec (motive := fun _ => Fm) (fun y0 y1 y2 y3 y4 y5 y6 => S7.rec (motive := fun _ => Fm) (fun z0 z1 z2 _ z4 z5 z6 => ⟨x0, x1, x2, ⟨y0, ⟨z0, z1, z2, v, z4, z5, z6⟩, y2, y3, y4, y5, y6⟩, x4, x5, x6⟩) y1) x3) q
noncomputable def w158 : W := fun q v => S7.rec (motive := fun _ => Fm) (fun x0 x1 x2 x3 x4 x5 x6 => S7.rec (motive := fun _ => Fm) (fun y0 y1 y2 y3 y4 y5 y6 => S7.rec (motive := fun _ => Fm) (fun z0 z1 z2 z3 _ z5 z6 => ⟨x0, x1, x2, ⟨y0, ⟨z0, z1, z2, z3, v, z5, z6⟩, y2, y3, y4, y5, y6⟩, x4, x5, x6⟩) y1) x3) q
noncomputable def w159 : W := fun q v => S7.rec (motive := fun _ => Fm) (fun x0 x1 x2 x3 x4 x5 x6 => S7.rec (motive := fun _ => Fm) (fun y0 y1 y2 y3 y4 y5 y6 => S7.rec (motive := fun _ => Fm) (fun z0 z1 z2 z3 z4 _ z6 => ⟨x0, x1, x2, ⟨y0, ⟨z0, z1, z2, z3, z4, v, z6⟩, y2, y3, y4, y5, y6⟩, x4, x5, x6⟩) y1) x3) q
noncomputable def w160 : W := fun q v => S7.rec (motive := fun _ => Fm) (fun x0 x1 x2 x3 x4 x5 x6 => S7.rec (motive := fun _ => Fm) (fun y0 y1 y2 y3 y4 y5 y6 => S7.rec (motive := fun _ => Fm) (fun z0 z1 z2 z3 z4 z5 _ => ⟨x0, x1, x2, ⟨y0, ⟨z0, z1, z2, z3, z4, z5, v⟩, y2, y3, y4, y5, y6⟩, x4, x5, x6⟩) y1) x3) q
noncomputable def w161 : W := fun q v => S7.rec (motive := fun _ => Fm) (fun x0 x1 x2 x3 x4 x5 x6 => S7.rec (motive := fun _ => Fm) (fun y0 y1 y2 y3 y4 y5 y6 => S7.rec (motive := fun _ => Fm) (fun _ z1 z2 z3 z4 z5 z6 => ⟨x0, x1, x2, ⟨y0, y1, ⟨v, z1, z2, z3, z4, z5, z6⟩, y3, y4, y5, y6⟩, x4, x5, x6⟩) y2) x3) q
noncomputable def w162 : W := fun q v => S7.rec (motive := fun _ => Fm) (fun x0 x1 x2 x3 x4 x5 x6 => S7.rec (motive := fun _ => Fm) (fun y0 y1 y2 y3 y4 y5 y6 => S7.rec (motive := fun _ => Fm) (fun z0 _ z2 z3 z4 z5 z6 => ⟨x0, x1, x2, ⟨y0, y1, ⟨z0, v, z2, z3, z4, z5, z6⟩, y3, y4, y5, y6⟩, x4, x5, x6⟩) y2) x3) q
noncomputable def w163 : W := fun q v => S7.rec (motive := fun _ => Fm) (fun x0 x1 x2 x3 x4 x5 x6 => S7.rec (motive := fun _ => Fm) (fun y0 y1 y2 y3 y4 y5 y6 => S7.rec (motive := fun _ => Fm) (fun z0 z1 _ z3 z4 z5 z6 => ⟨x0, x1, x2, ⟨y0, y1, ⟨z0, z1, v, z3, z4, z5, z6⟩, y3, y4, y5, y6⟩, x4, x5, x6⟩) y2) x3) q
noncomputable def w164 : W := fun q v => S7.rec (motive := fun _ => Fm) (fun x0 x1 x2 x3 x4 x5 x6 => S7.rec (motive := fun _ => Fm) (fun y0 y1 y2 y3 y4 y5 y6 => S7.rec (motive := fun _ => Fm) (fun z0 z1 z2 _ z4 z5 z6 => ⟨x0, x1, x2, ⟨y0, y1, ⟨z0, z1, z2, v, z4, z5, z6⟩, y3, y4, y5, y6⟩, x4, x5, x6⟩) y2) x3) q
noncomputable def w165 : W := fun q v => S7.rec (motive := fun _ => Fm) (fun x0 x1 x2 x3 x4 x5 x6 => S7.rec (motive := fun _ => Fm) (fun y0 y1 y2 y3 y4 y5 y6 => S7.rec (motive := fun _ => Fm) (fun z0 z1 z2 z3 _ z5 z6 => ⟨x0, x1, x2, ⟨y0, y1, ⟨z0, z1, z2, z3, v, z5, z6⟩, y3, y4, y5, y6⟩, x4, x5, x6⟩) y2) x3) q
noncomputable def w166 : W := fun q v => S7.rec (motive := fun _ => Fm) (fun x0 x1 x2 x3 x4 x5 x6 => S7.rec (motive := fun _ => Fm) (fun y0 y1 y2 y3 y4 y5 y6 => S7.rec (motive := fun _ => Fm) (fun z0 z1 z2 z3 z4 _ z6 => ⟨x0, x1, x2, ⟨y0, y1, ⟨z0, z1, z2, z3, z4, v, z6⟩, y3, y4, y5, y6⟩, x4, x5, x6⟩) y2) x3) q
noncomputable def w167 : W := fun q v => S7.rec (motive := fun _ => Fm) (fun x0 x1 x2 x3 x4 x5 x6 => S7.rec (motive := fun _ => Fm) (fun y0 y1 y2 y3 y4 y5 y6 => S7.rec (motive := fun _ => Fm) (fun z0 z1 z2 z3 z4 z5 _ => ⟨x0, x1, x2, ⟨y0, y1, ⟨z0, z1, z2, z3, z4, z5, v⟩, y3, y4, y5, y6⟩, x4, x5, x6⟩) y2) x3) q
noncomputable def w168 : W := fun q v => S7.rec (motive := fun _ => Fm) (fun x0 x1 x2 x3 x4 x5 x6 => S7.rec (motive := fun _ => Fm) (fun y0 y1 y2 y3 y4 y5 y6 => S7.rec (motive := fun _ => Fm) (fun _ z1 z2 z3 z4 z5 z6 => ⟨x0, x1, x2, ⟨y0, y1, y2, ⟨v, z1, z2, z3, z4, z5, z6⟩, y4, y5, y6⟩, x4, x5, x6⟩) y3) x3) q
noncomputable def w169 : W := fun q v => S7.rec (motive := fun _ => Fm) (fun x0 x1 x2 x3 x4 x5 x6 => S7.rec (motive := fun _ => Fm) (fun y0 y1 y2 y3 y4 y5 y6 => S7.rec (motive := fun _ => Fm) (fun z0 _ z2 z3 z4 z5 z6 => ⟨x0, x1, x2, ⟨y0, y1, y2, ⟨z0, v, z2, z3, z4, z5, z6⟩, y4, y5, y6⟩, x4, x5, x6⟩) y3) x3) q
noncomputable def w170 : W := fun q v => S7.rec (motive := fun _ => Fm) (fun x0 x1 x2 x3 x4 x5 x6 => S7.rec (motive := fun _ => Fm) (fun y0 y1 y2 y3 y4 y5 y6 => S7.rec (motive := fun _ => Fm) (fun z0 z1 _ z3 z4 z5 z6 => ⟨x0, x1, x2, ⟨y0, y1, y2, ⟨z0, z1, v, z3, z4, z5, z6⟩, y4, y5, y6⟩, x4, x5, x6⟩) y3) x3) q
noncomputable def w171 : W := fun q v => S7.rec (motive := fun _ => Fm) (fun x0 x1 x2 x3 x4 x5 x6 => S7.rec (motive := fun _ => Fm) (fun y0 y1 y2 y3 y4 y5 y6 => S7.rec (motive := fun _ => Fm) (fun z0 z1 z2 _ z4 z5 z6 => ⟨x0, x1, x2, ⟨y0, y1, y2, ⟨z0, z1, z2, v, z4, z5, z6⟩, y4, y5, y6⟩, x4, x5, x6⟩) y3) x3) q
noncomputable def w172 : W := fun q v => S7.rec (motive := fun _ => Fm) (fun x0 x1 x2 x3 x4 x5 x6 => S7.rec (motive := fun _ => Fm) (fun y0 y1 y2 y3 y4 y5 y6 => S7.rec (motive := fun _ => Fm) (fun z0 z1 z2 z3 _ z5 z6 => ⟨x0, x1, x2, ⟨y0, y1, y2, ⟨z0, z1, z2, z3, v, z5, z6⟩, y4, y5, y6⟩, x4, x5, x6⟩) y3) x3) q
noncomputable def w173 : W := fun q v => S7.rec (motive := fun _ => Fm) (fun x0 x1 x2 x3 x4 x5 x6 => S7.rec (motive := fun _ => Fm) (fun y0 y1 y2 y3 y4 y5 y6 => S7.rec (motive := fun _ => Fm) (fun z0 z1 z2 z3 z4 _ z6 => ⟨x0, x1, x2, ⟨y0, y1, y2, ⟨z0, z1, z2, z3, z4, v, z6⟩, y4, y5, y6⟩, x4, x5, x6⟩) y3) x3) q
noncomputable def w174 : W := fun q v => S7.rec (motive := fun _ => Fm) (fun x0 x1 x2 x3 x4 x5 x6 => S7.rec (motive := fun _ => Fm) (fun y0 y1 y2 y3 y4 y5 y6 => S7.rec (motive := fun _ => Fm) (fun z0 z1 z2 z3 z4 z5 _ => ⟨x0, x1, x2, ⟨y0, y1, y2, ⟨z0, z1, z2, z3, z4, z5, v⟩, y4, y5, y6⟩, x4, x5, x6⟩) y3) x3) q
noncomputable def w175 : W := fun q v => S7.rec (motive := fun _ => Fm) (fun x0 x1 x2 x3 x4 x5 x6 => S7.rec (motive := fun _ => Fm) (fun y0 y1 y2 y3 y4 y5 y6 => S7.rec (motive := fun _ => Fm) (fun _ z1 z2 z3 z4 z5 z6 => ⟨x0, x1, x2, ⟨y0, y1, y2, y3, ⟨v, z1, z2, z3, z4, z5, z6⟩, y5, y6⟩, x4, x5, x6⟩) y4) x3) q
noncomputable def w176 : W := fun q v => S7.rec (motive := fun _ => Fm) (fun x0 x1 x2 x3 x4 x5 x6 => S7.rec (motive := fun _ => Fm) (fun y0 y1 y2 y3 y4 y5 y6 => S7.rec (motive := fun _ => Fm) (fun z0 _ z2 z3 z4 z5 z6 => ⟨x0, x1, x2, ⟨y0, y1, y2, y3, ⟨z0, v, z2, z3, z4, z5, z6⟩, y5, y6⟩, x4, x5, x6⟩) y4) x3) q
noncomputable def w177 : W := fun q v => S7.rec (motive := fun _ => Fm) (fun x0 x1 x2 x3 x4 x5 x6 => S7.rec (motive := fun _ => Fm) (fun y0 y1 y2 y3 y4 y5 y6 => S7.rec (motive := fun _ => Fm) (fun z0 z1 _ z3 z4 z5 z6 => ⟨x0, x1, x2, ⟨y0, y1, y2, y3, ⟨z0, z1, v, z3, z4, z5, z6⟩, y5, y6⟩, x4, x5, x6⟩) y4) x3) q
noncomputable def w178 : W := fun q v => S7.rec (motive := fun _ => Fm) (fun x0 x1 x2 x3 x4 x5 x6 => S7.rec (motive := fun _ => Fm) (fun y0 y1 y2 y3 y4 y5 y6 => S7.rec (motive := fun _ => Fm) (fun z0 z1 z2 _ z4 z5 z6 => ⟨x0, x1, x2, ⟨y0, y1, y2, y3, ⟨z0, z1, z2, v, z4, z5, z6⟩, y5, y6⟩, x4, x5, x6⟩) y4) x3) q
noncomputable def w179 : W := fun q v => S7.rec (motive := fun _ => Fm) (fun x0 x1 x2 x3 x4 x5 x6 => S7.rec (motive := fun _ => Fm) (fun y0 y1 y2 y3 y4 y5 y6 => S7.rec (motive := fun _ => Fm) (fun z0 z1 z2 z3 _ z5 z6 => ⟨x0, x1, x2, ⟨y0, y1, y2, y3, ⟨z0, z1, z2, z3, v, z5, z6⟩, y5, y6⟩, x4, x5, x6⟩) y4) x3) q
noncomputable def w180 : W := fun q v => S7.rec (motive := fun _ => Fm) (fun x0 x1 x2 x3 x4 x5 x6 => S7.rec (motive := fun _ => Fm) (fun y0 y1 y2 y3 y4 y5 y6 => S7.rec (motive := fun _ => Fm) (fun z0 z1 z2 z3 z4 _ z6 => ⟨x0, x1, x2, ⟨y0, y1, y2, y3, ⟨z0, z1, z2, z3, z4, v, z6⟩, y5, y6⟩, x4, x5, x6⟩) y4) x3) q
noncomputable def w181 : W := fun q v => S7.rec (motive := fun _ => Fm) (fun x0 x1 x2 x3 x4 x5 x6 => S7.rec (motive := fun _ => Fm) (fun y0 y1 y2 y3 y4 y5 y6 => S7.rec (motive := fun _ => Fm) (fun z0 z1 z2 z3 z4 z5 _ => ⟨x0, x1, x2, ⟨y0, y1, y2, y3, ⟨z0, z1, z2, z3, z4, z5, v⟩, y5, y6⟩, x4, x5, x6⟩) y4) x3) q
noncomputable def w182 : W := fun q v => S7.rec (motive := fun _ => Fm) (fun x0 x1 x2 x3 x4 x5 x6 => S7.rec (motive := fun _ => Fm) (fun y0 y1 y2 y3 y4 y5 y6 => S7.rec (motive := fun _ => Fm) (fun _ z1 z2 z3 z4 z5 z6 => ⟨x0, x1, x2, ⟨y0, y1, y2, y3, y4, ⟨v, z1, z2, z3, z4, z5, z6⟩, y6⟩, x4, x5, x6⟩) y5) x3) q
noncomputable def w183 : W := fun q v => S7.rec (motive := fun _ => Fm) (fun x0 x1 x2 x3 x4 x5 x6 => S7.rec (motive := fun _ => Fm) (fun y0 y1 y2 y3 y4 y5 y6 => S7.rec (motive := fun _ => Fm) (fun z0 _ z2 z3 z4 z5 z6 => ⟨x0, x1, x2, ⟨y0, y1, y2, y3, y4, ⟨z0, v, z2, z3, z4, z5, z6⟩, y6⟩, x4, x5, x6⟩) y5) x3) q
noncomputable def w184 : W := fun q v => S7.rec (motive := fun _ => Fm) (fun x0 x1 x2 x3 x4 x5 x6 => S7.rec (motive := fun _ => Fm) (fun y0 y1 y2 y3 y4 y5 y6 => S7.rec (motive := fun _ => Fm) (fun z0 z1 _ z3 z4 z5 z6 => ⟨x0, x1, x2, ⟨y0, y1, y2, y3, y4, ⟨z0, z1, v, z3, z4, z5, z6⟩, y6⟩, x4, x5, x6⟩) y5) x3) q
noncomputable def w185 : W := fun q v => S7.rec (motive := fun _ => Fm) (fun x0 x1 x2 x3 x4 x5 x6 => S7.rec (motive := fun _ => Fm) (fun y0 y1 y2 y3 y4 y5 y6 => S7.rec (motive := fun _ => Fm) (fun z0 z1 z2 _ z4 z5 z6 => ⟨x0, x1, x2, ⟨y0, y1, y2, y3, y4, ⟨z0, z1, z2, v, z4, z5, z6⟩, y6⟩, x4, x5, x6⟩) y5) x3) q
noncomputable def w186 : W := fun q v => S7.rec (motive := fun _ => Fm) (fun x0 x1 x2 x3 x4 x5 x6 => S7.rec (motive := fun _ => Fm) (fun y0 y1 y2 y3 y4 y5 y6 => S7.rec (motive := fun _ => Fm) (fun z0 z1 z2 z3 _ z5 z6 => ⟨x0, x1, x2, ⟨y0, y1, y2, y3, y4, ⟨z0, z1, z2, z3, v, z5, z6⟩, y6⟩, x4, x5, x6⟩) y5) x3) q
noncomputable def w187 : W := fun q v => S7.rec (motive := fun _ => Fm) (fun x0 x1 x2 x3 x4 x5 x6 => S7.rec (motive := fun _ => Fm) (fun y0 y1 y2 y3 y4 y5 y6 => S7.rec (motive := fun _ => Fm) (fun z0 z1 z2 z3 z4 _ z6 => ⟨x0, x1, x2, ⟨y0, y1, y2, y3, y4, ⟨z0, z1, z2, z3, z4, v, z6⟩, y6⟩, x4, x5, x6⟩) y5) x3) q
noncomputable def w188 : W := fun q v => S7.rec (motive := fun _ => Fm) (fun x0 x1 x2 x3 x4 x5 x6 => S7.rec (motive := fun _ => Fm) (fun y0 y1 y2 y3 y4 y5 y6 => S7.rec (motive := fun _ => Fm) (fun z0 z1 z2 z3 z4 z5 _ => ⟨x0, x1, x2, ⟨y0, y1, y2, y3, y4, ⟨z0, z1, z2, z3, z4, z5, v⟩, y6⟩, x4, x5, x6⟩) y5) x3) q
noncomputable def w189 : W := fun q v => S7.rec (motive := fun _ => Fm) (fun x0 x1 x2 x3 x4 x5 x6 => S7.rec (motive := fun _ => Fm) (fun y0 y1 y2 y3 y4 y5 y6 => S7.rec (motive := fun _ => Fm) (fun _ z1 z2 z3 z4 z5 z6 => ⟨x0, x1, x2, ⟨y0, y1, y2, y3, y4, y5, ⟨v, z1, z2, z3, z4, z5, z6⟩⟩, x4, x5, x6⟩) y6) x3) q
noncomputable def w190 : W := fun q v => S7.rec (motive := fun _ => Fm) (fun x0 x1 x2 x3 x4 x5 x6 => S7.rec (motive := fun _ => Fm) (fun y0 y1 y2 y3 y4 y5 y6 => S7.rec (motive := fun _ => Fm) (fun z0 _ z2 z3 z4 z5 z6 => ⟨x0, x1, x2, ⟨y0, y1, y2, y3, y4, y5, ⟨z0, v, z2, z3, z4, z5, z6⟩⟩, x4, x5, x6⟩) y6) x3) q
noncomputable def w191 : W := fun q v => S7.rec (motive := fun _ => Fm) (fun x0 x1 x2 x3 x4 x5 x6 => S7.rec (motive := fun _ => Fm) (fun y0 y1 y2 y3 y4 y5 y6 => S7.rec (motive := fun _ => Fm) (fun z0 z1 _ z3 z4 z5 z6 => ⟨x0, x1, x2, ⟨y0, y1, y2, y3, y4, y5, ⟨z0, z1, v, z3, z4, z5, z6⟩⟩, x4, x5, x6⟩) y6) x3) q
noncomputable def w192 : W := fun q v => S7.rec (motive := fun _ => Fm) (fun x0 x1 x2 x3 x4 x5 x6 => S7.rec (motive := fun _ => Fm) (fun y0 y1 y2 y3 y4 y5 y6 => S7.rec (motive := fun _ => Fm) (fun z0 z1 z2 _ z4 z5 z6 => ⟨x0, x1, x2, ⟨y0, y1, y2, y3, y4, y5, ⟨z0, z1, z2, v, z4, z5, z6⟩⟩, x4, x5, x6⟩) y6) x3) q
noncomputable def w193 : W := fun q v => S7.rec (motive := fun _ => Fm) (fun x0 x1 x2 x3 x4 x5 x6 => S7.rec (motive := fun _ => Fm) (fun y0 y1 y2 y3 y4 y5 y6 => S7.rec (motive := fun _ => Fm) (fun z0 z1 z2 z3 _ z5 z6 => ⟨x0, x1, x2, ⟨y0, y1, y2, y3, y4, y5, ⟨z0, z1, z2, z3, v, z5, z6⟩⟩, x4, x5, x6⟩) y6) x3) q
noncomputable def w194 : W := fun q v => S7.rec (motive := fun _ => Fm) (fun x0 x1 x2 x3 x4 x5 x6 => S7.rec (motive := fun _ => Fm) (fun y0 y1 y2 y3 y4 y5 y6 => S7.rec (motive := fun _ => Fm) (fun z0 z1 z2 z3 z4 _ z6 => ⟨x0, x1, x2, ⟨y0, y1, y2, y3, y4, y5, ⟨z0, z1, z2, z3, z4, v, z6⟩⟩, x4, x5, x6⟩) y6) x3) q
noncomputable def w195 : W := fun q v => S7.rec (motive := fun _ => Fm) (fun x0 x1 x2 x3 x4 x5 x6 => S7.rec (motive := fun _ => Fm) (fun y0 y1 y2 y3 y4 y5 y6 => S7.rec (motive := fun _ => Fm) (fun z0 z1 z2 z3 z4 z5 _ => ⟨x0, x1, x2, ⟨y0, y1, y2, y3, y4, y5, ⟨z0, z1, z2, z3, z4, z5, v⟩⟩, x4, x5, x6⟩) y6) x3) q
noncomputable def w196 : W := fun q v => S7.rec (motive := fun _ => Fm) (fun x0 x1 x2 x3 x4 x5 x6 => S7.rec (motive := fun _ => Fm) (fun y0 y1 y2 y3 y4 y5 y6 => S7.rec (motive := fun _ => Fm) (fun _ z1 z2 z3 z4 z5 z6 => ⟨x0, x1, x2, x3, ⟨⟨v, z1, z2, z3, z4, z5, z6⟩, y1, y2, y3, y4, y5, y6⟩, x5, x6⟩) y0) x4) q
noncomputable def w197 : W := fun q v => S7.rec (motive := fun _ => Fm) (fun x0 x1 x2 x3 x4 x5 x6 => S7.rec (motive := fun _ => Fm) (fun y0 y1 y2 y3 y4 y5 y6 => S7.rec (motive := fun _ => Fm) (fun z0 _ z2 z3 z4 z5 z6 => ⟨x0, x1, x2, x3, ⟨⟨z0, v, z2, z3, z4, z5, z6⟩, y1, y2, y3, y4, y5, y6⟩, x5, x6⟩) y0) x4) q
noncomputable def w198 : W := fun q v => S7.rec (motive := fun _ => Fm) (fun x0 x1 x2 x3 x4 x5 x6 => S7.rec (motive := fun _ => Fm) (fun y0 y1 y2 y3 y4 y5 y6 => S7.rec (motive := fun _ => Fm) (fun z0 z1 _ z3 z4 z5 z6 => ⟨x0, x1, x2, x3, ⟨⟨z0, z1, v, z3, z4, z5, z6⟩, y1, y2, y3, y4, y5, y6⟩, x5, x6⟩) y0) x4) q
noncomputable def w199 : W := fun q v => S7.rec (motive := fun _ => Fm) (fun x0 x1 x2 x3 x4 x5 x6 => S7.rec (motive := fun _ => Fm) (fun y0 y1 y2 y3 y4 y5 y6 => S7.rec (motive := fun _ => Fm) (fun z0 z1 z2 _ z4 z5 z6 => ⟨x0, x1, x2, x3, ⟨⟨z0, z1, z2, v, z4, z5, z6⟩, y1, y2, y3, y4, y5, y6⟩, x5, x6⟩) y0) x4) q
noncomputable def w200 : W := fun q v => S7.rec (motive := fun _ => Fm) (fun x0 x1 x2 x3 x4 x5 x6 => S7.rec (motive := fun _ => Fm) (fun y0 y1 y2 y3 y4 y5 y6 => S7.rec (motive := fun _ => Fm) (fun z0 z1 z2 z3 _ z5 z6 => ⟨x0, x1, x2, x3, ⟨⟨z0, z1, z2, z3, v, z5, z6⟩, y1, y2, y3, y4, y5, y6⟩, x5, x6⟩) y0) x4) q
noncomputable def w201 : W := fun q v => S7.rec (motive := fun _ => Fm) (fun x0 x1 x2 x3 x4 x5 x6 => S7.rec (motive := fun _ => Fm) (fun y0 y1 y2 y3 y4 y5 y6 => S7.rec (motive := fun _ => Fm) (fun z0 z1 z2 z3 z4 _ z6 => ⟨x0, x1, x2, x3, ⟨⟨z0, z1, z2, z3, z4, v, z6⟩, y1, y2, y3, y4, y5, y6⟩, x5, x6⟩) y0) x4) q
noncomputable def w202 : W := fun q v => S7.rec (motive := fun _ => Fm) (fun x0 x1 x2 x3 x4 x5 x6 => S7.rec (motive := fun _ => Fm) (fun y0 y1 y2 y3 y4 y5 y6 => S7.rec (motive := fun _ => Fm) (fun z0 z1 z2 z3 z4 z5 _ => ⟨x0, x1, x2, x3, ⟨⟨z0, z1, z2, z3, z4, z5, v⟩, y1, y2, y3, y4, y5, y6⟩, x5, x6⟩) y0) x4) q
noncomputable def w203 : W := fun q v => S7.rec (motive := fun _ => Fm) (fun x0 x1 x2 x3 x4 x5 x6 => S7.rec (motive := fun _ => Fm) (fun y0 y1 y2 y3 y4 y5 y6 => S7.rec (motive := fun _ => Fm) (fun _ z1 z2 z3 z4 z5 z6 => ⟨x0, x1, x2, x3, ⟨y0, ⟨v, z1, z2, z3, z4, z5, z6⟩, y2, y3, y4, y5, y6⟩, x5, x6⟩) y1) x4) q
noncomputable def w204 : W := fun q v => S7.rec (motive := fun _ => Fm) (fun x0 x1 x2 x3 x4 x5 x6 => S7.rec (motive := fun _ => Fm) (fun y0 y1 y2 y3 y4 y5 y6 => S7.rec (motive := fun _ => Fm) (fun z0 _ z2 z3 z4 z5 z6 => ⟨x0, x1, x2, x3, ⟨y0, ⟨z0, v, z2, z3, z4, z5, z6⟩, y2, y3, y4, y5, y6⟩, x5, x6⟩) y1) x4) q
noncomputable def w205 : W := fun q v => S7.rec (motive := fun _ => Fm) (fun x0 x1 x2 x3 x4 x5 x6 => S7.rec (motive := fun _ => Fm) (fun y0 y1 y2 y3 y4 y5 y6 => S7.rec (motive := fun _ => Fm) (fun z0 z1 _ z3 z4 z5 z6 => ⟨x0, x1, x2, x3, ⟨y0, ⟨z0, z1, v, z3, z4, z5, z6⟩, y2, y3, y4, y5, y6⟩, x5, x6⟩) y1) x4) q
noncomputable def w206 : W := fun q v => S7.rec (motive := fun _ => Fm) (fun x0 x1 x2 x3 x4 x5 x6 => S7.rec (motive := fun _ => Fm) (fun y0 y1 y2 y3 y4 y5 y6 => S7.rec (motive := fun _ => Fm) (fun z0 z1 z2 _ z4 z5 z6 => ⟨x0, x1, x2, x3, ⟨y0, ⟨z0, z1, z2, v, z4, z5, z6⟩, y2, y3, y4, y5, y6⟩, x5, x6⟩) y1) x4) q
noncomputable def w207 : W := fun q v => S7.rec (motive := fun _ => Fm) (fun x0 x1 x2 x3 x4 x5 x6 => S7.rec (motive := fun _ => Fm) (fun y0 y1 y2 y3 y4 y5 y6 => S7.rec (motive := fun _ => Fm) (fun z0 z1 z2 z3 _ z5 z6 => ⟨x0, x1, x2, x3, ⟨y0, ⟨z0, z1, z2, z3, v, z5, z6⟩, y2, y3, y4, y5, y6⟩, x5, x6⟩) y1) x4) q
noncomputable def w208 : W := fun q v => S7.rec (motive := fun _ => Fm) (fun x0 x1 x2 x3 x4 x5 x6 => S7.rec (motive := fun _ => Fm) (fun y0 y1 y2 y3 y4 y5 y6 => S7.rec (motive := fun _ => Fm) (fun z0 z1 z2 z3 z4 _ z6 => ⟨x0, x1, x2, x3, ⟨y0, ⟨z0, z1, z2, z3, z4, v, z6⟩, y2, y3, y4, y5, y6⟩, x5, x6⟩) y1) x4) q
noncomputable def w209 : W := fun q v => S7.rec (motive := fun _ => Fm) (fun x0 x1 x2 x3 x4 x5 x6 => S7.rec (motive := fun _ => Fm) (fun y0 y1 y2 y3 y4 y5 y6 => S7.rec (motive := fun _ => Fm) (fun z0 z1 z2 z3 z4 z5 _ => ⟨x0, x1, x2, x3, ⟨y0, ⟨z0, z1, z2, z3, z4, z5, v⟩, y2, y3, y4, y5, y6⟩, x5, x6⟩) y1) x4) q
noncomputable def w210 : W := fun q v => S7.rec (motive := fun _ => Fm) (fun x0 x1 x2 x3 x4 x5 x6 => S7.rec (motive := fun _ => Fm) (fun y0 y1 y2 y3 y4 y5 y6 => S7.rec (motive := fun _ => Fm) (fun _ z1 z2 z3 z4 z5 z6 => ⟨x0, x1, x2, x3, ⟨y0, y1, ⟨v, z1, z2, z3, z4, z5, z6⟩, y3, y4, y5, y6⟩, x5, x6⟩) y2) x4) q
noncomputable def w211 : W := fun q v => S7.rec (motive := fun _ => Fm) (fun x0 x1 x2 x3 x4 x5 x6 => S7.rec (motive := fun _ => Fm) (fun y0 y1 y2 y3 y4 y5 y6 => S7.rec (motive := fun _ => Fm) (fun z0 _ z2 z3 z4 z5 z6 => ⟨x0, x1, x2, x3, ⟨y0, y1, ⟨z0, v, z2, z3, z4, z5, z6⟩, y3, y4, y5, y6⟩, x5, x6⟩) y2) x4) q
noncomputable def w212 : W := fun q v => S7.rec (motive := fun _ => Fm) (fun x0 x1 x2 x3 x4 x5 x6 => S7.rec (motive := fun _ => Fm) (fun y0 y1 y2 y3 y4 y5 y6 => S7.rec (motive := fun _ => Fm) (fun z0 z1 _ z3 z4 z5 z6 => ⟨x0, x1, x2, x3, ⟨y0, y1, ⟨z0, z1, v, z3, z4, z5, z6⟩, y3, y4, y5, y6⟩, x5, x6⟩) y2) x4) q
noncomputable def w213 : W := fun q v => S7.rec (motive := fun _ => Fm) (fun x0 x1 x2 x3 x4 x5 x6 => S7.rec (motive := fun _ => Fm) (fun y0 y1 y2 y3 y4 y5 y6 => S7.rec (motive := fun _ => Fm) (fun z0 z1 z2 _ z4 z5 z6 => ⟨x0, x1, x2, x3, ⟨y0, y1, ⟨z0, z1, z2, v, z4, z5, z6⟩, y3, y4, y5, y6⟩, x5, x6⟩) y2) x4) q
noncomputable def w214 : W := fun q v => S7.rec (motive := fun _ => Fm) (fun x0 x1 x2 x3 x4 x5 x6 => S7.rec (motive := fun _ => Fm) (fun y0 y1 y2 y3 y4 y5 y6 => S7.rec (motive := fun _ => Fm) (fun z0 z1 z2 z3 _ z5 z6 => ⟨x0, x1, x2, x3, ⟨y0, y1, ⟨z0, z1, z2, z3, v, z5, z6⟩, y3, y4, y5, y6⟩, x5, x6⟩) y2) x4) q
noncomputable def w215 : W := fun q v => S7.rec (motive := fun _ => Fm) (fun x0 x1 x2 x3 x4 x5 x6 => S7.rec (motive := fun _ => Fm) (fun y0 y1 y2 y3 y4 y5 y6 => S7.rec (motive := fun _ => Fm) (fun z0 z1 z2 z3 z4 _ z6 => ⟨x0, x1, x2, x3, ⟨y0, y1, ⟨z0, z1, z2, z3, z4, v, z6⟩, y3, y4, y5, y6⟩, x5, x6⟩) y2) x4) q
noncomputable def w216 : W := fun q v => S7.rec (motive := fun _ => Fm) (fun x0 x1 x2 x3 x4 x5 x6 => S7.rec (motive := fun _ => Fm) (fun y0 y1 y2 y3 y4 y5 y6 => S7.rec (motive := fun _ => Fm) (fun z0 z1 z2 z3 z4 z5 _ => ⟨x0, x1, x2, x3, ⟨y0, y1, ⟨z0, z1, z2, z3, z4, z5, v⟩, y3, y4, y5, y6⟩, x5, x6⟩) y2) x4) q
noncomputable def w217 : W := fun q v => S7.rec (motive := fun _ => Fm) (fun x0 x1 x2 x3 x4 x5 x6 => S7.rec (motive := fun _ => Fm) (fun y0 y1 y2 y3 y4 y5 y6 => S7.rec (motive := fun _ => Fm) (fun _ z1 z2 z3 z4 z5 z6 => ⟨x0, x1, x2, x3, ⟨y0, y1, y2, ⟨v, z1, z2, z3, z4, z5, z6⟩, y4, y5, y6⟩, x5, x6⟩) y3) x4) q
noncomputable def w218 : W := fun q v => S7.rec (motive := fun _ => Fm) (fun x0 x1 x2 x3 x4 x5 x6 => S7.rec (motive := fun _ => Fm) (fun y0 y1 y2 y3 y4 y5 y6 => S7.rec (motive := fun _ => Fm) (fun z0 _ z2 z3 z4 z5 z6 => ⟨x0, x1, x2, x3, ⟨y0, y1, y2, ⟨z0, v, z2, z3, z4, z5, z6⟩, y4, y5, y6⟩, x5, x6⟩) y3) x4) q
noncomputable def w219 : W := fun q v => S7.rec (motive := fun _ => Fm) (fun x0 x1 x2 x3 x4 x5 x6 => S7.rec (motive := fun _ => Fm) (fun y0 y1 y2 y3 y4 y5 y6 => S7.rec (motive := fun _ => Fm) (fun z0 z1 _ z3 z4 z5 z6 => ⟨x0, x1, x2, x3, ⟨y0, y1, y2, ⟨z0, z1, v, z3, z4, z5, z6⟩, y4, y5, y6⟩, x5, x6⟩) y3) x4) q
noncomputable def w220 : W := fun q v => S7.rec (motive := fun _ => Fm) (fun x0 x1 x2 x3 x4 x5 x6 => S7.rec (motive := fun _ => Fm) (fun y0 y1 y2 y3 y4 y5 y6 => S7.rec (motive := fun _ => Fm) (fun z0 z1 z2 _ z4 z5 z6 => ⟨x0, x1, x2, x3, ⟨y0, y1, y2, ⟨z0, z1, z2, v, z4, z5, z6⟩, y4, y5, y6⟩, x5, x6⟩) y3) x4) q
noncomputable def w221 : W := fun q v => S7.rec (motive := fun _ => Fm) (fun x0 x1 x2 x3 x4 x5 x6 => S7.rec (motive := fun _ => Fm) (fun y0 y1 y2 y3 y4 y5 y6 => S7.rec (motive := fun _ => Fm) (fun z0 z1 z2 z3 _ z5 z6 => ⟨x0, x1, x2, x3, ⟨y0, y1, y2, ⟨z0, z1, z2, z3, v, z5, z6⟩, y4, y5, y6⟩, x5, x6⟩) y3) x4) q
noncomputable def w222 : W := fun q v => S7.rec (motive := fun _ => Fm) (fun x0 x1 x2 x3 x4 x5 x6 => S7.rec (motive := fun _ => Fm) (fun y0 y1 y2 y3 y4 y5 y6 => S7.rec (motive := fun _ => Fm) (fun z0 z1 z2 z3 z4 _ z6 => ⟨x0, x1, x2, x3, ⟨y0, y1, y2, ⟨z0, z1, z2, z3, z4, v, z6⟩, y4, y5, y6⟩, x5, x6⟩) y3) x4) q
noncomputable def w223 : W := fun q v => S7.rec (motive := fun _ => Fm) (fun x0 x1 x2 x3 x4 x5 x6 => S7.rec (motive := fun _ => Fm) (fun y0 y1 y2 y3 y4 y5 y6 => S7.rec (motive := fun _ => Fm) (fun z0 z1 z2 z3 z4 z5 _ => ⟨x0, x1, x2, x3, ⟨y0, y1, y2, ⟨z0, z1, z2, z3, z4, z5, v⟩, y4, y5, y6⟩, x5, x6⟩) y3) x4) q
noncomputable def w224 : W := fun q v => S7.rec (motive := fun _ => Fm) (fun x0 x1 x2 x3 x4 x5 x6 => S7.rec (motive := fun _ => Fm) (fun y0 y1 y2 y3 y4 y5 y6 => S7.rec (motive := fun _ => Fm) (fun _ z1 z2 z3 z4 z5 z6 => ⟨x0, x1, x2, x3, ⟨y0, y1, y2, y3, ⟨v, z1, z2, z3, z4, z5, z6⟩, y5, y6⟩, x5, x6⟩) y4) x4) q
noncomputable def w225 : W := fun q v => S7.rec (motive := fun _ => Fm) (fun x0 x1 x2 x3 x4 x5 x6 => S7.rec (motive := fun _ => Fm) (fun y0 y1 y2 y3 y4 y5 y6 => S7.rec (motive := fun _ => Fm) (fun z0 _ z2 z3 z4 z5 z6 => ⟨x0, x1, x2, x3, ⟨y0, y1, y2, y3, ⟨z0, v, z2, z3, z4, z5, z6⟩, y5, y6⟩, x5, x6⟩) y4) x4) q
noncomputable def w226 : W := fun q v => S7.rec (motive := fun _ => Fm) (fun x0 x1 x2 x3 x4 x5 x6 => S7.rec (motive := fun _ => Fm) (fun y0 y1 y2 y3 y4 y5 y6 => S7.rec (motive := fun _ => Fm) (fun z0 z1 _ z3 z4 z5 z6 => ⟨x0, x1, x2, x3, ⟨y0, y1, y2, y3, ⟨z0, z1, v, z3, z4, z5, z6⟩, y5, y6⟩, x5, x6⟩) y4) x4) q
noncomputable def w227 : W := fun q v => S7.rec (motive := fun _ => Fm) (fun x0 x1 x2 x3 x4 x5 x6 => S7.rec (motive := fun _ => Fm) (fun y0 y1 y2 y3 y4 y5 y6 => S7.rec (motive := fun _ => Fm) (fun z0 z1 z2 _ z4 z5 z6 => ⟨x0, x1, x2, x3, ⟨y0, y1, y2, y3, ⟨z0, z1, z2, v, z4, z5, z6⟩, y5, y6⟩, x5, x6⟩) y4) x4) q
noncomputable def w228 : W := fun q v => S7.rec (motive := fun _ => Fm) (fun x0 x1 x2 x3 x4 x5 x6 => S7.rec (motive := fun _ => Fm) (fun y0 y1 y2 y3 y4 y5 y6 => S7.rec (motive := fun _ => Fm) (fun z0 z1 z2 z3 _ z5 z6 => ⟨x0, x1, x2, x3, ⟨y0, y1, y2, y3, ⟨z0, z1, z2, z3, v, z5, z6⟩, y5, y6⟩, x5, x6⟩) y4) x4) q
noncomputable def w229 : W := fun q v => S7.rec (motive := fun _ => Fm) (fun x0 x1 x2 x3 x4 x5 x6 => S7.rec (motive := fun _ => Fm) (fun y0 y1 y2 y3 y4 y5 y6 => S7.rec (motive := fun _ => Fm) (fun z0 z1 z2 z3 z4 _ z6 => ⟨x0, x1, x2, x3, ⟨y0, y1, y2, y3, ⟨z0, z1, z2, z3, z4, v, z6⟩, y5, y6⟩, x5, x6⟩) y4) x4) q
noncomputable def w230 : W := fun q v => S7.rec (motive := fun _ => Fm) (fun x0 x1 x2 x3 x4 x5 x6 => S7.rec (motive := fun _ => Fm) (fun y0 y1 y2 y3 y4 y5 y6 => S7.rec (motive := fun _ => Fm) (fun z0 z1 z2 z3 z4 z5 _ => ⟨x0, x1, x2, x3, ⟨y0, y1, y2, y3, ⟨z0, z1, z2, z3, z4, z5, v⟩, y5, y6⟩, x5, x6⟩) y4) x4) q
noncomputable def w231 : W := fun q v => S7.rec (motive := fun _ => Fm) (fun x0 x1 x2 x3 x4 x5 x6 => S7.rec (motive := fun _ => Fm) (fun y0 y1 y2 y3 y4 y5 y6 => S7.rec (motive := fun _ => Fm) (fun _ z1 z2 z3 z4 z5 z6 => ⟨x0, x1, x2, x3, ⟨y0, y1, y2, y3, y4, ⟨v, z1, z2, z3, z4, z5, z6⟩, y6⟩, x5, x6⟩) y5) x4) q
noncomputable def w232 : W := fun q v => S7.rec (motive := fun _ => Fm) (fun x0 x1 x2 x3 x4 x5 x6 => S7.rec (motive := fun _ => Fm) (fun y0 y1 y2 y3 y4 y5 y6 => S7.rec (motive := fun _ => Fm) (fun z0 _ z2 z3 z4 z5 z6 => ⟨x0, x1, x2, x3, ⟨y0, y1, y2, y3, y4, ⟨z0, v, z2, z3, z4, z5, z6⟩, y6⟩, x5, x6⟩) y5) x4) q
noncomputable def w233 : W := fun q v => S7.rec (motive := fun _ => Fm) (fun x0 x1 x2 x3 x4 x5 x6 => S7.rec (motive := fun _ => Fm) (fun y0 y1 y2 y3 y4 y5 y6 => S7.rec (motive := fun _ => Fm) (fun z0 z1 _ z3 z4 z5 z6 => ⟨x0, x1, x2, x3, ⟨y0, y1, y2, y3, y4, ⟨z0, z1, v, z3, z4, z5, z6⟩, y6⟩, x5, x6⟩) y5) x4) q
noncomputable def w234 : W := fun q v => S7.rec (motive := fun _ => Fm) (fun x0 x1 x2 x3 x4 x5 x6 => S7.rec (motive := fun _ => Fm) (fun y0 y1 y2 y3 y4 y5 y6 => S7.rec (motive := fun _ => Fm) (fun z0 z1 z2 _ z4 z5 z6 => ⟨x0, x1, x2, x3, ⟨y0, y1, y2, y3, y4, ⟨z0, z1, z2, v, z4, z5, z6⟩, y6⟩, x5, x6⟩) y5) x4) q
noncomputable def w235 : W := fun q v => S7.rec (motive := fun _ => Fm) (fun x0 x1 x2 x3 x4 x5 x6 => S7.rec (motive := fun _ => Fm) (fun y0 y1 y2 y3 y4 y5 y6 => S7.rec (motive := fun _ => Fm) (fun z0 z1 z2 z3 _ z5 z6 => ⟨x0, x1, x2, x3, ⟨y0, y1, y2, y3, y4, ⟨z0, z1, z2, z3, v, z5, z6⟩, y6⟩, x5, x6⟩) y5) x4) q
noncomputable def w236 : W := fun q v => S7.rec (motive := fun _ => Fm) (fun x0 x1 x2 x3 x4 x5 x6 => S7.rec (motive := fun _ => Fm) (fun y0 y1 y2 y3 y4 y5 y6 => S7.rec (motive := fun _ => Fm) (fun z0 z1 z2 z3 z4 _ z6 => ⟨x0, x1, x2, x3, ⟨y0, y1, y2, y3, y4, ⟨z0, z1, z2, z3, z4, v, z6⟩, y6⟩, x5, x6⟩) y5) x4) q
noncomputable def w237 : W := fun q v => S7.rec (motive := fun _ => Fm) (fun x0 x1 x2 x3 x4 x5 x6 => S7.rec (motive := fun _ => Fm) (fun y0 y1 y2 y3 y4 y5 y6 => S7.rec (motive := fun _ => Fm) (fun z0 z1 z2 z3 z4 z5 _ => ⟨x0, x1, x2, x3, ⟨y0, y1, y2, y3, y4, ⟨z0, z1, z2, z3, z4, z5, v⟩, y6⟩, x5, x6⟩) y5) x4) q
noncomputable def w238 : W := fun q v => S7.rec (motive := fun _ => Fm) (fun x0 x1 x2 x3 x4 x5 x6 => S7.rec (motive := fun _ => Fm) (fun y0 y1 y2 y3 y4 y5 y6 => S7.rec (motive := fun _ => Fm) (fun _ z1 z2 z3 z4 z5 z6 => ⟨x0, x1, x2, x3, ⟨y0, y1, y2, y3, y4, y5, ⟨v, z1, z2, z3, z4, z5, z6⟩⟩, x5, x6⟩) y6) x4) q
noncomputable def w239 : W := fun q v => S7.rec (motive := fun _ => Fm) (fun x0 x1 x2 x3 x4 x5 x6 => S7.rec (motive := fun _ => Fm) (fun y0 y1 y2 y3 y4 y5 y6 => S7.rec (motive := fun _ => Fm) (fun z0 _ z2 z3 z4 z5 z6 => ⟨x0, x1, x2, x3, ⟨y0, y1, y2, y3, y4, y5, ⟨z0, v, z2, z3, z4, z5, z6⟩⟩, x5, x6⟩) y6) x4) q
noncomputable def w240 : W := fun q v => S7.rec (motive := fun _ => Fm) (fun x0 x1 x2 x3 x4 x5 x6 => S7.rec (motive := fun _ => Fm) (fun y0 y1 y2 y3 y4 y5 y6 => S7.rec (motive := fun _ => Fm) (fun z0 z1 _ z3 z4 z5 z6 => ⟨x0, x1, x2, x3, ⟨y0, y1, y2, y3, y4, y5, ⟨z0, z1, v, z3, z4, z5, z6⟩⟩, x5, x6⟩) y6) x4) q
noncomputable def w241 : W := fun q v => S7.rec (motive := fun _ => Fm) (fun x0 x1 x2 x3 x4 x5 x6 => S7.rec (motive := fun _ => Fm) (fun y0 y1 y2 y3 y4 y5 y6 => S7.rec (motive := fun _ => Fm) (fun z0 z1 z2 _ z4 z5 z6 => ⟨x0, x1, x2, x3, ⟨y0, y1, y2, y3, y4, y5, ⟨z0, z1, z2, v, z4, z5, z6⟩⟩, x5, x6⟩) y6) x4) q
noncomputable def w242 : W := fun q v => S7.rec (motive := fun _ => Fm) (fun x0 x1 x2 x3 x4 x5 x6 => S7.rec (motive := fun _ => Fm) (fun y0 y1 y2 y3 y4 y5 y6 => S7.rec (motive := fun _ => Fm) (fun z0 z1 z2 z3 _ z5 z6 => ⟨x0, x1, x2, x3, ⟨y0, y1, y2, y3, y4, y5, ⟨z0, z1, z2, z3, v, z5, z6⟩⟩, x5, x6⟩) y6) x4) q
noncomputable def w243 : W := fun q v => S7.rec (motive := fun _ => Fm) (fun x0 x1 x2 x3 x4 x5 x6 => S7.rec (motive := fun _ => Fm) (fun y0 y1 y2 y3 y4 y5 y6 => S7.rec (motive := fun _ => Fm) (fun z0 z1 z2 z3 z4 _ z6 => ⟨x0, x1, x2, x3, ⟨y0, y1, y2, y3, y4, y5, ⟨z0, z1, z2, z3, z4, v, z6⟩⟩, x5, x6⟩) y6) x4) q
noncomputable def w244 : W := fun q v => S7.rec (motive := fun _ => Fm) (fun x0 x1 x2 x3 x4 x5 x6 => S7.rec (motive := fun _ => Fm) (fun y0 y1 y2 y3 y4 y5 y6 => S7.rec (motive := fun _ => Fm) (fun z0 z1 z2 z3 z4 z5 _ => ⟨x0, x1, x2, x3, ⟨y0, y1, y2, y3, y4, y5, ⟨z0, z1, z2, z3, z4, z5, v⟩⟩, x5, x6⟩) y6) x4) q
noncomputable def w245 : W := fun q v => S7.rec (motive := fun _ => Fm) (fun x0 x1 x2 x3 x4 x5 x6 => S7.rec (motive := fun _ => Fm) (fun y0 y1 y2 y3 y4 y5 y6 => S7.rec (motive := fun _ => Fm) (fun _ z1 z2 z3 z4 z5 z6 => ⟨x0, x1, x2, x3, x4, ⟨⟨v, z1, z2, z3, z4, z5, z6⟩, y1, y2, y3, y4, y5, y6⟩, x6⟩) y0) x5) q
noncomputable def w246 : W := fun q v => S7.rec (motive := fun _ => Fm) (fun x0 x1 x2 x3 x4 x5 x6 => S7.rec (motive := fun _ => Fm) (fun y0 y1 y2 y3 y4 y5 y6 => S7.rec (motive := fun _ => Fm) (fun z0 _ z2 z3 z4 z5 z6 => ⟨x0, x1, x2, x3, x4, ⟨⟨z0, v, z2, z3, z4, z5, z6⟩, y1, y2, y3, y4, y5, y6⟩, x6⟩) y0) x5) q
noncomputable def w247 : W := fun q v => S7.rec (motive := fun _ => Fm) (fun x0 x1 x2 x3 x4 x5 x6 => S7.rec (motive := fun _ => Fm) (fun y0 y1 y2 y3 y4 y5 y6 => S7.rec (motive := fun _ => Fm) (fun z0 z1 _ z3 z4 z5 z6 => ⟨x0, x1, x2, x3, x4, ⟨⟨z0, z1, v, z3, z4, z5, z6⟩, y1, y2, y3, y4, y5, y6⟩, x6⟩) y0) x5) q
noncomputable def w248 : W := fun q v => S7.rec (motive := fun _ => Fm) (fun x0 x1 x2 x3 x4 x5 x6 => S7.rec (motive := fun _ => Fm) (fun y0 y1 y2 y3 y4 y5 y6 => S7.rec (motive := fun _ => Fm) (fun z0 z1 z2 _ z4 z5 z6 => ⟨x0, x1, x2, x3, x4, ⟨⟨z0, z1, z2, v, z4, z5, z6⟩, y1, y2, y3, y4, y5, y6⟩, x6⟩) y0) x5) q
noncomputable def w249 : W := fun q v => S7.rec (motive := fun _ => Fm) (fun x0 x1 x2 x3 x4 x5 x6 => S7.rec (motive := fun _ => Fm) (fun y0 y1 y2 y3 y4 y5 y6 => S7.rec (motive := fun _ => Fm) (fun z0 z1 z2 z3 _ z5 z6 => ⟨x0, x1, x2, x3, x4, ⟨⟨z0, z1, z2, z3, v, z5, z6⟩, y1, y2, y3, y4, y5, y6⟩, x6⟩) y0) x5) q
noncomputable def w250 : W := fun q v => S7.rec (motive := fun _ => Fm) (fun x0 x1 x2 x3 x4 x5 x6 => S7.rec (motive := fun _ => Fm) (fun y0 y1 y2 y3 y4 y5 y6 => S7.rec (motive := fun _ => Fm) (fun z0 z1 z2 z3 z4 _ z6 => ⟨x0, x1, x2, x3, x4, ⟨⟨z0, z1, z2, z3, z4, v, z6⟩, y1, y2, y3, y4, y5, y6⟩, x6⟩) y0) x5) q
noncomputable def w251 : W := fun q v => S7.rec (motive := fun _ => Fm) (fun x0 x1 x2 x3 x4 x5 x6 => S7.rec (motive := fun _ => Fm) (fun y0 y1 y2 y3 y4 y5 y6 => S7.rec (motive := fun _ => Fm) (fun z0 z1 z2 z3 z4 z5 _ => ⟨x0, x1, x2, x3, x4, ⟨⟨z0, z1, z2, z3, z4, z5, v⟩, y1, y2, y3, y4, y5, y6⟩, x6⟩) y0) x5) q
noncomputable def w252 : W := fun q v => S7.rec (motive := fun _ => Fm) (fun x0 x1 x2 x3 x4 x5 x6 => S7.rec (motive := fun _ => Fm) (fun y0 y1 y2 y3 y4 y5 y6 => S7.rec (motive := fun _ => Fm) (fun _ z1 z2 z3 z4 z5 z6 => ⟨x0, x1, x2, x3, x4, ⟨y0, ⟨v, z1, z2, z3, z4, z5, z6⟩, y2, y3, y4, y5, y6⟩, x6⟩) y1) x5) q
noncomputable def w253 : W := fun q v => S7.rec (motive := fun _ => Fm) (fun x0 x1 x2 x3 x4 x5 x6 => S7.rec (motive := fun _ => Fm) (fun y0 y1 y2 y3 y4 y5 y6 => S7.rec (motive := fun _ => Fm) (fun z0 _ z2 z3 z4 z5 z6 => ⟨x0, x1, x2, x3, x4, ⟨y0, ⟨z0, v, z2, z3, z4, z5, z6⟩, y2, y3, y4, y5, y6⟩, x6⟩) y1) x5) q
noncomputable def w254 : W := fun q v => S7.rec (motive := fun _ => Fm) (fun x0 x1 x2 x3 x4 x5 x6 => S7.rec (motive := fun _ => Fm) (fun y0 y1 y2 y3 y4 y5 y6 => S7.rec (motive := fun _ => Fm) (fun z0 z1 _ z3 z4 z5 z6 => ⟨x0, x1, x2, x3, x4, ⟨y0, ⟨z0, z1, v, z3, z4, z5, z6⟩, y2, y3, y4, y5, y6⟩, x6⟩) y1) x5) q
noncomputable def w255 : W := fun q v => S7.rec (motive := fun _ => Fm) (fun x0 x1 x2 x3 x4 x5 x6 => S7.rec (motive := fun _ => Fm) (fun y0 y1 y2 y3 y4 y5 y6 => S7.rec (motive := fun _ => Fm) (fun z0 z1 z2 _ z4 z5 z6 => ⟨x0, x1, x2, x3, x4, ⟨y0, ⟨z0, z1, z2, v, z4, z5, z6⟩, y2, y3, y4, y5, y6⟩, x6⟩) y1) x5) q
noncomputable def w256 : W := fun q v => S7.rec (motive := fun _ => Fm) (fun x0 x1 x2 x3 x4 x5 x6 => S7.rec (motive := fun _ => Fm) (fun y0 y1 y2 y3 y4 y5 y6 => S7.rec (motive := fun _ => Fm) (fun z0 z1 z2 z3 _ z5 z6 => ⟨x0, x1, x2, x3, x4, ⟨y0, ⟨z0, z1, z2, z3, v, z5, z6⟩, y2, y3, y4, y5, y6⟩, x6⟩) y1) x5) q
noncomputable def w257 : W := fun q v => S7.rec (motive := fun _ => Fm) (fun x0 x1 x2 x3 x4 x5 x6 => S7.rec (motive := fun _ => Fm) (fun y0 y1 y2 y3 y4 y5 y6 => S7.rec (motive := fun _ => Fm) (fun z0 z1 z2 z3 z4 _ z6 => ⟨x0, x1, x2, x3, x4, ⟨y0, ⟨z0, z1, z2, z3, z4, v, z6⟩, y2, y3, y4, y5, y6⟩, x6⟩) y1) x5) q
noncomputable def w258 : W := fun q v => S7.rec (motive := fun _ => Fm) (fun x0 x1 x2 x3 x4 x5 x6 => S7.rec (motive := fun _ => Fm) (fun y0 y1 y2 y3 y4 y5 y6 => S7.rec (motive := fun _ => Fm) (fun z0 z1 z2 z3 z4 z5 _ => ⟨x0, x1, x2, x3, x4, ⟨y0, ⟨z0, z1, z2, z3, z4, z5, v⟩, y2, y3, y4, y5, y6⟩, x6⟩) y1) x5) q
noncomputable def w259 : W := fun q v => S7.rec (motive := fun _ => Fm) (fun x0 x1 x2 x3 x4 x5 x6 => S7.rec (motive := fun _ => Fm) (fun y0 y1 y2 y3 y4 y5 y6 => S7.rec (motive := fun _ => Fm) (fun _ z1 z2 z3 z4 z5 z6 => ⟨x0, x1, x2, x3, x4, ⟨y0, y1, ⟨v, z1, z2, z3, z4, z5, z6⟩, y3, y4, y5, y6⟩, x6⟩) y2) x5) q
noncomputable def w260 : W := fun q v => S7.rec (motive := fun _ => Fm) (fun x0 x1 x2 x3 x4 x5 x6 => S7.rec (motive := fun _ => Fm) (fun y0 y1 y2 y3 y4 y5 y6 => S7.rec (motive := fun _ => Fm) (fun z0 _ z2 z3 z4 z5 z6 => ⟨x0, x1, x2, x3, x4, ⟨y0, y1, ⟨z0, v, z2, z3, z4, z5, z6⟩, y3, y4, y5, y6⟩, x6⟩) y2) x5) q
noncomputable def w261 : W := fun q v => S7.rec (motive := fun _ => Fm) (fun x0 x1 x2 x3 x4 x5 x6 => S7.rec (motive := fun _ => Fm) (fun y0 y1 y2 y3 y4 y5 y6 => S7.rec (motive := fun _ => Fm) (fun z0 z1 _ z3 z4 z5 z6 => ⟨x0, x1, x2, x3, x4, ⟨y0, y1, ⟨z0, z1, v, z3, z4, z5, z6⟩, y3, y4, y5, y6⟩, x6⟩) y2) x5) q
noncomputable def w262 : W := fun q v => S7.rec (motive := fun _ => Fm) (fun x0 x1 x2 x3 x4 x5 x6 => S7.rec (motive := fun _ => Fm) (fun y0 y1 y2 y3 y4 y5 y6 => S7.rec (motive := fun _ => Fm) (fun z0 z1 z2 _ z4 z5 z6 => ⟨x0, x1, x2, x3, x4, ⟨y0, y1, ⟨z0, z1, z2, v, z4, z5, z6⟩, y3, y4, y5, y6⟩, x6⟩) y2) x5) q
noncomputable def w263 : W := fun q v => S7.rec (motive := fun _ => Fm) (fun x0 x1 x2 x3 x4 x5 x6 => S7.rec (motive := fun _ => Fm) (fun y0 y1 y2 y3 y4 y5 y6 => S7.rec (motive := fun _ => Fm) (fun z0 z1 z2 z3 _ z5 z6 => ⟨x0, x1, x2, x3, x4, ⟨y0, y1, ⟨z0, z1, z2, z3, v, z5, z6⟩, y3, y4, y5, y6⟩, x6⟩) y2) x5) q
noncomputable def w264 : W := fun q v => S7.rec (motive := fun _ => Fm) (fun x0 x1 x2 x3 x4 x5 x6 => S7.rec (motive := fun _ => Fm) (fun y0 y1 y2 y3 y4 y5 y6 => S7.rec (motive := fun _ => Fm) (fun z0 z1 z2 z3 z4 _ z6 => ⟨x0, x1, x2, x3, x4, ⟨y0, y1, ⟨z0, z1, z2, z3, z4, v, z6⟩, y3, y4, y5, y6⟩, x6⟩) y2) x5) q
noncomputable def w265 : W := fun q v => S7.rec (motive := fun _ => Fm) (fun x0 x1 x2 x3 x4 x5 x6 => S7.rec (motive := fun _ => Fm) (fun y0 y1 y2 y3 y4 y5 y6 => S7.rec (motive := fun _ => Fm) (fun z0 z1 z2 z3 z4 z5 _ => ⟨x0, x1, x2, x3, x4, ⟨y0, y1, ⟨z0, z1, z2, z3, z4, z5, v⟩, y3, y4, y5, y6⟩, x6⟩) y2) x5) q
noncomputable def w266 : W := fun q v => S7.rec (motive := fun _ => Fm) (fun x0 x1 x2 x3 x4 x5 x6 => S7.rec (motive := fun _ => Fm) (fun y0 y1 y2 y3 y4 y5 y6 => S7.rec (motive := fun _ => Fm) (fun _ z1 z2 z3 z4 z5 z6 => ⟨x0, x1, x2, x3, x4, ⟨y0, y1, y2, ⟨v, z1, z2, z3, z4, z5, z6⟩, y4, y5, y6⟩, x6⟩) y3) x5) q
noncomputable def w267 : W := fun q v => S7.rec (motive := fun _ => Fm) (fun x0 x1 x2 x3 x4 x5 x6 => S7.rec (motive := fun _ => Fm) (fun y0 y1 y2 y3 y4 y5 y6 => S7.rec (motive := fun _ => Fm) (fun z0 _ z2 z3 z4 z5 z6 => ⟨x0, x1, x2, x3, x4, ⟨y0, y1, y2, ⟨z0, v, z2, z3, z4, z5, z6⟩, y4, y5, y6⟩, x6⟩) y3) x5) q
noncomputable def w268 : W := fun q v => S7.rec (motive := fun _ => Fm) (fun x0 x1 x2 x3 x4 x5 x6 => S7.rec (motive := fun _ => Fm) (fun y0 y1 y2 y3 y4 y5 y6 => S7.rec (motive := fun _ => Fm) (fun z0 z1 _ z3 z4 z5 z6 => ⟨x0, x1, x2, x3, x4, ⟨y0, y1, y2, ⟨z0, z1, v, z3, z4, z5, z6⟩, y4, y5, y6⟩, x6⟩) y3) x5) q
noncomputable def w269 : W := fun q v => S7.rec (motive := fun _ => Fm) (fun x0 x1 x2 x3 x4 x5 x6 => S7.rec (motive := fun _ => Fm) (fun y0 y1 y2 y3 y4 y5 y6 => S7.rec (motive := fun _ => Fm) (fun z0 z1 z2 _ z4 z5 z6 => ⟨x0, x1, x2, x3, x4, ⟨y0, y1, y2, ⟨z0, z1, z2, v, z4, z5, z6⟩, y4, y5, y6⟩, x6⟩) y3) x5) q
noncomputable def w270 : W := fun q v => S7.rec (motive := fun _ => Fm) (fun x0 x1 x2 x3 x4 x5 x6 => S7.rec (motive := fun _ => Fm) (fun y0 y1 y2 y3 y4 y5 y6 => S7.rec (motive := fun _ => Fm) (fun z0 z1 z2 z3 _ z5 z6 => ⟨x0, x1, x2, x3, x4, ⟨y0, y1, y2, ⟨z0, z1, z2, z3, v, z5, z6⟩, y4, y5, y6⟩, x6⟩) y3) x5) q
noncomputable def w271 : W := fun q v => S7.rec (motive := fun _ => Fm) (fun x0 x1 x2 x3 x4 x5 x6 => S7.rec (motive := fun _ => Fm) (fun y0 y1 y2 y3 y4 y5 y6 => S7.rec (motive := fun _ => Fm) (fun z0 z1 z2 z3 z4 _ z6 => ⟨x0, x1, x2, x3, x4, ⟨y0, y1, y2, ⟨z0, z1, z2, z3, z4, v, z6⟩, y4, y5, y6⟩, x6⟩) y3) x5) q
noncomputable def w272 : W := fun q v => S7.rec (motive := fun _ => Fm) (fun x0 x1 x2 x3 x4 x5 x6 => S7.rec (motive := fun _ => Fm) (fun y0 y1 y2 y3 y4 y5 y6 => S7.rec (motive := fun _ => Fm) (fun z0 z1 z2 z3 z4 z5 _ => ⟨x0, x1, x2, x3, x4, ⟨y0, y1, y2, ⟨z0, z1, z2, z3, z4, z5, v⟩, y4, y5, y6⟩, x6⟩) y3) x5) q
noncomputable def w273 : W := fun q v => S7.rec (motive := fun _ => Fm) (fun x0 x1 x2 x3 x4 x5 x6 => S7.rec (motive := fun _ => Fm) (fun y0 y1 y2 y3 y4 y5 y6 => S7.rec (motive := fun _ => Fm) (fun _ z1 z2 z3 z4 z5 z6 => ⟨x0, x1, x2, x3, x4, ⟨y0, y1, y2, y3, ⟨v, z1, z2, z3, z4, z5, z6⟩, y5, y6⟩, x6⟩) y4) x5) q
noncomputable def w274 : W := fun q v => S7.rec (motive := fun _ => Fm) (fun x0 x1 x2 x3 x4 x5 x6 => S7.rec (motive := fun _ => Fm) (fun y0 y1 y2 y3 y4 y5 y6 => S7.rec (motive := fun _ => Fm) (fun z0 _ z2 z3 z4 z5 z6 => ⟨x0, x1, x2, x3, x4, ⟨y0, y1, y2, y3, ⟨z0, v, z2, z3, z4, z5, z6⟩, y5, y6⟩, x6⟩) y4) x5) q
noncomputable def w275 : W := fun q v => S7.rec (motive := fun _ => Fm) (fun x0 x1 x2 x3 x4 x5 x6 => S7.rec (motive := fun _ => Fm) (fun y0 y1 y2 y3 y4 y5 y6 => S7.rec (motive := fun _ => Fm) (fun z0 z1 _ z3 z4 z5 z6 => ⟨x0, x1, x2, x3, x4, ⟨y0, y1, y2, y3, ⟨z0, z1, v, z3, z4, z5, z6⟩, y5, y6⟩, x6⟩) y4) x5) q
noncomputable def w276 : W := fun q v => S7.rec (motive := fun _ => Fm) (fun x0 x1 x2 x3 x4 x5 x6 => S7.rec (motive := fun _ => Fm) (fun y0 y1 y2 y3 y4 y5 y6 => S7.rec (motive := fun _ => Fm) (fun z0 z1 z2 _ z4 z5 z6 => ⟨x0, x1, x2, x3, x4, ⟨y0, y1, y2, y3, ⟨z0, z1, z2, v, z4, z5, z6⟩, y5, y6⟩, x6⟩) y4) x5) q
noncomputable def w277 : W := fun q v => S7.rec (motive := fun _ => Fm) (fun x0 x1 x2 x3 x4 x5 x6 => S7.rec (motive := fun _ => Fm) (fun y0 y1 y2 y3 y4 y5 y6 => S7.rec (motive := fun _ => Fm) (fun z0 z1 z2 z3 _ z5 z6 => ⟨x0, x1, x2, x3, x4, ⟨y0, y1, y2, y3, ⟨z0, z1, z2, z3, v, z5, z6⟩, y5, y6⟩, x6⟩) y4) x5) q
noncomputable def w278 : W := fun q v => S7.rec (motive := fun _ => Fm) (fun x0 x1 x2 x3 x4 x5 x6 => S7.rec (motive := fun _ => Fm) (fun y0 y1 y2 y3 y4 y5 y6 => S7.rec (motive := fun _ => Fm) (fun z0 z1 z2 z3 z4 _ z6 => ⟨x0, x1, x2, x3, x4, ⟨y0, y1, y2, y3, ⟨z0, z1, z2, z3, z4, v, z6⟩, y5, y6⟩, x6⟩) y4) x5) q
noncomputable def w279 : W := fun q v => S7.rec (motive := fun _ => Fm) (fun x0 x1 x2 x3 x4 x5 x6 => S7.rec (motive := fun _ => Fm) (fun y0 y1 y2 y3 y4 y5 y6 => S7.rec (motive := fun _ => Fm) (fun z0 z1 z2 z3 z4 z5 _ => ⟨x0, x1, x2, x3, x4, ⟨y0, y1, y2, y3, ⟨z0, z1, z2, z3, z4, z5, v⟩, y5, y6⟩, x6⟩) y4) x5) q
noncomputable def w280 : W := fun q v => S7.rec (motive := fun _ => Fm) (fun x0 x1 x2 x3 x4 x5 x6 => S7.rec (motive := fun _ => Fm) (fun y0 y1 y2 y3 y4 y5 y6 => S7.rec (motive := fun _ => Fm) (fun _ z1 z2 z3 z4 z5 z6 => ⟨x0, x1, x2, x3, x4, ⟨y0, y1, y2, y3, y4, ⟨v, z1, z2, z3, z4, z5, z6⟩, y6⟩, x6⟩) y5) x5) q
noncomputable def w281 : W := fun q v => S7.rec (motive := fun _ => Fm) (fun x0 x1 x2 x3 x4 x5 x6 => S7.rec (motive := fun _ => Fm) (fun y0 y1 y2 y3 y4 y5 y6 => S7.rec (motive := fun _ => Fm) (fun z0 _ z2 z3 z4 z5 z6 => ⟨x0, x1, x2, x3, x4, ⟨y0, y1, y2, y3, y4, ⟨z0, v, z2, z3, z4, z5, z6⟩, y6⟩, x6⟩) y5) x5) q
noncomputable def w282 : W := fun q v => S7.rec (motive := fun _ => Fm) (fun x0 x1 x2 x3 x4 x5 x6 => S7.rec (motive := fun _ => Fm) (fun y0 y1 y2 y3 y4 y5 y6 => S7.rec (motive := fun _ => Fm) (fun z0 z1 _ z3 z4 z5 z6 => ⟨x0, x1, x2, x3, x4, ⟨y0, y1, y2, y3, y4, ⟨z0, z1, v, z3, z4, z5, z6⟩, y6⟩, x6⟩) y5) x5) q
noncomputable def w283 : W := fun q v => S7.rec (motive := fun _ => Fm) (fun x0 x1 x2 x3 x4 x5 x6 => S7.rec (motive := fun _ => Fm) (fun y0 y1 y2 y3 y4 y5 y6 => S7.rec (motive := fun _ => Fm) (fun z0 z1 z2 _ z4 z5 z6 => ⟨x0, x1, x2, x3, x4, ⟨y0, y1, y2, y3, y4, ⟨z0, z1, z2, v, z4, z5, z6⟩, y6⟩, x6⟩) y5) x5) q
noncomputable def w284 : W := fun q v => S7.rec (motive := fun _ => Fm) (fun x0 x1 x2 x3 x4 x5 x6 => S7.rec (motive := fun _ => Fm) (fun y0 y1 y2 y3 y4 y5 y6 => S7.rec (motive := fun _ => Fm) (fun z0 z1 z2 z3 _ z5 z6 => ⟨x0, x1, x2, x3, x4, ⟨y0, y1, y2, y3, y4, ⟨z0, z1, z2, z3, v, z5, z6⟩, y6⟩, x6⟩) y5) x5) q
noncomputable def w285 : W := fun q v => S7.rec (motive := fun _ => Fm) (fun x0 x1 x2 x3 x4 x5 x6 => S7.rec (motive := fun _ => Fm) (fun y0 y1 y2 y3 y4 y5 y6 => S7.rec (motive := fun _ => Fm) (fun z0 z1 z2 z3 z4 _ z6 => ⟨x0, x1, x2, x3, x4, ⟨y0, y1, y2, y3, y4, ⟨z0, z1, z2, z3, z4, v, z6⟩, y6⟩, x6⟩) y5) x5) q
noncomputable def w286 : W := fun q v => S7.rec (motive := fun _ => Fm) (fun x0 x1 x2 x3 x4 x5 x6 => S7.rec (motive := fun _ => Fm) (fun y0 y1 y2 y3 y4 y5 y6 => S7.rec (motive := fun _ => Fm) (fun z0 z1 z2 z3 z4 z5 _ => ⟨x0, x1, x2, x3, x4, ⟨y0, y1, y2, y3, y4, ⟨z0, z1, z2, z3, z4, z5, v⟩, y6⟩, x6⟩) y5) x5) q
noncomputable def w287 : W := fun q v => S7.rec (motive := fun _ => Fm) (fun x0 x1 x2 x3 x4 x5 x6 => S7.rec (motive := fun _ => Fm) (fun y0 y1 y2 y3 y4 y5 y6 => S7.rec (motive := fun _ => Fm) (fun _ z1 z2 z3 z4 z5 z6 => ⟨x0, x1, x2, x3, x4, ⟨y0, y1, y2, y3, y4, y5, ⟨v, z1, z2, z3, z4, z5, z6⟩⟩, x6⟩) y6) x5) q
noncomputable def w288 : W := fun q v => S7.rec (motive := fun _ => Fm) (fun x0 x1 x2 x3 x4 x5 x6 => S7.rec (motive := fun _ => Fm) (fun y0 y1 y2 y3 y4 y5 y6 => S7.rec (motive := fun _ => Fm) (fun z0 _ z2 z3 z4 z5 z6 => ⟨x0, x1, x2, x3, x4, ⟨y0, y1, y2, y3, y4, y5, ⟨z0, v, z2, z3, z4, z5, z6⟩⟩, x6⟩) y6) x5) q
noncomputable def w289 : W := fun q v => S7.rec (motive := fun _ => Fm) (fun x0 x1 x2 x3 x4 x5 x6 => S7.rec (motive := fun _ => Fm) (fun y0 y1 y2 y3 y4 y5 y6 => S7.rec (motive := fun _ => Fm) (fun z0 z1 _ z3 z4 z5 z6 => ⟨x0, x1, x2, x3, x4, ⟨y0, y1, y2, y3, y4, y5, ⟨z0, z1, v, z3, z4, z5, z6⟩⟩, x6⟩) y6) x5) q
noncomputable def w290 : W := fun q v => S7.rec (motive := fun _ => Fm) (fun x0 x1 x2 x3 x4 x5 x6 => S7.rec (motive := fun _ => Fm) (fun y0 y1 y2 y3 y4 y5 y6 => S7.rec (motive := fun _ => Fm) (fun z0 z1 z2 _ z4 z5 z6 => ⟨x0, x1, x2, x3, x4, ⟨y0, y1, y2, y3, y4, y5, ⟨z0, z1, z2, v, z4, z5, z6⟩⟩, x6⟩) y6) x5) q
noncomputable def w291 : W := fun q v => S7.rec (motive := fun _ => Fm) (fun x0 x1 x2 x3 x4 x5 x6 => S7.rec (motive := fun _ => Fm) (fun y0 y1 y2 y3 y4 y5 y6 => S7.rec (motive := fun _ => Fm) (fun z0 z1 z2 z3 _ z5 z6 => ⟨x0, x1, x2, x3, x4, ⟨y0, y1, y2, y3, y4, y5, ⟨z0, z1, z2, z3, v, z5, z6⟩⟩, x6⟩) y6) x5) q
noncomputable def w292 : W := fun q v => S7.rec (motive := fun _ => Fm) (fun x0 x1 x2 x3 x4 x5 x6 => S7.rec (motive := fun _ => Fm) (fun y0 y1 y2 y3 y4 y5 y6 => S7.rec (motive := fun _ => Fm) (fun z0 z1 z2 z3 z4 _ z6 => ⟨x0, x1, x2, x3, x4, ⟨y0, y1, y2, y3, y4, y5, ⟨z0, z1, z2, z3, z4, v, z6⟩⟩, x6⟩) y6) x5) q
noncomputable def w293 : W := fun q v => S7.rec (motive := fun _ => Fm) (fun x0 x1 x2 x3 x4 x5 x6 => S7.rec (motive := fun _ => Fm) (fun y0 y1 y2 y3 y4 y5 y6 => S7.rec (motive := fun _ => Fm) (fun z0 z1 z2 z3 z4 z5 _ => ⟨x0, x1, x2, x3, x4, ⟨y0, y1, y2, y3, y4, y5, ⟨z0, z1, z2, z3, z4, z5, v⟩⟩, x6⟩) y6) x5) q
noncomputable def w294 : W := fun q v => S7.rec (motive := fun _ => Fm) (fun x0 x1 x2 x3 x4 x5 x6 => S7.rec (motive := fun _ => Fm) (fun y0 y1 y2 y3 y4 y5 y6 => S7.rec (motive := fun _ => Fm) (fun _ z1 z2 z3 z4 z5 z6 => ⟨x0, x1, x2, x3, x4, x5, ⟨⟨v, z1, z2, z3, z4, z5, z6⟩, y1, y2, y3, y4, y5, y6⟩⟩) y0) x6) q
noncomputable def w295 : W := fun q v => S7.rec (motive := fun _ => Fm) (fun x0 x1 x2 x3 x4 x5 x6 => S7.rec (motive := fun _ => Fm) (fun y0 y1 y2 y3 y4 y5 y6 => S7.rec (motive := fun _ => Fm) (fun z0 _ z2 z3 z4 z5 z6 => ⟨x0, x1, x2, x3, x4, x5, ⟨⟨z0, v, z2, z3, z4, z5, z6⟩, y1, y2, y3, y4, y5, y6⟩⟩) y0) x6) q
noncomputable def w296 : W := fun q v => S7.rec (motive := fun _ => Fm) (fun x0 x1 x2 x3 x4 x5 x6 => S7.rec (motive := fun _ => Fm) (fun y0 y1 y2 y3 y4 y5 y6 => S7.rec (motive := fun _ => Fm) (fun z0 z1 _ z3 z4 z5 z6 => ⟨x0, x1, x2, x3, x4, x5, ⟨⟨z0, z1, v, z3, z4, z5, z6⟩, y1, y2, y3, y4, y5, y6⟩⟩) y0) x6) q
noncomputable def w297 : W := fun q v => S7.rec (motive := fun _ => Fm) (fun x0 x1 x2 x3 x4 x5 x6 => S7.rec (motive := fun _ => Fm) (fun y0 y1 y2 y3 y4 y5 y6 => S7.rec (motive := fun _ => Fm) (fun z0 z1 z2 _ z4 z5 z6 => ⟨x0, x1, x2, x3, x4, x5, ⟨⟨z0, z1, z2, v, z4, z5, z6⟩, y1, y2, y3, y4, y5, y6⟩⟩) y0) x6) q
noncomputable def w298 : W := fun q v => S7.rec (motive := fun _ => Fm) (fun x0 x1 x2 x3 x4 x5 x6 => S7.rec (motive := fun _ => Fm) (fun y0 y1 y2 y3 y4 y5 y6 => S7.rec (motive := fun _ => Fm) (fun z0 z1 z2 z3 _ z5 z6 => ⟨x0, x1, x2, x3, x4, x5, ⟨⟨z0, z1, z2, z3, v, z5, z6⟩, y1, y2, y3, y4, y5, y6⟩⟩) y0) x6) q
noncomputable def w299 : W := fun q v => S7.rec (motive := fun _ => Fm) (fun x0 x1 x2 x3 x4 x5 x6 => S7.rec (motive := fun _ => Fm) (fun y0 y1 y2 y3 y4 y5 y6 => S7.rec (motive := fun _ => Fm) (fun z0 z1 z2 z3 z4 _ z6 => ⟨x0, x1, x2, x3, x4, x5, ⟨⟨z0, z1, z2, z3, z4, v, z6⟩, y1, y2, y3, y4, y5, y6⟩⟩) y0) x6) q
noncomputable def w300 : W := fun q v => S7.rec (motive := fun _ => Fm) (fun x0 x1 x2 x3 x4 x5 x6 => S7.rec (motive := fun _ => Fm) (fun y0 y1 y2 y3 y4 y5 y6 => S7.rec (motive := fun _ => Fm) (fun z0 z1 z2 z3 z4 z5 _ => ⟨x0, x1, x2, x3, x4, x5, ⟨⟨z0, z1, z2, z3, z4, z5, v⟩, y1, y2, y3, y4, y5, y6⟩⟩) y0) x6) q
noncomputable def w301 : W := fun q v => S7.rec (motive := fun _ => Fm) (fun x0 x1 x2 x3 x4 x5 x6 => S7.rec (motive := fun _ => Fm) (fun y0 y1 y2 y3 y4 y5 y6 => S7.rec (motive := fun _ => Fm) (fun _ z1 z2 z3 z4 z5 z6 => ⟨x0, x1, x2, x3, x4, x5, ⟨y0, ⟨v, z1, z2, z3, z4, z5, z6⟩, y2, y3, y4, y5, y6⟩⟩) y1) x6) q
noncomputable def w302 : W := fun q v => S7.rec (motive := fun _ => Fm) (fun x0 x1 x2 x3 x4 x5 x6 => S7.rec (motive := fun _ => Fm) (fun y0 y1 y2 y3 y4 y5 y6 => S7.rec (motive := fun _ => Fm) (fun z0 _ z2 z3 z4 z5 z6 => ⟨x0, x1, x2, x3, x4, x5, ⟨y0, ⟨z0, v, z2, z3, z4, z5, z6⟩, y2, y3, y4, y5, y6⟩⟩) y1) x6) q
noncomputable def w303 : W := fun q v => S7.rec (motive := fun _ => Fm) (fun x0 x1 x2 x3 x4 x5 x6 => S7.rec (motive := fun _ => Fm) (fun y0 y1 y2 y3 y4 y5 y6 => S7.rec (motive := fun _ => Fm) (fun z0 z1 _ z3 z4 z5 z6 => ⟨x0, x1, x2, x3, x4, x5, ⟨y0, ⟨z0, z1, v, z3, z4, z5, z6⟩, y2, y3, y4, y5, y6⟩⟩) y1) x6) q
noncomputable def w304 : W := fun q v => S7.rec (motive := fun _ => Fm) (fun x0 x1 x2 x3 x4 x5 x6 => S7.rec (motive := fun _ => Fm) (fun y0 y1 y2 y3 y4 y5 y6 => S7.rec (motive := fun _ => Fm) (fun z0 z1 z2 _ z4 z5 z6 => ⟨x0, x1, x2, x3, x4, x5, ⟨y0, ⟨z0, z1, z2, v, z4, z5, z6⟩, y2, y3, y4, y5, y6⟩⟩) y1) x6) q
noncomputable def w305 : W := fun q v => S7.rec (motive := fun _ => Fm) (fun x0 x1 x2 x3 x4 x5 x6 => S7.rec (motive := fun _ => Fm) (fun y0 y1 y2 y3 y4 y5 y6 => S7.rec (motive := fun _ => Fm) (fun z0 z1 z2 z3 _ z5 z6 => ⟨x0, x1, x2, x3, x4, x5, ⟨y0, ⟨z0, z1, z2, z3, v, z5, z6⟩, y2, y3, y4, y5, y6⟩⟩) y1) x6) q
noncomputable def w306 : W := fun q v => S7.rec (motive := fun _ => Fm) (fun x0 x1 x2 x3 x4 x5 x6 => S7.rec (motive := fun _ => Fm) (fun y0 y1 y2 y3 y4 y5 y6 => S7.rec (motive := fun _ => Fm) (fun z0 z1 z2 z3 z4 _ z6 => ⟨x0, x1, x2, x3, x4, x5, ⟨y0, ⟨z0, z1, z2, z3, z4, v, z6⟩, y2, y3, y4, y5, y6⟩⟩) y1) x6) q
noncomputable def w307 : W := fun q v => S7.rec (motive := fun _ => Fm) (fun x0 x1 x2 x3 x4 x5 x6 => S7.rec (motive := fun _ => Fm) (fun y0 y1 y2 y3 y4 y5 y6 => S7.rec (motive := fun _ => Fm) (fun z0 z1 z2 z3 z4 z5 _ => ⟨x0, x1, x2, x3, x4, x5, ⟨y0, ⟨z0, z1, z2, z3, z4, z5, v⟩, y2, y3, y4, y5, y6⟩⟩) y1) x6) q
noncomputable def w308 : W := fun q v => S7.rec (motive := fun _ => Fm) (fun x0 x1 x2 x3 x4 x5 x6 => S7.rec (motive := fun _ => Fm) (fun y0 y1 y2 y3 y4 y5 y6 => S7.rec (motive := fun _ => Fm) (fun _ z1 z2 z3 z4 z5 z6 => ⟨x0, x1, x2, x3, x4, x5, ⟨y0, y1, ⟨v, z1, z2, z3, z4, z5, z6⟩, y3, y4, y5, y6⟩⟩) y2) x6) q
noncomputable def w309 : W := fun q v => S7.rec (motive := fun _ => Fm) (fun x0 x1 x2 x3 x4 x5 x6 => S7.rec (motive := fun _ => Fm) (fun y0 y1 y2 y3 y4 y5 y6 => S7.rec (motive := fun _ => Fm) (fun z0 _ z2 z3 z4 z5 z6 => ⟨x0, x1, x2, x3, x4, x5, ⟨y0, y1, ⟨z0, v, z2, z3, z4, z5, z6⟩, y3, y4, y5, y6⟩⟩) y2) x6) q
noncomputable def w310 : W := fun q v => S7.rec (motive := fun _ => Fm) (fun x0 x1 x2 x3 x4 x5 x6 => S7.rec (motive := fun _ => Fm) (fun y0 y1 y2 y3 y4 y5 y6 => S7.rec (motive := fun _ => Fm) (fun z0 z1 _ z3 z4 z5 z6 => ⟨x0, x1, x2, x3, x4, x5, ⟨y0, y1, ⟨z0, z1, v, z3, z4, z5, z6⟩, y3, y4, y5, y6⟩⟩) y2) x6) q
noncomputable def w311 : W := fun q v => S7.rec (motive := fun _ => Fm) (fun x0 x1 x2 x3 x4 x5 x6 => S7.rec (motive := fun _ => Fm) (fun y0 y1 y2 y3 y4 y5 y6 => S7.rec (motive := fun _ => Fm) (fun z0 z1 z2 _ z4 z5 z6 => ⟨x0, x1, x2, x3, x4, x5, ⟨y0, y1, ⟨z0, z1, z2, v, z4, z5, z6⟩, y3, y4, y5, y6⟩⟩) y2) x6) q
noncomputable def w312 : W := fun q v => S7.rec (motive := fun _ => Fm) (fun x0 x1 x2 x3 x4 x5 x6 => S7.rec (motive := fun _ => Fm) (fun y0 y1 y2 y3 y4 y5 y6 => S7.rec (motive := fun _ => Fm) (fun z0 z1 z2 z3 _ z5 z6 => ⟨x0, x1, x2, x3, x4, x5, ⟨y0, y1, ⟨z0, z1, z2, z3, v, z5, z6⟩, y3, y4, y5, y6⟩⟩) y2) x6) q
noncomputable def w313 : W := fun q v => S7.rec (motive := fun _ => Fm) (fun x0 x1 x2 x3 x4 x5 x6 => S7.rec (motive := fun _ => Fm) (fun y0 y1 y2 y3 y4 y5 y6 => S7.rec (motive := fun _ => Fm) (fun z0 z1 z2 z3 z4 _ z6 => ⟨x0, x1, x2, x3, x4, x5, ⟨y0, y1, ⟨z0, z1, z2, z3, z4, v, z6⟩, y3, y4, y5, y6⟩⟩) y2) x6) q
noncomputable def w314 : W := fun q v => S7.rec (motive := fun _ => Fm) (fun x0 x1 x2 x3 x4 x5 x6 => S7.rec (motive := fun _ => Fm) (fun y0 y1 y2 y3 y4 y5 y6 => S7.rec (motive := fun _ => Fm) (fun z0 z1 z2 z3 z4 z5 _ => ⟨x0, x1, x2, x3, x4, x5, ⟨y0, y1, ⟨z0, z1, z2, z3, z4, z5, v⟩, y3, y4, y5, y6⟩⟩) y2) x6) q
noncomputable def w315 : W := fun q v => S7.rec (motive := fun _ => Fm) (fun x0 x1 x2 x3 x4 x5 x6 => S7.rec (motive := fun _ => Fm) (fun y0 y1 y2 y3 y4 y5 y6 => S7.rec (motive := fun _ => Fm) (fun _ z1 z2 z3 z4 z5 z6 => ⟨x0, x1, x2, x3, x4, x5, ⟨y0, y1, y2, ⟨v, z1, z2, z3, z4, z5, z6⟩, y4, y5, y6⟩⟩) y3) x6) q
noncomputable def w316 : W := fun q v => S7.rec (motive := fun _ => Fm) (fun x0 x1 x2 x3 x4 x5 x6 => S7.rec (motive := fun _ => Fm) (fun y0 y1 y2 y3 y4 y5 y6 => S7.rec (motive := fun _ => Fm) (fun z0 _ z2 z3 z4 z5 z6 => ⟨x0, x1, x2, x3, x4, x5, ⟨y0, y1, y2, ⟨z0, v, z2, z3, z4, z5, z6⟩, y4, y5, y6⟩⟩) y3) x6) q
noncomputable def w317 : W := fun q v => S7.rec (motive := fun _ => Fm) (fun x0 x1 x2 x3 x4 x5 x6 => S7.rec (motive := fun _ => Fm) (fun y0 y1 y2 y3 y4 y5 y6 => S7.rec (motive := fun _ => Fm) (fun z0 z1 _ z3 z4 z5 z6 => ⟨x0, x1, x2, x3, x4, x5, ⟨y0, y1, y2, ⟨z0, z1, v, z3, z4, z5, z6⟩, y4, y5, y6⟩⟩) y3) x6) q
noncomputable def w318 : W := fun q v => S7.rec (motive := fun _ => Fm) (fun x0 x1 x2 x3 x4 x5 x6 => S7.rec (motive := fun _ => Fm) (fun y0 y1 y2 y3 y4 y5 y6 => S7.rec (motive := fun _ => Fm) (fun z0 z1 z2 _ z4 z5 z6 => ⟨x0, x1, x2, x3, x4, x5, ⟨y0, y1, y2, ⟨z0, z1, z2, v, z4, z5, z6⟩, y4, y5, y6⟩⟩) y3) x6) q
noncomputable def w319 : W := fun q v => S7.rec (motive := fun _ => Fm) (fun x0 x1 x2 x3 x4 x5 x6 => S7.rec (motive := fun _ => Fm) (fun y0 y1 y2 y3 y4 y5 y6 => S7.rec (motive := fun _ => Fm) (fun z0 z1 z2 z3 _ z5 z6 => ⟨x0, x1, x2, x3, x4, x5, ⟨y0, y1, y2, ⟨z0, z1, z2, z3, v, z5, z6⟩, y4, y5, y6⟩⟩) y3) x6) q
noncomputable def w320 : W := fun q v => S7.rec (motive := fun _ => Fm) (fun x0 x1 x2 x3 x4 x5 x6 => S7.rec (motive := fun _ => Fm) (fun y0 y1 y2 y3 y4 y5 y6 => S7.rec (motive := fun _ => Fm) (fun z0 z1 z2 z3 z4 _ z6 => ⟨x0, x1, x2, x3, x4, x5, ⟨y0, y1, y2, ⟨z0, z1, z2, z3, z4, v, z6⟩, y4, y5, y6⟩⟩) y3) x6) q
noncomputable def w321 : W := fun q v => S7.rec (motive := fun _ => Fm) (fun x0 x1 x2 x3 x4 x5 x6 => S7.rec (motive := fun _ => Fm) (fun y0 y1 y2 y3 y4 y5 y6 => S7.rec (motive := fun _ => Fm) (fun z0 z1 z2 z3 z4 z5 _ => ⟨x0, x1, x2, x3, x4, x5, ⟨y0, y1, y2, ⟨z0, z1, z2, z3, z4, z5, v⟩, y4, y5, y6⟩⟩) y3) x6) q
noncomputable def w322 : W := fun q v => S7.rec (motive := fun _ => Fm) (fun x0 x1 x2 x3 x4 x5 x6 => S7.rec (motive := fun _ => Fm) (fun y0 y1 y2 y3 y4 y5 y6 => S7.rec (motive := fun _ => Fm) (fun _ z1 z2 z3 z4 z5 z6 => ⟨x0, x1, x2, x3, x4, x5, ⟨y0, y1, y2, y3, ⟨v, z1, z2, z3, z4, z5, z6⟩, y5, y6⟩⟩) y4) x6) q
noncomputable def w323 : W := fun q v => S7.rec (motive := fun _ => Fm) (fun x0 x1 x2 x3 x4 x5 x6 => S7.rec (motive := fun _ => Fm) (fun y0 y1 y2 y3 y4 y5 y6 => S7.rec (motive := fun _ => Fm) (fun z0 _ z2 z3 z4 z5 z6 => ⟨x0, x1, x2, x3, x4, x5, ⟨y0, y1, y2, y3, ⟨z0, v, z2, z3, z4, z5, z6⟩, y5, y6⟩⟩) y4) x6) q
noncomputable def w324 : W := fun q v => S7.rec (motive := fun _ => Fm) (fun x0 x1 x2 x3 x4 x5 x6 => S7.rec (motive := fun _ => Fm) (fun y0 y1 y2 y3 y4 y5 y6 => S7.rec (motive := fun _ => Fm) (fun z0 z1 _ z3 z4 z5 z6 => ⟨x0, x1, x2, x3, x4, x5, ⟨y0, y1, y2, y3, ⟨z0, z1, v, z3, z4, z5, z6⟩, y5, y6⟩⟩) y4) x6) q
noncomputable def w325 : W := fun q v => S7.rec (motive := fun _ => Fm) (fun x0 x1 x2 x3 x4 x5 x6 => S7.rec (motive := fun _ => Fm) (fun y0 y1 y2 y3 y4 y5 y6 => S7.rec (motive := fun _ => Fm) (fun z0 z1 z2 _ z4 z5 z6 => ⟨x0, x1, x2, x3, x4, x5, ⟨y0, y1, y2, y3, ⟨z0, z1, z2, v, z4, z5, z6⟩, y5, y6⟩⟩) y4) x6) q
noncomputable def w326 : W := fun q v => S7.rec (motive := fun _ => Fm) (fun x0 x1 x2 x3 x4 x5 x6 => S7.rec (motive := fun _ => Fm) (fun y0 y1 y2 y3 y4 y5 y6 => S7.rec (motive := fun _ => Fm) (fun z0 z1 z2 z3 _ z5 z6 => ⟨x0, x1, x2, x3, x4, x5, ⟨y0, y1, y2, y3, ⟨z0, z1, z2, z3, v, z5, z6⟩, y5, y6⟩⟩) y4) x6) q
noncomputable def w327 : W := fun q v => S7.rec (motive := fun _ => Fm) (fun x0 x1 x2 x3 x4 x5 x6 => S7.rec (motive := fun _ => Fm) (fun y0 y1 y2 y3 y4 y5 y6 => S7.rec (motive := fun _ => Fm) (fun z0 z1 z2 z3 z4 _ z6 => ⟨x0, x1, x2, x3, x4, x5, ⟨y0, y1, y2, y3, ⟨z0, z1, z2, z3, z4, v, z6⟩, y5, y6⟩⟩) y4) x6) q
noncomputable def w328 : W := fun q v => S7.rec (motive := fun _ => Fm) (fun x0 x1 x2 x3 x4 x5 x6 => S7.rec (motive := fun _ => Fm) (fun y0 y1 y2 y3 y4 y5 y6 => S7.rec (motive := fun _ => Fm) (fun z0 z1 z2 z3 z4 z5 _ => ⟨x0, x1, x2, x3, x4, x5, ⟨y0, y1, y2, y3, ⟨z0, z1, z2, z3, z4, z5, v⟩, y5, y6⟩⟩) y4) x6) q
noncomputable def w329 : W := fun q v => S7.rec (motive := fun _ => Fm) (fun x0 x1 x2 x3 x4 x5 x6 => S7.rec (motive := fun _ => Fm) (fun y0 y1 y2 y3 y4 y5 y6 => S7.rec (motive := fun _ => Fm) (fun _ z1 z2 z3 z4 z5 z6 => ⟨x0, x1, x2, x3, x4, x5, ⟨y0, y1, y2, y3, y4, ⟨v, z1, z2, z3, z4, z5, z6⟩, y6⟩⟩) y5) x6) q
noncomputable def w330 : W := fun q v => S7.rec (motive := fun _ => Fm) (fun x0 x1 x2 x3 x4 x5 x6 => S7.rec (motive := fun _ => Fm) (fun y0 y1 y2 y3 y4 y5 y6 => S7.rec (motive := fun _ => Fm) (fun z0 _ z2 z3 z4 z5 z6 => ⟨x0, x1, x2, x3, x4, x5, ⟨y0, y1, y2, y3, y4, ⟨z0, v, z2, z3, z4, z5, z6⟩, y6⟩⟩) y5) x6) q
noncomputable def w331 : W := fun q v => S7.rec (motive := fun _ => Fm) (fun x0 x1 x2 x3 x4 x5 x6 => S7.rec (motive := fun _ => Fm) (fun y0 y1 y2 y3 y4 y5 y6 => S7.rec (motive := fun _ => Fm) (fun z0 z1 _ z3 z4 z5 z6 => ⟨x0, x1, x2, x3, x4, x5, ⟨y0, y1, y2, y3, y4, ⟨z0, z1, v, z3, z4, z5, z6⟩, y6⟩⟩) y5) x6) q
noncomputable def w332 : W := fun q v => S7.rec (motive := fun _ => Fm) (fun x0 x1 x2 x3 x4 x5 x6 => S7.rec (motive := fun _ => Fm) (fun y0 y1 y2 y3 y4 y5 y6 => S7.rec (motive := fun _ => Fm) (fun z0 z1 z2 _ z4 z5 z6 => ⟨x0, x1, x2, x3, x4, x5, ⟨y0, y1, y2, y3, y4, ⟨z0, z1, z2, v, z4, z5, z6⟩, y6⟩⟩) y5) x6) q
noncomputable def w333 : W := fun q v => S7.rec (motive := fun _ => Fm) (fun x0 x1 x2 x3 x4 x5 x6 => S7.rec (motive := fun _ => Fm) (fun y0 y1 y2 y3 y4 y5 y6 => S7.rec (motive := fun _ => Fm) (fun z0 z1 z2 z3 _ z5 z6 => ⟨x0, x1, x2, x3, x4, x5, ⟨y0, y1, y2, y3, y4, ⟨z0, z1, z2, z3, v, z5, z6⟩, y6⟩⟩) y5) x6) q
noncomputable def w334 : W := fun q v => S7.rec (motive := fun _ => Fm) (fun x0 x1 x2 x3 x4 x5 x6 => S7.rec (motive := fun _ => Fm) (fun y0 y1 y2 y3 y4 y5 y6 => S7.rec (motive := fun _ => Fm) (fun z0 z1 z2 z3 z4 _ z6 => ⟨x0, x1, x2, x3, x4, x5, ⟨y0, y1, y2, y3, y4, ⟨z0, z1, z2, z3, z4, v, z6⟩, y6⟩⟩) y5) x6) q
noncomputable def w335 : W := fun q v => S7.rec (motive := fun _ => Fm) (fun x0 x1 x2 x3 x4 x5 x6 => S7.rec (motive := fun _ => Fm) (fun y0 y1 y2 y3 y4 y5 y6 => S7.rec (motive := fun _ => Fm) (fun z0 z1 z2 z3 z4 z5 _ => ⟨x0, x1, x2, x3, x4, x5, ⟨y0, y1, y2, y3, y4, ⟨z0, z1, z2, z3, z4, z5, v⟩, y6⟩⟩) y5) x6) q
noncomputable def w336 : W := fun q v => S7.rec (motive := fun _ => Fm) (fun x0 x1 x2 x3 x4 x5 x6 => S7.rec (motive := fun _ => Fm) (fun y0 y1 y2 y3 y4 y5 y6 => S7.rec (motive := fun _ => Fm) (fun _ z1 z2 z3 z4 z5 z6 => ⟨x0, x1, x2, x3, x4, x5, ⟨y0, y1, y2, y3, y4, y5, ⟨v, z1, z2, z3, z4, z5, z6⟩⟩⟩) y6) x6) q
noncomputable def w337 : W := fun q v => S7.rec (motive := fun _ => Fm) (fun x0 x1 x2 x3 x4 x5 x6 => S7.rec (motive := fun _ => Fm) (fun y0 y1 y2 y3 y4 y5 y6 => S7.rec (motive := fun _ => Fm) (fun z0 _ z2 z3 z4 z5 z6 => ⟨x0, x1, x2, x3, x4, x5, ⟨y0, y1, y2, y3, y4, y5, ⟨z0, v, z2, z3, z4, z5, z6⟩⟩⟩) y6) x6) q
noncomputable def w338 : W := fun q v => S7.rec (motive := fun _ => Fm) (fun x0 x1 x2 x3 x4 x5 x6 => S7.rec (motive := fun _ => Fm) (fun y0 y1 y2 y3 y4 y5 y6 => S7.rec (motive := fun _ => Fm) (fun z0 z1 _ z3 z4 z5 z6 => ⟨x0, x1, x2, x3, x4, x5, ⟨y0, y1, y2, y3, y4, y5, ⟨z0, z1, v, z3, z4, z5, z6⟩⟩⟩) y6) x6) q
noncomputable def w339 : W := fun q v => S7.rec (motive := fun _ => Fm) (fun x0 x1 x2 x3 x4 x5 x6 => S7.rec (motive := fun _ => Fm) (fun y0 y1 y2 y3 y4 y5 y6 => S7.rec (motive := fun _ => Fm) (fun z0 z1 z2 _ z4 z5 z6 => ⟨x0, x1, x2, x3, x4, x5, ⟨y0, y1, y2, y3, y4, y5, ⟨z0, z1, z2, v, z4, z5, z6⟩⟩⟩) y6) x6) q
noncomputable def w340 : W := fun q v => S7.rec (motive := fun _ => Fm) (fun x0 x1 x2 x3 x4 x5 x6 => S7.rec (motive := fun _ => Fm) (fun y0 y1 y2 y3 y4 y5 y6 => S7.rec (motive := fun _ => Fm) (fun z0 z1 z2 z3 _ z5 z6 => ⟨x0, x1, x2, x3, x4, x5, ⟨y0, y1, y2, y3, y4, y5, ⟨z0, z1, z2, z3, v, z5, z6⟩⟩⟩) y6) x6) q
noncomputable def w341 : W := fun q v => S7.rec (motive := fun _ => Fm) (fun x0 x1 x2 x3 x4 x5 x6 => S7.rec (motive := fun _ => Fm) (fun y0 y1 y2 y3 y4 y5 y6 => S7.rec (motive := fun _ => Fm) (fun z0 z1 z2 z3 z4 _ z6 => ⟨x0, x1, x2, x3, x4, x5, ⟨y0, y1, y2, y3, y4, y5, ⟨z0, z1, z2, z3, z4, v, z6⟩⟩⟩) y6) x6) q
noncomputable def w342 : W := fun q v => S7.rec (motive := fun _ => Fm) (fun x0 x1 x2 x3 x4 x5 x6 => S7.rec (motive := fun _ => Fm) (fun y0 y1 y2 y3 y4 y5 y6 => S7.rec (motive := fun _ => Fm) (fun z0 z1 z2 z3 z4 z5 _ => ⟨x0, x1, x2, x3, x4, x5, ⟨y0, y1, y2, y3, y4, y5, ⟨z0, z1, z2, z3, z4, z5, v⟩⟩⟩) y6) x6) q

def w_ : W := fun q _ => q

end Go.AM
