/- The plain machine's calls say what the model's do, whatever the tape: 'call_sound'. No condition but the program's own table. -/
import Derived.Test.YtkdcifgnjdfdmaaGreatDoorMa
namespace Go.AM

variable {P : Program} {h h' h'' : Mem} {σ : Operand → Value} {v : Value} {c0 : Nat}

/-- A memory's later one: a row there that has not been written since was there already. -/
structure Grows (h h' : Mem) : Prop where
  next : h.next ≤ h'.next
  clock : h.clock ≤ h'.clock
  rows : ∀ i r, h'.get i = some r → r.ver < h.clock → h.get i = some r

theorem Grows.refl (h : Mem) : Grows h h := ⟨Nat.le_refl _, Nat.le_refl _, fun _ _ hi _ => hi⟩

theorem Grows.trans (a : Grows h h') (b : Grows h' h'') : Grows h h'' :=
  ⟨Nat.le_trans a.next b.next, Nat.le_trans a.clock b.clock, fun i r hi hv => a.rows i r (b.rows i r hi (Nat.lt_of_lt_of_le hv a.clock)) hv⟩

theorem Grows.new {cs : List Value} {e : TypeId} (hn : h.new cs e = some h') : Grows h h' := by
  obtain ⟨_, h1, h2, hget⟩ := Mem.new_some hn
  refine ⟨by omega, by omega, fun i r hi hv => ?_⟩
  rw [hget] at hi
  by_cases e : i = h.next
  · rw [if_pos e] at hi; cases hi; exact absurd hv (Nat.lt_irrefl _)
  · rw [if_neg e] at hi; exact hi

theorem Grows.put {i : Nat} {cs : List Value} {e : TypeId} (hn : h.put i cs e = some h') : Grows h h' := by
  obtain ⟨h1, h2, hget⟩ := Mem.put_some hn
  refine ⟨by omega, by omega, fun j r hi hv => ?_⟩
  rw [hget] at hi
  by_cases e : j = i
  · rw [if_pos e] at hi; cases hi; exact absurd hv (Nat.lt_irrefl _)
  · rw [if_neg e] at hi; exact hi

theorem Grows.drop {i : Nat} (hn : h.drop i = some h') : Grows h h' := by
  obtain ⟨h1, h2, hget⟩ := Mem.drop_some hn
  refine ⟨by omega, by omega, fun j r hi hv => ?_⟩
  rw [hget] at hi
  by_cases e : j = i
  · rw [if_pos e] at hi; cases hi
  · rw [if_neg e] at hi; exact hi

theorem Grows.mkRow {cs : List Value} {e : TypeId} {f : Nat → Value} (hm : mkRow h cs e f = some (.val v h')) : Grows h h' := by
  unfold Go.AM.mkRow at hm
  cases hn : h.new cs e with
  | none => rw [hn] at hm; cases hm
  | some h1 => rw [hn] at hm; cases hm; exact .new hn

theorem Grows.appendOp {e : TypeId} {size bytes : Nat} {s x : Value} (ha : appendOp h e size bytes s x = some (.val v h')) : Grows h h' := by
  unfold Go.AM.appendOp at ha
  simp only [cond_eq_ite] at ha
  repeat' (split at ha)
  all_goals first
    | (cases ha; done)
    | (cases ha; exact .refl _)
    | exact .mkRow ha
    | (rename_i hd; exact (Grows.drop hd).trans (.mkRow ha))

/-- What an operation that has no effect and loads nothing makes of a memory: nothing, and it asks it nothing. -/
theorem op_pure {a : A} (he : effect a = false) (hl : loadsAt a = none) (hc : ∀ xs, a ≠ .chk xs) (hr : aop a P c0 σ h = some (.val v h')) :
    h' = h ∧ ∀ k, aop a P c0 σ k = some (.val v k) := by
  cases a <;> simp only [effect, loadsAt, Bool.true_eq_false, reduceCtorEq] at he hl
  case chk xs => exact absurd rfl (hc xs)
  all_goals
    simp only [aop, aMv, aPick, aBuild, aNilc, aIbin, aPbin, aIsnil, aUn, aIconv, aPconv, aMkf, aSlc, aFa, aFld, aFlds, aIa, aIarr, aIpl, aExt, aLen, aBi, valP, cond_eq_ite] at hr ⊢
    repeat' (split at hr)
    all_goals first
      | (cases hr; done)
      | (cases hr; refine ⟨rfl, fun k => ?_⟩; simp_all; done)

theorem op_nocall {a : A} (he : effect a = false) {f : FuncId} {args : List Value} (hr : aop a P c0 σ h = some (.call f args)) : False := by
  cases a <;> simp only [effect, Bool.true_eq_false] at he
  all_goals
    simp only [aop, aMv, aPick, aBuild, aNilc, aIbin, aPbin, aIsnil, aUn, aIconv, aPconv, aMkf, aSlc, aFa, aFld, aFlds, aIa, aIarr, aIpl, aExt, aLen, aBi, valP, aLd, aLds, aChk, cond_eq_ite] at hr
    repeat' (split at hr)
    all_goals (cases hr; done)

/-- What a load asks of a memory: one row. -/
theorem op_load {a : A} {x : Operand} (hl : loadsAt a = some x) (hr : aop a P c0 σ h = some (.val v h')) :
    h' = h ∧ ∃ i off r, σ x = .pointer (some ⟨i, off, none⟩) ∧ h.get i = some r ∧ ∀ k, k.get i = some r → aop a P c0 σ k = some (.val v k) := by
  cases a <;> simp only [loadsAt, reduceCtorEq, Option.some.injEq] at hl
  case ld y =>
    subst hl
    simp only [aop, aLd] at hr ⊢
    split at hr
    · rename_i i off e
      cases hi : h.get i with
      | none => rw [hi] at hr; cases hr
      | some r =>
        rw [hi] at hr; simp only at hr
        cases hc : r.cells[off]? with
        | none => rw [hc] at hr; cases hr
        | some u =>
          rw [hc] at hr; cases hr
          refine ⟨rfl, i, off, r, e, hi, fun k hk => ?_⟩
          simp only [hk, hc]
    · cases hr
  case lds n y =>
    subst hl
    simp only [aop, aLds] at hr ⊢
    split at hr
    · rename_i i off e
      unfold cellsAt at hr ⊢
      cases hi : h.get i with
      | none => rw [hi] at hr; cases hr
      | some r =>
        rw [hi] at hr
        simp only [cond_eq_ite] at hr
        by_cases hb : Nat.beq ((r.cells.drop off).take n).length n = true
        · simp only [hb, if_true] at hr
          cases hr
          refine ⟨rfl, i, off, r, e, hi, fun k hk => ?_⟩
          simp only [hk, cond_eq_ite, hb, if_true]
        · simp only [hb] at hr; cases hr
    · cases hr

/-- What makes a new row. -/
theorem op_new {a : A} (hn : isNew a = true) (hr : aop a P c0 σ h = some (.val v h')) :
    ∃ cs e f, ∀ k, aop a P c0 σ k = mkRow k cs e f := by
  cases a <;> simp only [isNew, Bool.false_eq_true] at hn
  case new z e => exact ⟨z, e, fun i => ptr i 0, fun _ => rfl⟩
  case box x e =>
    simp only [aop, aBox] at hr ⊢
    obtain ⟨hb, hr⟩ := of_cond hr
    exact ⟨_, e, fun i => ptr i 0, fun k => by rw [hb]; rfl⟩
  case row z ps len size e =>
    simp only [aop, aRow] at hr ⊢
    cases hf : fillP σ z ps with
    | none => rw [hf] at hr; cases hr
    | some cs =>
      rw [hf] at hr; simp only at hr
      obtain ⟨hb, hr⟩ := of_cond hr
      exact ⟨cs, e, fun i => .slice (some ⟨i, 0, none⟩) len size, fun k => by simp only [hb, cond_true]⟩
  case mks z bytes size e len cap =>
    simp only [aop, aMks] at hr ⊢
    cases hc : bnd (σ cap) (2 ^ 48) with
    | none => rw [hc] at hr; cases hr
    | some c =>
      rw [hc] at hr; simp only at hr ⊢
      cases hl : bnd (σ len) c with
      | none => rw [hl] at hr; cases hr
      | some l =>
        rw [hl] at hr; simp only at hr ⊢
        obtain ⟨hb, hr⟩ := of_cond hr
        exact ⟨zeros z l, e, fun i => .slice (some ⟨i, 0, none⟩) l size, fun k => by simp only [hb, cond_true]⟩

theorem op_nocall_new {a : A} (hn : isNew a = true) {f : FuncId} {args : List Value} (hr : aop a P c0 σ h = some (.call f args)) : False := by
  cases a <;> simp only [isNew, Bool.false_eq_true] at hn
  all_goals
    simp only [aop, aNew, aBox, aRow, aMks, mkRow, cond_eq_ite] at hr
    repeat' (split at hr)
    all_goals (cases hr; done)

theorem Grows.op {a : A} (hr : aop a P c0 σ h = some (.val v h')) : Grows h h' := by
  cases hn : isNew a with
  | true =>
    obtain ⟨cs, e, f, hk⟩ := op_new hn hr
    rw [hk] at hr
    exact .mkRow hr
  | false =>
    cases hl : loadsAt a with
    | some x => rw [(op_load hl hr).1]; exact .refl _
    | none =>
      cases he : effect a with
      | false =>
        by_cases hc : ∃ xs, a = .chk xs
        · obtain ⟨xs, rfl⟩ := hc
          obtain ⟨_, hr⟩ := of_cond hr
          cases hr; exact .refl _
        · rw [(op_pure he hl (fun xs e => hc ⟨xs, e⟩) hr).1]; exact .refl _
      | true =>
        cases a <;> simp only [effect, isNew, Bool.false_eq_true, Bool.true_eq_false] at he hn
        case st n x y =>
          simp only [aop, aSt] at hr
          split at hr
          · rename_i i off e
            cases hi : h.get i with
            | none => rw [hi] at hr; cases hr
            | some r =>
              rw [hi] at hr; simp only at hr
              obtain ⟨_, hr⟩ := of_cond hr
              cases hp : h.put i (over r.cells off (σ y).cells.toList) r.elem with
              | none => rw [hp] at hr; cases hr
              | some h1 => rw [hp] at hr; cases hr; exact .put hp
          · cases hr
        case call x xs =>
          simp only [aop, aCall] at hr
          split at hr <;> cases hr
        case app e size bytes s x => exact .appendOp hr

end Go.AM

namespace Go.AM

variable {P : Program} {T : Tab} {h h' : Mem} {fr fr' : Fr} {v : Value} {c0 : Nat}

/-- What is asked of a told outcome, on the machine's side. -/
def StubGrows (T : Tab) : Prop := ∀ f args h v h', T.stub f args h = some (v, h') → Grows h h'

def EvGrows (rc : Ev) : Prop := ∀ c fr h e fr' h', rc c fr h = some (e, fr', h') → Grows h h'

theorem ended_grows {rs : List ResultVar} {x : Res} (hx : ended T rs x = some (v, h')) : ∃ e fr, x = some (e, fr, h') := by
  have lv : ∀ fr h1, leave T rs fr h1 = some (v, h') → h1 = h' := by
    intro fr h1 hl
    unfold leave at hl
    split at hl
    · cases hl; rfl
    · cases hl
  unfold ended at hx
  split at hx
  · rename_i fr h1; rw [lv fr h1 hx]; exact ⟨_, _, rfl⟩
  · rename_i fr h1; rw [lv fr h1 hx]; exact ⟨_, _, rfl⟩
  · cases hx

theorem callWith_grows {rc : Ev} (hS : StubGrows T) (hE : EvGrows rc) {f : FuncId} {args : List Value} (hc : callWith T rc f args h = some (v, h')) : Grows h h' := by
  unfold callWith at hc
  split at hc
  · rename_i r e
    cases hc
    exact hS _ _ _ _ _ e
  · split at hc
    · rename_i n rs c e
      obtain ⟨e', fr, he⟩ := ended_grows hc
      exact hE _ _ _ _ _ _ he
    · cases hc

theorem aops_cons (rc : Ev) (o : AO) (l : List AO) : aops P T rc c0 (o :: l) = doOp P T rc c0 o (aops P T rc c0 l) := rfl

/-- One operation: what it yields, and the memory behind it. -/
inductive One (P : Program) (T : Tab) (rc : Ev) (c0 : Nat) (a : A) (fr : Fr) (h : Mem) (v : Value) (h' : Mem) : Prop
  | val (hr : aop a P c0 (ev fr) h = some (.val v h'))
  | call {f : FuncId} {args : List Value} (hr : aop a P c0 (ev fr) h = some (.call f args)) (hc : callWith T rc f args h = some (v, h'))

theorem One.grows {rc : Ev} (hS : StubGrows T) (hE : EvGrows rc) {a : A} (o : One P T rc c0 a fr h v h') : Grows h h' := by
  cases o with
  | val hr => exact .op hr
  | call hr hc => exact callWith_grows hS hE hc

/-- One operation, as its guard has it. -/
inductive Does (P : Program) (T : Tab) (rc : Ev) (c0 : Nat) (o : AO) (fr : Fr) (h : Mem) (v : Value) (h' : Mem) : Prop
  | run (hw : wantedA fr o.guard = true) (ho : One P T rc c0 o.op fr h v h')
  | skip (hw : wantedA fr o.guard = false) (hv : v = undef) (hh : h' = h)

theorem Does.grows {rc : Ev} (hS : StubGrows T) (hE : EvGrows rc) {o : AO} (d : Does P T rc c0 o fr h v h') : Grows h h' := by
  cases d with
  | run _ ho => exact ho.grows hS hE
  | skip _ _ hh => rw [hh]; exact .refl _

theorem doOp_some {rc : Ev} {o : AO} {k : Cont} {r : AE × Fr × Mem} (hr : doOp P T rc c0 o k fr h = some r) :
    ∃ v h1, Does P T rc c0 o fr h v h1 ∧ k (fput fr o.dst v) h1 = some r := by
  unfold doOp at hr
  cases hw : wantedA fr o.guard with
  | true =>
    rw [hw] at hr
    simp only [cond_true] at hr
    split at hr
    · rename_i v h1 e
      exact ⟨v, h1, .run hw (.val e), hr⟩
    · rename_i f args e
      unfold goOn at hr
      split at hr
      · rename_i v h1 ec
        exact ⟨v, h1, .run hw (.call e ec), hr⟩
      · cases hr
    · cases hr
  | false =>
    rw [hw] at hr
    exact ⟨undef, h, .skip hw rfl rfl, hr⟩

theorem aops_grows {rc : Ev} (hS : StubGrows T) (hE : EvGrows rc) : ∀ (l : List AO) {fr : Fr} {h : Mem} {e : AE} {fr' : Fr} {h' : Mem}, aops P T rc c0 l fr h = some (e, fr', h') → Grows h h'
  | [], fr, h, e, fr', h', hr => by cases hr; exact .refl _
  | o :: l, fr, h, e, fr', h', hr => by
    rw [aops_cons] at hr
    obtain ⟨v, h1, hd, hk⟩ := doOp_some hr
    exact (hd.grows hS hE).trans (aops_grows hS hE l hk)

theorem run_zero (c : AC) (fr : Fr) (h : Mem) : run P T 0 c fr h = none := rfl
theorem run_succ (n : Nat) (c : AC) (fr : Fr) (h : Mem) : run P T (n + 1) c fr h = stepD c P T (run P T n) fr h := rfl

theorem run_grows (hS : StubGrows T) : ∀ n, EvGrows (run P T n)
  | 0 => fun c fr h e fr' h' hr => by rw [run_zero] at hr; cases hr
  | n + 1 => fun c fr h e fr' h' hr => by
    have ih := run_grows hS n
    rw [run_succ] at hr
    cases c with
    | skip => cases hr; exact .refl _
    | seq a b =>
      simp only [stepD, sSeq] at hr
      split at hr
      · rename_i fr1 h1 e1; exact (ih _ _ _ _ _ _ e1).trans (ih _ _ _ _ _ _ hr)
      · exact ih _ _ _ _ _ _ hr
    | cond c x y =>
      simp only [stepD, sCond] at hr
      split at hr
      · exact ih _ _ _ _ _ _ hr
      · cases hr
    | block id c =>
      simp only [stepD, sBlock] at hr
      split at hr
      · rename_i j fr1 h1 e1
        have := ih _ _ _ _ _ _ e1
        cases hb : Nat.beq j id <;> rw [hb] at hr <;> cases hr <;> exact this
      · exact ih _ _ _ _ _ _ hr
    | loop c =>
      simp only [stepD, sLoop] at hr
      split at hr
      · rename_i fr1 h1 e1; exact (ih _ _ _ _ _ _ e1).trans (ih _ _ _ _ _ _ hr)
      · exact ih _ _ _ _ _ _ hr
    | exit id => cases hr; exact .refl _
    | ret => cases hr; exact .refl _
    | region ops => exact aops_grows hS ih ops hr

end Go.AM

namespace Go.AM

variable {P : Program} {T : Tab} {B : Base} {I J : Inj} {h h' h'' : Mem} {w : World} {fr fr' : Fr} {v : Value} {c0 : Nat} {a : Act}

def RA (I : Inj) (fr : Fr) (a : Act) : Prop := RL I fr a.tmps.toList ∧ a.defers = []

theorem RA.mono {lo : Nat} (e : Ext lo I J) (r : RA I fr a) : RA J fr a := ⟨r.1.mono e, r.2⟩

theorem RA.ev (r : RA I fr a) (hg : ∀ g, g < 2 → ∃ n, I g = some (g, n)) {x : Operand} (hx : opdOk x = true) : RV I (ev fr x) (a.eval x) := by
  cases x with
  | tmp t =>
    show RV I (fget fr t) (a.tmps.getD t undef)
    rw [fget_eq]
    have := r.1.getD t
    have e : a.tmps.toList.getD t undef = a.tmps.getD t undef := by
      rw [List.getD_eq_getElem?_getD, Array.getElem?_toList, Array.getD_eq_getD_getElem?]
    rwa [e] at this
  | const v => exact plain_self hx
  | global g =>
    obtain ⟨n, hn⟩ := hg g (by simpa [opdOk, Nat.blt_eq] using hx)
    exact .ptr hn
  | func f => exact .func .nil .nil

theorem RA.put (r : RA I fr a) (d : Option Tmp) {u : Value} (hv : RV I v u) : RA I (fput fr d v) (a.put d u) := by
  cases d with
  | none => exact r
  | some d =>
    refine ⟨?_, r.2⟩
    show RL I (fset fr d v) (a.tmps.setIfInBounds d u).toList
    rw [fset_eq, Array.toList_setIfInBounds]
    exact r.1.set d hv

theorem RL.getElem? {vs ws : List Value} (r : RL I vs ws) (n : Nat) : (vs[n]? = none ∧ ws[n]? = none) ∨ ∃ v u, vs[n]? = some v ∧ ws[n]? = some u ∧ RV I v u := by
  cases hv : vs[n]? with
  | none =>
    refine .inl ⟨rfl, ?_⟩
    rw [List.getElem?_eq_none_iff] at hv ⊢
    rw [← r.length_eq]; exact hv
  | some v =>
    obtain ⟨u, hu, rv⟩ := r.get hv
    exact .inr ⟨v, u, rfl, hu, rv⟩

/-- A slot's bool, on both sides. -/
def isBool (v : Value) (want : Bool) : Bool := match v with
  | .bool b => b == want
  | _ => false

theorem isBool_RV {v u : Value} (r : RV I v u) (want : Bool) : isBool u want = isBool v want := by cases r <;> rfl

theorem wantedA_eq (fr : Fr) (d : Tmp) (want : Bool) : wantedA fr (some (d, want)) = isBool (fget fr d) want := by
  unfold wantedA isBool
  simp only
  generalize fget fr d = x
  cases x with
  | bool b => cases b <;> cases want <;> rfl
  | _ => rfl

def wantT (tmps : Array Value) : Option (Tmp × Bool) → Bool
  | none => true
  | some (d, want) => isBool (tmps.getD d undef) want

theorem wanted_eq {ops : Array Oper} {o : Oper} {g : Option (Tmp × Bool)} (hg : compGuard ops o.guard = some g) (tmps : Array Value) :
    Region.wanted o (yielded ops tmps) = wantT tmps g := by
  unfold Region.wanted
  unfold compGuard at hg
  cases ho : o.guard with
  | none => rw [ho] at hg; cases hg; rfl
  | some q =>
    obtain ⟨j, want⟩ := q
    rw [ho] at hg
    simp only at hg
    cases hd : (ops[j]?).bind (·.dst) with
    | none => rw [hd] at hg; cases hg
    | some d =>
      rw [hd] at hg; cases hg
      simp only [wantT, yielded, hd, Option.bind_some, Array.getD_eq_getD_getElem?]
      cases ht : tmps[d]? with
      | none => simp only [Option.getD_none]; cases want <;> rfl
      | some u => cases u <;> cases want <;> simp [isBool]

theorem RA.wanted {ops : Array Oper} {o : Oper} {g : Option (Tmp × Bool)} (r : RA I fr a) (hg : compGuard ops o.guard = some g) :
    Region.wanted o (yielded ops a.tmps) = wantedA fr g := by
  rw [wanted_eq hg]
  cases g with
  | none => rfl
  | some q =>
    obtain ⟨d, want⟩ := q
    rw [wantedA_eq]
    simp only [wantT]
    rw [fget_eq, Array.getD_eq_getD_getElem?, ← Array.getElem?_toList, ← List.getD_eq_getElem?_getD]
    exact isBool_RV (r.1.getD d) want

/-! ### What is asked of the machine's table -/

def Good (P : Program) (f : FuncId) : Prop := ∃ fn code, P.funcs[f]? = some fn ∧ fn.body = some code ∧ fn.name ≠ "runtime.NumGoroutine"

theorem Good.run {f : FuncId} (g : Good P f) (args : Array Value) (w : World) : (callFunc f args).run P w = .ok (.enter f args) w := by
  obtain ⟨fn, code, h1, h2, h3⟩ := g
  unfold callFunc
  simp [h1, h2, h3]

/-- What may be asked of a base: something of what it keeps. -/
structure Asks (Ψ : Base → Prop) : Prop where
  globs : ∀ B, Ψ B → 2 ≤ B.globs
  keep : ∀ B B', (∀ c o, B.snap c = some o → B'.snap c = some o) → B'.globs = B.globs → Ψ B → Ψ B'

/-- A call gives a value and a world: it is entered and left again, or it is none of the program's own. -/
def Gets (P : Program) (f : FuncId) (args : Array Value) (w : World) (R : Value → World → Prop) : Prop :=
  ((callFunc f args).run P w = .ok (.enter f args) w ∧ Calls P f args w fun e w' => ∃ u, e = .returned u ∧ R u w') ∨
  ∃ u w', (callFunc f args).run P w = .ok (.value u) w' ∧ R u w'

/-- A function hands back a value that the machine's stands for, and leaves the machine's memory. -/
def Hands (Ψ : Base → Prop) (P : Program) (f : FuncId) (args : List Value) (h : Mem) (v : Value) (h' : Mem) : Prop :=
  ∀ B I args' w, Ψ B → RL I args args'.toList → RW B I h w → Free B h h' → Gets P f args' w fun u w' => Post B I h.next v h' u w'

structure TabOK (Ψ : Base → Prop) (P : Program) (T : Tab) : Prop where
  fn : ∀ f n rs c, T.fn f = some (n, rs, c) → ∃ fn code, P.funcs[f]? = some fn ∧ fn.body = some code ∧ fn.name ≠ "runtime.NumGoroutine" ∧ comp P code = some c ∧ fn.ntmps = n ∧ fn.results.toList = rs
  agg : ∀ t n, T.agg t = some n → ∃ ti, infoOf P t = some ti ∧ n = if ti.agg then ti.size else 0
  grows : StubGrows T
  stub : ∀ f args h v h', T.stub f args h = some (v, h') → Hands Ψ P f args h v h'

theorem Free.split (f : Free B h h'') (g1 : Grows h h') (g2 : Grows h' h'') : Free B h h' ∧ Free B h' h'' :=
  ⟨fun i a b => f i a (Nat.lt_of_lt_of_le b g2.next), fun i a b => f i (Nat.le_trans g1.next a) b⟩

def CallOK (Ψ : Base → Prop) (P : Program) (T : Tab) (rc : Ev) : Prop := ∀ f args h v h', callWith T rc f args h = some (v, h') → Hands Ψ P f args h v h'

theorem RW.glob2 (R : RW B I h w) (hB : 2 ≤ B.globs) : ∀ g, g < 2 → ∃ n, I g = some (g, n) := fun g hg => R.globs g (Nat.lt_of_lt_of_le hg hB)

/-- One operation at its place, its operands as the machine has them. -/
theorem one_sound {Ψ : Base → Prop} {rc : Ev} (hC : CallOK Ψ P T rc) {o : Oper} {x : A} (C : compOp P o = some x) (hρ : ∀ y ∈ o.op.operands.toList, RV I (ev fr y) (a.eval y)) (hB : Ψ B) (R : RW B I h w)
    (hd : One P T rc c0 x fr h v h') (hf : Free B h h') {next : Act → World → Prop} {Q : Exit → Act → World → Prop}
    (hn : ∀ u w', Post B I h.next v h' u w' → next (a.put o.dst u) w') : o.wp P a w next Q := by
  unfold Oper.wp
  cases hd with
  | val hr =>
    rcases op_sound (ρ := a.eval) (fun _ => rfl) C hρ R hr hf with ⟨u, w', h1, h2⟩ | ⟨w', h1, h2⟩
    · rw [h1, Oper.upon_value]; exact hn u w' h2
    · rw [h1, Oper.upon_skip]; exact hn undef w' h2
  | call hr hc =>
    obtain ⟨args', h1, h2⟩ := op_call (ρ := a.eval) C hρ hr
    rcases hC _ _ _ _ _ hc B I args' w hB h1 R hf with ⟨e1, e2⟩ | ⟨u, w', e1, e2⟩
    · rw [h2, e1, Oper.upon_enter]
      refine Calls.mono e2 fun e w' he => ?_
      obtain ⟨u, rfl, hp⟩ := he
      exact hn u w' hp
    · rw [h2, e1, Oper.upon_value]
      exact hn u w' e2

theorem compAO_some {ops : Array Oper} {o : Oper} {x : AO} (hc : compAO P ops o = some x) :
    (∀ y ∈ o.op.operands.toList, opdOk y = true) ∧ compOp P o = some x.op ∧ compGuard ops o.guard = some x.guard ∧ x.dst = o.dst := by
  unfold compAO at hc
  obtain ⟨h1, hc⟩ := of_cond hc
  split at hc
  · rename_i y g e1 e2
    cases hc
    exact ⟨List.all_eq_true.1 h1, e1, e2, rfl⟩
  · cases hc

/-- One step of a region, in the machine's own order. -/
theorem does_sound {Ψ : Base → Prop} (hK : Asks Ψ) {rc : Ev} (hC : CallOK Ψ P T rc) {ops : Array Oper} {i : Nat} {o : Oper} {x : AO} (hi : ops[i]? = some o) (C : compAO P ops o = some x) (hB : Ψ B) (R : RW B I h w) (r : RA I fr a)
    (hd : Does P T rc c0 x fr h v h') (hf : Free B h h') {K : Act → World → Prop} {Q : Exit → Act → World → Prop}
    (hn : ∀ J u w', Ext h.next I J → RV J v u → RW B J h' w' → RA J (fput fr x.dst v) (a.put o.dst u) → K (a.put o.dst u) w') : wpOp P ops Q i K a w := by
  obtain ⟨c1, c2, c3, c4⟩ := compAO_some C
  unfold wpOp
  simp only [hi]
  rw [r.wanted c3]
  cases hd with
  | run hw ho =>
    rw [hw, if_pos rfl]
    refine .inl (one_sound hC c2 (fun y hy => r.ev (R.glob2 (hK.globs _ hB)) (c1 y hy)) hB R ho hf fun u w' hp => ?_)
    obtain ⟨J, e, rv, R'⟩ := hp
    exact hn J u w' e rv R' (by rw [c4]; exact (r.mono e).put _ rv)
  | skip hw hv hh =>
    rw [hw]
    subst hv; subst hh
    rw [if_neg (by decide)]
    exact hn I undef w (.refl _ I) (.undef I) R (by rw [c4]; exact r.put _ (.undef I))

/-! ### A region that draws nothing -/

def real : AE → Exit
  | .normal => .normal
  | .exit id => .exit id
  | .ret => .ret

def Ends (B : Base) (I : Inj) (lo : Nat) (e : AE) (fr : Fr) (h : Mem) : Exit → Act → World → Prop :=
  fun x a w => x = real e ∧ ∃ J, Ext lo I J ∧ RA J fr a ∧ RW B J h w

theorem Ends.mono {e : AE} {lo lo' : Nat} (i : Ext lo I J) (hl : lo ≤ lo') {x : Exit} (hE : Ends B J lo' e fr h x a w) : Ends B I lo e fr h x a w := by
  obtain ⟨h1, K, h2, h3, h4⟩ := hE
  exact ⟨h1, K, i.trans h2 hl, h3, h4⟩

theorem wpOp_mono' {ops : Array Oper} {Q : Exit → Act → World → Prop} {i : Nat} {K K' : Act → World → Prop} (h : ∀ a w, K a w → K' a w)
    (hh : wpOp P ops Q i K a w) : wpOp P ops Q i K' a w := wpOp_mono h hh

theorem region_sound {Ψ : Base → Prop} (hK : Asks Ψ) {rc : Ev} (hS : StubGrows T) (hE : EvGrows rc) (hC : CallOK Ψ P T rc) {ops : Array Oper} (hB : Ψ B) {e : AE} {fr' : Fr} {h' : Mem} {Q : Exit → Act → World → Prop} :
    ∀ (l : List Oper) (i : Nat) (as : List AO) (I : Inj) (fr : Fr) (h : Mem) (a : Act) (w : World), (∀ j o, l[j]? = some o → ops[i + j]? = some o) → compAOs P ops l = some as → aops P T rc c0 as fr h = some (e, fr', h') →
      RA I fr a → RW B I h w → Free B h h' → (∀ x a w, Ends B I h.next e fr' h' x a w → Q x a w) → wpOps P ops Q (List.range' i l.length) a w
  | [], i, as, I, fr, h, a, w, _, hc, hr, ra, R, hf, hq => by
    cases hc; cases hr
    simp only [List.length_nil, List.range'_zero, wpOps]
    exact hq _ _ _ ⟨rfl, I, .refl _ I, ra, R⟩
  | o :: l, i, as, I, fr, h, a, w, hl, hc, hr, ra, R, hf, hq => by
    simp only [compAOs] at hc
    cases hx : compAO P ops o with
    | none => rw [hx] at hc; cases hc
    | some x =>
      cases hxs : compAOs P ops l with
      | none => rw [hx, hxs] at hc; cases hc
      | some xs =>
        rw [hx, hxs] at hc; cases hc
        rw [aops_cons] at hr
        obtain ⟨v, h1, hd, hk⟩ := doOp_some hr
        obtain ⟨f1, f2⟩ := hf.split (hd.grows hS hE) (aops_grows hS hE xs hk)
        rw [List.length_cons, List.range'_succ, wpOps_cons]
        refine does_sound hK hC (hl 0 o rfl) hx hB R ra hd f1 fun J u w' ext rv R' ra' => ?_
        exact region_sound hK hS hE hC hB l (i + 1) xs J _ _ _ _ (fun j o' hj => by have := hl (j + 1) o' (by simpa using hj); rwa [show i + 1 + j = i + (j + 1) by omega]) hxs hk ra' R' f2
          fun x a w hx => hq _ _ _ (hx.mono ext (hd.grows hS hE).next)

end Go.AM

namespace Go.AM

variable {P : Program} {ops : Array Oper}

/-! ### What an operation waits for -/

theorem foldl_bits (ms : List Nat) (i : Nat) : ∀ (l : List Nat) (m : Nat),
    (l.foldl (fun m e => m ||| (2 ^ e) ||| ms.getD e 0) m).testBit i = true → m.testBit i = true ∨ ∃ e ∈ l, i = e ∨ (ms.getD e 0).testBit i = true
  | [], m, h => .inl h
  | e :: l, m, h => by
    simp only [List.foldl_cons] at h
    rcases foldl_bits ms i l _ h with h1 | ⟨e', he, h1⟩
    · rw [Nat.testBit_or, Nat.testBit_or, Bool.or_eq_true, Bool.or_eq_true] at h1
      rcases h1 with (h1 | h1) | h1
      · exact .inl h1
      · rw [Nat.testBit_two_pow] at h1
        exact .inr ⟨e, List.mem_cons_self, .inl (by have := of_decide_eq_true h1; exact this.symm)⟩
      · exact .inr ⟨e, List.mem_cons_self, .inr h1⟩
    · exact .inr ⟨e', List.mem_cons_of_mem _ he, h1⟩

/-- Each mask's bits: an edge, or a bit of the mask of what an edge leads to, further ahead. -/
def Masks (os : List Oper) (ms : List Nat) : Prop :=
  ∀ j o, os[j]? = some o → j < ms.length → ∀ i, (ms.getD j 0).testBit i = true → ∃ e ∈ edgesOf o, i = e ∨ (e < j ∧ (ms.getD e 0).testBit i = true)

theorem masksOf_ok (os : List Oper) : ∀ (l : List Oper) (ms : List Nat), (∀ k o, l[k]? = some o → os[ms.length + k]? = some o) → Masks os ms → Masks os (masksOf l ms)
  | [], ms, _, h => h
  | o :: l, ms, hl, h => by
    unfold masksOf
    refine masksOf_ok os l _ (fun k o' hk => ?_) ?_
    · rw [List.length_append, List.length_singleton]
      have := hl (k + 1) o' (by simpa using hk)
      rwa [show ms.length + 1 + k = ms.length + (k + 1) by omega]
    · intro j o' hj hlt i hi
      rw [List.length_append, List.length_singleton] at hlt
      have low : ∀ e, e < ms.length → (ms ++ [maskOf ms o]).getD e 0 = ms.getD e 0 := fun e he => by
        rw [List.getD_eq_getElem?_getD, List.getD_eq_getElem?_getD, List.getElem?_append_left he]
      by_cases hjl : j < ms.length
      · rw [low j hjl] at hi
        obtain ⟨e, he, h1⟩ := h j o' hj hjl i hi
        refine ⟨e, he, ?_⟩
        rcases h1 with h1 | ⟨h1, h2⟩
        · exact .inl h1
        · exact .inr ⟨h1, by rw [low e (by omega)]; exact h2⟩
      · have hje : j = ms.length := by omega
        subst hje
        have ho : o' = o := by
          have := hl 0 o rfl
          rw [Nat.add_zero] at this
          rw [this] at hj; cases hj; rfl
        subst ho
        have e1 : (ms ++ [maskOf ms o']).getD ms.length 0 = maskOf ms o' := by
          rw [List.getD_eq_getElem?_getD, List.getElem?_append_right (Nat.le_refl _)]; simp
        rw [e1] at hi
        rcases foldl_bits ms i _ _ hi with h1 | ⟨e, he, h1⟩
        · simp at h1
        · refine ⟨e, he, ?_⟩
          rcases h1 with h1 | h1
          · exact .inl h1
          · have hlt' : e < ms.length := by
              rcases Nat.lt_or_ge e ms.length with h' | h'
              · exact h'
              · rw [List.getD_eq_getElem?_getD, List.getElem?_eq_none_iff.2 h'] at h1; simp at h1
            exact .inr ⟨hlt', by rw [low e hlt']; exact h1⟩

theorem masks_ok (ops : Array Oper) : Masks ops.toList (masksOf ops.toList []) :=
  masksOf_ok ops.toList ops.toList [] (fun k o hk => by simpa using hk) (fun j o _ hlt => by simp at hlt)

theorem masksOf_length : ∀ (l : List Oper) (ms : List Nat), (masksOf l ms).length = ms.length + l.length
  | [], ms => by simp [masksOf]
  | o :: l, ms => by
    simp only [masksOf]
    rw [masksOf_length l]
    simp; omega

/-- A set of operations that has, with each, what its edges lead to. -/
def Closed (ops : Array Oper) (L : Nat → Prop) : Prop := ∀ j o, ops[j]? = some o → L j → ∀ e ∈ edgesOf o, L e

theorem Closed.mask {L : Nat → Prop} (hL : Closed ops L) : ∀ (j : Nat) (o : Oper), ops[j]? = some o → L j → ∀ i, ((masksOf ops.toList []).getD j 0).testBit i = true → L i := by
  intro j
  induction j using Nat.strongRecOn with
  | _ j ih =>
    intro o ho hj i hi
    have hlt : j < (masksOf ops.toList []).length := by
      rw [masksOf_length]
      have := (Array.getElem?_eq_some_iff.1 ho).1
      simpa using this
    obtain ⟨e, he, h1⟩ := masks_ok ops j o (by simpa using ho) hlt i hi
    have hle := hL j o ho hj e he
    rcases h1 with h1 | ⟨h1, h2⟩
    · rw [h1]; exact hle
    · have : ∃ o', ops[e]? = some o' := by
        have h3 := (Array.getElem?_eq_some_iff.1 ho).1
        exact ⟨ops[e], Array.getElem?_eq_getElem (by omega)⟩
      obtain ⟨o', ho'⟩ := this
      exact ih e h1 o' ho' hle i h2

/-! ### The machine's text: each operation once -/

theorem mem_lateNew {x : RO} : ∀ (rs pend : List RO), x ∈ lateNew rs pend ↔ x ∈ rs ∨ x ∈ pend
  | [], pend => by simp [lateNew]
  | r :: rs, pend => by
    unfold lateNew
    cases hb : (isNew r.op.op && Nat.beq r.mask 0) with
    | true =>
      simp only [cond_true]
      rw [mem_lateNew rs]
      have e1 : x ∈ pend ++ [r] ↔ x ∈ pend ∨ x = r := by simp
      rw [e1, List.mem_cons]
      constructor
      · rintro (h | h | h)
        · exact .inl (.inr h)
        · exact .inr h
        · exact .inl (.inl h)
      · rintro ((h | h) | h)
        · exact .inr (.inr h)
        · exact .inl h
        · exact .inr (.inl h)
    | false =>
      simp only [cond_false, List.mem_append, List.mem_cons]
      rw [mem_lateNew rs]
      simp only [List.mem_filter]
      constructor
      · rintro (⟨h, _⟩ | h | h | ⟨h, _⟩)
        · exact .inr h
        · exact .inl (.inl h)
        · exact .inl (.inr h)
        · exact .inr h
      · rintro ((h | h) | h)
        · exact .inr (.inl h)
        · exact .inr (.inr (.inl h))
        · cases ht : r.mask.testBit x.no with
          | true => exact .inl ⟨h, rfl⟩
          | false => exact .inr (.inr (.inr ⟨h, rfl⟩))

theorem mem_rosOf {x : RO} {ms : List Nat} : ∀ (l : List (Oper × AO)) (k : Nat), x ∈ rosOf ops ms k l ↔ ∃ j o a, l[j]? = some (o, a) ∧ x = ⟨k + j, ms.getD (k + j) 0, o.looksAt ops, a⟩
  | [], k => by simp [rosOf]
  | (o, a) :: l, k => by
    simp only [rosOf, List.mem_cons]
    rw [mem_rosOf l (k + 1)]
    constructor
    · rintro (h | ⟨j, o', a', h1, h2⟩)
      · exact ⟨0, o, a, rfl, by simpa using h⟩
      · exact ⟨j + 1, o', a', by simpa using h1, by rw [show k + (j + 1) = k + 1 + j by omega]; exact h2⟩
    · rintro ⟨j, o', a', h1, h2⟩
      cases j with
      | zero => simp at h1; obtain ⟨rfl, rfl⟩ := h1; exact .inl (by simpa using h2)
      | succ j => exact .inr ⟨j, o', a', by simpa using h1, by rw [show k + 1 + j = k + (j + 1) by omega]; exact h2⟩

theorem compAOs_get {os : List Oper} {as : List AO} (hc : compAOs P ops os = some as) : os.length = as.length ∧ ∀ (j : Nat) (o : Oper), os[j]? = some o → ∃ a, as[j]? = some a ∧ compAO P ops o = some a := by
  induction os generalizing as with
  | nil => cases hc; exact ⟨rfl, fun j o h => by simp at h⟩
  | cons o os ih =>
    simp only [compAOs] at hc
    cases hx : compAO P ops o with
    | none => rw [hx] at hc; cases hc
    | some x =>
      cases hxs : compAOs P ops os with
      | none => rw [hx, hxs] at hc; cases hc
      | some xs =>
        rw [hx, hxs] at hc; cases hc
        obtain ⟨h1, h2⟩ := ih hxs
        refine ⟨by simp [h1], fun j o' hj => ?_⟩
        cases j with
        | zero => simp at hj; subst hj; exact ⟨x, rfl, hx⟩
        | succ j => exact h2 j o' (by simpa using hj)

/-- What the machine's text of a region is asked for. -/
structure Text (P : Program) (ops : Array Oper) (rs : List RO) : Prop where
  of : ∀ (p : Nat) (r : RO), rs[p]? = some r → ∃ o, ops[r.no]? = some o ∧ compAO P ops o = some r.op ∧ r.looks = o.looksAt ops ∧ r.mask = (masksOf ops.toList []).getD r.no 0
  all : ∀ i, i < ops.size → ∃ (p : Nat) (r : RO), rs[p]? = some r ∧ r.no = i
  pair : ∀ (p q : Nat) (x y : RO), p < q → rs[p]? = some x → rs[q]? = some y → pairOk x y = true
  self : ∀ (p : Nat) (x : RO), rs[p]? = some x → selfOk x = true
  back : ∀ j o, ops[j]? = some o → ∀ e ∈ edgesOf o, e < j

theorem pairs_get : ∀ (rs : List RO), pairsOk rs = true → ∀ (p q : Nat) (x y : RO), p < q → rs[p]? = some x → rs[q]? = some y → pairOk x y = true
  | [], _, p, q, x, y, _, h, _ => by simp at h
  | r :: rs, hp, p, q, x, y, hlt, hx, hy => by
    simp only [pairsOk, Bool.and_eq_true, List.all_eq_true] at hp
    cases q with
    | zero => omega
    | succ q =>
      have hy' : rs[q]? = some y := by simpa using hy
      cases p with
      | zero =>
        have : x = r := by simpa using hx.symm
        rw [this]
        exact hp.1.1 y (List.mem_of_getElem? hy')
      | succ p => exact pairs_get rs hp.2 p q x y (by omega) (by simpa using hx) hy'

theorem self_get : ∀ (rs : List RO), pairsOk rs = true → ∀ (p : Nat) (x : RO), rs[p]? = some x → selfOk x = true
  | [], _, p, x, h => by simp at h
  | r :: rs, hp, p, x, hx => by
    simp only [pairsOk, Bool.and_eq_true] at hp
    cases p with
    | zero =>
      have : x = r := by simpa using hx.symm
      rw [this]; exact hp.1.2
    | succ p => exact self_get rs hp.2 p x (by simpa using hx)

theorem backward_get : ∀ (os : List Oper) (k : Nat), backward os k = true → ∀ (j : Nat) (o : Oper), os[j]? = some o → ∀ e ∈ edgesOf o, e < k + j
  | [], _, _, j, o, h => by simp at h
  | o' :: os, k, hb, j, o, h => by
    simp only [backward, Bool.and_eq_true, List.all_eq_true] at hb
    cases j with
    | zero =>
      simp at h; subst h
      intro e he
      have := hb.1 e he
      simpa [Nat.blt_eq] using this
    | succ j =>
      intro e he
      have := backward_get os (k + 1) hb.2 j o (by simpa using h) e he
      omega

theorem text_of {c : AC} (hc : compRegion P ops true = some c) : ∃ rs, c = .region (withChk rs []) ∧ Text P ops rs := by
  unfold compRegion at hc
  cases has : compAOs P ops ops.toList with
  | none => rw [has] at hc; cases hc
  | some as =>
    rw [has] at hc
    simp only [cond_true] at hc
    obtain ⟨hb, hc⟩ := of_cond hc
    cases hc
    obtain ⟨hl, hg⟩ := compAOs_get has
    have hz : ∀ j o a, (ops.toList.zip as)[j]? = some (o, a) ↔ ops[j]? = some o ∧ as[j]? = some a := fun j o a => by
      rw [List.getElem?_zip_eq_some, Array.getElem?_toList]
    refine ⟨_, rfl, ?_, ?_, pairs_get _ (and_right (and_left hb)), self_get _ (and_right (and_left hb)), ?_⟩
    · intro p r hr
      have hm := List.mem_of_getElem? hr
      rw [mem_lateNew] at hm
      rcases hm with hm | hm
      · obtain ⟨j, o, a, h1, rfl⟩ := (mem_rosOf _ _).1 hm
        obtain ⟨h2, h3⟩ := (hz j o a).1 h1
        obtain ⟨a', h4, h5⟩ := hg j o (by simpa using h2)
        rw [h3] at h4; cases h4
        simp only [Nat.zero_add]
        exact ⟨o, h2, h5, rfl, trivial⟩
      · simp at hm
    · intro i hi
      have ho : ops[i]? = some ops[i] := Array.getElem?_eq_getElem hi
      obtain ⟨a, h1, h2⟩ := hg i ops[i] (by simp)
      have hm : (⟨0 + i, (masksOf ops.toList []).getD (0 + i) 0, ops[i].looksAt ops, a⟩ : RO) ∈ lateNew (rosOf ops (masksOf ops.toList []) 0 (ops.toList.zip as)) [] :=
        (mem_lateNew _ _).2 (.inl ((mem_rosOf _ _).2 ⟨i, ops[i], a, (hz i _ a).2 ⟨ho, h1⟩, rfl⟩))
      obtain ⟨p, hp, he⟩ := List.getElem_of_mem hm
      exact ⟨p, _, by rw [List.getElem?_eq_getElem hp, he], by simp⟩
    · intro j o hj e he
      have := backward_get _ 0 (and_left (and_left hb)) j o (by simpa using hj) e he
      omega

/-! ### What two operations have to do with each other -/

structure Pair (x y : RO) : Prop where
  reads : ∀ d, x.op.dst = some d → d ∈ y.looks → y.mask.testBit x.no = true
  apart : ∀ d, x.op.dst = some d → y.op.dst ≠ some d
  writes : ∀ d, y.op.dst = some d → d ∈ x.looks → y.mask.testBit x.no = true
  addr : ∀ d t, y.op.dst = some d → loadsAt x.op.op = some (.tmp t) → t ≠ d
  effects : effect x.op.op = true → effect y.op.op = true → isNew y.op.op = false → y.mask.testBit x.no = true
  ahead : x.mask.testBit y.no = false
  unlike : x.no ≠ y.no

theorem pair_of {x y : RO} (h : pairOk x y = true) : Pair x y := by
  unfold pairOk at h
  have h5 := and_right h
  have h4 := and_right (and_left h)
  have h3 := and_right (and_left (and_left h))
  have h2 := and_right (and_left (and_left (and_left h)))
  have h1 := and_left (and_left (and_left (and_left h)))
  refine ⟨?_, ?_, ?_, ?_, ?_, by simpa using h4, fun e => by simp [e] at h5⟩
  · intro d hd hl
    rw [hd] at h1
    have := and_left h1
    simpa [hl] using this
  · intro d hd he
    rw [hd] at h1
    have := and_right h1
    simp [he] at this
  · intro d hd hl
    rw [hd] at h2
    have := and_left h2
    simpa [hl] using this
  · intro d t hd ht he
    rw [hd] at h2
    have := and_right h2
    rw [ht, he] at this
    simp at this
  · intro e1 e2 e3
    rw [e1, e2, e3] at h3
    simpa using h3

end Go.AM

namespace Go.AM

variable {P : Program} {T : Tab} {rc : Ev} {c0 : Nat}

/-- The machine's walk through a region: at each place the frame, the memory, the value that the operation there yields. -/
structure Tr (P : Program) (T : Tab) (rc : Ev) (c0 : Nat) (rs : List RO) (F : Nat → Fr) (H : Nat → Mem) (V : Nat → Value) : Prop where
  step : ∀ j r, rs[j]? = some r → Does P T rc c0 r.op (F j) (H j) (V j) (H (j + 1)) ∧ F (j + 1) = fput (F j) r.op.dst (V j)
  watch : ∀ q r x, rs[q]? = some r → effect r.op.op = false → loadsAt r.op.op = some x →
    ∃ e, q < e ∧ e ≤ rs.length ∧ chkB (ev (F e)) c0 (H e) [x] = true ∧ ∀ re, rs[e]? = some re → effect re.op.op = true ∧ re.mask.testBit r.no = true

def Pend (c0 : Nat) (rs : List RO) (F : Nat → Fr) (H : Nat → Mem) (p : Nat × Operand) : Prop :=
  ∃ e, e ≤ rs.length ∧ chkB (ev (F e)) c0 (H e) [p.2] = true ∧ ∀ re, rs[e]? = some re → effect re.op.op = true ∧ re.mask.testBit p.1 = true

theorem chkB_mem {fr : Fr} {h : Mem} : ∀ {l : List Operand}, chkB (ev fr) c0 h l = true → ∀ x ∈ l, chkB (ev fr) c0 h [x] = true
  | [], _, x, hx => by simp at hx
  | y :: l, hc, x, hx => by
    unfold chkB at hc
    rcases List.mem_cons.1 hx with rfl | hx
    · unfold chkB
      rw [and_left hc]; rfl
    · exact chkB_mem (and_right hc) x hx

def consF {α : Type} (a : α) (f : Nat → α) : Nat → α
  | 0 => a
  | n + 1 => f n

theorem Pend.up {r : RO} {rs : List RO} {F : Nat → Fr} {H : Nat → Mem} {fr : Fr} {h : Mem} {p : Nat × Operand} (hp : Pend c0 rs F H p) : Pend c0 (r :: rs) (consF fr F) (consF h H) p := by
  obtain ⟨e, h1, h2, h3⟩ := hp
  exact ⟨e + 1, by simp; omega, h2, fun re hre => h3 re (by simpa using hre)⟩

theorem Tr.cons {r : RO} {rs : List RO} {F : Nat → Fr} {H : Nat → Mem} {V : Nat → Value} {fr : Fr} {h : Mem} {v : Value} (t : Tr P T rc c0 rs F H V)
    (hd : Does P T rc c0 r.op fr h v (H 0)) (hF : F 0 = fput fr r.op.dst v)
    (hw : ∀ x, effect r.op.op = false → loadsAt r.op.op = some x → Pend c0 rs F H (r.no, x)) : Tr P T rc c0 (r :: rs) (consF fr F) (consF h H) (consF v V) := by
  refine ⟨fun j r' hj => ?_, fun q r' x hq he hl => ?_⟩
  · cases j with
    | zero => have : r' = r := by simpa using hj.symm
              subst this; exact ⟨hd, hF⟩
    | succ j => exact t.step j r' (by simpa using hj)
  · cases q with
    | zero =>
      have : r' = r := by simpa using hq.symm
      subst this
      obtain ⟨e, h1, h2, h3⟩ := hw x he hl
      exact ⟨e + 1, by omega, by simp; omega, h2, fun re hre => h3 re (by simpa using hre)⟩
    | succ q =>
      obtain ⟨e, h0, h1, h2, h3⟩ := t.watch q r' x (by simpa using hq) he hl
      exact ⟨e + 1, by omega, by simp; omega, h2, fun re hre => h3 re (by simpa using hre)⟩

theorem chk_some {xs : List Operand} {k : Cont} {fr : Fr} {h : Mem} {r : AE × Fr × Mem} (hr : doOp P T rc c0 ⟨none, none, .chk xs⟩ k fr h = some r) : chkB (ev fr) c0 h xs = true ∧ k fr h = some r := by
  obtain ⟨v, h1, hd, hk⟩ := doOp_some hr
  cases hd with
  | run hw ho =>
    cases ho with
    | val hv =>
      obtain ⟨hb, hv⟩ := of_cond hv
      cases hv
      exact ⟨hb, hk⟩
    | call hv hc =>
      simp only [aop, aChk] at hv
      cases hb : chkB (ev fr) c0 h xs with
      | true => rw [hb] at hv; cases hv
      | false => rw [hb] at hv; cases hv
  | skip hw => cases hw

theorem trace : ∀ (rs : List RO) (pend : List (Nat × Operand)) {fr : Fr} {h : Mem} {e : AE} {fr' : Fr} {h' : Mem}, aops P T rc c0 (withChk rs pend) fr h = some (e, fr', h') →
    ∃ F H V, F 0 = fr ∧ H 0 = h ∧ F rs.length = fr' ∧ H rs.length = h' ∧ e = .normal ∧ Tr P T rc c0 rs F H V ∧ ∀ p ∈ pend, Pend c0 rs F H p
  | [], pend, fr, h, e, fr', h', hr => by
    unfold withChk at hr
    rw [aops_cons] at hr
    obtain ⟨hb, hk⟩ := chk_some hr
    cases hk
    refine ⟨fun _ => fr, fun _ => h, fun _ => undef, rfl, rfl, rfl, rfl, rfl, ⟨fun j r hj => by simp at hj, fun q r x hq => by simp at hq⟩, fun p hp => ⟨0, Nat.le_refl _, ?_, fun re hre => by simp at hre⟩⟩
    exact chkB_mem hb _ (List.mem_map_of_mem hp)
  | r :: rs, pend, fr, h, e, fr', h', hr => by
    unfold withChk at hr
    cases he : effect r.op.op with
    | true =>
      rw [he] at hr
      simp only [cond_true] at hr
      rw [aops_cons] at hr
      obtain ⟨hb, hk⟩ := chk_some hr
      rw [aops_cons] at hk
      obtain ⟨v, h1, hd, hk⟩ := doOp_some hk
      obtain ⟨F, H, V, t1, t2, t3, t4, t5, t6, t7⟩ := trace rs _ hk
      refine ⟨consF fr F, consF h H, consF v V, rfl, rfl, t3, t4, t5, t6.cons (by rw [t2]; exact hd) t1 (fun x hx => by rw [he] at hx; cases hx), fun p hp => ?_⟩
      cases hm : r.mask.testBit p.1 with
      | true =>
        refine ⟨0, Nat.zero_le _, chkB_mem hb _ (List.mem_map.2 ⟨p, List.mem_filter.2 ⟨hp, hm⟩, rfl⟩), fun re hre => ?_⟩
        have : re = r := by simpa using hre.symm
        rw [this]; exact ⟨he, hm⟩
      | false => exact (t7 p (List.mem_filter.2 ⟨hp, by rw [hm]; rfl⟩)).up
    | false =>
      rw [he] at hr
      simp only [cond_false] at hr
      cases hl : loadsAt r.op.op with
      | some x =>
        rw [hl] at hr
        simp only at hr
        rw [aops_cons] at hr
        obtain ⟨v, h1, hd, hk⟩ := doOp_some hr
        obtain ⟨F, H, V, t1, t2, t3, t4, t5, t6, t7⟩ := trace rs _ hk
        refine ⟨consF fr F, consF h H, consF v V, rfl, rfl, t3, t4, t5, t6.cons (by rw [t2]; exact hd) t1 (fun y _ hy => ?_), fun p hp => (t7 p (List.mem_append_left _ hp)).up⟩
        rw [hl] at hy; cases hy
        exact t7 _ (List.mem_append_right _ (List.mem_singleton.2 rfl))
      | none =>
        rw [hl] at hr
        simp only at hr
        rw [aops_cons] at hr
        obtain ⟨v, h1, hd, hk⟩ := doOp_some hr
        obtain ⟨F, H, V, t1, t2, t3, t4, t5, t6, t7⟩ := trace rs _ hk
        exact ⟨consF fr F, consF h H, consF v V, rfl, rfl, t3, t4, t5, t6.cons (by rw [t2]; exact hd) t1 (fun y _ hy => by rw [hl] at hy; cases hy), fun p hp => (t7 p hp).up⟩

namespace Tr
variable {rs : List RO} {F : Nat → Fr} {H : Nat → Mem} {V : Nat → Value}

theorem grows1 (t : Tr P T rc c0 rs F H V) (hS : StubGrows T) (hE : EvGrows rc) {j : Nat} {r : RO} (hj : rs[j]? = some r) : Grows (H j) (H (j + 1)) := (t.step j r hj).1.grows hS hE

theorem grows (t : Tr P T rc c0 rs F H V) (hS : StubGrows T) (hE : EvGrows rc) : ∀ (d j : Nat), j + d ≤ rs.length → Grows (H j) (H (j + d))
  | 0, j, _ => .refl _
  | d + 1, j, hl => by
    have hj : rs[j + d]? = some rs[j + d] := List.getElem?_eq_getElem (by omega)
    exact (t.grows hS hE d j (by omega)).trans (t.grows1 hS hE hj)

theorem grows_le (t : Tr P T rc c0 rs F H V) (hS : StubGrows T) (hE : EvGrows rc) {j k : Nat} (hjk : j ≤ k) (hk : k ≤ rs.length) : Grows (H j) (H k) := by
  have := t.grows hS hE (k - j) j (by omega)
  rwa [show j + (k - j) = k by omega] at this

theorem len (t : Tr P T rc c0 rs F H V) : ∀ (j : Nat), j ≤ rs.length → (F j).length = (F 0).length
  | 0, _ => rfl
  | j + 1, hl => by
    have hj : rs[j]? = some rs[j] := List.getElem?_eq_getElem (by omega)
    rw [(t.step j _ hj).2]
    have ih := t.len j (by omega)
    cases rs[j].op.dst with
    | none => exact ih
    | some d =>
      show (fset (F j) d (V j)).length = _
      rw [fset_eq, List.length_set]; exact ih

/-- A slot that nothing ahead of a place writes. -/
theorem slot_old (t : Tr P T rc c0 rs F H V) (d : Tmp) : ∀ (j : Nat), j ≤ rs.length → (∀ i r, i < j → rs[i]? = some r → r.op.dst ≠ some d) → (F j)[d]? = (F 0)[d]?
  | 0, _, _ => rfl
  | j + 1, hl, hn => by
    have hj : rs[j]? = some rs[j] := List.getElem?_eq_getElem (by omega)
    rw [(t.step j _ hj).2]
    have ih := t.slot_old d j (by omega) fun i r hi hr => hn i r (by omega) hr
    have hne := hn j _ (by omega) hj
    cases hd : rs[j].op.dst with
    | none => exact ih
    | some d' =>
      show (fset (F j) d' (V j))[d]? = _
      rw [fset_eq, List.getElem?_set_ne (fun e => hne (by rw [hd, e]))]
      exact ih

/-- A slot that one place writes, further on. -/
theorem slot_new (t : Tr P T rc c0 rs F H V) (hp : ∀ (p q : Nat) (x y : RO), p < q → rs[p]? = some x → rs[q]? = some y → pairOk x y = true) {d : Tmp} (hd : d < (F 0).length) {i : Nat} {r : RO} (hi : rs[i]? = some r) (hr : r.op.dst = some d) :
    ∀ (k : Nat), i + 1 + k ≤ rs.length → (F (i + 1 + k))[d]? = some (V i)
  | 0, hl => by
    rw [Nat.add_zero, (t.step i _ hi).2, hr]
    show (fset (F i) d (V i))[d]? = _
    rw [fset_eq, List.getElem?_set_self (by rw [t.len i (by omega)]; exact hd)]
  | k + 1, hl => by
    have hj : rs[i + 1 + k]? = some rs[i + 1 + k] := List.getElem?_eq_getElem (by omega)
    rw [show i + 1 + (k + 1) = i + 1 + k + 1 by omega, (t.step _ _ hj).2]
    have ih := t.slot_new hp hd hi hr k (by omega)
    have hne := (pair_of (hp i (i + 1 + k) r _ (by omega) hi hj)).apart d hr
    cases hd' : rs[i + 1 + k].op.dst with
    | none => exact ih
    | some d' =>
      show (fset (F (i + 1 + k)) d' (V (i + 1 + k)))[d]? = _
      rw [fset_eq, List.getElem?_set_ne (fun e => hne (by rw [hd', e]))]
      exact ih

end Tr
end Go.AM

namespace Go.AM

variable {P : Program} {T : Tab} {rc : Ev} {c0 : Nat} {B B' : Base} {I J : Inj} {h h2 : Mem} {w : World}

/-- Of the memory a row is taken: its block is kept as it is. -/
theorem RW.stash (R : RW B' J h2 w) {id : Nat} {r : Row} (hid : h2.next = id + 1) (hle : h.next ≤ id) (hget : ∀ j, h2.get j = if j = id then some r else h.get j)
    (hgone : ∀ j, h.next ≤ j → h.get j = none) (hv : ∀ i s, h.get i = some s → s.ver < h.clock) (hJ : ∀ i, h.next ≤ i → i < id → J i = B'.later i) :
    ∃ b n arr, J id = some (b, n) ∧ arr.size = n ∧ RL J r.cells (arr.toList.take r.cells.length) ∧ r.cells.all cellOk = true ∧ B'.snap b = none ∧
      RW { B' with snap := fun c => if c = b then some (.cells arr r.elem (0, 0)) else B'.snap c, later := fun i => if i = id then some (b, n) else B'.later i } J h w := by
  have hr : h2.get id = some r := by rw [hget, if_pos rfl]
  obtain ⟨b, n, arr, k1, k2, k3, k4, k5⟩ := R.rows id r hr
  have live : ∀ i s, h.get i = some s → i ≠ id ∧ h2.get i = some s := fun i s hi => by
    have hne : i ≠ id := fun e => by rw [e, hgone id hle] at hi; cases hi
    exact ⟨hne, by rw [hget, if_neg hne]; exact hi⟩
  refine ⟨b, n, arr, k1, k3, k4, R.cellok id r hr, k5, ?_, ?_, ?_, hgone, hv, fun i s hi => R.cellok i s (live i s hi).2, ?_, R.rest, R.globs⟩
  · intro i s hi
    obtain ⟨h1, h2'⟩ := live i s hi
    obtain ⟨c, m, a, l1, l2, l3, l4, l5⟩ := R.rows i s h2'
    refine ⟨c, m, a, l1, l2, l3, l4, ?_⟩
    have hne : c ≠ b := fun e => h1 (R.inj i id _ _ _ _ _ h2' hr (e ▸ l1) k1)
    show (if c = b then _ else B'.snap c) = none
    rw [if_neg hne]; exact l5
  · intro i j s s' c m m' hi hj hi' hj'
    exact R.inj i j _ _ _ _ _ (live i s hi).2 (live j s' hj).2 hi' hj'
  · intro i hi
    show J i = if i = id then some (b, n) else B'.later i
    by_cases e : i = id
    · rw [if_pos e, e]; exact k1
    · rw [if_neg e]
      rcases Nat.lt_or_ge i id with hl | hl
      · exact hJ i hi hl
      · exact R.fresh i (by omega)
  · intro c o hc
    change (if c = b then some (.cells arr r.elem (0, 0)) else B'.snap c) = some o at hc
    by_cases e : c = b
    · rw [if_pos e] at hc; cases hc; rw [e]; exact k2
    · rw [if_neg e] at hc; exact R.snap c o hc

/-- A row that the model has made already comes into the memory. -/
theorem RW.adopt (R : RW B' J h w) {cs : List Value} {e : TypeId} (hn : h.new cs e = some h2) {b n : Nat} {arr : Array Value} (hl : B'.later h.next = some (b, n)) (hs : B'.snap b = some (.cells arr e (0, 0)))
    (hsz : arr.size = n) (hr : RL J cs (arr.toList.take cs.length)) (hc : cs.all cellOk = true) :
    RW { B' with snap := fun c => if c = b then none else B'.snap c, later := fun i => if i = h.next then none else B'.later i } J h2 w := by
  obtain ⟨_, n1, n2, hget⟩ := Mem.new_some hn
  have hI : J h.next = some (b, n) := (R.fresh _ (Nat.le_refl _)).trans hl
  have old : ∀ i s, h.get i = some s → ∀ c m, J i = some (c, m) → c ≠ b := fun i s hi c m hi' e => by
    obtain ⟨c', m', a, l1, l2, l3, l4, l5⟩ := R.rows i s hi
    rw [hi'] at l1; cases l1
    rw [e, hs] at l5; cases l5
  refine ⟨?_, ?_, ?_, ?_, ?_, ?_, ?_, R.rest, R.globs⟩
  · intro i s hi
    rw [hget] at hi
    by_cases ei : i = h.next
    · rw [if_pos ei] at hi; cases hi
      refine ⟨b, n, arr, ei ▸ hI, R.snap _ _ hs, hsz, hr, ?_⟩
      show (if b = b then none else B'.snap b) = none
      rw [if_pos rfl]
    · rw [if_neg ei] at hi
      obtain ⟨c, m, a, l1, l2, l3, l4, l5⟩ := R.rows i s hi
      refine ⟨c, m, a, l1, l2, l3, l4, ?_⟩
      show (if c = b then none else B'.snap c) = none
      rw [if_neg (old i s hi c m l1)]; exact l5
  · intro i j s s' c m m' hi hj hi' hj'
    rw [hget] at hi hj
    by_cases ei : i = h.next
    · by_cases ej : j = h.next
      · rw [ei, ej]
      · rw [if_neg ej] at hj
        rw [ei, hI] at hi'; cases hi'
        exact absurd rfl (old j _ hj _ _ hj')
    · rw [if_neg ei] at hi
      by_cases ej : j = h.next
      · rw [ej, hI] at hj'; cases hj'
        exact absurd rfl (old i _ hi _ _ hi')
      · rw [if_neg ej] at hj
        exact R.inj i j _ _ _ _ _ hi hj hi' hj'
  · intro i hi
    rw [n1] at hi
    show J i = if i = h.next then none else B'.later i
    rw [if_neg (by omega)]
    exact R.fresh i (by omega)
  · intro i hi
    rw [n1] at hi
    rw [hget, if_neg (by omega)]
    exact R.gone i (by omega)
  · intro i s hi
    rw [hget] at hi
    rw [n2]
    by_cases ei : i = h.next
    · rw [if_pos ei] at hi; cases hi; exact Nat.lt_succ_self _
    · rw [if_neg ei] at hi; have := R.vers i s hi; omega
  · intro i s hi
    rw [hget] at hi
    by_cases ei : i = h.next
    · rw [if_pos ei] at hi; cases hi; exact hc
    · rw [if_neg ei] at hi; exact R.cellok i s hi
  · intro c o hco
    change (if c = b then none else B'.snap c) = some o at hco
    by_cases ec : c = b
    · rw [if_pos ec] at hco; cases hco
    · rw [if_neg ec] at hco; exact R.snap c o hco

variable {H : Nat → Mem} {S : Nat → Prop}

/-- What the base has more while rows of some places are made ahead. -/
structure Early (B B' : Base) (H : Nat → Mem) (S : Nat → Prop) (I : Inj) : Prop where
  same : B'.tape = B.tape ∧ B'.os = B.os ∧ B'.output = B.output ∧ B'.globs = B.globs
  later : ∀ i, (∃ j, S j ∧ i = (H j).next) ∨ B'.later i = B.later i
  snap : ∀ c, (∃ j n, S j ∧ B'.later (H j).next = some (c, n)) ∨ B'.snap c = B.snap c
  row : ∀ j, S j → ∃ r c n arr, (H (j + 1)).get (H j).next = some r ∧ r.cells.all cellOk = true ∧ B'.later (H j).next = some (c, n) ∧ B'.snap c = some (.cells arr r.elem (0, 0)) ∧ arr.size = n ∧
    RL I r.cells (arr.toList.take r.cells.length) ∧ B.snap c = none
  inj : ∀ j k c n m, S j → S k → B'.later (H j).next = some (c, n) → B'.later (H k).next = some (c, m) → j = k

namespace Early

theorem mono {lo : Nat} (E : Early B B' H S I) (e : Ext lo I J) : Early B B' H S J :=
  ⟨E.same, E.later, E.snap, fun j hj => by
    obtain ⟨r, c, n, arr, h1, h2, h3, h4, h5, h6, h7⟩ := E.row j hj
    exact ⟨r, c, n, arr, h1, h2, h3, h4, h5, h6.mono e, h7⟩, E.inj⟩

theorem congr {S' : Nat → Prop} (E : Early B B' H S I) (hs : ∀ j, S' j ↔ S j) : Early B B' H S' I := by
  have : S' = S := funext fun j => propext (hs j)
  rw [this]; exact E

theorem none (E : Early B B' H S I) (hs : ∀ j, ¬ S j) : B' = B := by
  obtain ⟨e1, e2, e3, e4⟩ := E.same
  have e5 : B'.later = B.later := funext fun i => (E.later i).resolve_left fun ⟨j, hj, _⟩ => hs j hj
  have e6 : B'.snap = B.snap := funext fun c => (E.snap c).resolve_left fun ⟨j, _, hj, _⟩ => hs j hj
  cases B; cases B'
  simp only at e1 e2 e3 e4 e5 e6
  subst e1; subst e2; subst e3; subst e4; subst e5; subst e6
  rfl

theorem asks {Ψ : Base → Prop} (hK : Asks Ψ) (E : Early B B' H S I) (hB : Ψ B) : Ψ B' := by
  refine hK.keep B B' (fun c o hc => ?_) E.same.2.2.2 hB
  rcases E.snap c with ⟨j, n, hj, hl⟩ | h3
  · obtain ⟨r, c', m, arr, _, _, h3, _, _, _, h7⟩ := E.row j hj
    rw [hl] at h3; cases h3
    rw [hc] at h7; cases h7
  · rw [h3, hc]

/-- One more. -/
theorem stash (E : Early B B' H S I) {p : Nat} {r : Row} {b n : Nat} {arr : Array Value} (hp : ∀ j, S j → (H j).next ≠ (H p).next) (hr : (H (p + 1)).get (H p).next = some r) (hc : r.cells.all cellOk = true)
    (hsz : arr.size = n) (hrl : RL I r.cells (arr.toList.take r.cells.length)) (hb : B'.snap b = Option.none) :
    Early B { B' with snap := fun c => if c = b then some (.cells arr r.elem (0, 0)) else B'.snap c, later := fun i => if i = (H p).next then some (b, n) else B'.later i } H (fun j => S j ∨ j = p) I := by
  have hbS : ∀ j c n, S j → B'.later (H j).next = some (c, n) → c ≠ b := fun j c n hj hl e => by
    obtain ⟨r', c', n', arr', _, _, h3, h4, _⟩ := E.row j hj
    rw [hl] at h3; cases h3
    rw [e, hb] at h4; cases h4
  have hb0 : B.snap b = Option.none := by
    rcases E.snap b with ⟨j, n', hj, hl⟩ | h1
    · exact absurd rfl (hbS j _ _ hj hl)
    · rw [← h1]; exact hb
  refine ⟨E.same, fun i => ?_, fun c => ?_, fun j hj => ?_, fun j k c m m' hj hk hl hl' => ?_⟩
  · by_cases ei : i = (H p).next
    · exact .inl ⟨p, .inr rfl, ei⟩
    · rcases E.later i with ⟨j, hj, h1⟩ | h1
      · exact .inl ⟨j, .inl hj, h1⟩
      · refine .inr ?_
        show (if i = (H p).next then _ else B'.later i) = _
        rw [if_neg ei]; exact h1
  · by_cases ec : c = b
    · refine .inl ⟨p, n, .inr rfl, ?_⟩
      show (if (H p).next = (H p).next then some (b, n) else _) = _
      rw [if_pos rfl, ec]
    · rcases E.snap c with ⟨j, m, hj, h1⟩ | h1
      · refine .inl ⟨j, m, .inl hj, ?_⟩
        show (if (H j).next = (H p).next then _ else B'.later (H j).next) = _
        rw [if_neg (hp j hj)]; exact h1
      · refine .inr ?_
        show (if c = b then _ else B'.snap c) = _
        rw [if_neg ec]; exact h1
  · by_cases ep : j = p
    · subst ep
      refine ⟨r, b, n, arr, hr, hc, ?_, ?_, hsz, hrl, hb0⟩
      · show (if (H j).next = (H j).next then some (b, n) else _) = _
        rw [if_pos rfl]
      · show (if b = b then _ else B'.snap b) = _
        rw [if_pos rfl]
    · have hj := hj.resolve_right ep
      obtain ⟨r', c, m, arr', h1, h2, h3, h4, h5, h6, h7⟩ := E.row j hj
      refine ⟨r', c, m, arr', h1, h2, ?_, ?_, h5, h6, h7⟩
      · show (if (H j).next = (H p).next then _ else B'.later (H j).next) = _
        rw [if_neg (hp j hj)]; exact h3
      · show (if c = b then _ else B'.snap c) = _
        rw [if_neg (hbS j _ _ hj h3)]; exact h4
  · change (if (H j).next = (H p).next then some (b, n) else B'.later (H j).next) = some (c, m) at hl
    change (if (H k).next = (H p).next then some (b, n) else B'.later (H k).next) = some (c, m') at hl'
    by_cases ej : j = p
    · by_cases ek : k = p
      · rw [ej, ek]
      · have hk := hk.resolve_right ek
        rw [ej, if_pos rfl] at hl; cases hl
        rw [if_neg (hp k hk)] at hl'
        exact absurd rfl (hbS k _ _ hk hl')
    · have hj := hj.resolve_right ej
      rw [if_neg (hp j hj)] at hl
      by_cases ek : k = p
      · rw [ek, if_pos rfl] at hl'; cases hl'
        exact absurd rfl (hbS j _ _ hj hl)
      · have hk := hk.resolve_right ek
        rw [if_neg (hp k hk)] at hl'
        exact E.inj j k c m m' hj hk hl hl'

/-- One less. -/
theorem adopt (E : Early B B' H S I) {k : Nat} (hk : S k) (hp : ∀ j, S j → j ≠ k → (H j).next ≠ (H k).next) {b n : Nat} (hl : B'.later (H k).next = some (b, n)) (hf : B.later (H k).next = Option.none) :
    Early B { B' with snap := fun c => if c = b then Option.none else B'.snap c, later := fun i => if i = (H k).next then Option.none else B'.later i } H (fun j => S j ∧ j ≠ k) I := by
  have hbS : ∀ j c m, S j → j ≠ k → B'.later (H j).next = some (c, m) → c ≠ b := fun j c m hj hne h1 e => hne (E.inj j k c m n hj hk h1 (by rw [e]; exact hl))
  have hb0 : B.snap b = Option.none := by
    obtain ⟨r, c, m, arr, _, _, h3, _, _, _, h7⟩ := E.row k hk
    rw [hl] at h3; cases h3
    exact h7
  refine ⟨E.same, fun i => ?_, fun c => ?_, fun j hj => ?_, fun j j' c m m' hj hj' h1 h1' => ?_⟩
  · by_cases ei : i = (H k).next
    · refine .inr ?_
      show (if i = (H k).next then _ else B'.later i) = _
      rw [if_pos ei, ei, hf]
    · rcases E.later i with ⟨j, hj, h1⟩ | h1
      · exact .inl ⟨j, ⟨hj, fun e => ei (by rw [h1, e])⟩, h1⟩
      · refine .inr ?_
        show (if i = (H k).next then _ else B'.later i) = _
        rw [if_neg ei]; exact h1
  · by_cases ec : c = b
    · refine .inr ?_
      show (if c = b then _ else B'.snap c) = _
      rw [if_pos ec, ec, hb0]
    · rcases E.snap c with ⟨j, m, hj, h1⟩ | h1
      · have hjk : j ≠ k := fun e => by rw [e, hl] at h1; cases h1; exact ec rfl
        refine .inl ⟨j, m, ⟨hj, hjk⟩, ?_⟩
        show (if (H j).next = (H k).next then _ else B'.later (H j).next) = _
        rw [if_neg (hp j hj hjk)]; exact h1
      · refine .inr ?_
        show (if c = b then _ else B'.snap c) = _
        rw [if_neg ec]; exact h1
  · obtain ⟨r, c, m, arr, h1, h2, h3, h4, h5, h6, h7⟩ := E.row j hj.1
    refine ⟨r, c, m, arr, h1, h2, ?_, ?_, h5, h6, h7⟩
    · show (if (H j).next = (H k).next then _ else B'.later (H j).next) = _
      rw [if_neg (hp j hj.1 hj.2)]; exact h3
    · show (if c = b then _ else B'.snap c) = _
      rw [if_neg (hbS j _ _ hj.1 hj.2 h3)]; exact h4
  · change (if (H j).next = (H k).next then _ else B'.later (H j).next) = some (c, m) at h1
    change (if (H j').next = (H k).next then _ else B'.later (H j').next) = some (c, m') at h1'
    rw [if_neg (hp j hj.1 hj.2)] at h1
    rw [if_neg (hp j' hj'.1 hj'.2)] at h1'
    exact E.inj j j' c m m' hj.1 hj'.1 h1 h1'

end Early
end Go.AM

namespace Go.AM

/-- What is given of a region and of the machine's walk through it. -/
structure Ctx (Ψ : Base → Prop) (P : Program) (T : Tab) (rc : Ev) (c0 : Nat) (ops : Array Oper) (rs : List RO) (F : Nat → Fr) (H : Nat → Mem) (V : Nat → Value) (B : Base) : Prop where
  text : Text P ops rs
  tr : Tr P T rc c0 rs F H V
  hS : StubGrows T
  hE : EvGrows rc
  hC : CallOK Ψ P T rc
  hK : Asks Ψ
  hB : Ψ B
  free : Free B (H 0) (H rs.length)
  clock : c0 = (H 0).clock

/-- The new rows that are made, at a place or further on. -/
def Soon (rs : List RO) (F : Nat → Fr) (L : Nat → Prop) (k j : Nat) : Prop :=
  k ≤ j ∧ ∃ r, rs[j]? = some r ∧ isNew r.op.op = true ∧ L r.no ∧ wantedA (F j) r.op.guard = true

variable {Ψ : Base → Prop} {P : Program} {T : Tab} {rc : Ev} {c0 : Nat} {ops : Array Oper} {rs : List RO} {F : Nat → Fr} {H : Nat → Mem} {V : Nat → Value} {B : Base}

theorem lt_of_some {α : Type} {l : List α} {j : Nat} {r : α} (h : l[j]? = some r) : j < l.length := by
  rcases Nat.lt_or_ge j l.length with h' | h'
  · exact h'
  · rw [List.getElem?_eq_none_iff.2 h'] at h; cases h

namespace Ctx
variable (C : Ctx Ψ P T rc c0 ops rs F H V B)
include C

theorem grows {j k : Nat} (hjk : j ≤ k) (hk : k ≤ rs.length) : Grows (H j) (H k) := C.tr.grows_le C.hS C.hE hjk hk

/-- At a new row's place. -/
theorem new {j : Nat} {r : RO} (hj : rs[j]? = some r) (hn : isNew r.op.op = true) (hw : wantedA (F j) r.op.guard = true) :
    ∃ cs e f, (∀ k, aop r.op.op P c0 (ev (F j)) k = mkRow k cs e f) ∧ V j = f (H j).next ∧ (H j).new cs e = some (H (j + 1)) := by
  cases (C.tr.step j r hj).1 with
  | run _ ho =>
    cases ho with
    | val hr =>
      obtain ⟨cs, e, f, hk⟩ := op_new hn hr
      rw [hk] at hr
      unfold mkRow at hr
      cases hnn : (H j).new cs e with
      | none => rw [hnn] at hr; cases hr
      | some h1 =>
        rw [hnn] at hr
        simp only [Option.some.injEq, AR.val.injEq] at hr
        exact ⟨cs, e, f, hk, hr.1.symm, by rw [hnn, hr.2]⟩
    | call hr hc => exact (op_nocall_new hn hr).elim
  | skip hf => rw [hw] at hf; cases hf

theorem soon_next {L : Nat → Prop} {k j : Nat} (hj : Soon rs F L k j) : j < rs.length ∧ (H (j + 1)).next = (H j).next + 1 := by
  obtain ⟨_, r, h1, h2, _, h4⟩ := hj
  obtain ⟨cs, e, f, _, _, hn⟩ := C.new h1 h2 h4
  exact ⟨lt_of_some h1, (Mem.new_some hn).2.1⟩

/-- New rows' numbers are unlike. -/
theorem soon_ne {L L' : Nat → Prop} {k k' i j : Nat} (hi : Soon rs F L k i) (hj : Soon rs F L' k' j) (hne : i ≠ j) : (H i).next ≠ (H j).next := by
  obtain ⟨i1, i2⟩ := C.soon_next hi
  obtain ⟨j1, j2⟩ := C.soon_next hj
  rcases Nat.lt_or_gt_of_ne hne with hl | hl
  · have := (C.grows (j := i + 1) (k := j) hl (by omega)).next
    omega
  · have := (C.grows (j := j + 1) (k := i) hl (by omega)).next
    omega

theorem free_at {j : Nat} (hj : j < rs.length) {i : Nat} (h1 : (H j).next ≤ i) (h2 : i < (H (j + 1)).next) : B.later i = none :=
  C.free i (Nat.le_trans (C.grows (Nat.zero_le j) (by omega)).next h1) (Nat.lt_of_lt_of_le h2 (C.grows (j := j + 1) hj (Nat.le_refl _)).next)

/-- What has no effect leaves the memory. -/
theorem still {j : Nat} {r : RO} (hj : rs[j]? = some r) (he : effect r.op.op = false) : H (j + 1) = H j := by
  cases (C.tr.step j r hj).1 with
  | run _ ho =>
    cases ho with
    | val hr =>
      cases hl : loadsAt r.op.op with
      | some x => exact (op_load hl hr).1
      | none =>
        by_cases hc : ∃ xs, r.op.op = .chk xs
        · obtain ⟨xs, e⟩ := hc
          rw [e] at hr
          have hr := (of_cond hr).2
          simp only [Option.some.injEq, AR.val.injEq] at hr
          exact hr.2.symm
        · exact (op_pure he hl (fun xs e => hc ⟨xs, e⟩) hr).1
    | call hr hc => exact (op_nocall he hr).elim
  | skip _ _ hh => exact hh

/-- On to the first effect that has not been done yet. -/
theorem advance {L : Nat → Prop} {J : Inj} {w : World} : ∀ (d k : Nat) (B' : Base), k + d = rs.length → (∀ j r, j < k → rs[j]? = some r → effect r.op.op = true → L r.no) →
    (∀ j r, k ≤ j → rs[j]? = some r → effect r.op.op = true → L r.no → isNew r.op.op = true) → RW B' J (H k) w → Early B B' H (Soon rs F L k) J →
    ∃ m B'', k ≤ m ∧ m ≤ rs.length ∧ (∀ j r, j < m → rs[j]? = some r → effect r.op.op = true → L r.no) ∧ (∀ r, rs[m]? = some r → effect r.op.op = true ∧ ¬ L r.no) ∧ RW B'' J (H m) w ∧ Early B B'' H (Soon rs F L m) J
  | 0, k, B', hd, hb, _, R, E => ⟨k, B', Nat.le_refl _, by omega, hb, fun r hr => by have := lt_of_some hr; omega, R, E⟩
  | d + 1, k, B', hd, hb, hl, R, E => by
    have hlt : k < rs.length := by omega
    have hk : rs[k]? = some rs[k] := List.getElem?_eq_getElem hlt
    generalize rs[k] = r at hk
    have hb' : (effect r.op.op = true → L r.no) → ∀ j r', j < k + 1 → rs[j]? = some r' → effect r'.op.op = true → L r'.no := fun hx j r' hj hr' he => by
      by_cases e : j = k
      · subst e; rw [hk] at hr'; cases hr'; exact hx he
      · exact hb j r' (by omega) hr' he
    have hl' : ∀ j r, k + 1 ≤ j → rs[j]? = some r → effect r.op.op = true → L r.no → isNew r.op.op = true := fun j r hj => hl j r (by omega)
    have same : ¬ Soon rs F L k k → H (k + 1) = H k → (effect r.op.op = true → L r.no) → ∃ m B'', k ≤ m ∧ m ≤ rs.length ∧ (∀ j r, j < m → rs[j]? = some r → effect r.op.op = true → L r.no) ∧ (∀ r, rs[m]? = some r → effect r.op.op = true ∧ ¬ L r.no) ∧ RW B'' J (H m) w ∧ Early B B'' H (Soon rs F L m) J := fun hn hH hx => by
      obtain ⟨m, B'', m1, m2⟩ := advance d (k + 1) B' (by omega) (hb' hx) hl' (by rw [hH]; exact R) (E.congr fun j => ⟨fun hj => ⟨by have := hj.1; omega, hj.2⟩, fun hj => ⟨by
        have := hj.1
        have : j ≠ k := fun e => hn (e ▸ hj)
        omega, hj.2⟩⟩)
      exact ⟨m, B'', by omega, m2⟩
    cases he : effect r.op.op with
    | false =>
      refine same (fun hs => ?_) (C.still hk he) (fun hx => by rw [he] at hx; cases hx)
      obtain ⟨_, r', h1, h2, _⟩ := hs
      rw [hk] at h1; cases h1
      have : effect r.op.op = true := by cases hx : r.op.op <;> rw [hx] at h2 <;> simp [isNew] at h2 <;> rfl
      rw [he] at this; cases this
    | true =>
      by_cases hL : L r.no
      · have hn := hl k r (Nat.le_refl _) hk he hL
        cases hw : wantedA (F k) r.op.guard with
        | false =>
          refine same (fun hs => ?_) ?_ (fun _ => hL)
          · obtain ⟨_, r', h1, _, _, h4⟩ := hs
            rw [hk] at h1; cases h1
            rw [hw] at h4; cases h4
          · cases (C.tr.step k r hk).1 with
            | run hw' => rw [hw] at hw'; cases hw'
            | skip _ _ hh => exact hh
        | true =>
          have hs : Soon rs F L k k := ⟨Nat.le_refl _, r, hk, hn, hL, hw⟩
          obtain ⟨cs, e, f, _, _, hnew⟩ := C.new hk hn hw
          obtain ⟨s, c, n, arr, r1, r2, r3, r4, r5, r6, r7⟩ := E.row k hs
          obtain ⟨_, n1, n2, hget⟩ := Mem.new_some hnew
          rw [hget, if_pos rfl] at r1
          cases r1
          have hf : B.later (H k).next = none := C.free_at hlt (Nat.le_refl _) (by omega)
          have E2 := E.adopt hs (fun j hj hne => C.soon_ne hj hs hne) r3 hf
          have R2 := R.adopt hnew r3 r4 r5 r6 r2
          obtain ⟨m, B'', m1, m2⟩ := advance d (k + 1) _ (by omega) (hb' fun _ => hL) hl' R2 (E2.congr fun j => ⟨fun hj => ⟨⟨by have := hj.1; omega, hj.2⟩, by have := hj.1; omega⟩, fun hj => ⟨by have := hj.1.1; have := hj.2; omega, hj.1.2⟩⟩)
          exact ⟨m, B'', by omega, m2⟩
      · exact ⟨k, B', Nat.le_refl _, by omega, hb, fun r' hr' => by rw [hk] at hr'; cases hr'; exact ⟨he, hL⟩, R, E⟩

end Ctx

/-- How far the model is, with these operations done. -/
structure Inv (P : Program) (ops : Array Oper) (rs : List RO) (F : Nat → Fr) (H : Nat → Mem) (V : Nat → Value) (B : Base) (I0 : Inj) (L : Nat → Prop) (m : Nat) (B' : Base) (I : Inj) (a : Act) (w : World) : Prop where
  closed : Closed ops L
  before : ∀ (j : Nat) (r : RO), j < m → rs[j]? = some r → effect r.op.op = true → L r.no
  front : ∀ (r : RO), rs[m]? = some r → effect r.op.op = true ∧ ¬ L r.no
  le : m ≤ rs.length
  R : RW B' I (H m) w
  E : Early B B' H (Soon rs F L m) I
  ext : Ext (H 0).next I0 I
  size : a.tmps.size = (F 0).length
  old : ∀ d u, a.tmps[d]? = some u → (∀ (j : Nat) (r : RO), rs[j]? = some r → r.op.dst = some d → ¬ L r.no) → RV I ((F 0).getD d undef) u
  new : ∀ (j : Nat) (r : RO) (d : Tmp) (u : Value), rs[j]? = some r → r.op.dst = some d → L r.no → a.tmps[d]? = some u → RV I (V j) u
  defers : a.defers = []

variable {I0 I J : Inj} {L : Nat → Prop} {m : Nat} {B' : Base} {a : Act} {w : World}

theorem pairAt (X : Text P ops rs) {p q : Nat} {x y : RO} (hpq : p < q) (hx : rs[p]? = some x) (hy : rs[q]? = some y) : Pair x y := pair_of (X.pair p q x y hpq hx hy)

theorem no_ne (X : Text P ops rs) {p q : Nat} {x y : RO} (hpq : p ≠ q) (hx : rs[p]? = some x) (hy : rs[q]? = some y) : x.no ≠ y.no := by
  rcases Nat.lt_or_gt_of_ne hpq with h | h
  · exact (pairAt X h hx hy).unlike
  · exact (pairAt X h hy hx).unlike.symm

theorem dst_ne (X : Text P ops rs) {p q : Nat} {x y : RO} (hpq : p ≠ q) (hx : rs[p]? = some x) (hy : rs[q]? = some y) {d : Tmp} (hd : x.op.dst = some d) : y.op.dst ≠ some d := by
  rcases Nat.lt_or_gt_of_ne hpq with h | h
  · exact (pairAt X h hx hy).apart d hd
  · intro e; exact (pairAt X h hy hx).apart d e hd

namespace Inv
variable (C : Ctx Ψ P T rc c0 ops rs F H V B) (N : Inv P ops rs F H V B I0 L m B' I a w)
include C N

theorem mask {p : Nat} {x : RO} (hx : rs[p]? = some x) (hL : L x.no) {i : Nat} (hi : x.mask.testBit i = true) : L i := by
  obtain ⟨o, h1, _, _, h4⟩ := C.text.of p x hx
  rw [h4] at hi
  exact N.closed.mask x.no o h1 hL i hi

/-- What is done behind the first effect that is not: new rows. -/
theorem late {j : Nat} {r : RO} (hj : rs[j]? = some r) (hm : m ≤ j) (he : effect r.op.op = true) (hL : L r.no) : isNew r.op.op = true := by
  have hlt := lt_of_some hj
  have hmk : rs[m]? = some rs[m] := List.getElem?_eq_getElem (by omega)
  obtain ⟨f1, f2⟩ := N.front _ hmk
  have hne : m ≠ j := fun e => by
    subst e
    rw [hj] at hmk; cases hmk
    exact f2 hL
  cases hn : isNew r.op.op with
  | true => rfl
  | false => exact absurd (N.mask C hj hL ((pairAt C.text (by omega) hmk hj).effects f1 he hn)) f2

/-- A slot that an operation looks at. -/
theorem look {p : Nat} {x : RO} (hx : rs[p]? = some x) (hL : ¬ L x.no) (hr : ∀ i, x.mask.testBit i = true → L i) {t : Tmp} (ht : t ∈ x.looks) : RV I (fget (F p) t) (a.tmps.getD t undef) := by
  have hlt := lt_of_some hx
  rw [fget_eq, List.getD_eq_getElem?_getD, Array.getD_eq_getD_getElem?]
  rcases Nat.lt_or_ge t a.tmps.size with hs | hs
  · have hsu : a.tmps[t]? = some a.tmps[t] := Array.getElem?_eq_getElem hs
    generalize a.tmps[t] = u at hsu
    rw [hsu]
    simp only [Option.getD_some]
    have hsF : t < (F 0).length := by rw [← N.size]; exact hs
    by_cases hw : ∃ (j : Nat) (r : RO), rs[j]? = some r ∧ r.op.dst = some t
    · obtain ⟨j, r, hj, hd⟩ := hw
      have others : ∀ (i : Nat) (s : RO), i ≠ j → rs[i]? = some s → s.op.dst ≠ some t := fun i s hi hs' => dst_ne C.text (Ne.symm hi) hj hs' hd
      by_cases hjp : j < p
      · have hLj := hr _ ((pairAt C.text hjp hj hx).reads t hd ht)
        have := C.tr.slot_new C.text.pair hsF hj hd (p - (j + 1)) (by omega)
        rw [show j + 1 + (p - (j + 1)) = p by omega] at this
        rw [this]
        exact N.new j r t u hj hd hLj hsu
      · rw [C.tr.slot_old t p (by omega) fun i s hi hs' => others i s (by omega) hs', ← List.getD_eq_getElem?_getD]
        refine N.old t u hsu fun i s hi hdi => ?_
        have hij : i = j := by
          apply Classical.byContradiction
          intro hne
          exact others i s hne hi hdi
        subst hij
        rw [hj] at hi; cases hi
        by_cases hjp' : i = p
        · subst hjp'; rw [hj] at hx; cases hx; exact hL
        · exact fun hLs => hL (N.mask C hj hLs ((pairAt C.text (by omega) hx hj).writes t hd ht))
    · rw [C.tr.slot_old t p (by omega) fun i s _ hs' hd => hw ⟨i, s, hs', hd⟩, ← List.getD_eq_getElem?_getD]
      exact N.old t u hsu fun i s hi hd => absurd ⟨i, s, hi, hd⟩ hw
  · have h1 : (F p)[t]? = none := by rw [List.getElem?_eq_none_iff, C.tr.len p (by omega), ← N.size]; exact hs
    rw [h1, Array.getElem?_eq_none hs]
    exact .undef I

theorem opd {p : Nat} {x : RO} (hx : rs[p]? = some x) (hL : ¬ L x.no) (hr : ∀ i, x.mask.testBit i = true → L i) {o : Oper} (ho : x.looks = o.looksAt ops) {y : Operand} (hy : y ∈ o.op.operands.toList) (hok : opdOk y = true) :
    RV I (ev (F p) y) (a.eval y) := by
  cases y with
  | tmp t => exact N.look C hx hL hr (by rw [ho]; exact List.mem_append_left _ (List.mem_filterMap.2 ⟨.tmp t, hy, rfl⟩))
  | const v => exact plain_self hok
  | global g =>
    obtain ⟨n, hn⟩ := N.R.glob2 (by rw [N.E.same.2.2.2]; exact C.hK.globs _ C.hB) g (by simpa [opdOk, Nat.blt_eq] using hok)
    exact .ptr hn
  | func f => exact .func .nil .nil

theorem want {p : Nat} {x : RO} (hx : rs[p]? = some x) (hL : ¬ L x.no) (hr : ∀ i, x.mask.testBit i = true → L i) {o : Oper} (ho : x.looks = o.looksAt ops) (hg : compGuard ops o.guard = some x.op.guard) :
    Region.wanted o (yielded ops a.tmps) = wantedA (F p) x.op.guard := by
  rw [wanted_eq hg]
  cases hq : x.op.guard with
  | none => rfl
  | some q =>
    obtain ⟨d, want⟩ := q
    rw [wantedA_eq]
    simp only [wantT]
    refine isBool_RV (N.look C hx hL hr ?_) want
    rw [ho]
    refine List.mem_append_right _ ?_
    rw [hq] at hg
    unfold compGuard at hg
    cases hog : o.guard with
    | none => rw [hog] at hg; cases hg
    | some g =>
      obtain ⟨j, b⟩ := g
      rw [hog] at hg
      simp only at hg ⊢
      cases hd : (ops[j]?).bind (·.dst) with
      | none => rw [hd] at hg; cases hg
      | some d' => rw [hd] at hg; cases hg; simp

/-- The slots, with one more operation done. -/
theorem slots {p : Nat} {x : RO} (hx : rs[p]? = some x) {lo : Nat} (e : Ext lo I J) {u : Value} (hv : RV J (V p) u) :
    (a.put x.op.dst u).tmps.size = (F 0).length ∧ (a.put x.op.dst u).defers = [] ∧
    (∀ d z, (a.put x.op.dst u).tmps[d]? = some z → (∀ (j : Nat) (r : RO), rs[j]? = some r → r.op.dst = some d → ¬ (L r.no ∨ r.no = x.no)) → RV J ((F 0).getD d undef) z) ∧
    (∀ (j : Nat) (r : RO) (d : Tmp) (z : Value), rs[j]? = some r → r.op.dst = some d → (L r.no ∨ r.no = x.no) → (a.put x.op.dst u).tmps[d]? = some z → RV J (V j) z) := by
  have other : ∀ d, x.op.dst ≠ some d → (a.put x.op.dst u).tmps[d]? = a.tmps[d]? := fun d hd => by
    cases hq : x.op.dst with
    | none => rfl
    | some d' =>
      show (a.tmps.setIfInBounds d' u)[d]? = _
      exact Array.getElem?_setIfInBounds_ne (fun e => hd (by rw [hq, e]))
  have noj : ∀ (j : Nat) (r : RO), rs[j]? = some r → r.no = x.no → j = p := fun j r hj hn => by
    apply Classical.byContradiction
    intro hne
    exact no_ne C.text hne hj hx hn
  refine ⟨?_, ?_, fun d z hz hno => ?_, fun j r d z hj hd hLr hz => ?_⟩
  · cases x.op.dst with
    | none => exact N.size
    | some d => show (a.tmps.setIfInBounds d u).size = _; rw [Array.size_setIfInBounds]; exact N.size
  · cases x.op.dst with
    | none => exact N.defers
    | some d => exact N.defers
  · have hd : x.op.dst ≠ some d := fun hd => hno p x hx hd (.inr rfl)
    rw [other d hd] at hz
    exact (N.old d z hz fun j r hj hdj hLr => hno j r hj hdj (.inl hLr)).mono e
  · by_cases hjp : j = p
    · subst hjp
      rw [hx] at hj; cases hj
      rw [hd] at hz
      change (a.tmps.setIfInBounds d u)[d]? = some z at hz
      rw [Array.getElem?_setIfInBounds_self] at hz
      split at hz
      · cases hz; exact hv
      · cases hz
    · have hne : x.op.dst ≠ some d := dst_ne C.text hjp hj hx hd
      rw [other d hne] at hz
      rcases hLr with hLr | hLr
      · exact (N.new j r d z hj hd hLr hz).mono e
      · exact absurd (noj j r hj hLr) hjp

end Inv
end Go.AM

namespace Go.AM

variable {Ψ : Base → Prop} {P : Program} {T : Tab} {rc : Ev} {c0 : Nat} {ops : Array Oper} {rs : List RO} {F : Nat → Fr} {H : Nat → Mem} {V : Nat → Value} {B B' : Base} {I0 I J : Inj} {L : Nat → Prop} {m : Nat} {a : Act} {w : World}

theorem Early.refl {S : Nat → Prop} (hs : ∀ j, ¬ S j) : Early B B H S I :=
  ⟨⟨rfl, rfl, rfl, rfl⟩, fun _ => .inr rfl, fun _ => .inr rfl, fun j hj => absurd hj (hs j), fun j _ _ _ _ hj => absurd hj (hs j)⟩

theorem effect_of_new {x : A} (h : isNew x = true) : effect x = true := by cases x <;> simp [isNew] at h <;> rfl

/-- The same place, the same memory: an operation that has changed neither. -/
theorem Inv.keep (C : Ctx Ψ P T rc c0 ops rs F H V B) (N : Inv P ops rs F H V B I0 L m B' I a w) {p : Nat} {x : RO} (hx : rs[p]? = some x) (hm : p ≠ m) (hcl : Closed ops fun i => L i ∨ i = x.no)
    (hns : isNew x.op.op = true → wantedA (F p) x.op.guard = true → False) {lo : Nat} (hlo : (H 0).next ≤ lo) (e : Ext lo I J) {u : Value} (hv : RV J (V p) u) {w' : World} (R : RW B' J (H m) w') :
    Inv P ops rs F H V B I0 (fun i => L i ∨ i = x.no) m B' J (a.put x.op.dst u) w' := by
  obtain ⟨s1, s2, s3, s4⟩ := N.slots C hx e hv
  refine ⟨hcl, fun j r hj hr he => .inl (N.before j r hj hr he), fun r hr => ⟨(N.front r hr).1, fun h => ?_⟩, N.le, R, (N.E.mono e).congr fun j => ⟨fun hj => ?_, fun hj => ?_⟩, N.ext.trans e hlo, s1, s3, s4, s2⟩
  · rcases h with h | h
    · exact (N.front r hr).2 h
    · exact no_ne C.text (Ne.symm hm) hr hx h
  · obtain ⟨h1, r, h2, h3, h4, h5⟩ := hj
    refine ⟨h1, r, h2, h3, ?_, h5⟩
    rcases h4 with h4 | h4
    · exact h4
    · have : j = p := by
        apply Classical.byContradiction
        intro hne
        exact no_ne C.text hne h2 hx h4
      subst this
      rw [hx] at h2; cases h2
      exact (hns h3 h5).elim
  · obtain ⟨h1, r, h2, h3, h4, h5⟩ := hj
    exact ⟨h1, r, h2, h3, .inl h4, h5⟩

theorem Inv.load (C : Ctx Ψ P T rc c0 ops rs F H V B) (N : Inv P ops rs F H V B I0 L m B' I a w) {p : Nat} {x : RO} (hx : rs[p]? = some x) (hL : ¬ L x.no) (he : effect x.op.op = false)
    {y : Operand} (hl : loadsAt x.op.op = some y) {i off : Nat} {r : Row} (hev : ev (F p) y = .pointer (some ⟨i, off, none⟩)) (hi : (H p).get i = some r) : (H m).get i = some r := by
  obtain ⟨e, e1, e2, e3, e4⟩ := C.tr.watch p x y hx he hl
  have hy : ev (F e) y = ev (F p) y := by
    cases y with
    | tmp t =>
      show fget (F e) t = fget (F p) t
      rw [fget_eq, fget_eq, List.getD_eq_getElem?_getD, List.getD_eq_getElem?_getD]
      have key : ∀ d, p + d ≤ rs.length → (F (p + d))[t]? = (F p)[t]? := by
        intro d
        induction d with
        | zero => intro _; rfl
        | succ d ih =>
          intro hd
          have hj : rs[p + d]? = some rs[p + d] := List.getElem?_eq_getElem (by omega)
          rw [show p + (d + 1) = p + d + 1 by omega, (C.tr.step _ _ hj).2]
          have ih := ih (by omega)
          cases hq : rs[p + d].op.dst with
          | none => exact ih
          | some d' =>
            have hne : d' ≠ t := by
              by_cases hd0 : d = 0
              · have hj' : rs[p]? = some rs[p + d] := by rw [← hj, hd0, Nat.add_zero]
                rw [hx] at hj'
                simp only [Option.some.injEq] at hj'
                have hq' : x.op.dst = some d' := by rw [hj']; exact hq
                have hs := C.text.self p x hx
                unfold selfOk at hs
                rw [hq', hl] at hs
                intro e
                simp [e] at hs
              · exact ((pairAt C.text (by omega) hx hj).addr d' t hq hl).symm
            show (fset (F (p + d)) d' (V (p + d)))[t]? = _
            rw [fset_eq, List.getElem?_set_ne hne]
            exact ih
      have := key (e - p) (by omega)
      rw [show p + (e - p) = e by omega] at this
      rw [this]
    | const v => rfl
    | global g => rfl
    | func f => rfl
  unfold chkB at e3
  have e3 := and_left e3
  rw [hy, hev] at e3
  simp only at e3
  cases hg : (H e).get i with
  | none => rw [hg] at e3; cases e3
  | some r' =>
    rw [hg] at e3
    simp only at e3
    have hver : r'.ver < (H 0).clock := by rw [← C.clock]; simpa [Nat.blt_eq] using e3
    have hpe := C.grows (Nat.le_of_lt e1) e2
    have h0p := C.grows (Nat.zero_le p) (by omega)
    have hr' := hpe.rows i r' hg (Nat.lt_of_lt_of_le hver h0p.clock)
    rw [hi] at hr'; cases hr'
    have hme : m ≤ e := by
      rcases Nat.lt_or_ge e m with hlt | hge
      · have hle := N.le
        have hre : rs[e]? = some rs[e] := List.getElem?_eq_getElem (by omega)
        obtain ⟨q1, q2⟩ := e4 _ hre
        exact absurd (N.mask C hre (N.before e _ hlt hre q1) q2) hL
      · exact hge
    have hmg := C.grows hme e2
    have h0m := C.grows (Nat.zero_le m) N.le
    exact hmg.rows i r hg (Nat.lt_of_lt_of_le hver h0m.clock)

end Go.AM

namespace Go.AM

variable {Ψ : Base → Prop} {P : Program} {T : Tab} {rc : Ev} {c0 : Nat} {ops : Array Oper} {rs : List RO} {F : Nat → Fr} {H : Nat → Mem} {V : Nat → Value} {B B' : Base} {I0 I J : Inj} {L : Nat → Prop} {m : Nat} {a : Act} {w : World}

theorem Free.same (B : Base) (h : Mem) : Free B h h := fun i h1 h2 => absurd h2 (by omega)

theorem step_any (C : Ctx Ψ P T rc c0 ops rs F H V B) (N : Inv P ops rs F H V B I0 L m B' I a w) {i : Nat} {o : Oper} (hi : ops[i]? = some o) (hLi : ¬ L i) (hed : ∀ e ∈ edgesOf o, L e)
    {K : Act → World → Prop} {Q : Exit → Act → World → Prop} (hK : ∀ m' B'' J a' w', Inv P ops rs F H V B I0 (fun j => L j ∨ j = i) m' B'' J a' w' → K a' w') : wpOp P ops Q i K a w := by
  have hlt : i < ops.size := (Array.getElem?_eq_some_iff.1 hi).1
  obtain ⟨p, x, hx, rfl⟩ := C.text.all i hlt
  obtain ⟨o', ho', hc, hlo, hma⟩ := C.text.of p x hx
  rw [hi] at ho'; cases ho'
  obtain ⟨c1, c2, c3, c4⟩ := compAO_some hc
  have hp := lt_of_some hx
  have hr : ∀ k, x.mask.testBit k = true → L k := by
    intro k hk
    rw [hma] at hk
    have hlm : x.no < (masksOf ops.toList []).length := by rw [masksOf_length]; simpa using hlt
    obtain ⟨e, he, h1⟩ := masks_ok ops x.no o (by simpa using hi) hlm k hk
    rcases h1 with h1 | ⟨h1, h2⟩
    · rw [h1]; exact hed e he
    · have hoe : ∃ oe, ops[e]? = some oe := ⟨ops[e]'(by omega), Array.getElem?_eq_getElem (by omega)⟩
      obtain ⟨oe, hoe⟩ := hoe
      exact N.closed.mask e oe hoe (hed e he) k h2
  have hcl : Closed ops fun j => L j ∨ j = x.no := by
    intro j oj hj hLj e he
    rcases hLj with hLj | hLj
    · exact .inl (N.closed j oj hj hLj e he)
    · rw [hLj, hi] at hj; cases hj
      exact .inl (hed e he)
  have hρ : ∀ y ∈ o.op.operands.toList, RV I (ev (F p) y) (a.eval y) := fun y hy => N.opd C hx hLi hr hlo hy (c1 y hy)
  have h0m : (H 0).next ≤ (H m).next := (C.grows (Nat.zero_le m) N.le).next
  have hgl : Ψ B' := N.E.asks C.hK C.hB
  unfold wpOp
  simp only [hi]
  rw [N.want C hx hLi hr hlo c3]
  have hd := (C.tr.step p x hx).1
  cases he : effect x.op.op with
  | false =>
    have hpm : p ≠ m := fun e => by
      subst e
      have := (N.front x hx).1
      rw [he] at this; cases this
    have hns : isNew x.op.op = true → wantedA (F p) x.op.guard = true → False := fun hn _ => by rw [effect_of_new hn] at he; cases he
    cases hd with
    | run hw ho =>
      rw [hw, if_pos rfl]
      refine .inl ?_
      cases ho with
      | call hcr _ => exact (op_nocall he hcr).elim
      | val hv =>
        have hval : aop x.op.op P c0 (ev (F p)) (H m) = some (.val (V p) (H m)) := by
          cases hl : loadsAt x.op.op with
          | some y =>
            obtain ⟨_, i, off, r, h1, h2, h3⟩ := op_load hl hv
            exact h3 _ (N.load C hx hLi he hl h1 h2)
          | none =>
            have hch : ∀ xs, x.op.op ≠ .chk xs := by
              intro xs e
              unfold compOp at c2
              rw [e] at c2
              cases hoo : o.op <;> rw [hoo] at c2 <;> simp only at c2
              all_goals
                try simp only [cond_eq_ite] at c2
                repeat' (split at c2)
                all_goals (cases c2; done)
            exact (op_pure he hl hch hv).2 _
        unfold Oper.wp
        rcases op_sound (ρ := a.eval) (fun _ => rfl) c2 hρ N.R hval (Free.same _ _) with ⟨u, w', h1, J, h2, h3, h4⟩ | ⟨w', h1, J, h2, h3, h4⟩
        · rw [h1, Oper.upon_value, ← c4]
          exact hK m B' J _ _ (N.keep C hx hpm hcl hns h0m h2 h3 h4)
        · rw [h1, Oper.upon_skip, ← c4]
          exact hK m B' J _ _ (N.keep C hx hpm hcl hns h0m h2 h3 h4)
    | skip hw hv hh =>
      rw [hw, if_neg (by decide), ← c4]
      exact hK m B' I _ _ (N.keep C hx hpm hcl hns h0m (.refl _ I) (by rw [hv]; exact .undef I) N.R)
  | true =>
    by_cases hpm : p = m
    · -- the first effect
      subst hpm
      have go : ∀ (J : Inj) (u : Value) (w' : World), Ext (H p).next I J → RV J (V p) u → RW B' J (H (p + 1)) w' → K (a.put x.op.dst u) w' := by
        intro J u w' e hv R'
        have noj : ∀ j r, rs[j]? = some r → r.no = x.no → j = p := fun j r hj hn => by
          apply Classical.byContradiction
          intro hne
          exact no_ne C.text hne hj hx hn
        have hE : Early B B' H (Soon rs F (fun j => L j ∨ j = x.no) (p + 1)) J := by
          refine (N.E.mono e).congr fun j => ⟨fun hj => ?_, fun hj => ?_⟩
          · obtain ⟨h1, r, h2, h3, h4, h5⟩ := hj
            refine ⟨by omega, r, h2, h3, ?_, h5⟩
            rcases h4 with h4 | h4
            · exact h4
            · have := noj j r h2 h4; omega
          · obtain ⟨h1, r, h2, h3, h4, h5⟩ := hj
            have hjp : j ≠ p := fun e => by
              subst e
              rw [hx] at h2; cases h2
              exact hLi h4
            exact ⟨by omega, r, h2, h3, .inl h4, h5⟩
        obtain ⟨m2, B2, m1, m2', m3, m4, m5, m6⟩ := C.advance (rs.length - (p + 1)) (p + 1) B' (by omega)
          (fun j r hj hjr hef => by
            rcases Nat.lt_or_ge j p with hl | hl
            · exact .inl (N.before j r hl hjr hef)
            · have : j = p := by omega
              subst this
              rw [hx] at hjr; cases hjr
              exact .inr rfl)
          (fun j r hj hjr hef hLr => by
            rcases hLr with hLr | hLr
            · exact N.late C hjr (by omega) hef hLr
            · have := noj j r hjr hLr; omega) R' hE
        obtain ⟨s1, s2, s3, s4⟩ := N.slots C hx e hv
        exact hK m2 B2 J _ _ ⟨hcl, m3, m4, m2', m5, m6, N.ext.trans e h0m, s1, s3, s4, s2⟩
      cases hd with
      | run hw ho =>
        rw [hw, if_pos rfl]
        refine .inl (one_sound C.hC c2 hρ hgl N.R ho ?_ fun u w' hp => ?_)
        · intro i h1 h2
          rcases N.E.later i with ⟨j, hj, rfl⟩ | h3
          · have hjl := (C.soon_next hj).1
            have hjp : j ≠ p := fun e => by
              subst e
              obtain ⟨_, r, h2', _, h4, _⟩ := hj
              rw [hx] at h2'; cases h2'
              exact hLi h4
            have := (C.grows (j := p + 1) (k := j) (by have := hj.1; omega) (by omega)).next
            omega
          · rw [h3]; exact C.free_at hp h1 h2
        · obtain ⟨J, e, hv, R'⟩ := hp
          rw [← c4]
          exact go J u w' e hv R'
      | skip hw hv hh =>
        rw [hw, if_neg (by decide), ← c4]
        exact go I undef w (.refl _ I) (by rw [hv]; exact .undef I) (by rw [hh]; exact N.R)
    · -- a new row ahead
      have hmp : m < p := by
        rcases Nat.lt_or_gt_of_ne hpm with h1 | h1
        · exact absurd (N.before p x h1 hx he) hLi
        · exact h1
      have hn : isNew x.op.op = true := by
        have hmk : rs[m]? = some rs[m] := List.getElem?_eq_getElem (by omega)
        obtain ⟨f1, f2⟩ := N.front _ hmk
        cases hn : isNew x.op.op with
        | true => rfl
        | false => exact absurd (hr _ ((pairAt C.text hmp hmk hx).effects f1 he hn)) f2
      cases hd with
      | skip hw hv hh =>
        rw [hw, if_neg (by decide), ← c4]
        exact hK m B' I _ _ (N.keep C hx hpm hcl (fun _ h => by rw [hw] at h; cases h) h0m (.refl _ I) (by rw [hv]; exact .undef I) N.R)
      | run hw ho =>
        rw [hw, if_pos rfl]
        refine .inl ?_
        obtain ⟨cs, e, f, hk, hV, hnew⟩ := C.new hx hn hw
        obtain ⟨q1, q2, q3, q4⟩ := Mem.new_some hnew
        have hmpg := C.grows (Nat.le_of_lt hmp) (Nat.le_of_lt hp)
        let hs : Mem := ⟨(H m).tab, (H p).next, (H m).clock⟩
        have Rs : RW B' I hs w := ⟨N.R.rows, N.R.inj, fun i hi => N.R.fresh i (Nat.le_trans hmpg.next hi), fun i hi => N.R.gone i (Nat.le_trans hmpg.next hi), N.R.vers, N.R.cellok, N.R.snap, N.R.rest, N.R.globs⟩
        have hsn : ∃ h2, hs.new cs e = some h2 := by
          unfold Mem.new
          have : Nat.blt hs.next (2 ^ 40) = true := by
            show Nat.blt (H p).next (2 ^ 40) = true
            rw [Nat.blt_eq]; exact q1
          rw [this]
          exact ⟨_, rfl⟩
        obtain ⟨h2, hsn⟩ := hsn
        obtain ⟨_, t2, t3, t4⟩ := Mem.new_some hsn
        have hval : aop x.op.op P c0 (ev (F p)) hs = some (.val (V p) h2) := by
          rw [hk]
          unfold mkRow
          rw [hsn, hV]
        have hsoon : Soon rs F (fun j => L j ∨ j = x.no) m p := ⟨Nat.le_of_lt hmp, x, hx, hn, .inr rfl, hw⟩
        have hneq : ∀ j, Soon rs F L m j → (H j).next ≠ (H p).next := fun j hj => by
          refine C.soon_ne hj hsoon fun e => ?_
          subst e
          obtain ⟨_, r, h2', _, h4, _⟩ := hj
          rw [hx] at h2'; cases h2'
          exact hLi h4
        have hfree : Free B' hs h2 := by
          intro i h1 h2'
          have hip : i = (H p).next := by
            have e1 : hs.next = (H p).next := rfl
            omega
          rcases N.E.later i with ⟨j, hj, hj'⟩ | h3
          · exact absurd (hj'.symm.trans hip) (hneq j hj)
          · rw [h3]; exact C.free_at hp (by omega) (by omega)
        have fin : ∀ (u : Value) (w' : World), Post B' I hs.next (V p) h2 u w' → K (a.put x.op.dst u) w' := by
          intro u w' hpost
          obtain ⟨J, e', hv, R2⟩ := hpost
          have hget : ∀ j, h2.get j = if j = (H p).next then some ⟨cs, e, (H m).clock⟩ else (H m).get j := t4
          obtain ⟨b, n, arr, k1, k2, k3, k4, k5, k6⟩ := R2.stash (h := H m) (id := (H p).next) (r := ⟨cs, e, (H m).clock⟩) t2 hmpg.next hget N.R.gone N.R.vers
            (fun i h1 h2' => by rw [e'.low i h2']; exact N.R.fresh i h1)
          have E2 := (N.E.mono e').stash (p := p) (r := ⟨cs, e, (H p).clock⟩) (b := b) (n := n) (arr := arr) hneq (by rw [q4, if_pos rfl]) k4 k2 k3 k5
          obtain ⟨s1, s2, s3, s4⟩ := N.slots C hx e' hv
          refine hK m _ J _ _ ⟨hcl, fun j r hj hjr hef => .inl (N.before j r hj hjr hef), fun r hr' => ⟨(N.front r hr').1, fun h => ?_⟩, N.le, k6, E2.congr fun j => ⟨fun hj => ?_, fun hj => ?_⟩, N.ext.trans e' (Nat.le_trans h0m hmpg.next), s1, s3, s4, s2⟩
          · rcases h with h | h
            · exact (N.front r hr').2 h
            · exact no_ne C.text (Ne.symm hpm) hr' hx h
          · obtain ⟨h1, r, h2', h3, h4, h5⟩ := hj
            rcases h4 with h4 | h4
            · exact .inl ⟨h1, r, h2', h3, h4, h5⟩
            · refine .inr ?_
              apply Classical.byContradiction
              intro hne
              exact no_ne C.text hne h2' hx h4
          · rcases hj with ⟨h1, r, h2', h3, h4, h5⟩ | rfl
            · exact ⟨h1, r, h2', h3, .inl h4, h5⟩
            · exact hsoon
        unfold Oper.wp
        rcases op_sound (ρ := a.eval) (fun _ => rfl) c2 hρ Rs hval hfree with ⟨u, w', h1, hpost⟩ | ⟨w', h1, hpost⟩
        · rw [h1, Oper.upon_value, ← c4]
          exact fin u w' hpost
        · rw [h1, Oper.upon_skip, ← c4]
          exact fin undef w' hpost

/-- All of them are done. -/
theorem Inv.end (C : Ctx Ψ P T rc c0 ops rs F H V B) (N : Inv P ops rs F H V B I0 L m B' I a w) (hall : ∀ i, i < ops.size → L i) : RA I (F rs.length) a ∧ RW B I (H rs.length) w := by
  have hno : ∀ (p : Nat) (x : RO), rs[p]? = some x → L x.no := fun p x hx => by
    obtain ⟨o, ho, _⟩ := C.text.of p x hx
    exact hall _ (Array.getElem?_eq_some_iff.1 ho).1
  have hm : m = rs.length := by
    apply Classical.byContradiction
    intro hne
    have hle := N.le
    have hmk : rs[m]? = some rs[m] := List.getElem?_eq_getElem (by omega)
    exact (N.front _ hmk).2 (hno m _ hmk)
  have hB := N.E.none fun j hj => by
    have := (C.soon_next hj).1
    have := hj.1
    omega
  have hR := N.R
  rw [hm, hB] at hR
  refine ⟨⟨RL.of_get ?_ fun t v u hv hu => ?_, N.defers⟩, hR⟩
  · rw [C.tr.len _ (Nat.le_refl _), ← N.size]; simp
  · rw [Array.getElem?_toList] at hu
    have hsF : t < (F 0).length := by
      rw [← C.tr.len _ (Nat.le_refl _)]
      exact lt_of_some hv
    by_cases hw : ∃ (j : Nat) (r : RO), rs[j]? = some r ∧ r.op.dst = some t
    · obtain ⟨j, r, hj, hd⟩ := hw
      have hjl := lt_of_some hj
      have := C.tr.slot_new C.text.pair hsF hj hd (rs.length - (j + 1)) (by omega)
      rw [show j + 1 + (rs.length - (j + 1)) = rs.length by omega, hv] at this
      cases this
      exact N.new j r t u hj hd (hno j r hj) hu
    · have := C.tr.slot_old t rs.length (Nat.le_refl _) fun i s _ hs' hd => hw ⟨i, s, hs', hd⟩
      rw [hv] at this
      have h0 := N.old t u hu fun j r hj hd => absurd ⟨j, r, hj, hd⟩ hw
      rw [List.getD_eq_getElem?_getD, ← this] at h0
      exact h0

/-! ### The listed ones -/

def done (listed : Array Bool) (i : Nat) : Prop := listed.getD i false = true

theorem done_set {listed : Array Bool} {i : Nat} (hi : i < listed.size) : done (listed.setIfInBounds i true) = fun j => done listed j ∨ j = i := by
  funext j
  apply propext
  unfold done
  by_cases hij : j = i
  · subst hij
    simp [hi]
  · rw [getD_set_ne false (Ne.symm hij)]
    simp [hij]

def left (n : Nat) (listed : Array Bool) : Nat := ((List.range n).filter fun i => !listed.getD i false).length

theorem filter_lt {α : Type} {p q : α → Bool} (hpq : ∀ x, q x = true → p x = true) : ∀ {l : List α} {x : α}, x ∈ l → p x = true → q x = false → (l.filter q).length < (l.filter p).length
  | [], x, hx, _, _ => by simp at hx
  | y :: l, x, hx, h1, h2 => by
    have hle : ∀ l : List α, (l.filter q).length ≤ (l.filter p).length := by
      intro l
      induction l with
      | nil => simp
      | cons z l ih =>
        simp only [List.filter_cons]
        cases hq : q z with
        | true => rw [hpq z hq]; simp; exact ih
        | false => cases p z <;> simp <;> omega
    simp only [List.filter_cons]
    rcases List.mem_cons.1 hx with rfl | hx
    · rw [h1, h2]
      have := hle l
      simp; omega
    · have ih := filter_lt hpq hx h1 h2
      cases hq : q y with
      | true => rw [hpq y hq]; simp; exact ih
      | false => cases p y <;> simp <;> omega

theorem left_set {n : Nat} {listed : Array Bool} {i : Nat} (hn : listed.size = n) (hi : i < n) (hu : ¬ done listed i) : left n (listed.setIfInBounds i true) < left n listed := by
  unfold left
  have hu' : listed.getD i false = false := by
    unfold done at hu
    simpa using hu
  have hset := done_set (listed := listed) (i := i) (by omega)
  refine filter_lt (x := i) (fun j hj => ?_) (List.mem_range.2 hi) (by rw [hu']; rfl) ?_
  · cases hd : listed.getD j false with
    | false => rfl
    | true =>
      have : done (listed.setIfInBounds i true) j := by rw [hset]; exact .inl hd
      unfold done at this
      rw [this] at hj; cases hj
  · have : done (listed.setIfInBounds i true) i := by rw [hset]; exact .inr rfl
    unfold done at this
    rw [this]; rfl

theorem left_pos {n : Nat} {listed : Array Bool} {i : Nat} (hi : i < n) (hu : ¬ done listed i) : 0 < left n listed := by
  unfold left
  have hu' : listed.getD i false = false := by
    unfold done at hu
    simpa using hu
  exact List.length_pos_of_mem (List.mem_filter.2 ⟨List.mem_range.2 hi, by rw [hu']; rfl⟩)

theorem ready_none (X : Text P ops rs) {listed : Array Bool} (hsz : listed.size = ops.size) (hr : Region.ready .any ops listed = []) : ∀ i, i < ops.size → done listed i := by
  intro i
  induction i using Nat.strongRecOn with
  | _ i ih =>
    intro hi
    apply Classical.byContradiction
    intro hu
    have ho : ops[i]? = some ops[i] := Array.getElem?_eq_getElem hi
    have : i ∈ Region.ready .any ops listed := by
      rw [mem_ready]
      refine ⟨?_, ops[i], ho, fun e he hb => ?_⟩
      · unfold done at hu
        have h2 : i < listed.size := by omega
        simp only [Array.getD_eq_getD_getElem?, Array.getElem?_eq_getElem h2, Option.getD_some] at hu ⊢
        simpa using hu
      · have hlt := X.back i _ ho e.on (List.mem_map.2 ⟨e, List.mem_filter.2 ⟨by simpa using he, hb⟩, rfl⟩)
        exact ih e.on hlt (by omega)
    rw [hr] at this
    simp at this

theorem any_sound (C : Ctx Ψ P T rc c0 ops rs F H V B) {Q : Exit → Act → World → Prop} (hQ : ∀ J a w, Ext (H 0).next I0 J → RA J (F rs.length) a → RW B J (H rs.length) w → Q .normal a w) :
    ∀ (fuel : Nat) (listed : Array Bool) (m : Nat) (B' : Base) (I : Inj) (a : Act) (w : World), listed.size = ops.size → left ops.size listed ≤ fuel → Inv P ops rs F H V B I0 (done listed) m B' I a w →
      wpAny P .any ops Q fuel listed a w
  | 0, listed, m, B', I, a, w, hsz, hf, N => by
    have hall : ∀ i, i < ops.size → done listed i := fun i hi => by
      apply Classical.byContradiction
      intro hu
      have := left_pos hi hu
      omega
    obtain ⟨h1, h2⟩ := N.end C hall
    refine ⟨?_, hQ I a w N.ext h1 h2⟩
    rw [List.eq_nil_iff_forall_not_mem]
    intro j hj
    obtain ⟨h3, o, h4, _⟩ := mem_ready.1 hj
    have hjs := (Array.getElem?_eq_some_iff.1 h4).1
    have h5 := hall j hjs
    unfold done at h5
    have h6 : j < listed.size := by omega
    simp only [Array.getD_eq_getD_getElem?, Array.getElem?_eq_getElem h6, Option.getD_some] at h3 h5
    rw [h3] at h5; cases h5
  | fuel + 1, listed, m, B', I, a, w, hsz, hf, N => by
    refine ⟨fun hr => ?_, fun i hi => ?_⟩
    · obtain ⟨h1, h2⟩ := N.end C (ready_none C.text hsz hr)
      exact hQ I a w N.ext h1 h2
    · obtain ⟨h3, o, h4, h5⟩ := mem_ready.1 hi
      have his := (Array.getElem?_eq_some_iff.1 h4).1
      have h6 : i < listed.size := by omega
      have hu : ¬ done listed i := by
        unfold done
        simp only [Array.getD_eq_getD_getElem?, Array.getElem?_eq_getElem h6, Option.getD_some] at h3 ⊢
        rw [h3]; simp
      refine step_any C N h4 hu (fun e he => ?_) fun m' B'' J a' w' N' => ?_
      · obtain ⟨ed, he1, rfl⟩ := List.mem_map.1 he
        obtain ⟨he2, he3⟩ := List.mem_filter.1 he1
        exact h5 ed (by simpa using he2) he3
      · rw [← done_set h6] at N'
        exact any_sound C hQ fuel _ m' B'' J a' w' (by simpa using hsz) (by have := left_set hsz his hu; omega) N'

/-- A region that draws its order. -/
theorem draw_sound (hm : P.follows .mixedOrders = true) (hS : StubGrows T) (hE : EvGrows rc) (hC : CallOK Ψ P T rc) (hK : Asks Ψ) (hB : Ψ B) {id : Nat} {c : AC} (hc : compRegion P ops true = some c) {fr fr' : Fr} {h h' : Mem} {e : AE}
    (hr : stepD c P T rc fr h = some (e, fr', h')) (ra : RA I fr a) (R : RW B I h w) (hf : Free B h h') : (Code.region id ops true).wp P (Ends B I h.next e fr' h') a w := by
  obtain ⟨rs, rfl, X⟩ := text_of hc
  obtain ⟨F, H, V, rfl, rfl, rfl, rfl, rfl, tr, _⟩ := trace rs [] hr
  have C : Ctx Ψ P T rc (H 0).clock ops rs F H V B := ⟨X, tr, hS, hE, hC, hK, hB, hf, rfl⟩
  refine wp_region_any hm ?_
  have hd0 : ∀ i, ¬ done (Array.replicate ops.size false) i := fun i hi => by
    unfold done at hi
    rw [Array.getD_eq_getD_getElem?, Array.getElem?_replicate] at hi
    split at hi <;> cases hi
  obtain ⟨m, B', _, m2, m3, m4, m5, m6⟩ := C.advance (L := done (Array.replicate ops.size false)) rs.length 0 B (by omega) (fun j r hj => by omega) (fun j r _ _ _ hL => absurd hL (hd0 _)) R.drew
    (Early.refl fun j hj => by obtain ⟨_, r, _, _, hL, _⟩ := hj; exact hd0 _ hL)
  refine any_sound (I0 := I) C (fun J a w h1 h2 h3 => ⟨rfl, J, h1, h2, h3⟩) ops.size _ m B' I a _ (by simp) ?_ ⟨fun j o _ hL => absurd hL (hd0 _), m3, m4, m2, m5, m6, .refl _ I, ?_, fun d u hu _ => ?_, fun j r d u _ _ hL => absurd hL (hd0 _), ra.2⟩
  · unfold left
    exact Nat.le_trans (List.length_filter_le _ _) (by simp)
  · rw [ra.1.length_eq]; simp
  · have := ra.1.getD d
    rw [List.getD_eq_getElem?_getD (l := a.tmps.toList), Array.getElem?_toList, hu] at this
    exact this

end Go.AM

namespace Go.AM

variable {Ψ : Base → Prop} {P : Program} {T : Tab} {B : Base} {I J : Inj} {h h' : Mem} {w : World} {fr fr' : Fr} {v : Value} {a : Act}

def EvOK (Ψ : Base → Prop) (P : Program) (rc : Ev) : Prop := ∀ c code fr h e fr' h', comp P code = some c → rc c fr h = some (e, fr', h') →
  ∀ B I a w, Ψ B → RA I fr a → RW B I h w → Free B h h' → code.wp P (Ends B I h.next e fr' h') a w

/-! ### What a function hands back -/

/-- What the model hands back of one of them. -/
def getR (a : Act) : ResultVar → Sem Value
  | .tmp t => pure (a.tmps.getD t undef)
  | .cell x t => do loadVar t (← asAddr (a.tmps.getD x undef))

theorem resultOf_ok (hT : TabOK Ψ P T) (ra : RA I fr a) (R : RW B I h w) {r : ResultVar} (hr : resultOf T fr h r = some v) :
    ∃ u, (getR a r).run P w = .ok u w ∧ RV I v u := by
  have slot : ∀ t, RV I (fget fr t) (a.tmps.getD t undef) := fun t => by
    rw [fget_eq]
    have := ra.1.getD t
    have e : a.tmps.toList.getD t undef = a.tmps.getD t undef := by
      rw [List.getD_eq_getElem?_getD, Array.getElem?_toList, Array.getD_eq_getD_getElem?]
    rwa [e] at this
  cases r with
  | tmp t => cases hr; exact ⟨_, rfl, slot t⟩
  | cell x t =>
    simp only [resultOf] at hr
    split at hr
    · rename_i i off e
      have hs := slot x
      rw [e] at hs
      obtain ⟨b, n, hI, hq⟩ := hs.ptr_inv
      cases hag : T.agg t with
      | none => rw [hag] at hr; cases hr
      | some k =>
        obtain ⟨ti, hti, hk⟩ := hT.agg t k hag
        have X := told hti
        cases hg : ti.agg with
        | false =>
          rw [hg] at hk
          simp only [Bool.false_eq_true, if_false] at hk
          subst hk
          rw [hag] at hr
          simp only at hr
          cases hi : h.get i with
          | none => rw [hi] at hr; cases hr
          | some s =>
            rw [hi] at hr
            simp only at hr
            obtain ⟨y, h1, h2⟩ := load_one (P := P) X hg R hi hI hr
            exact ⟨y, by simp [getR, hq, asAddr, h1], h2⟩
        | true =>
          rw [hg] at hk
          simp only [if_true] at hk
          have hpos := X.pos
          rw [hag, hk] at hr
          cases hsz : ti.size with
          | zero => omega
          | succ q =>
            rw [hsz] at hr
            simp only at hr
            cases hc : cellsAt h i off (q + 1) with
            | none => rw [hc] at hr; cases hr
            | some l =>
              rw [hc] at hr; cases hr
              obtain ⟨y, h1, h2⟩ := load_many (P := P) X hg R (by rw [hsz]; exact hc) hI
              exact ⟨y, by simp [getR, hq, asAddr, h1], h2⟩
    · cases hr

theorem resultsOf_ok (hT : TabOK Ψ P T) (ra : RA I fr a) (R : RW B I h w) : ∀ (rs : List ResultVar) (vs : List Value), resultsOf T fr h rs = some vs →
    ∃ us, (rs.mapM (getR a)).run P w = .ok us w ∧ RL I vs us
  | [], vs, hr => by cases hr; exact ⟨[], rfl, .nil⟩
  | r :: rs, vs, hr => by
    simp only [resultsOf] at hr
    cases h1 : resultOf T fr h r with
    | none => rw [h1] at hr; cases hr
    | some v =>
      cases h2 : resultsOf T fr h rs with
      | none => rw [h1, h2] at hr; cases hr
      | some vs' =>
        rw [h1, h2] at hr; cases hr
        obtain ⟨u, e1, e2⟩ := resultOf_ok hT ra R h1
        obtain ⟨us, e3, e4⟩ := resultsOf_ok hT ra R rs vs' h2
        refine ⟨u :: us, ?_, .cons e2 e4⟩
        rw [List.mapM_cons]
        simp only [Sem.run_bind, Sem.run_pure]
        rw [e1]
        simp only [Result.andThen_ok, e3]

theorem leave_ok (hT : TabOK Ψ P T) (ra : RA I fr a) (R : RW B I h w) {fn : Func} {h1 : Mem} (hl : leave T fn.results.toList fr h = some (v, h1)) :
    h1 = h ∧ ∃ u, (results fn a.tmps).run P w = .ok u w ∧ RV I v u := by
  unfold leave at hl
  cases hr : resultsOf T fr h fn.results.toList with
  | none => rw [hr] at hl; cases hl
  | some vs =>
    rw [hr] at hl
    simp only [Option.some.injEq, Prod.mk.injEq] at hl
    obtain ⟨rfl, rfl⟩ := hl
    refine ⟨rfl, ?_⟩
    obtain ⟨us, e1, e2⟩ := resultsOf_ok hT ra R _ _ hr
    have hres : results fn a.tmps = (do
        let vs ← fn.results.mapM (getR a)
        pure (if h : vs.size = 1 then vs[0] else .tuple vs)) := by
      unfold results
      congr 2
    rw [hres]
    simp only [Array.mapM_eq_mapM_toList, Sem.run_bind, Sem.run_map, e1, Result.andThen_ok]
    cases e2 with
    | nil => exact ⟨_, rfl, .tuple .nil⟩
    | cons x t =>
      cases t with
      | nil => exact ⟨_, rfl, x⟩
      | cons y t => exact ⟨_, rfl, .tuple (.cons x (.cons y t))⟩

/-! ### Code -/

theorem least {p : Nat → Prop} : ∀ n, p n → ∃ k, p k ∧ ∀ m, p m → k ≤ m := by
  intro n
  induction n using Nat.strongRecOn with
  | _ n ih =>
    intro hn
    by_cases hx : ∃ m, m < n ∧ p m
    · obtain ⟨m, h1, h2⟩ := hx
      exact ih m h1 h2
    · exact ⟨n, hn, fun m hm => by
        rcases Nat.lt_or_ge m n with h1 | h1
        · exact absurd ⟨m, h1, hm⟩ hx
        · exact h1⟩

theorem loop_wp {c : Code} {Q : Exit → Act → World → Prop} (G : Nat → Act → World → Prop) (hG : ∀ n a w, G n a w → c.wp P (Exit.then (fun a' w' => ∃ m, m < n ∧ G m a' w') Q) a w) {n : Nat} {a : Act} {w : World} (h : G n a w) :
    (Code.loop c).wp P Q a w := by
  classical
  have ex : ∀ a w, ∃ k, (∃ n, G n a w) → G k a w ∧ ∀ m, G m a w → k ≤ m := fun a w => by
    by_cases hx : ∃ n, G n a w
    · obtain ⟨n, hn⟩ := hx
      obtain ⟨k, h1, h2⟩ := least (p := fun n => G n a w) n hn
      exact ⟨k, fun _ => ⟨h1, h2⟩⟩
    · exact ⟨0, fun hy => absurd hy hx⟩
  let μ : Act → World → Nat := fun a w => Classical.choose (ex a w)
  have hμ : ∀ a w, (∃ n, G n a w) → G (μ a w) a w ∧ ∀ m, G m a w → μ a w ≤ m := fun a w => Classical.choose_spec (ex a w)
  refine wp_loop (fun a w => ∃ n, G n a w) μ ⟨n, h⟩ fun a w hI => ?_
  refine wp_mono (hG _ a w (hμ a w hI).1) fun e a' w' hq => ?_
  cases e with
  | normal =>
    obtain ⟨m, hlt, hg⟩ := hq
    exact ⟨⟨m, hg⟩, Nat.lt_of_le_of_lt ((hμ a' w' ⟨m, hg⟩).2 m hg) hlt⟩
  | _ => exact hq

theorem compRegion_still {ops : Array Oper} {c : AC} (hc : compRegion P ops false = some c) : ∃ as, compAOs P ops ops.toList = some as ∧ c = .region as := by
  unfold compRegion at hc
  cases has : compAOs P ops ops.toList with
  | none => rw [has] at hc; cases hc
  | some as => rw [has] at hc; cases hc; exact ⟨as, rfl, rfl⟩

/-- What a call's walk gives. -/
theorem call_ok (hT : TabOK Ψ P T) {rc : Ev} (hE : EvOK Ψ P rc) : CallOK Ψ P T rc := by
  intro f args h v h' hc
  unfold callWith at hc
  split at hc
  · rename_i r e
    cases hc
    exact hT.stub _ _ _ _ _ e
  · split at hc
    · rename_i n rs c e
      obtain ⟨fn, code, k1, k2, k3, k4, rfl, rfl⟩ := hT.fn _ _ _ _ e
      intro B I args' w hB ra R hf
      refine .inl ⟨Good.run ⟨fn, code, k1, k2, k3⟩ args' w, ?_⟩
      obtain ⟨ae, fr1, he⟩ := ended_grows hc
      refine calls_of_wp k1 k2 ?_
      have hlen := ra.length_eq
      have ra0 : RA I (args ++ List.replicate (fn.ntmps - args.length) undef) { tmps := args' ++ Array.replicate (fn.ntmps - args'.size) undef, defers := [] } := by
        refine ⟨?_, rfl⟩
        simp only [Array.toList_append, Array.toList_replicate]
        rw [hlen, Array.length_toList]
        exact ra.append (.replicate _ (.undef I))
      refine wp_mono (hE _ _ _ _ _ _ _ k4 he _ _ _ _ hB ra0 R hf) fun ex a' w' hx => ?_
      obtain ⟨rfl, J, e1, e2, e3⟩ := hx
      rw [he] at hc
      have fin : leave T fn.results.toList fr1 h' = some (v, h') → a'.defers = [] ∧ ∃ u, (results fn a'.tmps).run P w' = .ok u w' ∧ ∃ u', Ending.returned u = .returned u' ∧ Post B I h.next v h' u' w' := fun hl => by
        obtain ⟨_, u, h1, h2⟩ := leave_ok hT e2 e3 hl
        exact ⟨e2.2, u, h1, u, rfl, J, e1, h2, e3⟩
      cases ae with
      | normal => exact fin hc
      | ret => exact fin hc
      | exit id => cases hc
    · cases hc

theorem code_sound (hK : Asks Ψ) (hm : P.follows .mixedOrders = true) (hT : TabOK Ψ P T) : ∀ n, EvOK Ψ P (run P T n) := by
  intro n
  induction n using Nat.strongRecOn with
  | _ n ih =>
  intro c code fr h e fr' h' hc hr B I a w hB ra R hf
  cases n with
  | zero => rw [run_zero] at hr; cases hr
  | succ n =>
    have ihn := ih n (Nat.lt_succ_self n)
    have hg := run_grows (P := P) hT.grows n
    have hr0 := hr
    rw [run_succ] at hr
    cases code with
    | skip => cases hc; cases hr; exact wp_skip ⟨rfl, I, .refl _ I, ra, R⟩
    | region id ops draw =>
      cases draw with
      | true => 
        simp only [comp] at hc
        exact draw_sound hm hT.grows hg (call_ok hT ihn) hK hB hc hr ra R hf
      | false =>
        simp only [comp] at hc
        obtain ⟨as, h1, rfl⟩ := compRegion_still hc
        refine wp_region ?_
        rw [List.range_eq_range']
        have hl : ops.size = ops.toList.length := by simp
        rw [hl]
        exact region_sound hK hT.grows hg (call_ok hT ihn) hB ops.toList 0 as I fr h a w (fun j o hj => by simpa using hj) h1 hr ra R hf fun _ _ _ hx => hx
    | seq x y =>
      simp only [comp] at hc
      cases h1 : comp P x with
      | none => rw [h1] at hc; cases hc
      | some cx =>
        cases h2 : comp P y with
        | none => rw [h1, h2] at hc; cases hc
        | some cy =>
          rw [h1, h2] at hc; cases hc
          simp only [stepD, sSeq] at hr
          refine wp_seq ?_
          split at hr
          · rename_i fr1 k1 e1
            obtain ⟨f1, f2⟩ := hf.split (hg _ _ _ _ _ _ e1) (hg _ _ _ _ _ _ hr)
            refine wp_mono (ihn _ _ _ _ _ _ _ h1 e1 B I a w hB ra R f1) fun ex a1 w1 hx => ?_
            obtain ⟨rfl, J, x1, x2, x3⟩ := hx
            exact wp_mono (ihn _ _ _ _ _ _ _ h2 hr B J a1 w1 hB x2 x3 f2) fun ex a2 w2 hy => hy.mono x1 (hg _ _ _ _ _ _ e1).next
          · rename_i hne
            refine wp_mono (ihn _ _ _ _ _ _ _ h1 hr B I a w hB ra R hf) fun ex a1 w1 hx => ?_
            have h3 := hx.1
            subst h3
            cases e with
            | normal => exact absurd hr (hne _ _)
            | exit id => exact hx
            | ret => exact hx
    | cond q x y =>
      simp only [comp] at hc
      obtain ⟨hq, hc⟩ := of_cond hc
      cases h1 : comp P x with
      | none => rw [h1] at hc; cases hc
      | some cx =>
        cases h2 : comp P y with
        | none => rw [h1, h2] at hc; cases hc
        | some cy =>
          rw [h1, h2] at hc; cases hc
          simp only [stepD, sCond] at hr
          split at hr
          · rename_i t et
            have hv := ra.ev (R.glob2 (hK.globs _ hB)) hq
            rw [et] at hv
            have hv' : a.eval q = .bool t := by
              generalize a.eval q = z at hv
              cases hv; rfl
            refine wp_cond hv' ?_
            cases t with
            | true => exact ihn _ _ _ _ _ _ _ h1 hr B I a w hB ra R hf
            | false => exact ihn _ _ _ _ _ _ _ h2 hr B I a w hB ra R hf
          · cases hr
    | block id x =>
      simp only [comp] at hc
      cases h1 : comp P x with
      | none => rw [h1] at hc; cases hc
      | some cx =>
        rw [h1] at hc; cases hc
        simp only [stepD, sBlock] at hr
        refine wp_block ?_
        split at hr
        · rename_i j fr1 k1 e1
          have hk : fr1 = fr' ∧ k1 = h' := by cases hb : Nat.beq j id <;> rw [hb] at hr <;> cases hr <;> exact ⟨rfl, rfl⟩
          obtain ⟨rfl, rfl⟩ := hk
          refine wp_mono (ihn _ _ _ _ _ _ _ h1 e1 B I a w hB ra R hf) fun ex a1 w1 hx => ?_
          obtain ⟨rfl, J, x1, x2, x3⟩ := hx
          show (if j = id then _ else _)
          cases hb : Nat.beq j id with
          | true =>
            rw [hb] at hr; cases hr
            rw [if_pos (Nat.eq_of_beq_eq_true hb)]
            exact ⟨rfl, J, x1, x2, x3⟩
          | false =>
            rw [hb] at hr; cases hr
            rw [if_neg (fun e => by rw [e, Nat.beq_refl] at hb; cases hb)]
            exact ⟨rfl, J, x1, x2, x3⟩
        · rename_i hne
          refine wp_mono (ihn _ _ _ _ _ _ _ h1 hr B I a w hB ra R hf) fun ex a1 w1 hx => ?_
          have h3 := hx.1
          subst h3
          cases e with
          | normal => exact hx
          | exit j => exact absurd hr (hne _ _ _)
          | ret => exact hx
    | loop x =>
      simp only [comp] at hc
      cases h1 : comp P x with
      | none => rw [h1] at hc; cases hc
      | some cx =>
        rw [h1] at hc; cases hc
        let G : Nat → Act → World → Prop := fun k a1 w1 => k ≤ n + 1 ∧ ∃ J fr1 k1, Ext h.next I J ∧ Grows h k1 ∧ RA J fr1 a1 ∧ RW B J k1 w1 ∧ Free B k1 h' ∧ run P T k (.loop cx) fr1 k1 = some (e, fr', h')
        refine loop_wp G ?_ (n := n + 1) ⟨Nat.le_refl _, I, fr, h, .refl _ I, .refl h, ra, R, hf, hr0⟩
        rintro k a1 w1 ⟨hk, J, fr1, k1, g1, g2, g3, g4, g5, g6⟩
        cases k with
        | zero => rw [run_zero] at g6; cases g6
        | succ k =>
          have ihk := ih k (by omega)
          have hgk := run_grows (P := P) hT.grows k
          rw [run_succ] at g6
          simp only [stepD, sLoop] at g6
          split at g6
          · rename_i fr2 k2 e2
            obtain ⟨f1, f2⟩ := g5.split (hgk _ _ _ _ _ _ e2) (hgk _ _ _ _ _ _ g6)
            refine wp_mono (ihk _ _ _ _ _ _ _ h1 e2 B J a1 w1 hB g3 g4 f1) fun ex a2 w2 hx => ?_
            obtain ⟨rfl, K, x1, x2, x3⟩ := hx
            exact ⟨k, Nat.lt_succ_self k, by omega, K, fr2, k2, g1.trans x1 g2.next, g2.trans (hgk _ _ _ _ _ _ e2), x2, x3, f2, g6⟩
          · rename_i hne
            refine wp_mono (ihk _ _ _ _ _ _ _ h1 g6 B J a1 w1 hB g3 g4 g5) fun ex a2 w2 hx => ?_
            have hy := hx.mono g1 g2.next
            have h3 := hx.1
            subst h3
            cases e with
            | normal => exact absurd g6 (hne _ _)
            | exit id => exact hy
            | ret => exact hy
    | exit id => cases hc; cases hr; exact wp_exit ⟨rfl, I, .refl _ I, ra, R⟩
    | ret => cases hc; cases hr; exact wp_ret ⟨rfl, I, .refl _ I, ra, R⟩
    | rangeFunc => cases hc
    | scope => cases hc
    | label => cases hc
    | goto => cases hc
    | refuse => cases hc

/-- What the machine says of a call, holds of the model. -/
theorem call_sound (hK : Asks Ψ) (hm : P.follows .mixedOrders = true) (hT : TabOK Ψ P T) {n : Nat} {f : FuncId} {args : List Value} (hc : call P T n f args h = some (v, h')) : Hands Ψ P f args h v h' :=
  call_ok hT (code_sound hK hm hT n) _ _ _ _ _ hc

end Go.AM
