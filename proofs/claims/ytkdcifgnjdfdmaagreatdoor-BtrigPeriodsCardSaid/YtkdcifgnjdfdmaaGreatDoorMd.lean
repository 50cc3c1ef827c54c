/- The fast machine says what the plain one says; closed calls that it has run are known of the model: 'known_run'. No condition but the program's own table. -/
import Derived.Test.YtkdcifgnjdfdmaaGreatDoorMb
import Derived.Test.YtkdcifgnjdfdmaaGreatDoorMc
namespace Go.AM

def okO (n : Nat) : Operand → Bool
  | .tmp t => Nat.blt t n
  | _ => true

def xOf (n : Nat) : Operand → Option X
  | .tmp t => bif Nat.blt t n then some (getN t) else none
  | .const v => some (fun _ => v)
  | .global g => some (fun _ => .pointer (some ⟨g, 0, none⟩))
  | .func f => some (fun _ => .func (.func f) #[] #[])

def xsOf (n : Nat) : List Operand → Option (List X)
  | [] => some []
  | o :: os => match xOf n o, xsOf n os with
    | some x, some xs => some (x :: xs)
    | _, _ => none

def w0F : W := fun q _ => q

def wOf (n : Nat) : Option Tmp → Option W
  | none => some w0F
  | some d => bif Nat.blt d n then some (putN d) else none

def partsO (ps : List (Nat × Nat × Operand)) : List Operand := ps.map (·.2.2)

def optO : Option Operand → List Operand
  | some x => [x]
  | none => []

/-- What an operation looks at. -/
def opdsA : A → List Operand
  | .mv x | .box x _ | .ld x | .lds _ x | .nilc x | .isnil _ x | .un _ x | .iconv _ x | .pconv _ _ x | .fa _ x | .fld _ x | .flds _ _ x | .ext _ x | .len x => [x]
  | .pick a b c => [a, b, c]
  | .st _ a b | .ibin _ a b | .pbin _ _ a b | .ia _ a b | .iarr _ _ a b | .ipl _ a b | .app _ _ _ a b | .mks _ _ _ _ a b => [a, b]
  | .call f l => f :: l
  | .bi _ _ _ l | .chk l => l
  | .new .. => []
  | .build _ ps => partsO ps
  | .row _ ps _ _ _ => partsO ps
  | .mkf _ a b => a ++ b
  | .slc _ x lo hi mx => x :: (optO lo ++ optO hi ++ optO mx)

def slowA (n : Nat) (a : A) : Option FA := bif (opdsA a).all (okO n) then some (.slow a) else none

noncomputable def toA (n : Nat) (a : A) : Option FA :=
  match a with
  | .mv x => match xOf n x with
    | some x => some (.mv x)
    | none => none
  | .pick c x y => match xOf n c, xOf n x, xOf n y with
    | some c, some x, some y => some (.pick c x y)
    | _, _, _ => none
  | .ld x => match xOf n x with
    | some x => some (.ld x)
    | none => none
  | .st 1 x y => match xOf n x, xOf n y with
    | some x, some y => some (.st x y)
    | _, _ => none
  | .nilc x => match xOf n x with
    | some x => some (.nilc x)
    | none => none
  | .ibin op x y => match xOf n x, xOf n y with
    | some x, some y => bif isShift op then some (.sh (opF op) x y) else some (.ib (opF op) x y)
    | _, _ => none
  | .iconv k x => match xOf n x with
    | some x => some (.cv (cvF k) x)
    | none => none
  | .fa o x => match xOf n x with
    | some x => some (.fa o x)
    | none => none
  | .ia s x y => match xOf n x, xOf n y with
    | some x, some y => some (.ia s x y)
    | _, _ => none
  | .ext i x => match xOf n x with
    | some x => some (.ext i x)
    | none => none
  | .len x => match xOf n x with
    | some x => some (.len x)
    | none => none
  | .call (.func f) args => match xsOf n args with
    | some xs => some (.call f xs)
    | none => none
  | a => slowA n a

noncomputable def toO (n : Nat) (o : AO) : Option FO :=
  match o with
  | ⟨none, none, .chk []⟩ => some (.u w0F .chk0)
  | ⟨d, none, a⟩ => match wOf n d, toA n a with
    | some w, some a => some (.u w a)
    | _, _ => none
  | ⟨d, some (c, want), a⟩ => match wOf n d, xOf n (.tmp c), toA n a with
    | some w, some x, some a => some (.g w x want a)
    | _, _, _ => none

noncomputable def toOs (n : Nat) : List AO → Option (List FO)
  | [] => some []
  | o :: os => match toO n o, toOs n os with
    | some x, some xs => some (x :: xs)
    | _, _ => none

noncomputable def toC (n : Nat) : AC → Option FC
  | .skip => some .skip
  | .seq a b => match toC n a, toC n b with
    | some x, some y => some (.seq x y)
    | _, _ => none
  | .cond c a b => match xOf n c, toC n a, toC n b with
    | some c, some x, some y => some (.cond c x y)
    | _, _, _ => none
  | .block id c => match toC n c with
    | some x => some (.block id x)
    | none => none
  | .loop c => match toC n c with
    | some x => some (.loop x)
    | none => none
  | .exit id => some (.exit id)
  | .ret => some .ret
  | .region ops => match toOs n ops with
    | some x => some (.region x)
    | none => none

def toR (P : Program) (n : Nat) : ResultVar → Option FR
  | .tmp t => match xOf n (.tmp t) with
    | some x => some (.t x)
    | none => none
  | .cell a t => match xOf n (.tmp a), infoOf P t with
    | some x, some ti => some (.c x (bif ti.agg then ti.size else 0))
    | _, _ => none

def toRs (P : Program) (n : Nat) : List ResultVar → Option (List FR)
  | [] => some []
  | r :: rs => match toR P n r, toRs P n rs with
    | some x, some xs => some (x :: xs)
    | _, _ => none

/-- The first so many slots. -/
def wsTo (n : Nat) : List Nat → Option (List W)
  | [] => some []
  | t :: ts => match wOf n (some t), wsTo n ts with
    | some w, some ws => some (w :: ws)
    | _, _ => none

/-- A function's text in the fast machine. -/
noncomputable def toFF (P : Program) (fn : Func) : Option FF :=
  match fn.body with
  | some code => match comp P code with
    | some c =>
      bif Nat.ble fn.ntmps 343 && !(fn.name == "runtime.NumGoroutine") then
        match toC fn.ntmps c, toRs P fn.ntmps fn.results.toList, wsTo fn.ntmps (List.range (Nat.add fn.params.size fn.nfree)) with
        | some fc, some rs, some ws => some ⟨fn.ntmps, initF ws, resF rs, fc⟩
        | _, _, _ => none
      else none
    | none => none
  | none => none

end Go.AM

namespace Go.AM

variable {P : Program} {T : Tab}

/-! ### More fuel -/

def Less (a b : Ev) : Prop := ∀ c fr h r, a c fr h = some r → b c fr h = some r

theorem callWith_less {a b : Ev} (l : Less a b) {f : FuncId} {args : List Value} {h : Mem} {r : Value × Mem} (hc : callWith T a f args h = some r) : callWith T b f args h = some r := by
  unfold callWith at hc ⊢
  split
  · rename_i r' e
    rw [e] at hc; exact hc
  · rename_i e
    rw [e] at hc
    simp only at hc
    split
    · rename_i n rs c e2
      rw [e2] at hc
      simp only at hc
      cases hx : a c (args ++ List.replicate (n - args.length) undef) h with
      | none => rw [hx] at hc; cases hc
      | some x => rw [hx] at hc; rw [l _ _ _ _ hx]; exact hc
    · rename_i e2
      rw [e2] at hc; cases hc

theorem One.less {a b : Ev} (l : Less a b) {c0 : Nat} {x : A} {fr : Fr} {h h' : Mem} {v : Value} (o : One P T a c0 x fr h v h') : One P T b c0 x fr h v h' := by
  cases o with
  | val hr => exact .val hr
  | call hr hc => exact .call hr (callWith_less l hc)

theorem doOp_run {rc : Ev} {c0 : Nat} {o : AO} {k : Cont} {fr : Fr} {h h' : Mem} {v : Value} (hw : wantedA fr o.guard = true) (ho : One P T rc c0 o.op fr h v h') : doOp P T rc c0 o k fr h = k (fput fr o.dst v) h' := by
  unfold doOp
  rw [hw]
  simp only [cond_true]
  cases ho with
  | val hr => rw [hr]
  | call hr hc => rw [hr]; simp only [goOn]; rw [hc]

theorem doOp_skip {rc : Ev} {c0 : Nat} {o : AO} {k : Cont} {fr : Fr} {h : Mem} (hw : wantedA fr o.guard = false) : doOp P T rc c0 o k fr h = k (fput fr o.dst undef) h := by
  unfold doOp
  rw [hw]; rfl

theorem aops_less {a b : Ev} (l : Less a b) {c0 : Nat} : ∀ (ops : List AO) (fr : Fr) (h : Mem) (r : AE × Fr × Mem), aops P T a c0 ops fr h = some r → aops P T b c0 ops fr h = some r
  | [], _, _, _, hr => hr
  | o :: ops, fr, h, r, hr => by
    rw [aops_cons] at hr ⊢
    obtain ⟨v, h1, hd, hk⟩ := doOp_some hr
    cases hd with
    | run hw ho => rw [doOp_run hw (ho.less l)]; exact aops_less l ops _ _ _ hk
    | skip hw hv hh => subst hv; subst hh; rw [doOp_skip hw]; exact aops_less l ops _ _ _ hk

theorem run_less1 : ∀ n, Less (run P T n) (run P T (n + 1))
  | 0 => fun c fr h r hr => by rw [run_zero] at hr; cases hr
  | n + 1 => fun c fr h r hr => by
    have ih := run_less1 n
    rw [run_succ] at hr ⊢
    cases c with
    | skip => exact hr
    | seq a b =>
      simp only [stepD, sSeq] at hr ⊢
      cases ha : run P T n a fr h with
      | none => rw [ha] at hr; cases hr
      | some x =>
        rw [ih _ _ _ _ ha]
        rw [ha] at hr
        obtain ⟨e, fr1, h1⟩ := x
        cases e with
        | normal => exact ih _ _ _ _ hr
        | exit j => exact hr
        | ret => exact hr
    | cond q x y =>
      simp only [stepD, sCond] at hr ⊢
      split
      · rename_i t e
        rw [e] at hr
        exact ih _ _ _ _ hr
      · rename_i hne
        split at hr
        · rename_i t e; exact absurd e (hne t)
        · cases hr
    | block id x =>
      simp only [stepD, sBlock] at hr ⊢
      cases ha : run P T n x fr h with
      | none => rw [ha] at hr; cases hr
      | some z => rw [ih _ _ _ _ ha]; rw [ha] at hr; exact hr
    | loop x =>
      simp only [stepD, sLoop] at hr ⊢
      cases ha : run P T n x fr h with
      | none => rw [ha] at hr; cases hr
      | some z =>
        rw [ih _ _ _ _ ha]
        rw [ha] at hr
        obtain ⟨e, fr1, h1⟩ := z
        cases e with
        | normal => exact ih _ _ _ _ hr
        | exit j => exact hr
        | ret => exact hr
    | exit id => exact hr
    | ret => exact hr
    | region ops => exact aops_less ih ops fr h r hr

theorem run_less {n m : Nat} (hnm : n ≤ m) : Less (run P T n) (run P T m) := by
  induction hnm with
  | refl => exact fun _ _ _ _ h => h
  | step _ ih => exact fun c fr h r hr => run_less1 _ _ _ _ _ (ih _ _ _ _ hr)

/-! ### Slots -/

structure Rel (n : Nat) (q : Fm) (l : Fr) : Prop where
  len : l.length = n
  le : n ≤ 343
  get : ∀ i, i < n → getN i q = fget l i

theorem S7.put_at {α : Type} (q : S7 α) (u : α → α) (i j : Nat) (hi : i < 7) (hj : j < 7) : (q.put u i).at j = if i = j then u (q.at j) else q.at j := by
  match i, j, hi, hj with
  | 0, 0, _, _ | 0, 1, _, _ | 0, 2, _, _ | 0, 3, _, _ | 0, 4, _, _ | 0, 5, _, _ | 0, 6, _, _
  | 1, 0, _, _ | 1, 1, _, _ | 1, 2, _, _ | 1, 3, _, _ | 1, 4, _, _ | 1, 5, _, _ | 1, 6, _, _
  | 2, 0, _, _ | 2, 1, _, _ | 2, 2, _, _ | 2, 3, _, _ | 2, 4, _, _ | 2, 5, _, _ | 2, 6, _, _
  | 3, 0, _, _ | 3, 1, _, _ | 3, 2, _, _ | 3, 3, _, _ | 3, 4, _, _ | 3, 5, _, _ | 3, 6, _, _
  | 4, 0, _, _ | 4, 1, _, _ | 4, 2, _, _ | 4, 3, _, _ | 4, 4, _, _ | 4, 5, _, _ | 4, 6, _, _
  | 5, 0, _, _ | 5, 1, _, _ | 5, 2, _, _ | 5, 3, _, _ | 5, 4, _, _ | 5, 5, _, _ | 5, 6, _, _
  | 6, 0, _, _ | 6, 1, _, _ | 6, 2, _, _ | 6, 3, _, _ | 6, 4, _, _ | 6, 5, _, _ | 6, 6, _, _ => rfl

theorem getN_putN {i j : Nat} (hi : i < 343) (hj : j < 343) (q : Fm) (v : Value) : getN j (putN i q v) = if i = j then v else getN j q := by
  unfold getN putN
  rw [S7.put_at _ _ _ _ (by omega) (by omega)]
  by_cases h1 : i / 49 = j / 49
  · rw [if_pos h1, S7.put_at _ _ _ _ (by omega) (by omega)]
    by_cases h2 : i / 7 % 7 = j / 7 % 7
    · rw [if_pos h2, S7.put_at _ _ _ _ (by omega) (by omega)]
      by_cases h3 : i % 7 = j % 7
      · rw [if_pos h3, if_pos (by omega)]
      · rw [if_neg h3, if_neg (fun e => h3 (by rw [e]))]
    · rw [if_neg h2, if_neg (fun e => h2 (by rw [e]))]
  · rw [if_neg h1, if_neg (fun e => h1 (by rw [e]))]

variable {n : Nat} {q : Fm} {l : Fr}

theorem Rel.put (r : Rel n q l) {d : Nat} (hd : d < n) (v : Value) : Rel n (putN d q v) (fset l d v) := by
  refine ⟨by rw [fset_eq, List.length_set]; exact r.len, r.le, fun i hi => ?_⟩
  have := r.le
  rw [getN_putN (by omega) (by omega), r.get i hi, fset_eq, fget_eq, fget_eq, List.getD_eq_getElem?_getD, List.getD_eq_getElem?_getD]
  by_cases e : d = i
  · subst e
    rw [if_pos rfl, List.getElem?_set_self (by rw [r.len]; exact hd)]; rfl
  · rw [if_neg e, List.getElem?_set_ne e]

theorem Rel.ev (r : Rel n q l) {o : Operand} (ho : okO n o = true) : evF q o = ev l o := by
  cases o with
  | tmp t => exact r.get t (by simpa [okO, Nat.blt_eq] using ho)
  | const v => rfl
  | global g => rfl
  | func f => rfl

end Go.AM

namespace Go.AM

variable {P : Program} {T : Tab} {rc : Ev} {c0 n : Nat} {q : Fm} {l : Fr} {h h' : Mem} {v : Value}

/-! ### What an operation looks at -/

theorem fillP_congr {σ τ : Operand → Value} : ∀ (ps : List (Nat × Nat × Operand)) (cs : List Value), (∀ x ∈ partsO ps, σ x = τ x) → fillP σ cs ps = fillP τ cs ps
  | [], _, _ => rfl
  | (off, size, x) :: ps, cs, hs => by
    simp only [fillP]
    rw [hs x (by simp [partsO]), fillP_congr ps _ fun y hy => hs y (by simp only [partsO, List.map_cons, List.mem_cons]; exact .inr hy)]

theorem chkB_congr {σ τ : Operand → Value} : ∀ (xs : List Operand), (∀ x ∈ xs, σ x = τ x) → chkB σ c0 h xs = chkB τ c0 h xs
  | [], _ => rfl
  | x :: xs, hs => by
    simp only [chkB]
    rw [hs x List.mem_cons_self, chkB_congr xs fun y hy => hs y (List.mem_cons_of_mem _ hy)]

theorem map_congr' {σ τ : Operand → Value} {xs : List Operand} (hs : ∀ x ∈ xs, σ x = τ x) : xs.map σ = xs.map τ := List.map_congr_left hs

theorem opt_congr {σ τ : Operand → Value} {o : Option Operand} (hs : ∀ x ∈ optO o, σ x = τ x) : o.map σ = o.map τ := by
  cases o with
  | none => rfl
  | some x => simp only [Option.map_some]; rw [hs x (by simp [optO])]

theorem aop_congr {σ τ : Operand → Value} (a : A) (hs : ∀ x ∈ opdsA a, σ x = τ x) : aop a P c0 σ h = aop a P c0 τ h := by
  cases a <;> simp only [opdsA] at hs
  case mv x => simp only [aop, aMv]; rw [hs x (by simp)]
  case pick a b c => simp only [aop, aPick]; rw [hs a (by simp), hs b (by simp), hs c (by simp)]
  case new => rfl
  case box x e => simp only [aop, aBox]; rw [hs x (by simp)]
  case build z ps => simp only [aop, aBuild]; rw [fillP_congr ps _ hs]
  case row z ps len size e => simp only [aop, aRow]; rw [fillP_congr ps _ hs]
  case ld x => simp only [aop, aLd]; rw [hs x (by simp)]
  case lds n x => simp only [aop, aLds]; rw [hs x (by simp)]
  case st n a x => simp only [aop, aSt]; rw [hs a (by simp), hs x (by simp)]
  case nilc x => simp only [aop, aNilc]; rw [hs x (by simp)]
  case ibin op x y => simp only [aop, aIbin]; rw [hs x (by simp), hs y (by simp)]
  case pbin op t x y => simp only [aop, aPbin]; rw [hs x (by simp), hs y (by simp)]
  case isnil e x => simp only [aop, aIsnil]; rw [hs x (by simp)]
  case un op x => simp only [aop, aUn]; rw [hs x (by simp)]
  case iconv k x => simp only [aop, aIconv]; rw [hs x (by simp)]
  case pconv s d x => simp only [aop, aPconv]; rw [hs x (by simp)]
  case mkf g a b => simp only [aop, aMkf]; rw [map_congr' fun x hx => hs x (List.mem_append_left _ hx), map_congr' fun x hx => hs x (List.mem_append_right _ hx)]
  case mks z b s e len cap => simp only [aop, aMks]; rw [hs len (by simp), hs cap (by simp)]
  case slc s x lo hi mx =>
    simp only [aop, aSlc]
    rw [hs x (by simp), opt_congr (o := lo) fun y hy => hs y (by simp [hy]), opt_congr (o := hi) fun y hy => hs y (by simp [hy]), opt_congr (o := mx) fun y hy => hs y (by simp [hy])]
  case fa o x => simp only [aop, aFa]; rw [hs x (by simp)]
  case fld o x => simp only [aop, aFld]; rw [hs x (by simp)]
  case flds o n x => simp only [aop, aFlds]; rw [hs x (by simp)]
  case ia s x y => simp only [aop, aIa]; rw [hs x (by simp), hs y (by simp)]
  case iarr len s x y => simp only [aop, aIarr]; rw [hs x (by simp), hs y (by simp)]
  case ipl t x y => simp only [aop, aIpl]; rw [hs x (by simp), hs y (by simp)]
  case ext n x => simp only [aop, aExt]; rw [hs x (by simp)]
  case call f xs => simp only [aop, aCall]; rw [hs f (by simp), map_congr' fun x hx => hs x (List.mem_cons_of_mem _ hx)]
  case len x => simp only [aop, aLen]; rw [hs x (by simp)]
  case app e s b x y => simp only [aop, aApp]; rw [hs x (by simp), hs y (by simp)]
  case bi b ts t xs => simp only [aop, aBi]; rw [map_congr' hs]
  case chk xs => simp only [aop, aChk]; rw [chkB_congr xs hs]

/-! ### Cases -/

theorem intC_some {v : Value} {c : IntKind → Int → R} {r : Value × Mem} (hc : intC v c = some r) : ∃ k m, v = .int k m ∧ c k m = some r := by
  cases v <;> first | exact ⟨_, _, rfl, hc⟩ | cases hc

theorem boolC_some {v : Value} {c : Bool → R} {r : Value × Mem} (hc : boolC v c = some r) : ∃ b, v = .bool b ∧ c b = some r := by
  cases v <;> first | exact ⟨_, rfl, hc⟩ | cases hc

theorem guardC_eq (v : Value) (want : Bool) : guardC v want = isBool v want := by
  cases v
  case bool b => cases b <;> cases want <;> rfl
  all_goals rfl

theorem ptrC_some {v : Value} {c : Nat → Nat → R} {r : Value × Mem} (hc : ptrC v c = some r) : ∃ i off, v = .pointer (some ⟨i, off, none⟩) ∧ c i off = some r := by
  cases v
  case pointer a =>
    cases a with
    | none => cases hc
    | some a =>
      obtain ⟨i, off, sp⟩ := a
      cases sp with
      | none => exact ⟨_, _, rfl, hc⟩
      | some => cases hc
  all_goals cases hc

theorem sliceC_some {v : Value} {c : Nat → Nat → Nat → Nat → R} {r : Value × Mem} (hc : sliceC v c = some r) : ∃ i off m s, v = .slice (some ⟨i, off, none⟩) m s ∧ c i off m s = some r := by
  cases v
  case slice a m s =>
    cases a with
    | none => cases hc
    | some a =>
      obtain ⟨i, off, sp⟩ := a
      cases sp with
      | none => exact ⟨_, _, _, _, rfl, hc⟩
      | some => cases hc
  all_goals cases hc

theorem lenC_some {v : Value} {c : Nat → R} {r : Value × Mem} (hc : lenC v c = some r) : ∃ a m s, v = .slice a m s ∧ c m = some r := by
  cases v <;> first | exact ⟨_, _, _, rfl, hc⟩ | cases hc

theorem tupC_some {v : Value} {c : Array Value → R} {r : Value × Mem} (hc : tupC v c = some r) : ∃ vs, v = .tuple vs ∧ c vs = some r := by
  cases v <;> first | exact ⟨_, rfl, hc⟩ | cases hc

theorem natC_some {m : Int} {c : Nat → R} {r : Value × Mem} (hc : natC m c = some r) : ∃ k, m = .ofNat k ∧ c k = some r := by
  cases m with
  | ofNat k => exact ⟨k, rfl, hc⟩
  | negSucc k => cases hc

theorem bifR_some {b : Bool} {c : R} {r : Value × Mem} (hc : bifR b c = some r) : b = true ∧ c = some r := by
  cases b with
  | true => exact ⟨rfl, hc⟩
  | false => cases hc

theorem nthC_some : ∀ {l : List Value} {m : Nat} {c : Value → R} {r : Value × Mem}, nthC l m c = some r → ∃ v, l[m]? = some v ∧ c v = some r
  | [], _, _, _, hc => by cases hc
  | a :: _, 0, _, _, hc => ⟨a, rfl, hc⟩
  | _ :: l, m + 1, _, _, hc => by
    obtain ⟨v, h1, h2⟩ := nthC_some (l := l) (m := m) hc
    exact ⟨v, by simpa using h1, h2⟩

theorem rowC_some {o : Option Row} {c : Row → R} {r : Value × Mem} (hc : rowC o c = some r) : ∃ s, o = some s ∧ c s = some r := by
  cases o with
  | none => cases hc
  | some s => exact ⟨s, rfl, hc⟩

theorem valC_some {o : Option Value} {c : Value → R} {r : Value × Mem} (hc : valC o c = some r) : ∃ s, o = some s ∧ c s = some r := by
  cases o with
  | none => cases hc
  | some s => exact ⟨s, rfl, hc⟩

theorem memC_some {o : Option Mem} {c : Mem → R} {r : Value × Mem} (hc : memC o c = some r) : ∃ s, o = some s ∧ c s = some r := by
  cases o with
  | none => cases hc
  | some s => exact ⟨s, rfl, hc⟩

theorem resC_some {o : R} {c : Value → Mem → R} {r : Value × Mem} (hc : resC o c = some r) : ∃ v h, o = some (v, h) ∧ c v h = some r := by
  cases o with
  | none => cases hc
  | some s => exact ⟨s.1, s.2, rfl, hc⟩

theorem arC_some {o : Option AR} {c : Value → Mem → R} {d : FuncId → List Value → R} {r : Value × Mem} (hc : arC o c d = some r) :
    (∃ v h, o = some (.val v h) ∧ c v h = some r) ∨ ∃ f a, o = some (.call f a) ∧ d f a = some r := by
  cases o with
  | none => cases hc
  | some s => cases s with
    | val v h => exact .inl ⟨v, h, rfl, hc⟩
    | call f a => exact .inr ⟨f, a, rfl, hc⟩

theorem nilC_some {v : Value} {c : R} {r : Value × Mem} (hc : nilC v c = some r) : c = some r ∧ ((∃ a, v = .pointer (some a)) ∨ ∃ g a b, v = .func (.func g) a b) := by
  cases v
  case pointer a => cases a with
    | none => cases hc
    | some a => exact ⟨hc, .inl ⟨a, rfl⟩⟩
  case func f a b => cases f <;> first | exact ⟨hc, .inr ⟨_, _, _, rfl⟩⟩ | cases hc
  all_goals cases hc

/-! ### Ints -/

theorem lim_eq (k : IntKind) : lim k = kLim k := by cases k <;> rfl
theorem nbits_eq (k : IntKind) : nbits k = kBits k := by cases k <;> rfl

theorem blt_succ (m n : Nat) : Nat.ble (Nat.succ m) n = Nat.blt m n := rfl

theorem wrapF_small {k : IntKind} {s : Nat} (hs : s < kLim k) : wrapF k (Int.ofNat s) = Int.ofNat s := by
  rw [wrapF_eq, wrap_small k s hs]

/-- Where the number is small, it is as it is. -/
theorem small_eq {k : IntKind} {s : Nat} {d : Option Value} (hd : d = some (.int k (wrapF k (Int.ofNat s)))) : small k s d = d := by
  unfold small
  cases hb : Nat.ble (Nat.succ s) (lim k) with
  | false => rfl
  | true =>
    have hs : s < kLim k := by rw [← lim_eq]; exact Nat.le_of_ble_eq_true hb
    rw [hd, wrapF_small hs]

theorem opF_ok (op : BinOp) (k : IntKind) (a b : Int) : opF op k a b = ibinOp op k a b := by
  cases a with
  | negSucc x => cases op <;> rfl
  | ofNat x =>
    cases b with
    | negSucc y => cases op <;> rfl
    | ofNat y =>
      cases op
      case add => exact small_eq rfl
      case mul => exact small_eq rfl
      case sub =>
        show Bool.rec (motive := fun _ => Option Value) _ _ (Nat.ble y x) = _
        cases hb : Nat.ble y x with
        | false => rfl
        | true =>
          refine small_eq ?_
          have hle : y ≤ x := Nat.le_of_ble_eq_true hb
          have e : Int.sub (Int.ofNat x) (Int.ofNat y) = Int.ofNat (x - y) := by
            show (x : Int) - (y : Int) = ((x - y : Nat) : Int)
            omega
          simp only [ibinOp, e]
          rfl
      case eql =>
        simp only [opF, iEql, ibinOp, nat2]
        congr 2
        cases hb : Nat.beq x y with
        | true => rw [Nat.eq_of_beq_eq_true hb]; simp
        | false => symm; simp only [decide_eq_false_iff_not]; intro e; cases e; rw [Nat.beq_refl] at hb; cases hb
      case neq =>
        simp only [opF, iNeq, ibinOp, nat2]
        congr 2
        cases hb : Nat.beq x y with
        | true => rw [Nat.eq_of_beq_eq_true hb]; simp
        | false => symm; simp only [Bool.not_eq_true', decide_eq_false_iff_not]; intro e; cases e; rw [Nat.beq_refl] at hb; cases hb
      case lss =>
        simp only [opF, iLss, ibinOp, nat2]
        congr 2
        rw [Bool.eq_iff_iff]
        simp only [Nat.ble_eq, decide_eq_true_eq]
        show x + 1 ≤ y ↔ (x : Int) < (y : Int)
        omega
      case leq =>
        simp only [opF, iLeq, ibinOp, nat2]
        congr 2
        rw [Bool.eq_iff_iff]
        simp only [Nat.ble_eq, decide_eq_true_eq]
        show x ≤ y ↔ (x : Int) ≤ (y : Int)
        omega
      case gtr =>
        simp only [opF, iGtr, ibinOp, nat2]
        congr 2
        rw [Bool.eq_iff_iff]
        simp only [Nat.ble_eq, decide_eq_true_eq]
        show y + 1 ≤ x ↔ (y : Int) < (x : Int)
        omega
      case geq =>
        simp only [opF, iGeq, ibinOp, nat2]
        congr 2
        rw [Bool.eq_iff_iff]
        simp only [Nat.ble_eq, decide_eq_true_eq]
        show y ≤ x ↔ (y : Int) ≤ (x : Int)
        omega
      case shr =>
        simp only [opF, iShr, ibinOp, nat2, when, blt_succ, nbits_eq]
        cases Nat.blt y (kBits k) <;> rfl
      case shl =>
        simp only [opF, iShl, ibinOp, nat2, when, blt_succ, nbits_eq]
        cases hb : Nat.blt y (kBits k) with
        | false => rfl
        | true => simp only [cond_true]; exact small_eq rfl
      case and =>
        simp only [opF, iAnd, ibinOp, nat2, when, blt_succ, lim_eq]
        cases Nat.blt x (kLim k) <;> cases Nat.blt y (kLim k) <;> rfl
      case or =>
        simp only [opF, iOr, ibinOp, nat2, when, blt_succ, lim_eq]
        cases Nat.blt x (kLim k) <;> cases Nat.blt y (kLim k) <;> rfl
      case quo =>
        cases y with
        | zero => rfl
        | succ y => exact small_eq rfl
      case rem =>
        cases y with
        | zero => rfl
        | succ y => rfl
      case xor => rfl
      case andNot => rfl

theorem cvF_ok (k : IntKind) (m : Int) : cvF k m = .int k (wrapF k m) := by
  cases m with
  | negSucc x => rfl
  | ofNat x =>
    simp only [cvF, blt_succ]
    cases hb : Nat.blt x (lim k) with
    | false => rfl
    | true =>
      rw [wrapF_small (by rw [← lim_eq]; simpa [Nat.blt_eq] using hb)]

end Go.AM

namespace Go.AM

variable {P : Program} {T : Tab} {c0 n : Nat} {q : Fm} {l : Fr} {h h' : Mem} {v : Value} {cf : CallF}

theorem xOf_ok {o : Operand} {x : X} (hx : xOf n o = some x) (r : Rel n q l) : x q = ev l o := by
  cases o with
  | tmp t =>
    obtain ⟨h1, h2⟩ := of_cond hx
    cases h2
    exact r.get t (by simpa [Nat.blt_eq] using h1)
  | const v => cases hx; rfl
  | global g => cases hx; rfl
  | func f => cases hx; rfl

theorem xsOf_ok : ∀ {os : List Operand} {xs : List X}, xsOf n os = some xs → Rel n q l → (xs.map fun x => x q) = os.map (ev l)
  | [], xs, hx, _ => by cases hx; rfl
  | o :: os, xs, hx, r => by
    simp only [xsOf] at hx
    cases h1 : xOf n o with
    | none => rw [h1] at hx; cases hx
    | some x =>
      cases h2 : xsOf n os with
      | none => rw [h1, h2] at hx; cases hx
      | some ys =>
        rw [h1, h2] at hx; cases hx
        simp only [List.map_cons]
        rw [xOf_ok h1 r, xsOf_ok h2 r]

theorem wOf_ok {d : Option Tmp} {w : W} (hw : wOf n d = some w) (r : Rel n q l) (v : Value) : Rel n (w q v) (fput l d v) := by
  cases d with
  | none => cases hw; exact r
  | some d =>
    obtain ⟨h1, h2⟩ := of_cond hw
    cases h2
    exact r.put (by simpa [Nat.blt_eq] using h1) v

/-- The fast machine's calls are the machine's, with fuel enough. -/
def CF (P : Program) (T : Tab) (cf : CallF) : Prop := ∀ f args h r, cf f args h = some r → ∃ M, callWith T (run P T M) f args h = some r

/-- One operation, with fuel enough. -/
def OneX (P : Program) (T : Tab) (c0 : Nat) (a : A) (fr : Fr) (h : Mem) (v : Value) (h' : Mem) : Prop := ∃ M, One P T (run P T M) c0 a fr h v h'

theorem OneX.val {a : A} (hr : aop a P c0 (ev l) h = some (.val v h')) : OneX P T c0 a l h v h' := ⟨0, .val hr⟩
theorem OneX.call {a : A} {f : FuncId} {args : List Value} (hr : aop a P c0 (ev l) h = some (.call f args)) (hc : ∃ M, callWith T (run P T M) f args h = some (v, h')) : OneX P T c0 a l h v h' := by
  obtain ⟨M, hc⟩ := hc
  exact ⟨M, .call hr hc⟩

theorem opSlow_ok {a : A} (hC : CF P T cf) (ha : (opdsA a).all (okO n) = true) (r : Rel n q l) {w : W} {k : Kt} {z : Value × Mem} (hr : oSlow a P cf c0 w k q h = some z) :
    ∃ v h', OneX P T c0 a l h v h' ∧ k (w q v) h' = some z := by
  unfold oSlow at hr
  have e : aop a P c0 (evF q) h = aop a P c0 (ev l) h := aop_congr a fun x hx => r.ev (List.all_eq_true.1 ha x hx)
  rw [e] at hr
  rcases arC_some hr with ⟨v, h1, h2, h3⟩ | ⟨f, args, h2, h3⟩
  · exact ⟨v, h1, .val h2, h3⟩
  · obtain ⟨v, h1, h4, h5⟩ := resC_some h3
    exact ⟨v, h1, .call h2 (hC _ _ _ _ h4), h5⟩

theorem kno_eq (k : IntKind) : kno k = kindNo k := by cases k <;> rfl

theorem op_ok {a : A} {fa : FA} (hC : CF P T cf) (ha : toA n a = some fa) (r : Rel n q l) {w : W} {k : Kt} {z : Value × Mem} (hr : opD fa P cf c0 w k q h = some z) :
    ∃ v h', OneX P T c0 a l h v h' ∧ k (w q v) h' = some z := by
  have slow : ∀ a, slowA n a = some fa → ∃ v h', OneX P T c0 a l h v h' ∧ k (w q v) h' = some z := fun a ha => by
    obtain ⟨h1, h2⟩ := of_cond ha
    cases h2
    exact opSlow_ok hC h1 r hr
  cases a
  case mv x =>
    simp only [toA] at ha
    cases h1 : xOf n x with
    | none => rw [h1] at ha; cases ha
    | some x' =>
      rw [h1] at ha; cases ha
      exact ⟨x' q, h, .val (by rw [xOf_ok h1 r]; rfl), hr⟩
  case pick c x y =>
    simp only [toA] at ha
    cases h1 : xOf n c with
    | none => rw [h1] at ha; cases ha
    | some c' =>
      cases h2 : xOf n x with
      | none => rw [h1, h2] at ha; cases ha
      | some x' =>
        cases h3 : xOf n y with
        | none => rw [h1, h2, h3] at ha; cases ha
        | some y' =>
          rw [h1, h2, h3] at ha; cases ha
          obtain ⟨b, e1, e2⟩ := boolC_some hr
          rw [xOf_ok h1 r] at e1
          refine ⟨bif b then ev l x else ev l y, h, .val (by simp only [aop, aPick, e1]), ?_⟩
          rw [← xOf_ok h2 r, ← xOf_ok h3 r]
          cases b <;> exact e2
  case ld x =>
    simp only [toA] at ha
    cases h1 : xOf n x with
    | none => rw [h1] at ha; cases ha
    | some x' =>
      rw [h1] at ha; cases ha
      obtain ⟨i, off, e1, e2⟩ := ptrC_some hr
      rw [xOf_ok h1 r] at e1
      obtain ⟨s, e3, e4⟩ := rowC_some e2
      obtain ⟨v, e5, e6⟩ := nthC_some e4
      exact ⟨v, h, .val (by simp only [aop, aLd, e1, e3, e5]), e6⟩
  case st m x y =>
    simp only [toA] at ha
    split at ha
    case h_4 e =>
      cases e
      cases h1 : xOf n x with
      | none => rw [h1] at ha; cases ha
      | some x' =>
        cases h2 : xOf n y with
        | none => rw [h1, h2] at ha; cases ha
        | some y' =>
          rw [h1, h2] at ha; cases ha
          obtain ⟨i, off, e1, e2⟩ := ptrC_some hr
          rw [xOf_ok h1 r] at e1
          obtain ⟨s, e3, e4⟩ := rowC_some e2
          obtain ⟨e5, e6⟩ := bifR_some e4
          obtain ⟨e7, e8⟩ := bifR_some e6
          obtain ⟨h1', e9, e10⟩ := memC_some e8
          rw [xOf_ok h2 r] at e5 e9
          have ec : (ev l y).cells.toList = [ev l y] := by
            cases hv : ev l y <;> rw [hv] at e5 <;> first | rfl | cases e5
          refine ⟨undef, h1', .val ?_, e10⟩
          simp only [aop, aSt, e1, e3, ec, List.length_singleton, List.all_cons, List.all_nil, e5, Bool.and_true]
          have : Nat.ble (Nat.add off 1) s.cells.length = true := e7
          simp only [this, Nat.beq_refl, Bool.and_true, cond_true, e9]
    all_goals first
      | exact slow _ ha
      | (rename_i e; cases e; done)
      | (rename_i e _; cases e; done)
  case nilc x =>
    simp only [toA] at ha
    cases h1 : xOf n x with
    | none => rw [h1] at ha; cases ha
    | some x' =>
      rw [h1] at ha; cases ha
      obtain ⟨e1, e2⟩ := nilC_some hr
      refine ⟨x' q, h, .val ?_, e1⟩
      rcases e2 with ⟨a, e2⟩ | ⟨g, a, b, e2⟩
      · rw [e2]; rw [xOf_ok h1 r] at e2; simp only [aop, aNilc, e2]
      · rw [e2]; rw [xOf_ok h1 r] at e2; simp only [aop, aNilc, e2]
  case ibin op x y =>
    simp only [toA] at ha
    cases h1 : xOf n x with
    | none => rw [h1] at ha; cases ha
    | some x' =>
      cases h2 : xOf n y with
      | none => rw [h1, h2] at ha; cases ha
      | some y' =>
        rw [h1, h2] at ha
        simp only at ha
        cases hs : isShift op with
        | true =>
          rw [hs] at ha; cases ha
          obtain ⟨k1, a, e1, e2⟩ := intC_some hr
          obtain ⟨k2, b, e3, e4⟩ := intC_some e2
          obtain ⟨v, e5, e6⟩ := valC_some e4
          rw [xOf_ok h1 r] at e1
          rw [xOf_ok h2 r] at e3
          rw [opF_ok] at e5
          refine ⟨v, h, .val ?_, e6⟩
          simp only [aop, aIbin, e1, e3, e5, hs, Bool.or_true, cond_true]
        | false =>
          rw [hs] at ha; cases ha
          obtain ⟨k1, a, e1, e2⟩ := intC_some hr
          obtain ⟨k2, b, e3, e4⟩ := intC_some e2
          obtain ⟨e0, e4⟩ := bifR_some e4
          obtain ⟨v, e5, e6⟩ := valC_some e4
          rw [xOf_ok h1 r] at e1
          rw [xOf_ok h2 r] at e3
          rw [opF_ok] at e5
          refine ⟨v, h, .val ?_, e6⟩
          have e0' : Nat.beq (kindNo k1) (kindNo k2) = true := by rw [← kno_eq, ← kno_eq]; exact e0
          simp only [aop, aIbin, e1, e3, e5, e0', Bool.true_or, cond_true]
  case iconv kd x =>
    simp only [toA] at ha
    cases h1 : xOf n x with
    | none => rw [h1] at ha; cases ha
    | some x' =>
      rw [h1] at ha; cases ha
      obtain ⟨k1, m, e1, e2⟩ := intC_some hr
      rw [xOf_ok h1 r] at e1
      exact ⟨.int kd (wrapF kd m), h, .val (by simp only [aop, aIconv, e1]), by rw [← cvF_ok]; exact e2⟩
  case fa o x =>
    simp only [toA] at ha
    cases h1 : xOf n x with
    | none => rw [h1] at ha; cases ha
    | some x' =>
      rw [h1] at ha; cases ha
      obtain ⟨i, off, e1, e2⟩ := ptrC_some hr
      rw [xOf_ok h1 r] at e1
      exact ⟨ptr i (Nat.add off o), h, .val (by simp only [aop, aFa, e1]), e2⟩
  case ia s x y =>
    simp only [toA] at ha
    cases h1 : xOf n x with
    | none => rw [h1] at ha; cases ha
    | some x' =>
      cases h2 : xOf n y with
      | none => rw [h1, h2] at ha; cases ha
      | some y' =>
        rw [h1, h2] at ha; cases ha
        obtain ⟨i, off, m, s', e1, e2⟩ := sliceC_some hr
        obtain ⟨k1, a, e3, e4⟩ := intC_some e2
        obtain ⟨j, rfl, e6⟩ := natC_some e4
        obtain ⟨e7, e8⟩ := bifR_some e6
        obtain ⟨e9, e10⟩ := bifR_some e8
        rw [xOf_ok h1 r] at e1
        rw [xOf_ok h2 r] at e3
        have e7' : Nat.blt j m = true := e7
        exact ⟨ptr i (Nat.add off (Nat.mul j s')), h, .val (by simp only [aop, aIa, e1, e3, e7', e9, Bool.and_self, cond_true]), e10⟩
  case ext i x =>
    simp only [toA] at ha
    cases h1 : xOf n x with
    | none => rw [h1] at ha; cases ha
    | some x' =>
      rw [h1] at ha; cases ha
      obtain ⟨vs, e1, e2⟩ := tupC_some hr
      rw [xOf_ok h1 r] at e1
      obtain ⟨v, e5, e6⟩ := nthC_some e2
      exact ⟨v, h, .val (by simp only [aop, aExt, e1, e5]), e6⟩
  case len x =>
    simp only [toA] at ha
    cases h1 : xOf n x with
    | none => rw [h1] at ha; cases ha
    | some x' =>
      rw [h1] at ha; cases ha
      obtain ⟨b, m, s, e1, e2⟩ := lenC_some hr
      rw [xOf_ok h1 r] at e1
      exact ⟨.int .i64 (.ofNat m), h, .val (by simp only [aop, aLen, e1]), e2⟩
  case call f xs =>
    cases f
    case func g =>
      simp only [toA] at ha
      cases h1 : xsOf n xs with
      | none => rw [h1] at ha; cases ha
      | some xs' =>
        rw [h1] at ha; cases ha
        obtain ⟨v, h2, e1, e2⟩ := resC_some hr
        refine ⟨v, h2, .call (f := g) (args := xs.map (ev l)) ?_ (hC _ _ _ _ ?_), e2⟩
        · simp [aop, aCall, ev]
        · rw [← xsOf_ok h1 r]; exact e1
    all_goals exact slow _ ha
  all_goals exact slow _ ha

end Go.AM

namespace Go.AM

variable {P : Program} {T : Tab} {c0 n : Nat} {q : Fm} {l : Fr} {h h' : Mem} {v : Value} {cf : CallF}

theorem fOs_ok (hC : CF P T cf) : ∀ (ops : List AO) (fos : List FO) (q : Fm) (l : Fr) (h : Mem) (k : Kt) (z : Value × Mem), toOs n ops = some fos → Rel n q l → fOs fos P cf c0 k q h = some z →
    ∃ M l' h' q', aops P T (run P T M) c0 ops l h = some (.normal, l', h') ∧ Rel n q' l' ∧ k q' h' = some z
  | [], fos, q, l, h, k, z, hf, r, hr => by cases hf; exact ⟨0, l, h, q, rfl, r, hr⟩
  | o :: ops, fos, q, l, h, k, z, hf, r, hr => by
    simp only [toOs] at hf
    cases h1 : toO n o with
    | none => rw [h1] at hf; cases hf
    | some x =>
      cases h2 : toOs n ops with
      | none => rw [h1, h2] at hf; cases hf
      | some xs =>
        rw [h1, h2] at hf; cases hf
        have hr : fO x P cf c0 (fOs xs P cf c0 k) q h = some z := hr
        -- one operation
        have one : ∃ M v h1 q1, Does P T (run P T M) c0 o l h v h1 ∧ Rel n q1 (fput l o.dst v) ∧ fOs xs P cf c0 k q1 h1 = some z := by
          unfold toO at h1
          split at h1
          · cases h1
            exact ⟨0, undef, h, q, .run rfl (.val rfl), r, hr⟩
          · rename_i d a _
            cases h3 : wOf n d with
            | none => rw [h3] at h1; cases h1
            | some w =>
              cases h4 : toA n a with
              | none => rw [h3, h4] at h1; cases h1
              | some fa =>
                rw [h3, h4] at h1; cases h1
                obtain ⟨v, h1, ⟨M, e1⟩, e2⟩ := op_ok hC h4 r hr
                exact ⟨M, v, h1, w q v, .run rfl e1, wOf_ok h3 r v, e2⟩
          · rename_i d c want a
            cases h3 : wOf n d with
            | none => rw [h3] at h1; cases h1
            | some w =>
              cases h5 : xOf n (.tmp c) with
              | none => rw [h3, h5] at h1; cases h1
              | some y =>
                cases h4 : toA n a with
                | none => rw [h3, h5, h4] at h1; cases h1
                | some fa =>
                  rw [h3, h5, h4] at h1; cases h1
                  have hr : Bool.rec (motive := fun _ => R) (fOs xs P cf c0 k (w q undef) h) (opD fa P cf c0 w (fOs xs P cf c0 k) q h) (guardC (y q) want) = some z := hr
                  have hg : guardC (y q) want = wantedA l (some (c, want)) := by
                    rw [guardC_eq, wantedA_eq, xOf_ok h5 r]; rfl
                  rw [hg] at hr
                  cases hw : wantedA l (some (c, want)) with
                  | false => rw [hw] at hr; exact ⟨0, undef, h, w q undef, .skip hw rfl rfl, wOf_ok h3 r undef, hr⟩
                  | true =>
                    rw [hw] at hr
                    obtain ⟨v, h1, ⟨M, e1⟩, e2⟩ := op_ok hC h4 r hr
                    exact ⟨M, v, h1, w q v, .run hw e1, wOf_ok h3 r v, e2⟩
        obtain ⟨M1, v, h1, q1, hd, r1, hk⟩ := one
        obtain ⟨M2, l', h', q', e1, e2, e3⟩ := fOs_ok hC ops xs q1 (fput l o.dst v) h1 k z h2 r1 hk
        have e1 := aops_less (run_less (P := P) (T := T) (Nat.le_max_right M1 M2)) _ _ _ _ e1
        refine ⟨max M1 M2, l', h', q', ?_, e2, e3⟩
        rw [aops_cons]
        cases hd with
        | run hw ho => rw [doOp_run hw (ho.less (run_less (Nat.le_max_left M1 M2)))]; exact e1
        | skip hw hv hh => subst hv; subst hh; rw [doOp_skip hw]; exact e1

/-- Where code ends, and what is done there. -/
def Goes (k : Kt) (ke : Nat → Kt) (kr : Kt) (z : Value × Mem) : AE → Fm → Mem → Prop
  | .normal, q, h => k q h = some z
  | .exit j, q, h => ke j q h = some z
  | .ret, q, h => kr q h = some z

theorem den_ok (hC : CF P T cf) {N : Nat} : ∀ (c : AC) (fc : FC), toC n c = some fc → ∀ (q : Fm) (l : Fr) (h : Mem) (k : Kt) (ke : Nat → Kt) (kr : Kt) (z : Value × Mem), Rel n q l →
    den fc P cf N k ke kr q h = some z → ∃ M' e l' h' q', run P T M' c l h = some (e, l', h') ∧ Rel n q' l' ∧ Goes k ke kr z e q' h' := by
  intro c
  induction c with
  | skip =>
    intro fc hc q l h k ke kr z r hr
    cases hc
    exact ⟨1, .normal, l, h, q, rfl, r, hr⟩
  | seq a b iha ihb =>
    intro fc hc q l h k ke kr z r hr
    simp only [toC] at hc
    cases h1 : toC n a with
    | none => rw [h1] at hc; cases hc
    | some x =>
      cases h2 : toC n b with
      | none => rw [h1, h2] at hc; cases hc
      | some y =>
        rw [h1, h2] at hc; cases hc
        have hr : den x P cf N (den y P cf N k ke kr) ke kr q h = some z := hr
        obtain ⟨M1, e, l1, h1', q1, e1, r1, g1⟩ := iha x h1 q l h _ ke kr z r hr
        cases e with
        | normal =>
          obtain ⟨M2, e2, l2, h2', q2, e3, r2, g2⟩ := ihb y h2 q1 l1 h1' k ke kr z r1 g1
          refine ⟨max M1 M2 + 1, e2, l2, h2', q2, ?_, r2, g2⟩
          rw [run_succ]
          simp only [stepD, sSeq]
          rw [run_less (Nat.le_max_left M1 M2) _ _ _ _ e1]
          exact run_less (Nat.le_max_right M1 M2) _ _ _ _ e3
        | exit j =>
          refine ⟨M1 + 1, .exit j, l1, h1', q1, ?_, r1, g1⟩
          rw [run_succ]; simp only [stepD, sSeq]; rw [e1]
        | ret =>
          refine ⟨M1 + 1, .ret, l1, h1', q1, ?_, r1, g1⟩
          rw [run_succ]; simp only [stepD, sSeq]; rw [e1]
  | cond o a b iha ihb =>
    intro fc hc q l h k ke kr z r hr
    simp only [toC] at hc
    cases h0 : xOf n o with
    | none => rw [h0] at hc; cases hc
    | some xo =>
      cases h1 : toC n a with
      | none => rw [h0, h1] at hc; cases hc
      | some x =>
        cases h2 : toC n b with
        | none => rw [h0, h1, h2] at hc; cases hc
        | some y =>
          rw [h0, h1, h2] at hc; cases hc
          obtain ⟨t, e0, hr⟩ := boolC_some hr
          rw [xOf_ok h0 r] at e0
          cases t with
          | true =>
            obtain ⟨M1, e, l1, h1', q1, e1, r1, g1⟩ := iha x h1 q l h k ke kr z r hr
            exact ⟨M1 + 1, e, l1, h1', q1, by rw [run_succ]; simp only [stepD, sCond, e0, cond_true]; exact e1, r1, g1⟩
          | false =>
            obtain ⟨M1, e, l1, h1', q1, e1, r1, g1⟩ := ihb y h2 q l h k ke kr z r hr
            exact ⟨M1 + 1, e, l1, h1', q1, by rw [run_succ]; simp only [stepD, sCond, e0, cond_false]; exact e1, r1, g1⟩
  | block id a iha =>
    intro fc hc q l h k ke kr z r hr
    simp only [toC] at hc
    cases h1 : toC n a with
    | none => rw [h1] at hc; cases hc
    | some x =>
      rw [h1] at hc; cases hc
      obtain ⟨M1, e, l1, h1', q1, e1, r1, g1⟩ := iha x h1 q l h k _ kr z r hr
      cases e with
      | normal =>
        refine ⟨M1 + 1, .normal, l1, h1', q1, ?_, r1, g1⟩
        rw [run_succ]; simp only [stepD, sBlock]; rw [e1]
      | ret =>
        refine ⟨M1 + 1, .ret, l1, h1', q1, ?_, r1, g1⟩
        rw [run_succ]; simp only [stepD, sBlock]; rw [e1]
      | exit j =>
        have g1 : Bool.rec (motive := fun _ => Kt) (ke j) k (Nat.beq j id) q1 h1' = some z := g1
        cases hb : Nat.beq j id with
        | true =>
          rw [hb] at g1
          refine ⟨M1 + 1, .normal, l1, h1', q1, ?_, r1, g1⟩
          rw [run_succ]; simp only [stepD, sBlock]; rw [e1]; simp only [hb, cond_true]
        | false =>
          rw [hb] at g1
          refine ⟨M1 + 1, .exit j, l1, h1', q1, ?_, r1, g1⟩
          rw [run_succ]; simp only [stepD, sBlock]; rw [e1]; simp only [hb, cond_false]
  | loop a iha =>
    intro fc hc q l h k ke kr z r hr
    simp only [toC] at hc
    cases h1 : toC n a with
    | none => rw [h1] at hc; cases hc
    | some x =>
      rw [h1] at hc; cases hc
      have key : ∀ N' q l h, Rel n q l → Nat.rec (motive := fun _ => Kt) (fun _ _ => none) (fun _ ih => den x P cf N ih ke kr) N' q h = some z →
          ∃ M' e l' h' q', run P T M' (.loop a) l h = some (e, l', h') ∧ Rel n q' l' ∧ Goes k ke kr z e q' h' := by
        intro N'
        induction N' with
        | zero => intro q l h _ hr; cases hr
        | succ N' ih =>
          intro q l h r hr
          obtain ⟨M1, e, l1, h1', q1, e1, r1, g1⟩ := iha x h1 q l h _ ke kr z r hr
          cases e with
          | normal =>
            obtain ⟨M2, e2, l2, h2', q2, e3, r2, g2⟩ := ih q1 l1 h1' r1 g1
            refine ⟨max M1 M2 + 1, e2, l2, h2', q2, ?_, r2, g2⟩
            rw [run_succ]
            simp only [stepD, sLoop]
            rw [run_less (Nat.le_max_left M1 M2) _ _ _ _ e1]
            exact run_less (Nat.le_max_right M1 M2) _ _ _ _ e3
          | exit j =>
            refine ⟨M1 + 1, .exit j, l1, h1', q1, ?_, r1, g1⟩
            rw [run_succ]; simp only [stepD, sLoop]; rw [e1]
          | ret =>
            refine ⟨M1 + 1, .ret, l1, h1', q1, ?_, r1, g1⟩
            rw [run_succ]; simp only [stepD, sLoop]; rw [e1]
      exact key N q l h r hr
  | exit id =>
    intro fc hc q l h k ke kr z r hr
    cases hc
    exact ⟨1, .exit id, l, h, q, rfl, r, hr⟩
  | ret =>
    intro fc hc q l h k ke kr z r hr
    cases hc
    exact ⟨1, .ret, l, h, q, rfl, r, hr⟩
  | region ops =>
    intro fc hc q l h k ke kr z r hr
    simp only [toC] at hc
    cases h1 : toOs n ops with
    | none => rw [h1] at hc; cases hc
    | some x =>
      rw [h1] at hc; cases hc
      obtain ⟨M, l', h', q', e1, e2, e3⟩ := fOs_ok hC ops x q l h k z h1 r hr
      exact ⟨M + 1, .normal, l', h', q', by rw [run_succ]; exact e1, e2, e3⟩

/-! ### Calls -/

noncomputable def slowFn (P : Program) (f : FuncId) : Option (Nat × List ResultVar × AC) :=
  match P.funcs[f]? with
  | some fn => match fn.body with
    | some code => match comp P code with
      | some c => bif fn.name == "runtime.NumGoroutine" then none else some (fn.ntmps, fn.results.toList, c)
      | none => none
    | none => none
  | none => none

noncomputable def slowAgg (P : Program) (t : TypeId) : Option Nat :=
  match infoOf P t with
  | some ti => some (bif ti.agg then ti.size else 0)
  | none => none

/-- The machine's table, for the program, with outcomes told. -/
noncomputable def slowTab (P : Program) (stub : FuncId → List Value → Mem → R) : Tab := { fn := slowFn P, agg := slowAgg P, stub }

structure FTabOK (P : Program) (TF : FTab) : Prop where
  fn : ∀ f ff, TF.fn f = some ff → ∃ fn, P.funcs[f]? = some fn ∧ toFF P fn = some ff

theorem wsTo_ok : ∀ (ts : List Nat) (ws : List W) (i m : Nat) (args : List Value) (q q' : Fm) (l : Fr), wsTo n ts = some ws → ts = List.range' i m → Rel n q (l ++ List.replicate (n - i) undef) → l.length = i →
    List.rec (motive := fun _ => Fm → List Value → Option Fm) (fun q l => List.rec (motive := fun _ => Option Fm) (some q) (fun _ _ _ => none) l)
      (fun w _ ih q l => List.rec (motive := fun _ => Option Fm) none (fun a l _ => ih (w q a) l) l) ws q args = some q' →
    Rel n q' (l ++ args ++ List.replicate (n - (l ++ args).length) undef)
  | [], ws, i, m, args, q, q', l, hw, hts, r, hl, hr => by
    cases hw
    cases args with
    | nil => cases hr; rw [List.append_nil, hl]; exact r
    | cons => cases hr
  | t :: ts, ws, i, m, args, q, q', l, hw, hts, r, hl, hr => by
    simp only [wsTo] at hw
    cases h1 : wOf n (some t) with
    | none => rw [h1] at hw; cases hw
    | some w =>
      cases h2 : wsTo n ts with
      | none => rw [h1, h2] at hw; cases hw
      | some ws' =>
        rw [h1, h2] at hw; cases hw
        cases m with
        | zero => cases hts
        | succ m =>
          rw [List.range'_succ] at hts
          obtain ⟨rfl, rfl⟩ := List.cons.inj hts
          cases args with
          | nil => cases hr
          | cons a args =>
            have hr : List.rec (motive := fun _ => Fm → List Value → Option Fm) (fun q l => List.rec (motive := fun _ => Option Fm) (some q) (fun _ _ _ => none) l)
              (fun w _ ih q l => List.rec (motive := fun _ => Option Fm) none (fun a l _ => ih (w q a) l) l) ws' (w q a) args = some q' := hr
            have hin : t < n := by
              obtain ⟨hb, _⟩ := of_cond h1
              simpa [Nat.blt_eq] using hb
            have r1 := wOf_ok h1 r a
            have e : fput (l ++ List.replicate (n - t) undef) (some t) a = (l ++ [a]) ++ List.replicate (n - (t + 1)) undef := by
              show fset _ t a = _
              rw [fset_eq]
              have hsplit : List.replicate (n - t) undef = undef :: List.replicate (n - (t + 1)) undef := by
                rw [show n - t = (n - (t + 1)) + 1 by omega, List.replicate_succ]
              rw [hsplit, List.set_append_right _ _ (by omega), hl, Nat.sub_self]
              simp
            rw [e] at r1
            have := wsTo_ok _ ws' (t + 1) m args (w q a) q' (l ++ [a]) h2 rfl r1 (by simp [hl]) hr
            simpa [List.append_assoc] using this

theorem zF_get (i : Nat) : getN i zF = undef := by
  have h1 : ∀ {α : Type} (x : α) (j : Nat), (z7 x).at j = x := by
    intro α x j
    unfold S7.at z7
    split <;> rfl
  unfold getN zF
  rw [h1, h1, h1]

theorem res1_ok (hT : ∀ t, T.agg t = slowAgg P t) (r : Rel n q l) {rv : ResultVar} {fr : FR} (hr : toR P n rv = some fr) {v : Value} (hv : res1 q h fr = some v) : resultOf T l h rv = some v := by
  cases rv with
  | tmp t =>
    simp only [toR] at hr
    cases h1 : xOf n (.tmp t) with
    | none => rw [h1] at hr; cases hr
    | some x =>
      rw [h1] at hr; cases hr
      cases hv
      rw [xOf_ok h1 r]; rfl
  | cell a t =>
    simp only [toR] at hr
    cases h1 : xOf n (.tmp a) with
    | none => rw [h1] at hr; cases hr
    | some x =>
      cases h2 : infoOf P t with
      | none => rw [h1, h2] at hr; cases hr
      | some ti =>
        rw [h1, h2] at hr; cases hr
        have hag : T.agg t = some (bif ti.agg then ti.size else 0) := by rw [hT]; unfold slowAgg; rw [h2]
        generalize (bif ti.agg then ti.size else 0) = k at hv hag
        have hx := xOf_ok h1 r
        have hx' : ev l (.tmp a) = fget l a := rfl
        rw [hx'] at hx
        simp only [resultOf]
        rw [hag]
        cases k with
        | zero =>
          simp only [res1, ptrO] at hv
          rw [hx] at hv
          split at hv
          · rename_i i off e
            rw [e]; exact hv
          · cases hv
        | succ k =>
          simp only [res1, ptrO] at hv
          rw [hx] at hv
          split at hv
          · rename_i i off e
            rw [e]; exact hv
          · cases hv

theorem resL_ok (hT : ∀ t, T.agg t = slowAgg P t) (r : Rel n q l) : ∀ {rs : List ResultVar} {frs : List FR}, toRs P n rs = some frs → ∀ {vs : List Value}, resL q h frs = some vs → resultsOf T l h rs = some vs
  | [], frs, hr, vs, hv => by cases hr; cases hv; rfl
  | rv :: rs, frs, hr, vs, hv => by
    simp only [toRs] at hr
    cases h1 : toR P n rv with
    | none => rw [h1] at hr; cases hr
    | some x =>
      cases h2 : toRs P n rs with
      | none => rw [h1, h2] at hr; cases hr
      | some xs =>
        rw [h1, h2] at hr; cases hr
        simp only [resL] at hv
        cases h3 : res1 q h x with
        | none => rw [h3] at hv; cases hv
        | some v =>
          cases h4 : resL q h xs with
          | none => rw [h3, h4] at hv; cases hv
          | some vs' =>
            rw [h3, h4] at hv; cases hv
            simp only [resultsOf, res1_ok hT r h1 h3, resL_ok hT r h2 h4]

theorem callF_ok {TF : FTab} (hF : FTabOK P TF) {N : Nat} : ∀ d, CF P (slowTab P TF.stub) (callF P TF N d)
  | 0 => fun f args h r hr => by cases hr
  | d + 1 => fun f args h r hr => by
    have ih := callF_ok hF (N := N) d
    have hr : Option.rec (motive := fun _ => R) (optC (TF.fn f) fun ff => bodyF P N (callF P TF N d) ff args h) (fun r => some r) (TF.stub f args h) = some r := hr
    cases hs : TF.stub f args h with
    | some r' =>
      rw [hs] at hr
      refine ⟨0, ?_⟩
      unfold callWith
      have : (slowTab P TF.stub).stub f args h = some r' := hs
      rw [this]; exact hr
    | none =>
      rw [hs] at hr
      cases hff : TF.fn f with
      | none => rw [hff] at hr; cases hr
      | some ff =>
        rw [hff] at hr
        have hr : bodyF P N (callF P TF N d) ff args h = some r := hr
        obtain ⟨fn, hfn, hto⟩ := hF.fn f ff hff
        unfold toFF at hto
        cases hb : fn.body with
        | none => rw [hb] at hto; cases hto
        | some code =>
          rw [hb] at hto
          simp only at hto
          cases hcp : comp P code with
          | none => rw [hcp] at hto; cases hto
          | some c =>
            rw [hcp] at hto
            simp only at hto
            obtain ⟨hcond, hto⟩ := of_cond hto
            have hname : (fn.name == "runtime.NumGoroutine") = false := by
              have := and_right hcond
              cases hx : (fn.name == "runtime.NumGoroutine") <;> rw [hx] at this <;> first | rfl | cases this
            have h343 : fn.ntmps ≤ 343 := Nat.le_of_ble_eq_true (and_left hcond)
            cases h1 : toC fn.ntmps c with
            | none => rw [h1] at hto; cases hto
            | some fc =>
              cases h2 : toRs P fn.ntmps fn.results.toList with
              | none => rw [h1, h2] at hto; cases hto
              | some frs =>
                cases h3 : wsTo fn.ntmps (List.range (Nat.add fn.params.size fn.nfree)) with
                | none => rw [h1, h2, h3] at hto; cases hto
                | some ws =>
                  rw [h1, h2, h3] at hto
                  cases hto
                  unfold bodyF at hr
                  simp only at hr
                  cases hi : initF ws args with
                  | none => rw [hi] at hr; cases hr
                  | some q =>
                    rw [hi] at hr
                    have hr : den fc P (callF P TF N d) N (leaveF ⟨fn.ntmps, initF ws, resF frs, fc⟩) (fun _ _ _ => none) (leaveF ⟨fn.ntmps, initF ws, resF frs, fc⟩) q h = some r := hr
                    have r0 : Rel fn.ntmps q (args ++ List.replicate (fn.ntmps - args.length) undef) := by
                      have := wsTo_ok (n := fn.ntmps) _ ws 0 _ args zF q [] h3 List.range_eq_range' ⟨by simp, h343, fun i hi => by
                        rw [zF_get, fget_eq, List.getD_eq_getElem?_getD, List.nil_append, List.getElem?_replicate]
                        split <;> rfl⟩ rfl hi
                      simpa using this
                    obtain ⟨M, e, l', h', q', e1, r1, g1⟩ := den_ok ih c fc h1 q _ h _ _ _ r r0 hr
                    refine ⟨M, ?_⟩
                    unfold callWith
                    have hst : (slowTab P TF.stub).stub f args h = none := hs
                    have hsf : (slowTab P TF.stub).fn f = some (fn.ntmps, fn.results.toList, c) := by
                      show slowFn P f = _
                      unfold slowFn
                      simp only [hfn, hb, hcp, hname, cond_false]
                    rw [hst, hsf]
                    simp only
                    rw [e1]
                    have lv : leaveF ⟨fn.ntmps, initF ws, resF frs, fc⟩ q' h' = some r → leave (slowTab P TF.stub) fn.results.toList l' h' = some r := fun hl => by
                      obtain ⟨v, e2, e3⟩ := valC_some hl
                      simp only [resF] at e2
                      cases hrl : resL q' h' frs with
                      | none => rw [hrl] at e2; cases e2
                      | some vs =>
                        rw [hrl] at e2; cases e2
                        unfold leave
                        rw [resL_ok (T := slowTab P TF.stub) (fun _ => rfl) r1 h2 hrl]
                        exact e3
                    cases e with
                    | normal => exact lv g1
                    | ret => exact lv g1
                    | exit j => cases g1

end Go.AM

namespace Go.AM

variable {Ψ : Base → Prop} {P : Program} {h h' : Mem} {v : Value}

/-- What is asked of outcomes told. -/
def Told' (Ψ : Base → Prop) (P : Program) (stub : FuncId → List Value → Mem → R) : Prop := ∀ f args h v h', stub f args h = some (v, h') → Grows h h' ∧ Hands Ψ P f args h v h'

theorem slow_ok {stub : FuncId → List Value → Mem → R} (hS : Told' Ψ P stub) : TabOK Ψ P (slowTab P stub) where
  fn := by
    intro f n rs c hf
    have hf : slowFn P f = some (n, rs, c) := hf
    unfold slowFn at hf
    cases h1 : P.funcs[f]? with
    | none => rw [h1] at hf; cases hf
    | some fn =>
      rw [h1] at hf; simp only at hf
      cases h2 : fn.body with
      | none => rw [h2] at hf; cases hf
      | some code =>
        rw [h2] at hf; simp only at hf
        cases h3 : comp P code with
        | none => rw [h3] at hf; cases hf
        | some c' =>
          rw [h3] at hf; simp only at hf
          cases h4 : (fn.name == "runtime.NumGoroutine") with
          | true => rw [h4] at hf; cases hf
          | false =>
            rw [h4] at hf; cases hf
            exact ⟨fn, code, rfl, h2, fun e => by rw [e] at h4; simp at h4, h3, rfl, rfl⟩
  agg := by
    intro t n hf
    have hf : slowAgg P t = some n := hf
    unfold slowAgg at hf
    cases h1 : infoOf P t with
    | none => rw [h1] at hf; cases hf
    | some ti => rw [h1] at hf; cases hf; exact ⟨ti, rfl, by cases ti.agg <;> rfl⟩
  grows := fun f args h v h' hs => (hS f args h v h' hs).1
  stub := fun f args h v h' hs => (hS f args h v h' hs).2

theorem fast_sound (hK : Asks Ψ) (hm : P.follows .mixedOrders = true) {TF : FTab} (hF : FTabOK P TF) (hS : Told' Ψ P TF.stub) {N d : Nat} {f : FuncId} {args : List Value} (hc : callF P TF N d f args h = some (v, h')) : Hands Ψ P f args h v h' := by
  obtain ⟨M, hM⟩ := callF_ok hF d f args h _ hc
  exact call_ok (slow_ok hS) (code_sound hK hm (slow_ok hS) M) _ _ _ _ _ hM

theorem Gets.mono {f : FuncId} {args : Array Value} {w : World} {R R' : Value → World → Prop} (hg : Gets P f args w R) (hr : ∀ u w', R u w' → R' u w') : Gets P f args w R' := by
  rcases hg with ⟨h1, h2⟩ | ⟨u, w', h1, h2⟩
  · exact .inl ⟨h1, Calls.mono h2 fun e w' he => by obtain ⟨u, rfl, hp⟩ := he; exact ⟨u, rfl, hr _ _ hp⟩⟩
  · exact .inr ⟨u, w', h1, hr _ _ h2⟩

/-- The empty memory. -/
def hE : Mem := ⟨.nil, 2, 1⟩

/-- The numbers that the program's table of bits holds (math/bits.deBruijn32tab). -/
def bitsL : List Value := [0, 1, 28, 2, 29, 14, 24, 3, 30, 22, 20, 15, 25, 17, 4, 8, 31, 27, 13, 23, 21, 19, 16, 7, 26, 12, 18, 6, 11, 5, 10, 9].map fun n => .int .u8 (.ofNat n)
def bits32 : Array Value := ⟨bitsL⟩

/-- A base of which the program's two variables are told: the first two blocks are theirs, the second holds the table. -/
def BOK (e : TypeId) (B : Base) : Prop := 2 ≤ B.globs ∧ B.snap 1 = some (.cells bits32 e (0, 0))

theorem bok_asks (e : TypeId) : Asks (BOK e) :=
  ⟨fun _ h => h.1, fun _ _ hs hg h => ⟨by rw [hg]; exact h.1, hs _ _ h.2⟩⟩

/-- Two variables, and no more. -/
def B2 (B : Base) : Prop := 2 ≤ B.globs

theorem b2_asks : Asks B2 := ⟨fun _ h => h, fun _ _ _ hg h => by unfold B2 at *; rw [hg]; exact h⟩

/-- A call of plain values that gives a plain one, and leaves every memory as it was. -/
def Known (e : TypeId) (P : Program) (f : FuncId) (args : List Value) (v : Value) : Prop := ∀ h, Hands (BOK e) P f args h v h

theorem known (e : TypeId) (f : FuncId) (args : List Value) (hH : Hands (BOK e) P f args hE v h') (ha : args.all plain = true) (hv : plain v = true) : Known e P f args v := by
  classical
  intro h B I args' w hB ra R hf
  let own : Nat → Prop := fun b => ∃ i r n, h.get i = some r ∧ I i = some (b, n)
  let B1 : Base := { B with snap := fun b => if own b then w.heap[b]? else B.snap b, later := fun _ => none, globs := 2 }
  let I1 : Inj := fun i => if i < 2 then I i else none
  have hnot : ∀ b o, B.snap b = some o → ¬ own b := by
    rintro b o hb ⟨i, r, n, h1, h2⟩
    obtain ⟨b', n', arr, k1, _, _, _, k5⟩ := R.rows i r h1
    rw [h2] at k1; cases k1
    rw [hb] at k5; cases k5
  have hB1 : BOK e B1 := by
    obtain ⟨_, h2⟩ := hB
    refine ⟨Nat.le_refl 2, ?_⟩
    show (if own 1 then _ else B.snap 1) = _
    rw [if_neg (hnot 1 _ h2)]; exact h2
  have hg : ∀ i, hE.get i = none := fun i => rfl
  have R1 : RW B1 I1 hE w := by
    refine ⟨fun i r hi => ?_, fun i j r r' b n m hi => ?_, fun i hi => ?_, fun i _ => hg i, fun i r hi => ?_, fun i r hi => ?_, fun b o hb => ?_, R.rest, fun g hg2 => ?_⟩
    · rw [hg] at hi; cases hi
    · rw [hg] at hi; cases hi
    · show (if i < 2 then I i else none) = none
      rw [if_neg]
      have : 2 ≤ i := hi
      omega
    · rw [hg] at hi; cases hi
    · rw [hg] at hi; cases hi
    · change (if own b then w.heap[b]? else B.snap b) = some o at hb
      by_cases ho : own b
      · rw [if_pos ho] at hb; exact hb
      · rw [if_neg ho] at hb; exact R.snap b o hb
    · obtain ⟨n, hn⟩ := R.globs g (Nat.lt_of_lt_of_le hg2 hB.1)
      refine ⟨n, ?_⟩
      show (if g < 2 then I g else none) = _
      rw [if_pos hg2]; exact hn
  have hargs : args'.toList = args := RL.plain_eq ha ra
  refine Gets.mono (hH B1 I1 args' w hB1 (by rw [hargs]; exact RL.plain_self ha) R1 fun _ _ _ => rfl) fun u w' hp => ?_
  obtain ⟨J, e1, e2, R2⟩ := hp
  have hu : u = v := plain_eq hv e2
  refine .same ⟨fun i r hi => ?_, R.inj, R.fresh, R.gone, R.vers, R.cellok, fun b o hb => ?_, R2.rest, R.globs⟩ (by rw [hu]; exact plain_self hv)
  · obtain ⟨b, n, arr, k1, k2, k3, k4, k5⟩ := R.rows i r hi
    refine ⟨b, n, arr, k1, R2.snap b _ ?_, k3, k4, k5⟩
    show (if own b then w.heap[b]? else B.snap b) = _
    rw [if_pos ⟨i, r, n, hi, k1⟩]; exact k2
  · refine R2.snap b o ?_
    show (if own b then w.heap[b]? else B.snap b) = _
    rw [if_neg (hnot b o hb)]; exact hb

end Go.AM

namespace Go.AM

variable {P : Program} {h h' : Mem} {v : Value}

/-! ### Calls that are known, as a list -/

def eqI : Int → Int → Bool
  | .ofNat a, .ofNat b => Nat.beq a b
  | .negSucc a, .negSucc b => Nat.beq a b
  | _, _ => false

def fkNo : FloatKind → Nat
  | .f32 => 0
  | .f64 => 1

def eqA : Value → Value → Bool
  | .bool a, .bool b => cond a b (!b)
  | .int k a, .int j b => Nat.beq (kindNo k) (kindNo j) && eqI a b
  | .float k a, .float j b => Nat.beq (fkNo k) (fkNo j) && Nat.beq a b
  | .complex k a c, .complex j b d => Nat.beq (fkNo k) (fkNo j) && (Nat.beq a b && Nat.beq c d)
  | .pointer none, .pointer none => true
  | .slice none 0 0, .slice none 0 0 => true
  | _, _ => false

def eqL (e : Value → Value → Bool) : List Value → List Value → Bool
  | [], [] => true
  | a :: as, b :: bs => e a b && eqL e as bs
  | _, _ => false

def eqV : Nat → Value → Value → Bool
  | 0, a, b => eqA a b
  | n + 1, .agg x, .agg y => eqL (eqV n) x.toList y.toList
  | _ + 1, a, b => eqA a b

theorem eqI_eq {a b : Int} (h : eqI a b = true) : a = b := by
  cases a <;> cases b <;> simp only [eqI] at h <;> first | (rw [Nat.eq_of_beq_eq_true h]) | cases h

theorem eqA_eq {a b : Value} (h : eqA a b = true) : a = b := by
  unfold eqA at h
  split at h
  · rename_i a b; cases a <;> cases b <;> first | rfl | cases h
  · rw [kindNo_inj (and_left h), eqI_eq (and_right h)]
  · rename_i k a j b
    rw [Nat.eq_of_beq_eq_true (and_right h)]
    have := and_left h
    cases k <;> cases j <;> first | rfl | cases this
  · rename_i k a c j b d
    rw [Nat.eq_of_beq_eq_true (and_left (and_right h)), Nat.eq_of_beq_eq_true (and_right (and_right h))]
    have := and_left h
    cases k <;> cases j <;> first | rfl | cases this
  · rfl
  · rfl
  · cases h

theorem eqL_eq {e : Value → Value → Bool} (he : ∀ a b, e a b = true → a = b) : ∀ {as bs : List Value}, eqL e as bs = true → as = bs
  | [], [], _ => rfl
  | [], _ :: _, h => by cases h
  | _ :: _, [], h => by cases h
  | a :: as, b :: bs, h => by
    simp only [eqL] at h
    rw [he a b (and_left h), eqL_eq he (and_right h)]

theorem eqV_eq : ∀ (n : Nat) {a b : Value}, eqV n a b = true → a = b
  | 0, _, _, h => eqA_eq h
  | n + 1, a, b, h => by
    unfold eqV at h
    split at h
    · exact eqA_eq h
    · rename_i x y e
      cases e
      exact congrArg Value.agg (Array.toList_inj.1 (eqL_eq (fun a b hab => eqV_eq n hab) h))
    · exact eqA_eq h

/-- A call that is known: its function, what it is called on, what it gives. -/
structure KE where
  f : Nat
  args : List Value
  v : Value

def lookK : List KE → Nat → List Value → Option Value
  | [], _, _ => none
  | e :: es, f, args => bif Nat.beq e.f f && eqL (eqV 2) e.args args then some e.v else lookK es f args

theorem lookK_ok {e : TypeId} {l : List KE} (hl : ∀ x ∈ l, Known e P x.f x.args x.v) {f : Nat} {args : List Value} (hv : lookK l f args = some v) : Known e P f args v := by
  induction l with
  | nil => cases hv
  | cons y es ih =>
    simp only [lookK] at hv
    cases hb : (Nat.beq y.f f && eqL (eqV 2) y.args args) with
    | true =>
      rw [hb] at hv; cases hv
      have := hl y List.mem_cons_self
      rw [Nat.eq_of_beq_eq_true (and_left hb), eqL_eq (fun a b hab => eqV_eq 2 hab) (and_right hb)] at this
      exact this
    | false => rw [hb] at hv; exact ih (fun z hz => hl z (List.mem_cons_of_mem _ hz)) hv

/-! ### A closed call that looks at the table -/

/-- The memory with the table alone. -/
noncomputable def hT (e : TypeId) : Mem := ⟨Tree.set .nil 1 (some ⟨bits32.toList, e, 0⟩), 2, 1⟩

theorem hT_get (e : TypeId) (i : Nat) : (hT e).get i = if i = 1 then some ⟨bits32.toList, e, 0⟩ else none := by
  show (Tree.set .nil 1 _).get i = _
  rw [Tree.get_set _ _ _ _ (by decide)]
  rfl

theorem known1 (e : TypeId) (f : FuncId) (args : List Value) (hH : Hands B2 P f args (hT e) v h') (hr : ∃ r, h'.get 1 = some r ∧ r.cells = bits32.toList ∧ r.elem = e) (ha : args.all plain = true) (hv : plain v = true) :
    Known e P f args v := by
  classical
  intro h B I args' w hB ra R hf
  let own : Nat → Prop := fun b => ∃ i r n, h.get i = some r ∧ I i = some (b, n)
  let B1 : Base := { B with snap := fun b => if b = 1 then none else if own b then w.heap[b]? else B.snap b, later := fun _ => none, globs := 2 }
  let I1 : Inj := fun i => if i = 0 then I 0 else if i = 1 then some (1, 32) else none
  obtain ⟨hB0, hB1⟩ := hB
  have hnot : ∀ b o, B.snap b = some o → ¬ own b := by
    rintro b o hb ⟨i, r, n, h1, h2⟩
    obtain ⟨b', n', arr, k1, _, _, _, k5⟩ := R.rows i r h1
    rw [h2] at k1; cases k1
    rw [hb] at k5; cases k5
  have hpl : bits32.toList.all plain = true := rfl
  have R1 : RW B1 I1 (hT e) w := by
    refine ⟨fun i r hi => ?_, fun i j r r' b n m hi hj _ _ => ?_, fun i hi => ?_, fun i hi => ?_, fun i r hi => ?_, fun i r hi => ?_, fun b o hb => ?_, R.rest, fun g hg2 => ?_⟩
    · rw [hT_get] at hi
      by_cases e1 : i = 1
      · rw [if_pos e1] at hi; cases hi; subst e1
        refine ⟨1, 32, bits32, rfl, R.snap 1 _ hB1, rfl, ?_, rfl⟩
        rw [List.take_length]
        exact RL.plain_self hpl
      · rw [if_neg e1] at hi; cases hi
    · rw [hT_get] at hi hj
      by_cases e1 : i = 1
      · by_cases e2 : j = 1
        · rw [e1, e2]
        · rw [if_neg e2] at hj; cases hj
      · rw [if_neg e1] at hi; cases hi
    · have hi : 2 ≤ i := hi
      show (if i = 0 then I 0 else if i = 1 then some (1, 32) else none) = none
      rw [if_neg (by omega), if_neg (by omega)]
    · have hi : 2 ≤ i := hi
      rw [hT_get, if_neg (by omega)]
    · rw [hT_get] at hi
      by_cases e1 : i = 1
      · rw [if_pos e1] at hi; cases hi; exact Nat.zero_lt_one
      · rw [if_neg e1] at hi; cases hi
    · rw [hT_get] at hi
      by_cases e1 : i = 1
      · rw [if_pos e1] at hi; cases hi; rfl
      · rw [if_neg e1] at hi; cases hi
    · change (if b = 1 then none else if own b then w.heap[b]? else B.snap b) = some o at hb
      by_cases e1 : b = 1
      · rw [if_pos e1] at hb; cases hb
      · rw [if_neg e1] at hb
        by_cases ho : own b
        · rw [if_pos ho] at hb; exact hb
        · rw [if_neg ho] at hb; exact R.snap b o hb
    · have hg2 : g < 2 := hg2
      show ∃ n, (if g = 0 then I 0 else if g = 1 then some (1, 32) else none) = some (g, n)
      by_cases e0 : g = 0
      · subst e0
        rw [if_pos rfl]
        exact R.globs 0 (by omega)
      · rw [if_neg e0, if_pos (by omega)]
        exact ⟨32, by rw [show g = 1 by omega]⟩
  have hargs : args'.toList = args := RL.plain_eq ha ra
  refine Gets.mono (hH B1 I1 args' w (Nat.le_refl 2) (by rw [hargs]; exact RL.plain_self ha) R1 fun _ _ _ => rfl) fun u w' hp => ?_
  obtain ⟨J, e1, e2, R2⟩ := hp
  have hu : u = v := plain_eq hv e2
  obtain ⟨r, r1, r2, r3⟩ := hr
  obtain ⟨b, n, arr, k1, k2, k3, k4, _⟩ := R2.rows 1 r r1
  have hJ : J 1 = some (1, 32) := e1.up 1 _ rfl
  rw [hJ] at k1; cases k1
  rw [r2] at k4
  have harr : arr = bits32 := by
    apply Array.toList_inj.1
    have := RL.plain_eq hpl k4
    rw [← this, List.take_of_length_le]
    rw [Array.length_toList, k3]; exact Nat.le_refl 32
  rw [harr, r3] at k2
  refine .same ⟨fun i r hi => ?_, R.inj, R.fresh, R.gone, R.vers, R.cellok, fun c o hc => ?_, R2.rest, R.globs⟩ (by rw [hu]; exact plain_self hv)
  · obtain ⟨c, m, arr', l1, l2, l3, l4, l5⟩ := R.rows i r hi
    refine ⟨c, m, arr', l1, R2.snap c _ ?_, l3, l4, l5⟩
    have hc1 : c ≠ 1 := fun ec => by rw [ec, hB1] at l5; cases l5
    show (if c = 1 then none else if own c then w.heap[c]? else B.snap c) = _
    rw [if_neg hc1, if_pos ⟨i, r, m, hi, l1⟩]; exact l2
  · by_cases hc1 : c = 1
    · subst hc1
      rw [hB1] at hc; cases hc
      exact k2
    · refine R2.snap c o ?_
      show (if c = 1 then none else if own c then w.heap[c]? else B.snap c) = _
      rw [if_neg hc1, if_neg (hnot c o hc)]; exact hc

/-! ### Outcomes told -/

/-- Of the externs: the bits of a float, the float of bits; of these functions alone: what is known. -/
noncomputable def stubK (mask : Nat) (l : List KE) : FuncId → List Value → Mem → R := fun f args h =>
  Bool.rec (motive := fun _ => R) none (match lookK l f args with
    | some v => some (v, h)
    | none => none) (Nat.beq (Nat.land (Nat.shiftRight mask f) 1) 1)

theorem stubK_ok {e : TypeId} {mask : Nat} {l : List KE} (hl : ∀ x ∈ l, Known e P x.f x.args x.v) : Told' (BOK e) P (stubK mask l) := by
  intro f args h v h' hs
  unfold stubK at hs
  cases hb : Nat.beq (Nat.land (Nat.shiftRight mask f) 1) 1 with
  | false => rw [hb] at hs; cases hs
  | true =>
    rw [hb] at hs
    simp only at hs
    cases hk : lookK l f args with
    | none => rw [hk] at hs; cases hs
    | some u =>
      rw [hk] at hs; cases hs
      exact ⟨.refl h, lookK_ok hl hk h⟩

/-- What a run gives, without its memory. -/
def valOf : R → Option Value
  | some (v, _) => some v
  | none => none

theorem valOf_some {x : R} (hx : valOf x = some v) : ∃ h', x = some (v, h') := by
  cases x with
  | none => cases hx
  | some p => cases hx; exact ⟨p.2, rfl⟩

/-- A closed call, run from the empty memory. -/
theorem known_run {e : TypeId} (hm : P.follows .mixedOrders = true) {TF : FTab} (hF : FTabOK P TF) (hS : Told' (BOK e) P TF.stub) {N d : Nat} {f : FuncId} {args : List Value} (ha : args.all plain = true) (hv : plain v = true)
    (hr : valOf (callF P TF N d f args hE) = some v) : Known e P f args v := by
  obtain ⟨h', hc⟩ := valOf_some hr
  exact known e f args (fast_sound (bok_asks e) hm hF hS hc) ha hv

end Go.AM

namespace Go.AM

variable {P : Program} {v : Value}

/-- A function that is none of the program's own, on plain values. -/
theorem known_ext {e : TypeId} {f : FuncId} {args : List Value} (hr : pureRun P (callFunc f args.toArray) = some (.value v)) (ha : args.all plain = true) (hv : plain v = true) : Known e P f args v := by
  intro h B I args' w hB ra R hf
  have hargs : args'.toList = args := RL.plain_eq ha ra
  refine .inr ⟨v, w, ?_, .same R (plain_self hv)⟩
  have : args' = args.toArray := by rw [← hargs]
  rw [this]
  exact pureRun_run hr w

/-- math.Float64frombits and math.Float64bits, by their numbers in the program. -/
def lookX (from_ bits : Nat) (f : Nat) (args : List Value) : Option Value :=
  bif Nat.beq f bits then match args with
    | [.float .f64 b] => some (.int .u64 (.ofNat b))
    | _ => none
  else bif Nat.beq f from_ then match args with
    | [.int .u64 (.ofNat b)] => some (.float .f64 b)
    | _ => none
  else none

/-- What is told of these functions (as bits of a mask): the externs; what is known. -/
noncomputable def stubX (from_ bits mask : Nat) (l : List KE) : FuncId → List Value → Mem → R := fun f args h =>
  Bool.rec (motive := fun _ => R) none (match lookX from_ bits f args with
    | some v => some (v, h)
    | none => match lookK l f args with
      | some v => some (v, h)
      | none => none) (Nat.beq (Nat.land (Nat.shiftRight mask f) 1) 1)

theorem stubX_ok {e : TypeId} {from_ bits mask : Nat} {l : List KE} (h1 : ∀ b, pureRun P (callFunc bits #[.float .f64 b]) = some (.value (.int .u64 (.ofNat b)))) (h2 : ∀ b, pureRun P (callFunc from_ #[.int .u64 (.ofNat b)]) = some (.value (.float .f64 b)))
    (hl : ∀ x ∈ l, Known e P x.f x.args x.v) : Told' (BOK e) P (stubX from_ bits mask l) := by
  intro f args h v h' hs
  unfold stubX at hs
  cases hb : Nat.beq (Nat.land (Nat.shiftRight mask f) 1) 1 with
  | false => rw [hb] at hs; cases hs
  | true =>
    rw [hb] at hs
    simp only at hs
    cases hx : lookX from_ bits f args with
    | some u =>
      rw [hx] at hs; cases hs
      refine ⟨.refl h, ?_⟩
      unfold lookX at hx
      cases hb1 : Nat.beq f bits with
      | true =>
        rw [hb1] at hx
        rw [Nat.eq_of_beq_eq_true hb1]
        simp only [cond_true] at hx
        split at hx
        · rename_i b
          cases hx
          exact known_ext (e := e) (h1 b) rfl rfl h
        · cases hx
      | false =>
        rw [hb1] at hx
        cases hb2 : Nat.beq f from_ with
        | true =>
          rw [hb2] at hx
          rw [Nat.eq_of_beq_eq_true hb2]
          simp only [cond_false, cond_true] at hx
          split at hx
          · rename_i b
            cases hx
            exact known_ext (e := e) (h2 b) rfl rfl h
          · cases hx
        | false => rw [hb2] at hx; cases hx
    | none =>
      rw [hx] at hs
      simp only at hs
      cases hk : lookK l f args with
      | none => rw [hk] at hs; cases hs
      | some u =>
        rw [hk] at hs; cases hs
        exact ⟨.refl h, lookK_ok hl hk h⟩

end Go.AM

namespace Go.AM

variable {P : Program} {v : Value}

/-- What a run gives, and what its table's row then is. -/
noncomputable def valRow : R → Option (Value × Option Row)
  | some (v, h) => some (v, h.get 1)
  | none => none

theorem valRow_some {e : TypeId} {n : Nat} {x : R} (hx : valRow x = some (v, some ⟨bits32.toList, e, n⟩)) : ∃ h', x = some (v, h') ∧ ∃ r, h'.get 1 = some r ∧ r.cells = bits32.toList ∧ r.elem = e := by
  cases x with
  | none => cases hx
  | some p =>
    obtain ⟨u, h⟩ := p
    unfold valRow at hx
    simp only [Option.some.injEq, Prod.mk.injEq] at hx
    obtain ⟨rfl, h1⟩ := hx
    exact ⟨h, rfl, _, h1, rfl, rfl⟩

theorem told_none {Ψ : Base → Prop} : Told' Ψ P (fun _ _ _ => none) := fun _ _ _ _ _ hs => by cases hs

theorem known1_run {e : TypeId} (hm : P.follows .mixedOrders = true) {TF : FTab} (hF : FTabOK P TF) (hS : Told' B2 P TF.stub) {N d : Nat} {f : FuncId} {args : List Value} (ha : args.all plain = true) (hv : plain v = true)
    {n : Nat} (hr : valRow (callF P TF N d f args (hT e)) = some (v, some ⟨bits32.toList, e, n⟩)) : Known e P f args v := by
  obtain ⟨h', hc, hr⟩ := valRow_some hr
  exact known1 e f args (fast_sound b2_asks hm hF hS hc) hr ha hv

/-- A leaf, or a branch, of a table: what it gives is the program's. -/
def Fit (P : Program) (f : FuncId) (o : Option FF) : Prop := ∀ ff, o = some ff → ∃ fn, P.funcs[f]? = some fn ∧ toFF P fn = some ff

theorem fit_leaf {f n : FuncId} {fn : Func} {ff : FF} (h1 : P.funcs[n]? = some fn) (h2 : toFF P fn = some ff) : Fit P f (Bool.rec (motive := fun _ => Option FF) none (some ff) (Nat.beq f n)) := by
  intro g hg
  cases hb : Nat.beq f n with
  | false => rw [hb] at hg; cases hg
  | true =>
    rw [hb] at hg; cases hg
    rw [Nat.eq_of_beq_eq_true hb]
    exact ⟨fn, h1, h2⟩

theorem fit_node {f : FuncId} {a b : Option FF} {c : Bool} (ha : Fit P f a) (hb : Fit P f b) : Fit P f (Bool.rec (motive := fun _ => Option FF) a b c) := by
  cases c with
  | false => exact ha
  | true => exact hb

/-- Each of a list of calls is known. -/
def AllK (e : TypeId) (P : Program) (l : List KE) : Prop := ∀ x ∈ l, Known e P x.f x.args x.v

theorem allK_nil {e : TypeId} : AllK e P [] := fun _ h => by cases h
theorem allK_cons {e : TypeId} {x : KE} {l : List KE} (h : Known e P x.f x.args x.v) (hl : AllK e P l) : AllK e P (x :: l) := by
  intro y hy
  rcases List.mem_cons.1 hy with rfl | hy
  · exact h
  · exact hl y hy

end Go.AM
