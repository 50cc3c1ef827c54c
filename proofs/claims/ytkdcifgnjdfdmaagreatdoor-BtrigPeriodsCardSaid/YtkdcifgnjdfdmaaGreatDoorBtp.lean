/- The periods: whatever the number of the function is that is asked for, 'cusplaw21.BtrigPeriods' returns true, and its argument reads as it did. Condition: the program's table of bits (math/bits.deBruijn32tab) holds what the program's text lays in it (the card ties that). -/
import Derived.Test.YtkdcifgnjdfdmaaGreatDoorV7
import Derived.Test.YtkdcifgnjdfdmaaGreatDoorRows
import Derived.Test.YtkdcifgnjdfdmaaGreatDoorTie
import Derived.Test.YtkdcifgnjdfdmaaGreatDoorCards
import Derived.ProofKit
import Derived.OpenShut
import Derived.LaidMore
import Derived.MakeChecks
import Derived.Lib.LaidTab
import Derived.Stop.Joined
import Derived.SevenTiedAt
import Derived.KernelRfl
namespace Go.Proofs.YtkdcifgnjdfdmaaGreatDoor
open Go AM
open Go.ChangeShapes Go.WideShapes Go.ChangeAt Go.RowKit
set_option maxRecDepth 100000
set_option maxHeartbeats 40000000

/-! ### Every call -/

theorem kHi (m : Nat) : Kn ⟨4, [.int .i64 (.ofNat (m + 18))], .bool true⟩ := go _ 102400 (l := [e689]) (cons' k689 nil') rfl rfl (by kernel_rfl)
theorem kNeg1 : Kn ⟨4, [.int .i64 (.negSucc 0)], .bool true⟩ := go _ 102400 (l := [e689]) (cons' k689 nil') rfl rfl (by kernel_rfl)
theorem kNeg (m : Nat) : Kn ⟨4, [.int .i64 (.negSucc (m + 1))], .bool true⟩ := go _ 102400 (l := [e689]) (cons' k689 nil') rfl rfl (by kernel_rfl)
theorem kLo0 : Kn ⟨4, [.int .i64 (.ofNat 0)], .bool true⟩ := go _ 102400 (l := [e689]) (cons' k689 nil') rfl rfl (by kernel_rfl)
theorem kLo1 : Kn ⟨4, [.int .i64 (.ofNat 1)], .bool true⟩ := go _ 102400 (l := [e689]) (cons' k689 nil') rfl rfl (by kernel_rfl)
theorem kLo2 : Kn ⟨4, [.int .i64 (.ofNat 2)], .bool true⟩ := go _ 102400 (l := [e689]) (cons' k689 nil') rfl rfl (by kernel_rfl)
theorem kLo3 : Kn ⟨4, [.int .i64 (.ofNat 3)], .bool true⟩ := go _ 102400 (l := [e689]) (cons' k689 nil') rfl rfl (by kernel_rfl)
theorem kLo4 : Kn ⟨4, [.int .i64 (.ofNat 4)], .bool true⟩ := go _ 102400 (l := [e689]) (cons' k689 nil') rfl rfl (by kernel_rfl)
theorem kLo5 : Kn ⟨4, [.int .i64 (.ofNat 5)], .bool true⟩ := go _ 102400 (l := [e689]) (cons' k689 nil') rfl rfl (by kernel_rfl)
theorem kLo6 : Kn ⟨4, [.int .i64 (.ofNat 6)], .bool true⟩ := go _ 102400 (l := [e689]) (cons' k689 nil') rfl rfl (by kernel_rfl)
theorem kLo7 : Kn ⟨4, [.int .i64 (.ofNat 7)], .bool true⟩ := go _ 102400 (l := [e689]) (cons' k689 nil') rfl rfl (by kernel_rfl)
theorem kLo8 : Kn ⟨4, [.int .i64 (.ofNat 8)], .bool true⟩ := go _ 102400 (l := [e689]) (cons' k689 nil') rfl rfl (by kernel_rfl)
theorem kLo9 : Kn ⟨4, [.int .i64 (.ofNat 9)], .bool true⟩ := go _ 102400 (l := [e689]) (cons' k689 nil') rfl rfl (by kernel_rfl)
theorem kLo10 : Kn ⟨4, [.int .i64 (.ofNat 10)], .bool true⟩ := go _ 102400 (l := [e689]) (cons' k689 nil') rfl rfl (by kernel_rfl)
theorem kLo11 : Kn ⟨4, [.int .i64 (.ofNat 11)], .bool true⟩ := go _ 102400 (l := [e689]) (cons' k689 nil') rfl rfl (by kernel_rfl)
theorem kAll (n : Int) : Kn ⟨4, [.int .i64 n], .bool true⟩ := by
  match n with
  | .negSucc 0 => exact kNeg1
  | .negSucc (m + 1) => exact kNeg m
  | .ofNat 0 => exact kLo0
  | .ofNat 1 => exact kLo1
  | .ofNat 2 => exact kLo2
  | .ofNat 3 => exact kLo3
  | .ofNat 4 => exact kLo4
  | .ofNat 5 => exact kLo5
  | .ofNat 6 => exact kLo6
  | .ofNat 7 => exact kLo7
  | .ofNat 8 => exact kLo8
  | .ofNat 9 => exact kLo9
  | .ofNat 10 => exact kLo10
  | .ofNat 11 => exact kLo11
  | .ofNat 12 => exact k690
  | .ofNat 13 => exact k693
  | .ofNat 14 => exact k705
  | .ofNat 15 => exact k708
  | .ofNat 16 => exact k711
  | .ofNat 17 => exact k714
  | .ofNat (m + 18) => exact kHi m

/-! ### From what is known of a call to the model's call -/

theorem kept_of_same {w w' : World} (h1 : w'.os = w.os) (h2 : w'.output = w.output) (h3 : ∀ (i : Nat) (o : Obj), w.heap[i]? = some o → w'.heap[i]? = some o) (may : MemPlace → Prop) : w.keptBut w' may := by
  refine ⟨h1, h2, fun i hi => ?_⟩
  have e := Array.getElem?_eq_getElem hi
  rw [h3 i _ e, e]
  cases w.heap[i] with
  | cells c t fr => exact ⟨rfl, rfl, rfl, fun _ _ => rfl⟩
  | map es clock => exact .inr ⟨rfl, rfl⟩
  | _ => rfl

/-- The table of bits lies in memory. -/
def Bits (w : World) : Prop := ∃ e : TypeId, w.heap[1]? = some (.cells bits32 e (0, 0))

theorem calls_of_known {f : FuncId} {args : List Value} {v : Value} (hv : plain v = true) (ha : args.all plain = true) (hn : ∀ w : World, (callFunc f args.toArray).run Tryz.prog w = .ok (.enter f args.toArray) w)
    (hk : ∀ e : TypeId, Known e Tryz.prog f args v) {w : World} (hb : Bits w) :
    Calls Tryz.prog f args.toArray w fun e w' => e = .returned v ∧ w'.os = w.os ∧ w'.output = w.output ∧ ∀ (i : Nat) (o : Obj), w.heap[i]? = some o → w'.heap[i]? = some o := by
  obtain ⟨e, hb⟩ := hb
  let B : Base := ⟨fun b => w.heap[b]?, w.tape, w.os, w.output, 2, fun _ => none⟩
  let I : Inj := fun i => if i < 2 then some (i, 0) else none
  have hg : ∀ i, hE.get i = none := fun i => rfl
  have R : RW B I hE w := by
    refine ⟨fun i r hi => ?_, fun i j r r' b n m hi => ?_, fun i hi => ?_, fun i _ => hg i, fun i r hi => ?_, fun i r hi => ?_, fun b o hb => hb, ⟨rfl, rfl, rfl⟩, fun g hg2 => ?_⟩
    · rw [hg] at hi; cases hi
    · rw [hg] at hi; cases hi
    · show (if i < 2 then some (i, 0) else none) = none
      rw [if_neg]
      have : 2 ≤ i := hi
      omega
    · rw [hg] at hi; cases hi
    · rw [hg] at hi; cases hi
    · refine ⟨0, ?_⟩
      show (if g < 2 then some (g, 0) else none) = _
      rw [if_pos hg2]
  have hG := hk e hE B I args.toArray w ⟨Nat.le_refl 2, hb⟩ (RL.plain_self (by simpa using ha)) R (fun _ _ _ => rfl)
  rcases hG with ⟨_, hc⟩ | ⟨u, w', h1, _⟩
  · refine Calls.mono hc fun x w' hx => ?_
    obtain ⟨u, rfl, J, _, e2, R2⟩ := hx
    have hu : u = v := plain_eq hv e2
    exact ⟨by rw [hu], R2.rest.2.1, R2.rest.2.2, fun i o hi => R2.snap i o hi⟩
  · rw [hn w] at h1; cases h1

/-! ### The row's condition gives the table -/

theorem own : ownKnob Tryz.prog.godebug = none := by kernel_rfl
theorem gTab : Tryz.prog.globalNamed "math/bits.deBruijn32tab" = some 1 := by kernel_rfl
theorem tTab : (Tryz.prog.globals[1]?).map (·.type) = some 286 := by kernel_rfl

abbrev laidTab : List (String × DataW Unit) := [("math/bits.deBruijn32tab", Rows.laid_math_bits_deBruijn32tab)]

theorem bits_of_laid {W : World} (h : laidMetH Tryz.prog laidTab W) : Bits W := by
  rw [MakeChecks.laidMetH_plain _ _ _ (by kernel_rfl)] at h
  have hT := Lib.tabIs_of_head (k := .u8) (zs := [0, 1, 28, 2, 29, 14, 24, 3, 30, 22, 20, 15, 25, 17, 4, 8, 31, 27, 13, 23, 21, 19, 16, 7, 26, 12, 18, 6, 11, 5, 10, 9]) (rest := []) (t := 286) gTab tTab Tryz.underlying286 Tryz.underlying5 (by kernel_rfl) (by kernel_rfl) h
  obtain ⟨ps, ⟨g, t, cs, fuel, p, q, hg, _, hv, _, _, hps⟩, _, hc⟩ := h
  obtain rfl := Option.some.inj (gTab.symm.trans hg)
  have hcs : cs = bits32 := Option.some.inj (hv.symm.trans hT)
  subst hcs
  have hin : MemPlace.cell 1 0 ∈ ps := by
    rw [hps]
    exact List.mem_append_left _ (List.mem_append_left _ (by simp [MemPlace.row, bits32, bitsL]))
  obtain ⟨⟨c, t', hh⟩, _⟩ := hc 1 0 hin
  refine ⟨t', ?_⟩
  unfold World.var? at hv
  rw [gTab] at hv
  simp only [Option.bind_some, hh, Option.some.injEq] at hv
  rw [hh, hv]

theorem door_met (os : Os) (args : Array Value) : laidMetH Tryz.prog laidTab ((World.doorLaid Tryz.prog 14 os).forCall (fun _ _ => 0) ⟨#[], args, []⟩).memory :=
  laidMetH_of_parts3 (fuel := 8) (laidMet_of_run' 8 (by kernel_rfl) (by kernel_rfl)) (by kernel_rfl) (by kernel_rfl)

/-! ### The row -/

theorem enters4 (a : Int) (w : World) : (callFunc 4 [Value.int .i64 a].toArray).run Tryz.prog w = .ok (.enter 4 [Value.int .i64 a].toArray) w := by kernel_rfl

theorem lifted (os : Os) (started : os.Started) (H : Type) (enc : TypeId × Value → H) :
    ReturnsInHanded {} Tryz.checked os 4 .any (fun w args => (Rows.btrigPeriodsSpec.pre enc Tryz.prog Tryz.f4 [] false w args ∧ laidMetH Tryz.prog laidTab w) ∧ sizedMet enc Tryz.prog Tryz.f4 (OpenSpec.ofChange Rows.btrigPeriodsSpec) false w args)
      (Rows.btrigPeriodsSpec.post enc Tryz.prog Tryz.f4 false true false false) := by
  refine returnsInHanded_of_change_and (C := Tryz.checked) (X := fun w _ => laidMetH Tryz.prog laidTab w) (fun _ _ _ hh h => h.of_heap hh) own started (by kernel_rfl) Tryz.func4
    (ChangeSpec.witness_shaped (enc := enc) (C := Tryz.checked) (os := os) (X := fun w _ => laidMetH Tryz.prog laidTab w) false (World.doorLaid Tryz.prog 14 os) #[.int .i64 0] 8 rfl (World.shaped_of_RefB (by kernel_rfl) (by kernel_rfl)) (by kernel_rfl) (by kernel_rfl) (by kernel_rfl) (door_met os _)) ?_
  intro W base args ds gs before hval0 hW _ _ hL _
  have hval : ∀ (j : Nat) t v, Tryz.f4.params[j]? = some t → args[j]? = some v → Value.okWide Tryz.prog W .any base t v := hval0
  have hW' := hW
  obtain ⟨p, q, hA0, hV, rfl, hfz, hnd⟩ := hW
  have hA : DataW.TrodAll enc Tryz.prog W 0 (fun _ => true) true Tryz.f4.params.toList args.toList ds p := hA0
  rw [Tryz.params4] at hA hval
  obtain ⟨v0, d0, rfl, rfl, h0⟩ := trodAll_one hA
  obtain ⟨rfl, rfl⟩ := trodVars_none hV
  obtain ⟨n, rfl, rfl, rfl, hwn⟩ := open_int Tryz.underlying3 (hval 0 3 v0 rfl rfl) h0
  have hb := bits_of_laid hL
  clear hA0 hval0
  simp only [List.append_nil] at hW'
  refine (calls_of_known (f := 4) (args := [.int .i64 n]) (v := .bool true) rfl rfl (enters4 n) (kAll n) hb).mono fun e W' ⟨he, h1, h2, h3⟩ => ?_
  subst he
  refine ⟨_, rfl, _, _, _, [], [], [], hW', ?_, ?_, ?_, kept_of_same h1 h2 h3 _, fun h => by cases h⟩
  · exact trodAll_mk1 (shut_bool Tryz.underlying4 true)
  · exact trodAll_mk1 (shut_int Tryz.underlying3 hwn)
  · rfl

theorem and_mk {a b : Bool} (ha : a = true) (hb : b = true) : (a && b) = true := by rw [ha, hb]; rfl

theorem jf1 : (Rows.btrigPeriodsRow.wf (OpenSpec.ofChange Rows.btrigPeriodsSpec)) = true := by kernel_rfl
theorem jf2 : (laidOutB Tryz.prog) = true := by kernel_rfl
theorem jf3 : (mapsRowed Tryz.prog) = true := by kernel_rfl
theorem jf4 : (Tryz.f4.params.all (Tryz.prog.readableRec ·)) = true := by kernel_rfl
theorem jf5 : (namedTie Tryz.prog Rows.btrigPeriodsRow.named Rows.btrigPeriodsSpec.vars) = true := by kernel_rfl
theorem jf6 : ((Rows.btrigPeriodsRow.stops == [])) = true := by kernel_rfl
theorem jf7 : ((Tryz.prog.stops == [])) = true := by kernel_rfl
theorem jf8 : ((Rows.btrigPeriodsRow.knobs == [])) = true := by kernel_rfl
theorem jf9 : ((Tryz.prog.stopKnobs == [])) = true := by kernel_rfl
theorem jf10 : ((Rows.btrigPeriodsRow.inPlace == Tryz.prog.inPlace 4)) = true := by kernel_rfl
theorem jf11 : ((Rows.btrigPeriodsRow.unfollowed == Tryz.prog.unfollowed 4)) = true := by kernel_rfl
theorem jf12 : ((Rows.btrigPeriodsRow.recurses == Tryz.prog.recurses 4)) = true := by kernel_rfl
theorem jf13 : ((Rows.btrigPeriodsRow.named == Tryz.prog.varsNamed 4)) = true := by kernel_rfl
theorem jf14 : ((Rows.btrigPeriodsRow.maps == (Tryz.f4.params.toList ++ Rows.btrigPeriodsSpec.plain.varTypes Tryz.prog).any (Tryz.prog.mapsRec ·))) = true := by kernel_rfl
theorem jf15 : ((Rows.btrigPeriodsRow.ifaces == (Tryz.f4.params.toList ++ Rows.btrigPeriodsSpec.plain.varTypes Tryz.prog).any (Tryz.prog.ifacesRec ·))) = true := by kernel_rfl
theorem jf16 : ((Rows.btrigPeriodsRow.mapsOut == Tryz.prog.mapsAmong Tryz.f4.resultTypes.toList)) = true := by kernel_rfl
theorem jf17 : ((Rows.btrigPeriodsRow.loops == (Tryz.f4.params.toList ++ Rows.btrigPeriodsSpec.plain.varTypes Tryz.prog).any (Tryz.prog.loopsFrom ·))) = true := by kernel_rfl
theorem jf18 : ((Rows.btrigPeriodsRow.wideKeys == (Tryz.f4.params.toList ++ Rows.btrigPeriodsSpec.plain.varTypes Tryz.prog ++ Tryz.f4.resultTypes.toList).any (Tryz.prog.wideKeysFrom ·))) = true := by kernel_rfl
theorem jf19 : (Rows.btrigPeriodsSpec.vars.all (Tryz.prog.varReadable ·)) = true := by kernel_rfl
theorem jf20 : (Tryz.f4.resultTypes.all (fun t => Tryz.prog.readableRec t && decide (t < Tryz.prog.types.size))) = true := by kernel_rfl
theorem jf21 : ((Rows.btrigPeriodsRow.ifacesOut == Tryz.f4.resultTypes.toList.any (Tryz.prog.ifacesRec ·))) = true := by kernel_rfl
theorem jf22 : ((Rows.btrigPeriodsRow.loopsOut == Tryz.f4.resultTypes.toList.any (Tryz.prog.loopsFrom ·))) = true := by kernel_rfl
theorem jf23 : ((Rows.btrigPeriodsRow.plainKeys == Tryz.prog.plainKeys)) = true := by kernel_rfl
theorem jf24 : (Rows.btrigPeriodsRow.shortTexts.isNone) = true := by kernel_rfl
theorem jf25 : (Tryz.prog.stopsHeard) = true := by kernel_rfl
theorem jf26 : (Tryz.prog.mayEnter) = true := by kernel_rfl
theorem jf27 : ((Rows.btrigPeriodsRow.lifted == Tryz.prog.liftsFinal)) = true := by kernel_rfl
theorem jf28 : ((Tryz.prog.make == some Rows.btrigPeriodsRow.make)) = true := by kernel_rfl
theorem jf29 : ((Rows.btrigPeriodsRow.kinds == (if Rows.btrigPeriodsRow.domain.isEmpty then [] else Tryz.f4.params.toList.map fun t => match Tryz.prog.underlying t with | some (.int k) => some k | _ => none))) = true := by kernel_rfl
theorem jf30 : ((Rows.btrigPeriodsRow.pinned == Rows.btrigPeriodsRow.pinnedBy)) = true := by kernel_rfl
theorem jf31 : ((Rows.btrigPeriodsRow.veiled == (Tryz.f4.params.toList ++ Rows.btrigPeriodsSpec.plain.varTypes Tryz.prog ++ Tryz.f4.resultTypes.toList).any (Tryz.prog.veiledRec ·))) = true := by kernel_rfl
theorem jf32 : (Rows.btrigPeriodsRow.veiledFits Tryz.prog Tryz.f4.params.toList (Tryz.f4.params.toList ++ Rows.btrigPeriodsSpec.plain.varTypes Tryz.prog ++ Tryz.f4.resultTypes.toList)) = true := by kernel_rfl

theorem closed4 : joinedFacts Tryz.prog 4 Tryz.f4 Rows.btrigPeriodsSpec Rows.btrigPeriodsRow = true := by
  unfold joinedFacts
  exact (and_mk (and_mk (and_mk (and_mk (and_mk (and_mk (and_mk (and_mk (and_mk (and_mk (and_mk (and_mk (and_mk (and_mk (and_mk (and_mk (and_mk (and_mk (and_mk (and_mk (and_mk (and_mk (and_mk (and_mk (and_mk (and_mk (and_mk (and_mk (and_mk (and_mk (and_mk jf1 jf2) jf3) jf4) jf5) jf6) jf7) jf8) jf9) jf10) jf11) jf12) jf13) jf14) jf15) jf16) jf17) jf18) jf19) jf20) jf21) jf22) jf23) jf24) jf25) jf26) jf27) jf28) jf29) jf30) jf31) jf32)

theorem named4 : Tryz.prog.funcNamed "cusp/cusplaw21.BtrigPeriods" = some 4 := by kernel_rfl
theorem looks4 : false = Tryz.prog.looks [] := by kernel_rfl
theorem noGoes : Tryz.prog.funcs.any Func.goes = false := by kernel_rfl
theorem byText4 : Rows.btrigPeriodsRow.wfByText (OpenSpec.ofChange Rows.btrigPeriodsSpec) = true := by kernel_rfl
theorem mainIs4 : Tryz.prog.mainIs = some (true, "c17d935cbd8d915157dbf0435aa70fdf3867c01e66c9f6a1413324fff673f735".toList) := by kernel_rfl

theorem btrigPeriods_holds : Rows.BtrigPeriodsSaid :=
  OpenClaim.holds_of_wide 4 Tryz.f4 rfl rfl rfl rfl rfl rfl rfl ⟨rfl, rfl, rfl, rfl, rfl⟩ rfl rfl rfl rfl rfl named4 Tryz.func4 closed4
    (of_decide_eq_true (by kernel_rfl)) (by unfold Func.isWrapper; first | (rw [if_pos (by decide +kernel)]; kernel_rfl) | (rw [if_neg (by decide +kernel)]; exact ⟨rfl, rfl⟩))
    (fun os started H enc _ => lifted os started H enc)

/-- No function of the program starts another goroutine: no call does. -/
theorem goes_none {P : Program} (h : P.funcs.any Func.goes = false) (f : FuncId) : P.goes f = false := by
  have h1 : ∀ (g : Nat) (fn : Func), P.funcs[g]? = some fn → fn.goes = false := by
    intro g fn hg
    obtain ⟨hi, rfl⟩ := Array.getElem?_eq_some_iff.1 hg
    rw [Array.any_eq_false] at h
    simpa using h g hi
  unfold Program.goes
  rw [h, Bool.and_false, Bool.or_false, List.any_eq_false]
  intro g _
  cases hg : P.funcs[g]? with
  | none => simp
  | some fn => simp [h1 g fn hg]

theorem goesBy_none {P : Program} {c : OpenClaim} (hs : c.start = .entering) (h : P.funcs.any Func.goes = false) : false = c.goesBy P := by
  unfold OpenClaim.goesBy Program.goesAt Program.goesFrom
  rw [hs]
  cases P.funcNamed c.func with
  | none => rfl
  | some f => simp [goes_none h f]

/-- THE TIED CARD. -/
theorem btrigPeriodsCard_holds : Rows.BtrigPeriodsCardSaid :=
  Claim7.holds_tied_plain_at .later [] [.data] true (true, "c17d935cbd8d915157dbf0435aa70fdf3867c01e66c9f6a1413324fff673f735") false
    btrigPeriods_holds (fun _ h => by cases h) byText4 (fun _ h => by cases h) btrigPeriods_row_tie rfl ⟨rfl, rfl⟩ mainIs4 rfl
    (fun f fn hf hfn => by
      obtain rfl : f = 4 := Option.some.inj (named4.symm.trans hf) |>.symm
      obtain rfl : fn = Tryz.f4 := (Option.some.inj (Tryz.func4.symm.trans hfn)).symm
      exact ⟨looks4, fun j t ht => by
        rw [Tryz.params4] at ht
        have hm : t ∈ [3] := by simpa using Array.mem_of_getElem? ht
        have hall : ([3].all fun u => !Tryz.prog.wantsStandIn u) = true := by kernel_rfl
        exact (show Tryz.prog.wantsStandIn t = false by simpa using List.all_eq_true.1 hall t hm)⟩)
    (goesBy_none rfl noGoes)
#print axioms btrigPeriodsCard_holds
end Go.Proofs.YtkdcifgnjdfdmaaGreatDoor
