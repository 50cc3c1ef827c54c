/- Closed calls of the given program, each run once by the fast machine in the kernel: part 5. No condition. -/
import Derived.Test.YtkdcifgnjdfdmaaGreatDoorKb
import Derived.KernelRfl
import Derived.Test.YtkdcifgnjdfdmaaGreatDoorV0
import Derived.Test.YtkdcifgnjdfdmaaGreatDoorV4
open Go AM
namespace Go.Proofs.YtkdcifgnjdfdmaaGreatDoor
set_option maxRecDepth 100000
noncomputable abbrev e30 : KE := ⟨73, [(.int .i64 3), (.agg #[(.bool false), (.slice none 0 0), (.int .i64 0)]), (.agg #[(.bool false), (.slice none 0 0), (.int .i64 0)])], (.agg #[(.float .f64 4618760256179416344), (.float .f64 4618760256179416345)])⟩
theorem k30 : Kn e30 := go e30 711426596274071126137274875787276052793366464862001878107996963937301291264475136 (l := [e29, e28, e27, e26, e25, e22, e23]) (cons' k29 (cons' k28 (cons' k27 (cons' k26 (cons' k25 (cons' k22 (cons' k23 nil'))))))) rfl rfl (by kernel_rfl)
noncomputable abbrev e31 : KE := ⟨30, [(.int .i64 3)], (.tuple #[(.agg #[(.float .f64 4618760256179416344), (.float .f64 4618760256179416345)]), (.int .i64 0)])⟩
theorem k31 : Kn e31 := go e31 9444732965739290525696 (l := [e30]) (cons' k30 nil') rfl rfl (by kernel_rfl)
noncomputable abbrev e32 : KE := ⟨10, [(.int .i64 12)], (.tuple #[(.agg #[(.float .f64 4618760256179416344), (.float .f64 4618760256179416345)]), (.bool false), (.int .i64 0)])⟩
theorem k32 : Kn e32 := go e32 1073840128 (l := [e31]) (cons' k31 nil') rfl rfl (by kernel_rfl)
noncomputable abbrev e17 : KE := ⟨310, [(.float .f64 4843940237547941145), (.int .i64 (-50))], (.float .f64 4618760256179416345)⟩
theorem k17 : Kn e17 := go e17 71671831749689734737838152978190216899892655911508785116799651230841339877765769222355296427418553778176 (l := [e16, e15, e14]) (cons' k16 (cons' k15 (cons' k14 nil'))) rfl rfl (by kernel_rfl)
noncomputable abbrev e18 : KE := ⟨244, [(.float .f64 4843940237547941145), (.int .i64 (-50))], (.float .f64 4618760256179416345)⟩
theorem k18 : Kn e18 := go e18 2085924839766513752338888384931203236916703635113918720651407820138886450957656787131799011328 (l := [e17]) (cons' k17 nil') rfl rfl (by kernel_rfl)
noncomputable abbrev e10 : KE := ⟨310, [(.float .f64 4843940237547941144), (.int .i64 (-50))], (.float .f64 4618760256179416344)⟩
theorem k10 : Kn e10 := go e10 71671831749689734737838152978190216899892655911508785116799651230841339877765769222355296427418553778176 (l := [e9, e8, e7]) (cons' k9 (cons' k8 (cons' k7 nil'))) rfl rfl (by kernel_rfl)
noncomputable abbrev e11 : KE := ⟨244, [(.float .f64 4843940237547941144), (.int .i64 (-50))], (.float .f64 4618760256179416344)⟩
theorem k11 : Kn e11 := go e11 2085924839766513752338888384931203236916703635113918720651407820138886450957656787131799011328 (l := [e10]) (cons' k10 nil') rfl rfl (by kernel_rfl)
noncomputable abbrev e3 : KE := ⟨316, [(.int .u32 115406176)], (.int .i64 5)⟩
theorem k3 : Kn e3 := goT e3 rfl rfl (fun e => by kernel_rfl)
noncomputable abbrev e1 : KE := ⟨316, [(.int .u32 115398432)], (.int .i64 5)⟩
theorem k1 : Kn e1 := goT e1 rfl rfl (fun e => by kernel_rfl)
noncomputable abbrev e0 : KE := ⟨69, [(.int .i64 3)], (.bool true)⟩
theorem k0 : Kn e0 := go e0 98304 (l := []) nil' rfl rfl (by kernel_rfl)
end Go.Proofs.YtkdcifgnjdfdmaaGreatDoor
