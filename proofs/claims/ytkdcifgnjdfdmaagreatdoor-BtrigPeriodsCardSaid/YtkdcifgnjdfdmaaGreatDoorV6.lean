/- Closed calls of the given program, each run once by the fast machine in the kernel: part 6. No condition. -/
import Derived.Test.YtkdcifgnjdfdmaaGreatDoorKb
import Derived.KernelRfl
import Derived.Test.YtkdcifgnjdfdmaaGreatDoorV0
import Derived.Test.YtkdcifgnjdfdmaaGreatDoorV4
import Derived.Test.YtkdcifgnjdfdmaaGreatDoorV5
open Go AM
namespace Go.Proofs.YtkdcifgnjdfdmaaGreatDoor
set_option maxRecDepth 100000
noncomputable abbrev e19 : KE := ⟨29, [(.int .i64 3)], (.tuple #[(.agg #[(.float .f64 4618760256179416344), (.float .f64 4618760256179416345)]), (.int .i64 0)])⟩
theorem k19 : Kn e19 := go e19 141842889104122935159072679728358274259609185934069066207927324474087363374936151545241409781760 (l := [e18, e12, e11, e5, e4, e3, e2, e1, e0]) (cons' k18 (cons' k12 (cons' k11 (cons' k5 (cons' k4 (cons' k3 (cons' k2 (cons' k1 (cons' k0 nil'))))))))) rfl rfl (by kernel_rfl)
noncomputable abbrev e20 : KE := ⟨9, [(.int .i64 12)], (.tuple #[(.agg #[(.float .f64 4618760256179416344), (.float .f64 4618760256179416345)]), (.bool false), (.int .i64 0)])⟩
theorem k20 : Kn e20 := go e20 536969216 (l := [e19]) (cons' k19 nil') rfl rfl (by kernel_rfl)
noncomputable abbrev e690 : KE := ⟨4, [(.int .i64 12)], (.bool true)⟩
theorem k690 : Kn e690 := go e690 105984 (l := [e689, e36, e34, e32, e20]) (cons' k689 (cons' k36 (cons' k34 (cons' k32 (cons' k20 nil'))))) rfl rfl (by kernel_rfl)
noncomputable abbrev e692 : KE := ⟨10, [(.int .i64 13)], (.tuple #[(.agg #[(.float .f64 4618760256179416344), (.float .f64 4618760256179416345)]), (.bool false), (.int .i64 0)])⟩
theorem k692 : Kn e692 := go e692 1073840128 (l := [e31]) (cons' k31 nil') rfl rfl (by kernel_rfl)
noncomputable abbrev e691 : KE := ⟨9, [(.int .i64 13)], (.tuple #[(.agg #[(.float .f64 4618760256179416344), (.float .f64 4618760256179416345)]), (.bool false), (.int .i64 0)])⟩
theorem k691 : Kn e691 := go e691 536969216 (l := [e19]) (cons' k19 nil') rfl rfl (by kernel_rfl)
noncomputable abbrev e693 : KE := ⟨4, [(.int .i64 13)], (.bool true)⟩
theorem k693 : Kn e693 := go e693 105984 (l := [e689, e36, e34, e692, e691]) (cons' k689 (cons' k36 (cons' k34 (cons' k692 (cons' k691 nil'))))) rfl rfl (by kernel_rfl)
noncomputable abbrev e703 : KE := ⟨31, [(.float .f64 4614256656552045849)], (.int .u64 4614256656552045849)⟩
theorem k703 : Kn e703 := go e703 98304 (l := []) nil' rfl rfl (by kernel_rfl)
noncomputable abbrev e704 : KE := ⟨11, [(.float .f64 4614256656552045849), (.float .f64 4614256656552045849)], (.bool true)⟩
theorem k704 : Kn e704 := go e704 2147581952 (l := [e703]) (cons' k703 nil') rfl rfl (by kernel_rfl)
noncomputable abbrev e701 : KE := ⟨31, [(.float .f64 4614256656552045848)], (.int .u64 4614256656552045848)⟩
theorem k701 : Kn e701 := go e701 98304 (l := []) nil' rfl rfl (by kernel_rfl)
noncomputable abbrev e702 : KE := ⟨11, [(.float .f64 4614256656552045848), (.float .f64 4614256656552045848)], (.bool true)⟩
theorem k702 : Kn e702 := go e702 2147581952 (l := [e701]) (cons' k701 nil') rfl rfl (by kernel_rfl)
noncomputable abbrev e697 : KE := ⟨140, [(.float .f64 4614256656552045849)], (.float .f64 4614256656552045849)⟩
theorem k697 : Kn e697 := go e697 98304 (l := []) nil' rfl rfl (by kernel_rfl)
noncomputable abbrev e696 : KE := ⟨140, [(.float .f64 4614256656552045848)], (.float .f64 4614256656552045848)⟩
theorem k696 : Kn e696 := go e696 98304 (l := []) nil' rfl rfl (by kernel_rfl)
noncomputable abbrev e695 : KE := ⟨218, [(.bool false), (.int .u64 7074237752028441), (.int .i64 (-51))], (.float .f64 4614256656552045849)⟩
theorem k695 : Kn e695 := go e695 98304 (l := []) nil' rfl rfl (by kernel_rfl)
noncomputable abbrev e694 : KE := ⟨218, [(.bool false), (.int .u64 7074237752028440), (.int .i64 (-51))], (.float .f64 4614256656552045848)⟩
theorem k694 : Kn e694 := go e694 98304 (l := []) nil' rfl rfl (by kernel_rfl)
end Go.Proofs.YtkdcifgnjdfdmaaGreatDoor
