/- Closed calls of the given program, each run once by the fast machine in the kernel: part 7. No condition. -/
import Derived.Test.YtkdcifgnjdfdmaaGreatDoorKb
import Derived.KernelRfl
import Derived.Test.YtkdcifgnjdfdmaaGreatDoorV0
import Derived.Test.YtkdcifgnjdfdmaaGreatDoorV4
import Derived.Test.YtkdcifgnjdfdmaaGreatDoorV5
import Derived.Test.YtkdcifgnjdfdmaaGreatDoorV6
open Go AM
namespace Go.Proofs.YtkdcifgnjdfdmaaGreatDoor
set_option maxRecDepth 100000
noncomputable abbrev e698 : KE := ⟨73, [(.int .i64 1), (.agg #[(.bool false), (.slice none 0 0), (.int .i64 0)]), (.agg #[(.bool false), (.slice none 0 0), (.int .i64 0)])], (.agg #[(.float .f64 4614256656552045848), (.float .f64 4614256656552045849)])⟩
theorem k698 : Kn e698 := go e698 711426596274071126137274875787276052793366464862001878107996963937301291264475136 (l := [e697, e696, e695, e694, e25, e22, e23]) (cons' k697 (cons' k696 (cons' k695 (cons' k694 (cons' k25 (cons' k22 (cons' k23 nil'))))))) rfl rfl (by kernel_rfl)
noncomputable abbrev e699 : KE := ⟨30, [(.int .i64 1)], (.tuple #[(.agg #[(.float .f64 4614256656552045848), (.float .f64 4614256656552045849)]), (.int .i64 0)])⟩
theorem k699 : Kn e699 := go e699 9444732965739290525696 (l := [e698]) (cons' k698 nil') rfl rfl (by kernel_rfl)
noncomputable abbrev e700 : KE := ⟨10, [(.int .i64 14)], (.tuple #[(.agg #[(.float .f64 4614256656552045848), (.float .f64 4614256656552045849)]), (.bool false), (.int .i64 0)])⟩
theorem k700 : Kn e700 := go e700 1073840128 (l := [e699]) (cons' k699 nil') rfl rfl (by kernel_rfl)
noncomputable abbrev e705 : KE := ⟨4, [(.int .i64 14)], (.bool true)⟩
theorem k705 : Kn e705 := go e705 105984 (l := [e689, e704, e702, e700, e687]) (cons' k689 (cons' k704 (cons' k702 (cons' k700 (cons' k687 nil'))))) rfl rfl (by kernel_rfl)
noncomputable abbrev e707 : KE := ⟨10, [(.int .i64 15)], (.tuple #[(.agg #[(.float .f64 4618760256179416344), (.float .f64 4618760256179416345)]), (.bool true), (.int .i64 0)])⟩
theorem k707 : Kn e707 := go e707 1073840128 (l := [e31]) (cons' k31 nil') rfl rfl (by kernel_rfl)
noncomputable abbrev e706 : KE := ⟨9, [(.int .i64 15)], (.tuple #[(.agg #[(.float .f64 4618760256179416344), (.float .f64 4618760256179416345)]), (.bool true), (.int .i64 0)])⟩
theorem k706 : Kn e706 := go e706 536969216 (l := [e19]) (cons' k19 nil') rfl rfl (by kernel_rfl)
noncomputable abbrev e708 : KE := ⟨4, [(.int .i64 15)], (.bool true)⟩
theorem k708 : Kn e708 := go e708 105984 (l := [e689, e36, e34, e707, e706]) (cons' k689 (cons' k36 (cons' k34 (cons' k707 (cons' k706 nil'))))) rfl rfl (by kernel_rfl)
noncomputable abbrev e710 : KE := ⟨10, [(.int .i64 16)], (.tuple #[(.agg #[(.float .f64 4618760256179416344), (.float .f64 4618760256179416345)]), (.bool true), (.int .i64 0)])⟩
theorem k710 : Kn e710 := go e710 1073840128 (l := [e31]) (cons' k31 nil') rfl rfl (by kernel_rfl)
noncomputable abbrev e709 : KE := ⟨9, [(.int .i64 16)], (.tuple #[(.agg #[(.float .f64 4618760256179416344), (.float .f64 4618760256179416345)]), (.bool true), (.int .i64 0)])⟩
theorem k709 : Kn e709 := go e709 536969216 (l := [e19]) (cons' k19 nil') rfl rfl (by kernel_rfl)
noncomputable abbrev e711 : KE := ⟨4, [(.int .i64 16)], (.bool true)⟩
theorem k711 : Kn e711 := go e711 105984 (l := [e689, e36, e34, e710, e709]) (cons' k689 (cons' k36 (cons' k34 (cons' k710 (cons' k709 nil'))))) rfl rfl (by kernel_rfl)
noncomputable abbrev e713 : KE := ⟨10, [(.int .i64 17)], (.tuple #[(.agg #[(.float .f64 4614256656552045848), (.float .f64 4614256656552045849)]), (.bool true), (.int .i64 0)])⟩
theorem k713 : Kn e713 := go e713 1073840128 (l := [e699]) (cons' k699 nil') rfl rfl (by kernel_rfl)
noncomputable abbrev e712 : KE := ⟨9, [(.int .i64 17)], (.tuple #[(.agg #[(.float .f64 4614256656552045848), (.float .f64 4614256656552045849)]), (.bool true), (.int .i64 0)])⟩
theorem k712 : Kn e712 := go e712 536969216 (l := [e686]) (cons' k686 nil') rfl rfl (by kernel_rfl)
noncomputable abbrev e714 : KE := ⟨4, [(.int .i64 17)], (.bool true)⟩
theorem k714 : Kn e714 := go e714 105984 (l := [e689, e704, e702, e713, e712]) (cons' k689 (cons' k704 (cons' k702 (cons' k713 (cons' k712 nil'))))) rfl rfl (by kernel_rfl)
end Go.Proofs.YtkdcifgnjdfdmaaGreatDoor
