/- Closed calls of the given program, each run once by the fast machine in the kernel: part 0. No condition. -/
import Derived.Test.YtkdcifgnjdfdmaaGreatDoorKb
import Derived.KernelRfl
open Go AM
namespace Go.Proofs.YtkdcifgnjdfdmaaGreatDoor
set_option maxRecDepth 100000
noncomputable abbrev e688 : KE := ⟨33, [(.int .i64 0), (.agg #[(.complex .f64 0 0), (.float .f64 0)])], (.tuple #[(.agg #[(.complex .f64 0 0), (.float .f64 0)]), (.slice none 0 0), (.int .i64 1)])⟩
theorem k688 : Kn e688 := go e688 98304 (l := []) nil' rfl rfl (by kernel_rfl)
noncomputable abbrev e13 : KE := ⟨90, [(.float .f64 4843940237547941145)], (.float .f64 4843940237547941145)⟩
theorem k13 : Kn e13 := go e13 98304 (l := []) nil' rfl rfl (by kernel_rfl)
noncomputable abbrev e16 : KE := ⟨345, [(.float .f64 4843940237547941145)], (.tuple #[(.float .f64 4843940237547941145), (.int .i64 0)])⟩
theorem k16 : Kn e16 := go e16 1237940039285380274899222528 (l := [e13]) (cons' k13 nil') rfl rfl (by kernel_rfl)
noncomputable abbrev e15 : KE := ⟨67, [(.float .f64 4843940237547941145)], (.bool false)⟩
theorem k15 : Kn e15 := go e15 98304 (l := []) nil' rfl rfl (by kernel_rfl)
noncomputable abbrev e14 : KE := ⟨89, [(.float .f64 4843940237547941145), (.int .i64 0)], (.bool false)⟩
theorem k14 : Kn e14 := go e14 1237940039285380274899222528 (l := [e13]) (cons' k13 nil') rfl rfl (by kernel_rfl)
noncomputable abbrev e684 : KE := ⟨310, [(.float .f64 4843940237547941145), (.int .i64 (-51))], (.float .f64 4614256656552045849)⟩
theorem k684 : Kn e684 := go e684 71671831749689734737838152978190216899892655911508785116799651230841339877765769222355296427418553778176 (l := [e16, e15, e14]) (cons' k16 (cons' k15 (cons' k14 nil'))) rfl rfl (by kernel_rfl)
noncomputable abbrev e685 : KE := ⟨244, [(.float .f64 4843940237547941145), (.int .i64 (-51))], (.float .f64 4614256656552045849)⟩
theorem k685 : Kn e685 := go e685 2085924839766513752338888384931203236916703635113918720651407820138886450957656787131799011328 (l := [e684]) (cons' k684 nil') rfl rfl (by kernel_rfl)
noncomputable abbrev e12 : KE := ⟨172, [(.int .i64 3)], (.bool true)⟩
theorem k12 : Kn e12 := go e12 98304 (l := []) nil' rfl rfl (by kernel_rfl)
noncomputable abbrev e6 : KE := ⟨90, [(.float .f64 4843940237547941144)], (.float .f64 4843940237547941144)⟩
theorem k6 : Kn e6 := go e6 98304 (l := []) nil' rfl rfl (by kernel_rfl)
noncomputable abbrev e9 : KE := ⟨345, [(.float .f64 4843940237547941144)], (.tuple #[(.float .f64 4843940237547941144), (.int .i64 0)])⟩
theorem k9 : Kn e9 := go e9 1237940039285380274899222528 (l := [e6]) (cons' k6 nil') rfl rfl (by kernel_rfl)
noncomputable abbrev e8 : KE := ⟨67, [(.float .f64 4843940237547941144)], (.bool false)⟩
theorem k8 : Kn e8 := go e8 98304 (l := []) nil' rfl rfl (by kernel_rfl)
noncomputable abbrev e7 : KE := ⟨89, [(.float .f64 4843940237547941144), (.int .i64 0)], (.bool false)⟩
theorem k7 : Kn e7 := go e7 1237940039285380274899222528 (l := [e6]) (cons' k6 nil') rfl rfl (by kernel_rfl)
noncomputable abbrev e682 : KE := ⟨310, [(.float .f64 4843940237547941144), (.int .i64 (-51))], (.float .f64 4614256656552045848)⟩
theorem k682 : Kn e682 := go e682 71671831749689734737838152978190216899892655911508785116799651230841339877765769222355296427418553778176 (l := [e9, e8, e7]) (cons' k9 (cons' k8 (cons' k7 nil'))) rfl rfl (by kernel_rfl)
noncomputable abbrev e683 : KE := ⟨244, [(.float .f64 4843940237547941144), (.int .i64 (-51))], (.float .f64 4614256656552045848)⟩
theorem k683 : Kn e683 := go e683 2085924839766513752338888384931203236916703635113918720651407820138886450957656787131799011328 (l := [e682]) (cons' k682 nil') rfl rfl (by kernel_rfl)
noncomputable abbrev e5 : KE := ⟨312, [(.int .u32 1647099)], (.int .i64 21)⟩
theorem k5 : Kn e5 := go e5 98304 (l := []) nil' rfl rfl (by kernel_rfl)
noncomputable abbrev e4 : KE := ⟨172, [(.int .i64 1)], (.bool true)⟩
theorem k4 : Kn e4 := go e4 98304 (l := []) nil' rfl rfl (by kernel_rfl)
noncomputable abbrev e533 : KE := ⟨316, [(.int .u32 57703088)], (.int .i64 4)⟩
theorem k533 : Kn e533 := goT e533 rfl rfl (fun e => by kernel_rfl)
noncomputable abbrev e2 : KE := ⟨312, [(.int .u32 843314856)], (.int .i64 30)⟩
theorem k2 : Kn e2 := go e2 98304 (l := []) nil' rfl rfl (by kernel_rfl)
noncomputable abbrev e532 : KE := ⟨316, [(.int .u32 57699216)], (.int .i64 4)⟩
theorem k532 : Kn e532 := goT e532 rfl rfl (fun e => by kernel_rfl)
noncomputable abbrev e681 : KE := ⟨69, [(.int .i64 1)], (.bool true)⟩
theorem k681 : Kn e681 := go e681 98304 (l := []) nil' rfl rfl (by kernel_rfl)
noncomputable abbrev e686 : KE := ⟨29, [(.int .i64 1)], (.tuple #[(.agg #[(.float .f64 4614256656552045848), (.float .f64 4614256656552045849)]), (.int .i64 0)])⟩
theorem k686 : Kn e686 := go e686 141842889104122935159072679728358274259609185934069066207927324474087363374936151545241409781760 (l := [e685, e12, e683, e5, e4, e533, e2, e532, e681]) (cons' k685 (cons' k12 (cons' k683 (cons' k5 (cons' k4 (cons' k533 (cons' k2 (cons' k532 (cons' k681 nil'))))))))) rfl rfl (by kernel_rfl)
noncomputable abbrev e687 : KE := ⟨9, [(.int .i64 14)], (.tuple #[(.agg #[(.float .f64 4614256656552045848), (.float .f64 4614256656552045849)]), (.bool false), (.int .i64 0)])⟩
theorem k687 : Kn e687 := go e687 536969216 (l := [e686]) (cons' k686 nil') rfl rfl (by kernel_rfl)
noncomputable abbrev e660 : KE := ⟨282, [(.float .f64 13833125093779451160)], (.float .f64 4609753056924675352)⟩
theorem k660 : Kn e660 := go e660 98304 (l := []) nil' rfl rfl (by kernel_rfl)
noncomputable abbrev e677 : KE := ⟨282, [(.float .f64 13831981907121275956)], (.float .f64 4608609870266500148)⟩
theorem k677 : Kn e677 := go e677 98304 (l := []) nil' rfl rfl (by kernel_rfl)
noncomputable abbrev e676 : KE := ⟨282, [(.float .f64 4609753056924675352)], (.float .f64 13833125093779451160)⟩
theorem k676 : Kn e676 := go e676 98304 (l := []) nil' rfl rfl (by kernel_rfl)
noncomputable abbrev e678 : KE := ⟨224, [(.complex .f64 13831981907121275956 4609753056924675352), (.int .i64 3)], (.complex .f64 4609753056924675352 4608609870266500148)⟩
theorem k678 : Kn e678 := go e678 7770675568902916283677847627294075626569627356208558085007249638955617140820834091008 (l := [e660, e677, e676]) (cons' k660 (cons' k677 (cons' k676 nil'))) rfl rfl (by kernel_rfl)
noncomputable abbrev e663 : KE := ⟨67, [(.float .f64 13831981907121275956)], (.bool false)⟩
theorem k663 : Kn e663 := go e663 98304 (l := []) nil' rfl rfl (by kernel_rfl)
noncomputable abbrev e664 : KE := ⟨235, [(.float .f64 13831981907121275956), (.float .f64 0)], (.bool false)⟩
theorem k664 : Kn e664 := go e664 147573952589676511232 (l := [e663]) (cons' k663 nil') rfl rfl (by kernel_rfl)
noncomputable abbrev e665 : KE := ⟨153, [(.complex .f64 13831981907121275956 4609753056924675352), (.complex .f64 0 0)], (.bool false)⟩
theorem k665 : Kn e665 := go e665 55213970774324510299478046898216203619608871777363092441300193790492672 (l := [e664]) (cons' k664 nil') rfl rfl (by kernel_rfl)
noncomputable abbrev e666 : KE := ⟨88, [(.agg #[(.complex .f64 13831981907121275956 4609753056924675352), (.float .f64 4376067426105093923)]), (.agg #[(.complex .f64 0 0), (.float .f64 9218868437227405312)])], (.bool false)⟩
theorem k666 : Kn e666 := go e666 11417981541647679048466287755595961091062071296 (l := [e665]) (cons' k665 nil') rfl rfl (by kernel_rfl)
noncomputable abbrev e37 : KE := ⟨42, [(.int .i64 1)], (.float .f64 9218868437227405312)⟩
theorem k37 : Kn e37 := go e37 98304 (l := []) nil' rfl rfl (by kernel_rfl)
noncomputable abbrev e38 : KE := ⟨20, [], (.agg #[(.complex .f64 0 0), (.float .f64 9218868437227405312)])⟩
theorem k38 : Kn e38 := go e38 4398046609408 (l := [e37]) (cons' k37 nil') rfl rfl (by kernel_rfl)
noncomputable abbrev e667 : KE := ⟨36, [(.agg #[(.complex .f64 13831981907121275956 4609753056924675352), (.float .f64 4376067426105093923)])], (.bool false)⟩
theorem k667 : Kn e667 := go e667 309485009821345068725927936 (l := [e666, e38]) (cons' k666 (cons' k38 nil')) rfl rfl (by kernel_rfl)
noncomputable abbrev e657 : KE := ⟨38, [(.float .f64 4376067426105093923)], (.bool false)⟩
theorem k657 : Kn e657 := go e657 98304 (l := []) nil' rfl rfl (by kernel_rfl)
noncomputable abbrev e650 : KE := ⟨67, [(.float .f64 4376067426105093923)], (.bool false)⟩
theorem k650 : Kn e650 := go e650 98304 (l := []) nil' rfl rfl (by kernel_rfl)
noncomputable abbrev e648 : KE := ⟨90, [(.float .f64 4376067426105093923)], (.float .f64 4376067426105093923)⟩
theorem k648 : Kn e648 := go e648 98304 (l := []) nil' rfl rfl (by kernel_rfl)
noncomputable abbrev e649 : KE := ⟨89, [(.float .f64 4376067426105093923), (.int .i64 0)], (.bool false)⟩
theorem k649 : Kn e649 := go e649 1237940039285380274899222528 (l := [e648]) (cons' k648 nil') rfl rfl (by kernel_rfl)
noncomputable abbrev e651 : KE := ⟨37, [(.float .f64 4376067426105093923)], (.bool true)⟩
theorem k651 : Kn e651 := go e651 618970167216642727126073344 (l := [e650, e649]) (cons' k650 (cons' k649 nil')) rfl rfl (by kernel_rfl)
noncomputable abbrev e673 : KE := ⟨67, [(.float .f64 4609753056924675352)], (.bool false)⟩
theorem k673 : Kn e673 := go e673 98304 (l := []) nil' rfl rfl (by kernel_rfl)
noncomputable abbrev e671 : KE := ⟨90, [(.float .f64 4609753056924675352)], (.float .f64 4609753056924675352)⟩
theorem k671 : Kn e671 := go e671 98304 (l := []) nil' rfl rfl (by kernel_rfl)
noncomputable abbrev e672 : KE := ⟨89, [(.float .f64 4609753056924675352), (.int .i64 0)], (.bool false)⟩
theorem k672 : Kn e672 := go e672 1237940039285380274899222528 (l := [e671]) (cons' k671 nil') rfl rfl (by kernel_rfl)
noncomputable abbrev e674 : KE := ⟨37, [(.float .f64 4609753056924675352)], (.bool true)⟩
theorem k674 : Kn e674 := go e674 618970167216642727126073344 (l := [e673, e672]) (cons' k673 (cons' k672 nil')) rfl rfl (by kernel_rfl)
noncomputable abbrev e668 : KE := ⟨90, [(.float .f64 13831981907121275956)], (.float .f64 4608609870266500148)⟩
theorem k668 : Kn e668 := go e668 98304 (l := []) nil' rfl rfl (by kernel_rfl)
noncomputable abbrev e669 : KE := ⟨89, [(.float .f64 13831981907121275956), (.int .i64 0)], (.bool false)⟩
theorem k669 : Kn e669 := go e669 1237940039285380274899222528 (l := [e668]) (cons' k668 nil') rfl rfl (by kernel_rfl)
noncomputable abbrev e670 : KE := ⟨37, [(.float .f64 13831981907121275956)], (.bool true)⟩
theorem k670 : Kn e670 := go e670 618970167216642727126073344 (l := [e663, e669]) (cons' k663 (cons' k669 nil')) rfl rfl (by kernel_rfl)
noncomputable abbrev e675 : KE := ⟨17, [(.agg #[(.complex .f64 13831981907121275956 4609753056924675352), (.float .f64 4376067426105093923)])], (.bool true)⟩
theorem k675 : Kn e675 := go e675 481036435456 (l := [e657, e651, e674, e670, e667]) (cons' k657 (cons' k651 (cons' k674 (cons' k670 (cons' k667 nil'))))) rfl rfl (by kernel_rfl)
noncomputable abbrev e679 : KE := ⟨141, [(.agg #[(.complex .f64 13831981907121275956 4609753056924675352), (.float .f64 4376067426105093923)]), (.int .i64 3)], (.tuple #[(.agg #[(.complex .f64 4609753056924675352 4608609870266500148), (.float .f64 4376067426105093923)]), (.int .i64 0)])⟩
theorem k679 : Kn e679 := go e679 26959946667150639794667015087019630673637144422540572481172329955328 (l := [e678, e667, e675]) (cons' k678 (cons' k667 (cons' k675 nil'))) rfl rfl (by kernel_rfl)
noncomputable abbrev e680 : KE := ⟨75, [(.agg #[(.complex .f64 13831981907121275956 4609753056924675352), (.float .f64 4376067426105093923)]), (.int .i64 3)], (.agg #[(.complex .f64 4609753056924675352 4608609870266500148), (.float .f64 4376067426105093923)])⟩
theorem k680 : Kn e680 := go e680 2787593149816327892691964784081045188345856 (l := [e679]) (cons' k679 nil') rfl rfl (by kernel_rfl)
noncomputable abbrev e659 : KE := ⟨282, [(.float .f64 4608609870266500148)], (.float .f64 13831981907121275956)⟩
theorem k659 : Kn e659 := go e659 98304 (l := []) nil' rfl rfl (by kernel_rfl)
noncomputable abbrev e661 : KE := ⟨231, [(.complex .f64 4608609870266500148 13833125093779451160)], (.complex .f64 13831981907121275956 4609753056924675352)⟩
theorem k661 : Kn e661 := go e661 7770675568902916283677847627294075626569627356208558085007249638955617140820834091008 (l := [e660, e659]) (cons' k660 (cons' k659 nil')) rfl rfl (by kernel_rfl)
noncomputable abbrev e552 : KE := ⟨67, [(.float .f64 4608609870266500148)], (.bool false)⟩
theorem k552 : Kn e552 := go e552 98304 (l := []) nil' rfl rfl (by kernel_rfl)
noncomputable abbrev e626 : KE := ⟨235, [(.float .f64 4608609870266500148), (.float .f64 0)], (.bool false)⟩
theorem k626 : Kn e626 := go e626 147573952589676511232 (l := [e552]) (cons' k552 nil') rfl rfl (by kernel_rfl)
noncomputable abbrev e627 : KE := ⟨153, [(.complex .f64 4608609870266500148 13833125093779451160), (.complex .f64 0 0)], (.bool false)⟩
theorem k627 : Kn e627 := go e627 55213970774324510299478046898216203619608871777363092441300193790492672 (l := [e626]) (cons' k626 nil') rfl rfl (by kernel_rfl)
noncomputable abbrev e655 : KE := ⟨88, [(.agg #[(.complex .f64 4608609870266500148 13833125093779451160), (.float .f64 4376067426105093923)]), (.agg #[(.complex .f64 0 0), (.float .f64 9218868437227405312)])], (.bool false)⟩
theorem k655 : Kn e655 := go e655 11417981541647679048466287755595961091062071296 (l := [e627]) (cons' k627 nil') rfl rfl (by kernel_rfl)
noncomputable abbrev e656 : KE := ⟨36, [(.agg #[(.complex .f64 4608609870266500148 13833125093779451160), (.float .f64 4376067426105093923)])], (.bool false)⟩
theorem k656 : Kn e656 := go e656 309485009821345068725927936 (l := [e655, e38]) (cons' k655 (cons' k38 nil')) rfl rfl (by kernel_rfl)
noncomputable abbrev e564 : KE := ⟨67, [(.float .f64 13833125093779451160)], (.bool false)⟩
theorem k564 : Kn e564 := go e564 98304 (l := []) nil' rfl rfl (by kernel_rfl)
noncomputable abbrev e562 : KE := ⟨90, [(.float .f64 13833125093779451160)], (.float .f64 4609753056924675352)⟩
theorem k562 : Kn e562 := go e562 98304 (l := []) nil' rfl rfl (by kernel_rfl)
noncomputable abbrev e563 : KE := ⟨89, [(.float .f64 13833125093779451160), (.int .i64 0)], (.bool false)⟩
theorem k563 : Kn e563 := go e563 1237940039285380274899222528 (l := [e562]) (cons' k562 nil') rfl rfl (by kernel_rfl)
noncomputable abbrev e565 : KE := ⟨37, [(.float .f64 13833125093779451160)], (.bool true)⟩
theorem k565 : Kn e565 := go e565 618970167216642727126073344 (l := [e564, e563]) (cons' k564 (cons' k563 nil')) rfl rfl (by kernel_rfl)
noncomputable abbrev e550 : KE := ⟨90, [(.float .f64 4608609870266500148)], (.float .f64 4608609870266500148)⟩
theorem k550 : Kn e550 := go e550 98304 (l := []) nil' rfl rfl (by kernel_rfl)
noncomputable abbrev e551 : KE := ⟨89, [(.float .f64 4608609870266500148), (.int .i64 0)], (.bool false)⟩
theorem k551 : Kn e551 := go e551 1237940039285380274899222528 (l := [e550]) (cons' k550 nil') rfl rfl (by kernel_rfl)
noncomputable abbrev e553 : KE := ⟨37, [(.float .f64 4608609870266500148)], (.bool true)⟩
theorem k553 : Kn e553 := go e553 618970167216642727126073344 (l := [e552, e551]) (cons' k552 (cons' k551 nil')) rfl rfl (by kernel_rfl)
noncomputable abbrev e658 : KE := ⟨17, [(.agg #[(.complex .f64 4608609870266500148 13833125093779451160), (.float .f64 4376067426105093923)])], (.bool true)⟩
theorem k658 : Kn e658 := go e658 481036435456 (l := [e657, e651, e565, e553, e656]) (cons' k657 (cons' k651 (cons' k565 (cons' k553 (cons' k656 nil'))))) rfl rfl (by kernel_rfl)
noncomputable abbrev e662 : KE := ⟨148, [(.agg #[(.complex .f64 4608609870266500148 13833125093779451160), (.float .f64 4376067426105093923)])], (.tuple #[(.agg #[(.complex .f64 13831981907121275956 4609753056924675352), (.float .f64 4376067426105093923)]), (.int .i64 0)])⟩
theorem k662 : Kn e662 := go e662 3450873173395281893717377931138512726225554486085193277581330831605760 (l := [e661, e656, e658]) (cons' k661 (cons' k656 (cons' k658 nil'))) rfl rfl (by kernel_rfl)
noncomputable abbrev e652 : KE := ⟨59, [(.complex .f64 4608609870266500148 13833125093779451160), (.float .f64 4376067426105093923)], (.agg #[(.complex .f64 4608609870266500148 13833125093779451160), (.float .f64 4376067426105093923)])⟩
theorem k652 : Kn e652 := go e652 137439051776 (l := [e651, e565, e553]) (cons' k651 (cons' k565 (cons' k553 nil'))) rfl rfl (by kernel_rfl)
noncomputable abbrev e641 : KE := ⟨90, [(.float .f64 4844441787351625507)], (.float .f64 4844441787351625507)⟩
theorem k641 : Kn e641 := go e641 98304 (l := []) nil' rfl rfl (by kernel_rfl)
noncomputable abbrev e644 : KE := ⟨345, [(.float .f64 4844441787351625507)], (.tuple #[(.float .f64 4844441787351625507), (.int .i64 0)])⟩
theorem k644 : Kn e644 := go e644 1237940039285380274899222528 (l := [e641]) (cons' k641 nil') rfl rfl (by kernel_rfl)
noncomputable abbrev e643 : KE := ⟨67, [(.float .f64 4844441787351625507)], (.bool false)⟩
theorem k643 : Kn e643 := go e643 98304 (l := []) nil' rfl rfl (by kernel_rfl)
noncomputable abbrev e642 : KE := ⟨89, [(.float .f64 4844441787351625507), (.int .i64 0)], (.bool false)⟩
theorem k642 : Kn e642 := go e642 1237940039285380274899222528 (l := [e641]) (cons' k641 nil') rfl rfl (by kernel_rfl)
noncomputable abbrev e645 : KE := ⟨310, [(.float .f64 4844441787351625507), (.int .i64 (-104))], (.float .f64 4376067426105093923)⟩
theorem k645 : Kn e645 := go e645 71671831749689734737838152978190216899892655911508785116799651230841339877765769222355296427418553778176 (l := [e644, e643, e642]) (cons' k644 (cons' k643 (cons' k642 nil'))) rfl rfl (by kernel_rfl)
noncomputable abbrev e646 : KE := ⟨244, [(.float .f64 4844441787351625507), (.int .i64 (-104))], (.float .f64 4376067426105093923)⟩
theorem k646 : Kn e646 := go e646 2085924839766513752338888384931203236916703635113918720651407820138886450957656787131799011328 (l := [e645]) (cons' k645 nil') rfl rfl (by kernel_rfl)
noncomputable abbrev e640 : KE := ⟨312, [(.int .u32 1763875)], (.int .i64 21)⟩
theorem k640 : Kn e640 := go e640 98304 (l := []) nil' rfl rfl (by kernel_rfl)
noncomputable abbrev e639 : KE := ⟨316, [(.int .u32 2116480803)], (.int .i64 0)⟩
theorem k639 : Kn e639 := goT e639 rfl rfl (fun e => by kernel_rfl)
noncomputable abbrev e638 : KE := ⟨312, [(.int .u32 140482)], (.int .i64 18)⟩
theorem k638 : Kn e638 := go e638 98304 (l := []) nil' rfl rfl (by kernel_rfl)
noncomputable abbrev e637 : KE := ⟨316, [(.int .u32 1587465560)], (.int .i64 3)⟩
theorem k637 : Kn e637 := goT e637 rfl rfl (fun e => by kernel_rfl)
noncomputable abbrev e634 : KE := ⟨90, [(.float .f64 4364311382827388248)], (.float .f64 4364311382827388248)⟩
theorem k634 : Kn e634 := go e634 98304 (l := []) nil' rfl rfl (by kernel_rfl)
noncomputable abbrev e635 : KE := ⟨89, [(.float .f64 4364311382827388248), (.int .i64 0)], (.bool false)⟩
theorem k635 : Kn e635 := go e635 1237940039285380274899222528 (l := [e634]) (cons' k634 nil') rfl rfl (by kernel_rfl)
noncomputable abbrev e632 : KE := ⟨67, [(.float .f64 4364311382827388248)], (.bool false)⟩
theorem k632 : Kn e632 := go e632 98304 (l := []) nil' rfl rfl (by kernel_rfl)
noncomputable abbrev e611 : KE := ⟨312, [(.int .u32 1482910)], (.int .i64 21)⟩
theorem k611 : Kn e611 := go e611 98304 (l := []) nil' rfl rfl (by kernel_rfl)
noncomputable abbrev e620 : KE := ⟨316, [(.int .u32 1719614413)], (.int .i64 0)⟩
theorem k620 : Kn e620 := goT e620 rfl rfl (fun e => by kernel_rfl)
noncomputable abbrev e618 : KE := ⟨90, [(.float .f64 4374860690221906893)], (.float .f64 4374860690221906893)⟩
theorem k618 : Kn e618 := go e618 98304 (l := []) nil' rfl rfl (by kernel_rfl)
noncomputable abbrev e619 : KE := ⟨89, [(.float .f64 4374860690221906893), (.int .i64 0)], (.bool false)⟩
theorem k619 : Kn e619 := go e619 1237940039285380274899222528 (l := [e618]) (cons' k618 nil') rfl rfl (by kernel_rfl)
noncomputable abbrev e602 : KE := ⟨67, [(.float .f64 4374860690221906893)], (.bool false)⟩
theorem k602 : Kn e602 := go e602 98304 (l := []) nil' rfl rfl (by kernel_rfl)
noncomputable abbrev e636 : KE := ⟨115, [(.float .f64 4364311382827388248)], (.bool false)⟩
theorem k636 : Kn e636 := go e636 618970019642690137449660416 (l := [e635]) (cons' k635 nil') rfl rfl (by kernel_rfl)
noncomputable abbrev e633 : KE := ⟨115, [(.float .f64 4374860690221906893)], (.bool false)⟩
theorem k633 : Kn e633 := go e633 618970019642690137449660416 (l := [e619]) (cons' k619 nil') rfl rfl (by kernel_rfl)
noncomputable abbrev e97 : KE := ⟨113, [(.int .i64 3)], (.int .i64 0)⟩
theorem k97 : Kn e97 := go e97 98304 (l := []) nil' rfl rfl (by kernel_rfl)
noncomputable abbrev e647 : KE := ⟨68, [(.float .f64 4374860690221906893), (.float .f64 4364311382827388248), (.int .i64 3)], (.float .f64 4376067426105093923)⟩
theorem k647 : Kn e647 := go e647 141842889104122935159072679728358274259609185934069066207927376397056567692789357682573122306048 (l := [e646, e12, e640, e639, e638, e637, e635, e632, e611, e620, e619, e602, e636, e633, e97]) (cons' k646 (cons' k12 (cons' k640 (cons' k639 (cons' k638 (cons' k637 (cons' k635 (cons' k632 (cons' k611 (cons' k620 (cons' k619 (cons' k602 (cons' k636 (cons' k633 (cons' k97 nil'))))))))))))))) rfl rfl (by kernel_rfl)
noncomputable abbrev e630 : KE := ⟨38, [(.float .f64 4374860690221906893)], (.bool false)⟩
theorem k630 : Kn e630 := go e630 98304 (l := []) nil' rfl rfl (by kernel_rfl)
noncomputable abbrev e622 : KE := ⟨37, [(.float .f64 4374860690221906893)], (.bool true)⟩
theorem k622 : Kn e622 := go e622 618970167216642727126073344 (l := [e602, e619]) (cons' k602 (cons' k619 nil')) rfl rfl (by kernel_rfl)
noncomputable abbrev e628 : KE := ⟨88, [(.agg #[(.complex .f64 4608609870266500148 13833125093779451160), (.float .f64 4374860690221906893)]), (.agg #[(.complex .f64 0 0), (.float .f64 9218868437227405312)])], (.bool false)⟩
theorem k628 : Kn e628 := go e628 11417981541647679048466287755595961091062071296 (l := [e627]) (cons' k627 nil') rfl rfl (by kernel_rfl)
noncomputable abbrev e629 : KE := ⟨36, [(.agg #[(.complex .f64 4608609870266500148 13833125093779451160), (.float .f64 4374860690221906893)])], (.bool false)⟩
theorem k629 : Kn e629 := go e629 309485009821345068725927936 (l := [e628, e38]) (cons' k628 (cons' k38 nil')) rfl rfl (by kernel_rfl)
noncomputable abbrev e631 : KE := ⟨17, [(.agg #[(.complex .f64 4608609870266500148 13833125093779451160), (.float .f64 4374860690221906893)])], (.bool true)⟩
theorem k631 : Kn e631 := go e631 481036435456 (l := [e630, e622, e565, e553, e629]) (cons' k630 (cons' k622 (cons' k565 (cons' k553 (cons' k629 nil'))))) rfl rfl (by kernel_rfl)
noncomputable abbrev e653 : KE := ⟨28, [(.agg #[(.complex .f64 4608609870266500148 13833125093779451160), (.float .f64 4374860690221906893)]), (.float .f64 4364311382827388248)], (.tuple #[(.agg #[(.complex .f64 4608609870266500148 13833125093779451160), (.float .f64 4376067426105093923)]), (.int .i64 0)])⟩
theorem k653 : Kn e653 := go e653 443298318521332891648 (l := [e652, e647, e632, e631]) (cons' k652 (cons' k647 (cons' k632 (cons' k631 nil')))) rfl rfl (by kernel_rfl)
noncomputable abbrev e623 : KE := ⟨59, [(.complex .f64 4608609870266500148 13833125093779451160), (.float .f64 4374860690221906893)], (.agg #[(.complex .f64 4608609870266500148 13833125093779451160), (.float .f64 4374860690221906893)])⟩
theorem k623 : Kn e623 := go e623 137439051776 (l := [e622, e565, e553]) (cons' k622 (cons' k565 (cons' k553 nil'))) rfl rfl (by kernel_rfl)
noncomputable abbrev e621 : KE := ⟨48, [(.float .f64 4374860690221906893)], (.float .f64 4374860690221906893)⟩
theorem k621 : Kn e621 := go e621 98304 (l := []) nil' rfl rfl (by kernel_rfl)
noncomputable abbrev e617 : KE := ⟨312, [(.int .u32 370727)], (.int .i64 19)⟩
theorem k617 : Kn e617 := go e617 98304 (l := []) nil' rfl rfl (by kernel_rfl)
noncomputable abbrev e616 : KE := ⟨316, [(.int .u32 1719614412)], (.int .i64 2)⟩
theorem k616 : Kn e616 := goT e616 rfl rfl (fun e => by kernel_rfl)
noncomputable abbrev e614 : KE := ⟨90, [(.float .f64 4374860690221906892)], (.float .f64 4374860690221906892)⟩
theorem k614 : Kn e614 := go e614 98304 (l := []) nil' rfl rfl (by kernel_rfl)
noncomputable abbrev e615 : KE := ⟨89, [(.float .f64 4374860690221906892), (.int .i64 0)], (.bool false)⟩
theorem k615 : Kn e615 := go e615 1237940039285380274899222528 (l := [e614]) (cons' k614 nil') rfl rfl (by kernel_rfl)
noncomputable abbrev e599 : KE := ⟨67, [(.float .f64 4374860690221906892)], (.bool false)⟩
theorem k599 : Kn e599 := go e599 98304 (l := []) nil' rfl rfl (by kernel_rfl)
noncomputable abbrev e404 : KE := ⟨67, [(.float .f64 9218868437227405312)], (.bool false)⟩
theorem k404 : Kn e404 := go e404 98304 (l := []) nil' rfl rfl (by kernel_rfl)
noncomputable abbrev e609 : KE := ⟨67, [(.float .f64 4374860690221906891)], (.bool false)⟩
theorem k609 : Kn e609 := go e609 98304 (l := []) nil' rfl rfl (by kernel_rfl)
noncomputable abbrev e612 : KE := ⟨168, [(.float .f64 4374860690221906891), (.float .f64 9218868437227405312)], (.float .f64 4374860690221906892)⟩
theorem k612 : Kn e612 := go e612 147573952589676511232 (l := [e404, e609]) (cons' k404 (cons' k609 nil')) rfl rfl (by kernel_rfl)
noncomputable abbrev e613 : KE := ⟨103, [(.float .f64 4374860690221906891), (.int .i64 1)], (.float .f64 4374860690221906892)⟩
theorem k613 : Kn e613 := go e613 374144419156711147060143317175368453036316777611264 (l := [e612, e37]) (cons' k612 (cons' k37 nil')) rfl rfl (by kernel_rfl)
noncomputable abbrev e610 : KE := ⟨316, [(.int .u32 1719614411)], (.int .i64 0)⟩
theorem k610 : Kn e610 := goT e610 rfl rfl (fun e => by kernel_rfl)
noncomputable abbrev e607 : KE := ⟨90, [(.float .f64 4374860690221906891)], (.float .f64 4374860690221906891)⟩
theorem k607 : Kn e607 := go e607 98304 (l := []) nil' rfl rfl (by kernel_rfl)
noncomputable abbrev e608 : KE := ⟨89, [(.float .f64 4374860690221906891), (.int .i64 0)], (.bool false)⟩
theorem k608 : Kn e608 := go e608 1237940039285380274899222528 (l := [e607]) (cons' k607 nil') rfl rfl (by kernel_rfl)
noncomputable abbrev e410 : KE := ⟨67, [(.float .f64 18442240474082181120)], (.bool false)⟩
theorem k410 : Kn e410 := go e410 98304 (l := []) nil' rfl rfl (by kernel_rfl)
noncomputable abbrev e605 : KE := ⟨168, [(.float .f64 4374860690221906892), (.float .f64 18442240474082181120)], (.float .f64 4374860690221906891)⟩
theorem k605 : Kn e605 := go e605 147573952589676511232 (l := [e410, e599]) (cons' k410 (cons' k599 nil')) rfl rfl (by kernel_rfl)
noncomputable abbrev e81 : KE := ⟨42, [(.int .i64 (-1))], (.float .f64 18442240474082181120)⟩
theorem k81 : Kn e81 := go e81 98304 (l := []) nil' rfl rfl (by kernel_rfl)
noncomputable abbrev e606 : KE := ⟨103, [(.float .f64 4374860690221906892), (.int .i64 (-1))], (.float .f64 4374860690221906891)⟩
theorem k606 : Kn e606 := go e606 374144419156711147060143317175368453036316777611264 (l := [e605, e81]) (cons' k605 (cons' k81 nil')) rfl rfl (by kernel_rfl)
noncomputable abbrev e603 : KE := ⟨168, [(.float .f64 4374860690221906893), (.float .f64 9218868437227405312)], (.float .f64 4374860690221906894)⟩
theorem k603 : Kn e603 := go e603 147573952589676511232 (l := [e404, e602]) (cons' k404 (cons' k602 nil')) rfl rfl (by kernel_rfl)
noncomputable abbrev e604 : KE := ⟨103, [(.float .f64 4374860690221906893), (.int .i64 1)], (.float .f64 4374860690221906894)⟩
theorem k604 : Kn e604 := go e604 374144419156711147060143317175368453036316777611264 (l := [e603, e37]) (cons' k603 (cons' k37 nil')) rfl rfl (by kernel_rfl)
noncomputable abbrev e600 : KE := ⟨168, [(.float .f64 4374860690221906892), (.float .f64 9218868437227405312)], (.float .f64 4374860690221906893)⟩
theorem k600 : Kn e600 := go e600 147573952589676511232 (l := [e404, e599]) (cons' k404 (cons' k599 nil')) rfl rfl (by kernel_rfl)
noncomputable abbrev e601 : KE := ⟨103, [(.float .f64 4374860690221906892), (.int .i64 1)], (.float .f64 4374860690221906893)⟩
theorem k601 : Kn e601 := go e601 374144419156711147060143317175368453036316777611264 (l := [e600, e37]) (cons' k600 (cons' k37 nil')) rfl rfl (by kernel_rfl)
noncomputable abbrev e593 : KE := ⟨90, [(.float .f64 4843235051468438477)], (.float .f64 4843235051468438477)⟩
theorem k593 : Kn e593 := go e593 98304 (l := []) nil' rfl rfl (by kernel_rfl)
noncomputable abbrev e596 : KE := ⟨345, [(.float .f64 4843235051468438477)], (.tuple #[(.float .f64 4843235051468438477), (.int .i64 0)])⟩
theorem k596 : Kn e596 := go e596 1237940039285380274899222528 (l := [e593]) (cons' k593 nil') rfl rfl (by kernel_rfl)
noncomputable abbrev e595 : KE := ⟨67, [(.float .f64 4843235051468438477)], (.bool false)⟩
theorem k595 : Kn e595 := go e595 98304 (l := []) nil' rfl rfl (by kernel_rfl)
noncomputable abbrev e594 : KE := ⟨89, [(.float .f64 4843235051468438477), (.int .i64 0)], (.bool false)⟩
theorem k594 : Kn e594 := go e594 1237940039285380274899222528 (l := [e593]) (cons' k593 nil') rfl rfl (by kernel_rfl)
noncomputable abbrev e597 : KE := ⟨310, [(.float .f64 4843235051468438477), (.int .i64 (-104))], (.float .f64 4374860690221906893)⟩
theorem k597 : Kn e597 := go e597 71671831749689734737838152978190216899892655911508785116799651230841339877765769222355296427418553778176 (l := [e596, e595, e594]) (cons' k596 (cons' k595 (cons' k594 nil'))) rfl rfl (by kernel_rfl)
noncomputable abbrev e598 : KE := ⟨244, [(.float .f64 4843235051468438477), (.int .i64 (-104))], (.float .f64 4374860690221906893)⟩
theorem k598 : Kn e598 := go e598 2085924839766513752338888384931203236916703635113918720651407820138886450957656787131799011328 (l := [e597]) (cons' k597 nil') rfl rfl (by kernel_rfl)
noncomputable abbrev e587 : KE := ⟨90, [(.float .f64 4843235051468438476)], (.float .f64 4843235051468438476)⟩
theorem k587 : Kn e587 := go e587 98304 (l := []) nil' rfl rfl (by kernel_rfl)
noncomputable abbrev e590 : KE := ⟨345, [(.float .f64 4843235051468438476)], (.tuple #[(.float .f64 4843235051468438476), (.int .i64 0)])⟩
theorem k590 : Kn e590 := go e590 1237940039285380274899222528 (l := [e587]) (cons' k587 nil') rfl rfl (by kernel_rfl)
noncomputable abbrev e589 : KE := ⟨67, [(.float .f64 4843235051468438476)], (.bool false)⟩
theorem k589 : Kn e589 := go e589 98304 (l := []) nil' rfl rfl (by kernel_rfl)
noncomputable abbrev e588 : KE := ⟨89, [(.float .f64 4843235051468438476), (.int .i64 0)], (.bool false)⟩
theorem k588 : Kn e588 := go e588 1237940039285380274899222528 (l := [e587]) (cons' k587 nil') rfl rfl (by kernel_rfl)
noncomputable abbrev e591 : KE := ⟨310, [(.float .f64 4843235051468438476), (.int .i64 (-104))], (.float .f64 4374860690221906892)⟩
theorem k591 : Kn e591 := go e591 71671831749689734737838152978190216899892655911508785116799651230841339877765769222355296427418553778176 (l := [e590, e589, e588]) (cons' k590 (cons' k589 (cons' k588 nil'))) rfl rfl (by kernel_rfl)
noncomputable abbrev e592 : KE := ⟨244, [(.float .f64 4843235051468438476), (.int .i64 (-104))], (.float .f64 4374860690221906892)⟩
theorem k592 : Kn e592 := go e592 2085924839766513752338888384931203236916703635113918720651407820138886450957656787131799011328 (l := [e591]) (cons' k591 nil') rfl rfl (by kernel_rfl)
noncomputable abbrev e585 : KE := ⟨312, [(.int .u32 3037000499)], (.int .i64 32)⟩
theorem k585 : Kn e585 := go e585 98304 (l := []) nil' rfl rfl (by kernel_rfl)
noncomputable abbrev e586 : KE := ⟨314, [(.int .u32 3037000499)], (.int .i64 0)⟩
theorem k586 : Kn e586 := go e586 8343699359066055009355553539724812947666814540455674882605631280555545803830627148527195750400 (l := [e585]) (cons' k585 nil') rfl rfl (by kernel_rfl)
noncomputable abbrev e583 : KE := ⟨312, [(.int .u32 3037005061)], (.int .i64 32)⟩
theorem k583 : Kn e583 := go e583 98304 (l := []) nil' rfl rfl (by kernel_rfl)
noncomputable abbrev e584 : KE := ⟨314, [(.int .u32 3037005061)], (.int .i64 0)⟩
theorem k584 : Kn e584 := go e584 8343699359066055009355553539724812947666814540455674882605631280555545803830627148527195750400 (l := [e583]) (cons' k583 nil') rfl rfl (by kernel_rfl)
noncomputable abbrev e581 : KE := ⟨312, [(.int .u32 3042268501)], (.int .i64 32)⟩
theorem k581 : Kn e581 := go e581 98304 (l := []) nil' rfl rfl (by kernel_rfl)
noncomputable abbrev e582 : KE := ⟨314, [(.int .u32 3042268501)], (.int .i64 0)⟩
theorem k582 : Kn e582 := go e582 8343699359066055009355553539724812947666814540455674882605631280555545803830627148527195750400 (l := [e581]) (cons' k581 nil') rfl rfl (by kernel_rfl)
noncomputable abbrev e276 : KE := ⟨312, [(.int .u32 3221225472)], (.int .i64 32)⟩
theorem k276 : Kn e276 := go e276 98304 (l := []) nil' rfl rfl (by kernel_rfl)
noncomputable abbrev e580 : KE := ⟨314, [(.int .u32 3221225472)], (.int .i64 0)⟩
theorem k580 : Kn e580 := go e580 8343699359066055009355553539724812947666814540455674882605631280555545803830627148527195750400 (l := [e276]) (cons' k276 nil') rfl rfl (by kernel_rfl)
noncomputable abbrev e86 : KE := ⟨312, [(.int .u32 1)], (.int .i64 1)⟩
theorem k86 : Kn e86 := go e86 98304 (l := []) nil' rfl rfl (by kernel_rfl)
noncomputable abbrev e277 : KE := ⟨314, [(.int .u32 1)], (.int .i64 31)⟩
theorem k277 : Kn e277 := go e277 8343699359066055009355553539724812947666814540455674882605631280555545803830627148527195750400 (l := [e86]) (cons' k86 nil') rfl rfl (by kernel_rfl)
noncomputable abbrev e579 : KE := ⟨312, [(.int .u32 2147483648)], (.int .i64 32)⟩
theorem k579 : Kn e579 := go e579 98304 (l := []) nil' rfl rfl (by kernel_rfl)
noncomputable abbrev e120 : KE := ⟨307, [(.slice none 0 0)], (.slice none 0 0)⟩
theorem k120 : Kn e120 := go e120 98304 (l := []) nil' rfl rfl (by kernel_rfl)
noncomputable abbrev e119 : KE := ⟨308, [(.slice none 0 0)], (.slice none 0 0)⟩
theorem k119 : Kn e119 := go e119 98304 (l := []) nil' rfl rfl (by kernel_rfl)
noncomputable abbrev e110 : KE := ⟨316, [(.int .u32 2)], (.int .i64 1)⟩
theorem k110 : Kn e110 := goT e110 rfl rfl (fun e => by kernel_rfl)
noncomputable abbrev e112 : KE := ⟨91, [(.agg #[(.bool false), (.slice none 0 0), (.int .i64 0)])], (.bool true)⟩
theorem k112 : Kn e112 := go e112 98304 (l := []) nil' rfl rfl (by kernel_rfl)
noncomputable abbrev e113 : KE := ⟨40, [(.agg #[(.bool false), (.slice none 0 0), (.int .i64 0)])], (.int .i64 0)⟩
theorem k113 : Kn e113 := go e113 2475880078570760549798346752 (l := [e112]) (cons' k112 nil') rfl rfl (by kernel_rfl)
noncomputable abbrev e87 : KE := ⟨316, [(.int .u32 1)], (.int .i64 0)⟩
theorem k87 : Kn e87 := goT e87 rfl rfl (fun e => by kernel_rfl)
noncomputable abbrev e572 : KE := ⟨316, [(.int .u32 1413754137)], (.int .i64 0)⟩
theorem k572 : Kn e572 := goT e572 rfl rfl (fun e => by kernel_rfl)
noncomputable abbrev e558 : KE := ⟨90, [(.float .f64 13833125093779451161)], (.float .f64 4609753056924675353)⟩
theorem k558 : Kn e558 := go e558 98304 (l := []) nil' rfl rfl (by kernel_rfl)
noncomputable abbrev e559 : KE := ⟨89, [(.float .f64 13833125093779451161), (.int .i64 0)], (.bool false)⟩
theorem k559 : Kn e559 := go e559 1237940039285380274899222528 (l := [e558]) (cons' k558 nil') rfl rfl (by kernel_rfl)
noncomputable abbrev e560 : KE := ⟨67, [(.float .f64 13833125093779451161)], (.bool false)⟩
theorem k560 : Kn e560 := go e560 98304 (l := []) nil' rfl rfl (by kernel_rfl)
noncomputable abbrev e574 : KE := ⟨312, [(.int .u32 205887)], (.int .i64 18)⟩
theorem k574 : Kn e574 := go e574 98304 (l := []) nil' rfl rfl (by kernel_rfl)
noncomputable abbrev e573 : KE := ⟨316, [(.int .u32 1413754136)], (.int .i64 3)⟩
theorem k573 : Kn e573 := goT e573 rfl rfl (fun e => by kernel_rfl)
noncomputable abbrev e567 : KE := ⟨312, [(.int .u32 345232)], (.int .i64 19)⟩
theorem k567 : Kn e567 := go e567 98304 (l := []) nil' rfl rfl (by kernel_rfl)
noncomputable abbrev e566 : KE := ⟨316, [(.int .u32 1905787956)], (.int .i64 2)⟩
theorem k566 : Kn e566 := goT e566 rfl rfl (fun e => by kernel_rfl)
noncomputable abbrev e517 : KE := ⟨312, [(.int .u32 1380930)], (.int .i64 21)⟩
theorem k517 : Kn e517 := go e517 98304 (l := []) nil' rfl rfl (by kernel_rfl)
noncomputable abbrev e568 : KE := ⟨316, [(.int .u32 1905787957)], (.int .i64 0)⟩
theorem k568 : Kn e568 := goT e568 rfl rfl (fun e => by kernel_rfl)
noncomputable abbrev e554 : KE := ⟨90, [(.float .f64 4608609870266500149)], (.float .f64 4608609870266500149)⟩
theorem k554 : Kn e554 := go e554 98304 (l := []) nil' rfl rfl (by kernel_rfl)
noncomputable abbrev e555 : KE := ⟨89, [(.float .f64 4608609870266500149), (.int .i64 0)], (.bool false)⟩
theorem k555 : Kn e555 := go e555 1237940039285380274899222528 (l := [e554]) (cons' k554 nil') rfl rfl (by kernel_rfl)
noncomputable abbrev e556 : KE := ⟨67, [(.float .f64 4608609870266500149)], (.bool false)⟩
theorem k556 : Kn e556 := go e556 98304 (l := []) nil' rfl rfl (by kernel_rfl)
noncomputable abbrev e577 : KE := ⟨7, [(.float .f64 4609753056924675352), (.float .f64 13830554455654793216)], (.float .f64 13833125093779451160)⟩
theorem k577 : Kn e577 := go e577 98304 (l := []) nil' rfl rfl (by kernel_rfl)
noncomputable abbrev e534 : KE := ⟨310, [(.float .f64 4843940237547941144), (.int .i64 (-52))], (.float .f64 4609753056924675352)⟩
theorem k534 : Kn e534 := go e534 71671831749689734737838152978190216899892655911508785116799651230841339877765769222355296427418553778176 (l := [e9, e8, e7]) (cons' k9 (cons' k8 (cons' k7 nil'))) rfl rfl (by kernel_rfl)
noncomputable abbrev e535 : KE := ⟨244, [(.float .f64 4843940237547941144), (.int .i64 (-52))], (.float .f64 4609753056924675352)⟩
theorem k535 : Kn e535 := go e535 2085924839766513752338888384931203236916703635113918720651407820138886450957656787131799011328 (l := [e534]) (cons' k534 nil') rfl rfl (by kernel_rfl)
noncomputable abbrev e111 : KE := ⟨172, [(.int .i64 2)], (.bool true)⟩
theorem k111 : Kn e111 := go e111 98304 (l := []) nil' rfl rfl (by kernel_rfl)
noncomputable abbrev e576 : KE := ⟨312, [(.int .u32 3294198)], (.int .i64 22)⟩
theorem k576 : Kn e576 := go e576 98304 (l := []) nil' rfl rfl (by kernel_rfl)
noncomputable abbrev e575 : KE := ⟨316, [(.int .u32 2827508273)], (.int .i64 0)⟩
theorem k575 : Kn e575 := goT e575 rfl rfl (fun e => by kernel_rfl)
noncomputable abbrev e548 : KE := ⟨89, [(.float .f64 13833125093779451160), (.int .i64 (-1))], (.bool false)⟩
theorem k548 : Kn e548 := go e548 98304 (l := []) nil' rfl rfl (by kernel_rfl)
noncomputable abbrev e547 : KE := ⟨89, [(.float .f64 13833125093779451161), (.int .i64 1)], (.bool false)⟩
theorem k547 : Kn e547 := go e547 98304 (l := []) nil' rfl rfl (by kernel_rfl)
noncomputable abbrev e549 : KE := ⟨52, [(.agg #[(.float .f64 13833125093779451161), (.float .f64 13833125093779451160)])], (.bool true)⟩
theorem k549 : Kn e549 := go e549 618970019642690137449660416 (l := [e548, e547]) (cons' k548 (cons' k547 nil')) rfl rfl (by kernel_rfl)
noncomputable abbrev e578 : KE := ⟨53, [(.agg #[(.float .f64 13833125093779451161), (.float .f64 13833125093779451160)])], (.tuple #[(.float .f64 13833125093779451160), (.int .i64 0)])⟩
theorem k578 : Kn e578 := go e578 141842889104122935159072679728358274259609185934069066207927324474087982344513076881209457475712 (l := [e577, e535, e111, e576, e575, e574, e573, e563, e564, e5, e572, e559, e560, e549]) (cons' k577 (cons' k535 (cons' k111 (cons' k576 (cons' k575 (cons' k574 (cons' k573 (cons' k563 (cons' k564 (cons' k5 (cons' k572 (cons' k559 (cons' k560 (cons' k549 nil')))))))))))))) rfl rfl (by kernel_rfl)
noncomputable abbrev e518 : KE := ⟨90, [(.float .f64 4842797050889765940)], (.float .f64 4842797050889765940)⟩
theorem k518 : Kn e518 := go e518 98304 (l := []) nil' rfl rfl (by kernel_rfl)
noncomputable abbrev e521 : KE := ⟨345, [(.float .f64 4842797050889765940)], (.tuple #[(.float .f64 4842797050889765940), (.int .i64 0)])⟩
theorem k521 : Kn e521 := go e521 1237940039285380274899222528 (l := [e518]) (cons' k518 nil') rfl rfl (by kernel_rfl)
noncomputable abbrev e520 : KE := ⟨67, [(.float .f64 4842797050889765940)], (.bool false)⟩
theorem k520 : Kn e520 := go e520 98304 (l := []) nil' rfl rfl (by kernel_rfl)
noncomputable abbrev e519 : KE := ⟨89, [(.float .f64 4842797050889765940), (.int .i64 0)], (.bool false)⟩
theorem k519 : Kn e519 := go e519 1237940039285380274899222528 (l := [e518]) (cons' k518 nil') rfl rfl (by kernel_rfl)
noncomputable abbrev e522 : KE := ⟨310, [(.float .f64 4842797050889765940), (.int .i64 (-52))], (.float .f64 4608609870266500148)⟩
theorem k522 : Kn e522 := go e522 71671831749689734737838152978190216899892655911508785116799651230841339877765769222355296427418553778176 (l := [e521, e520, e519]) (cons' k521 (cons' k520 (cons' k519 nil'))) rfl rfl (by kernel_rfl)
noncomputable abbrev e523 : KE := ⟨244, [(.float .f64 4842797050889765940), (.int .i64 (-52))], (.float .f64 4608609870266500148)⟩
theorem k523 : Kn e523 := go e523 2085924839766513752338888384931203236916703635113918720651407820138886450957656787131799011328 (l := [e522]) (cons' k522 nil') rfl rfl (by kernel_rfl)
noncomputable abbrev e570 : KE := ⟨312, [(.int .u32 2761860)], (.int .i64 22)⟩
theorem k570 : Kn e570 := go e570 98304 (l := []) nil' rfl rfl (by kernel_rfl)
noncomputable abbrev e569 : KE := ⟨316, [(.int .u32 3811575913)], (.int .i64 0)⟩
theorem k569 : Kn e569 := goT e569 rfl rfl (fun e => by kernel_rfl)
noncomputable abbrev e545 : KE := ⟨89, [(.float .f64 4608609870266500149), (.int .i64 (-1))], (.bool false)⟩
theorem k545 : Kn e545 := go e545 98304 (l := []) nil' rfl rfl (by kernel_rfl)
noncomputable abbrev e544 : KE := ⟨89, [(.float .f64 4608609870266500148), (.int .i64 1)], (.bool false)⟩
theorem k544 : Kn e544 := go e544 98304 (l := []) nil' rfl rfl (by kernel_rfl)
noncomputable abbrev e546 : KE := ⟨52, [(.agg #[(.float .f64 4608609870266500148), (.float .f64 4608609870266500149)])], (.bool true)⟩
theorem k546 : Kn e546 := go e546 618970019642690137449660416 (l := [e545, e544]) (cons' k545 (cons' k544 nil')) rfl rfl (by kernel_rfl)
noncomputable abbrev e571 : KE := ⟨53, [(.agg #[(.float .f64 4608609870266500148), (.float .f64 4608609870266500149)])], (.tuple #[(.float .f64 4608609870266500148), (.int .i64 0)])⟩
theorem k571 : Kn e571 := go e571 141842889104122935159072679728358274259609185934069066207927324474087982344513076881209457475584 (l := [e523, e111, e570, e569, e517, e568, e555, e556, e567, e566, e551, e552, e546]) (cons' k523 (cons' k111 (cons' k570 (cons' k569 (cons' k517 (cons' k568 (cons' k555 (cons' k556 (cons' k567 (cons' k566 (cons' k551 (cons' k552 (cons' k546 nil'))))))))))))) rfl rfl (by kernel_rfl)
noncomputable abbrev e561 : KE := ⟨37, [(.float .f64 13833125093779451161)], (.bool true)⟩
theorem k561 : Kn e561 := go e561 618970167216642727126073344 (l := [e560, e559]) (cons' k560 (cons' k559 nil')) rfl rfl (by kernel_rfl)
noncomputable abbrev e557 : KE := ⟨37, [(.float .f64 4608609870266500149)], (.bool true)⟩
theorem k557 : Kn e557 := go e557 618970167216642727126073344 (l := [e556, e555]) (cons' k556 (cons' k555 nil')) rfl rfl (by kernel_rfl)
noncomputable abbrev e624 : KE := ⟨24, [(.agg #[(.float .f64 4608609870266500148), (.float .f64 4608609870266500149)]), (.agg #[(.float .f64 13833125093779451161), (.float .f64 13833125093779451160)])], (.tuple #[(.agg #[(.complex .f64 4608609870266500148 13833125093779451160), (.float .f64 4374860690221906893)]), (.int .i64 0)])⟩
theorem k624 : Kn e624 := go e624 175999908355299597853621977031606727264120201972748778751215774576712853854954449982979877994496 (l := [e623, e621, e611, e620, e619, e602, e617, e616, e615, e599, e613, e610, e608, e609, e606, e604, e601, e598, e592, e585, e586, e584, e582, e580, e277, e579, e120, e119, e110, e113, e112, e86, e87, e5, e572, e559, e560, e574, e573, e563, e564, e567, e566, e551, e552, e517, e568, e555, e556, e578, e571, e565, e561, e557, e553, e549, e546]) (cons' k623 (cons' k621 (cons' k611 (cons' k620 (cons' k619 (cons' k602 (cons' k617 (cons' k616 (cons' k615 (cons' k599 (cons' k613 (cons' k610 (cons' k608 (cons' k609 (cons' k606 (cons' k604 (cons' k601 (cons' k598 (cons' k592 (cons' k585 (cons' k586 (cons' k584 (cons' k582 (cons' k580 (cons' k277 (cons' k579 (cons' k120 (cons' k119 (cons' k110 (cons' k113 (cons' k112 (cons' k86 (cons' k87 (cons' k5 (cons' k572 (cons' k559 (cons' k560 (cons' k574 (cons' k573 (cons' k563 (cons' k564 (cons' k567 (cons' k566 (cons' k551 (cons' k552 (cons' k517 (cons' k568 (cons' k555 (cons' k556 (cons' k578 (cons' k571 (cons' k565 (cons' k561 (cons' k557 (cons' k553 (cons' k549 (cons' k546 nil'))))))))))))))))))))))))))))))))))))))))))))))))))))))))) rfl rfl (by kernel_rfl)
noncomputable abbrev e541 : KE := ⟨158, [(.agg #[(.float .f64 4609753056924675352), (.float .f64 4609753056924675353)])], (.agg #[(.float .f64 13833125093779451161), (.float .f64 13833125093779451160)])⟩
theorem k541 : Kn e541 := go e541 98304 (l := []) nil' rfl rfl (by kernel_rfl)
noncomputable abbrev e540 : KE := ⟨38, [(.float .f64 13838958286967940693)], (.bool true)⟩
theorem k540 : Kn e540 := go e540 98304 (l := []) nil' rfl rfl (by kernel_rfl)
noncomputable abbrev e542 : KE := ⟨96, [(.agg #[(.float .f64 4609753056924675352), (.float .f64 4609753056924675353)]), (.float .f64 13838958286967940693)], (.agg #[(.float .f64 13833125093779451161), (.float .f64 13833125093779451160)])⟩
theorem k542 : Kn e542 := go e542 365375409332725729550921208179070755188861140992 (l := [e541, e540]) (cons' k541 (cons' k540 nil')) rfl rfl (by kernel_rfl)
noncomputable abbrev e536 : KE := ⟨310, [(.float .f64 4843940237547941145), (.int .i64 (-52))], (.float .f64 4609753056924675353)⟩
theorem k536 : Kn e536 := go e536 71671831749689734737838152978190216899892655911508785116799651230841339877765769222355296427418553778176 (l := [e16, e15, e14]) (cons' k16 (cons' k15 (cons' k14 nil'))) rfl rfl (by kernel_rfl)
noncomputable abbrev e537 : KE := ⟨244, [(.float .f64 4843940237547941145), (.int .i64 (-52))], (.float .f64 4609753056924675353)⟩
theorem k537 : Kn e537 := go e537 2085924839766513752338888384931203236916703635113918720651407820138886450957656787131799011328 (l := [e536]) (cons' k536 nil') rfl rfl (by kernel_rfl)
noncomputable abbrev e531 : KE := ⟨69, [(.int .i64 2)], (.bool true)⟩
theorem k531 : Kn e531 := go e531 98304 (l := []) nil' rfl rfl (by kernel_rfl)
end Go.Proofs.YtkdcifgnjdfdmaaGreatDoor
