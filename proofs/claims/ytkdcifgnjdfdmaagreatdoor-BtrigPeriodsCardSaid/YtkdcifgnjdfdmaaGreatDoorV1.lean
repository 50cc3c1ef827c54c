/- Closed calls of the given program, each run once by the fast machine in the kernel: part 1. No condition. -/
import Derived.Test.YtkdcifgnjdfdmaaGreatDoorKb
import Derived.KernelRfl
import Derived.Test.YtkdcifgnjdfdmaaGreatDoorV0
open Go AM
namespace Go.Proofs.YtkdcifgnjdfdmaaGreatDoor
set_option maxRecDepth 100000
noncomputable abbrev e538 : KE := ⟨29, [(.int .i64 2)], (.tuple #[(.agg #[(.float .f64 4609753056924675352), (.float .f64 4609753056924675353)]), (.int .i64 0)])⟩
theorem k538 : Kn e538 := go e538 141842889104122935159072679728358274259609185934069066207927324474087363374936151545241409781760 (l := [e537, e12, e535, e5, e4, e533, e2, e532, e531]) (cons' k537 (cons' k12 (cons' k535 (cons' k5 (cons' k4 (cons' k533 (cons' k2 (cons' k532 (cons' k531 nil'))))))))) rfl rfl (by kernel_rfl)
noncomputable abbrev e539 : KE := ⟨97, [(.int .i64 2)], (.agg #[(.float .f64 4609753056924675352), (.float .f64 4609753056924675353)])⟩
theorem k539 : Kn e539 := go e539 536969216 (l := [e538]) (cons' k538 nil') rfl rfl (by kernel_rfl)
noncomputable abbrev e436 : KE := ⟨90, [(.float .f64 13838958286967940693)], (.float .f64 4615586250113164885)⟩
theorem k436 : Kn e436 := go e436 98304 (l := []) nil' rfl rfl (by kernel_rfl)
noncomputable abbrev e439 : KE := ⟨89, [(.float .f64 13838958286967940693), (.int .i64 0)], (.bool false)⟩
theorem k439 : Kn e439 := go e439 1237940039285380274899222528 (l := [e436]) (cons' k436 nil') rfl rfl (by kernel_rfl)
noncomputable abbrev e45 : KE := ⟨90, [(.float .f64 0)], (.float .f64 0)⟩
theorem k45 : Kn e45 := go e45 98304 (l := []) nil' rfl rfl (by kernel_rfl)
noncomputable abbrev e46 : KE := ⟨89, [(.float .f64 0), (.int .i64 0)], (.bool false)⟩
theorem k46 : Kn e46 := go e46 1237940039285380274899222528 (l := [e45]) (cons' k45 nil') rfl rfl (by kernel_rfl)
noncomputable abbrev e543 : KE := ⟨44, [(.complex .f64 0 13838958286967940693)], (.tuple #[(.agg #[(.float .f64 13833125093779451161), (.float .f64 13833125093779451160)]), (.int .i64 0)])⟩
theorem k543 : Kn e543 := go e543 238303457562435702918081511424 (l := [e542, e539, e439, e46]) (cons' k542 (cons' k539 (cons' k439 (cons' k46 nil')))) rfl rfl (by kernel_rfl)
noncomputable abbrev e524 : KE := ⟨90, [(.float .f64 4842797050889765941)], (.float .f64 4842797050889765941)⟩
theorem k524 : Kn e524 := go e524 98304 (l := []) nil' rfl rfl (by kernel_rfl)
noncomputable abbrev e527 : KE := ⟨345, [(.float .f64 4842797050889765941)], (.tuple #[(.float .f64 4842797050889765941), (.int .i64 0)])⟩
theorem k527 : Kn e527 := go e527 1237940039285380274899222528 (l := [e524]) (cons' k524 nil') rfl rfl (by kernel_rfl)
noncomputable abbrev e526 : KE := ⟨67, [(.float .f64 4842797050889765941)], (.bool false)⟩
theorem k526 : Kn e526 := go e526 98304 (l := []) nil' rfl rfl (by kernel_rfl)
noncomputable abbrev e525 : KE := ⟨89, [(.float .f64 4842797050889765941), (.int .i64 0)], (.bool false)⟩
theorem k525 : Kn e525 := go e525 1237940039285380274899222528 (l := [e524]) (cons' k524 nil') rfl rfl (by kernel_rfl)
noncomputable abbrev e528 : KE := ⟨310, [(.float .f64 4842797050889765941), (.int .i64 (-52))], (.float .f64 4608609870266500149)⟩
theorem k528 : Kn e528 := go e528 71671831749689734737838152978190216899892655911508785116799651230841339877765769222355296427418553778176 (l := [e527, e526, e525]) (cons' k527 (cons' k526 (cons' k525 nil'))) rfl rfl (by kernel_rfl)
noncomputable abbrev e529 : KE := ⟨244, [(.float .f64 4842797050889765941), (.int .i64 (-52))], (.float .f64 4608609870266500149)⟩
theorem k529 : Kn e529 := go e529 2085924839766513752338888384931203236916703635113918720651407820138886450957656787131799011328 (l := [e528]) (cons' k528 nil') rfl rfl (by kernel_rfl)
noncomputable abbrev e516 : KE := ⟨316, [(.int .u32 1408584486)], (.int .i64 1)⟩
theorem k516 : Kn e516 := goT e516 rfl rfl (fun e => by kernel_rfl)
noncomputable abbrev e515 : KE := ⟨316, [(.int .u32 1408573638)], (.int .i64 1)⟩
theorem k515 : Kn e515 := goT e515 rfl rfl (fun e => by kernel_rfl)
noncomputable abbrev e514 : KE := ⟨248, [(.slice none 0 0), (.int .u64 128)], (.slice none 0 0)⟩
theorem k514 : Kn e514 := go e514 98304 (l := []) nil' rfl rfl (by kernel_rfl)
noncomputable abbrev e512 : KE := ⟨312, [(.int .u32 1915)], (.int .i64 11)⟩
theorem k512 : Kn e512 := go e512 98304 (l := []) nil' rfl rfl (by kernel_rfl)
noncomputable abbrev e513 : KE := ⟨314, [(.int .u32 1915)], (.int .i64 21)⟩
theorem k513 : Kn e513 := go e513 8343699359066055009355553539724812947666814540455674882605631280555545803830627148527195750400 (l := [e512]) (cons' k512 nil') rfl rfl (by kernel_rfl)
noncomputable abbrev e511 : KE := ⟨312, [(.int .u32 132)], (.int .i64 8)⟩
theorem k511 : Kn e511 := go e511 98304 (l := []) nil' rfl rfl (by kernel_rfl)
noncomputable abbrev e510 : KE := ⟨316, [(.int .u32 3305809863)], (.int .i64 0)⟩
theorem k510 : Kn e510 := goT e510 rfl rfl (fun e => by kernel_rfl)
noncomputable abbrev e493 : KE := ⟨312, [(.int .u32 734003)], (.int .i64 20)⟩
theorem k493 : Kn e493 := go e493 98304 (l := []) nil' rfl rfl (by kernel_rfl)
noncomputable abbrev e492 : KE := ⟨316, [(.int .u32 1717986918)], (.int .i64 1)⟩
theorem k492 : Kn e492 := goT e492 rfl rfl (fun e => by kernel_rfl)
noncomputable abbrev e490 : KE := ⟨90, [(.float .f64 4604480259023595110)], (.float .f64 4604480259023595110)⟩
theorem k490 : Kn e490 := go e490 98304 (l := []) nil' rfl rfl (by kernel_rfl)
noncomputable abbrev e491 : KE := ⟨89, [(.float .f64 4604480259023595110), (.int .i64 0)], (.bool false)⟩
theorem k491 : Kn e491 := go e491 1237940039285380274899222528 (l := [e490]) (cons' k490 nil') rfl rfl (by kernel_rfl)
noncomputable abbrev e489 : KE := ⟨67, [(.float .f64 4604480259023595110)], (.bool false)⟩
theorem k489 : Kn e489 := go e489 98304 (l := []) nil' rfl rfl (by kernel_rfl)
noncomputable abbrev e509 : KE := ⟨312, [(.int .u32 827)], (.int .i64 10)⟩
theorem k509 : Kn e509 := go e509 98304 (l := []) nil' rfl rfl (by kernel_rfl)
noncomputable abbrev e453 : KE := ⟨312, [(.int .u32 891)], (.int .i64 10)⟩
theorem k453 : Kn e453 := go e453 98304 (l := []) nil' rfl rfl (by kernel_rfl)
noncomputable abbrev e402 : KE := ⟨316, [(.int .u32 989157433)], (.int .i64 0)⟩
theorem k402 : Kn e402 := goT e402 rfl rfl (fun e => by kernel_rfl)
noncomputable abbrev e426 : KE := ⟨312, [(.int .u32 1956669)], (.int .i64 21)⟩
theorem k426 : Kn e426 := go e426 98304 (l := []) nil' rfl rfl (by kernel_rfl)
noncomputable abbrev e388 : KE := ⟨316, [(.int .u32 1949050453)], (.int .i64 0)⟩
theorem k388 : Kn e388 := goT e388 rfl rfl (fun e => by kernel_rfl)
noncomputable abbrev e467 : KE := ⟨90, [(.float .f64 4615586250113164885)], (.float .f64 4615586250113164885)⟩
theorem k467 : Kn e467 := go e467 98304 (l := []) nil' rfl rfl (by kernel_rfl)
noncomputable abbrev e468 : KE := ⟨89, [(.float .f64 4615586250113164885), (.int .i64 0)], (.bool false)⟩
theorem k468 : Kn e468 := go e468 1237940039285380274899222528 (l := [e467]) (cons' k467 nil') rfl rfl (by kernel_rfl)
noncomputable abbrev e470 : KE := ⟨67, [(.float .f64 4615586250113164885)], (.bool false)⟩
theorem k470 : Kn e470 := go e470 98304 (l := []) nil' rfl rfl (by kernel_rfl)
noncomputable abbrev e389 : KE := ⟨237, [(.slice none 0 0), (.slice none 0 0)], (.slice none 0 0)⟩
theorem k389 : Kn e389 := go e389 98304 (l := []) nil' rfl rfl (by kernel_rfl)
noncomputable abbrev e390 : KE := ⟨95, [(.agg #[(.bool false), (.slice none 0 0), (.int .i64 0)]), (.agg #[(.bool false), (.slice none 0 0), (.int .i64 0)])], (.tuple #[(.agg #[(.bool false), (.slice none 0 0), (.int .i64 0)]), (.int .i64 0)])⟩
theorem k390 : Kn e390 := go e390 782221814912442657127304000232298511884961775355312385058756368041667751557457256499384516608 (l := [e389, e120, e119, e112]) (cons' k389 (cons' k120 (cons' k119 (cons' k112 nil')))) rfl rfl (by kernel_rfl)
noncomputable abbrev e41 : KE := ⟨67, [(.float .f64 0)], (.bool false)⟩
theorem k41 : Kn e41 := go e41 98304 (l := []) nil' rfl rfl (by kernel_rfl)
noncomputable abbrev e116 : KE := ⟨99, [(.float .f64 0)], (.tuple #[(.agg #[(.bool false), (.slice none 0 0), (.int .i64 0)]), (.int .i64 0)])⟩
theorem k116 : Kn e116 := go e116 618970167216642727126073344 (l := [e46, e41]) (cons' k46 (cons' k41 nil')) rfl rfl (by kernel_rfl)
noncomputable abbrev e508 : KE := ⟨65, [(.float .f64 0)], (.agg #[(.bool false), (.slice none 0 0), (.int .i64 0)])⟩
theorem k508 : Kn e508 := go e508 633825300114114700748351700992 (l := [e116]) (cons' k116 nil') rfl rfl (by kernel_rfl)
end Go.Proofs.YtkdcifgnjdfdmaaGreatDoor
