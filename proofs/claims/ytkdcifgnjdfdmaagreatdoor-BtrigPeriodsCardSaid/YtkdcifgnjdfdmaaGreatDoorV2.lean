/- Closed calls of the given program, each run once by the fast machine in the kernel: part 2. No condition. -/
import Derived.Test.YtkdcifgnjdfdmaaGreatDoorKb
import Derived.KernelRfl
import Derived.Test.YtkdcifgnjdfdmaaGreatDoorV0
import Derived.Test.YtkdcifgnjdfdmaaGreatDoorV1
open Go AM
namespace Go.Proofs.YtkdcifgnjdfdmaaGreatDoor
set_option maxRecDepth 100000
noncomputable abbrev e530 : KE := ⟨43, [(.complex .f64 0 13838958286967940693)], (.tuple #[(.agg #[(.float .f64 4608609870266500148), (.float .f64 4608609870266500149)]), (.int .i64 0)])⟩
theorem k530 : Kn e530 := go e530 175999908355299597854074289880189993652493532119249672398645963406505734333635715252192836419584 (l := [e529, e12, e523, e517, e4, e516, e515, e514, e513, e512, e511, e510, e493, e492, e491, e489, e86, e87, e509, e120, e119, e112, e453, e402, e426, e388, e468, e470, e390, e508, e436, e45]) (cons' k529 (cons' k12 (cons' k523 (cons' k517 (cons' k4 (cons' k516 (cons' k515 (cons' k514 (cons' k513 (cons' k512 (cons' k511 (cons' k510 (cons' k493 (cons' k492 (cons' k491 (cons' k489 (cons' k86 (cons' k87 (cons' k509 (cons' k120 (cons' k119 (cons' k112 (cons' k453 (cons' k402 (cons' k426 (cons' k388 (cons' k468 (cons' k470 (cons' k390 (cons' k508 (cons' k436 (cons' k45 nil')))))))))))))))))))))))))))))))) rfl rfl (by kernel_rfl)
noncomputable abbrev e625 : KE := ⟨21, [(.complex .f64 0 13838958286967940693)], (.agg #[(.complex .f64 4608609870266500148 13833125093779451160), (.float .f64 4374860690221906893)])⟩
theorem k625 : Kn e625 := go e625 26388295942144 (l := [e624, e543, e530]) (cons' k624 (cons' k543 (cons' k530 nil'))) rfl rfl (by kernel_rfl)
noncomputable abbrev e506 : KE := ⟨7, [(.float .f64 4364311382827388247), (.float .f64 13830554455654793216)], (.float .f64 13587683419682164055)⟩
theorem k506 : Kn e506 := go e506 98304 (l := []) nil' rfl rfl (by kernel_rfl)
noncomputable abbrev e474 : KE := ⟨90, [(.float .f64 4841692943328660823)], (.float .f64 4841692943328660823)⟩
theorem k474 : Kn e474 := go e474 98304 (l := []) nil' rfl rfl (by kernel_rfl)
noncomputable abbrev e477 : KE := ⟨345, [(.float .f64 4841692943328660823)], (.tuple #[(.float .f64 4841692943328660823), (.int .i64 0)])⟩
theorem k477 : Kn e477 := go e477 1237940039285380274899222528 (l := [e474]) (cons' k474 nil') rfl rfl (by kernel_rfl)
noncomputable abbrev e476 : KE := ⟨67, [(.float .f64 4841692943328660823)], (.bool false)⟩
theorem k476 : Kn e476 := go e476 98304 (l := []) nil' rfl rfl (by kernel_rfl)
noncomputable abbrev e475 : KE := ⟨89, [(.float .f64 4841692943328660823), (.int .i64 0)], (.bool false)⟩
theorem k475 : Kn e475 := go e475 1237940039285380274899222528 (l := [e474]) (cons' k474 nil') rfl rfl (by kernel_rfl)
noncomputable abbrev e478 : KE := ⟨310, [(.float .f64 4841692943328660823), (.int .i64 (-106))], (.float .f64 4364311382827388247)⟩
theorem k478 : Kn e478 := go e478 71671831749689734737838152978190216899892655911508785116799651230841339877765769222355296427418553778176 (l := [e477, e476, e475]) (cons' k477 (cons' k476 (cons' k475 nil'))) rfl rfl (by kernel_rfl)
noncomputable abbrev e479 : KE := ⟨244, [(.float .f64 4841692943328660823), (.int .i64 (-106))], (.float .f64 4364311382827388247)⟩
theorem k479 : Kn e479 := go e479 2085924839766513752338888384931203236916703635113918720651407820138886450957656787131799011328 (l := [e478]) (cons' k478 nil') rfl rfl (by kernel_rfl)
noncomputable abbrev e505 : KE := ⟨7, [(.float .f64 4364311382827388248), (.float .f64 13830554455654793216)], (.float .f64 13587683419682164056)⟩
theorem k505 : Kn e505 := go e505 98304 (l := []) nil' rfl rfl (by kernel_rfl)
noncomputable abbrev e499 : KE := ⟨90, [(.float .f64 4841692943328660824)], (.float .f64 4841692943328660824)⟩
theorem k499 : Kn e499 := go e499 98304 (l := []) nil' rfl rfl (by kernel_rfl)
noncomputable abbrev e502 : KE := ⟨345, [(.float .f64 4841692943328660824)], (.tuple #[(.float .f64 4841692943328660824), (.int .i64 0)])⟩
theorem k502 : Kn e502 := go e502 1237940039285380274899222528 (l := [e499]) (cons' k499 nil') rfl rfl (by kernel_rfl)
noncomputable abbrev e501 : KE := ⟨67, [(.float .f64 4841692943328660824)], (.bool false)⟩
theorem k501 : Kn e501 := go e501 98304 (l := []) nil' rfl rfl (by kernel_rfl)
noncomputable abbrev e500 : KE := ⟨89, [(.float .f64 4841692943328660824), (.int .i64 0)], (.bool false)⟩
theorem k500 : Kn e500 := go e500 1237940039285380274899222528 (l := [e499]) (cons' k499 nil') rfl rfl (by kernel_rfl)
noncomputable abbrev e503 : KE := ⟨310, [(.float .f64 4841692943328660824), (.int .i64 (-106))], (.float .f64 4364311382827388248)⟩
theorem k503 : Kn e503 := go e503 71671831749689734737838152978190216899892655911508785116799651230841339877765769222355296427418553778176 (l := [e502, e501, e500]) (cons' k502 (cons' k501 (cons' k500 nil'))) rfl rfl (by kernel_rfl)
noncomputable abbrev e504 : KE := ⟨244, [(.float .f64 4841692943328660824), (.int .i64 (-106))], (.float .f64 4364311382827388248)⟩
theorem k504 : Kn e504 := go e504 2085924839766513752338888384931203236916703635113918720651407820138886450957656787131799011328 (l := [e503]) (cons' k503 nil') rfl rfl (by kernel_rfl)
noncomputable abbrev e498 : KE := ⟨316, [(.int .u32 1497419154)], (.int .i64 1)⟩
theorem k498 : Kn e498 := goT e498 rfl rfl (fun e => by kernel_rfl)
noncomputable abbrev e497 : KE := ⟨316, [(.int .u32 1497419202)], (.int .i64 1)⟩
theorem k497 : Kn e497 := goT e497 rfl rfl (fun e => by kernel_rfl)
noncomputable abbrev e496 : KE := ⟨248, [(.slice none 0 0), (.int .u64 183)], (.slice none 0 0)⟩
theorem k496 : Kn e496 := go e496 98304 (l := []) nil' rfl rfl (by kernel_rfl)
noncomputable abbrev e494 : KE := ⟨312, [(.int .u32 2047)], (.int .i64 11)⟩
theorem k494 : Kn e494 := go e494 98304 (l := []) nil' rfl rfl (by kernel_rfl)
noncomputable abbrev e495 : KE := ⟨314, [(.int .u32 2047)], (.int .i64 21)⟩
theorem k495 : Kn e495 := go e495 8343699359066055009355553539724812947666814540455674882605631280555545803830627148527195750400 (l := [e494]) (cons' k494 nil') rfl rfl (by kernel_rfl)
noncomputable abbrev e488 : KE := ⟨312, [(.int .u32 1023)], (.int .i64 10)⟩
theorem k488 : Kn e488 := go e488 98304 (l := []) nil' rfl rfl (by kernel_rfl)
noncomputable abbrev e487 : KE := ⟨316, [(.int .u32 2707501737)], (.int .i64 0)⟩
theorem k487 : Kn e487 := goT e487 rfl rfl (fun e => by kernel_rfl)
noncomputable abbrev e473 : KE := ⟨312, [(.int .u32 1123860)], (.int .i64 21)⟩
theorem k473 : Kn e473 := go e473 98304 (l := []) nil' rfl rfl (by kernel_rfl)
noncomputable abbrev e486 : KE := ⟨316, [(.int .u32 1587465559)], (.int .i64 0)⟩
theorem k486 : Kn e486 := goT e486 rfl rfl (fun e => by kernel_rfl)
noncomputable abbrev e484 : KE := ⟨90, [(.float .f64 13587683419682164055)], (.float .f64 4364311382827388247)⟩
theorem k484 : Kn e484 := go e484 98304 (l := []) nil' rfl rfl (by kernel_rfl)
noncomputable abbrev e485 : KE := ⟨89, [(.float .f64 13587683419682164055), (.int .i64 0)], (.bool false)⟩
theorem k485 : Kn e485 := go e485 1237940039285380274899222528 (l := [e484]) (cons' k484 nil') rfl rfl (by kernel_rfl)
noncomputable abbrev e483 : KE := ⟨67, [(.float .f64 13587683419682164055)], (.bool false)⟩
theorem k483 : Kn e483 := go e483 98304 (l := []) nil' rfl rfl (by kernel_rfl)
noncomputable abbrev e482 : KE := ⟨62, [(.float .f64 13587683419682164055), (.float .f64 13830554455654793216)], (.int .i64 0)⟩
theorem k482 : Kn e482 := go e482 98304 (l := []) nil' rfl rfl (by kernel_rfl)
noncomputable abbrev e507 : KE := ⟨27, [(.float .f64 13587683419682164055)], (.tuple #[(.agg #[(.float .f64 13587683419682164056), (.float .f64 13587683419682164055)]), (.int .i64 0)])⟩
theorem k507 : Kn e507 := go e507 175217686540387155196947206735840792438649768256081952878401685473910324013119323845267950764160 (l := [e506, e479, e12, e505, e504, e4, e498, e497, e496, e495, e494, e493, e492, e491, e489, e86, e87, e488, e487, e473, e486, e485, e483, e482]) (cons' k506 (cons' k479 (cons' k12 (cons' k505 (cons' k504 (cons' k4 (cons' k498 (cons' k497 (cons' k496 (cons' k495 (cons' k494 (cons' k493 (cons' k492 (cons' k491 (cons' k489 (cons' k86 (cons' k87 (cons' k488 (cons' k487 (cons' k473 (cons' k486 (cons' k485 (cons' k483 (cons' k482 nil')))))))))))))))))))))))) rfl rfl (by kernel_rfl)
noncomputable abbrev e472 : KE := ⟨312, [(.int .u32 2301666036)], (.int .i64 32)⟩
theorem k472 : Kn e472 := go e472 98304 (l := []) nil' rfl rfl (by kernel_rfl)
noncomputable abbrev e471 : KE := ⟨314, [(.int .u32 1956669)], (.int .i64 11)⟩
theorem k471 : Kn e471 := go e471 8343699359066055009355553539724812947666814540455674882605631280555545803830627148527195750400 (l := [e426]) (cons' k426 nil') rfl rfl (by kernel_rfl)
noncomputable abbrev e85 : KE := ⟨316, [(.int .u32 1048576)], (.int .i64 20)⟩
theorem k85 : Kn e85 := goT e85 rfl rfl (fun e => by kernel_rfl)
noncomputable abbrev e332 : KE := ⟨90, [(.float .f64 4372995238176751616)], (.float .f64 4372995238176751616)⟩
theorem k332 : Kn e332 := go e332 98304 (l := []) nil' rfl rfl (by kernel_rfl)
noncomputable abbrev e333 : KE := ⟨89, [(.float .f64 4372995238176751616), (.int .i64 0)], (.bool false)⟩
theorem k333 : Kn e333 := go e333 1237940039285380274899222528 (l := [e332]) (cons' k332 nil') rfl rfl (by kernel_rfl)
noncomputable abbrev e335 : KE := ⟨67, [(.float .f64 4372995238176751616)], (.bool false)⟩
theorem k335 : Kn e335 := go e335 98304 (l := []) nil' rfl rfl (by kernel_rfl)
noncomputable abbrev e469 : KE := ⟨115, [(.float .f64 4615586250113164885)], (.bool false)⟩
theorem k469 : Kn e469 := go e469 618970019642690137449660416 (l := [e468]) (cons' k468 nil') rfl rfl (by kernel_rfl)
noncomputable abbrev e334 : KE := ⟨115, [(.float .f64 4372995238176751616)], (.bool false)⟩
theorem k334 : Kn e334 := go e334 618970019642690137449660416 (l := [e333]) (cons' k333 nil') rfl rfl (by kernel_rfl)
noncomputable abbrev e480 : KE := ⟨60, [(.float .f64 4372995238176751616), (.float .f64 4615586250113164885), (.int .i64 3)], (.float .f64 4364311382827388247)⟩
theorem k480 : Kn e480 := go e480 175217686540387155196494893887257526050276444095891765738349901519278750908111866276681904914432 (l := [e479, e473, e472, e471, e12, e426, e388, e468, e470, e86, e85, e333, e335, e469, e334, e97]) (cons' k479 (cons' k473 (cons' k472 (cons' k471 (cons' k12 (cons' k426 (cons' k388 (cons' k468 (cons' k470 (cons' k86 (cons' k85 (cons' k333 (cons' k335 (cons' k469 (cons' k334 (cons' k97 nil')))))))))))))))) rfl rfl (by kernel_rfl)
noncomputable abbrev e427 : KE := ⟨90, [(.float .f64 4845269831109060181)], (.float .f64 4845269831109060181)⟩
theorem k427 : Kn e427 := go e427 98304 (l := []) nil' rfl rfl (by kernel_rfl)
noncomputable abbrev e430 : KE := ⟨345, [(.float .f64 4845269831109060181)], (.tuple #[(.float .f64 4845269831109060181), (.int .i64 0)])⟩
theorem k430 : Kn e430 := go e430 1237940039285380274899222528 (l := [e427]) (cons' k427 nil') rfl rfl (by kernel_rfl)
noncomputable abbrev e429 : KE := ⟨67, [(.float .f64 4845269831109060181)], (.bool false)⟩
theorem k429 : Kn e429 := go e429 98304 (l := []) nil' rfl rfl (by kernel_rfl)
noncomputable abbrev e428 : KE := ⟨89, [(.float .f64 4845269831109060181), (.int .i64 0)], (.bool false)⟩
theorem k428 : Kn e428 := go e428 1237940039285380274899222528 (l := [e427]) (cons' k427 nil') rfl rfl (by kernel_rfl)
noncomputable abbrev e431 : KE := ⟨310, [(.float .f64 4845269831109060181), (.int .i64 (-51))], (.float .f64 4615586250113164885)⟩
theorem k431 : Kn e431 := go e431 71671831749689734737838152978190216899892655911508785116799651230841339877765769222355296427418553778176 (l := [e430, e429, e428]) (cons' k430 (cons' k429 (cons' k428 nil'))) rfl rfl (by kernel_rfl)
noncomputable abbrev e432 : KE := ⟨244, [(.float .f64 4845269831109060181), (.int .i64 (-51))], (.float .f64 4615586250113164885)⟩
theorem k432 : Kn e432 := go e432 2085924839766513752338888384931203236916703635113918720651407820138886450957656787131799011328 (l := [e431]) (cons' k431 nil') rfl rfl (by kernel_rfl)
noncomputable abbrev e463 : KE := ⟨312, [(.int .u32 4007259041)], (.int .i64 32)⟩
theorem k463 : Kn e463 := go e463 98304 (l := []) nil' rfl rfl (by kernel_rfl)
noncomputable abbrev e464 : KE := ⟨314, [(.int .u32 4007259041)], (.int .i64 0)⟩
theorem k464 : Kn e464 := go e464 8343699359066055009355553539724812947666814540455674882605631280555545803830627148527195750400 (l := [e463]) (cons' k463 nil') rfl rfl (by kernel_rfl)
noncomputable abbrev e461 : KE := ⟨312, [(.int .u32 4007270600)], (.int .i64 32)⟩
theorem k461 : Kn e461 := go e461 98304 (l := []) nil' rfl rfl (by kernel_rfl)
noncomputable abbrev e462 : KE := ⟨314, [(.int .u32 4007270600)], (.int .i64 0)⟩
theorem k462 : Kn e462 := go e462 8343699359066055009355553539724812947666814540455674882605631280555545803830627148527195750400 (l := [e461]) (cons' k461 nil') rfl rfl (by kernel_rfl)
noncomputable abbrev e459 : KE := ⟨312, [(.int .u32 4016895440)], (.int .i64 32)⟩
theorem k459 : Kn e459 := go e459 98304 (l := []) nil' rfl rfl (by kernel_rfl)
noncomputable abbrev e460 : KE := ⟨314, [(.int .u32 4016895440)], (.int .i64 0)⟩
theorem k460 : Kn e460 := go e460 8343699359066055009355553539724812947666814540455674882605631280555545803830627148527195750400 (l := [e459]) (cons' k459 nil') rfl rfl (by kernel_rfl)
noncomputable abbrev e458 : KE := ⟨312, [(.int .u32 3738823585)], (.int .i64 32)⟩
theorem k458 : Kn e458 := go e458 98304 (l := []) nil' rfl rfl (by kernel_rfl)
noncomputable abbrev e438 : KE := ⟨67, [(.float .f64 13838958286967940693)], (.bool false)⟩
theorem k438 : Kn e438 := go e438 98304 (l := []) nil' rfl rfl (by kernel_rfl)
noncomputable abbrev e176 : KE := ⟨117, [(.float .f64 0)], (.agg #[(.bool false), (.slice none 0 0), (.int .i64 0)])⟩
theorem k176 : Kn e176 := go e176 633825300114114700748351700992 (l := [e116]) (cons' k116 nil') rfl rfl (by kernel_rfl)
noncomputable abbrev e457 : KE := ⟨115, [(.float .f64 13838958286967940693)], (.bool false)⟩
theorem k457 : Kn e457 := go e457 618970019642690137449660416 (l := [e439]) (cons' k439 nil') rfl rfl (by kernel_rfl)
noncomputable abbrev e175 : KE := ⟨115, [(.float .f64 0)], (.bool false)⟩
theorem k175 : Kn e175 := go e175 618970019642690137449660416 (l := [e46]) (cons' k46 nil') rfl rfl (by kernel_rfl)
noncomputable abbrev e82 : KE := ⟨113, [(.int .i64 1)], (.int .i64 0)⟩
theorem k82 : Kn e82 := go e82 98304 (l := []) nil' rfl rfl (by kernel_rfl)
noncomputable abbrev e465 : KE := ⟨118, [(.float .f64 0), (.float .f64 13838958286967940693), (.int .i64 1)], (.float .f64 4615586250113164885)⟩
theorem k465 : Kn e465 := go e465 175999908355299597853621977031606727264120207959059485258594345605372396403040803477085434773504 (l := [e432, e463, e464, e462, e460, e277, e458, e4, e120, e119, e112, e453, e402, e426, e388, e439, e438, e390, e176, e457, e175, e82]) (cons' k432 (cons' k463 (cons' k464 (cons' k462 (cons' k460 (cons' k277 (cons' k458 (cons' k4 (cons' k120 (cons' k119 (cons' k112 (cons' k453 (cons' k402 (cons' k426 (cons' k388 (cons' k439 (cons' k438 (cons' k390 (cons' k176 (cons' k457 (cons' k175 (cons' k82 nil')))))))))))))))))))))) rfl rfl (by kernel_rfl)
noncomputable abbrev e466 : KE := ⟨61, [(.complex .f64 0 13838958286967940693), (.int .i64 1)], (.float .f64 4615586250113164885)⟩
theorem k466 : Kn e466 := go e466 332306998946228968225951765070184448 (l := [e465]) (cons' k465 nil') rfl rfl (by kernel_rfl)
noncomputable abbrev e481 : KE := ⟨26, [(.agg #[(.complex .f64 0 13838958286967940693), (.float .f64 4372995238176751616)])], (.float .f64 4364311382827388247)⟩
theorem k481 : Kn e481 := go e481 3458764513820639232 (l := [e480, e466]) (cons' k480 (cons' k466 nil')) rfl rfl (by kernel_rfl)
noncomputable abbrev e455 : KE := ⟨312, [(.int .u32 3565)], (.int .i64 12)⟩
theorem k455 : Kn e455 := go e455 98304 (l := []) nil' rfl rfl (by kernel_rfl)
noncomputable abbrev e454 : KE := ⟨316, [(.int .u32 3956629731)], (.int .i64 0)⟩
theorem k454 : Kn e454 := goT e454 rfl rfl (fun e => by kernel_rfl)
noncomputable abbrev e452 : KE := ⟨93, [(.agg #[(.bool false), (.slice none 0 0), (.int .i64 0)]), (.agg #[(.bool false), (.slice none 0 0), (.int .i64 0)])], (.agg #[(.bool false), (.slice none 0 0), (.int .i64 0)])⟩
theorem k452 : Kn e452 := go e452 39614081257132168796772073472 (l := [e390]) (cons' k390 nil') rfl rfl (by kernel_rfl)
noncomputable abbrev e451 : KE := ⟨92, [(.float .f64 0)], (.agg #[(.bool false), (.slice none 0 0), (.int .i64 0)])⟩
theorem k451 : Kn e451 := go e451 633825300114114700748351700992 (l := [e116]) (cons' k116 nil') rfl rfl (by kernel_rfl)
noncomputable abbrev e443 : KE := ⟨235, [(.float .f64 13838958286967940693), (.float .f64 0)], (.bool false)⟩
theorem k443 : Kn e443 := go e443 147573952589676511232 (l := [e438]) (cons' k438 nil') rfl rfl (by kernel_rfl)
noncomputable abbrev e39 : KE := ⟨235, [(.float .f64 0), (.float .f64 0)], (.bool true)⟩
theorem k39 : Kn e39 := go e39 98304 (l := []) nil' rfl rfl (by kernel_rfl)
noncomputable abbrev e444 : KE := ⟨153, [(.complex .f64 0 13838958286967940693), (.complex .f64 0 0)], (.bool false)⟩
theorem k444 : Kn e444 := go e444 55213970774324510299478046898216203619608871777363092441300193790492672 (l := [e443, e39]) (cons' k443 (cons' k39 nil')) rfl rfl (by kernel_rfl)
noncomputable abbrev e445 : KE := ⟨88, [(.agg #[(.complex .f64 0 13838958286967940693), (.float .f64 4372995238176751616)]), (.agg #[(.complex .f64 0 0), (.float .f64 9218868437227405312)])], (.bool false)⟩
theorem k445 : Kn e445 := go e445 11417981541647679048466287755595961091062071296 (l := [e444]) (cons' k444 nil') rfl rfl (by kernel_rfl)
noncomputable abbrev e446 : KE := ⟨36, [(.agg #[(.complex .f64 0 13838958286967940693), (.float .f64 4372995238176751616)])], (.bool false)⟩
theorem k446 : Kn e446 := go e446 309485009821345068725927936 (l := [e445, e38]) (cons' k445 (cons' k38 nil')) rfl rfl (by kernel_rfl)
noncomputable abbrev e375 : KE := ⟨38, [(.float .f64 4372995238176751616)], (.bool false)⟩
theorem k375 : Kn e375 := go e375 98304 (l := []) nil' rfl rfl (by kernel_rfl)
noncomputable abbrev e374 : KE := ⟨37, [(.float .f64 4372995238176751616)], (.bool true)⟩
theorem k374 : Kn e374 := go e374 618970167216642727126073344 (l := [e335, e333]) (cons' k335 (cons' k333 nil')) rfl rfl (by kernel_rfl)
noncomputable abbrev e447 : KE := ⟨37, [(.float .f64 13838958286967940693)], (.bool true)⟩
theorem k447 : Kn e447 := go e447 618970167216642727126073344 (l := [e438, e439]) (cons' k438 (cons' k439 nil')) rfl rfl (by kernel_rfl)
noncomputable abbrev e47 : KE := ⟨37, [(.float .f64 0)], (.bool true)⟩
theorem k47 : Kn e47 := go e47 618970167216642727126073344 (l := [e41, e46]) (cons' k41 (cons' k46 nil')) rfl rfl (by kernel_rfl)
noncomputable abbrev e448 : KE := ⟨17, [(.agg #[(.complex .f64 0 13838958286967940693), (.float .f64 4372995238176751616)])], (.bool true)⟩
theorem k448 : Kn e448 := go e448 481036435456 (l := [e375, e374, e447, e47, e446]) (cons' k375 (cons' k374 (cons' k447 (cons' k47 (cons' k446 nil'))))) rfl rfl (by kernel_rfl)
noncomputable abbrev e456 : KE := ⟨19, [(.agg #[(.complex .f64 0 13838958286967940693), (.float .f64 4372995238176751616)])], (.tuple #[(.bool false), (.int .i64 0)])⟩
theorem k456 : Kn e456 := go e456 142625110919035377816171493319671021324179611050914192524540009702014311214946994786781184098304 (l := [e455, e454, e87, e120, e119, e112, e453, e402, e452, e86, e85, e333, e335, e426, e388, e439, e438, e451, e446, e448]) (cons' k455 (cons' k454 (cons' k87 (cons' k120 (cons' k119 (cons' k112 (cons' k453 (cons' k402 (cons' k452 (cons' k86 (cons' k85 (cons' k333 (cons' k335 (cons' k426 (cons' k388 (cons' k439 (cons' k438 (cons' k451 (cons' k446 (cons' k448 nil')))))))))))))))))))) rfl rfl (by kernel_rfl)
noncomputable abbrev e449 : KE := ⟨39, [(.agg #[(.complex .f64 0 13838958286967940693), (.float .f64 4372995238176751616)])], (.bool false)⟩
theorem k449 : Kn e449 := go e449 1237940039285380343618830336 (l := [e436, e446, e448]) (cons' k436 (cons' k446 (cons' k448 nil'))) rfl rfl (by kernel_rfl)
noncomputable abbrev e450 : KE := ⟨18, [(.agg #[(.complex .f64 0 13838958286967940693), (.float .f64 4372995238176751616)])], (.int .i64 0)⟩
theorem k450 : Kn e450 := go e450 549755912192 (l := [e449]) (cons' k449 nil') rfl rfl (by kernel_rfl)
noncomputable abbrev e654 : KE := ⟨8, [(.agg #[(.complex .f64 0 13838958286967940693), (.float .f64 4372995238176751616)])], (.tuple #[(.agg #[(.complex .f64 4608609870266500148 13833125093779451160), (.float .f64 4376067426105093923)]), (.int .i64 0), (.int .i64 0)])⟩
theorem k654 : Kn e654 := go e654 472875008 (l := [e653, e625, e507, e481, e456, e450, e448]) (cons' k653 (cons' k625 (cons' k507 (cons' k481 (cons' k456 (cons' k450 (cons' k448 nil'))))))) rfl rfl (by kernel_rfl)
noncomputable abbrev e440 : KE := ⟨338, [(.float .f64 4372995238176751616)], (.bool true)⟩
theorem k440 : Kn e440 := go e440 1237940039285380274899222528 (l := [e332]) (cons' k332 nil') rfl rfl (by kernel_rfl)
noncomputable abbrev e89 : KE := ⟨90, [(.float .f64 4841369599423283200)], (.float .f64 4841369599423283200)⟩
theorem k89 : Kn e89 := go e89 98304 (l := []) nil' rfl rfl (by kernel_rfl)
noncomputable abbrev e92 : KE := ⟨345, [(.float .f64 4841369599423283200)], (.tuple #[(.float .f64 4841369599423283200), (.int .i64 0)])⟩
theorem k92 : Kn e92 := go e92 1237940039285380274899222528 (l := [e89]) (cons' k89 nil') rfl rfl (by kernel_rfl)
noncomputable abbrev e91 : KE := ⟨67, [(.float .f64 4841369599423283200)], (.bool false)⟩
theorem k91 : Kn e91 := go e91 98304 (l := []) nil' rfl rfl (by kernel_rfl)
noncomputable abbrev e90 : KE := ⟨89, [(.float .f64 4841369599423283200), (.int .i64 0)], (.bool false)⟩
theorem k90 : Kn e90 := go e90 1237940039285380274899222528 (l := [e89]) (cons' k89 nil') rfl rfl (by kernel_rfl)
noncomputable abbrev e323 : KE := ⟨310, [(.float .f64 4841369599423283200), (.int .i64 (-104))], (.float .f64 4372995238176751616)⟩
theorem k323 : Kn e323 := go e323 71671831749689734737838152978190216899892655911508785116799651230841339877765769222355296427418553778176 (l := [e92, e91, e90]) (cons' k92 (cons' k91 (cons' k90 nil'))) rfl rfl (by kernel_rfl)
noncomputable abbrev e324 : KE := ⟨244, [(.float .f64 4841369599423283200), (.int .i64 (-104))], (.float .f64 4372995238176751616)⟩
theorem k324 : Kn e324 := go e324 2085924839766513752338888384931203236916703635113918720651407820138886450957656787131799011328 (l := [e323]) (cons' k323 nil') rfl rfl (by kernel_rfl)
noncomputable abbrev e88 : KE := ⟨312, [(.int .u32 1048576)], (.int .i64 21)⟩
theorem k88 : Kn e88 := go e88 98304 (l := []) nil' rfl rfl (by kernel_rfl)
noncomputable abbrev e181 : KE := ⟨295, [(.agg #[(.bool false), (.slice none 0 0), (.int .i64 0)])], (.agg #[(.bool false), (.slice none 0 0), (.int .i64 0)])⟩
theorem k181 : Kn e181 := go e181 2475880078570760549798346752 (l := [e112]) (cons' k112 nil') rfl rfl (by kernel_rfl)
noncomputable abbrev e118 : KE := ⟨119, [(.agg #[(.bool false), (.slice none 0 0), (.int .i64 0)]), (.agg #[(.bool false), (.slice none 0 0), (.int .i64 0)])], (.bool false)⟩
theorem k118 : Kn e118 := go e118 98304 (l := []) nil' rfl rfl (by kernel_rfl)
noncomputable abbrev e121 : KE := ⟨63, [(.agg #[(.bool false), (.slice none 0 0), (.int .i64 0)]), (.agg #[(.bool false), (.slice none 0 0), (.int .i64 0)])], (.tuple #[(.agg #[(.bool false), (.slice none 0 0), (.int .i64 0)]), (.int .i64 0)])⟩
theorem k121 : Kn e121 := go e121 782221814912442657127083144349201213843763863167719520244942546552450757124143959254363111424 (l := [e120, e119, e118, e112]) (cons' k120 (cons' k119 (cons' k118 (cons' k112 nil')))) rfl rfl (by kernel_rfl)
noncomputable abbrev e124 : KE := ⟨155, [(.agg #[(.bool false), (.slice none 0 0), (.int .i64 0)])], (.agg #[(.bool false), (.slice none 0 0), (.int .i64 0)])⟩
theorem k124 : Kn e124 := go e124 2475880078570760549798346752 (l := [e112]) (cons' k112 nil') rfl rfl (by kernel_rfl)
noncomputable abbrev e125 : KE := ⟨94, [(.agg #[(.bool false), (.slice none 0 0), (.int .i64 0)]), (.agg #[(.bool false), (.slice none 0 0), (.int .i64 0)])], (.tuple #[(.agg #[(.bool false), (.slice none 0 0), (.int .i64 0)]), (.int .i64 0)])⟩
theorem k125 : Kn e125 := go e125 45671926166590716196341031110177976950901014528 (l := [e121, e124, e112]) (cons' k121 (cons' k124 (cons' k112 nil'))) rfl rfl (by kernel_rfl)
noncomputable abbrev e168 : KE := ⟨294, [(.float .f64 0)], (.agg #[(.bool false), (.slice none 0 0), (.int .i64 0)])⟩
theorem k168 : Kn e168 := go e168 633825300114114700748351700992 (l := [e116]) (cons' k116 nil') rfl rfl (by kernel_rfl)
noncomputable abbrev e182 : KE := ⟨339, [(.float .f64 0), (.agg #[(.bool false), (.slice none 0 0), (.int .i64 0)])], (.agg #[(.bool false), (.slice none 0 0), (.int .i64 0)])⟩
theorem k182 : Kn e182 := go e182 95486061390679035293833391644189601299287580953090761748569103370527251992490806488432640 (l := [e181, e125, e168]) (cons' k181 (cons' k125 (cons' k168 nil'))) rfl rfl (by kernel_rfl)
noncomputable abbrev e437 : KE := ⟨338, [(.float .f64 13838958286967940693)], (.bool true)⟩
theorem k437 : Kn e437 := go e437 1237940039285380274899222528 (l := [e436]) (cons' k436 nil') rfl rfl (by kernel_rfl)
noncomputable abbrev e180 : KE := ⟨338, [(.float .f64 0)], (.bool true)⟩
theorem k180 : Kn e180 := go e180 1237940039285380274899222528 (l := [e45]) (cons' k45 nil') rfl rfl (by kernel_rfl)
noncomputable abbrev e433 : KE := ⟨7, [(.float .f64 4615586250113164885), (.float .f64 13830554455654793216)], (.float .f64 13838958286967940693)⟩
theorem k433 : Kn e433 := go e433 98304 (l := []) nil' rfl rfl (by kernel_rfl)
noncomputable abbrev e322 : KE := ⟨312, [(.int .u32 908093)], (.int .i64 20)⟩
theorem k322 : Kn e322 := go e322 98304 (l := []) nil' rfl rfl (by kernel_rfl)
noncomputable abbrev e321 : KE := ⟨316, [(.int .u32 3898100906)], (.int .i64 1)⟩
theorem k321 : Kn e321 := goT e321 rfl rfl (fun e => by kernel_rfl)
noncomputable abbrev e315 : KE := ⟨90, [(.float .f64 13833851319398976682)], (.float .f64 4610479282544200874)⟩
theorem k315 : Kn e315 := go e315 98304 (l := []) nil' rfl rfl (by kernel_rfl)
noncomputable abbrev e316 : KE := ⟨89, [(.float .f64 13833851319398976682), (.int .i64 0)], (.bool false)⟩
theorem k316 : Kn e316 := go e316 1237940039285380274899222528 (l := [e315]) (cons' k315 nil') rfl rfl (by kernel_rfl)
noncomputable abbrev e320 : KE := ⟨67, [(.float .f64 13833851319398976682)], (.bool false)⟩
theorem k320 : Kn e320 := go e320 98304 (l := []) nil' rfl rfl (by kernel_rfl)
noncomputable abbrev e225 : KE := ⟨90, [(.float .f64 13835058055282163712)], (.float .f64 4611686018427387904)⟩
theorem k225 : Kn e225 := go e225 98304 (l := []) nil' rfl rfl (by kernel_rfl)
noncomputable abbrev e226 : KE := ⟨89, [(.float .f64 13835058055282163712), (.int .i64 0)], (.bool false)⟩
theorem k226 : Kn e226 := go e226 1237940039285380274899222528 (l := [e225]) (cons' k225 nil') rfl rfl (by kernel_rfl)
noncomputable abbrev e220 : KE := ⟨67, [(.float .f64 13835058055282163712)], (.bool false)⟩
theorem k220 : Kn e220 := go e220 98304 (l := []) nil' rfl rfl (by kernel_rfl)
noncomputable abbrev e317 : KE := ⟨115, [(.float .f64 13833851319398976682)], (.bool false)⟩
theorem k317 : Kn e317 := go e317 618970019642690137449660416 (l := [e316]) (cons' k316 nil') rfl rfl (by kernel_rfl)
noncomputable abbrev e259 : KE := ⟨115, [(.float .f64 13835058055282163712)], (.bool false)⟩
theorem k259 : Kn e259 := go e259 618970019642690137449660416 (l := [e226]) (cons' k226 nil') rfl rfl (by kernel_rfl)
noncomputable abbrev e169 : KE := ⟨113, [(.int .i64 2)], (.int .i64 0)⟩
theorem k169 : Kn e169 := go e169 98304 (l := []) nil' rfl rfl (by kernel_rfl)
noncomputable abbrev e434 : KE := ⟨68, [(.float .f64 13835058055282163712), (.float .f64 13833851319398976682), (.int .i64 2)], (.float .f64 13838958286967940693)⟩
theorem k434 : Kn e434 := go e434 141842889104122935159072679728358274259609185934069066207927376397056567692789357682573122306176 (l := [e433, e432, e111, e426, e388, e322, e321, e316, e320, e86, e85, e226, e220, e317, e259, e169]) (cons' k433 (cons' k432 (cons' k111 (cons' k426 (cons' k388 (cons' k322 (cons' k321 (cons' k316 (cons' k320 (cons' k86 (cons' k85 (cons' k226 (cons' k220 (cons' k317 (cons' k259 (cons' k169 nil')))))))))))))))) rfl rfl (by kernel_rfl)
noncomputable abbrev e48 : KE := ⟨38, [(.float .f64 0)], (.bool false)⟩
theorem k48 : Kn e48 := go e48 98304 (l := []) nil' rfl rfl (by kernel_rfl)
noncomputable abbrev e177 : KE := ⟨127, [(.float .f64 0), (.float .f64 0), (.int .i64 2)], (.float .f64 0)⟩
theorem k177 : Kn e177 := go e177 274878005248 (l := [e48]) (cons' k48 nil') rfl rfl (by kernel_rfl)
noncomputable abbrev e178 : KE := ⟨68, [(.float .f64 0), (.float .f64 0), (.int .i64 2)], (.float .f64 0)⟩
theorem k178 : Kn e178 := go e178 170359259928527694501308957698077851648 (l := [e177, e113, e121, e176, e175, e169]) (cons' k177 (cons' k113 (cons' k121 (cons' k176 (cons' k175 (cons' k169 nil')))))) rfl rfl (by kernel_rfl)
noncomputable abbrev e435 : KE := ⟨297, [(.complex .f64 0 13835058055282163712), (.complex .f64 0 13833851319398976682), (.int .i64 2)], (.complex .f64 0 13838958286967940693)⟩
theorem k435 : Kn e435 := go e435 295147905179352924160 (l := [e434, e178]) (cons' k434 (cons' k178 nil')) rfl rfl (by kernel_rfl)
noncomputable abbrev e395 : KE := ⟨235, [(.float .f64 13833851319398976682), (.float .f64 0)], (.bool false)⟩
theorem k395 : Kn e395 := go e395 147573952589676511232 (l := [e320]) (cons' k320 nil') rfl rfl (by kernel_rfl)
noncomputable abbrev e396 : KE := ⟨153, [(.complex .f64 0 13833851319398976682), (.complex .f64 0 0)], (.bool false)⟩
theorem k396 : Kn e396 := go e396 55213970774324510299478046898216203619608871777363092441300193790492672 (l := [e395, e39]) (cons' k395 (cons' k39 nil')) rfl rfl (by kernel_rfl)
noncomputable abbrev e422 : KE := ⟨88, [(.agg #[(.complex .f64 0 13833851319398976682), (.float .f64 4372995238176751616)]), (.agg #[(.complex .f64 0 0), (.float .f64 9218868437227405312)])], (.bool false)⟩
theorem k422 : Kn e422 := go e422 11417981541647679048466287755595961091062071296 (l := [e396]) (cons' k396 nil') rfl rfl (by kernel_rfl)
noncomputable abbrev e423 : KE := ⟨36, [(.agg #[(.complex .f64 0 13833851319398976682), (.float .f64 4372995238176751616)])], (.bool false)⟩
theorem k423 : Kn e423 := go e423 309485009821345068725927936 (l := [e422, e38]) (cons' k422 (cons' k38 nil')) rfl rfl (by kernel_rfl)
noncomputable abbrev e424 : KE := ⟨37, [(.float .f64 13833851319398976682)], (.bool true)⟩
theorem k424 : Kn e424 := go e424 618970167216642727126073344 (l := [e320, e316]) (cons' k320 (cons' k316 nil')) rfl rfl (by kernel_rfl)
noncomputable abbrev e425 : KE := ⟨17, [(.agg #[(.complex .f64 0 13833851319398976682), (.float .f64 4372995238176751616)])], (.bool true)⟩
theorem k425 : Kn e425 := go e425 481036435456 (l := [e375, e374, e424, e47, e423]) (cons' k375 (cons' k374 (cons' k424 (cons' k47 (cons' k423 nil'))))) rfl rfl (by kernel_rfl)
noncomputable abbrev e221 : KE := ⟨235, [(.float .f64 13835058055282163712), (.float .f64 0)], (.bool false)⟩
theorem k221 : Kn e221 := go e221 147573952589676511232 (l := [e220]) (cons' k220 nil') rfl rfl (by kernel_rfl)
noncomputable abbrev e222 : KE := ⟨153, [(.complex .f64 0 13835058055282163712), (.complex .f64 0 0)], (.bool false)⟩
theorem k222 : Kn e222 := go e222 55213970774324510299478046898216203619608871777363092441300193790492672 (l := [e221, e39]) (cons' k221 (cons' k39 nil')) rfl rfl (by kernel_rfl)
noncomputable abbrev e223 : KE := ⟨88, [(.agg #[(.complex .f64 0 13835058055282163712), (.float .f64 0)]), (.agg #[(.complex .f64 0 0), (.float .f64 9218868437227405312)])], (.bool false)⟩
theorem k223 : Kn e223 := go e223 11417981541647679048466287755595961091062071296 (l := [e222]) (cons' k222 nil') rfl rfl (by kernel_rfl)
noncomputable abbrev e224 : KE := ⟨36, [(.agg #[(.complex .f64 0 13835058055282163712), (.float .f64 0)])], (.bool false)⟩
theorem k224 : Kn e224 := go e224 309485009821345068725927936 (l := [e223, e38]) (cons' k223 (cons' k38 nil')) rfl rfl (by kernel_rfl)
noncomputable abbrev e227 : KE := ⟨37, [(.float .f64 13835058055282163712)], (.bool true)⟩
theorem k227 : Kn e227 := go e227 618970167216642727126073344 (l := [e220, e226]) (cons' k220 (cons' k226 nil')) rfl rfl (by kernel_rfl)
noncomputable abbrev e228 : KE := ⟨17, [(.agg #[(.complex .f64 0 13835058055282163712), (.float .f64 0)])], (.bool true)⟩
theorem k228 : Kn e228 := go e228 481036435456 (l := [e48, e227, e47, e224]) (cons' k48 (cons' k227 (cons' k47 (cons' k224 nil')))) rfl rfl (by kernel_rfl)
end Go.Proofs.YtkdcifgnjdfdmaaGreatDoor
