/- Closed calls of the given program, each run once by the fast machine in the kernel: part 3. No condition. -/
import Derived.Test.YtkdcifgnjdfdmaaGreatDoorKb
import Derived.KernelRfl
import Derived.Test.YtkdcifgnjdfdmaaGreatDoorV0
import Derived.Test.YtkdcifgnjdfdmaaGreatDoorV1
import Derived.Test.YtkdcifgnjdfdmaaGreatDoorV2
open Go AM
namespace Go.Proofs.YtkdcifgnjdfdmaaGreatDoor
set_option maxRecDepth 100000
noncomputable abbrev e441 : KE := ⟨228, [(.agg #[(.complex .f64 0 13835058055282163712), (.float .f64 0)]), (.agg #[(.complex .f64 0 13833851319398976682), (.float .f64 4372995238176751616)])], (.tuple #[(.agg #[(.complex .f64 0 13838958286967940693), (.float .f64 4372995238176751616)]), (.int .i64 0)])⟩
theorem k441 : Kn e441 := go e441 1679808699258814192511892016422173470401404958250367669541938886687524396667394137031542748889707937792 (l := [e440, e324, e88, e12, e120, e119, e181, e426, e388, e439, e438, e182, e437, e180, e86, e85, e333, e335, e435, e87, e112, e322, e321, e316, e320, e226, e220, e121, e168, e423, e425, e224, e228]) (cons' k440 (cons' k324 (cons' k88 (cons' k12 (cons' k120 (cons' k119 (cons' k181 (cons' k426 (cons' k388 (cons' k439 (cons' k438 (cons' k182 (cons' k437 (cons' k180 (cons' k86 (cons' k85 (cons' k333 (cons' k335 (cons' k435 (cons' k87 (cons' k112 (cons' k322 (cons' k321 (cons' k316 (cons' k320 (cons' k226 (cons' k220 (cons' k121 (cons' k168 (cons' k423 (cons' k425 (cons' k224 (cons' k228 nil'))))))))))))))))))))))))))))))))) rfl rfl (by kernel_rfl)
noncomputable abbrev e442 : KE := ⟨145, [(.agg #[(.complex .f64 0 13835058055282163712), (.float .f64 0)]), (.agg #[(.complex .f64 0 13833851319398976682), (.float .f64 4372995238176751616)])], (.agg #[(.complex .f64 0 13838958286967940693), (.float .f64 4372995238176751616)])⟩
theorem k442 : Kn e442 := go e442 431359146674410236714672241392314090778194310760649159697657764085760 (l := [e441]) (cons' k441 nil') rfl rfl (by kernel_rfl)
noncomputable abbrev e420 : KE := ⟨305, [(.complex .f64 0 13833851319398976682), (.float .f64 4372995238176751616)], (.agg #[(.complex .f64 0 13833851319398976682), (.float .f64 4372995238176751616)])⟩
theorem k420 : Kn e420 := go e420 618970167216642727126073344 (l := [e335, e333, e320, e316, e41, e46]) (cons' k335 (cons' k333 (cons' k320 (cons' k316 (cons' k41 (cons' k46 nil')))))) rfl rfl (by kernel_rfl)
noncomputable abbrev e415 : KE := ⟨67, [(.float .f64 4372995238176751615)], (.bool false)⟩
theorem k415 : Kn e415 := go e415 98304 (l := []) nil' rfl rfl (by kernel_rfl)
noncomputable abbrev e418 : KE := ⟨168, [(.float .f64 4372995238176751615), (.float .f64 9218868437227405312)], (.float .f64 4372995238176751616)⟩
theorem k418 : Kn e418 := go e418 147573952589676511232 (l := [e404, e415]) (cons' k404 (cons' k415 nil')) rfl rfl (by kernel_rfl)
noncomputable abbrev e419 : KE := ⟨103, [(.float .f64 4372995238176751615), (.int .i64 1)], (.float .f64 4372995238176751616)⟩
theorem k419 : Kn e419 := go e419 374144419156711147060143317175368453036316777611264 (l := [e418, e37]) (cons' k418 (cons' k37 nil')) rfl rfl (by kernel_rfl)
noncomputable abbrev e417 : KE := ⟨312, [(.int .u32 2097151)], (.int .i64 21)⟩
theorem k417 : Kn e417 := go e417 98304 (l := []) nil' rfl rfl (by kernel_rfl)
noncomputable abbrev e416 : KE := ⟨316, [(.int .u32 4294967295)], (.int .i64 0)⟩
theorem k416 : Kn e416 := goT e416 rfl rfl (fun e => by kernel_rfl)
noncomputable abbrev e413 : KE := ⟨90, [(.float .f64 4372995238176751615)], (.float .f64 4372995238176751615)⟩
theorem k413 : Kn e413 := go e413 98304 (l := []) nil' rfl rfl (by kernel_rfl)
noncomputable abbrev e414 : KE := ⟨89, [(.float .f64 4372995238176751615), (.int .i64 0)], (.bool false)⟩
theorem k414 : Kn e414 := go e414 1237940039285380274899222528 (l := [e413]) (cons' k413 nil') rfl rfl (by kernel_rfl)
noncomputable abbrev e411 : KE := ⟨168, [(.float .f64 4372995238176751616), (.float .f64 18442240474082181120)], (.float .f64 4372995238176751615)⟩
theorem k411 : Kn e411 := go e411 147573952589676511232 (l := [e410, e335]) (cons' k410 (cons' k335 nil')) rfl rfl (by kernel_rfl)
noncomputable abbrev e412 : KE := ⟨103, [(.float .f64 4372995238176751616), (.int .i64 (-1))], (.float .f64 4372995238176751615)⟩
theorem k412 : Kn e412 := go e412 374144419156711147060143317175368453036316777611264 (l := [e411, e81]) (cons' k411 (cons' k81 nil')) rfl rfl (by kernel_rfl)
noncomputable abbrev e407 : KE := ⟨67, [(.float .f64 4372995238176751617)], (.bool false)⟩
theorem k407 : Kn e407 := go e407 98304 (l := []) nil' rfl rfl (by kernel_rfl)
noncomputable abbrev e408 : KE := ⟨168, [(.float .f64 4372995238176751617), (.float .f64 9218868437227405312)], (.float .f64 4372995238176751618)⟩
theorem k408 : Kn e408 := go e408 147573952589676511232 (l := [e404, e407]) (cons' k404 (cons' k407 nil')) rfl rfl (by kernel_rfl)
noncomputable abbrev e409 : KE := ⟨103, [(.float .f64 4372995238176751617), (.int .i64 1)], (.float .f64 4372995238176751618)⟩
theorem k409 : Kn e409 := go e409 374144419156711147060143317175368453036316777611264 (l := [e408, e37]) (cons' k408 (cons' k37 nil')) rfl rfl (by kernel_rfl)
noncomputable abbrev e405 : KE := ⟨168, [(.float .f64 4372995238176751616), (.float .f64 9218868437227405312)], (.float .f64 4372995238176751617)⟩
theorem k405 : Kn e405 := go e405 147573952589676511232 (l := [e404, e335]) (cons' k404 (cons' k335 nil')) rfl rfl (by kernel_rfl)
noncomputable abbrev e406 : KE := ⟨103, [(.float .f64 4372995238176751616), (.int .i64 1)], (.float .f64 4372995238176751617)⟩
theorem k406 : Kn e406 := go e406 374144419156711147060143317175368453036316777611264 (l := [e405, e37]) (cons' k405 (cons' k37 nil')) rfl rfl (by kernel_rfl)
noncomputable abbrev e346 : KE := ⟨312, [(.int .u32 2)], (.int .i64 2)⟩
theorem k346 : Kn e346 := go e346 98304 (l := []) nil' rfl rfl (by kernel_rfl)
noncomputable abbrev e347 : KE := ⟨314, [(.int .u32 2)], (.int .i64 30)⟩
theorem k347 : Kn e347 := go e347 8343699359066055009355553539724812947666814540455674882605631280555545803830627148527195750400 (l := [e346]) (cons' k346 nil') rfl rfl (by kernel_rfl)
noncomputable abbrev e400 : KE := ⟨303, [(.agg #[(.bool false), (.slice none 0 0), (.int .i64 0)]), (.agg #[(.bool false), (.slice none 0 0), (.int .i64 0)])], (.agg #[(.bool false), (.slice none 0 0), (.int .i64 0)])⟩
theorem k400 : Kn e400 := go e400 39614081257132168796772073472 (l := [e390]) (cons' k390 nil') rfl rfl (by kernel_rfl)
noncomputable abbrev e164 : KE := ⟨90, [(.float .f64 13830554455654793216)], (.float .f64 4607182418800017408)⟩
theorem k164 : Kn e164 := go e164 98304 (l := []) nil' rfl rfl (by kernel_rfl)
noncomputable abbrev e165 : KE := ⟨89, [(.float .f64 13830554455654793216), (.int .i64 0)], (.bool false)⟩
theorem k165 : Kn e165 := go e165 1237940039285380274899222528 (l := [e164]) (cons' k164 nil') rfl rfl (by kernel_rfl)
noncomputable abbrev e159 : KE := ⟨67, [(.float .f64 13830554455654793216)], (.bool false)⟩
theorem k159 : Kn e159 := go e159 98304 (l := []) nil' rfl rfl (by kernel_rfl)
noncomputable abbrev e399 : KE := ⟨301, [(.float .f64 0)], (.agg #[(.bool false), (.slice none 0 0), (.int .i64 0)])⟩
theorem k399 : Kn e399 := go e399 633825300114114700748351700992 (l := [e116]) (cons' k116 nil') rfl rfl (by kernel_rfl)
noncomputable abbrev e403 : KE := ⟨312, [(.int .u32 191)], (.int .i64 8)⟩
theorem k403 : Kn e403 := go e403 98304 (l := []) nil' rfl rfl (by kernel_rfl)
noncomputable abbrev e371 : KE := ⟨90, [(.float .f64 4610479282544200874)], (.float .f64 4610479282544200874)⟩
theorem k371 : Kn e371 := go e371 98304 (l := []) nil' rfl rfl (by kernel_rfl)
noncomputable abbrev e372 : KE := ⟨89, [(.float .f64 4610479282544200874), (.int .i64 0)], (.bool false)⟩
theorem k372 : Kn e372 := go e372 1237940039285380274899222528 (l := [e371]) (cons' k371 nil') rfl rfl (by kernel_rfl)
noncomputable abbrev e366 : KE := ⟨67, [(.float .f64 4610479282544200874)], (.bool false)⟩
theorem k366 : Kn e366 := go e366 98304 (l := []) nil' rfl rfl (by kernel_rfl)
noncomputable abbrev e397 : KE := ⟨88, [(.agg #[(.complex .f64 0 13833851319398976682), (.float .f64 0)]), (.agg #[(.complex .f64 0 0), (.float .f64 9218868437227405312)])], (.bool false)⟩
theorem k397 : Kn e397 := go e397 11417981541647679048466287755595961091062071296 (l := [e396]) (cons' k396 nil') rfl rfl (by kernel_rfl)
noncomputable abbrev e398 : KE := ⟨36, [(.agg #[(.complex .f64 0 13833851319398976682), (.float .f64 0)])], (.bool false)⟩
theorem k398 : Kn e398 := go e398 309485009821345068725927936 (l := [e397, e38]) (cons' k397 (cons' k38 nil')) rfl rfl (by kernel_rfl)
noncomputable abbrev e394 : KE := ⟨305, [(.complex .f64 0 13833851319398976682), (.float .f64 0)], (.agg #[(.complex .f64 0 13833851319398976682), (.float .f64 0)])⟩
theorem k394 : Kn e394 := go e394 618970167216642727126073344 (l := [e320, e316, e41, e46]) (cons' k320 (cons' k316 (cons' k41 (cons' k46 nil')))) rfl rfl (by kernel_rfl)
noncomputable abbrev e391 : KE := ⟨7, [(.float .f64 4610479282544200874), (.float .f64 13830554455654793216)], (.float .f64 13833851319398976682)⟩
theorem k391 : Kn e391 := go e391 98304 (l := []) nil' rfl rfl (by kernel_rfl)
noncomputable abbrev e287 : KE := ⟨90, [(.float .f64 4844666463167466666)], (.float .f64 4844666463167466666)⟩
theorem k287 : Kn e287 := go e287 98304 (l := []) nil' rfl rfl (by kernel_rfl)
noncomputable abbrev e290 : KE := ⟨345, [(.float .f64 4844666463167466666)], (.tuple #[(.float .f64 4844666463167466666), (.int .i64 0)])⟩
theorem k290 : Kn e290 := go e290 1237940039285380274899222528 (l := [e287]) (cons' k287 nil') rfl rfl (by kernel_rfl)
noncomputable abbrev e289 : KE := ⟨67, [(.float .f64 4844666463167466666)], (.bool false)⟩
theorem k289 : Kn e289 := go e289 98304 (l := []) nil' rfl rfl (by kernel_rfl)
noncomputable abbrev e288 : KE := ⟨89, [(.float .f64 4844666463167466666), (.int .i64 0)], (.bool false)⟩
theorem k288 : Kn e288 := go e288 1237940039285380274899222528 (l := [e287]) (cons' k287 nil') rfl rfl (by kernel_rfl)
noncomputable abbrev e291 : KE := ⟨310, [(.float .f64 4844666463167466666), (.int .i64 (-52))], (.float .f64 4610479282544200874)⟩
theorem k291 : Kn e291 := go e291 71671831749689734737838152978190216899892655911508785116799651230841339877765769222355296427418553778176 (l := [e290, e289, e288]) (cons' k290 (cons' k289 (cons' k288 nil'))) rfl rfl (by kernel_rfl)
noncomputable abbrev e292 : KE := ⟨244, [(.float .f64 4844666463167466666), (.int .i64 (-52))], (.float .f64 4610479282544200874)⟩
theorem k292 : Kn e292 := go e292 2085924839766513752338888384931203236916703635113918720651407820138886450957656787131799011328 (l := [e291]) (cons' k291 nil') rfl rfl (by kernel_rfl)
noncomputable abbrev e286 : KE := ⟨312, [(.int .u32 1816186)], (.int .i64 21)⟩
theorem k286 : Kn e286 := go e286 98304 (l := []) nil' rfl rfl (by kernel_rfl)
noncomputable abbrev e172 : KE := ⟨38, [(.float .f64 13830554455654793216)], (.bool true)⟩
theorem k172 : Kn e172 := go e172 98304 (l := []) nil' rfl rfl (by kernel_rfl)
noncomputable abbrev e385 : KE := ⟨38, [(.float .f64 4610479282544200874)], (.bool false)⟩
theorem k385 : Kn e385 := go e385 98304 (l := []) nil' rfl rfl (by kernel_rfl)
noncomputable abbrev e383 : KE := ⟨386, [(.float .f64 0)], (.agg #[(.bool false), (.slice none 0 0), (.int .i64 0)])⟩
theorem k383 : Kn e383 := go e383 633825300114114700748351700992 (l := [e116]) (cons' k116 nil') rfl rfl (by kernel_rfl)
noncomputable abbrev e392 : KE := ⟨359, [(.float .f64 4610479282544200874), (.float .f64 13830554455654793216), (.float .f64 0), (.float .f64 0), (.int .i64 2)], (.float .f64 13833851319398976682)⟩
theorem k392 : Kn e392 := go e392 157608024785577916849258785511493490598135156844734494147266626566780123871717014048063747174264620459828917664055424 (l := [e391, e292, e286, e111, e48, e172, e385, e120, e119, e112, e390, e383, e388, e86, e85, e165, e159, e322, e321, e372, e366]) (cons' k391 (cons' k292 (cons' k286 (cons' k111 (cons' k48 (cons' k172 (cons' k385 (cons' k120 (cons' k119 (cons' k112 (cons' k390 (cons' k383 (cons' k388 (cons' k86 (cons' k85 (cons' k165 (cons' k159 (cons' k322 (cons' k321 (cons' k372 (cons' k366 nil'))))))))))))))))))))) rfl rfl (by kernel_rfl)
noncomputable abbrev e212 : KE := ⟨38, [(.float .f64 9223372036854775808)], (.bool true)⟩
theorem k212 : Kn e212 := go e212 98304 (l := []) nil' rfl rfl (by kernel_rfl)
noncomputable abbrev e59 : KE := ⟨90, [(.float .f64 9223372036854775808)], (.float .f64 0)⟩
theorem k59 : Kn e59 := go e59 98304 (l := []) nil' rfl rfl (by kernel_rfl)
noncomputable abbrev e60 : KE := ⟨89, [(.float .f64 9223372036854775808), (.int .i64 0)], (.bool false)⟩
theorem k60 : Kn e60 := go e60 1237940039285380274899222528 (l := [e59]) (cons' k59 nil') rfl rfl (by kernel_rfl)
noncomputable abbrev e54 : KE := ⟨67, [(.float .f64 9223372036854775808)], (.bool false)⟩
theorem k54 : Kn e54 := go e54 98304 (l := []) nil' rfl rfl (by kernel_rfl)
noncomputable abbrev e262 : KE := ⟨99, [(.float .f64 9223372036854775808)], (.tuple #[(.agg #[(.bool false), (.slice none 0 0), (.int .i64 0)]), (.int .i64 0)])⟩
theorem k262 : Kn e262 := go e262 618970167216642727126073344 (l := [e60, e54]) (cons' k60 (cons' k54 nil')) rfl rfl (by kernel_rfl)
noncomputable abbrev e384 : KE := ⟨386, [(.float .f64 9223372036854775808)], (.agg #[(.bool false), (.slice none 0 0), (.int .i64 0)])⟩
theorem k384 : Kn e384 := go e384 633825300114114700748351700992 (l := [e262]) (cons' k262 nil') rfl rfl (by kernel_rfl)
noncomputable abbrev e386 : KE := ⟨374, [(.float .f64 4610479282544200874), (.float .f64 0), (.float .f64 9223372036854775808), (.float .f64 13830554455654793216), (.int .i64 2)], (.tuple #[(.agg #[(.bool false), (.slice none 0 0), (.int .i64 0)]), (.float .f64 0)])⟩
theorem k386 : Kn e386 := go e386 157608024785577916849258785511493490598135128575181457693117353228033801278513382455359064475474147356823336880537600 (l := [e172, e212, e48, e385, e113, e121, e120, e119, e86, e85, e165, e159, e384, e112, e383, e322, e321, e372, e366]) (cons' k172 (cons' k212 (cons' k48 (cons' k385 (cons' k113 (cons' k121 (cons' k120 (cons' k119 (cons' k86 (cons' k85 (cons' k165 (cons' k159 (cons' k384 (cons' k112 (cons' k383 (cons' k322 (cons' k321 (cons' k372 (cons' k366 nil'))))))))))))))))))) rfl rfl (by kernel_rfl)
noncomputable abbrev e387 : KE := ⟨359, [(.float .f64 4610479282544200874), (.float .f64 0), (.float .f64 9223372036854775808), (.float .f64 13830554455654793216), (.int .i64 2)], (.float .f64 0)⟩
theorem k387 : Kn e387 := go e387 38478521676166483605741250097796497856523182881313912761668255277583712667477744737709244389536050431574734372864 (l := [e113, e386]) (cons' k113 (cons' k386 nil')) rfl rfl (by kernel_rfl)
noncomputable abbrev e382 : KE := ⟨357, [(.complex .f64 0 13830554455654793216)], (.bool true)⟩
theorem k382 : Kn e382 := go e382 1237940039285380274899222528 (l := [e164, e45]) (cons' k164 (cons' k45 nil')) rfl rfl (by kernel_rfl)
noncomputable abbrev e381 : KE := ⟨357, [(.complex .f64 4610479282544200874 0)], (.bool true)⟩
theorem k381 : Kn e381 := go e381 1237940039285380274899222528 (l := [e45, e371]) (cons' k45 (cons' k371 nil')) rfl rfl (by kernel_rfl)
noncomputable abbrev e393 : KE := ⟨340, [(.complex .f64 4610479282544200874 0), (.complex .f64 0 13830554455654793216), (.int .i64 2)], (.complex .f64 0 13833851319398976682)⟩
theorem k393 : Kn e393 := go e393 1467839114233645767430925372993335642109801593067699919192056857207630640707014870881881529247541432053497856 (l := [e392, e387, e382, e381, e169]) (cons' k392 (cons' k387 (cons' k382 (cons' k381 (cons' k169 nil'))))) rfl rfl (by kernel_rfl)
noncomputable abbrev e401 : KE := ⟨300, [(.complex .f64 4610479282544200874 0), (.complex .f64 0 13830554455654793216)], (.tuple #[(.complex .f64 0 13833851319398976682), (.agg #[(.bool false), (.slice none 0 0), (.int .i64 0)]), (.bool true)])⟩
theorem k401 : Kn e401 := go e401 2239744884888534297973128965053408205633623497245955116781124934704942567635408369893732679086875181056 (l := [e181, e120, e119, e322, e321, e316, e320, e400, e388, e121, e124, e112, e86, e85, e165, e159, e399, e372, e366, e398, e394, e393]) (cons' k181 (cons' k120 (cons' k119 (cons' k322 (cons' k321 (cons' k316 (cons' k320 (cons' k400 (cons' k388 (cons' k121 (cons' k124 (cons' k112 (cons' k86 (cons' k85 (cons' k165 (cons' k159 (cons' k399 (cons' k372 (cons' k366 (cons' k398 (cons' k394 (cons' k393 nil')))))))))))))))))))))) rfl rfl (by kernel_rfl)
noncomputable abbrev e160 : KE := ⟨235, [(.float .f64 13830554455654793216), (.float .f64 0)], (.bool false)⟩
theorem k160 : Kn e160 := go e160 147573952589676511232 (l := [e159]) (cons' k159 nil') rfl rfl (by kernel_rfl)
noncomputable abbrev e377 : KE := ⟨153, [(.complex .f64 0 13830554455654793216), (.complex .f64 0 0)], (.bool false)⟩
theorem k377 : Kn e377 := go e377 55213970774324510299478046898216203619608871777363092441300193790492672 (l := [e160, e39]) (cons' k160 (cons' k39 nil')) rfl rfl (by kernel_rfl)
noncomputable abbrev e378 : KE := ⟨88, [(.agg #[(.complex .f64 0 13830554455654793216), (.float .f64 0)]), (.agg #[(.complex .f64 0 0), (.float .f64 9218868437227405312)])], (.bool false)⟩
theorem k378 : Kn e378 := go e378 11417981541647679048466287755595961091062071296 (l := [e377]) (cons' k377 nil') rfl rfl (by kernel_rfl)
noncomputable abbrev e379 : KE := ⟨36, [(.agg #[(.complex .f64 0 13830554455654793216), (.float .f64 0)])], (.bool false)⟩
theorem k379 : Kn e379 := go e379 309485009821345068725927936 (l := [e378, e38]) (cons' k378 (cons' k38 nil')) rfl rfl (by kernel_rfl)
noncomputable abbrev e367 : KE := ⟨235, [(.float .f64 4610479282544200874), (.float .f64 0)], (.bool false)⟩
theorem k367 : Kn e367 := go e367 147573952589676511232 (l := [e366]) (cons' k366 nil') rfl rfl (by kernel_rfl)
noncomputable abbrev e368 : KE := ⟨153, [(.complex .f64 4610479282544200874 0), (.complex .f64 0 0)], (.bool false)⟩
theorem k368 : Kn e368 := go e368 55213970774324510299478046898216203619608871777363092441300193790492672 (l := [e367]) (cons' k367 nil') rfl rfl (by kernel_rfl)
noncomputable abbrev e369 : KE := ⟨88, [(.agg #[(.complex .f64 4610479282544200874 0), (.float .f64 4372995238176751616)]), (.agg #[(.complex .f64 0 0), (.float .f64 9218868437227405312)])], (.bool false)⟩
theorem k369 : Kn e369 := go e369 11417981541647679048466287755595961091062071296 (l := [e368]) (cons' k368 nil') rfl rfl (by kernel_rfl)
noncomputable abbrev e370 : KE := ⟨36, [(.agg #[(.complex .f64 4610479282544200874 0), (.float .f64 4372995238176751616)])], (.bool false)⟩
theorem k370 : Kn e370 := go e370 309485009821345068725927936 (l := [e369, e38]) (cons' k369 (cons' k38 nil')) rfl rfl (by kernel_rfl)
noncomputable abbrev e166 : KE := ⟨37, [(.float .f64 13830554455654793216)], (.bool true)⟩
theorem k166 : Kn e166 := go e166 618970167216642727126073344 (l := [e159, e165]) (cons' k159 (cons' k165 nil')) rfl rfl (by kernel_rfl)
noncomputable abbrev e380 : KE := ⟨17, [(.agg #[(.complex .f64 0 13830554455654793216), (.float .f64 0)])], (.bool true)⟩
theorem k380 : Kn e380 := go e380 481036435456 (l := [e48, e166, e47, e379]) (cons' k48 (cons' k166 (cons' k47 (cons' k379 nil')))) rfl rfl (by kernel_rfl)
noncomputable abbrev e373 : KE := ⟨37, [(.float .f64 4610479282544200874)], (.bool true)⟩
theorem k373 : Kn e373 := go e373 618970167216642727126073344 (l := [e366, e372]) (cons' k366 (cons' k372 nil')) rfl rfl (by kernel_rfl)
noncomputable abbrev e376 : KE := ⟨17, [(.agg #[(.complex .f64 4610479282544200874 0), (.float .f64 4372995238176751616)])], (.bool true)⟩
theorem k376 : Kn e376 := go e376 481036435456 (l := [e375, e374, e47, e373, e370]) (cons' k375 (cons' k374 (cons' k47 (cons' k373 (cons' k370 nil'))))) rfl rfl (by kernel_rfl)
noncomputable abbrev e421 : KE := ⟨230, [(.agg #[(.complex .f64 4610479282544200874 0), (.float .f64 4372995238176751616)]), (.agg #[(.complex .f64 0 13830554455654793216), (.float .f64 0)])], (.tuple #[(.agg #[(.complex .f64 0 13833851319398976682), (.float .f64 4372995238176751616)]), (.int .i64 0)])⟩
theorem k421 : Kn e421 := go e421 176087500902281980755331520196208330525045415113676414009993128616035092250852906579188225638400 (l := [e420, e86, e85, e333, e335, e419, e417, e416, e414, e415, e412, e409, e406, e324, e277, e347, e120, e119, e112, e121, e87, e400, e165, e159, e399, e403, e402, e322, e321, e372, e366, e401, e379, e370, e380, e376]) (cons' k420 (cons' k86 (cons' k85 (cons' k333 (cons' k335 (cons' k419 (cons' k417 (cons' k416 (cons' k414 (cons' k415 (cons' k412 (cons' k409 (cons' k406 (cons' k324 (cons' k277 (cons' k347 (cons' k120 (cons' k119 (cons' k112 (cons' k121 (cons' k87 (cons' k400 (cons' k165 (cons' k159 (cons' k399 (cons' k403 (cons' k402 (cons' k322 (cons' k321 (cons' k372 (cons' k366 (cons' k401 (cons' k379 (cons' k370 (cons' k380 (cons' k376 nil')))))))))))))))))))))))))))))))))))) rfl rfl (by kernel_rfl)
noncomputable abbrev e364 : KE := ⟨342, [(.complex .f64 13830554455654793216 9223372036854775808)], (.int .i64 2)⟩
theorem k364 : Kn e364 := go e364 274878005248 (l := [e212]) (cons' k212 nil') rfl rfl (by kernel_rfl)
noncomputable abbrev e361 : KE := ⟨127, [(.float .f64 0), (.float .f64 0), (.int .i64 3)], (.float .f64 0)⟩
theorem k361 : Kn e361 := go e361 274878005248 (l := [e48]) (cons' k48 nil') rfl rfl (by kernel_rfl)
noncomputable abbrev e362 : KE := ⟨68, [(.float .f64 0), (.float .f64 0), (.int .i64 3)], (.float .f64 0)⟩
theorem k362 : Kn e362 := go e362 170359259928527694501308957698077851648 (l := [e361, e113, e121, e176, e175, e97]) (cons' k361 (cons' k113 (cons' k121 (cons' k176 (cons' k175 (cons' k97 nil')))))) rfl rfl (by kernel_rfl)
noncomputable abbrev e171 : KE := ⟨38, [(.float .f64 4607182418800017408)], (.bool false)⟩
theorem k171 : Kn e171 := go e171 98304 (l := []) nil' rfl rfl (by kernel_rfl)
noncomputable abbrev e358 : KE := ⟨127, [(.float .f64 13830554455654793216), (.float .f64 4607182418800017408), (.int .i64 3)], (.float .f64 0)⟩
theorem k358 : Kn e358 := go e358 274878005248 (l := [e171, e172]) (cons' k171 (cons' k172 nil')) rfl rfl (by kernel_rfl)
noncomputable abbrev e69 : KE := ⟨90, [(.float .f64 4607182418800017408)], (.float .f64 4607182418800017408)⟩
theorem k69 : Kn e69 := go e69 98304 (l := []) nil' rfl rfl (by kernel_rfl)
noncomputable abbrev e70 : KE := ⟨89, [(.float .f64 4607182418800017408), (.int .i64 0)], (.bool false)⟩
theorem k70 : Kn e70 := go e70 1237940039285380274899222528 (l := [e69]) (cons' k69 nil') rfl rfl (by kernel_rfl)
noncomputable abbrev e84 : KE := ⟨67, [(.float .f64 4607182418800017408)], (.bool false)⟩
theorem k84 : Kn e84 := go e84 98304 (l := []) nil' rfl rfl (by kernel_rfl)
noncomputable abbrev e83 : KE := ⟨115, [(.float .f64 4607182418800017408)], (.bool false)⟩
theorem k83 : Kn e83 := go e83 618970019642690137449660416 (l := [e70]) (cons' k70 nil') rfl rfl (by kernel_rfl)
noncomputable abbrev e170 : KE := ⟨115, [(.float .f64 13830554455654793216)], (.bool false)⟩
theorem k170 : Kn e170 := go e170 618970019642690137449660416 (l := [e165]) (cons' k165 nil') rfl rfl (by kernel_rfl)
noncomputable abbrev e359 : KE := ⟨68, [(.float .f64 13830554455654793216), (.float .f64 4607182418800017408), (.int .i64 3)], (.float .f64 0)⟩
theorem k359 : Kn e359 := go e359 141842889104122935159044410175321820110335847187746473004465924875873952215295850777468140093440 (l := [e358, e113, e86, e85, e70, e84, e165, e159, e83, e170, e97]) (cons' k358 (cons' k113 (cons' k86 (cons' k85 (cons' k70 (cons' k84 (cons' k165 (cons' k159 (cons' k83 (cons' k170 (cons' k97 nil'))))))))))) rfl rfl (by kernel_rfl)
noncomputable abbrev e360 : KE := ⟨361, [(.float .f64 13830554455654793216), (.float .f64 13830554455654793216), (.int .i64 3)], (.float .f64 0)⟩
theorem k360 : Kn e360 := go e360 295147905179352924160 (l := [e359]) (cons' k359 nil') rfl rfl (by kernel_rfl)
noncomputable abbrev e329 : KE := ⟨127, [(.float .f64 0), (.float .f64 9223372036854775808), (.int .i64 3)], (.float .f64 0)⟩
theorem k329 : Kn e329 := go e329 274878005248 (l := [e212, e48]) (cons' k212 (cons' k48 nil')) rfl rfl (by kernel_rfl)
noncomputable abbrev e328 : KE := ⟨117, [(.float .f64 9223372036854775808)], (.agg #[(.bool false), (.slice none 0 0), (.int .i64 0)])⟩
theorem k328 : Kn e328 := go e328 633825300114114700748351700992 (l := [e262]) (cons' k262 nil') rfl rfl (by kernel_rfl)
noncomputable abbrev e327 : KE := ⟨115, [(.float .f64 9223372036854775808)], (.bool false)⟩
theorem k327 : Kn e327 := go e327 618970019642690137449660416 (l := [e60]) (cons' k60 nil') rfl rfl (by kernel_rfl)
noncomputable abbrev e330 : KE := ⟨68, [(.float .f64 0), (.float .f64 9223372036854775808), (.int .i64 3)], (.float .f64 0)⟩
theorem k330 : Kn e330 := go e330 170359259928527694501308957698077851648 (l := [e329, e113, e121, e328, e176, e327, e175, e97]) (cons' k329 (cons' k113 (cons' k121 (cons' k328 (cons' k176 (cons' k327 (cons' k175 (cons' k97 nil')))))))) rfl rfl (by kernel_rfl)
noncomputable abbrev e331 : KE := ⟨361, [(.float .f64 0), (.float .f64 0), (.int .i64 3)], (.float .f64 0)⟩
theorem k331 : Kn e331 := go e331 295147905179352924160 (l := [e330]) (cons' k330 nil') rfl rfl (by kernel_rfl)
noncomputable abbrev e93 : KE := ⟨310, [(.float .f64 4841369599423283200), (.int .i64 (-52))], (.float .f64 4607182418800017408)⟩
theorem k93 : Kn e93 := go e93 71671831749689734737838152978190216899892655911508785116799651230841339877765769222355296427418553778176 (l := [e92, e91, e90]) (cons' k92 (cons' k91 (cons' k90 nil'))) rfl rfl (by kernel_rfl)
noncomputable abbrev e94 : KE := ⟨244, [(.float .f64 4841369599423283200), (.int .i64 (-52))], (.float .f64 4607182418800017408)⟩
theorem k94 : Kn e94 := go e94 2085924839766513752338888384931203236916703635113918720651407820138886450957656787131799011328 (l := [e93]) (cons' k93 nil') rfl rfl (by kernel_rfl)
noncomputable abbrev e356 : KE := ⟨375, [(.float .f64 4607182418800017408), (.float .f64 9223372036854775808), (.int .i64 1)], (.float .f64 4607182418800017408)⟩
theorem k356 : Kn e356 := go e356 175217686540387155196494893887257526050276444095891765738349849596310165559835580971718612713472 (l := [e94, e88, e277, e347, e4, e86, e85, e70, e84]) (cons' k94 (cons' k88 (cons' k277 (cons' k347 (cons' k4 (cons' k86 (cons' k85 (cons' k70 (cons' k84 nil'))))))))) rfl rfl (by kernel_rfl)
noncomputable abbrev e355 : KE := ⟨376, [(.int .i64 3)], (.int .i64 1)⟩
theorem k355 : Kn e355 := go e355 98304 (l := []) nil' rfl rfl (by kernel_rfl)
noncomputable abbrev e309 : KE := ⟨107, [(.agg #[(.bool false), (.slice none 0 0), (.int .i64 0)]), (.int .i64 3)], (.tuple #[(.float .f64 0), (.int .i64 0)])⟩
theorem k309 : Kn e309 := go e309 5986310706507378352962295550685973819271249494376448 (l := [e12, e112]) (cons' k12 (cons' k112 nil')) rfl rfl (by kernel_rfl)
noncomputable abbrev e294 : KE := ⟨387, [(.float .f64 0)], (.agg #[(.bool false), (.slice none 0 0), (.int .i64 0)])⟩
theorem k294 : Kn e294 := go e294 633825300114114700748351700992 (l := [e116]) (cons' k116 nil') rfl rfl (by kernel_rfl)
noncomputable abbrev e354 : KE := ⟨375, [(.float .f64 13830554455654793216), (.float .f64 9223372036854775808), (.int .i64 3)], (.float .f64 0)⟩
theorem k354 : Kn e354 := go e354 315216049571155833698232320801148910440637914163723573343586347233965774171977684891476389315908538489844601932840960 (l := [e309, e294]) (cons' k309 (cons' k294 nil')) rfl rfl (by kernel_rfl)
noncomputable abbrev e357 : KE := ⟨360, [(.complex .f64 13830554455654793216 9223372036854775808), (.int .i64 3)], (.tuple #[(.complex .f64 0 13830554455654793216), (.int .i64 0)])⟩
theorem k357 : Kn e357 := go e357 230871130056998901634447500586778987139139097287883476570009531665502276004866468426256085307383519225853339860992 (l := [e356, e355, e212, e354, e60, e165, e54, e159]) (cons' k356 (cons' k355 (cons' k212 (cons' k354 (cons' k60 (cons' k165 (cons' k54 (cons' k159 nil')))))))) rfl rfl (by kernel_rfl)
noncomputable abbrev e352 : KE := ⟨375, [(.float .f64 4607182418800017408), (.float .f64 9223372036854775808), (.int .i64 3)], (.float .f64 4607182418800017408)⟩
theorem k352 : Kn e352 := go e352 175217686540387155196494893887257526050276444095891765738349849596310165559835580971718612713472 (l := [e94, e88, e277, e347, e12, e86, e85, e70, e84]) (cons' k94 (cons' k88 (cons' k277 (cons' k347 (cons' k12 (cons' k86 (cons' k85 (cons' k70 (cons' k84 nil'))))))))) rfl rfl (by kernel_rfl)
noncomputable abbrev e351 : KE := ⟨376, [(.int .i64 1)], (.int .i64 3)⟩
theorem k351 : Kn e351 := go e351 98304 (l := []) nil' rfl rfl (by kernel_rfl)
noncomputable abbrev e299 : KE := ⟨107, [(.agg #[(.bool false), (.slice none 0 0), (.int .i64 0)]), (.int .i64 1)], (.tuple #[(.float .f64 0), (.int .i64 0)])⟩
theorem k299 : Kn e299 := go e299 5986310706507378352962295550685973819271249494376448 (l := [e4, e112]) (cons' k4 (cons' k112 nil')) rfl rfl (by kernel_rfl)
noncomputable abbrev e350 : KE := ⟨375, [(.float .f64 13830554455654793216), (.float .f64 9223372036854775808), (.int .i64 1)], (.float .f64 0)⟩
theorem k350 : Kn e350 := go e350 315216049571155833698232320801148910440637914163723573343586347233965774171977684891476389315908538489844601932840960 (l := [e299, e294]) (cons' k299 (cons' k294 nil')) rfl rfl (by kernel_rfl)
noncomputable abbrev e353 : KE := ⟨360, [(.complex .f64 13830554455654793216 9223372036854775808), (.int .i64 1)], (.tuple #[(.complex .f64 0 13830554455654793216), (.int .i64 0)])⟩
theorem k353 : Kn e353 := go e353 230871130056998901634447500586778987139139097287883476570009531665502276004866468426256085307383519225853339860992 (l := [e352, e351, e212, e350, e60, e165, e54, e159]) (cons' k352 (cons' k351 (cons' k212 (cons' k350 (cons' k60 (cons' k165 (cons' k54 (cons' k159 nil')))))))) rfl rfl (by kernel_rfl)
noncomputable abbrev e348 : KE := ⟨375, [(.float .f64 4607182418800017408), (.float .f64 9223372036854775808), (.int .i64 2)], (.float .f64 4607182418800017408)⟩
theorem k348 : Kn e348 := go e348 175217686540387155196494893887257526050276444095891765738349849596310165559835580971718612713472 (l := [e94, e88, e277, e347, e111, e86, e85, e70, e84]) (cons' k94 (cons' k88 (cons' k277 (cons' k347 (cons' k111 (cons' k86 (cons' k85 (cons' k70 (cons' k84 nil'))))))))) rfl rfl (by kernel_rfl)
noncomputable abbrev e345 : KE := ⟨376, [(.int .i64 2)], (.int .i64 2)⟩
theorem k345 : Kn e345 := go e345 98304 (l := []) nil' rfl rfl (by kernel_rfl)
noncomputable abbrev e295 : KE := ⟨107, [(.agg #[(.bool false), (.slice none 0 0), (.int .i64 0)]), (.int .i64 2)], (.tuple #[(.float .f64 0), (.int .i64 0)])⟩
theorem k295 : Kn e295 := go e295 5986310706507378352962295550685973819271249494376448 (l := [e111, e112]) (cons' k111 (cons' k112 nil')) rfl rfl (by kernel_rfl)
noncomputable abbrev e344 : KE := ⟨375, [(.float .f64 13830554455654793216), (.float .f64 9223372036854775808), (.int .i64 2)], (.float .f64 0)⟩
theorem k344 : Kn e344 := go e344 315216049571155833698232320801148910440637914163723573343586347233965774171977684891476389315908538489844601932840960 (l := [e295, e294]) (cons' k295 (cons' k294 nil')) rfl rfl (by kernel_rfl)
noncomputable abbrev e349 : KE := ⟨360, [(.complex .f64 13830554455654793216 9223372036854775808), (.int .i64 2)], (.tuple #[(.complex .f64 0 13830554455654793216), (.int .i64 0)])⟩
theorem k349 : Kn e349 := go e349 230871130056998901634447500586778987139139097287883476570009531665502276004866468426256085307383519225853339860992 (l := [e348, e345, e212, e344, e60, e165, e54, e159]) (cons' k348 (cons' k345 (cons' k212 (cons' k344 (cons' k60 (cons' k165 (cons' k54 (cons' k159 nil')))))))) rfl rfl (by kernel_rfl)
noncomputable abbrev e363 : KE := ⟨341, [(.complex .f64 13830554455654793216 9223372036854775808)], (.agg #[(.complex .f64 0 13830554455654793216), (.float .f64 0)])⟩
theorem k363 : Kn e363 := go e363 7045627748321499683668441790368011082127047646724959612121872914596627075343825330391097290302211288448729088 (l := [e362, e360, e331, e357, e353, e349]) (cons' k362 (cons' k360 (cons' k331 (cons' k357 (cons' k353 (cons' k349 nil')))))) rfl rfl (by kernel_rfl)
noncomputable abbrev e61 : KE := ⟨37, [(.float .f64 9223372036854775808)], (.bool true)⟩
theorem k61 : Kn e61 := go e61 618970167216642727126073344 (l := [e54, e60]) (cons' k54 (cons' k60 nil')) rfl rfl (by kernel_rfl)
noncomputable abbrev e340 : KE := ⟨153, [(.complex .f64 13830554455654793216 9223372036854775808), (.complex .f64 0 0)], (.bool false)⟩
theorem k340 : Kn e340 := go e340 55213970774324510299478046898216203619608871777363092441300193790492672 (l := [e160]) (cons' k160 nil') rfl rfl (by kernel_rfl)
noncomputable abbrev e341 : KE := ⟨88, [(.agg #[(.complex .f64 13830554455654793216 9223372036854775808), (.float .f64 0)]), (.agg #[(.complex .f64 0 0), (.float .f64 9218868437227405312)])], (.bool false)⟩
theorem k341 : Kn e341 := go e341 11417981541647679048466287755595961091062071296 (l := [e340]) (cons' k340 nil') rfl rfl (by kernel_rfl)
noncomputable abbrev e342 : KE := ⟨36, [(.agg #[(.complex .f64 13830554455654793216 9223372036854775808), (.float .f64 0)])], (.bool false)⟩
theorem k342 : Kn e342 := go e342 309485009821345068725927936 (l := [e341, e38]) (cons' k341 (cons' k38 nil')) rfl rfl (by kernel_rfl)
noncomputable abbrev e343 : KE := ⟨17, [(.agg #[(.complex .f64 13830554455654793216 9223372036854775808), (.float .f64 0)])], (.bool true)⟩
theorem k343 : Kn e343 := go e343 481036435456 (l := [e48, e47, e61, e166, e342]) (cons' k48 (cons' k47 (cons' k61 (cons' k166 (cons' k342 nil'))))) rfl rfl (by kernel_rfl)
noncomputable abbrev e365 : KE := ⟨306, [(.agg #[(.complex .f64 13830554455654793216 9223372036854775808), (.float .f64 0)])], (.tuple #[(.agg #[(.complex .f64 0 13830554455654793216), (.float .f64 0)]), (.int .i64 2), (.int .i64 0)])⟩
theorem k365 : Kn e365 := go e365 13438468453066825263344653683410665668729872983407897209399934605782751227080965672285264959629642924032 (l := [e364, e363, e343]) (cons' k364 (cons' k363 (cons' k343 nil'))) rfl rfl (by kernel_rfl)
noncomputable abbrev e338 : KE := ⟨342, [(.complex .f64 4613937818241073152 0)], (.int .i64 0)⟩
theorem k338 : Kn e338 := go e338 98304 (l := []) nil' rfl rfl (by kernel_rfl)
noncomputable abbrev e336 : KE := ⟨68, [(.float .f64 4372995238176751616), (.float .f64 0), (.int .i64 3)], (.float .f64 4372995238176751616)⟩
theorem k336 : Kn e336 := go e336 142625110919035377816199762872707475473452949797236785728171820483110599106461162714179880189952 (l := [e324, e88, e12, e87, e120, e119, e112, e176, e86, e85, e333, e335, e175, e334, e97]) (cons' k324 (cons' k88 (cons' k12 (cons' k87 (cons' k120 (cons' k119 (cons' k112 (cons' k176 (cons' k86 (cons' k85 (cons' k333 (cons' k335 (cons' k175 (cons' k334 (cons' k97 nil'))))))))))))))) rfl rfl (by kernel_rfl)
noncomputable abbrev e319 : KE := ⟨316, [(.int .u32 3898100907)], (.int .i64 0)⟩
theorem k319 : Kn e319 := goT e319 rfl rfl (fun e => by kernel_rfl)
noncomputable abbrev e312 : KE := ⟨90, [(.float .f64 4610479282544200875)], (.float .f64 4610479282544200875)⟩
theorem k312 : Kn e312 := go e312 98304 (l := []) nil' rfl rfl (by kernel_rfl)
noncomputable abbrev e313 : KE := ⟨89, [(.float .f64 4610479282544200875), (.int .i64 0)], (.bool false)⟩
theorem k313 : Kn e313 := go e313 1237940039285380274899222528 (l := [e312]) (cons' k312 nil') rfl rfl (by kernel_rfl)
noncomputable abbrev e318 : KE := ⟨67, [(.float .f64 4610479282544200875)], (.bool false)⟩
theorem k318 : Kn e318 := go e318 98304 (l := []) nil' rfl rfl (by kernel_rfl)
noncomputable abbrev e314 : KE := ⟨115, [(.float .f64 4610479282544200875)], (.bool false)⟩
theorem k314 : Kn e314 := go e314 618970019642690137449660416 (l := [e313]) (cons' k313 nil') rfl rfl (by kernel_rfl)
noncomputable abbrev e325 : KE := ⟨68, [(.float .f64 4610479282544200875), (.float .f64 13833851319398976682), (.int .i64 3)], (.float .f64 4372995238176751616)⟩
theorem k325 : Kn e325 := go e325 141842889104122935159072679728358274259609185934069066207927376397056567692789357682573122306048 (l := [e324, e88, e12, e86, e87, e322, e321, e316, e320, e286, e319, e313, e318, e317, e314, e97]) (cons' k324 (cons' k88 (cons' k12 (cons' k86 (cons' k87 (cons' k322 (cons' k321 (cons' k316 (cons' k320 (cons' k286 (cons' k319 (cons' k313 (cons' k318 (cons' k317 (cons' k314 (cons' k97 nil')))))))))))))))) rfl rfl (by kernel_rfl)
noncomputable abbrev e326 : KE := ⟨361, [(.float .f64 4610479282544200875), (.float .f64 4610479282544200874), (.int .i64 3)], (.float .f64 4372995238176751616)⟩
theorem k326 : Kn e326 := go e326 295147905179352924160 (l := [e325]) (cons' k325 nil') rfl rfl (by kernel_rfl)
noncomputable abbrev e310 : KE := ⟨375, [(.float .f64 13837309855095848960), (.float .f64 0), (.int .i64 3)], (.float .f64 0)⟩
theorem k310 : Kn e310 := go e310 315216049571155833698232320801148910440637914163723573343586347233965774171977684891476389315908538489844601932840960 (l := [e309, e294]) (cons' k309 (cons' k294 nil')) rfl rfl (by kernel_rfl)
noncomputable abbrev e302 : KE := ⟨90, [(.float .f64 4844666463167466667)], (.float .f64 4844666463167466667)⟩
theorem k302 : Kn e302 := go e302 98304 (l := []) nil' rfl rfl (by kernel_rfl)
noncomputable abbrev e305 : KE := ⟨345, [(.float .f64 4844666463167466667)], (.tuple #[(.float .f64 4844666463167466667), (.int .i64 0)])⟩
theorem k305 : Kn e305 := go e305 1237940039285380274899222528 (l := [e302]) (cons' k302 nil') rfl rfl (by kernel_rfl)
noncomputable abbrev e304 : KE := ⟨67, [(.float .f64 4844666463167466667)], (.bool false)⟩
theorem k304 : Kn e304 := go e304 98304 (l := []) nil' rfl rfl (by kernel_rfl)
noncomputable abbrev e303 : KE := ⟨89, [(.float .f64 4844666463167466667), (.int .i64 0)], (.bool false)⟩
theorem k303 : Kn e303 := go e303 1237940039285380274899222528 (l := [e302]) (cons' k302 nil') rfl rfl (by kernel_rfl)
noncomputable abbrev e306 : KE := ⟨310, [(.float .f64 4844666463167466667), (.int .i64 (-52))], (.float .f64 4610479282544200875)⟩
theorem k306 : Kn e306 := go e306 71671831749689734737838152978190216899892655911508785116799651230841339877765769222355296427418553778176 (l := [e305, e304, e303]) (cons' k305 (cons' k304 (cons' k303 nil'))) rfl rfl (by kernel_rfl)
noncomputable abbrev e307 : KE := ⟨244, [(.float .f64 4844666463167466667), (.int .i64 (-52))], (.float .f64 4610479282544200875)⟩
theorem k307 : Kn e307 := go e307 2085924839766513752338888384931203236916703635113918720651407820138886450957656787131799011328 (l := [e306]) (cons' k306 nil') rfl rfl (by kernel_rfl)
noncomputable abbrev e284 : KE := ⟨312, [(.int .u32 3719550786)], (.int .i64 32)⟩
theorem k284 : Kn e284 := go e284 98304 (l := []) nil' rfl rfl (by kernel_rfl)
noncomputable abbrev e285 : KE := ⟨314, [(.int .u32 3719550786)], (.int .i64 0)⟩
theorem k285 : Kn e285 := go e285 8343699359066055009355553539724812947666814540455674882605631280555545803830627148527195750400 (l := [e284]) (cons' k284 nil') rfl rfl (by kernel_rfl)
noncomputable abbrev e282 : KE := ⟨312, [(.int .u32 3719550792)], (.int .i64 32)⟩
theorem k282 : Kn e282 := go e282 98304 (l := []) nil' rfl rfl (by kernel_rfl)
noncomputable abbrev e283 : KE := ⟨314, [(.int .u32 3719550792)], (.int .i64 0)⟩
theorem k283 : Kn e283 := go e283 8343699359066055009355553539724812947666814540455674882605631280555545803830627148527195750400 (l := [e282]) (cons' k282 nil') rfl rfl (by kernel_rfl)
noncomputable abbrev e280 : KE := ⟨312, [(.int .u32 3719748461)], (.int .i64 32)⟩
theorem k280 : Kn e280 := go e280 98304 (l := []) nil' rfl rfl (by kernel_rfl)
noncomputable abbrev e281 : KE := ⟨314, [(.int .u32 3719748461)], (.int .i64 0)⟩
theorem k281 : Kn e281 := go e281 8343699359066055009355553539724812947666814540455674882605631280555545803830627148527195750400 (l := [e280]) (cons' k280 nil') rfl rfl (by kernel_rfl)
noncomputable abbrev e278 : KE := ⟨312, [(.int .u32 3758096384)], (.int .i64 32)⟩
theorem k278 : Kn e278 := go e278 98304 (l := []) nil' rfl rfl (by kernel_rfl)
noncomputable abbrev e279 : KE := ⟨314, [(.int .u32 3758096384)], (.int .i64 0)⟩
theorem k279 : Kn e279 := go e279 8343699359066055009355553539724812947666814540455674882605631280555545803830627148527195750400 (l := [e278]) (cons' k278 nil') rfl rfl (by kernel_rfl)
noncomputable abbrev e237 : KE := ⟨312, [(.int .u32 3)], (.int .i64 2)⟩
theorem k237 : Kn e237 := go e237 98304 (l := []) nil' rfl rfl (by kernel_rfl)
noncomputable abbrev e250 : KE := ⟨316, [(.int .u32 1572864)], (.int .i64 19)⟩
theorem k250 : Kn e250 := goT e250 rfl rfl (fun e => by kernel_rfl)
noncomputable abbrev e246 : KE := ⟨90, [(.float .f64 4613937818241073152)], (.float .f64 4613937818241073152)⟩
theorem k246 : Kn e246 := go e246 98304 (l := []) nil' rfl rfl (by kernel_rfl)
noncomputable abbrev e249 : KE := ⟨89, [(.float .f64 4613937818241073152), (.int .i64 0)], (.bool false)⟩
theorem k249 : Kn e249 := go e249 1237940039285380274899222528 (l := [e246]) (cons' k246 nil') rfl rfl (by kernel_rfl)
noncomputable abbrev e248 : KE := ⟨67, [(.float .f64 4613937818241073152)], (.bool false)⟩
theorem k248 : Kn e248 := go e248 98304 (l := []) nil' rfl rfl (by kernel_rfl)
noncomputable abbrev e308 : KE := ⟨375, [(.float .f64 4613937818241073152), (.float .f64 0), (.int .i64 3)], (.float .f64 4610479282544200875)⟩
theorem k308 : Kn e308 := go e308 175217686540387155196494893887257526050276444095891765738349849596310165559835580971718612713472 (l := [e307, e286, e284, e285, e283, e281, e279, e277, e276, e12, e237, e250, e249, e248]) (cons' k307 (cons' k286 (cons' k284 (cons' k285 (cons' k283 (cons' k281 (cons' k279 (cons' k277 (cons' k276 (cons' k12 (cons' k237 (cons' k250 (cons' k249 (cons' k248 nil')))))))))))))) rfl rfl (by kernel_rfl)
noncomputable abbrev e311 : KE := ⟨360, [(.complex .f64 4613937818241073152 0), (.int .i64 3)], (.tuple #[(.complex .f64 4610479282544200875 0), (.int .i64 0)])⟩
theorem k311 : Kn e311 := go e311 76957043352332967211482500195592995713046365762627825523336510555167425334955489475419107749239317503952449273856 (l := [e310, e48, e308, e46, e249, e41, e248]) (cons' k310 (cons' k48 (cons' k308 (cons' k46 (cons' k249 (cons' k41 (cons' k248 nil'))))))) rfl rfl (by kernel_rfl)
noncomputable abbrev e300 : KE := ⟨375, [(.float .f64 13837309855095848960), (.float .f64 0), (.int .i64 1)], (.float .f64 0)⟩
theorem k300 : Kn e300 := go e300 315216049571155833698232320801148910440637914163723573343586347233965774171977684891476389315908538489844601932840960 (l := [e299, e294]) (cons' k299 (cons' k294 nil')) rfl rfl (by kernel_rfl)
noncomputable abbrev e298 : KE := ⟨375, [(.float .f64 4613937818241073152), (.float .f64 0), (.int .i64 1)], (.float .f64 4610479282544200874)⟩
theorem k298 : Kn e298 := go e298 175217686540387155196494893887257526050276444095891765738349849596310165559835580971718612713472 (l := [e292, e286, e284, e285, e283, e281, e279, e277, e276, e4, e237, e250, e249, e248]) (cons' k292 (cons' k286 (cons' k284 (cons' k285 (cons' k283 (cons' k281 (cons' k279 (cons' k277 (cons' k276 (cons' k4 (cons' k237 (cons' k250 (cons' k249 (cons' k248 nil')))))))))))))) rfl rfl (by kernel_rfl)
noncomputable abbrev e301 : KE := ⟨360, [(.complex .f64 4613937818241073152 0), (.int .i64 1)], (.tuple #[(.complex .f64 4610479282544200874 0), (.int .i64 0)])⟩
theorem k301 : Kn e301 := go e301 76957043352332967211482500195592995713046365762627825523336510555167425334955489475419107749239317503952449273856 (l := [e300, e48, e298, e46, e249, e41, e248]) (cons' k300 (cons' k48 (cons' k298 (cons' k46 (cons' k249 (cons' k41 (cons' k248 nil'))))))) rfl rfl (by kernel_rfl)
noncomputable abbrev e296 : KE := ⟨375, [(.float .f64 13837309855095848960), (.float .f64 0), (.int .i64 2)], (.float .f64 0)⟩
theorem k296 : Kn e296 := go e296 315216049571155833698232320801148910440637914163723573343586347233965774171977684891476389315908538489844601932840960 (l := [e295, e294]) (cons' k295 (cons' k294 nil')) rfl rfl (by kernel_rfl)
noncomputable abbrev e293 : KE := ⟨375, [(.float .f64 4613937818241073152), (.float .f64 0), (.int .i64 2)], (.float .f64 4610479282544200874)⟩
theorem k293 : Kn e293 := go e293 175217686540387155196494893887257526050276444095891765738349849596310165559835580971718612713472 (l := [e292, e286, e284, e285, e283, e281, e279, e277, e276, e111, e237, e250, e249, e248]) (cons' k292 (cons' k286 (cons' k284 (cons' k285 (cons' k283 (cons' k281 (cons' k279 (cons' k277 (cons' k276 (cons' k111 (cons' k237 (cons' k250 (cons' k249 (cons' k248 nil')))))))))))))) rfl rfl (by kernel_rfl)
noncomputable abbrev e297 : KE := ⟨360, [(.complex .f64 4613937818241073152 0), (.int .i64 2)], (.tuple #[(.complex .f64 4610479282544200874 0), (.int .i64 0)])⟩
theorem k297 : Kn e297 := go e297 76957043352332967211482500195592995713046365762627825523336510555167425334955489475419107749239317503952449273856 (l := [e296, e48, e293, e46, e249, e41, e248]) (cons' k296 (cons' k48 (cons' k293 (cons' k46 (cons' k249 (cons' k41 (cons' k248 nil'))))))) rfl rfl (by kernel_rfl)
noncomputable abbrev e337 : KE := ⟨341, [(.complex .f64 4613937818241073152 0)], (.agg #[(.complex .f64 4610479282544200874 0), (.float .f64 4372995238176751616)])⟩
theorem k337 : Kn e337 := go e337 7045627748321499683668441790368011082127047646724959612121872914596627075343825330391097290302211288448729088 (l := [e336, e331, e326, e311, e301, e297]) (cons' k336 (cons' k331 (cons' k326 (cons' k311 (cons' k301 (cons' k297 nil')))))) rfl rfl (by kernel_rfl)
noncomputable abbrev e274 : KE := ⟨37, [(.float .f64 4613937818241073152)], (.bool true)⟩
theorem k274 : Kn e274 := go e274 618970167216642727126073344 (l := [e248, e249]) (cons' k248 (cons' k249 nil')) rfl rfl (by kernel_rfl)
noncomputable abbrev e270 : KE := ⟨235, [(.float .f64 4613937818241073152), (.float .f64 0)], (.bool false)⟩
theorem k270 : Kn e270 := go e270 147573952589676511232 (l := [e248]) (cons' k248 nil') rfl rfl (by kernel_rfl)
noncomputable abbrev e271 : KE := ⟨153, [(.complex .f64 4613937818241073152 0), (.complex .f64 0 0)], (.bool false)⟩
theorem k271 : Kn e271 := go e271 55213970774324510299478046898216203619608871777363092441300193790492672 (l := [e270]) (cons' k270 nil') rfl rfl (by kernel_rfl)
noncomputable abbrev e272 : KE := ⟨88, [(.agg #[(.complex .f64 4613937818241073152 0), (.float .f64 0)]), (.agg #[(.complex .f64 0 0), (.float .f64 9218868437227405312)])], (.bool false)⟩
theorem k272 : Kn e272 := go e272 11417981541647679048466287755595961091062071296 (l := [e271]) (cons' k271 nil') rfl rfl (by kernel_rfl)
noncomputable abbrev e273 : KE := ⟨36, [(.agg #[(.complex .f64 4613937818241073152 0), (.float .f64 0)])], (.bool false)⟩
theorem k273 : Kn e273 := go e273 309485009821345068725927936 (l := [e272, e38]) (cons' k272 (cons' k38 nil')) rfl rfl (by kernel_rfl)
noncomputable abbrev e275 : KE := ⟨17, [(.agg #[(.complex .f64 4613937818241073152 0), (.float .f64 0)])], (.bool true)⟩
theorem k275 : Kn e275 := go e275 481036435456 (l := [e48, e47, e274, e273]) (cons' k48 (cons' k47 (cons' k274 (cons' k273 nil')))) rfl rfl (by kernel_rfl)
noncomputable abbrev e339 : KE := ⟨306, [(.agg #[(.complex .f64 4613937818241073152 0), (.float .f64 0)])], (.tuple #[(.agg #[(.complex .f64 4610479282544200874 0), (.float .f64 4372995238176751616)]), (.int .i64 0), (.int .i64 0)])⟩
theorem k339 : Kn e339 := go e339 13438468453066825263344653683410665668729872983407897209399934605782751227080965672285264959629642924032 (l := [e338, e337, e275]) (cons' k338 (cons' k337 (cons' k275 nil'))) rfl rfl (by kernel_rfl)
noncomputable abbrev e127 : KE := ⟨108, [(.agg #[(.bool false), (.slice none 0 0), (.int .i64 0)]), (.int .i64 3)], (.tuple #[(.float .f64 0), (.int .i64 0)])⟩
theorem k127 : Kn e127 := go e127 5986310706507378352962295550685973819271249494376448 (l := [e12, e112]) (cons' k12 (cons' k112 nil')) rfl rfl (by kernel_rfl)
noncomputable abbrev e263 : KE := ⟨294, [(.float .f64 9223372036854775808)], (.agg #[(.bool false), (.slice none 0 0), (.int .i64 0)])⟩
theorem k263 : Kn e263 := go e263 633825300114114700748351700992 (l := [e262]) (cons' k262 nil') rfl rfl (by kernel_rfl)
noncomputable abbrev e266 : KE := ⟨339, [(.float .f64 9223372036854775808), (.agg #[(.bool false), (.slice none 0 0), (.int .i64 0)])], (.agg #[(.bool false), (.slice none 0 0), (.int .i64 0)])⟩
theorem k266 : Kn e266 := go e266 95486061390679035293833391644189601299287580953090761748569103370527251992490806488432640 (l := [e181, e125, e263]) (cons' k181 (cons' k125 (cons' k263 nil'))) rfl rfl (by kernel_rfl)
noncomputable abbrev e265 : KE := ⟨338, [(.float .f64 9223372036854775808)], (.bool true)⟩
theorem k265 : Kn e265 := go e265 1237940039285380274899222528 (l := [e59]) (cons' k59 nil') rfl rfl (by kernel_rfl)
noncomputable abbrev e264 : KE := ⟨338, [(.float .f64 13830554455654793216)], (.bool true)⟩
theorem k264 : Kn e264 := go e264 1237940039285380274899222528 (l := [e164]) (cons' k164 nil') rfl rfl (by kernel_rfl)
noncomputable abbrev e260 : KE := ⟨7, [(.float .f64 4607182418800017408), (.float .f64 13830554455654793216)], (.float .f64 13830554455654793216)⟩
theorem k260 : Kn e260 := go e260 98304 (l := []) nil' rfl rfl (by kernel_rfl)
end Go.Proofs.YtkdcifgnjdfdmaaGreatDoor
