/- Closed calls of the given program, each run once by the fast machine in the kernel: part 4. No condition. -/
import Derived.Test.YtkdcifgnjdfdmaaGreatDoorKb
import Derived.KernelRfl
import Derived.Test.YtkdcifgnjdfdmaaGreatDoorV0
import Derived.Test.YtkdcifgnjdfdmaaGreatDoorV1
import Derived.Test.YtkdcifgnjdfdmaaGreatDoorV2
import Derived.Test.YtkdcifgnjdfdmaaGreatDoorV3
open Go AM
namespace Go.Proofs.YtkdcifgnjdfdmaaGreatDoor
set_option maxRecDepth 100000
noncomputable abbrev e261 : KE := ⟨68, [(.float .f64 13835058055282163712), (.float .f64 4607182418800017408), (.int .i64 2)], (.float .f64 13830554455654793216)⟩
theorem k261 : Kn e261 := go e261 141842889104122935159072679728358274259609185934069066207927376397056567692789357682573122306176 (l := [e260, e94, e88, e111, e87, e86, e85, e70, e84, e226, e220, e83, e259, e169]) (cons' k260 (cons' k94 (cons' k88 (cons' k111 (cons' k87 (cons' k86 (cons' k85 (cons' k70 (cons' k84 (cons' k226 (cons' k220 (cons' k83 (cons' k259 (cons' k169 nil')))))))))))))) rfl rfl (by kernel_rfl)
noncomputable abbrev e233 : KE := ⟨338, [(.float .f64 4607182418800017408)], (.bool true)⟩
theorem k233 : Kn e233 := go e233 1237940039285380274899222528 (l := [e69]) (cons' k69 nil') rfl rfl (by kernel_rfl)
noncomputable abbrev e234 : KE := ⟨290, [(.float .f64 4607182418800017408)], (.int .i64 0)⟩
theorem k234 : Kn e234 := go e234 559936185544451052639360570142111069530411374308662383724997275240947967795040236345219373317901877248 (l := [e233]) (cons' k233 nil') rfl rfl (by kernel_rfl)
noncomputable abbrev e255 : KE := ⟨153, [(.complex .f64 13835058055282163712 9223372036854775808), (.complex .f64 0 0)], (.bool false)⟩
theorem k255 : Kn e255 := go e255 55213970774324510299478046898216203619608871777363092441300193790492672 (l := [e221]) (cons' k221 nil') rfl rfl (by kernel_rfl)
noncomputable abbrev e256 : KE := ⟨88, [(.agg #[(.complex .f64 13835058055282163712 9223372036854775808), (.float .f64 0)]), (.agg #[(.complex .f64 0 0), (.float .f64 9218868437227405312)])], (.bool false)⟩
theorem k256 : Kn e256 := go e256 11417981541647679048466287755595961091062071296 (l := [e255]) (cons' k255 nil') rfl rfl (by kernel_rfl)
noncomputable abbrev e257 : KE := ⟨36, [(.agg #[(.complex .f64 13835058055282163712 9223372036854775808), (.float .f64 0)])], (.bool false)⟩
theorem k257 : Kn e257 := go e257 309485009821345068725927936 (l := [e256, e38]) (cons' k256 (cons' k38 nil')) rfl rfl (by kernel_rfl)
noncomputable abbrev e258 : KE := ⟨17, [(.agg #[(.complex .f64 13835058055282163712 9223372036854775808), (.float .f64 0)])], (.bool true)⟩
theorem k258 : Kn e258 := go e258 481036435456 (l := [e48, e47, e61, e227, e257]) (cons' k48 (cons' k47 (cons' k61 (cons' k227 (cons' k257 nil'))))) rfl rfl (by kernel_rfl)
noncomputable abbrev e267 : KE := ⟨233, [(.agg #[(.complex .f64 13835058055282163712 9223372036854775808), (.float .f64 0)]), (.float .f64 4607182418800017408)], (.tuple #[(.agg #[(.complex .f64 13830554455654793216 9223372036854775808), (.float .f64 0)]), (.int .i64 0)])⟩
theorem k267 : Kn e267 := go e267 1679808699258561552307795844779688983182892223990257891494740630415472260842601361503740860349932601344 (l := [e180, e127, e121, e266, e181, e86, e85, e165, e159, e265, e264, e168, e263, e87, e120, e119, e112, e70, e84, e226, e220, e261, e234, e257, e258]) (cons' k180 (cons' k127 (cons' k121 (cons' k266 (cons' k181 (cons' k86 (cons' k85 (cons' k165 (cons' k159 (cons' k265 (cons' k264 (cons' k168 (cons' k263 (cons' k87 (cons' k120 (cons' k119 (cons' k112 (cons' k70 (cons' k84 (cons' k226 (cons' k220 (cons' k261 (cons' k234 (cons' k257 (cons' k258 nil'))))))))))))))))))))))))) rfl rfl (by kernel_rfl)
noncomputable abbrev e50 : KE := ⟨282, [(.float .f64 0)], (.float .f64 9223372036854775808)⟩
theorem k50 : Kn e50 := go e50 98304 (l := []) nil' rfl rfl (by kernel_rfl)
noncomputable abbrev e217 : KE := ⟨282, [(.float .f64 4611686018427387904)], (.float .f64 13835058055282163712)⟩
theorem k217 : Kn e217 := go e217 98304 (l := []) nil' rfl rfl (by kernel_rfl)
noncomputable abbrev e253 : KE := ⟨231, [(.complex .f64 4611686018427387904 0)], (.complex .f64 13835058055282163712 9223372036854775808)⟩
theorem k253 : Kn e253 := go e253 7770675568902916283677847627294075626569627356208558085007249638955617140820834091008 (l := [e50, e217]) (cons' k50 (cons' k217 nil')) rfl rfl (by kernel_rfl)
noncomputable abbrev e200 : KE := ⟨67, [(.float .f64 4611686018427387904)], (.bool false)⟩
theorem k200 : Kn e200 := go e200 98304 (l := []) nil' rfl rfl (by kernel_rfl)
noncomputable abbrev e201 : KE := ⟨235, [(.float .f64 4611686018427387904), (.float .f64 0)], (.bool false)⟩
theorem k201 : Kn e201 := go e201 147573952589676511232 (l := [e200]) (cons' k200 nil') rfl rfl (by kernel_rfl)
noncomputable abbrev e202 : KE := ⟨153, [(.complex .f64 4611686018427387904 0), (.complex .f64 0 0)], (.bool false)⟩
theorem k202 : Kn e202 := go e202 55213970774324510299478046898216203619608871777363092441300193790492672 (l := [e201]) (cons' k201 nil') rfl rfl (by kernel_rfl)
noncomputable abbrev e203 : KE := ⟨88, [(.agg #[(.complex .f64 4611686018427387904 0), (.float .f64 0)]), (.agg #[(.complex .f64 0 0), (.float .f64 9218868437227405312)])], (.bool false)⟩
theorem k203 : Kn e203 := go e203 11417981541647679048466287755595961091062071296 (l := [e202]) (cons' k202 nil') rfl rfl (by kernel_rfl)
noncomputable abbrev e204 : KE := ⟨36, [(.agg #[(.complex .f64 4611686018427387904 0), (.float .f64 0)])], (.bool false)⟩
theorem k204 : Kn e204 := go e204 309485009821345068725927936 (l := [e203, e38]) (cons' k203 (cons' k38 nil')) rfl rfl (by kernel_rfl)
noncomputable abbrev e205 : KE := ⟨90, [(.float .f64 4611686018427387904)], (.float .f64 4611686018427387904)⟩
theorem k205 : Kn e205 := go e205 98304 (l := []) nil' rfl rfl (by kernel_rfl)
noncomputable abbrev e206 : KE := ⟨89, [(.float .f64 4611686018427387904), (.int .i64 0)], (.bool false)⟩
theorem k206 : Kn e206 := go e206 1237940039285380274899222528 (l := [e205]) (cons' k205 nil') rfl rfl (by kernel_rfl)
noncomputable abbrev e207 : KE := ⟨37, [(.float .f64 4611686018427387904)], (.bool true)⟩
theorem k207 : Kn e207 := go e207 618970167216642727126073344 (l := [e200, e206]) (cons' k200 (cons' k206 nil')) rfl rfl (by kernel_rfl)
noncomputable abbrev e208 : KE := ⟨17, [(.agg #[(.complex .f64 4611686018427387904 0), (.float .f64 0)])], (.bool true)⟩
theorem k208 : Kn e208 := go e208 481036435456 (l := [e48, e47, e207, e204]) (cons' k48 (cons' k47 (cons' k207 (cons' k204 nil')))) rfl rfl (by kernel_rfl)
noncomputable abbrev e254 : KE := ⟨148, [(.agg #[(.complex .f64 4611686018427387904 0), (.float .f64 0)])], (.tuple #[(.agg #[(.complex .f64 13835058055282163712 9223372036854775808), (.float .f64 0)]), (.int .i64 0)])⟩
theorem k254 : Kn e254 := go e254 3450873173395281893717377931138512726225554486085193277581330831605760 (l := [e253, e204, e208]) (cons' k253 (cons' k204 (cons' k208 nil'))) rfl rfl (by kernel_rfl)
noncomputable abbrev e268 : KE := ⟨234, [(.float .f64 4607182418800017408), (.agg #[(.complex .f64 4611686018427387904 0), (.float .f64 0)])], (.tuple #[(.agg #[(.complex .f64 13830554455654793216 9223372036854775808), (.float .f64 0)]), (.int .i64 0)])⟩
theorem k268 : Kn e268 := go e268 13803492693581127574869512081365974081392188208912265472698832543383552 (l := [e267, e254]) (cons' k267 (cons' k254 nil')) rfl rfl (by kernel_rfl)
noncomputable abbrev e269 : KE := ⟨151, [(.float .f64 4607182418800017408), (.agg #[(.complex .f64 4611686018427387904 0), (.float .f64 0)])], (.agg #[(.complex .f64 13830554455654793216 9223372036854775808), (.float .f64 0)])⟩
theorem k269 : Kn e269 := go e269 27606985387162255149739023449108101809804435888681546220650096895295488 (l := [e268]) (cons' k268 nil') rfl rfl (by kernel_rfl)
noncomputable abbrev e247 : KE := ⟨338, [(.float .f64 4613937818241073152)], (.bool true)⟩
theorem k247 : Kn e247 := go e247 1237940039285380274899222528 (l := [e246]) (cons' k246 nil') rfl rfl (by kernel_rfl)
noncomputable abbrev e236 : KE := ⟨316, [(.int .u32 3)], (.int .i64 0)⟩
theorem k236 : Kn e236 := goT e236 rfl rfl (fun e => by kernel_rfl)
noncomputable abbrev e239 : KE := ⟨90, [(.float .f64 4843621399236968448)], (.float .f64 4843621399236968448)⟩
theorem k239 : Kn e239 := go e239 98304 (l := []) nil' rfl rfl (by kernel_rfl)
noncomputable abbrev e242 : KE := ⟨345, [(.float .f64 4843621399236968448)], (.tuple #[(.float .f64 4843621399236968448), (.int .i64 0)])⟩
theorem k242 : Kn e242 := go e242 1237940039285380274899222528 (l := [e239]) (cons' k239 nil') rfl rfl (by kernel_rfl)
noncomputable abbrev e241 : KE := ⟨67, [(.float .f64 4843621399236968448)], (.bool false)⟩
theorem k241 : Kn e241 := go e241 98304 (l := []) nil' rfl rfl (by kernel_rfl)
noncomputable abbrev e240 : KE := ⟨89, [(.float .f64 4843621399236968448), (.int .i64 0)], (.bool false)⟩
theorem k240 : Kn e240 := go e240 1237940039285380274899222528 (l := [e239]) (cons' k239 nil') rfl rfl (by kernel_rfl)
noncomputable abbrev e243 : KE := ⟨310, [(.float .f64 4843621399236968448), (.int .i64 (-51))], (.float .f64 4613937818241073152)⟩
theorem k243 : Kn e243 := go e243 71671831749689734737838152978190216899892655911508785116799651230841339877765769222355296427418553778176 (l := [e242, e241, e240]) (cons' k242 (cons' k241 (cons' k240 nil'))) rfl rfl (by kernel_rfl)
noncomputable abbrev e244 : KE := ⟨244, [(.float .f64 4843621399236968448), (.int .i64 (-51))], (.float .f64 4613937818241073152)⟩
theorem k244 : Kn e244 := go e244 2085924839766513752338888384931203236916703635113918720651407820138886450957656787131799011328 (l := [e243]) (cons' k243 nil') rfl rfl (by kernel_rfl)
noncomputable abbrev e238 : KE := ⟨312, [(.int .u32 1572864)], (.int .i64 21)⟩
theorem k238 : Kn e238 := go e238 98304 (l := []) nil' rfl rfl (by kernel_rfl)
noncomputable abbrev e235 : KE := ⟨115, [(.float .f64 4611686018427387904)], (.bool false)⟩
theorem k235 : Kn e235 := go e235 618970019642690137449660416 (l := [e206]) (cons' k206 nil') rfl rfl (by kernel_rfl)
noncomputable abbrev e245 : KE := ⟨68, [(.float .f64 4611686018427387904), (.float .f64 4607182418800017408), (.int .i64 2)], (.float .f64 4613937818241073152)⟩
theorem k245 : Kn e245 := go e245 141842889104122935159072679728358274259609185934069066207927376397056567692789357682573122306048 (l := [e244, e238, e111, e237, e236, e86, e85, e70, e84, e206, e200, e83, e235, e169]) (cons' k244 (cons' k238 (cons' k111 (cons' k237 (cons' k236 (cons' k86 (cons' k85 (cons' k70 (cons' k84 (cons' k206 (cons' k200 (cons' k83 (cons' k235 (cons' k169 nil')))))))))))))) rfl rfl (by kernel_rfl)
noncomputable abbrev e251 : KE := ⟨233, [(.agg #[(.complex .f64 4611686018427387904 0), (.float .f64 0)]), (.float .f64 4607182418800017408)], (.tuple #[(.agg #[(.complex .f64 4613937818241073152 0), (.float .f64 0)]), (.int .i64 0)])⟩
theorem k251 : Kn e251 := go e251 1679808699258561552307795844779688983182892223990257891494740630415472260842601361503740860349932601344 (l := [e127, e121, e182, e181, e237, e250, e249, e248, e180, e247, e168, e236, e87, e120, e119, e112, e86, e85, e70, e84, e206, e200, e245, e234, e204, e208]) (cons' k127 (cons' k121 (cons' k182 (cons' k181 (cons' k237 (cons' k250 (cons' k249 (cons' k248 (cons' k180 (cons' k247 (cons' k168 (cons' k236 (cons' k87 (cons' k120 (cons' k119 (cons' k112 (cons' k86 (cons' k85 (cons' k70 (cons' k84 (cons' k206 (cons' k200 (cons' k245 (cons' k234 (cons' k204 (cons' k208 nil')))))))))))))))))))))))))) rfl rfl (by kernel_rfl)
noncomputable abbrev e252 : KE := ⟨150, [(.agg #[(.complex .f64 4611686018427387904 0), (.float .f64 0)]), (.float .f64 4607182418800017408)], (.agg #[(.complex .f64 4613937818241073152 0), (.float .f64 0)])⟩
theorem k252 : Kn e252 := go e252 13803492693581127574869511724554050904902217944340773110325048447696896 (l := [e251]) (cons' k251 nil') rfl rfl (by kernel_rfl)
noncomputable abbrev e229 : KE := ⟨282, [(.float .f64 13835058055282163712)], (.float .f64 4611686018427387904)⟩
theorem k229 : Kn e229 := go e229 98304 (l := []) nil' rfl rfl (by kernel_rfl)
noncomputable abbrev e230 : KE := ⟨224, [(.complex .f64 0 13835058055282163712), (.int .i64 1)], (.complex .f64 4611686018427387904 0)⟩
theorem k230 : Kn e230 := go e230 7770675568902916283677847627294075626569627356208558085007249638955617140820834091008 (l := [e229]) (cons' k229 nil') rfl rfl (by kernel_rfl)
noncomputable abbrev e231 : KE := ⟨141, [(.agg #[(.complex .f64 0 13835058055282163712), (.float .f64 0)]), (.int .i64 1)], (.tuple #[(.agg #[(.complex .f64 4611686018427387904 0), (.float .f64 0)]), (.int .i64 0)])⟩
theorem k231 : Kn e231 := go e231 26959946667150639794667015087019630673637144422540572481172329955328 (l := [e230, e224, e228]) (cons' k230 (cons' k224 (cons' k228 nil'))) rfl rfl (by kernel_rfl)
noncomputable abbrev e232 : KE := ⟨75, [(.agg #[(.complex .f64 0 13835058055282163712), (.float .f64 0)]), (.int .i64 1)], (.agg #[(.complex .f64 4611686018427387904 0), (.float .f64 0)])⟩
theorem k232 : Kn e232 := go e232 2787593149816327892691964784081045188345856 (l := [e231]) (cons' k231 nil') rfl rfl (by kernel_rfl)
noncomputable abbrev e135 : KE := ⟨282, [(.float .f64 9223372036854775808)], (.float .f64 0)⟩
theorem k135 : Kn e135 := go e135 98304 (l := []) nil' rfl rfl (by kernel_rfl)
noncomputable abbrev e218 : KE := ⟨231, [(.complex .f64 9223372036854775808 4611686018427387904)], (.complex .f64 0 13835058055282163712)⟩
theorem k218 : Kn e218 := go e218 7770675568902916283677847627294075626569627356208558085007249638955617140820834091008 (l := [e217, e135]) (cons' k217 (cons' k135 nil')) rfl rfl (by kernel_rfl)
noncomputable abbrev e55 : KE := ⟨235, [(.float .f64 9223372036854775808), (.float .f64 0)], (.bool false)⟩
theorem k55 : Kn e55 := go e55 147573952589676511232 (l := [e54]) (cons' k54 nil') rfl rfl (by kernel_rfl)
noncomputable abbrev e213 : KE := ⟨153, [(.complex .f64 9223372036854775808 4611686018427387904), (.complex .f64 0 0)], (.bool false)⟩
theorem k213 : Kn e213 := go e213 55213970774324510299478046898216203619608871777363092441300193790492672 (l := [e55]) (cons' k55 nil') rfl rfl (by kernel_rfl)
noncomputable abbrev e214 : KE := ⟨88, [(.agg #[(.complex .f64 9223372036854775808 4611686018427387904), (.float .f64 0)]), (.agg #[(.complex .f64 0 0), (.float .f64 9218868437227405312)])], (.bool false)⟩
theorem k214 : Kn e214 := go e214 11417981541647679048466287755595961091062071296 (l := [e213]) (cons' k213 nil') rfl rfl (by kernel_rfl)
noncomputable abbrev e215 : KE := ⟨36, [(.agg #[(.complex .f64 9223372036854775808 4611686018427387904), (.float .f64 0)])], (.bool false)⟩
theorem k215 : Kn e215 := go e215 309485009821345068725927936 (l := [e214, e38]) (cons' k214 (cons' k38 nil')) rfl rfl (by kernel_rfl)
noncomputable abbrev e216 : KE := ⟨17, [(.agg #[(.complex .f64 9223372036854775808 4611686018427387904), (.float .f64 0)])], (.bool true)⟩
theorem k216 : Kn e216 := go e216 481036435456 (l := [e48, e47, e207, e61, e215]) (cons' k48 (cons' k47 (cons' k207 (cons' k61 (cons' k215 nil'))))) rfl rfl (by kernel_rfl)
noncomputable abbrev e219 : KE := ⟨148, [(.agg #[(.complex .f64 9223372036854775808 4611686018427387904), (.float .f64 0)])], (.tuple #[(.agg #[(.complex .f64 0 13835058055282163712), (.float .f64 0)]), (.int .i64 0)])⟩
theorem k219 : Kn e219 := go e219 3450873173395281893717377931138512726225554486085193277581330831605760 (l := [e218, e215, e216]) (cons' k218 (cons' k215 (cons' k216 nil'))) rfl rfl (by kernel_rfl)
noncomputable abbrev e209 : KE := ⟨224, [(.complex .f64 4611686018427387904 0), (.int .i64 1)], (.complex .f64 9223372036854775808 4611686018427387904)⟩
theorem k209 : Kn e209 := go e209 7770675568902916283677847627294075626569627356208558085007249638955617140820834091008 (l := [e50]) (cons' k50 nil') rfl rfl (by kernel_rfl)
noncomputable abbrev e210 : KE := ⟨141, [(.agg #[(.complex .f64 4611686018427387904 0), (.float .f64 0)]), (.int .i64 1)], (.tuple #[(.agg #[(.complex .f64 9223372036854775808 4611686018427387904), (.float .f64 0)]), (.int .i64 0)])⟩
theorem k210 : Kn e210 := go e210 26959946667150639794667015087019630673637144422540572481172329955328 (l := [e209, e204, e208]) (cons' k209 (cons' k204 (cons' k208 nil'))) rfl rfl (by kernel_rfl)
noncomputable abbrev e211 : KE := ⟨75, [(.agg #[(.complex .f64 4611686018427387904 0), (.float .f64 0)]), (.int .i64 1)], (.agg #[(.complex .f64 9223372036854775808 4611686018427387904), (.float .f64 0)])⟩
theorem k211 : Kn e211 := go e211 2787593149816327892691964784081045188345856 (l := [e210]) (cons' k210 nil') rfl rfl (by kernel_rfl)
noncomputable abbrev e196 : KE := ⟨224, [(.complex .f64 0 0), (.int .i64 3)], (.complex .f64 0 9223372036854775808)⟩
theorem k196 : Kn e196 := go e196 7770675568902916283677847627294075626569627356208558085007249638955617140820834091008 (l := [e135, e50]) (cons' k135 (cons' k50 nil')) rfl rfl (by kernel_rfl)
noncomputable abbrev e42 : KE := ⟨154, [(.float .f64 0), (.float .f64 9218868437227405312)], (.bool false)⟩
theorem k42 : Kn e42 := go e42 147573952589676511232 (l := [e41]) (cons' k41 nil') rfl rfl (by kernel_rfl)
noncomputable abbrev e40 : KE := ⟨153, [(.complex .f64 0 0), (.complex .f64 0 0)], (.bool true)⟩
theorem k40 : Kn e40 := go e40 55213970774324510299478046898216203619608871777363092441300193790492672 (l := [e39]) (cons' k39 nil') rfl rfl (by kernel_rfl)
noncomputable abbrev e43 : KE := ⟨88, [(.agg #[(.complex .f64 0 0), (.float .f64 0)]), (.agg #[(.complex .f64 0 0), (.float .f64 9218868437227405312)])], (.bool false)⟩
theorem k43 : Kn e43 := go e43 34253944624943037145398863266787883273186017280 (l := [e42, e40]) (cons' k42 (cons' k40 nil')) rfl rfl (by kernel_rfl)
noncomputable abbrev e44 : KE := ⟨36, [(.agg #[(.complex .f64 0 0), (.float .f64 0)])], (.bool false)⟩
theorem k44 : Kn e44 := go e44 309485009821345068725927936 (l := [e43, e38]) (cons' k43 (cons' k38 nil')) rfl rfl (by kernel_rfl)
noncomputable abbrev e49 : KE := ⟨17, [(.agg #[(.complex .f64 0 0), (.float .f64 0)])], (.bool true)⟩
theorem k49 : Kn e49 := go e49 481036435456 (l := [e48, e47, e44]) (cons' k48 (cons' k47 (cons' k44 nil'))) rfl rfl (by kernel_rfl)
noncomputable abbrev e197 : KE := ⟨141, [(.agg #[(.complex .f64 0 0), (.float .f64 0)]), (.int .i64 3)], (.tuple #[(.agg #[(.complex .f64 0 9223372036854775808), (.float .f64 0)]), (.int .i64 0)])⟩
theorem k197 : Kn e197 := go e197 26959946667150639794667015087019630673637144422540572481172329955328 (l := [e196, e44, e49]) (cons' k196 (cons' k44 (cons' k49 nil'))) rfl rfl (by kernel_rfl)
noncomputable abbrev e198 : KE := ⟨75, [(.agg #[(.complex .f64 0 0), (.float .f64 0)]), (.int .i64 3)], (.agg #[(.complex .f64 0 9223372036854775808), (.float .f64 0)])⟩
theorem k198 : Kn e198 := go e198 2787593149816327892691964784081045188345856 (l := [e197]) (cons' k197 nil') rfl rfl (by kernel_rfl)
noncomputable abbrev e186 : KE := ⟨90, [(.float .f64 4602678819172646912)], (.float .f64 4602678819172646912)⟩
theorem k186 : Kn e186 := go e186 98304 (l := []) nil' rfl rfl (by kernel_rfl)
noncomputable abbrev e189 : KE := ⟨89, [(.float .f64 4602678819172646912), (.int .i64 0)], (.bool false)⟩
theorem k189 : Kn e189 := go e189 1237940039285380274899222528 (l := [e186]) (cons' k186 nil') rfl rfl (by kernel_rfl)
noncomputable abbrev e192 : KE := ⟨67, [(.float .f64 4602678819172646912)], (.bool false)⟩
theorem k192 : Kn e192 := go e192 98304 (l := []) nil' rfl rfl (by kernel_rfl)
noncomputable abbrev e190 : KE := ⟨115, [(.float .f64 4602678819172646912)], (.bool false)⟩
theorem k190 : Kn e190 := go e190 618970019642690137449660416 (l := [e189]) (cons' k189 nil') rfl rfl (by kernel_rfl)
noncomputable abbrev e191 : KE := ⟨291, [(.float .f64 0), (.float .f64 4602678819172646912), (.int .i64 2)], (.float .f64 0)⟩
theorem k191 : Kn e191 := go e191 51922968585348276285304963292299264 (l := [e190, e175, e169]) (cons' k190 (cons' k175 (cons' k169 nil'))) rfl rfl (by kernel_rfl)
noncomputable abbrev e187 : KE := ⟨338, [(.float .f64 4602678819172646912)], (.bool true)⟩
theorem k187 : Kn e187 := go e187 1237940039285380274899222528 (l := [e186]) (cons' k186 nil') rfl rfl (by kernel_rfl)
noncomputable abbrev e188 : KE := ⟨290, [(.float .f64 4602678819172646912)], (.int .i64 0)⟩
theorem k188 : Kn e188 := go e188 559936185544451052639360570142111069530411374308662383724997275240947967795040236345219373317901877248 (l := [e187]) (cons' k187 nil') rfl rfl (by kernel_rfl)
noncomputable abbrev e193 : KE := ⟨226, [(.agg #[(.complex .f64 0 0), (.float .f64 0)]), (.float .f64 4602678819172646912)], (.tuple #[(.agg #[(.complex .f64 0 0), (.float .f64 0)]), (.int .i64 0)])⟩
theorem k193 : Kn e193 := go e193 1679808699258501873519426670382630337313114605489445836756644948689379405165374182068951451165515808768 (l := [e127, e121, e182, e180, e120, e119, e86, e85, e189, e192, e112, e168, e191, e188, e44, e49]) (cons' k127 (cons' k121 (cons' k182 (cons' k180 (cons' k120 (cons' k119 (cons' k86 (cons' k85 (cons' k189 (cons' k192 (cons' k112 (cons' k168 (cons' k191 (cons' k188 (cons' k44 (cons' k49 nil')))))))))))))))) rfl rfl (by kernel_rfl)
noncomputable abbrev e194 : KE := ⟨143, [(.agg #[(.complex .f64 0 0), (.float .f64 0)])], (.agg #[(.complex .f64 0 0), (.float .f64 0)])⟩
theorem k194 : Kn e194 := go e194 107839786668602559178668060348078522694548577690162289924414441095168 (l := [e193]) (cons' k193 nil') rfl rfl (by kernel_rfl)
noncomputable abbrev e173 : KE := ⟨127, [(.float .f64 4607182418800017408), (.float .f64 13830554455654793216), (.int .i64 2)], (.float .f64 0)⟩
theorem k173 : Kn e173 := go e173 274878005248 (l := [e172, e171]) (cons' k172 (cons' k171 nil')) rfl rfl (by kernel_rfl)
noncomputable abbrev e174 : KE := ⟨68, [(.float .f64 4607182418800017408), (.float .f64 13830554455654793216), (.int .i64 2)], (.float .f64 0)⟩
theorem k174 : Kn e174 := go e174 141842889104122935159044410175321820110335847187746473004465924875873952215295850777468140093440 (l := [e173, e113, e86, e85, e165, e159, e70, e84, e170, e83, e169]) (cons' k173 (cons' k113 (cons' k86 (cons' k85 (cons' k165 (cons' k159 (cons' k70 (cons' k84 (cons' k170 (cons' k83 (cons' k169 nil'))))))))))) rfl rfl (by kernel_rfl)
noncomputable abbrev e179 : KE := ⟨297, [(.complex .f64 4607182418800017408 0), (.complex .f64 13830554455654793216 0), (.int .i64 2)], (.complex .f64 0 0)⟩
theorem k179 : Kn e179 := go e179 295147905179352924160 (l := [e178, e174]) (cons' k178 (cons' k174 nil')) rfl rfl (by kernel_rfl)
noncomputable abbrev e161 : KE := ⟨153, [(.complex .f64 13830554455654793216 0), (.complex .f64 0 0)], (.bool false)⟩
theorem k161 : Kn e161 := go e161 55213970774324510299478046898216203619608871777363092441300193790492672 (l := [e160]) (cons' k160 nil') rfl rfl (by kernel_rfl)
noncomputable abbrev e162 : KE := ⟨88, [(.agg #[(.complex .f64 13830554455654793216 0), (.float .f64 0)]), (.agg #[(.complex .f64 0 0), (.float .f64 9218868437227405312)])], (.bool false)⟩
theorem k162 : Kn e162 := go e162 11417981541647679048466287755595961091062071296 (l := [e161]) (cons' k161 nil') rfl rfl (by kernel_rfl)
noncomputable abbrev e163 : KE := ⟨36, [(.agg #[(.complex .f64 13830554455654793216 0), (.float .f64 0)])], (.bool false)⟩
theorem k163 : Kn e163 := go e163 309485009821345068725927936 (l := [e162, e38]) (cons' k162 (cons' k38 nil')) rfl rfl (by kernel_rfl)
noncomputable abbrev e167 : KE := ⟨17, [(.agg #[(.complex .f64 13830554455654793216 0), (.float .f64 0)])], (.bool true)⟩
theorem k167 : Kn e167 := go e167 481036435456 (l := [e48, e47, e166, e163]) (cons' k48 (cons' k47 (cons' k166 (cons' k163 nil')))) rfl rfl (by kernel_rfl)
noncomputable abbrev e129 : KE := ⟨235, [(.float .f64 4607182418800017408), (.float .f64 0)], (.bool false)⟩
theorem k129 : Kn e129 := go e129 147573952589676511232 (l := [e84]) (cons' k84 nil') rfl rfl (by kernel_rfl)
noncomputable abbrev e130 : KE := ⟨153, [(.complex .f64 4607182418800017408 0), (.complex .f64 0 0)], (.bool false)⟩
theorem k130 : Kn e130 := go e130 55213970774324510299478046898216203619608871777363092441300193790492672 (l := [e129]) (cons' k129 nil') rfl rfl (by kernel_rfl)
noncomputable abbrev e131 : KE := ⟨88, [(.agg #[(.complex .f64 4607182418800017408 0), (.float .f64 0)]), (.agg #[(.complex .f64 0 0), (.float .f64 9218868437227405312)])], (.bool false)⟩
theorem k131 : Kn e131 := go e131 11417981541647679048466287755595961091062071296 (l := [e130]) (cons' k130 nil') rfl rfl (by kernel_rfl)
noncomputable abbrev e132 : KE := ⟨36, [(.agg #[(.complex .f64 4607182418800017408 0), (.float .f64 0)])], (.bool false)⟩
theorem k132 : Kn e132 := go e132 309485009821345068725927936 (l := [e131, e38]) (cons' k131 (cons' k38 nil')) rfl rfl (by kernel_rfl)
noncomputable abbrev e153 : KE := ⟨37, [(.float .f64 4607182418800017408)], (.bool true)⟩
theorem k153 : Kn e153 := go e153 618970167216642727126073344 (l := [e84, e70]) (cons' k84 (cons' k70 nil')) rfl rfl (by kernel_rfl)
noncomputable abbrev e158 : KE := ⟨17, [(.agg #[(.complex .f64 4607182418800017408 0), (.float .f64 0)])], (.bool true)⟩
theorem k158 : Kn e158 := go e158 481036435456 (l := [e48, e47, e153, e132]) (cons' k48 (cons' k47 (cons' k153 (cons' k132 nil')))) rfl rfl (by kernel_rfl)
noncomputable abbrev e183 : KE := ⟨228, [(.agg #[(.complex .f64 4607182418800017408 0), (.float .f64 0)]), (.agg #[(.complex .f64 13830554455654793216 0), (.float .f64 0)])], (.tuple #[(.agg #[(.complex .f64 0 0), (.float .f64 0)]), (.int .i64 0)])⟩
theorem k183 : Kn e183 := go e183 1679808699258750535137631563703708028437188015909496064832043622548099637153820761817457717853282336768 (l := [e127, e182, e180, e179, e121, e168, e87, e120, e119, e112, e86, e85, e165, e159, e70, e84, e163, e167, e132, e158]) (cons' k127 (cons' k182 (cons' k180 (cons' k179 (cons' k121 (cons' k168 (cons' k87 (cons' k120 (cons' k119 (cons' k112 (cons' k86 (cons' k85 (cons' k165 (cons' k159 (cons' k70 (cons' k84 (cons' k163 (cons' k167 (cons' k132 (cons' k158 nil')))))))))))))))))))) rfl rfl (by kernel_rfl)
noncomputable abbrev e155 : KE := ⟨282, [(.float .f64 4607182418800017408)], (.float .f64 13830554455654793216)⟩
theorem k155 : Kn e155 := go e155 98304 (l := []) nil' rfl rfl (by kernel_rfl)
noncomputable abbrev e156 : KE := ⟨231, [(.complex .f64 4607182418800017408 9223372036854775808)], (.complex .f64 13830554455654793216 0)⟩
theorem k156 : Kn e156 := go e156 7770675568902916283677847627294075626569627356208558085007249638955617140820834091008 (l := [e135, e155]) (cons' k135 (cons' k155 nil')) rfl rfl (by kernel_rfl)
noncomputable abbrev e150 : KE := ⟨153, [(.complex .f64 4607182418800017408 9223372036854775808), (.complex .f64 0 0)], (.bool false)⟩
theorem k150 : Kn e150 := go e150 55213970774324510299478046898216203619608871777363092441300193790492672 (l := [e129]) (cons' k129 nil') rfl rfl (by kernel_rfl)
noncomputable abbrev e151 : KE := ⟨88, [(.agg #[(.complex .f64 4607182418800017408 9223372036854775808), (.float .f64 0)]), (.agg #[(.complex .f64 0 0), (.float .f64 9218868437227405312)])], (.bool false)⟩
theorem k151 : Kn e151 := go e151 11417981541647679048466287755595961091062071296 (l := [e150]) (cons' k150 nil') rfl rfl (by kernel_rfl)
noncomputable abbrev e152 : KE := ⟨36, [(.agg #[(.complex .f64 4607182418800017408 9223372036854775808), (.float .f64 0)])], (.bool false)⟩
theorem k152 : Kn e152 := go e152 309485009821345068725927936 (l := [e151, e38]) (cons' k151 (cons' k38 nil')) rfl rfl (by kernel_rfl)
noncomputable abbrev e154 : KE := ⟨17, [(.agg #[(.complex .f64 4607182418800017408 9223372036854775808), (.float .f64 0)])], (.bool true)⟩
theorem k154 : Kn e154 := go e154 481036435456 (l := [e48, e47, e61, e153, e152]) (cons' k48 (cons' k47 (cons' k61 (cons' k153 (cons' k152 nil'))))) rfl rfl (by kernel_rfl)
noncomputable abbrev e157 : KE := ⟨148, [(.agg #[(.complex .f64 4607182418800017408 9223372036854775808), (.float .f64 0)])], (.tuple #[(.agg #[(.complex .f64 13830554455654793216 0), (.float .f64 0)]), (.int .i64 0)])⟩
theorem k157 : Kn e157 := go e157 3450873173395281893717377931138512726225554486085193277581330831605760 (l := [e156, e152, e154]) (cons' k156 (cons' k152 (cons' k154 nil'))) rfl rfl (by kernel_rfl)
noncomputable abbrev e184 : KE := ⟨227, [(.agg #[(.complex .f64 4607182418800017408 0), (.float .f64 0)]), (.agg #[(.complex .f64 4607182418800017408 9223372036854775808), (.float .f64 0)])], (.tuple #[(.agg #[(.complex .f64 0 0), (.float .f64 0)]), (.int .i64 0)])⟩
theorem k184 : Kn e184 := go e184 431359146674410236714672598204237267268164575332141522071510579380224 (l := [e183, e132, e158, e157]) (cons' k183 (cons' k132 (cons' k158 (cons' k157 nil')))) rfl rfl (by kernel_rfl)
noncomputable abbrev e185 : KE := ⟨144, [(.agg #[(.complex .f64 4607182418800017408 0), (.float .f64 0)]), (.agg #[(.complex .f64 4607182418800017408 9223372036854775808), (.float .f64 0)])], (.agg #[(.complex .f64 0 0), (.float .f64 0)])⟩
theorem k185 : Kn e185 := go e185 215679573337205118357336120696157045389097155380324579848828882092032 (l := [e184]) (cons' k184 nil') rfl rfl (by kernel_rfl)
noncomputable abbrev e147 : KE := ⟨288, [(.agg #[(.complex .f64 4607182418800017408 0), (.float .f64 0)]), (.float .f64 9223372036854775808)], (.agg #[(.complex .f64 4607182418800017408 9223372036854775808), (.float .f64 0)])⟩
theorem k147 : Kn e147 := go e147 68719575040 (l := [e132]) (cons' k132 nil') rfl rfl (by kernel_rfl)
noncomputable abbrev e117 : KE := ⟨337, [(.float .f64 0)], (.agg #[(.bool false), (.slice none 0 0), (.int .i64 0)])⟩
theorem k117 : Kn e117 := go e117 633825300114114700748351700992 (l := [e116]) (cons' k116 nil') rfl rfl (by kernel_rfl)
noncomputable abbrev e114 : KE := ⟨56, [(.agg #[(.bool false), (.slice none 0 0), (.int .i64 0)]), (.agg #[(.bool false), (.slice none 0 0), (.int .i64 0)])], (.int .i64 0)⟩
theorem k114 : Kn e114 := go e114 2475880078570761649309974528 (l := [e113, e112]) (cons' k113 (cons' k112 nil')) rfl rfl (by kernel_rfl)
noncomputable abbrev e123 : KE := ⟨108, [(.agg #[(.bool false), (.slice none 0 0), (.int .i64 0)]), (.int .i64 2)], (.tuple #[(.float .f64 0), (.int .i64 0)])⟩
theorem k123 : Kn e123 := go e123 5986310706507378352962295550685973819271249494376448 (l := [e111, e112]) (cons' k111 (cons' k112 nil')) rfl rfl (by kernel_rfl)
noncomputable abbrev e122 : KE := ⟨109, [(.agg #[(.bool false), (.slice none 0 0), (.int .i64 0)]), (.int .i64 (-1))], (.tuple #[(.agg #[(.bool false), (.slice none 0 0), (.int .i64 0)]), (.int .i64 0)])⟩
theorem k122 : Kn e122 := go e122 2475880078570760549798346752 (l := [e112]) (cons' k112 nil') rfl rfl (by kernel_rfl)
noncomputable abbrev e126 : KE := ⟨336, [(.agg #[(.float .f64 0), (.float .f64 0)])], (.tuple #[(.float .f64 0), (.agg #[(.bool false), (.slice none 0 0), (.int .i64 0)])])⟩
theorem k126 : Kn e126 := go e126 279968092772225526319680285071055534765205687154331191862498637620474957472988134090651550156291407872 (l := [e114, e125, e123, e122, e121, e117]) (cons' k114 (cons' k125 (cons' k123 (cons' k122 (cons' k121 (cons' k117 nil')))))) rfl rfl (by kernel_rfl)
noncomputable abbrev e115 : KE := ⟨336, [(.agg #[(.float .f64 4607182418800017408), (.float .f64 4607182418800017408)])], (.tuple #[(.float .f64 4607182418800017408), (.agg #[(.bool false), (.slice none 0 0), (.int .i64 0)])])⟩
theorem k115 : Kn e115 := go e115 141842889104122935159072679728358274259609185934069066207927324474087982344513144435203868033024 (l := [e114, e86, e85, e70, e84, e94, e88, e111, e110]) (cons' k114 (cons' k86 (cons' k85 (cons' k70 (cons' k84 (cons' k94 (cons' k88 (cons' k111 (cons' k110 nil'))))))))) rfl rfl (by kernel_rfl)
noncomputable abbrev e72 : KE := ⟨285, [(.agg #[(.float .f64 0), (.float .f64 0)])], (.bool false)⟩
theorem k72 : Kn e72 := go e72 618970019642690137449660416 (l := [e46]) (cons' k46 nil') rfl rfl (by kernel_rfl)
noncomputable abbrev e71 : KE := ⟨285, [(.agg #[(.float .f64 4607182418800017408), (.float .f64 4607182418800017408)])], (.bool false)⟩
theorem k71 : Kn e71 := go e71 618970019642690137449660416 (l := [e70]) (cons' k70 nil') rfl rfl (by kernel_rfl)
noncomputable abbrev e128 : KE := ⟨289, [(.agg #[(.float .f64 4607182418800017408), (.float .f64 4607182418800017408)]), (.agg #[(.float .f64 0), (.float .f64 0)]), (.float .f64 4607182418800017408), (.float .f64 0)], (.agg #[(.complex .f64 4607182418800017408 0), (.float .f64 0)])⟩
theorem k128 : Kn e128 := go e128 419952281783449270680302795001406891241610873263712851264959330639185682422286881815372035161648627712 (l := [e127, e121, e120, e119, e112, e117, e86, e85, e70, e84, e126, e115, e46, e72, e71]) (cons' k127 (cons' k121 (cons' k120 (cons' k119 (cons' k112 (cons' k117 (cons' k86 (cons' k85 (cons' k70 (cons' k84 (cons' k126 (cons' k115 (cons' k46 (cons' k72 (cons' k71 nil'))))))))))))))) rfl rfl (by kernel_rfl)
noncomputable abbrev e108 : KE := ⟨356, [(.float .f64 0)], (.float .f64 0)⟩
theorem k108 : Kn e108 := go e108 98304 (l := []) nil' rfl rfl (by kernel_rfl)
noncomputable abbrev e107 : KE := ⟨335, [(.float .f64 4607182418800017408), (.float .f64 0), (.int .i64 3)], (.float .f64 0)⟩
theorem k107 : Kn e107 := go e107 98304 (l := []) nil' rfl rfl (by kernel_rfl)
noncomputable abbrev e106 : KE := ⟨335, [(.float .f64 4607182418800017408), (.float .f64 0), (.int .i64 1)], (.float .f64 0)⟩
theorem k106 : Kn e106 := go e106 98304 (l := []) nil' rfl rfl (by kernel_rfl)
noncomputable abbrev e103 : KE := ⟨89, [(.float .f64 0), (.int .i64 (-1))], (.bool false)⟩
theorem k103 : Kn e103 := go e103 98304 (l := []) nil' rfl rfl (by kernel_rfl)
noncomputable abbrev e102 : KE := ⟨89, [(.float .f64 0), (.int .i64 1)], (.bool false)⟩
theorem k102 : Kn e102 := go e102 98304 (l := []) nil' rfl rfl (by kernel_rfl)
noncomputable abbrev e104 : KE := ⟨52, [(.agg #[(.float .f64 0), (.float .f64 0)])], (.bool true)⟩
theorem k104 : Kn e104 := go e104 618970019642690412327567360 (l := [e48, e103, e102]) (cons' k48 (cons' k103 (cons' k102 nil'))) rfl rfl (by kernel_rfl)
noncomputable abbrev e78 : KE := ⟨89, [(.float .f64 4607182418800017408), (.int .i64 (-1))], (.bool false)⟩
theorem k78 : Kn e78 := go e78 98304 (l := []) nil' rfl rfl (by kernel_rfl)
noncomputable abbrev e77 : KE := ⟨89, [(.float .f64 4607182418800017408), (.int .i64 1)], (.bool false)⟩
theorem k77 : Kn e77 := go e77 98304 (l := []) nil' rfl rfl (by kernel_rfl)
noncomputable abbrev e79 : KE := ⟨52, [(.agg #[(.float .f64 4607182418800017408), (.float .f64 4607182418800017408)])], (.bool true)⟩
theorem k79 : Kn e79 := go e79 618970019642690137449660416 (l := [e78, e77]) (cons' k78 (cons' k77 nil')) rfl rfl (by kernel_rfl)
noncomputable abbrev e105 : KE := ⟨333, [(.agg #[(.float .f64 4607182418800017408), (.float .f64 4607182418800017408)]), (.agg #[(.float .f64 0), (.float .f64 0)])], (.bool true)⟩
theorem k105 : Kn e105 := go e105 4503599627468800 (l := [e104, e79]) (cons' k104 (cons' k79 nil')) rfl rfl (by kernel_rfl)
noncomputable abbrev e109 : KE := ⟨287, [(.agg #[(.float .f64 4607182418800017408), (.float .f64 4607182418800017408)]), (.agg #[(.float .f64 0), (.float .f64 0)])], (.tuple #[(.agg #[(.float .f64 0), (.float .f64 0)]), (.int .i64 0)])⟩
theorem k109 : Kn e109 := go e109 146783998913393568063569512199422648915834773433547227647703142751587320467782995691518116339579522908258304 (l := [e108, e107, e106, e81, e37, e105]) (cons' k108 (cons' k107 (cons' k106 (cons' k81 (cons' k37 (cons' k105 nil')))))) rfl rfl (by kernel_rfl)
noncomputable abbrev e100 : KE := ⟨356, [(.float .f64 4607182418800017408)], (.float .f64 4607182418800017408)⟩
theorem k100 : Kn e100 := go e100 98304 (l := []) nil' rfl rfl (by kernel_rfl)
noncomputable abbrev e98 : KE := ⟨291, [(.float .f64 4607182418800017408), (.float .f64 4607182418800017408), (.int .i64 3)], (.float .f64 4607182418800017408)⟩
theorem k98 : Kn e98 := go e98 141842889104122935159072679728358274259609185934069066207927376397056567692789357682573122306048 (l := [e94, e88, e12, e87, e86, e85, e70, e84, e83, e97]) (cons' k94 (cons' k88 (cons' k12 (cons' k87 (cons' k86 (cons' k85 (cons' k70 (cons' k84 (cons' k83 (cons' k97 nil')))))))))) rfl rfl (by kernel_rfl)
noncomputable abbrev e99 : KE := ⟨335, [(.float .f64 4607182418800017408), (.float .f64 4607182418800017408), (.int .i64 3)], (.float .f64 4607182418800017408)⟩
theorem k99 : Kn e99 := go e99 3978585891278293137243057985174566720803649206378781739523711815145275976100267004362752 (l := [e98]) (cons' k98 nil') rfl rfl (by kernel_rfl)
noncomputable abbrev e95 : KE := ⟨291, [(.float .f64 4607182418800017408), (.float .f64 4607182418800017408), (.int .i64 1)], (.float .f64 4607182418800017408)⟩
theorem k95 : Kn e95 := go e95 141842889104122935159072679728358274259609185934069066207927376397056567692789357682573122306048 (l := [e94, e88, e4, e87, e86, e85, e70, e84, e83, e82]) (cons' k94 (cons' k88 (cons' k4 (cons' k87 (cons' k86 (cons' k85 (cons' k70 (cons' k84 (cons' k83 (cons' k82 nil')))))))))) rfl rfl (by kernel_rfl)
noncomputable abbrev e96 : KE := ⟨335, [(.float .f64 4607182418800017408), (.float .f64 4607182418800017408), (.int .i64 1)], (.float .f64 4607182418800017408)⟩
theorem k96 : Kn e96 := go e96 3978585891278293137243057985174566720803649206378781739523711815145275976100267004362752 (l := [e95]) (cons' k95 nil') rfl rfl (by kernel_rfl)
noncomputable abbrev e80 : KE := ⟨333, [(.agg #[(.float .f64 4607182418800017408), (.float .f64 4607182418800017408)]), (.agg #[(.float .f64 4607182418800017408), (.float .f64 4607182418800017408)])], (.bool true)⟩
theorem k80 : Kn e80 := go e80 4503599627468800 (l := [e79]) (cons' k79 nil') rfl rfl (by kernel_rfl)
noncomputable abbrev e101 : KE := ⟨287, [(.agg #[(.float .f64 4607182418800017408), (.float .f64 4607182418800017408)]), (.agg #[(.float .f64 4607182418800017408), (.float .f64 4607182418800017408)])], (.tuple #[(.agg #[(.float .f64 4607182418800017408), (.float .f64 4607182418800017408)]), (.int .i64 0)])⟩
theorem k101 : Kn e101 := go e101 146783998913393568063569512199422648915834773433547227647703142751587320467782995691518116339579522908258304 (l := [e100, e99, e96, e81, e37, e80]) (cons' k100 (cons' k99 (cons' k96 (cons' k81 (cons' k37 (cons' k80 nil')))))) rfl rfl (by kernel_rfl)
noncomputable abbrev e143 : KE := ⟨370, [(.float .f64 9223372036854775808)], (.int .i64 0)⟩
theorem k143 : Kn e143 := go e143 618970167216642727126073344 (l := [e60, e54]) (cons' k60 (cons' k54 nil')) rfl rfl (by kernel_rfl)
noncomputable abbrev e145 : KE := ⟨332, [(.float .f64 9223372036854775808)], (.tuple #[(.agg #[(.float .f64 0), (.float .f64 0)]), (.int .i64 0)])⟩
theorem k145 : Kn e145 := go e145 2404907604760405225358828131112281116032698930082119547604265954848982041717359046106827774346003151904701513728 (l := [e143]) (cons' k143 nil') rfl rfl (by kernel_rfl)
noncomputable abbrev e144 : KE := ⟨331, [(.float .f64 9223372036854775808)], (.tuple #[(.agg #[(.float .f64 4607182418800017408), (.float .f64 4607182418800017408)]), (.int .i64 0)])⟩
theorem k144 : Kn e144 := go e144 2404907604760405225358828131112281116032698930082119547604265954848982041717359046106827774346003151904701513728 (l := [e143]) (cons' k143 nil') rfl rfl (by kernel_rfl)
noncomputable abbrev e146 : KE := ⟨286, [(.float .f64 9223372036854775808)], (.tuple #[(.agg #[(.float .f64 4607182418800017408), (.float .f64 4607182418800017408)]), (.agg #[(.float .f64 0), (.float .f64 0)])])⟩
theorem k146 : Kn e146 := go e146 13123504348698071546235013362705728192119016585359274618554623638459717995196255539341079062138421248 (l := [e145, e144]) (cons' k145 (cons' k144 nil')) rfl rfl (by kernel_rfl)
noncomputable abbrev e67 : KE := ⟨322, [(.float .f64 0)], (.agg #[(.float .f64 0), (.float .f64 0)])⟩
theorem k67 : Kn e67 := go e67 98304 (l := []) nil' rfl rfl (by kernel_rfl)
noncomputable abbrev e66 : KE := ⟨321, [(.float .f64 0)], (.int .i64 0)⟩
theorem k66 : Kn e66 := go e66 618970167216642727126073344 (l := [e46, e41]) (cons' k46 (cons' k41 nil')) rfl rfl (by kernel_rfl)
noncomputable abbrev e68 : KE := ⟨284, [(.float .f64 0)], (.tuple #[(.agg #[(.float .f64 0), (.float .f64 0)]), (.int .i64 0)])⟩
theorem k68 : Kn e68 := go e68 12815922215525460494370130237017312687616227134139916619682249646933318354683843300137772521717760 (l := [e67, e66]) (cons' k67 (cons' k66 nil')) rfl rfl (by kernel_rfl)
noncomputable abbrev e64 : KE := ⟨322, [(.float .f64 4607182418800017408)], (.agg #[(.float .f64 4607182418800017408), (.float .f64 4607182418800017408)])⟩
theorem k64 : Kn e64 := go e64 98304 (l := []) nil' rfl rfl (by kernel_rfl)
noncomputable abbrev e142 : KE := ⟨283, [(.float .f64 0)], (.tuple #[(.agg #[(.float .f64 4607182418800017408), (.float .f64 4607182418800017408)]), (.int .i64 0)])⟩
theorem k142 : Kn e142 := go e142 12815922215525460494370130237017312687616227134139916619682249646933318354683843300137772521717760 (l := [e64, e66]) (cons' k64 (cons' k66 nil')) rfl rfl (by kernel_rfl)
noncomputable abbrev e138 : KE := ⟨153, [(.complex .f64 0 9223372036854775808), (.complex .f64 0 0)], (.bool false)⟩
theorem k138 : Kn e138 := go e138 55213970774324510299478046898216203619608871777363092441300193790492672 (l := [e55, e39]) (cons' k55 (cons' k39 nil')) rfl rfl (by kernel_rfl)
noncomputable abbrev e139 : KE := ⟨88, [(.agg #[(.complex .f64 0 9223372036854775808), (.float .f64 0)]), (.agg #[(.complex .f64 0 0), (.float .f64 9218868437227405312)])], (.bool false)⟩
theorem k139 : Kn e139 := go e139 11417981541647679048466287755595961091062071296 (l := [e138]) (cons' k138 nil') rfl rfl (by kernel_rfl)
noncomputable abbrev e140 : KE := ⟨36, [(.agg #[(.complex .f64 0 9223372036854775808), (.float .f64 0)])], (.bool false)⟩
theorem k140 : Kn e140 := go e140 309485009821345068725927936 (l := [e139, e38]) (cons' k139 (cons' k38 nil')) rfl rfl (by kernel_rfl)
noncomputable abbrev e141 : KE := ⟨17, [(.agg #[(.complex .f64 0 9223372036854775808), (.float .f64 0)])], (.bool true)⟩
theorem k141 : Kn e141 := go e141 481036435456 (l := [e48, e61, e47, e140]) (cons' k48 (cons' k61 (cons' k47 (cons' k140 nil')))) rfl rfl (by kernel_rfl)
noncomputable abbrev e148 : KE := ⟨225, [(.agg #[(.complex .f64 0 9223372036854775808), (.float .f64 0)])], (.tuple #[(.agg #[(.complex .f64 4607182418800017408 9223372036854775808), (.float .f64 0)]), (.int .i64 0)])⟩
theorem k148 : Kn e148 := go e148 1973751594501340736054173297332695209148685348476973753591841408294726753768560553852928 (l := [e147, e128, e109, e101, e146, e72, e71, e68, e142, e140, e141]) (cons' k147 (cons' k128 (cons' k109 (cons' k101 (cons' k146 (cons' k72 (cons' k71 (cons' k68 (cons' k142 (cons' k140 (cons' k141 nil'))))))))))) rfl rfl (by kernel_rfl)
noncomputable abbrev e136 : KE := ⟨231, [(.complex .f64 9223372036854775808 0)], (.complex .f64 0 9223372036854775808)⟩
theorem k136 : Kn e136 := go e136 7770675568902916283677847627294075626569627356208558085007249638955617140820834091008 (l := [e50, e135]) (cons' k50 (cons' k135 nil')) rfl rfl (by kernel_rfl)
noncomputable abbrev e56 : KE := ⟨153, [(.complex .f64 9223372036854775808 0), (.complex .f64 0 0)], (.bool false)⟩
theorem k56 : Kn e56 := go e56 55213970774324510299478046898216203619608871777363092441300193790492672 (l := [e55]) (cons' k55 nil') rfl rfl (by kernel_rfl)
noncomputable abbrev e57 : KE := ⟨88, [(.agg #[(.complex .f64 9223372036854775808 0), (.float .f64 0)]), (.agg #[(.complex .f64 0 0), (.float .f64 9218868437227405312)])], (.bool false)⟩
theorem k57 : Kn e57 := go e57 11417981541647679048466287755595961091062071296 (l := [e56]) (cons' k56 nil') rfl rfl (by kernel_rfl)
noncomputable abbrev e58 : KE := ⟨36, [(.agg #[(.complex .f64 9223372036854775808 0), (.float .f64 0)])], (.bool false)⟩
theorem k58 : Kn e58 := go e58 309485009821345068725927936 (l := [e57, e38]) (cons' k57 (cons' k38 nil')) rfl rfl (by kernel_rfl)
noncomputable abbrev e62 : KE := ⟨17, [(.agg #[(.complex .f64 9223372036854775808 0), (.float .f64 0)])], (.bool true)⟩
theorem k62 : Kn e62 := go e62 481036435456 (l := [e48, e47, e61, e58]) (cons' k48 (cons' k47 (cons' k61 (cons' k58 nil')))) rfl rfl (by kernel_rfl)
noncomputable abbrev e137 : KE := ⟨148, [(.agg #[(.complex .f64 9223372036854775808 0), (.float .f64 0)])], (.tuple #[(.agg #[(.complex .f64 0 9223372036854775808), (.float .f64 0)]), (.int .i64 0)])⟩
theorem k137 : Kn e137 := go e137 3450873173395281893717377931138512726225554486085193277581330831605760 (l := [e136, e58, e62]) (cons' k136 (cons' k58 (cons' k62 nil'))) rfl rfl (by kernel_rfl)
noncomputable abbrev e133 : KE := ⟨288, [(.agg #[(.complex .f64 4607182418800017408 0), (.float .f64 0)]), (.float .f64 0)], (.agg #[(.complex .f64 4607182418800017408 0), (.float .f64 0)])⟩
theorem k133 : Kn e133 := go e133 68719575040 (l := [e132]) (cons' k132 nil') rfl rfl (by kernel_rfl)
noncomputable abbrev e73 : KE := ⟨370, [(.float .f64 0)], (.int .i64 0)⟩
theorem k73 : Kn e73 := go e73 618970167216642727126073344 (l := [e46, e41]) (cons' k46 (cons' k41 nil')) rfl rfl (by kernel_rfl)
noncomputable abbrev e75 : KE := ⟨332, [(.float .f64 0)], (.tuple #[(.agg #[(.float .f64 0), (.float .f64 0)]), (.int .i64 0)])⟩
theorem k75 : Kn e75 := go e75 2404907604760405225358828131112281116032698930082119547604265954848982041717359046106827774346003151904701513728 (l := [e73]) (cons' k73 nil') rfl rfl (by kernel_rfl)
noncomputable abbrev e74 : KE := ⟨331, [(.float .f64 0)], (.tuple #[(.agg #[(.float .f64 4607182418800017408), (.float .f64 4607182418800017408)]), (.int .i64 0)])⟩
theorem k74 : Kn e74 := go e74 2404907604760405225358828131112281116032698930082119547604265954848982041717359046106827774346003151904701513728 (l := [e73]) (cons' k73 nil') rfl rfl (by kernel_rfl)
noncomputable abbrev e76 : KE := ⟨286, [(.float .f64 0)], (.tuple #[(.agg #[(.float .f64 4607182418800017408), (.float .f64 4607182418800017408)]), (.agg #[(.float .f64 0), (.float .f64 0)])])⟩
theorem k76 : Kn e76 := go e76 13123504348698071546235013362705728192119016585359274618554623638459717995196255539341079062138421248 (l := [e75, e74]) (cons' k75 (cons' k74 nil')) rfl rfl (by kernel_rfl)
noncomputable abbrev e63 : KE := ⟨321, [(.float .f64 9223372036854775808)], (.int .i64 0)⟩
theorem k63 : Kn e63 := go e63 618970167216642727126073344 (l := [e60, e54]) (cons' k60 (cons' k54 nil')) rfl rfl (by kernel_rfl)
noncomputable abbrev e65 : KE := ⟨283, [(.float .f64 9223372036854775808)], (.tuple #[(.agg #[(.float .f64 4607182418800017408), (.float .f64 4607182418800017408)]), (.int .i64 0)])⟩
theorem k65 : Kn e65 := go e65 12815922215525460494370130237017312687616227134139916619682249646933318354683843300137772521717760 (l := [e64, e63]) (cons' k64 (cons' k63 nil')) rfl rfl (by kernel_rfl)
noncomputable abbrev e134 : KE := ⟨225, [(.agg #[(.complex .f64 9223372036854775808 0), (.float .f64 0)])], (.tuple #[(.agg #[(.complex .f64 4607182418800017408 0), (.float .f64 0)]), (.int .i64 0)])⟩
theorem k134 : Kn e134 := go e134 1973751594501340736054173297332695209148685348476973753591841408294726753768560553852928 (l := [e133, e128, e109, e101, e76, e72, e71, e68, e65, e58, e62]) (cons' k133 (cons' k128 (cons' k109 (cons' k101 (cons' k76 (cons' k72 (cons' k71 (cons' k68 (cons' k65 (cons' k58 (cons' k62 nil'))))))))))) rfl rfl (by kernel_rfl)
noncomputable abbrev e149 : KE := ⟨142, [(.agg #[(.complex .f64 9223372036854775808 0), (.float .f64 0)])], (.tuple #[(.agg #[(.complex .f64 4607182418800017408 0), (.float .f64 0)]), (.agg #[(.complex .f64 4607182418800017408 9223372036854775808), (.float .f64 0)])])⟩
theorem k149 : Kn e149 := go e149 53919893334301279589334386985962437837244553416573507335991316283392 (l := [e148, e137, e134]) (cons' k148 (cons' k137 (cons' k134 nil'))) rfl rfl (by kernel_rfl)
noncomputable abbrev e195 : KE := ⟨76, [(.agg #[(.complex .f64 9223372036854775808 0), (.float .f64 0)])], (.agg #[(.complex .f64 0 0), (.float .f64 0)])⟩
theorem k195 : Kn e195 := go e195 39026304097428590497687506977134632635564032 (l := [e194, e185, e149]) (cons' k194 (cons' k185 (cons' k149 nil'))) rfl rfl (by kernel_rfl)
noncomputable abbrev e51 : KE := ⟨224, [(.complex .f64 0 0), (.int .i64 1)], (.complex .f64 9223372036854775808 0)⟩
theorem k51 : Kn e51 := go e51 7770675568902916283677847627294075626569627356208558085007249638955617140820834091008 (l := [e50]) (cons' k50 nil') rfl rfl (by kernel_rfl)
noncomputable abbrev e52 : KE := ⟨141, [(.agg #[(.complex .f64 0 0), (.float .f64 0)]), (.int .i64 1)], (.tuple #[(.agg #[(.complex .f64 9223372036854775808 0), (.float .f64 0)]), (.int .i64 0)])⟩
theorem k52 : Kn e52 := go e52 26959946667150639794667015087019630673637144422540572481172329955328 (l := [e51, e44, e49]) (cons' k51 (cons' k44 (cons' k49 nil'))) rfl rfl (by kernel_rfl)
noncomputable abbrev e53 : KE := ⟨75, [(.agg #[(.complex .f64 0 0), (.float .f64 0)]), (.int .i64 1)], (.agg #[(.complex .f64 9223372036854775808 0), (.float .f64 0)])⟩
theorem k53 : Kn e53 := go e53 2787593149816327892691964784081045188345856 (l := [e52]) (cons' k52 nil') rfl rfl (by kernel_rfl)
noncomputable abbrev e199 : KE := ⟨33, [(.int .i64 12), (.agg #[(.complex .f64 0 0), (.float .f64 0)])], (.tuple #[(.agg #[(.complex .f64 0 9223372036854775808), (.float .f64 0)]), (.slice none 0 0), (.int .i64 0)])⟩
theorem k199 : Kn e199 := go e199 113336795588871485358080 (l := [e198, e195, e53, e49]) (cons' k198 (cons' k195 (cons' k53 (cons' k49 nil')))) rfl rfl (by kernel_rfl)
noncomputable abbrev e689 : KE := ⟨12, [], (.bool true)⟩
theorem k689 : Kn e689 := go e689 130370302485407109521182249494786899948240835888268645788767532395645984397680359052398527232 (l := [e688, e687, e680, e662, e654, e442, e421, e365, e339, e269, e252, e232, e48, e219, e215, e212, e211, e208, e199]) (cons' k688 (cons' k687 (cons' k680 (cons' k662 (cons' k654 (cons' k442 (cons' k421 (cons' k365 (cons' k339 (cons' k269 (cons' k252 (cons' k232 (cons' k48 (cons' k219 (cons' k215 (cons' k212 (cons' k211 (cons' k208 (cons' k199 nil'))))))))))))))))))) rfl rfl (by kernel_rfl)
noncomputable abbrev e35 : KE := ⟨31, [(.float .f64 4618760256179416345)], (.int .u64 4618760256179416345)⟩
theorem k35 : Kn e35 := go e35 98304 (l := []) nil' rfl rfl (by kernel_rfl)
noncomputable abbrev e36 : KE := ⟨11, [(.float .f64 4618760256179416345), (.float .f64 4618760256179416345)], (.bool true)⟩
theorem k36 : Kn e36 := go e36 2147581952 (l := [e35]) (cons' k35 nil') rfl rfl (by kernel_rfl)
noncomputable abbrev e33 : KE := ⟨31, [(.float .f64 4618760256179416344)], (.int .u64 4618760256179416344)⟩
theorem k33 : Kn e33 := go e33 98304 (l := []) nil' rfl rfl (by kernel_rfl)
noncomputable abbrev e34 : KE := ⟨11, [(.float .f64 4618760256179416344), (.float .f64 4618760256179416344)], (.bool true)⟩
theorem k34 : Kn e34 := go e34 2147581952 (l := [e33]) (cons' k33 nil') rfl rfl (by kernel_rfl)
noncomputable abbrev e29 : KE := ⟨140, [(.float .f64 4618760256179416345)], (.float .f64 4618760256179416345)⟩
theorem k29 : Kn e29 := go e29 98304 (l := []) nil' rfl rfl (by kernel_rfl)
noncomputable abbrev e28 : KE := ⟨140, [(.float .f64 4618760256179416344)], (.float .f64 4618760256179416344)⟩
theorem k28 : Kn e28 := go e28 98304 (l := []) nil' rfl rfl (by kernel_rfl)
noncomputable abbrev e27 : KE := ⟨218, [(.bool false), (.int .u64 7074237752028441), (.int .i64 (-50))], (.float .f64 4618760256179416345)⟩
theorem k27 : Kn e27 := go e27 98304 (l := []) nil' rfl rfl (by kernel_rfl)
noncomputable abbrev e26 : KE := ⟨218, [(.bool false), (.int .u64 7074237752028440), (.int .i64 (-50))], (.float .f64 4618760256179416344)⟩
theorem k26 : Kn e26 := go e26 98304 (l := []) nil' rfl rfl (by kernel_rfl)
noncomputable abbrev e24 : KE := ⟨138, [(.agg #[(.bool false), (.slice none 0 0), (.int .i64 0)])], (.int .i64 0)⟩
theorem k24 : Kn e24 := go e24 98304 (l := []) nil' rfl rfl (by kernel_rfl)
noncomputable abbrev e25 : KE := ⟨267, [(.agg #[(.bool false), (.slice none 0 0), (.int .i64 0)]), (.int .i64 176)], (.bool true)⟩
theorem k25 : Kn e25 := go e25 348449143727040986586495598010130648629248 (l := [e24]) (cons' k24 nil') rfl rfl (by kernel_rfl)
noncomputable abbrev e21 : KE := ⟨280, [(.slice none 0 0)], (.slice none 0 0)⟩
theorem k21 : Kn e21 := go e21 98304 (l := []) nil' rfl rfl (by kernel_rfl)
noncomputable abbrev e22 : KE := ⟨268, [(.bool false), (.slice none 0 0), (.int .i64 (-176))], (.agg #[(.bool false), (.slice none 0 0), (.int .i64 0)])⟩
theorem k22 : Kn e22 := go e22 1942668892225729070919461906823518906642406839052139521251812409738904285205208596480 (l := [e21]) (cons' k21 nil') rfl rfl (by kernel_rfl)
noncomputable abbrev e23 : KE := ⟨207, [(.agg #[(.bool false), (.slice none 0 0), (.int .i64 0)])], (.agg #[(.bool false), (.slice none 0 0), (.int .i64 0)])⟩
theorem k23 : Kn e23 := go e23 98304 (l := []) nil' rfl rfl (by kernel_rfl)
end Go.Proofs.YtkdcifgnjdfdmaaGreatDoor
