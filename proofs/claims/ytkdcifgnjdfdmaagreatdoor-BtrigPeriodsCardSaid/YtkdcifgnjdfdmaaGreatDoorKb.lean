/- The fast machine's text of each function is the given program's: the second half; how a run of a closed call tells of the model's calls. No condition. -/
import Derived.Test.YtkdcifgnjdfdmaaGreatDoorKa
open Go AM
namespace Go.Proofs.YtkdcifgnjdfdmaaGreatDoor
set_option maxRecDepth 100000
theorem ok174 : toFF Tryz.prog Tryz.f174 = some AM.f174 := by kernel_rfl
theorem ok175 : toFF Tryz.prog Tryz.f175 = some AM.f175 := by kernel_rfl
theorem ok176 : toFF Tryz.prog Tryz.f176 = some AM.f176 := by kernel_rfl
theorem ok177 : toFF Tryz.prog Tryz.f177 = some AM.f177 := by kernel_rfl
theorem ok178 : toFF Tryz.prog Tryz.f178 = some AM.f178 := by kernel_rfl
theorem ok179 : toFF Tryz.prog Tryz.f179 = some AM.f179 := by kernel_rfl
theorem ok180 : toFF Tryz.prog Tryz.f180 = some AM.f180 := by kernel_rfl
theorem ok181 : toFF Tryz.prog Tryz.f181 = some AM.f181 := by kernel_rfl
theorem ok182 : toFF Tryz.prog Tryz.f182 = some AM.f182 := by kernel_rfl
theorem ok183 : toFF Tryz.prog Tryz.f183 = some AM.f183 := by kernel_rfl
theorem ok184 : toFF Tryz.prog Tryz.f184 = some AM.f184 := by kernel_rfl
theorem ok185 : toFF Tryz.prog Tryz.f185 = some AM.f185 := by kernel_rfl
theorem ok186 : toFF Tryz.prog Tryz.f186 = some AM.f186 := by kernel_rfl
theorem ok187 : toFF Tryz.prog Tryz.f187 = some AM.f187 := by kernel_rfl
theorem ok188 : toFF Tryz.prog Tryz.f188 = some AM.f188 := by kernel_rfl
theorem ok189 : toFF Tryz.prog Tryz.f189 = some AM.f189 := by kernel_rfl
theorem ok190 : toFF Tryz.prog Tryz.f190 = some AM.f190 := by kernel_rfl
theorem ok191 : toFF Tryz.prog Tryz.f191 = some AM.f191 := by kernel_rfl
theorem ok192 : toFF Tryz.prog Tryz.f192 = some AM.f192 := by kernel_rfl
theorem ok193 : toFF Tryz.prog Tryz.f193 = some AM.f193 := by kernel_rfl
theorem ok194 : toFF Tryz.prog Tryz.f194 = some AM.f194 := by kernel_rfl
theorem ok195 : toFF Tryz.prog Tryz.f195 = some AM.f195 := by kernel_rfl
theorem ok196 : toFF Tryz.prog Tryz.f196 = some AM.f196 := by kernel_rfl
theorem ok198 : toFF Tryz.prog Tryz.f198 = some AM.f198 := by kernel_rfl
theorem ok202 : toFF Tryz.prog Tryz.f202 = some AM.f202 := by kernel_rfl
theorem ok207 : toFF Tryz.prog Tryz.f207 = some AM.f207 := by kernel_rfl
theorem ok214 : toFF Tryz.prog Tryz.f214 = some AM.f214 := by kernel_rfl
theorem ok215 : toFF Tryz.prog Tryz.f215 = some AM.f215 := by kernel_rfl
theorem ok216 : toFF Tryz.prog Tryz.f216 = some AM.f216 := by kernel_rfl
theorem ok218 : toFF Tryz.prog Tryz.f218 = some AM.f218 := by kernel_rfl
theorem ok219 : toFF Tryz.prog Tryz.f219 = some AM.f219 := by kernel_rfl
theorem ok220 : toFF Tryz.prog Tryz.f220 = some AM.f220 := by kernel_rfl
theorem ok221 : toFF Tryz.prog Tryz.f221 = some AM.f221 := by kernel_rfl
theorem ok222 : toFF Tryz.prog Tryz.f222 = some AM.f222 := by kernel_rfl
theorem ok223 : toFF Tryz.prog Tryz.f223 = some AM.f223 := by kernel_rfl
theorem ok224 : toFF Tryz.prog Tryz.f224 = some AM.f224 := by kernel_rfl
theorem ok225 : toFF Tryz.prog Tryz.f225 = some AM.f225 := by kernel_rfl
theorem ok226 : toFF Tryz.prog Tryz.f226 = some AM.f226 := by kernel_rfl
theorem ok227 : toFF Tryz.prog Tryz.f227 = some AM.f227 := by kernel_rfl
theorem ok228 : toFF Tryz.prog Tryz.f228 = some AM.f228 := by kernel_rfl
theorem ok230 : toFF Tryz.prog Tryz.f230 = some AM.f230 := by kernel_rfl
theorem ok231 : toFF Tryz.prog Tryz.f231 = some AM.f231 := by kernel_rfl
theorem ok232 : toFF Tryz.prog Tryz.f232 = some AM.f232 := by kernel_rfl
theorem ok233 : toFF Tryz.prog Tryz.f233 = some AM.f233 := by kernel_rfl
theorem ok234 : toFF Tryz.prog Tryz.f234 = some AM.f234 := by kernel_rfl
theorem ok235 : toFF Tryz.prog Tryz.f235 = some AM.f235 := by kernel_rfl
theorem ok236 : toFF Tryz.prog Tryz.f236 = some AM.f236 := by kernel_rfl
theorem ok237 : toFF Tryz.prog Tryz.f237 = some AM.f237 := by kernel_rfl
theorem ok238 : toFF Tryz.prog Tryz.f238 = some AM.f238 := by kernel_rfl
theorem ok242 : toFF Tryz.prog Tryz.f242 = some AM.f242 := by kernel_rfl
theorem ok243 : toFF Tryz.prog Tryz.f243 = some AM.f243 := by kernel_rfl
theorem ok244 : toFF Tryz.prog Tryz.f244 = some AM.f244 := by kernel_rfl
theorem ok245 : toFF Tryz.prog Tryz.f245 = some AM.f245 := by kernel_rfl
theorem ok246 : toFF Tryz.prog Tryz.f246 = some AM.f246 := by kernel_rfl
theorem ok247 : toFF Tryz.prog Tryz.f247 = some AM.f247 := by kernel_rfl
theorem ok248 : toFF Tryz.prog Tryz.f248 = some AM.f248 := by kernel_rfl
theorem ok249 : toFF Tryz.prog Tryz.f249 = some AM.f249 := by kernel_rfl
theorem ok250 : toFF Tryz.prog Tryz.f250 = some AM.f250 := by kernel_rfl
theorem ok251 : toFF Tryz.prog Tryz.f251 = some AM.f251 := by kernel_rfl
theorem ok252 : toFF Tryz.prog Tryz.f252 = some AM.f252 := by kernel_rfl
theorem ok253 : toFF Tryz.prog Tryz.f253 = some AM.f253 := by kernel_rfl
theorem ok254 : toFF Tryz.prog Tryz.f254 = some AM.f254 := by kernel_rfl
theorem ok255 : toFF Tryz.prog Tryz.f255 = some AM.f255 := by kernel_rfl
theorem ok256 : toFF Tryz.prog Tryz.f256 = some AM.f256 := by kernel_rfl
theorem ok257 : toFF Tryz.prog Tryz.f257 = some AM.f257 := by kernel_rfl
theorem ok258 : toFF Tryz.prog Tryz.f258 = some AM.f258 := by kernel_rfl
theorem ok259 : toFF Tryz.prog Tryz.f259 = some AM.f259 := by kernel_rfl
theorem ok260 : toFF Tryz.prog Tryz.f260 = some AM.f260 := by kernel_rfl
theorem ok261 : toFF Tryz.prog Tryz.f261 = some AM.f261 := by kernel_rfl
theorem ok262 : toFF Tryz.prog Tryz.f262 = some AM.f262 := by kernel_rfl
theorem ok263 : toFF Tryz.prog Tryz.f263 = some AM.f263 := by kernel_rfl
theorem ok266 : toFF Tryz.prog Tryz.f266 = some AM.f266 := by kernel_rfl
theorem ok267 : toFF Tryz.prog Tryz.f267 = some AM.f267 := by kernel_rfl
theorem ok268 : toFF Tryz.prog Tryz.f268 = some AM.f268 := by kernel_rfl
theorem ok271 : toFF Tryz.prog Tryz.f271 = some AM.f271 := by kernel_rfl
theorem ok272 : toFF Tryz.prog Tryz.f272 = some AM.f272 := by kernel_rfl
theorem ok273 : toFF Tryz.prog Tryz.f273 = some AM.f273 := by kernel_rfl
theorem ok274 : toFF Tryz.prog Tryz.f274 = some AM.f274 := by kernel_rfl
theorem ok278 : toFF Tryz.prog Tryz.f278 = some AM.f278 := by kernel_rfl
theorem ok279 : toFF Tryz.prog Tryz.f279 = some AM.f279 := by kernel_rfl
theorem ok280 : toFF Tryz.prog Tryz.f280 = some AM.f280 := by kernel_rfl
theorem ok281 : toFF Tryz.prog Tryz.f281 = some AM.f281 := by kernel_rfl
theorem ok282 : toFF Tryz.prog Tryz.f282 = some AM.f282 := by kernel_rfl
theorem ok283 : toFF Tryz.prog Tryz.f283 = some AM.f283 := by kernel_rfl
theorem ok284 : toFF Tryz.prog Tryz.f284 = some AM.f284 := by kernel_rfl
theorem ok285 : toFF Tryz.prog Tryz.f285 = some AM.f285 := by kernel_rfl
theorem ok286 : toFF Tryz.prog Tryz.f286 = some AM.f286 := by kernel_rfl
theorem ok287 : toFF Tryz.prog Tryz.f287 = some AM.f287 := by kernel_rfl
theorem ok288 : toFF Tryz.prog Tryz.f288 = some AM.f288 := by kernel_rfl
theorem ok289 : toFF Tryz.prog Tryz.f289 = some AM.f289 := by kernel_rfl
theorem ok290 : toFF Tryz.prog Tryz.f290 = some AM.f290 := by kernel_rfl
theorem ok291 : toFF Tryz.prog Tryz.f291 = some AM.f291 := by kernel_rfl
theorem ok292 : toFF Tryz.prog Tryz.f292 = some AM.f292 := by kernel_rfl
theorem ok293 : toFF Tryz.prog Tryz.f293 = some AM.f293 := by kernel_rfl
theorem ok294 : toFF Tryz.prog Tryz.f294 = some AM.f294 := by kernel_rfl
theorem ok295 : toFF Tryz.prog Tryz.f295 = some AM.f295 := by kernel_rfl
theorem ok296 : toFF Tryz.prog Tryz.f296 = some AM.f296 := by kernel_rfl
theorem ok297 : toFF Tryz.prog Tryz.f297 = some AM.f297 := by kernel_rfl
theorem ok300 : toFF Tryz.prog Tryz.f300 = some AM.f300 := by kernel_rfl
theorem ok301 : toFF Tryz.prog Tryz.f301 = some AM.f301 := by kernel_rfl
theorem ok302 : toFF Tryz.prog Tryz.f302 = some AM.f302 := by kernel_rfl
theorem ok303 : toFF Tryz.prog Tryz.f303 = some AM.f303 := by kernel_rfl
theorem ok304 : toFF Tryz.prog Tryz.f304 = some AM.f304 := by kernel_rfl
theorem ok305 : toFF Tryz.prog Tryz.f305 = some AM.f305 := by kernel_rfl
theorem ok306 : toFF Tryz.prog Tryz.f306 = some AM.f306 := by kernel_rfl
theorem ok307 : toFF Tryz.prog Tryz.f307 = some AM.f307 := by kernel_rfl
theorem ok308 : toFF Tryz.prog Tryz.f308 = some AM.f308 := by kernel_rfl
theorem ok310 : toFF Tryz.prog Tryz.f310 = some AM.f310 := by kernel_rfl
theorem ok311 : toFF Tryz.prog Tryz.f311 = some AM.f311 := by kernel_rfl
theorem ok312 : toFF Tryz.prog Tryz.f312 = some AM.f312 := by kernel_rfl
theorem ok313 : toFF Tryz.prog Tryz.f313 = some AM.f313 := by kernel_rfl
theorem ok314 : toFF Tryz.prog Tryz.f314 = some AM.f314 := by kernel_rfl
theorem ok315 : toFF Tryz.prog Tryz.f315 = some AM.f315 := by kernel_rfl
theorem ok316 : toFF Tryz.prog Tryz.f316 = some AM.f316 := by kernel_rfl
theorem ok318 : toFF Tryz.prog Tryz.f318 = some AM.f318 := by kernel_rfl
theorem ok320 : toFF Tryz.prog Tryz.f320 = some AM.f320 := by kernel_rfl
theorem ok321 : toFF Tryz.prog Tryz.f321 = some AM.f321 := by kernel_rfl
theorem ok322 : toFF Tryz.prog Tryz.f322 = some AM.f322 := by kernel_rfl
theorem ok331 : toFF Tryz.prog Tryz.f331 = some AM.f331 := by kernel_rfl
theorem ok332 : toFF Tryz.prog Tryz.f332 = some AM.f332 := by kernel_rfl
theorem ok333 : toFF Tryz.prog Tryz.f333 = some AM.f333 := by kernel_rfl
theorem ok334 : toFF Tryz.prog Tryz.f334 = some AM.f334 := by kernel_rfl
theorem ok335 : toFF Tryz.prog Tryz.f335 = some AM.f335 := by kernel_rfl
theorem ok336 : toFF Tryz.prog Tryz.f336 = some AM.f336 := by kernel_rfl
theorem ok337 : toFF Tryz.prog Tryz.f337 = some AM.f337 := by kernel_rfl
theorem ok338 : toFF Tryz.prog Tryz.f338 = some AM.f338 := by kernel_rfl
theorem ok339 : toFF Tryz.prog Tryz.f339 = some AM.f339 := by kernel_rfl
theorem ok340 : toFF Tryz.prog Tryz.f340 = some AM.f340 := by kernel_rfl
theorem ok341 : toFF Tryz.prog Tryz.f341 = some AM.f341 := by kernel_rfl
theorem ok342 : toFF Tryz.prog Tryz.f342 = some AM.f342 := by kernel_rfl
theorem ok345 : toFF Tryz.prog Tryz.f345 = some AM.f345 := by kernel_rfl
theorem ok347 : toFF Tryz.prog Tryz.f347 = some AM.f347 := by kernel_rfl
theorem ok352 : toFF Tryz.prog Tryz.f352 = some AM.f352 := by kernel_rfl
theorem ok356 : toFF Tryz.prog Tryz.f356 = some AM.f356 := by kernel_rfl
theorem ok357 : toFF Tryz.prog Tryz.f357 = some AM.f357 := by kernel_rfl
theorem ok359 : toFF Tryz.prog Tryz.f359 = some AM.f359 := by kernel_rfl
theorem ok360 : toFF Tryz.prog Tryz.f360 = some AM.f360 := by kernel_rfl
theorem ok361 : toFF Tryz.prog Tryz.f361 = some AM.f361 := by kernel_rfl
theorem ok370 : toFF Tryz.prog Tryz.f370 = some AM.f370 := by kernel_rfl
theorem ok374 : toFF Tryz.prog Tryz.f374 = some AM.f374 := by kernel_rfl
theorem ok375 : toFF Tryz.prog Tryz.f375 = some AM.f375 := by kernel_rfl
theorem ok376 : toFF Tryz.prog Tryz.f376 = some AM.f376 := by kernel_rfl
theorem ok386 : toFF Tryz.prog Tryz.f386 = some AM.f386 := by kernel_rfl
theorem ok387 : toFF Tryz.prog Tryz.f387 = some AM.f387 := by kernel_rfl
theorem fits (f : FuncId) : Fit Tryz.prog f (fnF f) := (fit_node (fit_node (fit_node (fit_node (fit_node (fit_node (fit_node (fit_node (fit_node (fit_leaf Tryz.func387 ok387) (fit_leaf Tryz.func386 ok386)) (fit_leaf Tryz.func376 ok376)) (fit_node (fit_leaf Tryz.func375 ok375) (fit_leaf Tryz.func374 ok374))) (fit_node (fit_node (fit_leaf Tryz.func370 ok370) (fit_leaf Tryz.func361 ok361)) (fit_node (fit_leaf Tryz.func360 ok360) (fit_leaf Tryz.func359 ok359)))) (fit_node (fit_node (fit_node (fit_node (fit_leaf Tryz.func357 ok357) (fit_leaf Tryz.func356 ok356)) (fit_leaf Tryz.func352 ok352)) (fit_node (fit_leaf Tryz.func347 ok347) (fit_leaf Tryz.func345 ok345))) (fit_node (fit_node (fit_leaf Tryz.func342 ok342) (fit_leaf Tryz.func341 ok341)) (fit_node (fit_leaf Tryz.func340 ok340) (fit_leaf Tryz.func339 ok339))))) (fit_node (fit_node (fit_node (fit_node (fit_node (fit_leaf Tryz.func338 ok338) (fit_leaf Tryz.func337 ok337)) (fit_leaf Tryz.func336 ok336)) (fit_node (fit_leaf Tryz.func335 ok335) (fit_leaf Tryz.func334 ok334))) (fit_node (fit_node (fit_leaf Tryz.func333 ok333) (fit_leaf Tryz.func332 ok332)) (fit_node (fit_leaf Tryz.func331 ok331) (fit_leaf Tryz.func322 ok322)))) (fit_node (fit_node (fit_node (fit_node (fit_leaf Tryz.func321 ok321) (fit_leaf Tryz.func320 ok320)) (fit_leaf Tryz.func318 ok318)) (fit_node (fit_leaf Tryz.func316 ok316) (fit_leaf Tryz.func315 ok315))) (fit_node (fit_node (fit_leaf Tryz.func314 ok314) (fit_leaf Tryz.func313 ok313)) (fit_node (fit_leaf Tryz.func312 ok312) (fit_leaf Tryz.func311 ok311)))))) (fit_node (fit_node (fit_node (fit_node (fit_node (fit_node (fit_leaf Tryz.func310 ok310) (fit_leaf Tryz.func308 ok308)) (fit_leaf Tryz.func307 ok307)) (fit_node (fit_leaf Tryz.func306 ok306) (fit_leaf Tryz.func305 ok305))) (fit_node (fit_node (fit_leaf Tryz.func304 ok304) (fit_leaf Tryz.func303 ok303)) (fit_node (fit_leaf Tryz.func302 ok302) (fit_leaf Tryz.func301 ok301)))) (fit_node (fit_node (fit_node (fit_node (fit_leaf Tryz.func300 ok300) (fit_leaf Tryz.func297 ok297)) (fit_leaf Tryz.func296 ok296)) (fit_node (fit_leaf Tryz.func295 ok295) (fit_leaf Tryz.func294 ok294))) (fit_node (fit_node (fit_leaf Tryz.func293 ok293) (fit_leaf Tryz.func292 ok292)) (fit_node (fit_leaf Tryz.func291 ok291) (fit_leaf Tryz.func290 ok290))))) (fit_node (fit_node (fit_node (fit_node (fit_node (fit_leaf Tryz.func289 ok289) (fit_leaf Tryz.func288 ok288)) (fit_leaf Tryz.func287 ok287)) (fit_node (fit_leaf Tryz.func286 ok286) (fit_leaf Tryz.func285 ok285))) (fit_node (fit_node (fit_leaf Tryz.func284 ok284) (fit_leaf Tryz.func283 ok283)) (fit_node (fit_leaf Tryz.func282 ok282) (fit_leaf Tryz.func281 ok281)))) (fit_node (fit_node (fit_node (fit_node (fit_leaf Tryz.func280 ok280) (fit_leaf Tryz.func279 ok279)) (fit_leaf Tryz.func278 ok278)) (fit_node (fit_leaf Tryz.func274 ok274) (fit_leaf Tryz.func273 ok273))) (fit_node (fit_node (fit_leaf Tryz.func272 ok272) (fit_leaf Tryz.func271 ok271)) (fit_node (fit_leaf Tryz.func268 ok268) (fit_leaf Tryz.func267 ok267))))))) (fit_node (fit_node (fit_node (fit_node (fit_node (fit_node (fit_node (fit_leaf Tryz.func266 ok266) (fit_leaf Tryz.func263 ok263)) (fit_leaf Tryz.func262 ok262)) (fit_node (fit_leaf Tryz.func261 ok261) (fit_leaf Tryz.func260 ok260))) (fit_node (fit_node (fit_leaf Tryz.func259 ok259) (fit_leaf Tryz.func258 ok258)) (fit_node (fit_leaf Tryz.func257 ok257) (fit_leaf Tryz.func256 ok256)))) (fit_node (fit_node (fit_node (fit_node (fit_leaf Tryz.func255 ok255) (fit_leaf Tryz.func254 ok254)) (fit_leaf Tryz.func253 ok253)) (fit_node (fit_leaf Tryz.func252 ok252) (fit_leaf Tryz.func251 ok251))) (fit_node (fit_node (fit_leaf Tryz.func250 ok250) (fit_leaf Tryz.func249 ok249)) (fit_node (fit_leaf Tryz.func248 ok248) (fit_leaf Tryz.func247 ok247))))) (fit_node (fit_node (fit_node (fit_node (fit_node (fit_leaf Tryz.func246 ok246) (fit_leaf Tryz.func245 ok245)) (fit_leaf Tryz.func244 ok244)) (fit_node (fit_leaf Tryz.func243 ok243) (fit_leaf Tryz.func242 ok242))) (fit_node (fit_node (fit_leaf Tryz.func238 ok238) (fit_leaf Tryz.func237 ok237)) (fit_node (fit_leaf Tryz.func236 ok236) (fit_leaf Tryz.func235 ok235)))) (fit_node (fit_node (fit_node (fit_node (fit_leaf Tryz.func234 ok234) (fit_leaf Tryz.func233 ok233)) (fit_leaf Tryz.func232 ok232)) (fit_node (fit_leaf Tryz.func231 ok231) (fit_leaf Tryz.func230 ok230))) (fit_node (fit_node (fit_leaf Tryz.func228 ok228) (fit_leaf Tryz.func227 ok227)) (fit_node (fit_leaf Tryz.func226 ok226) (fit_leaf Tryz.func225 ok225)))))) (fit_node (fit_node (fit_node (fit_node (fit_node (fit_node (fit_leaf Tryz.func224 ok224) (fit_leaf Tryz.func223 ok223)) (fit_leaf Tryz.func222 ok222)) (fit_node (fit_leaf Tryz.func221 ok221) (fit_leaf Tryz.func220 ok220))) (fit_node (fit_node (fit_leaf Tryz.func219 ok219) (fit_leaf Tryz.func218 ok218)) (fit_node (fit_leaf Tryz.func216 ok216) (fit_leaf Tryz.func215 ok215)))) (fit_node (fit_node (fit_node (fit_node (fit_leaf Tryz.func214 ok214) (fit_leaf Tryz.func207 ok207)) (fit_leaf Tryz.func202 ok202)) (fit_node (fit_leaf Tryz.func198 ok198) (fit_leaf Tryz.func196 ok196))) (fit_node (fit_node (fit_leaf Tryz.func195 ok195) (fit_leaf Tryz.func194 ok194)) (fit_node (fit_leaf Tryz.func193 ok193) (fit_leaf Tryz.func192 ok192))))) (fit_node (fit_node (fit_node (fit_node (fit_node (fit_leaf Tryz.func191 ok191) (fit_leaf Tryz.func190 ok190)) (fit_leaf Tryz.func189 ok189)) (fit_node (fit_leaf Tryz.func188 ok188) (fit_leaf Tryz.func187 ok187))) (fit_node (fit_node (fit_leaf Tryz.func186 ok186) (fit_leaf Tryz.func185 ok185)) (fit_node (fit_leaf Tryz.func184 ok184) (fit_leaf Tryz.func183 ok183)))) (fit_node (fit_node (fit_node (fit_node (fit_leaf Tryz.func182 ok182) (fit_leaf Tryz.func181 ok181)) (fit_leaf Tryz.func180 ok180)) (fit_node (fit_leaf Tryz.func179 ok179) (fit_leaf Tryz.func178 ok178))) (fit_node (fit_node (fit_leaf Tryz.func177 ok177) (fit_leaf Tryz.func176 ok176)) (fit_node (fit_leaf Tryz.func175 ok175) (fit_leaf Tryz.func174 ok174)))))))) (fit_node (fit_node (fit_node (fit_node (fit_node (fit_node (fit_node (fit_node (fit_leaf Tryz.func173 ok173) (fit_leaf Tryz.func172 ok172)) (fit_leaf Tryz.func171 ok171)) (fit_node (fit_leaf Tryz.func170 ok170) (fit_leaf Tryz.func169 ok169))) (fit_node (fit_node (fit_leaf Tryz.func168 ok168) (fit_leaf Tryz.func167 ok167)) (fit_node (fit_leaf Tryz.func166 ok166) (fit_leaf Tryz.func165 ok165)))) (fit_node (fit_node (fit_node (fit_node (fit_leaf Tryz.func164 ok164) (fit_leaf Tryz.func163 ok163)) (fit_leaf Tryz.func158 ok158)) (fit_node (fit_leaf Tryz.func157 ok157) (fit_leaf Tryz.func156 ok156))) (fit_node (fit_node (fit_leaf Tryz.func155 ok155) (fit_leaf Tryz.func154 ok154)) (fit_node (fit_leaf Tryz.func153 ok153) (fit_leaf Tryz.func152 ok152))))) (fit_node (fit_node (fit_node (fit_node (fit_node (fit_leaf Tryz.func151 ok151) (fit_leaf Tryz.func150 ok150)) (fit_leaf Tryz.func149 ok149)) (fit_node (fit_leaf Tryz.func148 ok148) (fit_leaf Tryz.func145 ok145))) (fit_node (fit_node (fit_leaf Tryz.func144 ok144) (fit_leaf Tryz.func143 ok143)) (fit_node (fit_leaf Tryz.func142 ok142) (fit_leaf Tryz.func141 ok141)))) (fit_node (fit_node (fit_node (fit_node (fit_leaf Tryz.func140 ok140) (fit_leaf Tryz.func139 ok139)) (fit_leaf Tryz.func138 ok138)) (fit_node (fit_leaf Tryz.func137 ok137) (fit_leaf Tryz.func135 ok135))) (fit_node (fit_node (fit_leaf Tryz.func133 ok133) (fit_leaf Tryz.func131 ok131)) (fit_node (fit_leaf Tryz.func130 ok130) (fit_leaf Tryz.func129 ok129)))))) (fit_node (fit_node (fit_node (fit_node (fit_node (fit_node (fit_leaf Tryz.func128 ok128) (fit_leaf Tryz.func127 ok127)) (fit_leaf Tryz.func126 ok126)) (fit_node (fit_leaf Tryz.func125 ok125) (fit_leaf Tryz.func124 ok124))) (fit_node (fit_node (fit_leaf Tryz.func123 ok123) (fit_leaf Tryz.func122 ok122)) (fit_node (fit_leaf Tryz.func121 ok121) (fit_leaf Tryz.func120 ok120)))) (fit_node (fit_node (fit_node (fit_node (fit_leaf Tryz.func119 ok119) (fit_leaf Tryz.func118 ok118)) (fit_leaf Tryz.func117 ok117)) (fit_node (fit_leaf Tryz.func116 ok116) (fit_leaf Tryz.func115 ok115))) (fit_node (fit_node (fit_leaf Tryz.func113 ok113) (fit_leaf Tryz.func112 ok112)) (fit_node (fit_leaf Tryz.func111 ok111) (fit_leaf Tryz.func110 ok110))))) (fit_node (fit_node (fit_node (fit_node (fit_node (fit_leaf Tryz.func109 ok109) (fit_leaf Tryz.func108 ok108)) (fit_leaf Tryz.func107 ok107)) (fit_node (fit_leaf Tryz.func105 ok105) (fit_leaf Tryz.func104 ok104))) (fit_node (fit_node (fit_leaf Tryz.func103 ok103) (fit_leaf Tryz.func102 ok102)) (fit_node (fit_leaf Tryz.func101 ok101) (fit_leaf Tryz.func100 ok100)))) (fit_node (fit_node (fit_node (fit_node (fit_leaf Tryz.func99 ok99) (fit_leaf Tryz.func97 ok97)) (fit_leaf Tryz.func96 ok96)) (fit_node (fit_leaf Tryz.func95 ok95) (fit_leaf Tryz.func94 ok94))) (fit_node (fit_node (fit_leaf Tryz.func93 ok93) (fit_leaf Tryz.func92 ok92)) (fit_node (fit_leaf Tryz.func91 ok91) (fit_leaf Tryz.func90 ok90))))))) (fit_node (fit_node (fit_node (fit_node (fit_node (fit_node (fit_node (fit_leaf Tryz.func89 ok89) (fit_leaf Tryz.func88 ok88)) (fit_leaf Tryz.func87 ok87)) (fit_node (fit_leaf Tryz.func86 ok86) (fit_leaf Tryz.func85 ok85))) (fit_node (fit_node (fit_leaf Tryz.func82 ok82) (fit_leaf Tryz.func79 ok79)) (fit_node (fit_leaf Tryz.func76 ok76) (fit_leaf Tryz.func75 ok75)))) (fit_node (fit_node (fit_node (fit_node (fit_leaf Tryz.func73 ok73) (fit_leaf Tryz.func72 ok72)) (fit_leaf Tryz.func71 ok71)) (fit_node (fit_leaf Tryz.func70 ok70) (fit_leaf Tryz.func69 ok69))) (fit_node (fit_node (fit_leaf Tryz.func68 ok68) (fit_leaf Tryz.func67 ok67)) (fit_node (fit_leaf Tryz.func66 ok66) (fit_leaf Tryz.func65 ok65))))) (fit_node (fit_node (fit_node (fit_node (fit_node (fit_leaf Tryz.func64 ok64) (fit_leaf Tryz.func63 ok63)) (fit_leaf Tryz.func62 ok62)) (fit_node (fit_leaf Tryz.func61 ok61) (fit_leaf Tryz.func60 ok60))) (fit_node (fit_node (fit_leaf Tryz.func59 ok59) (fit_leaf Tryz.func58 ok58)) (fit_node (fit_leaf Tryz.func57 ok57) (fit_leaf Tryz.func56 ok56)))) (fit_node (fit_node (fit_node (fit_node (fit_leaf Tryz.func55 ok55) (fit_leaf Tryz.func54 ok54)) (fit_leaf Tryz.func53 ok53)) (fit_node (fit_leaf Tryz.func52 ok52) (fit_leaf Tryz.func49 ok49))) (fit_node (fit_node (fit_leaf Tryz.func48 ok48) (fit_leaf Tryz.func47 ok47)) (fit_node (fit_leaf Tryz.func46 ok46) (fit_leaf Tryz.func45 ok45)))))) (fit_node (fit_node (fit_node (fit_node (fit_node (fit_node (fit_leaf Tryz.func44 ok44) (fit_leaf Tryz.func43 ok43)) (fit_leaf Tryz.func42 ok42)) (fit_node (fit_leaf Tryz.func41 ok41) (fit_leaf Tryz.func40 ok40))) (fit_node (fit_node (fit_leaf Tryz.func39 ok39) (fit_leaf Tryz.func38 ok38)) (fit_node (fit_leaf Tryz.func37 ok37) (fit_leaf Tryz.func36 ok36)))) (fit_node (fit_node (fit_node (fit_node (fit_leaf Tryz.func35 ok35) (fit_leaf Tryz.func34 ok34)) (fit_leaf Tryz.func33 ok33)) (fit_node (fit_leaf Tryz.func31 ok31) (fit_leaf Tryz.func30 ok30))) (fit_node (fit_node (fit_leaf Tryz.func29 ok29) (fit_leaf Tryz.func28 ok28)) (fit_node (fit_leaf Tryz.func27 ok27) (fit_leaf Tryz.func26 ok26))))) (fit_node (fit_node (fit_node (fit_node (fit_node (fit_leaf Tryz.func24 ok24) (fit_leaf Tryz.func21 ok21)) (fit_leaf Tryz.func20 ok20)) (fit_node (fit_leaf Tryz.func19 ok19) (fit_leaf Tryz.func18 ok18))) (fit_node (fit_node (fit_leaf Tryz.func17 ok17) (fit_leaf Tryz.func14 ok14)) (fit_node (fit_leaf Tryz.func13 ok13) (fit_leaf Tryz.func12 ok12)))) (fit_node (fit_node (fit_node (fit_node (fit_leaf Tryz.func11 ok11) (fit_leaf Tryz.func10 ok10)) (fit_leaf Tryz.func9 ok9)) (fit_node (fit_leaf Tryz.func8 ok8) (fit_leaf Tryz.func7 ok7))) (fit_node (fit_node (fit_leaf Tryz.func6 ok6) (fit_leaf Tryz.func5 ok5)) (fit_node (fit_leaf Tryz.func4 ok4) (fit_leaf Tryz.func3 ok3)))))))))
noncomputable def tX (mask : Nat) (l : List KE) : FTab := ⟨fnF, stubX 15 16 mask l⟩
theorem tX_ok (mask : Nat) (l : List KE) : FTabOK Tryz.prog (tX mask l) := ⟨fun f ff h => fits f ff h⟩
theorem x16 (b : Nat) : pureRun Tryz.prog (callFunc 16 #[.float .f64 b]) = some (.value (.int .u64 (Int.ofNat b))) := by kernel_rfl
theorem x15 (b : Nat) : pureRun Tryz.prog (callFunc 15 #[.int .u64 (Int.ofNat b)]) = some (.value (.float .f64 b)) := by kernel_rfl
theorem mixed : Tryz.prog.follows .mixedOrders = true := by kernel_rfl
/-- A call that is known, whatever the type is by which the table of bits lies in memory. -/
abbrev Kn (x : KE) : Prop := ∀ e : TypeId, Known e Tryz.prog x.f x.args x.v
abbrev Ks (l : List KE) : Prop := ∀ e : TypeId, AllK e Tryz.prog l
theorem nil' : Ks [] := fun _ => allK_nil
theorem cons' {x : KE} {l : List KE} (h : Kn x) (hl : Ks l) : Ks (x :: l) := fun e => allK_cons (h e) (hl e)
theorem go (x : KE) (mask : Nat) {l : List KE} (hl : Ks l) (ha : x.args.all plain = true) (hv : plain x.v = true) (hr : AM.valOf (callF Tryz.prog (tX mask l) 100000 400 x.f x.args hE) = some x.v) : Kn x :=
  fun e => known_run mixed (tX_ok mask l) (stubX_ok x16 x15 (hl e)) ha hv hr
noncomputable def t0 : FTab := ⟨fnF, fun _ _ _ => none⟩
theorem goT (x : KE) (ha : x.args.all plain = true) (hv : plain x.v = true) (hr : ∀ e, AM.valRow (callF Tryz.prog t0 100000 400 x.f x.args (hT e)) = some (x.v, some ⟨bits32.toList, e, 0⟩)) : Kn x :=
  fun e => known1_run mixed ⟨fun f ff h => fits f ff h⟩ told_none ha hv (hr e)
end Go.Proofs.YtkdcifgnjdfdmaaGreatDoor
