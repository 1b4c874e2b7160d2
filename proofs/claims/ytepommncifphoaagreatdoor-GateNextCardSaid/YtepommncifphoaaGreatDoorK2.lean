/- A part of the proof that GateNext of stetlaw20 answers true at every input: functions read once. Conditions: none. -/
import Derived.Test.YtepommncifphoaaGreatDoorT2
import Derived.KernelRfl
set_option linter.unusedVariables false
set_option linter.unusedSimpArgs false
set_option linter.unusedSectionVars false
namespace Go.Ax
open Go Go.Proofs
set_option maxRecDepth 1000000
theorem k254 : comp tb 123 (bodyOf Tryz.f254) = some c254 := by kernel_rfl
theorem k255 : comp tb 13 (bodyOf Tryz.f255) = some c255 := by kernel_rfl
theorem k256 : comp tb 13 (bodyOf Tryz.f256) = some c256 := by kernel_rfl
theorem k257 : comp tb 7 (bodyOf Tryz.f257) = some c257 := by kernel_rfl
theorem k258 : comp tb 20 (bodyOf Tryz.f258) = some c258 := by kernel_rfl
theorem k259 : comp tb 77 (bodyOf Tryz.f259) = some c259 := by kernel_rfl
theorem k260 : comp tb 43 (bodyOf Tryz.f260) = some c260 := by kernel_rfl
theorem k261 : comp tb 23 (bodyOf Tryz.f261) = some c261 := by kernel_rfl
theorem k262 : comp tb 21 (bodyOf Tryz.f262) = some c262 := by kernel_rfl
theorem k263 : comp tb 66 (bodyOf Tryz.f263) = some c263 := by kernel_rfl
theorem k264 : comp tb 25 (bodyOf Tryz.f264) = some c264 := by kernel_rfl
theorem k265 : comp tb 32 (bodyOf Tryz.f265) = some c265 := by kernel_rfl
theorem k266 : comp tb 3 (bodyOf Tryz.f266) = some c266 := by kernel_rfl
theorem k267 : comp tb 37 (bodyOf Tryz.f267) = some c267 := by kernel_rfl
theorem k268 : comp tb 86 (bodyOf Tryz.f268) = some c268 := by kernel_rfl
theorem k269 : comp tb 33 (bodyOf Tryz.f269) = some c269 := by kernel_rfl
theorem k270 : comp tb 16 (bodyOf Tryz.f270) = some c270 := by kernel_rfl
theorem k271 : comp tb 32 (bodyOf Tryz.f271) = some c271 := by kernel_rfl
theorem k272 : comp tb 80 (bodyOf Tryz.f272) = some c272 := by kernel_rfl
theorem k273 : comp tb 6 (bodyOf Tryz.f273) = some c273 := by kernel_rfl
theorem k274 : comp tb 21 (bodyOf Tryz.f274) = some c274 := by kernel_rfl
theorem k275 : comp tb 26 (bodyOf Tryz.f275) = some c275 := by kernel_rfl
theorem k276 : comp tb 34 (bodyOf Tryz.f276) = some c276 := by kernel_rfl
theorem k277 : comp tb 73 (bodyOf Tryz.f277) = some c277 := by kernel_rfl
theorem k278 : comp tb 11 (bodyOf Tryz.f278) = some c278 := by kernel_rfl
theorem k279 : comp tb 11 (bodyOf Tryz.f279) = some c279 := by kernel_rfl
theorem k280 : comp tb 16 (bodyOf Tryz.f280) = some c280 := by kernel_rfl
theorem k281 : comp tb 16 (bodyOf Tryz.f281) = some c281 := by kernel_rfl
theorem k282 : comp tb 50 (bodyOf Tryz.f282) = some c282 := by kernel_rfl
theorem k283 : comp tb 33 (bodyOf Tryz.f283) = some c283 := by kernel_rfl
theorem k284 : comp tb 78 (bodyOf Tryz.f284) = some c284 := by kernel_rfl
theorem k285 : comp tb 50 (bodyOf Tryz.f285) = some c285 := by kernel_rfl
theorem k286 : comp tb 37 (bodyOf Tryz.f286) = some c286 := by kernel_rfl
theorem k287 : comp tb 52 (bodyOf Tryz.f287) = some c287 := by kernel_rfl
theorem k288 : comp tb 172 (bodyOf Tryz.f288) = some c288 := by kernel_rfl
theorem k289 : comp tb 18 (bodyOf Tryz.f289) = some c289 := by kernel_rfl
theorem k290 : comp tb 7 (bodyOf Tryz.f290) = some c290 := by kernel_rfl
theorem k291 : comp tb 5 (bodyOf Tryz.f291) = some c291 := by kernel_rfl
theorem k292 : comp tb 5 (bodyOf Tryz.f292) = some c292 := by kernel_rfl
theorem k293 : comp tb 94 (bodyOf Tryz.f293) = some c293 := by kernel_rfl
theorem k294 : comp tb 5 (bodyOf Tryz.f294) = some c294 := by kernel_rfl
theorem k295 : comp tb 54 (bodyOf Tryz.f295) = some c295 := by kernel_rfl
theorem k296 : comp tb 15 (bodyOf Tryz.f296) = some c296 := by kernel_rfl
theorem k297 : comp tb 15 (bodyOf Tryz.f297) = some c297 := by kernel_rfl
theorem k298 : comp tb 167 (bodyOf Tryz.f298) = some c298 := by kernel_rfl
theorem k299 : comp tb 102 (bodyOf Tryz.f299) = some c299 := by kernel_rfl
theorem k300 : comp tb 6 (bodyOf Tryz.f300) = some c300 := by kernel_rfl
theorem k301 : comp tb 25 (bodyOf Tryz.f301) = some c301 := by kernel_rfl
theorem k302 : comp tb 4 (bodyOf Tryz.f302) = some c302 := by kernel_rfl
theorem k303 : comp tb 8 (bodyOf Tryz.f303) = some c303 := by kernel_rfl
theorem k304 : comp tb 8 (bodyOf Tryz.f304) = some c304 := by kernel_rfl
theorem k305 : comp tb 14 (bodyOf Tryz.f305) = some c305 := by kernel_rfl
theorem k306 : comp tb 14 (bodyOf Tryz.f306) = some c306 := by kernel_rfl
end Go.Ax
