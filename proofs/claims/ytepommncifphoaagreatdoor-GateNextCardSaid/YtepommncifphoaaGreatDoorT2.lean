/- A part of the proof that GateNext of stetlaw20 answers true at every input: functions read once. Conditions: none. -/
import Derived.Test.YtepommncifphoaaGreatDoorTab
import Derived.Test.YtepommncifphoaaGreatDoorT0
import Derived.Test.YtepommncifphoaaGreatDoorT1
set_option linter.unusedVariables false
set_option linter.unusedSimpArgs false
set_option linter.unusedSectionVars false
namespace Go.Ax
open Go Go.Proofs
set_option maxRecDepth 1000000
noncomputable section
def c254 : Op8 := (oVal (fMove (kon (.bool false))) S4 <|
  sBad)
def c255 : Op8 := (oVal (fMove (kon (.str []))) S4 <|
  (thenF (oVal (fMove G0) S5 <|
  oVal (fMove G1) S6 <|
  oCall 49 (fArgs [G5, G6]) S7 <|
  (sCond G7 (oVal (fMove G0) S8 <|
  oVal (fMove G1) S9 <|
  oVal (fLenS G9) S10 <|
  oVal (fSlS G8 (some G10) none) S11 <|
  oVal (fMove G11) S4 <|
  sRet)
  oEnd))
  (oVal (fMove G0) S12 <|
  oVal (fMove G12) S4 <|
  sRet)))
def c256 : Op8 := (oVal (fMove (kon (.int .i32 0))) S2 <|
  (thenF (oVal (fMove G0) S3 <|
  oVal (fInt leI (kon (.int .i32 65)) G3) S4 <|
  oVal (fMove G4) S5 <|
  oGval (wntF G5 true) (fMove G0) S6 <|
  oGval (wntF G5 true) (fInt leI G6 (kon (.int .i32 90))) S7 <|
  oVal (fPick G5 G7 (kon (.bool false))) S8 <|
  (sCond G8 (oVal (fMove G0) S9 <|
  oVal (fInt addI G9 (kon (.int .i32 97))) S10 <|
  oVal (fInt subI G10 (kon (.int .i32 65))) S11 <|
  oVal (fMove G11) S2 <|
  sRet)
  oEnd))
  (oVal (fMove G0) S12 <|
  oVal (fMove G12) S2 <|
  sRet)))
def c257 : Op8 := (sDfr tb 7 (opsAt [z] Tryz.f257) (gn yesW (opAt 0 [z] Tryz.f257) <|
  oVal (fMove G2) S1 <|
  (oVal (fMove G1) S3 <|
  gn yesW (opAt 1 [u, z] Tryz.f257) <|
  (sCond G4 (oVal (fMove G1) S5 <|
  gn yesW (opAt 1 [u, u, z, z] Tryz.f257) <|
  (oUpd (fSt1 G0 (kon (.int .i64 0))) <|
  oEnd))
  oEnd))) (oVal (fMove G1) S3 <|
  gn yesW (opAt 1 [u, z] Tryz.f257) <|
  (sCond G4 (oVal (fMove G1) S5 <|
  gn yesW (opAt 1 [u, u, z, z] Tryz.f257) <|
  (oUpd (fSt1 G0 (kon (.int .i64 0))) <|
  oEnd))
  oEnd)))
def c258 : Op8 := (oVal (fMove G0) S3 <|
  oCall 274 (fArgs [G3, (kon (.str [60]))]) S4 <|
  oCall 273 (fArgs [G4]) S5 <|
  (oVal (fMove G0) S6 <|
  oCall 274 (fArgs [G6, (kon (.str [47]))]) S7 <|
  oVal (fMove G7) S2 <|
  (oVal (fMove G0) S8 <|
  oCall 275 (fArgs [G8, (kon (.str [97, 98, 99, 100, 101, 102, 103, 104, 105, 106, 107, 108, 109, 110, 111, 112, 113, 114, 115, 116, 117, 118, 119, 120, 121, 122, 65, 66, 67, 68, 69, 70, 71, 72, 73, 74, 75, 76, 77, 78, 79, 80, 81, 82, 83, 84, 85, 86, 87, 88, 89, 90])), (kon (.str [97, 98, 99, 100, 101, 102, 103, 104, 105, 106, 107, 108, 109, 110, 111, 112, 113, 114, 115, 116, 117, 118, 119, 120, 121, 122, 65, 66, 67, 68, 69, 70, 71, 72, 73, 74, 75, 76, 77, 78, 79, 80, 81, 82, 83, 84, 85, 86, 87, 88, 89, 90, 48, 49, 50, 51, 52, 53, 54, 55, 56, 57, 45]))]) S9 <|
  (thenF (oVal (fMove G2) S10 <|
  (sCond G10 (oVal (fMove G0) S11 <|
  oCall 253 (fArgs [G11, (kon (.str [32, 9, 10]))]) S12 <|
  oEnd)
  (oVal (fMove G0) S13 <|
  oCall 276 (fArgs [G13]) S14 <|
  (oVal (fMove G0) S15 <|
  oCall 274 (fArgs [G15, (kon (.str [47]))]) S16 <|
  oEnd))))
  (oVal (fMove G0) S17 <|
  oCall 274 (fArgs [G17, (kon (.str [62]))]) S18 <|
  oCall 273 (fArgs [G18]) S19 <|
  oEnd)))))
def c259 : Op8 := (oVal (fMove (kon (.int .i64 0))) S2 <|
  oVal (fMove (kon .nili)) S3 <|
  (oVal (fMove G0) S11 <|
  oVal (fLenS G11) S12 <|
  oVal (fMove G12) S4 <|
  (thenF (oVal (fMove (kon (.bool false))) S13 <|
  oGval (wntF G13 true) (fMove G4) S14 <|
  oGval (wntF G13 true) (fInt ltI (kon (.int .i64 0)) G14) S15 <|
  oGval (wntF G13 true) (fMove G15) S16 <|
  oGval (wntF G16 true) (fMove G4) S17 <|
  oGval (wntF G16 true) (fInt ltI G17 (kon (.int .i64 10))) S18 <|
  oGval (wntF G13 true) (fPick G16 G18 (kon (.bool false))) S19 <|
  oVal (fPick G13 G19 (kon (.bool false))) S20 <|
  oVal (fMove G20) S21 <|
  oGval (wntF G21 false) (fMove (kon (.bool true))) S22 <|
  oGval (wntF G22 true) (fMove G4) S23 <|
  oGval (wntF G22 true) (fInt ltI (kon (.int .i64 0)) G23) S24 <|
  oGval (wntF G22 true) (fMove G24) S25 <|
  oGval (wntF G25 true) (fMove G4) S26 <|
  oGval (wntF G25 true) (fInt ltI G26 (kon (.int .i64 19))) S27 <|
  oGval (wntF G22 true) (fPick G25 G27 (kon (.bool false))) S28 <|
  oGval (wntF G21 false) (fPick G22 G28 (kon (.bool false))) S29 <|
  oVal (fPick G21 (kon (.bool true)) G29) S30 <|
  (sCond G30 (oVal (fMove G0) S31 <|
  oVal (fMove G31) S5 <|
  (thenF (oVal (fMove G0) S32 <|
  oVal (fIxS G32 (kon (.int .i64 0))) S33 <|
  oVal (fIntE G33 (kon (.int .u8 45))) S34 <|
  oVal (fMove G34) S35 <|
  oGval (wntF G35 false) (fMove G0) S36 <|
  oGval (wntF G35 false) (fIxS G36 (kon (.int .i64 0))) S37 <|
  oGval (wntF G35 false) (fIntE G37 (kon (.int .u8 43))) S38 <|
  oVal (fPick G35 (kon (.bool true)) G38) S39 <|
  (sCond G39 (oVal (fMove G0) S40 <|
  oVal (fSlS G40 (some (kon (.int .i64 1))) none) S41 <|
  oVal (fMove G41) S0 <|
  (oVal (fMove G0) S42 <|
  oVal (fLenS G42) S43 <|
  oVal (fInt ltI G43 (kon (.int .i64 1))) S44 <|
  (sCond G44 (gn yesW (opAt 0 [u, u, z, u, z, u, z, u, z, u, u, z, z] Tryz.f259) <|
  oVal (fMove (kon (.int .i64 0))) S2 <|
  oVal (fMove G45) S3 <|
  sRet)
  oEnd)))
  oEnd))
  (oVal (fMove (kon (.int .i64 0))) S6 <|
  (thenF (oVal (fMove G0) S46 <|
  gn yesW (opAt 1 [u, u, z, u, z, u, u, u, z, z] Tryz.f259) <|
  oVal (fLenL G47) S48 <|
  oVal (fMove (kon (.int .i64 0))) S49 <|
  (sBlock 0 (sLoop (oVal (fInt ltI G49 G48) S50 <|
  (thenF (sCond G50 oEnd
  (sExit 0))
  (thenF (sBlock 1 (oVal (fIAs 1 G47 G49) S51 <|
  oVal (fLoad1 G51) S52 <|
  oVal (fMove G52) S8 <|
  (oVal (fMove G8) S53 <|
  oVal (fInt subI G53 (kon (.int .u8 48))) S54 <|
  oVal (fMove G54) S8 <|
  (thenF (oVal (fMove G8) S55 <|
  oVal (fInt gtI G55 (kon (.int .u8 9))) S56 <|
  (sCond G56 (gn yesW (opAt 0 [u, u, z, u, z, u, u, u, z, u, z, z, u, u, z, z, u, u, z, u, z, z] Tryz.f259) <|
  oVal (fMove (kon (.int .i64 0))) S2 <|
  oVal (fMove G57) S3 <|
  sRet)
  oEnd))
  (oVal (fMove G6) S58 <|
  oVal (fInt mulI G58 (kon (.int .i64 10))) S59 <|
  oVal (fMove G8) S60 <|
  oVal (fCnvI .i64 G60) S61 <|
  oVal (fInt addI G59 G61) S62 <|
  oVal (fMove G62) S6 <|
  oEnd)))))
  (oVal (fInt addI G49 (kon (.int .i64 1))) S63 <|
  oVal (fMove G63) S49 <|
  oEnd)))))))
  (thenF (oVal (fMove G5) S64 <|
  oVal (fIxS G64 (kon (.int .i64 0))) S65 <|
  oVal (fIntE G65 (kon (.int .u8 45))) S66 <|
  (sCond G66 (oVal (fMove G6) S67 <|
  gn yesW (opAt 1 [u, u, z, u, z, u, u, u, u, z, u, z] Tryz.f259) <|
  oVal (fMove G68) S6 <|
  oEnd)
  oEnd))
  (oVal (fMove G6) S69 <|
  oVal (fMove G69) S2 <|
  oVal (fMove (kon .nili)) S3 <|
  sRet))))))
  oEnd))
  (oVal (fMove G0) S71 <|
  oCall 277 (fArgs [G71, (kon (.int .i64 10)), (kon (.int .i64 0))]) S72 <|
  oVal (fMove G72) S70 <|
  oVal (fExt 0 G70) S73 <|
  oVal (fExt 1 G70) S74 <|
  oVal (fMove G73) S9 <|
  oVal (fMove G74) S10 <|
  (oVal (fMove G9) S75 <|
  oVal (fMove G10) S76 <|
  oVal (fMove G75) S2 <|
  oVal (fMove G76) S3 <|
  sRet)))))
def c260 : Op8 := (oVal (fMove (kon .nili)) S10 <|
  (thenF (oVal (fMove G4) S11 <|
  (sBlock 0 (gn yesW (opAt 0 [u, z, u, z, z] Tryz.f260) <|
  gn yesW (opAt 1 [u, z, u, z, z] Tryz.f260) <|
  oVal (fMove G14) S12 <|
  (sCond G12 (oVal (fMove G0) S15 <|
  oVal (fMove G1) S16 <|
  oCall 278 (fArgs [G15, G16]) S17 <|
  gn yesW (opAt 3 [u, z, u, z, u, z, z] Tryz.f260) <|
  oVal (fMove G18) S10 <|
  sRet)
  (gn yesW (opAt 0 [u, z, u, z, u, u, z] Tryz.f260) <|
  gn yesW (opAt 1 [u, z, u, z, u, u, z] Tryz.f260) <|
  oVal (fMove G21) S19 <|
  (sCond G19 (oVal (fMove G0) S22 <|
  oVal (fMove G1) S23 <|
  oCall 279 (fArgs [G22, G23]) S24 <|
  gn yesW (opAt 3 [u, z, u, z, u, u, u, z, z] Tryz.f260) <|
  oVal (fMove G25) S10 <|
  sRet)
  (gn yesW (opAt 0 [u, z, u, z, u, u, u, u, z] Tryz.f260) <|
  gn yesW (opAt 1 [u, z, u, z, u, u, u, u, z] Tryz.f260) <|
  oVal (fMove G28) S26 <|
  (sCond G26 (oVal (fMove G0) S29 <|
  oVal (fMove G1) S30 <|
  oVal (fMove G2) S31 <|
  oCall 280 (fArgs [G29, G30, G31]) S32 <|
  gn yesW (opAt 4 [u, z, u, z, u, u, u, u, u, z, z] Tryz.f260) <|
  oVal (fMove G33) S10 <|
  sRet)
  (gn yesW (opAt 0 [u, z, u, z, u, u, u, u, u, u, z] Tryz.f260) <|
  gn yesW (opAt 1 [u, z, u, z, u, u, u, u, u, u, z] Tryz.f260) <|
  oVal (fMove G36) S34 <|
  (sCond G34 (oVal (fMove G0) S37 <|
  oVal (fMove G1) S38 <|
  oVal (fMove G3) S39 <|
  oCall 281 (fArgs [G37, G38, G39]) S40 <|
  gn yesW (opAt 4 [u, z, u, z, u, u, u, u, u, u, u, z, z] Tryz.f260) <|
  oVal (fMove G41) S10 <|
  sRet)
  oEnd))))))))))
  (oVal (fMove G4) S42 <|
  oVal (fMove G42) S10 <|
  sRet)))
def c261 : Op8 := (oVal (fMove (kon (.int .i64 0))) S4 <|
  (thenF (oVal (fMove G0) S5 <|
  oVal (fMove G1) S6 <|
  oVal (fIxS G5 G6) S7 <|
  oVal (fIntE G7 (kon (.int .u8 92))) S8 <|
  oVal (fMove G8) S9 <|
  oGval (wntF G9 true) (fMove G1) S10 <|
  oGval (wntF G9 true) (fInt addI G10 (kon (.int .i64 1))) S11 <|
  oGval (wntF G9 true) (fMove G0) S12 <|
  oGval (wntF G9 true) (fLenS G12) S13 <|
  oGval (wntF G9 true) (fInt ltI G11 G13) S14 <|
  oVal (fPick G9 G14 (kon (.bool false))) S15 <|
  oVal (fMove G15) S16 <|
  oGval (wntF G16 true) (fMove G0) S17 <|
  oGval (wntF G16 true) (fMove G1) S18 <|
  oGval (wntF G16 true) (fInt addI G18 (kon (.int .i64 1))) S19 <|
  oGval (wntF G16 true) (fIxS G17 G19) S20 <|
  oGcall (wntF G16 true) 173 (fArgs [G20]) S21 <|
  oVal (fPick G16 G21 (kon (.bool false))) S22 <|
  (sCond G22 (oVal (fMove (kon (.int .i64 2))) S4 <|
  sRet)
  oEnd))
  (oVal (fMove (kon (.int .i64 1))) S4 <|
  sRet)))
def c262 : Op8 := (oVal (fMove (kon (.int .i64 0))) S6 <|
  (thenF (oVal (fMove G0) S9 <|
  gn yesW (opAt 1 [u, z, z] Tryz.f262) <|
  (sBlock 0 (sLoop (gn yesW (opAt 0 [u, z, u, z, z, z] Tryz.f262) <|
  oVal (fExt 0 G11) S12 <|
  (thenF (sCond G12 oEnd
  (sExit 0))
  (sBlock 1 (oVal (fExt 1 G11) S13 <|
  oVal (fExt 2 G11) S14 <|
  oVal (fMove G13) S7 <|
  oVal (fMove G14) S8 <|
  (oVal (fMove G1) S15 <|
  oVal (fMove G8) S16 <|
  gn yesW (opAt 2 [u, z, u, z, z, u, u, z, u, z] Tryz.f262) <|
  oVal (fMove G2) S18 <|
  gn yesW (opAt 4 [u, z, u, z, z, u, u, z, u, z] Tryz.f262) <|
  (sCond G19 (oVal (fMove G7) S20 <|
  oVal (fMove G20) S6 <|
  sRet)
  oEnd)))))))))
  (oVal (fMove (kon (.int .i64 (-1)))) S6 <|
  sRet)))
def c263 : Op8 := (oVal (fMove (kon .nils)) S8 <|
  (thenF (oVal (fMove G3) S12 <|
  oVal (fIntE G12 (kon (.int .i64 0))) S13 <|
  (sCond G13 (oVal (fMove (kon .nils)) S8 <|
  sRet)
  oEnd))
  (thenF (oVal (fMove G1) S14 <|
  gn yesW (opAt 1 [u, u, z, z] Tryz.f263) <|
  (sCond G15 (oVal (fMove G0) S16 <|
  oVal (fMove G3) S17 <|
  oCall 282 (fArgs [G16, G17]) S18 <|
  oVal (fMove G18) S8 <|
  sRet)
  oEnd))
  (thenF (oVal (fMove G3) S19 <|
  oVal (fInt ltI G19 (kon (.int .i64 0))) S20 <|
  (sCond G20 (oVal (fMove G0) S21 <|
  oVal (fMove G1) S22 <|
  oCall 39 (fArgs [G21, G22]) S23 <|
  oVal (fInt addI G23 (kon (.int .i64 1))) S24 <|
  oVal (fMove G24) S3 <|
  oEnd)
  oEnd))
  (oVal (fMove G3) S25 <|
  oVal (fMove G0) S26 <|
  oVal (fLenS G26) S27 <|
  oVal (fInt addI G27 (kon (.int .i64 1))) S28 <|
  gn yesW (opAt 4 [u, u, u, u, z] Tryz.f263) <|
  oVal (fMove G29) S3 <|
  (oVal (fMove G3) S30 <|
  gn yesW (opAt 1 [u, u, u, u, u, z] Tryz.f263) <|
  oVal (fMove G31) S9 <|
  (oVal (fMove G3) S32 <|
  oVal (fInt subI G32 (kon (.int .i64 1))) S33 <|
  oVal (fMove G33) S3 <|
  (oVal (fMove (kon (.int .i64 0))) S10 <|
  (thenF (sBlock 0 (sLoop (thenF (oVal (fMove G10) S34 <|
  oVal (fMove G3) S35 <|
  oVal (fInt ltI G34 G35) S36 <|
  (sCond G36 oEnd
  (sExit 0)))
  (sBlock 1 (oVal (fMove G0) S37 <|
  oVal (fMove G1) S38 <|
  oCall 33 (fArgs [G37, G38]) S39 <|
  oVal (fMove G39) S11 <|
  (thenF (oVal (fMove G11) S40 <|
  oVal (fInt ltI G40 (kon (.int .i64 0))) S41 <|
  (sCond G41 (sExit 0)
  oEnd))
  (oVal (fMove G9) S42 <|
  oVal (fMove G10) S43 <|
  oVal (fMove G0) S44 <|
  oVal (fMove G11) S45 <|
  oVal (fMove G2) S46 <|
  oVal (fInt addI G45 G46) S47 <|
  oVal (fSlS G44 none (some G47)) S48 <|
  oVal (fIAs 1 G42 G43) S49 <|
  oUpd (fSt1 G49 G48) <|
  (oVal (fMove G0) S50 <|
  oVal (fMove G11) S51 <|
  oVal (fMove G1) S52 <|
  oVal (fLenS G52) S53 <|
  oVal (fInt addI G51 G53) S54 <|
  oVal (fSlS G50 (some G54) none) S55 <|
  oVal (fMove G55) S0 <|
  (oVal (fMove G10) S56 <|
  oVal (fInt addI G56 (kon (.int .i64 1))) S57 <|
  oVal (fMove G57) S10 <|
  oEnd)))))))))
  (oVal (fMove G9) S58 <|
  oVal (fMove G10) S59 <|
  oVal (fMove G0) S60 <|
  oVal (fIAs 1 G58 G59) S61 <|
  oUpd (fSt1 G61 G60) <|
  (oVal (fMove G9) S62 <|
  oVal (fMove G10) S63 <|
  oVal (fInt addI G63 (kon (.int .i64 1))) S64 <|
  gn yesW (opAt 3 [u, u, u, u, u, u, u, u, u, u, z] Tryz.f263) <|
  oVal (fMove G65) S8 <|
  sRet)))))))))))
def c264 : Op8 := (oVal (fMove (kon (.int .i64 0))) S6 <|
  oVal (fMove (kon .nili)) S7 <|
  (oVal (fMove G0) S10 <|
  oVal (fMove G1) S11 <|
  oVal (fMove G2) S12 <|
  oCall 277 (fArgs [G10, G11, G12]) S13 <|
  oVal (fMove G13) S9 <|
  oVal (fExt 0 G9) S14 <|
  oVal (fExt 1 G9) S15 <|
  oVal (fMove G14) S8 <|
  oVal (fMove G15) S7 <|
  (thenF (oVal (fMove G7) S16 <|
  gn yesW (opAt 1 [u, u, z, z] Tryz.f264) <|
  (sCond G17 (oVal (fMove G8) S18 <|
  oVal (fMove G0) S19 <|
  oVal (fMove G1) S20 <|
  oVal (fMove G2) S21 <|
  oVal (fMove G7) S22 <|
  oCall 260 (fArgs [(kon (.str [80, 97, 114, 115, 101, 73, 110, 116])), G19, G20, G21, G22]) S23 <|
  oVal (fMove G18) S6 <|
  oVal (fMove G23) S7 <|
  sRet)
  oEnd))
  (oVal (fMove G8) S24 <|
  oVal (fMove G24) S6 <|
  oVal (fMove (kon .nili)) S7 <|
  sRet))))
def c265 : Op8 := (oVal (fMove (kon (.str []))) S4 <|
  (thenF (oVal (fMove G0) S10 <|
  gn yesW (opAt 1 [u, z, z] Tryz.f265) <|
  (sBlock 0 (sLoop (gn yesW (opAt 0 [u, z, u, z, z, z] Tryz.f265) <|
  oVal (fExt 0 G12) S13 <|
  (thenF (sCond G13 oEnd
  (sExit 0))
  (sBlock 1 (oVal (fExt 1 G12) S14 <|
  oVal (fExt 2 G12) S15 <|
  oVal (fMove G14) S5 <|
  oVal (fMove G15) S6 <|
  (oVal (fMove (kon (.bool false))) S7 <|
  (thenF (oVal (fMove G1) S16 <|
  gn yesW (opAt 1 [u, z, u, z, z, u, u, z, u, u, z, z] Tryz.f265) <|
  (sBlock 2 (sLoop (gn yesW (opAt 0 [u, z, u, z, z, u, u, z, u, u, z, u, z, z, z] Tryz.f265) <|
  oVal (fExt 0 G18) S19 <|
  (thenF (sCond G19 oEnd
  (sExit 2))
  (sBlock 3 (oVal (fExt 2 G18) S20 <|
  oVal (fMove G20) S9 <|
  (oVal (fMove G7) S21 <|
  oVal (fMove G21) S22 <|
  oGval (wntF G22 false) (fMove G6) S23 <|
  oGval (wntF G22 false) (fMove G9) S24 <|
  oGval (wntF G22 false) (fIntE G23 G24) S25 <|
  oVal (fPick G22 (kon (.bool true)) G25) S26 <|
  oVal (fMove G26) S7 <|
  oEnd))))))))
  (oVal (fMove G7) S27 <|
  oVal (fNot G27) S28 <|
  (sCond G28 (oVal (fMove G0) S29 <|
  oVal (fMove G5) S30 <|
  oVal (fSlS G29 (some G30) none) S31 <|
  oVal (fMove G31) S4 <|
  sRet)
  oEnd)))))))))))
  (oVal (fMove (kon (.str []))) S4 <|
  sRet)))
def c266 : Op8 := (oVal (fMove (kon .nilm)) S0 <|
  (gn yesW (opAt 0 [u, z] Tryz.f266) <|
  gn yesW (opAt 1 [u, z] Tryz.f266) <|
  gn yesW (opAt 2 [u, z] Tryz.f266) <|
  gn yesW (opAt 3 [u, z] Tryz.f266) <|
  gn yesW (opAt 4 [u, z] Tryz.f266) <|
  gn yesW (opAt 5 [u, z] Tryz.f266) <|
  gn yesW (opAt 6 [u, z] Tryz.f266) <|
  gn yesW (opAt 7 [u, z] Tryz.f266) <|
  gn yesW (opAt 8 [u, z] Tryz.f266) <|
  gn yesW (opAt 9 [u, z] Tryz.f266) <|
  gn yesW (opAt 10 [u, z] Tryz.f266) <|
  gn yesW (opAt 11 [u, z] Tryz.f266) <|
  gn yesW (opAt 12 [u, z] Tryz.f266) <|
  gn yesW (opAt 13 [u, z] Tryz.f266) <|
  gn yesW (opAt 14 [u, z] Tryz.f266) <|
  gn yesW (opAt 15 [u, z] Tryz.f266) <|
  gn yesW (opAt 16 [u, z] Tryz.f266) <|
  gn yesW (opAt 17 [u, z] Tryz.f266) <|
  gn yesW (opAt 18 [u, z] Tryz.f266) <|
  gn yesW (opAt 19 [u, z] Tryz.f266) <|
  gn yesW (opAt 20 [u, z] Tryz.f266) <|
  gn yesW (opAt 21 [u, z] Tryz.f266) <|
  gn yesW (opAt 22 [u, z] Tryz.f266) <|
  gn yesW (opAt 23 [u, z] Tryz.f266) <|
  gn yesW (opAt 24 [u, z] Tryz.f266) <|
  gn yesW (opAt 25 [u, z] Tryz.f266) <|
  gn yesW (opAt 26 [u, z] Tryz.f266) <|
  gn yesW (opAt 27 [u, z] Tryz.f266) <|
  gn yesW (opAt 28 [u, z] Tryz.f266) <|
  gn yesW (opAt 29 [u, z] Tryz.f266) <|
  gn yesW (opAt 30 [u, z] Tryz.f266) <|
  gn yesW (opAt 31 [u, z] Tryz.f266) <|
  gn yesW (opAt 32 [u, z] Tryz.f266) <|
  gn yesW (opAt 33 [u, z] Tryz.f266) <|
  gn yesW (opAt 34 [u, z] Tryz.f266) <|
  gn yesW (opAt 35 [u, z] Tryz.f266) <|
  gn yesW (opAt 36 [u, z] Tryz.f266) <|
  gn yesW (opAt 37 [u, z] Tryz.f266) <|
  gn yesW (opAt 38 [u, z] Tryz.f266) <|
  gn yesW (opAt 39 [u, z] Tryz.f266) <|
  gn yesW (opAt 40 [u, z] Tryz.f266) <|
  gn yesW (opAt 41 [u, z] Tryz.f266) <|
  gn yesW (opAt 42 [u, z] Tryz.f266) <|
  gn yesW (opAt 43 [u, z] Tryz.f266) <|
  gn yesW (opAt 44 [u, z] Tryz.f266) <|
  gn yesW (opAt 45 [u, z] Tryz.f266) <|
  gn yesW (opAt 46 [u, z] Tryz.f266) <|
  gn yesW (opAt 47 [u, z] Tryz.f266) <|
  gn yesW (opAt 48 [u, z] Tryz.f266) <|
  gn yesW (opAt 49 [u, z] Tryz.f266) <|
  gn yesW (opAt 50 [u, z] Tryz.f266) <|
  gn yesW (opAt 51 [u, z] Tryz.f266) <|
  gn yesW (opAt 52 [u, z] Tryz.f266) <|
  gn yesW (opAt 53 [u, z] Tryz.f266) <|
  oVal (fMove G1) S2 <|
  oVal (fMove G2) S0 <|
  sRet))
def c267 : Op8 := (oVal (fMove (kon (.bool false))) S2 <|
  (thenF (oVal (fMove G0) S4 <|
  oVal (fInt geI G4 (kon (.int .i64 0))) S5 <|
  oVal (fMove G5) S6 <|
  oGval (wntF G6 true) (fMove G0) S7 <|
  oGval (wntF G6 true) (fInt ltI G7 (kon (.int .i64 128))) S8 <|
  oVal (fPick G6 G8 (kon (.bool false))) S9 <|
  (sCond G9 (oVal (fMove G0) S10 <|
  oVal (fCnvI .u8 G10) S11 <|
  oCall 173 (fArgs [G11]) S12 <|
  oVal (fMove G12) S2 <|
  sRet)
  oEnd))
  (oVal (fMove G0) S13 <|
  gn yesW (opAt 1 [u, u, z] Tryz.f267) <|
  gn yesW (opAt 2 [u, u, z] Tryz.f267) <|
  gn yesW (opAt 3 [u, u, z] Tryz.f267) <|
  gn yesW (opAt 4 [u, u, z] Tryz.f267) <|
  gn yesW (opAt 5 [u, u, z] Tryz.f267) <|
  gn yesW (opAt 6 [u, u, z] Tryz.f267) <|
  gn yesW (opAt 7 [u, u, z] Tryz.f267) <|
  gn yesW (opAt 8 [u, u, z] Tryz.f267) <|
  gn yesW (opAt 9 [u, u, z] Tryz.f267) <|
  gn yesW (opAt 10 [u, u, z] Tryz.f267) <|
  oCall 226 (fArgs [G13, G23]) S24 <|
  oVal (fMove G24) S3 <|
  (oVal (fMove G3) S25 <|
  oVal (fMove G25) S26 <|
  oGval (wntF G26 false) (fMove G0) S27 <|
  gn (wntF G26 false) (opAt 3 [u, u, u, z] Tryz.f267) <|
  gn (wntF G26 false) (opAt 4 [u, u, u, z] Tryz.f267) <|
  gn (wntF G26 false) (opAt 5 [u, u, u, z] Tryz.f267) <|
  gn (wntF G26 false) (opAt 6 [u, u, u, z] Tryz.f267) <|
  gn (wntF G26 false) (opAt 7 [u, u, u, z] Tryz.f267) <|
  gn (wntF G26 false) (opAt 8 [u, u, u, z] Tryz.f267) <|
  gn (wntF G26 false) (opAt 9 [u, u, u, z] Tryz.f267) <|
  oGcall (wntF G26 false) 226 (fArgs [G27, G34]) S35 <|
  oVal (fPick G26 (kon (.bool true)) G35) S36 <|
  oVal (fMove G36) S2 <|
  sRet))))
def c268 : Op8 := (oVal (fMove (kon (.int .i64 0))) S4 <|
  (sDraw <| dVal cP 0 (fMove G1) S8 <|
  dVal cP 1 (fNil G8) S9 <|
  dVal cP 2 (fFA 0 G9) S10 <|
  dVal cP 3 (fFA 0 G10) S11 <|
  dVal (cL G11) 4 (fLoad1 G11) S12 <|
  dVal cP 5 (fMove G1) S13 <|
  dVal cP 6 (fNil G13) S14 <|
  dVal cP 7 (fFA 0 G14) S15 <|
  dVal cP 8 (fFA 2 G15) S16 <|
  dVal (cL G16) 9 (fLoad1 G16) S17 <|
  dVal cP 10 (fMove G1) S18 <|
  dVal cP 11 (fNil G18) S19 <|
  dVal cP 12 (fFA 0 G19) S20 <|
  dVal cP 13 (fFA 1 G20) S21 <|
  dVal (cL G21) 14 (fLoad1 G21) S22 <|
  gd cP 15 yesW (opAt 15 [u, z] Tryz.f268) <|
  gd cP 16 yesW (opAt 16 [u, z] Tryz.f268) <|
  gd cN 17 yesW (opAt 17 [u, z] Tryz.f268) <|
  dUpd cE 18 (fSt tb 332 G5 G24) <|
  dEnd [0, 1, 3, 7, 15, 0, 32, 96, 224, 480, 0, 1024, 3072, 7168, 15360, 31744, 65535, 0, 262143] (thenF (oVal (fMove G0) S25 <|
  oVal (fNil G25) S26 <|
  oVal (fFA 0 G26) S27 <|
  oVal (fLoad1 G27) S28 <|
  oVal (fLenL G28) S29 <|
  oVal (fInt subI G29 (kon (.int .i64 1))) S30 <|
  oVal (fMove G30) S6 <|
  (sBlock 0 (sLoop (thenF (sDraw <| dVal cP 0 (fMove G6) S31 <|
  dVal cP 1 (fMove G0) S32 <|
  dVal cP 2 (fNil G32) S33 <|
  dVal cP 3 (fFA 1 G33) S34 <|
  dVal (cL G34) 4 (fLoad1 G34) S35 <|
  dVal (cL G5) 5 (fLoadN 3 G5) S36 <|
  gd (cM G35) 6 yesW (opAt 6 [u, u, z, u, z, z, z, z] Tryz.f268) <|
  dVal cP 7 (fInt geI G31 G37) S38 <|
  dEnd [0, 0, 2, 6, 14, 0, 62, 127] (sCond G38 oEnd
  (sExit 0)))
  (thenF (sBlock 1 (oVal (fMove G0) S41 <|
  oVal (fNil G41) S42 <|
  oVal (fFA 0 G42) S43 <|
  oVal (fLoad1 G43) S44 <|
  oVal (fMove G6) S45 <|
  oVal (fIAs 1 G44 G45) S46 <|
  oVal (fLoad1 G46) S47 <|
  oVal (fMove G47) S7 <|
  (sDraw <| dVal cP 0 (fMove G7) S48 <|
  dVal cP 1 (fNil G48) S49 <|
  dVal cP 2 (fFA 0 G49) S50 <|
  dVal cP 3 (fFA 0 G50) S51 <|
  dVal (cL G51) 4 (fLoad1 G51) S52 <|
  dVal cP 5 (fMove G1) S53 <|
  dVal cP 6 (fNil G53) S54 <|
  dVal cP 7 (fFA 0 G54) S55 <|
  dVal cP 8 (fFA 0 G55) S56 <|
  dVal (cL G56) 9 (fLoad1 G56) S57 <|
  dVal cP 10 (fIntE G52 G57) S58 <|
  dVal cP 11 (fMove G58) S59 <|
  dGval (wntF G59 true) cP 12 (fMove G7) S60 <|
  dGval (wntF G59 true) cP 13 (fNil G60) S61 <|
  dGval (wntF G59 true) cP 14 (fFA 4 G61) S62 <|
  dGval (wntF G59 true) (cL G62) 15 (fLoad1 G62) S63 <|
  dGval (wntF G59 true) cP 16 (fInt gtI G63 (kon (.int .i64 0))) S64 <|
  dVal cP 17 (fPick G59 G64 (kon (.bool false))) S65 <|
  dVal cP 18 (fMove G65) S66 <|
  dGval (wntF G66 true) cP 19 (fMove G7) S67 <|
  dGval (wntF G66 true) cP 20 (fNil G67) S68 <|
  dGval (wntF G66 true) (cL G68) 21 (fLoadN 6 G68) S69 <|
  dGval (wntF G66 true) cP 22 (fMove G1) S70 <|
  dGval (wntF G66 true) cP 23 (fNil G70) S71 <|
  dGval (wntF G66 true) (cL G71) 24 (fLoadN 6 G71) S72 <|
  dGcall (wntF G66 true) cE 25 283 (fArgs [G69, G72]) S73 <|
  dVal cP 26 (fPick G66 G73 (kon (.bool false))) S74 <|
  dEnd [0, 1, 3, 7, 15, 0, 32, 96, 224, 480, 1023, 2047, 4095, 8191, 16383, 32767, 65535, 131071, 262143, 524287, 1048575, 2097151, 524287, 4718591, 13107199, 33554431, 67108863] (sCond G74 (oVal (fMove G6) S75 <|
  oVal (fMove G75) S4 <|
  sRet)
  oEnd))))
  (oVal (fMove G6) S39 <|
  oVal (fInt subI G39 (kon (.int .i64 1))) S40 <|
  oVal (fMove G40) S6 <|
  oEnd))))))
  (sDraw <| dVal cP 0 (fMove G0) S76 <|
  dVal cP 1 (fNil G76) S77 <|
  dVal cP 2 (fFA 1 G77) S78 <|
  dVal (cL G78) 3 (fLoad1 G78) S79 <|
  dVal (cL G5) 4 (fLoadN 3 G5) S80 <|
  dVal cP 5 (fMove G0) S81 <|
  dVal cP 6 (fNil G81) S82 <|
  dVal cP 7 (fFA 0 G82) S83 <|
  dVal (cL G83) 8 (fLoad1 G83) S84 <|
  dVal cP 9 (fLenL G84) S85 <|
  gd cE 10 yesW (opAt 10 [u, u, u, z] Tryz.f268) <|
  dEnd [0, 1, 3, 7, 0, 0, 32, 96, 224, 480, 1023] (oVal (fMove (kon (.int .i64 (-1)))) S4 <|
  sRet)))))
def c269 : Op8 := (oVal (fMove G0) S6 <|
  oVal (fMove G0) S7 <|
  oVal (fNil G7) S8 <|
  oVal (fFA 0 G8) S9 <|
  oVal (fLoad1 G9) S10 <|
  oVal (fMove G1) S11 <|
  gn yesW (opAt 6 [z] Tryz.f269) <|
  oVal (fNil G6) S13 <|
  oVal (fFA 0 G13) S14 <|
  oUpd (fSt1 G14 G12) <|
  (oVal (fMove G0) S15 <|
  oVal (fNil G15) S16 <|
  oVal (fFA 1 G16) S17 <|
  oVal (fLoad1 G17) S18 <|
  gn yesW (opAt 4 [u, z] Tryz.f269) <|
  (sBlock 0 (sLoop (gn yesW (opAt 0 [u, u, z, z, z] Tryz.f269) <|
  oVal (fExt 0 G20) S21 <|
  (thenF (sCond G21 oEnd
  (sExit 0))
  (sBlock 1 (gn yesW (opAt 0 [u, u, z, z, u, u, z, z] Tryz.f269) <|
  oVal (fExt 0 G22) S23 <|
  oVal (fExt 1 G22) S24 <|
  gn yesW (opAt 3 [u, u, z, z, u, u, z, z] Tryz.f269) <|
  oUpd (fSt tb 332 G4 G23) <|
  oVal (fMove G24) S5 <|
  (sDraw <| dVal cP 0 (fMove G0) S25 <|
  dVal cP 1 (fNil G25) S26 <|
  dVal cP 2 (fFA 1 G26) S27 <|
  dVal (cL G27) 3 (fLoad1 G27) S28 <|
  dVal (cL G4) 4 (fLoadN 3 G4) S29 <|
  dVal cP 5 (fMove G5) S30 <|
  dVal cP 6 (fMove G1) S31 <|
  gd cP 7 yesW (opAt 7 [u, u, z, z, u, u, z, u] Tryz.f269) <|
  gd cE 8 yesW (opAt 8 [u, u, z, z, u, u, z, u] Tryz.f269) <|
  dEnd [0, 1, 3, 7, 0, 0, 0, 96, 255] oEnd)))))))))
def c270 : Op8 := (oVal (fMove (kon .nils)) S4 <|
  (thenF (oVal (fMove G1) S5 <|
  oVal (fCnvI .u32 G5) S6 <|
  oVal (fInt leI G6 (kon (.int .u32 127))) S7 <|
  (sCond G7 (oVal (fMove G0) S8 <|
  oVal (fMove G1) S9 <|
  oVal (fCnvI .u8 G9) S10 <|
  gn yesW (opAt 3 [u, z, u, z, z] Tryz.f270) <|
  gn yesW (opAt 4 [u, z, u, z, z] Tryz.f270) <|
  oVal (fMove G12) S4 <|
  sRet)
  oEnd))
  (oVal (fMove G0) S13 <|
  oVal (fMove G1) S14 <|
  oCall 284 (fArgs [G13, G14]) S15 <|
  oVal (fMove G15) S4 <|
  sRet)))
def c271 : Op8 := (oVal (fMove (kon (.str []))) S4 <|
  (thenF (oVal (fMove G0) S10 <|
  gn yesW (opAt 1 [u, z, z] Tryz.f271) <|
  (sBlock 0 (sLoop (gn yesW (opAt 0 [u, z, u, z, z, z] Tryz.f271) <|
  oVal (fExt 0 G12) S13 <|
  (thenF (sCond G13 oEnd
  (sExit 0))
  (sBlock 1 (oVal (fExt 1 G12) S14 <|
  oVal (fExt 2 G12) S15 <|
  oVal (fMove G14) S5 <|
  oVal (fMove G15) S6 <|
  (oVal (fMove (kon (.bool false))) S7 <|
  (thenF (oVal (fMove G1) S16 <|
  gn yesW (opAt 1 [u, z, u, z, z, u, u, z, u, u, z, z] Tryz.f271) <|
  (sBlock 2 (sLoop (gn yesW (opAt 0 [u, z, u, z, z, u, u, z, u, u, z, u, z, z, z] Tryz.f271) <|
  oVal (fExt 0 G18) S19 <|
  (thenF (sCond G19 oEnd
  (sExit 2))
  (sBlock 3 (oVal (fExt 2 G18) S20 <|
  oVal (fMove G20) S9 <|
  (oVal (fMove G7) S21 <|
  oVal (fMove G21) S22 <|
  oGval (wntF G22 false) (fMove G6) S23 <|
  oGval (wntF G22 false) (fMove G9) S24 <|
  oGval (wntF G22 false) (fIntE G23 G24) S25 <|
  oVal (fPick G22 (kon (.bool true)) G25) S26 <|
  oVal (fMove G26) S7 <|
  oEnd))))))))
  (oVal (fMove G7) S27 <|
  oVal (fNot G27) S28 <|
  (sCond G28 (oVal (fMove G0) S29 <|
  oVal (fMove G5) S30 <|
  oVal (fSlS G29 (some G30) none) S31 <|
  oVal (fMove G31) S4 <|
  sRet)
  oEnd)))))))))))
  (oVal (fMove (kon (.str []))) S4 <|
  sRet)))
def c272 : Op8 := (oVal (fMove (kon (.int .i32 0))) S2 <|
  (thenF (oVal (fMove G0) S8 <|
  oVal (fInt ltI G8 (kon (.int .i32 0))) S9 <|
  oVal (fMove G9) S10 <|
  oGval (wntF G10 false) (fMove G0) S11 <|
  oGval (wntF G10 false) (fInt gtI G11 (kon (.int .i32 1114111))) S12 <|
  oVal (fPick G10 (kon (.bool true)) G12) S13 <|
  (sCond G13 (oVal (fMove G0) S14 <|
  oVal (fMove G14) S2 <|
  sRet)
  oEnd))
  (thenF (oVal (fMove G0) S15 <|
  oVal (fCnvI .i64 G15) S16 <|
  oVal (fInt ltI G16 (kon (.int .i64 128))) S17 <|
  (sCond G17 (oVal (fMove G0) S18 <|
  oVal (fIAa 128 1 nog G18) S19 <|
  oVal (fLoad1 G19) S20 <|
  oVal (fCnvI .i32 G20) S21 <|
  oVal (fMove G21) S2 <|
  sRet)
  oEnd))
  (oVal (fMove (kon (.int .i64 0))) S3 <|
  (oVal (fLoad1 nog) S22 <|
  oVal (fLenL G22) S23 <|
  oVal (fMove G23) S4 <|
  (thenF (sBlock 0 (sLoop (thenF (oVal (fMove G3) S24 <|
  oVal (fMove G4) S25 <|
  oVal (fInt ltI G24 G25) S26 <|
  (sCond G26 oEnd
  (sExit 0)))
  (sBlock 1 (oVal (fMove G3) S27 <|
  oVal (fMove G4) S28 <|
  oVal (fInt addI G27 G28) S29 <|
  oVal (fCnvI .u64 G29) S30 <|
  gn yesW (opAt 4 [u, u, u, u, u, z, z, z, u, z, z] Tryz.f272) <|
  oVal (fCnvI .i64 G31) S32 <|
  oVal (fMove G32) S5 <|
  (oVal (fLoad1 nog) S33 <|
  oVal (fMove G5) S34 <|
  oVal (fIAs 2 G33 G34) S35 <|
  oVal (fFA 0 G35) S36 <|
  oVal (fLoad1 G36) S37 <|
  oVal (fCnvI .i32 G37) S38 <|
  oVal (fMove G0) S39 <|
  oVal (fInt ltI G38 G39) S40 <|
  (sCond G40 (oVal (fMove G5) S41 <|
  oVal (fInt addI G41 (kon (.int .i64 1))) S42 <|
  oVal (fMove G42) S3 <|
  oEnd)
  (oVal (fMove G5) S43 <|
  oVal (fMove G43) S4 <|
  oEnd))))))))
  (thenF (oVal (fMove G3) S44 <|
  oVal (fLoad1 nog) S45 <|
  oVal (fLenL G45) S46 <|
  oVal (fInt ltI G44 G46) S47 <|
  oVal (fMove G47) S48 <|
  oGval (wntF G48 true) (fLoad1 nog) S49 <|
  oGval (wntF G48 true) (fMove G3) S50 <|
  oGval (wntF G48 true) (fIAs 2 G49 G50) S51 <|
  oGval (wntF G48 true) (fFA 0 G51) S52 <|
  oGval (wntF G48 true) (fLoad1 G52) S53 <|
  oGval (wntF G48 true) (fCnvI .i32 G53) S54 <|
  oGval (wntF G48 true) (fMove G0) S55 <|
  oGval (wntF G48 true) (fIntE G54 G55) S56 <|
  oVal (fPick G48 G56 (kon (.bool false))) S57 <|
  (sCond G57 (oVal (fLoad1 nog) S58 <|
  oVal (fMove G3) S59 <|
  oVal (fIAs 2 G58 G59) S60 <|
  oVal (fFA 1 G60) S61 <|
  oVal (fLoad1 G61) S62 <|
  oVal (fCnvI .i32 G62) S63 <|
  oVal (fMove G63) S2 <|
  sRet)
  oEnd))
  (thenF (oVal (fMove G0) S64 <|
  oVal (fLoad1 nog) S65 <|
  oCall 285 (fArgs [G64, G65]) S66 <|
  oVal (fMove G66) S6 <|
  (oVal (fMove G6) S67 <|
  gn yesW (opAt 1 [u, u, u, u, u, u, u, z, u, z] Tryz.f272) <|
  (sCond G68 (thenF (oVal (fMove G0) S69 <|
  oVal (fMove G6) S70 <|
  oCall 286 (fArgs [(kon (.int .i64 1)), G69, G70]) S71 <|
  oVal (fMove G71) S7 <|
  (oVal (fMove G7) S72 <|
  oVal (fMove G0) S73 <|
  oVal (fInt neI G72 G73) S74 <|
  (sCond G74 (oVal (fMove G7) S75 <|
  oVal (fMove G75) S2 <|
  sRet)
  oEnd)))
  (oVal (fMove G0) S76 <|
  oVal (fMove G6) S77 <|
  oCall 286 (fArgs [(kon (.int .i64 0)), G76, G77]) S78 <|
  oVal (fMove G78) S2 <|
  sRet))
  oEnd)))
  (oVal (fMove G0) S79 <|
  oVal (fMove G79) S2 <|
  sRet)))))))))
def c273 : Op8 := (oVal (fMove G0) S2 <|
  oVal (fNot G2) S3 <|
  (sCond G3 (gn yesW (opAt 0 [u, z] Tryz.f273) <|
  gn yesW (opAt 1 [u, z] Tryz.f273) <|
  gn yesW (opAt 2 [u, z] Tryz.f273) <|
  oEnd)
  oEnd))
def c274 : Op8 := (oVal (fMove (kon (.bool false))) S4 <|
  (oVal (fMove G0) S8 <|
  oVal (fNil G8) S9 <|
  oVal (fFA 0 G9) S10 <|
  oVal (fLoad1 G10) S11 <|
  oVal (fMove G1) S12 <|
  oCall 206 (fArgs [G11, G12]) S13 <|
  oVal (fMove G13) S7 <|
  oVal (fExt 0 G7) S14 <|
  oVal (fExt 1 G7) S15 <|
  oVal (fMove G14) S5 <|
  oVal (fMove G15) S6 <|
  (oVal (fMove G0) S16 <|
  oVal (fMove G5) S17 <|
  oVal (fNil G16) S18 <|
  oVal (fFA 0 G18) S19 <|
  oUpd (fSt1 G19 G17) <|
  (oVal (fMove G6) S20 <|
  oVal (fMove G20) S4 <|
  sRet))))
def c275 : Op8 := (oVal (fMove (kon (.str []))) S6 <|
  (oVal (fMove G0) S7 <|
  oVal (fNil G7) S8 <|
  oVal (fFA 0 G8) S9 <|
  oVal (fLoad1 G9) S10 <|
  gn yesW (opAt 4 [u, z] Tryz.f275) <|
  oVal (fMove G11) S12 <|
  oGval (wntF G12 true) (fMove G1) S13 <|
  oGval (wntF G12 true) (fMove G0) S14 <|
  oGval (wntF G12 true) (fNil G14) S15 <|
  oGval (wntF G12 true) (fFA 0 G15) S16 <|
  oGval (wntF G12 true) (fLoad1 G16) S17 <|
  oGval (wntF G12 true) (fIxS G17 (kon (.int .i64 0))) S18 <|
  oGcall (wntF G12 true) 42 (fArgs [G13, G18]) S19 <|
  oGval (wntF G12 true) (fInt geI G19 (kon (.int .i64 0))) S20 <|
  oVal (fPick G12 G20 (kon (.bool false))) S21 <|
  oCall 273 (fArgs [G21]) S22 <|
  (oVal (fMove G0) S23 <|
  oVal (fMove G2) S24 <|
  oCall 253 (fArgs [G23, G24]) S25 <|
  oVal (fMove G25) S6 <|
  sRet)))
def c276 : Op8 := (sBlock 0 (sLoop (thenF (oVal (fMove G0) S3 <|
  oCall 253 (fArgs [G3, (kon (.str [32, 9, 10]))]) S4 <|
  gn yesW (opAt 2 [z, z, z, z] Tryz.f276) <|
  oVal (fMove G5) S6 <|
  oGval (wntF G6 true) (fMove G0) S7 <|
  oGval (wntF G6 true) (fNil G7) S8 <|
  oGval (wntF G6 true) (fFA 0 G8) S9 <|
  oGval (wntF G6 true) (fLoad1 G9) S10 <|
  gn (wntF G6 true) (opAt 8 [z, z, z, z] Tryz.f276) <|
  oVal (fPick G6 G11 (kon (.bool false))) S12 <|
  oVal (fMove G12) S13 <|
  oGval (wntF G13 true) (fMove G0) S14 <|
  oGval (wntF G13 true) (fNil G14) S15 <|
  oGval (wntF G13 true) (fFA 0 G15) S16 <|
  oGval (wntF G13 true) (fLoad1 G16) S17 <|
  oGval (wntF G13 true) (fIxS G17 (kon (.int .i64 0))) S18 <|
  oGcall (wntF G13 true) 42 (fArgs [(kon (.str [97, 98, 99, 100, 101, 102, 103, 104, 105, 106, 107, 108, 109, 110, 111, 112, 113, 114, 115, 116, 117, 118, 119, 120, 121, 122, 65, 66, 67, 68, 69, 70, 71, 72, 73, 74, 75, 76, 77, 78, 79, 80, 81, 82, 83, 84, 85, 86, 87, 88, 89, 90, 95, 58])), G18]) S19 <|
  oGval (wntF G13 true) (fInt geI G19 (kon (.int .i64 0))) S20 <|
  oVal (fPick G13 G20 (kon (.bool false))) S21 <|
  (sCond G21 oEnd
  (sExit 0)))
  (sBlock 1 (oVal (fMove G0) S22 <|
  oCall 275 (fArgs [G22, (kon (.str [97, 98, 99, 100, 101, 102, 103, 104, 105, 106, 107, 108, 109, 110, 111, 112, 113, 114, 115, 116, 117, 118, 119, 120, 121, 122, 65, 66, 67, 68, 69, 70, 71, 72, 73, 74, 75, 76, 77, 78, 79, 80, 81, 82, 83, 84, 85, 86, 87, 88, 89, 90, 95, 58])), (kon (.str [97, 98, 99, 100, 101, 102, 103, 104, 105, 106, 107, 108, 109, 110, 111, 112, 113, 114, 115, 116, 117, 118, 119, 120, 121, 122, 65, 66, 67, 68, 69, 70, 71, 72, 73, 74, 75, 76, 77, 78, 79, 80, 81, 82, 83, 84, 85, 86, 87, 88, 89, 90, 48, 49, 50, 51, 52, 53, 54, 55, 56, 57, 95, 46, 58, 45]))]) S23 <|
  (oVal (fMove G0) S24 <|
  oVal (fNil G24) S25 <|
  oVal (fLoadN 1 G25) S26 <|
  gn yesW (opAt 3 [z, z, u, z, u, z] Tryz.f276) <|
  oUpd (fSt tb 312 G2 G26) <|
  (oCall 253 (fArgs [G2, (kon (.str [32, 9, 10]))]) S27 <|
  (oCall 274 (fArgs [G2, (kon (.str [61]))]) S28 <|
  (sCond G28 (oCall 253 (fArgs [G2, (kon (.str [32, 9, 10]))]) S29 <|
  (oCall 287 (fArgs [G2]) S30 <|
  (oVal (fMove G0) S31 <|
  oVal (fLoadN 1 G2) S32 <|
  oVal (fNil G31) S33 <|
  oUpd (fSt tb 312 G33 G32) <|
  oEnd)))
  oEnd)))))))))
def c277 : Op8 := (oVal (fMove (kon (.int .i64 0))) S6 <|
  oVal (fMove (kon .nili)) S7 <|
  (thenF (oVal (fMove G0) S12 <|
  gn yesW (opAt 1 [u, z, z] Tryz.f277) <|
  (sCond G13 (gn yesW (opAt 0 [u, z, u, z, z] Tryz.f277) <|
  oVal (fMove (kon (.int .i64 0))) S6 <|
  oVal (fMove G14) S7 <|
  sRet)
  oEnd))
  (oVal (fMove (kon (.bool false))) S8 <|
  (thenF (oVal (fMove G0) S15 <|
  oVal (fIxS G15 (kon (.int .i64 0))) S16 <|
  (sBlock 0 (oVal (fIntE G16 (kon (.int .u8 43))) S18 <|
  oVal (fMove G18) S17 <|
  (sCond G17 (oVal (fMove G0) S19 <|
  oVal (fSlS G19 (some (kon (.int .i64 1))) none) S20 <|
  oVal (fMove G20) S0 <|
  oEnd)
  (oVal (fIntE G16 (kon (.int .u8 45))) S22 <|
  oVal (fMove G22) S21 <|
  (sCond G21 (oVal (fMove G0) S23 <|
  oVal (fSlS G23 (some (kon (.int .i64 1))) none) S24 <|
  oVal (fMove G24) S0 <|
  (oVal (fMove (kon (.bool true))) S8 <|
  oEnd))
  oEnd))))))
  (oVal (fMove (kon (.int .u64 0))) S9 <|
  (oVal (fMove G0) S26 <|
  oVal (fMove G1) S27 <|
  oVal (fMove G2) S28 <|
  oCall 288 (fArgs [G26, G27, G28]) S29 <|
  oVal (fMove G29) S25 <|
  oVal (fExt 0 G25) S30 <|
  oVal (fExt 1 G25) S31 <|
  oVal (fMove G30) S9 <|
  oVal (fMove G31) S7 <|
  (thenF (oVal (fMove G7) S32 <|
  gn yesW (opAt 1 [u, u, u, u, u, u, z, z] Tryz.f277) <|
  oVal (fMove G33) S34 <|
  oGval (wntF G34 true) (fMove G7) S35 <|
  gn (wntF G34 true) (opAt 4 [u, u, u, u, u, u, z, z] Tryz.f277) <|
  gn (wntF G34 true) (opAt 5 [u, u, u, u, u, u, z, z] Tryz.f277) <|
  oVal (fPick G34 G37 (kon (.bool false))) S38 <|
  (sCond G38 (oVal (fMove G7) S39 <|
  oVal (fMove (kon (.int .i64 0))) S6 <|
  oVal (fMove G39) S7 <|
  sRet)
  oEnd))
  (thenF (oVal (fMove G2) S40 <|
  oVal (fIntE G40 (kon (.int .i64 0))) S41 <|
  (sCond G41 (oVal (fMove (kon (.int .i64 64))) S2 <|
  oEnd)
  oEnd))
  (oVal (fMove G2) S42 <|
  oVal (fInt subI G42 (kon (.int .i64 1))) S43 <|
  oVal (fCnvI .u64 G43) S44 <|
  gn yesW (opAt 3 [u, u, u, u, u, u, u, u, z] Tryz.f277) <|
  oVal (fMove G45) S10 <|
  (thenF (oVal (fMove G8) S46 <|
  oVal (fNot G46) S47 <|
  oVal (fMove G47) S48 <|
  oGval (wntF G48 true) (fMove G9) S49 <|
  oGval (wntF G48 true) (fMove G10) S50 <|
  oGval (wntF G48 true) (fInt geI G49 G50) S51 <|
  oVal (fPick G48 G51 (kon (.bool false))) S52 <|
  (sCond G52 (oVal (fMove G10) S53 <|
  oVal (fInt subI G53 (kon (.int .u64 1))) S54 <|
  oVal (fCnvI .i64 G54) S55 <|
  gn yesW (opAt 3 [u, u, u, u, u, u, u, u, u, z, u, z, z] Tryz.f277) <|
  oVal (fMove G55) S6 <|
  oVal (fMove G56) S7 <|
  sRet)
  oEnd))
  (thenF (oVal (fMove G8) S57 <|
  oVal (fMove G57) S58 <|
  oGval (wntF G58 true) (fMove G9) S59 <|
  oGval (wntF G58 true) (fMove G10) S60 <|
  oGval (wntF G58 true) (fInt gtI G59 G60) S61 <|
  oVal (fPick G58 G61 (kon (.bool false))) S62 <|
  (sCond G62 (oVal (fMove G10) S63 <|
  oVal (fCnvI .i64 G63) S64 <|
  gn yesW (opAt 2 [u, u, u, u, u, u, u, u, u, u, z, u, z, z] Tryz.f277) <|
  gn yesW (opAt 3 [u, u, u, u, u, u, u, u, u, u, z, u, z, z] Tryz.f277) <|
  oVal (fMove G65) S6 <|
  oVal (fMove G66) S7 <|
  sRet)
  oEnd))
  (oVal (fMove G9) S67 <|
  oVal (fCnvI .i64 G67) S68 <|
  oVal (fMove G68) S11 <|
  (thenF (oVal (fMove G8) S69 <|
  (sCond G69 (oVal (fMove G11) S70 <|
  gn yesW (opAt 1 [u, u, u, u, u, u, u, u, u, u, u, u, z, u, z] Tryz.f277) <|
  oVal (fMove G71) S11 <|
  oEnd)
  oEnd))
  (oVal (fMove G11) S72 <|
  oVal (fMove G72) S6 <|
  oVal (fMove (kon .nili)) S7 <|
  sRet))))))))))))))
def c278 : Op8 := (oVal (fMove (kon .nilp)) S4 <|
  (sDraw <| dVal cP 0 (fMove G0) S5 <|
  dVal cP 1 (fMove G1) S6 <|
  dCall cE 2 289 (fArgs [G6]) S7 <|
  dVal (cL nog) 3 (fLoad1 nog) S8 <|
  gd cP 4 yesW (opAt 4 [u, z] Tryz.f278) <|
  gd cN 5 yesW (opAt 5 [u, z] Tryz.f278) <|
  dVal cP 6 (fMove G10) S4 <|
  dEnd [0, 0, 2, 0, 15, 31, 63] sRet))
def c279 : Op8 := (oVal (fMove (kon .nilp)) S4 <|
  (sDraw <| dVal cP 0 (fMove G0) S5 <|
  dVal cP 1 (fMove G1) S6 <|
  dCall cE 2 289 (fArgs [G6]) S7 <|
  dVal (cL nog) 3 (fLoad1 nog) S8 <|
  gd cP 4 yesW (opAt 4 [u, z] Tryz.f279) <|
  gd cN 5 yesW (opAt 5 [u, z] Tryz.f279) <|
  dVal cP 6 (fMove G10) S4 <|
  dEnd [0, 0, 2, 0, 15, 31, 63] sRet))
def c280 : Op8 := (oVal (fMove (kon .nilp)) S6 <|
  (oVal (fMove G0) S7 <|
  oVal (fMove G1) S8 <|
  oCall 289 (fArgs [G8]) S9 <|
  oVal (fMove G2) S10 <|
  oCall 291 (fArgs [G10]) S11 <|
  gn yesW (opAt 5 [u, z] Tryz.f280) <|
  oCall 290 (fArgs [G12]) S13 <|
  gn yesW (opAt 7 [u, z] Tryz.f280) <|
  gn yesW (opAt 8 [u, z] Tryz.f280) <|
  oVal (fMove G15) S6 <|
  sRet))
def c281 : Op8 := (oVal (fMove (kon .nilp)) S6 <|
  (oVal (fMove G0) S7 <|
  oVal (fMove G1) S8 <|
  oCall 289 (fArgs [G8]) S9 <|
  oVal (fMove G2) S10 <|
  oCall 291 (fArgs [G10]) S11 <|
  gn yesW (opAt 5 [u, z] Tryz.f281) <|
  oCall 290 (fArgs [G12]) S13 <|
  gn yesW (opAt 7 [u, z] Tryz.f281) <|
  gn yesW (opAt 8 [u, z] Tryz.f281) <|
  oVal (fMove G15) S6 <|
  sRet))
def c282 : Op8 := (oVal (fMove (kon .nils)) S4 <|
  (oVal (fMove G0) S10 <|
  oCall 76 (fArgs [G10]) S11 <|
  oVal (fMove G11) S5 <|
  (thenF (oVal (fMove G1) S12 <|
  oVal (fInt ltI G12 (kon (.int .i64 0))) S13 <|
  oVal (fMove G13) S14 <|
  oGval (wntF G14 false) (fMove G1) S15 <|
  oGval (wntF G14 false) (fMove G5) S16 <|
  oGval (wntF G14 false) (fInt gtI G15 G16) S17 <|
  oVal (fPick G14 (kon (.bool true)) G17) S18 <|
  (sCond G18 (oVal (fMove G5) S19 <|
  oVal (fMove G19) S1 <|
  oEnd)
  oEnd))
  (oVal (fMove G1) S20 <|
  gn yesW (opAt 1 [u, u, u, z] Tryz.f282) <|
  oVal (fMove G21) S6 <|
  (thenF (oVal (fMove (kon (.int .i64 0))) S7 <|
  (sBlock 0 (sLoop (thenF (oVal (fMove G7) S22 <|
  oVal (fMove G1) S23 <|
  oVal (fInt subI G23 (kon (.int .i64 1))) S24 <|
  oVal (fInt ltI G22 G24) S25 <|
  (sCond G25 oEnd
  (sExit 0)))
  (thenF (sBlock 1 (oVal (fMove G0) S29 <|
  oCall 74 (fArgs [G29]) S30 <|
  oVal (fMove G30) S28 <|
  oVal (fExt 0 G28) S31 <|
  oVal (fExt 1 G28) S32 <|
  oVal (fMove G31) S8 <|
  oVal (fMove G32) S9 <|
  (oVal (fMove G6) S33 <|
  oVal (fMove G7) S34 <|
  oVal (fMove G0) S35 <|
  oVal (fMove G9) S36 <|
  oVal (fSlS G35 none (some G36)) S37 <|
  oVal (fIAs 1 G33 G34) S38 <|
  oUpd (fSt1 G38 G37) <|
  (oVal (fMove G0) S39 <|
  oVal (fMove G9) S40 <|
  oVal (fSlS G39 (some G40) none) S41 <|
  oVal (fMove G41) S0 <|
  oEnd))))
  (oVal (fMove G7) S26 <|
  oVal (fInt addI G26 (kon (.int .i64 1))) S27 <|
  oVal (fMove G27) S7 <|
  oEnd))))))
  (thenF (oVal (fMove G1) S42 <|
  oVal (fInt gtI G42 (kon (.int .i64 0))) S43 <|
  (sCond G43 (oVal (fMove G6) S44 <|
  oVal (fMove G1) S45 <|
  oVal (fInt subI G45 (kon (.int .i64 1))) S46 <|
  oVal (fMove G0) S47 <|
  oVal (fIAs 1 G44 G46) S48 <|
  oUpd (fSt1 G48 G47) <|
  oEnd)
  oEnd))
  (oVal (fMove G6) S49 <|
  oVal (fMove G49) S4 <|
  sRet)))))))
def c283 : Op8 := (gn yesW (opAt 0 [z] Tryz.f283) <|
  gn yesW (opAt 1 [z] Tryz.f283) <|
  oVal (fMove (kon (.bool false))) S4 <|
  (thenF (oVal (fFA 0 G2) S5 <|
  oVal (fFA 1 G5) S6 <|
  oVal (fLoad1 G6) S7 <|
  gn yesW (opAt 3 [u, z, z] Tryz.f283) <|
  oVal (fFA 0 G3) S9 <|
  oVal (fFA 1 G9) S10 <|
  oVal (fLoad1 G10) S11 <|
  gn yesW (opAt 7 [u, z, z] Tryz.f283) <|
  oVal (fInt addI G8 G12) S13 <|
  gn yesW (opAt 9 [u, z, z] Tryz.f283) <|
  oVal (fInt neI G14 (kon (.int .i64 0))) S15 <|
  oVal (fMove G15) S16 <|
  oGval (wntF G16 false) (fFA 0 G2) S17 <|
  oGval (wntF G16 false) (fFA 1 G17) S18 <|
  oGval (wntF G16 false) (fLoad1 G18) S19 <|
  gn (wntF G16 false) (opAt 15 [u, z, z] Tryz.f283) <|
  oGval (wntF G16 false) (fIntE G20 (kon (.int .i64 0))) S21 <|
  oVal (fPick G16 (kon (.bool true)) G21) S22 <|
  (sCond G22 (oVal (fMove (kon (.bool true))) S4 <|
  sRet)
  oEnd))
  (oVal (fFA 0 G3) S23 <|
  oVal (fFA 2 G23) S24 <|
  oVal (fLoad1 G24) S25 <|
  oVal (fNot G25) S26 <|
  oVal (fMove G26) S27 <|
  oGval (wntF G27 true) (fFA 0 G2) S28 <|
  oGval (wntF G27 true) (fFA 3 G28) S29 <|
  oGval (wntF G27 true) (fLoad1 G29) S30 <|
  oGval (wntF G27 true) (fNot G30) S31 <|
  oVal (fPick G27 G31 (kon (.bool false))) S32 <|
  oVal (fMove G32) S4 <|
  sRet)))
def c284 : Op8 := (oVal (fMove (kon .nils)) S4 <|
  (oVal (fMove G1) S6 <|
  oVal (fCnvI .u32 G6) S7 <|
  oVal (fMove G7) S5 <|
  (sBlock 0 (oVal (fMove G5) S12 <|
  oVal (fInt leI G12 (kon (.int .u32 2047))) S13 <|
  oVal (fMove G13) S11 <|
  (sCond G11 (oVal (fMove G0) S14 <|
  oVal (fMove G1) S15 <|
  gn yesW (opAt 2 [u, u, z, u, z, z] Tryz.f284) <|
  oVal (fCnvI .u8 G16) S17 <|
  gn yesW (opAt 4 [u, u, z, u, z, z] Tryz.f284) <|
  oVal (fMove G1) S19 <|
  oVal (fCnvI .u8 G19) S20 <|
  gn yesW (opAt 7 [u, u, z, u, z, z] Tryz.f284) <|
  gn yesW (opAt 8 [u, u, z, u, z, z] Tryz.f284) <|
  gn yesW (opAt 9 [u, u, z, u, z, z] Tryz.f284) <|
  gn yesW (opAt 10 [u, u, z, u, z, z] Tryz.f284) <|
  oVal (fMove G24) S4 <|
  sRet)
  (thenF (oVal (fMove G5) S26 <|
  oVal (fInt ltI G26 (kon (.int .u32 55296))) S27 <|
  oVal (fMove G27) S25 <|
  (sCond G25 oEnd
  (oVal (fMove G5) S28 <|
  oVal (fInt ltI (kon (.int .u32 57343)) G28) S29 <|
  oVal (fMove G29) S30 <|
  oGval (wntF G30 true) (fMove G5) S31 <|
  oGval (wntF G30 true) (fInt leI G31 (kon (.int .u32 65535))) S32 <|
  oVal (fPick G30 G32 (kon (.bool false))) S33 <|
  oVal (fMove G33) S25 <|
  oEnd)))
  (sCond G25 (oVal (fMove G0) S34 <|
  oVal (fMove G1) S35 <|
  gn yesW (opAt 2 [u, u, z, u, u, u, z, z] Tryz.f284) <|
  oVal (fCnvI .u8 G36) S37 <|
  gn yesW (opAt 4 [u, u, z, u, u, u, z, z] Tryz.f284) <|
  oVal (fMove G1) S39 <|
  gn yesW (opAt 6 [u, u, z, u, u, u, z, z] Tryz.f284) <|
  oVal (fCnvI .u8 G40) S41 <|
  gn yesW (opAt 8 [u, u, z, u, u, u, z, z] Tryz.f284) <|
  gn yesW (opAt 9 [u, u, z, u, u, u, z, z] Tryz.f284) <|
  oVal (fMove G1) S44 <|
  oVal (fCnvI .u8 G44) S45 <|
  gn yesW (opAt 12 [u, u, z, u, u, u, z, z] Tryz.f284) <|
  gn yesW (opAt 13 [u, u, z, u, u, u, z, z] Tryz.f284) <|
  gn yesW (opAt 14 [u, u, z, u, u, u, z, z] Tryz.f284) <|
  gn yesW (opAt 15 [u, u, z, u, u, u, z, z] Tryz.f284) <|
  oVal (fMove G49) S4 <|
  sRet)
  (oVal (fMove G5) S51 <|
  oVal (fInt gtI G51 (kon (.int .u32 65535))) S52 <|
  oVal (fMove G52) S53 <|
  oGval (wntF G53 true) (fMove G5) S54 <|
  oGval (wntF G53 true) (fInt leI G54 (kon (.int .u32 1114111))) S55 <|
  oVal (fPick G53 G55 (kon (.bool false))) S56 <|
  oVal (fMove G56) S50 <|
  (sCond G50 (oVal (fMove G0) S57 <|
  oVal (fMove G1) S58 <|
  gn yesW (opAt 2 [u, u, z, u, u, u, u, u, z, z] Tryz.f284) <|
  oVal (fCnvI .u8 G59) S60 <|
  gn yesW (opAt 4 [u, u, z, u, u, u, u, u, z, z] Tryz.f284) <|
  oVal (fMove G1) S62 <|
  gn yesW (opAt 6 [u, u, z, u, u, u, u, u, z, z] Tryz.f284) <|
  oVal (fCnvI .u8 G63) S64 <|
  gn yesW (opAt 8 [u, u, z, u, u, u, u, u, z, z] Tryz.f284) <|
  gn yesW (opAt 9 [u, u, z, u, u, u, u, u, z, z] Tryz.f284) <|
  oVal (fMove G1) S67 <|
  gn yesW (opAt 11 [u, u, z, u, u, u, u, u, z, z] Tryz.f284) <|
  oVal (fCnvI .u8 G68) S69 <|
  gn yesW (opAt 13 [u, u, z, u, u, u, u, u, z, z] Tryz.f284) <|
  gn yesW (opAt 14 [u, u, z, u, u, u, u, u, z, z] Tryz.f284) <|
  oVal (fMove G1) S72 <|
  oVal (fCnvI .u8 G72) S73 <|
  gn yesW (opAt 17 [u, u, z, u, u, u, u, u, z, z] Tryz.f284) <|
  gn yesW (opAt 18 [u, u, z, u, u, u, u, u, z, z] Tryz.f284) <|
  gn yesW (opAt 19 [u, u, z, u, u, u, u, u, z, z] Tryz.f284) <|
  gn yesW (opAt 20 [u, u, z, u, u, u, u, u, z, z] Tryz.f284) <|
  oVal (fMove G77) S4 <|
  sRet)
  (oVal (fMove G0) S8 <|
  gn yesW (opAt 1 [u, u, z, u, u, u, u, u, u, z] Tryz.f284) <|
  gn yesW (opAt 2 [u, u, z, u, u, u, u, u, u, z] Tryz.f284) <|
  oVal (fMove G10) S4 <|
  sRet))))))))))
def c285 : Op8 := (oVal (fMove (kon .nilp)) S4 <|
  (oVal (fMove (kon (.int .i64 0))) S5 <|
  (oVal (fMove G1) S9 <|
  oVal (fLenL G9) S10 <|
  oVal (fMove G10) S6 <|
  (thenF (sBlock 0 (sLoop (thenF (oVal (fMove G5) S11 <|
  oVal (fMove G6) S12 <|
  oVal (fInt ltI G11 G12) S13 <|
  (sCond G13 oEnd
  (sExit 0)))
  (sBlock 1 (oVal (fMove G5) S14 <|
  oVal (fMove G6) S15 <|
  oVal (fInt addI G14 G15) S16 <|
  oVal (fCnvI .u64 G16) S17 <|
  gn yesW (opAt 4 [u, u, u, z, z, z, u, z, z] Tryz.f285) <|
  oVal (fCnvI .i64 G18) S19 <|
  oVal (fMove G19) S7 <|
  (oVal (fMove G1) S20 <|
  oVal (fMove G7) S21 <|
  oVal (fIAs 5 G20 G21) S22 <|
  oVal (fMove G22) S8 <|
  (thenF (oVal (fMove G8) S23 <|
  oVal (fNil G23) S24 <|
  oVal (fFA 0 G24) S25 <|
  oVal (fLoad1 G25) S26 <|
  oVal (fCnvI .i32 G26) S27 <|
  oVal (fMove G0) S28 <|
  oVal (fInt leI G27 G28) S29 <|
  oVal (fMove G29) S30 <|
  oGval (wntF G30 true) (fMove G0) S31 <|
  oGval (wntF G30 true) (fMove G8) S32 <|
  oGval (wntF G30 true) (fNil G32) S33 <|
  oGval (wntF G30 true) (fFA 1 G33) S34 <|
  oGval (wntF G30 true) (fLoad1 G34) S35 <|
  oGval (wntF G30 true) (fCnvI .i32 G35) S36 <|
  oGval (wntF G30 true) (fInt leI G31 G36) S37 <|
  oVal (fPick G30 G37 (kon (.bool false))) S38 <|
  (sCond G38 (oVal (fMove G8) S39 <|
  oVal (fMove G39) S4 <|
  sRet)
  oEnd))
  (oVal (fMove G0) S40 <|
  oVal (fMove G8) S41 <|
  oVal (fNil G41) S42 <|
  oVal (fFA 0 G42) S43 <|
  oVal (fLoad1 G43) S44 <|
  oVal (fCnvI .i32 G44) S45 <|
  oVal (fInt ltI G40 G45) S46 <|
  (sCond G46 (oVal (fMove G7) S47 <|
  oVal (fMove G47) S6 <|
  oEnd)
  (oVal (fMove G7) S48 <|
  oVal (fInt addI G48 (kon (.int .i64 1))) S49 <|
  oVal (fMove G49) S5 <|
  oEnd))))))))))
  (oVal (fMove (kon .nilp)) S4 <|
  sRet)))))
def c286 : Op8 := (oVal (fMove (kon (.int .i32 0))) S6 <|
  (oVal (fMove G2) S8 <|
  oVal (fMove G0) S9 <|
  oVal (fNil G8) S10 <|
  oVal (fFA 2 G10) S11 <|
  oVal (fIAa 3 1 G11 G9) S12 <|
  oVal (fLoad1 G12) S13 <|
  oVal (fMove G13) S7 <|
  (thenF (oVal (fMove G7) S14 <|
  oVal (fInt gtI G14 (kon (.int .i32 1114111))) S15 <|
  (sCond G15 (oVal (fMove G2) S16 <|
  oVal (fNil G16) S17 <|
  oVal (fFA 0 G17) S18 <|
  oVal (fLoad1 G18) S19 <|
  oVal (fCnvI .i32 G19) S20 <|
  oVal (fMove G1) S21 <|
  oVal (fMove G2) S22 <|
  oVal (fNil G22) S23 <|
  oVal (fFA 0 G23) S24 <|
  oVal (fLoad1 G24) S25 <|
  oVal (fCnvI .i32 G25) S26 <|
  oVal (fInt subI G21 G26) S27 <|
  gn yesW (opAt 12 [u, u, z, u, z, z] Tryz.f286) <|
  oVal (fMove G0) S29 <|
  gn yesW (opAt 14 [u, u, z, u, z, z] Tryz.f286) <|
  oVal (fCnvI .i32 G30) S31 <|
  gn yesW (opAt 16 [u, u, z, u, z, z] Tryz.f286) <|
  oVal (fInt addI G20 G32) S33 <|
  oVal (fMove G33) S6 <|
  sRet)
  oEnd))
  (oVal (fMove G1) S34 <|
  oVal (fMove G7) S35 <|
  oVal (fInt addI G34 G35) S36 <|
  oVal (fMove G36) S6 <|
  sRet))))
def c287 : Op8 := (thenF (gn yesW (opAt 0 [z, z] Tryz.f287) <|
  oVal (fLenL G8) S9 <|
  oVal (fMove (kon (.int .i64 0))) S10 <|
  (sBlock 0 (sLoop (oVal (fInt ltI G10 G9) S11 <|
  (thenF (sCond G11 oEnd
  (sExit 0))
  (thenF (sBlock 1 (oVal (fIAs 1 G8 G10) S12 <|
  oVal (fLoad1 G12) S13 <|
  oVal (fMove G13) S3 <|
  (oVal (fMove G0) S14 <|
  oVal (fMove G3) S15 <|
  oCall 274 (fArgs [G14, G15]) S16 <|
  (sCond G16 (oVal (fMove G0) S18 <|
  oVal (fNil G18) S19 <|
  oVal (fFA 0 G19) S20 <|
  oVal (fLoad1 G20) S21 <|
  oVal (fMove G3) S22 <|
  oCall 38 (fArgs [G21, G22]) S23 <|
  oVal (fMove G23) S17 <|
  oVal (fExt 0 G17) S24 <|
  oVal (fExt 1 G17) S25 <|
  oVal (fExt 2 G17) S26 <|
  oVal (fMove G24) S4 <|
  oVal (fMove G25) S5 <|
  oVal (fMove G26) S6 <|
  (oVal (fMove G6) S27 <|
  oCall 273 (fArgs [G27]) S28 <|
  (oVal (fMove G0) S29 <|
  oVal (fMove G5) S30 <|
  oVal (fNil G29) S31 <|
  oVal (fFA 0 G31) S32 <|
  oUpd (fSt1 G32 G30) <|
  sRet)))
  oEnd))))
  (oVal (fInt addI G10 (kon (.int .i64 1))) S33 <|
  oVal (fMove G33) S10 <|
  oEnd)))))))
  (oVal (fMove G0) S34 <|
  oVal (fNil G34) S35 <|
  oVal (fFA 0 G35) S36 <|
  oVal (fLoad1 G36) S37 <|
  gn yesW (opAt 4 [u, z] Tryz.f287) <|
  oCall 24 (fArgs [G38, (kon (.str [32, 9, 10, 39, 34, 61, 60, 62, 96]))]) S39 <|
  oVal (fMove G39) S7 <|
  (oVal (fMove G7) S40 <|
  oVal (fInt gtI G40 (kon (.int .i64 0))) S41 <|
  oCall 273 (fArgs [G41]) S42 <|
  (oVal (fMove G0) S43 <|
  oVal (fMove G0) S44 <|
  oVal (fNil G44) S45 <|
  oVal (fFA 0 G45) S46 <|
  oVal (fLoad1 G46) S47 <|
  oVal (fMove G7) S48 <|
  oVal (fSlS G47 (some G48) none) S49 <|
  oVal (fNil G43) S50 <|
  oVal (fFA 0 G50) S51 <|
  oUpd (fSt1 G51 G49) <|
  oEnd))))
def c288 : Op8 := (oVal (fMove (kon (.int .u64 0))) S6 <|
  oVal (fMove (kon .nili)) S7 <|
  (thenF (oVal (fMove G0) S18 <|
  gn yesW (opAt 1 [u, z, z] Tryz.f288) <|
  (sCond G19 (gn yesW (opAt 0 [u, z, u, z, z] Tryz.f288) <|
  oVal (fMove (kon (.int .u64 0))) S6 <|
  oVal (fMove G20) S7 <|
  sRet)
  oEnd))
  (oVal (fMove G1) S21 <|
  oVal (fIntE G21 (kon (.int .i64 0))) S22 <|
  oVal (fMove G22) S8 <|
  (oVal (fMove G0) S23 <|
  oVal (fMove G23) S9 <|
  (thenF (sBlock 0 (oVal (fMove G1) S26 <|
  oVal (fInt leI (kon (.int .i64 2)) G26) S27 <|
  oVal (fMove G27) S28 <|
  oGval (wntF G28 true) (fMove G1) S29 <|
  oGval (wntF G28 true) (fInt leI G29 (kon (.int .i64 36))) S30 <|
  oVal (fPick G28 G30 (kon (.bool false))) S31 <|
  oVal (fMove G31) S25 <|
  (sCond G25 oEnd
  (oVal (fMove G1) S33 <|
  oVal (fIntE G33 (kon (.int .i64 0))) S34 <|
  oVal (fMove G34) S32 <|
  (sCond G32 (oVal (fMove (kon (.int .i64 10))) S1 <|
  (oVal (fMove G0) S35 <|
  oVal (fIxS G35 (kon (.int .i64 0))) S36 <|
  oVal (fIntE G36 (kon (.int .u8 48))) S37 <|
  (sCond G37 (sBlock 1 (oVal (fMove G0) S41 <|
  oVal (fLenS G41) S42 <|
  oVal (fInt geI G42 (kon (.int .i64 3))) S43 <|
  oVal (fMove G43) S44 <|
  oGval (wntF G44 true) (fMove G0) S45 <|
  oGval (wntF G44 true) (fIxS G45 (kon (.int .i64 1))) S46 <|
  oGcall (wntF G44 true) 292 (fArgs [G46]) S47 <|
  oGval (wntF G44 true) (fIntE G47 (kon (.int .u8 98))) S48 <|
  oVal (fPick G44 G48 (kon (.bool false))) S49 <|
  oVal (fMove G49) S40 <|
  (sCond G40 (oVal (fMove (kon (.int .i64 2))) S1 <|
  (oVal (fMove G0) S50 <|
  oVal (fSlS G50 (some (kon (.int .i64 2))) none) S51 <|
  oVal (fMove G51) S0 <|
  oEnd))
  (oVal (fMove G0) S53 <|
  oVal (fLenS G53) S54 <|
  oVal (fInt geI G54 (kon (.int .i64 3))) S55 <|
  oVal (fMove G55) S56 <|
  oGval (wntF G56 true) (fMove G0) S57 <|
  oGval (wntF G56 true) (fIxS G57 (kon (.int .i64 1))) S58 <|
  oGcall (wntF G56 true) 292 (fArgs [G58]) S59 <|
  oGval (wntF G56 true) (fIntE G59 (kon (.int .u8 111))) S60 <|
  oVal (fPick G56 G60 (kon (.bool false))) S61 <|
  oVal (fMove G61) S52 <|
  (sCond G52 (oVal (fMove (kon (.int .i64 8))) S1 <|
  (oVal (fMove G0) S62 <|
  oVal (fSlS G62 (some (kon (.int .i64 2))) none) S63 <|
  oVal (fMove G63) S0 <|
  oEnd))
  (oVal (fMove G0) S65 <|
  oVal (fLenS G65) S66 <|
  oVal (fInt geI G66 (kon (.int .i64 3))) S67 <|
  oVal (fMove G67) S68 <|
  oGval (wntF G68 true) (fMove G0) S69 <|
  oGval (wntF G68 true) (fIxS G69 (kon (.int .i64 1))) S70 <|
  oGcall (wntF G68 true) 292 (fArgs [G70]) S71 <|
  oGval (wntF G68 true) (fIntE G71 (kon (.int .u8 120))) S72 <|
  oVal (fPick G68 G72 (kon (.bool false))) S73 <|
  oVal (fMove G73) S64 <|
  (sCond G64 (oVal (fMove (kon (.int .i64 16))) S1 <|
  (oVal (fMove G0) S74 <|
  oVal (fSlS G74 (some (kon (.int .i64 2))) none) S75 <|
  oVal (fMove G75) S0 <|
  oEnd))
  (oVal (fMove (kon (.int .i64 8))) S1 <|
  (oVal (fMove G0) S38 <|
  oVal (fSlS G38 (some (kon (.int .i64 1))) none) S39 <|
  oVal (fMove G39) S0 <|
  oEnd)))))))))
  oEnd)))
  (gn yesW (opAt 0 [u, u, u, u, z, z, u, u, u, u, z] Tryz.f288) <|
  oVal (fMove (kon (.int .u64 0))) S6 <|
  oVal (fMove G24) S7 <|
  sRet))))))
  (thenF (oVal (fMove G2) S76 <|
  oVal (fIntE G76 (kon (.int .i64 0))) S77 <|
  (sCond G77 (oVal (fMove (kon (.int .i64 64))) S2 <|
  oEnd)
  (oVal (fMove G2) S78 <|
  oVal (fInt ltI G78 (kon (.int .i64 0))) S79 <|
  oVal (fMove G79) S80 <|
  oGval (wntF G80 false) (fMove G2) S81 <|
  oGval (wntF G80 false) (fInt gtI G81 (kon (.int .i64 64))) S82 <|
  oVal (fPick G80 (kon (.bool true)) G82) S83 <|
  (sCond G83 (gn yesW (opAt 0 [u, u, u, u, u, z, u, u, u, z, z] Tryz.f288) <|
  oVal (fMove (kon (.int .u64 0))) S6 <|
  oVal (fMove G84) S7 <|
  sRet)
  oEnd))))
  (oVal (fMove (kon (.int .u64 0))) S10 <|
  (thenF (oVal (fMove G1) S85 <|
  (sBlock 2 (oVal (fIntE G85 (kon (.int .i64 10))) S91 <|
  oVal (fMove G91) S90 <|
  (sCond G90 (oVal (fMove (kon (.int .u64 1844674407370955162))) S10 <|
  oEnd)
  (oVal (fIntE G85 (kon (.int .i64 16))) S93 <|
  oVal (fMove G93) S92 <|
  (sCond G92 (oVal (fMove (kon (.int .u64 1152921504606846976))) S10 <|
  oEnd)
  (oVal (fMove G1) S86 <|
  oVal (fCnvI .u64 G86) S87 <|
  gn yesW (opAt 2 [u, u, u, u, u, u, u, z, u, z, u, u, u, u] Tryz.f288) <|
  oVal (fInt addI G88 (kon (.int .u64 1))) S89 <|
  oVal (fMove G89) S10 <|
  oEnd)))))))
  (oVal (fMove G2) S94 <|
  oVal (fCnvI .u64 G94) S95 <|
  gn yesW (opAt 2 [u, u, u, u, u, u, u, u, z] Tryz.f288) <|
  oVal (fInt subI G96 (kon (.int .u64 1))) S97 <|
  oVal (fMove G97) S11 <|
  (oVal (fMove (kon (.bool false))) S12 <|
  (oVal (fMove (kon (.int .u64 0))) S13 <|
  (thenF (oVal (fMove G0) S98 <|
  gn yesW (opAt 1 [u, u, u, u, u, u, u, u, u, u, u, z, z] Tryz.f288) <|
  oVal (fLenL G99) S100 <|
  oVal (fMove (kon (.int .i64 0))) S101 <|
  (sBlock 3 (sLoop (oVal (fInt ltI G101 G100) S102 <|
  (thenF (sCond G102 oEnd
  (sExit 3))
  (thenF (sBlock 4 (oVal (fIAs 1 G99 G101) S103 <|
  oVal (fLoad1 G103) S104 <|
  oVal (fMove G104) S15 <|
  (oVal (fMove (kon (.int .u8 0))) S16 <|
  (thenF (sBlock 5 (oVal (fMove G15) S107 <|
  oVal (fIntE G107 (kon (.int .u8 95))) S108 <|
  oVal (fMove G108) S109 <|
  oGval (wntF G109 true) (fMove G8) S110 <|
  oVal (fPick G109 G110 (kon (.bool false))) S111 <|
  oVal (fMove G111) S106 <|
  (sCond G106 (oVal (fMove (kon (.bool true))) S12 <|
  (sExit 4))
  (oVal (fMove G15) S113 <|
  oVal (fInt leI (kon (.int .u8 48)) G113) S114 <|
  oVal (fMove G114) S115 <|
  oGval (wntF G115 true) (fMove G15) S116 <|
  oGval (wntF G115 true) (fInt leI G116 (kon (.int .u8 57))) S117 <|
  oVal (fPick G115 G117 (kon (.bool false))) S118 <|
  oVal (fMove G118) S112 <|
  (sCond G112 (oVal (fMove G15) S119 <|
  oVal (fInt subI G119 (kon (.int .u8 48))) S120 <|
  oVal (fMove G120) S16 <|
  oEnd)
  (oVal (fMove G15) S122 <|
  oCall 292 (fArgs [G122]) S123 <|
  oVal (fInt leI (kon (.int .u8 97)) G123) S124 <|
  oVal (fMove G124) S125 <|
  oGval (wntF G125 true) (fMove G15) S126 <|
  oGcall (wntF G125 true) 292 (fArgs [G126]) S127 <|
  oGval (wntF G125 true) (fInt leI G127 (kon (.int .u8 122))) S128 <|
  oVal (fPick G125 G128 (kon (.bool false))) S129 <|
  oVal (fMove G129) S121 <|
  (sCond G121 (oVal (fMove G15) S130 <|
  oCall 292 (fArgs [G130]) S131 <|
  oVal (fInt subI G131 (kon (.int .u8 97))) S132 <|
  oVal (fInt addI G132 (kon (.int .u8 10))) S133 <|
  oVal (fMove G133) S16 <|
  oEnd)
  (gn yesW (opAt 0 [u, u, u, u, u, u, u, u, u, u, u, z, u, z, z, u, u, z, z, u, u, z, z, u, u, u, u, u, u, z] Tryz.f288) <|
  oVal (fMove (kon (.int .u64 0))) S6 <|
  oVal (fMove G105) S7 <|
  sRet))))))))
  (thenF (oVal (fMove G16) S134 <|
  oVal (fMove G1) S135 <|
  oVal (fCnvI .u8 G135) S136 <|
  oVal (fInt geI G134 G136) S137 <|
  (sCond G137 (gn yesW (opAt 0 [u, u, u, u, u, u, u, u, u, u, u, z, u, z, z, u, u, z, z, u, u, u, z, u, z, z] Tryz.f288) <|
  oVal (fMove (kon (.int .u64 0))) S6 <|
  oVal (fMove G138) S7 <|
  sRet)
  oEnd))
  (thenF (oVal (fMove G13) S139 <|
  oVal (fMove G10) S140 <|
  oVal (fInt geI G139 G140) S141 <|
  (sCond G141 (oVal (fMove G11) S142 <|
  gn yesW (opAt 1 [u, u, u, u, u, u, u, u, u, u, u, z, u, z, z, u, u, z, z, u, u, u, u, z, u, z, z] Tryz.f288) <|
  oVal (fMove G142) S6 <|
  oVal (fMove G143) S7 <|
  sRet)
  oEnd))
  (oVal (fMove G13) S144 <|
  oVal (fMove G1) S145 <|
  oVal (fCnvI .u64 G145) S146 <|
  oVal (fInt mulI G144 G146) S147 <|
  oVal (fMove G147) S13 <|
  (oVal (fMove G13) S148 <|
  oVal (fMove G16) S149 <|
  oVal (fCnvI .u64 G149) S150 <|
  oVal (fInt addI G148 G150) S151 <|
  oVal (fMove G151) S17 <|
  (thenF (oVal (fMove G17) S152 <|
  oVal (fMove G13) S153 <|
  oVal (fInt ltI G152 G153) S154 <|
  oVal (fMove G154) S155 <|
  oGval (wntF G155 false) (fMove G17) S156 <|
  oGval (wntF G155 false) (fMove G11) S157 <|
  oGval (wntF G155 false) (fInt gtI G156 G157) S158 <|
  oVal (fPick G155 (kon (.bool true)) G158) S159 <|
  (sCond G159 (oVal (fMove G11) S160 <|
  gn yesW (opAt 1 [u, u, u, u, u, u, u, u, u, u, u, z, u, z, z, u, u, z, z, u, u, u, u, u, u, u, z, u, z, z] Tryz.f288) <|
  oVal (fMove G160) S6 <|
  oVal (fMove G161) S7 <|
  sRet)
  oEnd))
  (oVal (fMove G17) S162 <|
  oVal (fMove G162) S13 <|
  oEnd))))))))))
  (oVal (fInt addI G101 (kon (.int .i64 1))) S163 <|
  oVal (fMove G163) S101 <|
  oEnd)))))))
  (thenF (oVal (fMove G12) S164 <|
  oVal (fMove G164) S165 <|
  oGval (wntF G165 true) (fMove G9) S166 <|
  oGcall (wntF G165 true) 293 (fArgs [G166]) S167 <|
  oGval (wntF G165 true) (fNot G167) S168 <|
  oVal (fPick G165 G168 (kon (.bool false))) S169 <|
  (sCond G169 (gn yesW (opAt 0 [u, u, u, u, u, u, u, u, u, u, u, u, z, u, z, z] Tryz.f288) <|
  oVal (fMove (kon (.int .u64 0))) S6 <|
  oVal (fMove G170) S7 <|
  sRet)
  oEnd))
  (oVal (fMove G13) S171 <|
  oVal (fMove G171) S6 <|
  oVal (fMove (kon .nili)) S7 <|
  sRet))))))))))))))
def c289 : Op8 := (oVal (fMove (kon (.str []))) S2 <|
  (thenF (oVal (fMove G0) S4 <|
  oVal (fLenS G4) S5 <|
  oVal (fIntE G5 (kon (.int .i64 0))) S6 <|
  (sCond G6 (oVal (fMove (kon (.str []))) S2 <|
  sRet)
  oEnd))
  (oVal (fMove G0) S7 <|
  oVal (fLenS G7) S8 <|
  gn yesW (opAt 2 [u, u, z] Tryz.f289) <|
  oVal (fMove G9) S3 <|
  (oVal (fMove G3) S10 <|
  oVal (fMove G0) S11 <|
  gn yesW (opAt 2 [u, u, u, z] Tryz.f289) <|
  (oVal (fMove G3) S13 <|
  oVal (fIAs 1 G13 (kon (.int .i64 0))) S14 <|
  oVal (fMove G3) S15 <|
  oVal (fLenL G15) S16 <|
  gn yesW (opAt 4 [u, u, u, u, z] Tryz.f289) <|
  oVal (fMove G17) S2 <|
  sRet)))))
def c290 : Op8 := (oVal (fMove (kon .nili)) S2 <|
  (oVal (fMove G0) S3 <|
  gn yesW (opAt 1 [u, z] Tryz.f290) <|
  gn yesW (opAt 2 [u, z] Tryz.f290) <|
  gn yesW (opAt 3 [u, z] Tryz.f290) <|
  oVal (fMove G6) S2 <|
  sRet))
def c291 : Op8 := (oVal (fMove (kon (.str []))) S2 <|
  (oVal (fMove G0) S3 <|
  oCall 294 (fArgs [G3]) S4 <|
  oVal (fMove G4) S2 <|
  sRet))
def c292 : Op8 := (oVal (fMove (kon (.int .u8 0))) S2 <|
  (oVal (fMove G0) S3 <|
  gn yesW (opAt 1 [u, z] Tryz.f292) <|
  oVal (fMove G4) S2 <|
  sRet))
def c293 : Op8 := (oVal (fMove (kon (.bool false))) S2 <|
  (oVal (fMove (kon (.int .i32 94))) S3 <|
  (oVal (fMove (kon (.int .i64 0))) S4 <|
  (thenF (oVal (fMove G0) S6 <|
  oVal (fLenS G6) S7 <|
  oVal (fInt geI G7 (kon (.int .i64 1))) S8 <|
  oVal (fMove G8) S9 <|
  oGval (wntF G9 true) (fMove G0) S10 <|
  oGval (wntF G9 true) (fIxS G10 (kon (.int .i64 0))) S11 <|
  oGval (wntF G9 true) (fIntE G11 (kon (.int .u8 45))) S12 <|
  oGval (wntF G9 true) (fMove G12) S13 <|
  oGval (wntF G13 false) (fMove G0) S14 <|
  oGval (wntF G13 false) (fIxS G14 (kon (.int .i64 0))) S15 <|
  oGval (wntF G13 false) (fIntE G15 (kon (.int .u8 43))) S16 <|
  oGval (wntF G9 true) (fPick G13 (kon (.bool true)) G16) S17 <|
  oVal (fPick G9 G17 (kon (.bool false))) S18 <|
  (sCond G18 (oVal (fMove G0) S19 <|
  oVal (fSlS G19 (some (kon (.int .i64 1))) none) S20 <|
  oVal (fMove G20) S0 <|
  oEnd)
  oEnd))
  (oVal (fMove (kon (.bool false))) S5 <|
  (thenF (oVal (fMove G0) S21 <|
  oVal (fLenS G21) S22 <|
  oVal (fInt geI G22 (kon (.int .i64 2))) S23 <|
  oVal (fMove G23) S24 <|
  oGval (wntF G24 true) (fMove G0) S25 <|
  oGval (wntF G24 true) (fIxS G25 (kon (.int .i64 0))) S26 <|
  oGval (wntF G24 true) (fIntE G26 (kon (.int .u8 48))) S27 <|
  oVal (fPick G24 G27 (kon (.bool false))) S28 <|
  oVal (fMove G28) S29 <|
  oGval (wntF G29 true) (fMove G0) S30 <|
  oGval (wntF G29 true) (fIxS G30 (kon (.int .i64 1))) S31 <|
  oGcall (wntF G29 true) 292 (fArgs [G31]) S32 <|
  oGval (wntF G29 true) (fIntE G32 (kon (.int .u8 98))) S33 <|
  oGval (wntF G29 true) (fMove G33) S34 <|
  oGval (wntF G34 false) (fMove G0) S35 <|
  oGval (wntF G34 false) (fIxS G35 (kon (.int .i64 1))) S36 <|
  oGcall (wntF G34 false) 292 (fArgs [G36]) S37 <|
  oGval (wntF G34 false) (fIntE G37 (kon (.int .u8 111))) S38 <|
  oGval (wntF G29 true) (fPick G34 (kon (.bool true)) G38) S39 <|
  oGval (wntF G29 true) (fMove G39) S40 <|
  oGval (wntF G40 false) (fMove G0) S41 <|
  oGval (wntF G40 false) (fIxS G41 (kon (.int .i64 1))) S42 <|
  oGcall (wntF G40 false) 292 (fArgs [G42]) S43 <|
  oGval (wntF G40 false) (fIntE G43 (kon (.int .u8 120))) S44 <|
  oGval (wntF G29 true) (fPick G40 (kon (.bool true)) G44) S45 <|
  oVal (fPick G29 G45 (kon (.bool false))) S46 <|
  (sCond G46 (oVal (fMove (kon (.int .i64 2))) S4 <|
  (oVal (fMove (kon (.int .i32 48))) S3 <|
  (oVal (fMove G0) S47 <|
  oVal (fIxS G47 (kon (.int .i64 1))) S48 <|
  oCall 292 (fArgs [G48]) S49 <|
  oVal (fIntE G49 (kon (.int .u8 120))) S50 <|
  oVal (fMove G50) S5 <|
  oEnd)))
  oEnd))
  (thenF (sBlock 0 (sLoop (thenF (oVal (fMove G4) S51 <|
  oVal (fMove G0) S52 <|
  oVal (fLenS G52) S53 <|
  oVal (fInt ltI G51 G53) S54 <|
  (sCond G54 oEnd
  (sExit 0)))
  (thenF (sBlock 1 (thenF (oVal (fMove G0) S57 <|
  oVal (fMove G4) S58 <|
  oVal (fIxS G57 G58) S59 <|
  oVal (fInt leI (kon (.int .u8 48)) G59) S60 <|
  oVal (fMove G60) S61 <|
  oGval (wntF G61 true) (fMove G0) S62 <|
  oGval (wntF G61 true) (fMove G4) S63 <|
  oGval (wntF G61 true) (fIxS G62 G63) S64 <|
  oGval (wntF G61 true) (fInt leI G64 (kon (.int .u8 57))) S65 <|
  oVal (fPick G61 G65 (kon (.bool false))) S66 <|
  oVal (fMove G66) S67 <|
  oGval (wntF G67 false) (fMove G5) S68 <|
  oGval (wntF G67 false) (fMove G68) S69 <|
  oGval (wntF G69 true) (fMove G0) S70 <|
  oGval (wntF G69 true) (fMove G4) S71 <|
  oGval (wntF G69 true) (fIxS G70 G71) S72 <|
  oGcall (wntF G69 true) 292 (fArgs [G72]) S73 <|
  oGval (wntF G69 true) (fInt leI (kon (.int .u8 97)) G73) S74 <|
  oGval (wntF G67 false) (fPick G69 G74 (kon (.bool false))) S75 <|
  oGval (wntF G67 false) (fMove G75) S76 <|
  oGval (wntF G76 true) (fMove G0) S77 <|
  oGval (wntF G76 true) (fMove G4) S78 <|
  oGval (wntF G76 true) (fIxS G77 G78) S79 <|
  oGcall (wntF G76 true) 292 (fArgs [G79]) S80 <|
  oGval (wntF G76 true) (fInt leI G80 (kon (.int .u8 102))) S81 <|
  oGval (wntF G67 false) (fPick G76 G81 (kon (.bool false))) S82 <|
  oVal (fPick G67 (kon (.bool true)) G82) S83 <|
  (sCond G83 (oVal (fMove (kon (.int .i32 48))) S3 <|
  (sExit 1))
  oEnd))
  (thenF (oVal (fMove G0) S84 <|
  oVal (fMove G4) S85 <|
  oVal (fIxS G84 G85) S86 <|
  oVal (fIntE G86 (kon (.int .u8 95))) S87 <|
  (sCond G87 (thenF (oVal (fMove G3) S88 <|
  oVal (fInt neI G88 (kon (.int .i32 48))) S89 <|
  (sCond G89 (oVal (fMove (kon (.bool false))) S2 <|
  sRet)
  oEnd))
  (oVal (fMove (kon (.int .i32 95))) S3 <|
  (sExit 1)))
  oEnd))
  (thenF (oVal (fMove G3) S90 <|
  oVal (fIntE G90 (kon (.int .i32 95))) S91 <|
  (sCond G91 (oVal (fMove (kon (.bool false))) S2 <|
  sRet)
  oEnd))
  (oVal (fMove (kon (.int .i32 33))) S3 <|
  oEnd)))))
  (oVal (fMove G4) S55 <|
  oVal (fInt addI G55 (kon (.int .i64 1))) S56 <|
  oVal (fMove G56) S4 <|
  oEnd)))))
  (oVal (fMove G3) S92 <|
  oVal (fInt neI G92 (kon (.int .i32 95))) S93 <|
  oVal (fMove G93) S2 <|
  sRet))))))))
def c294 : Op8 := (oVal (fMove (kon (.str []))) S2 <|
  (oVal (fMove G0) S3 <|
  oCall 295 (fArgs [G3, (kon (.int .i64 10))]) S4 <|
  oVal (fMove G4) S2 <|
  sRet))
def c295 : Op8 := (oVal (fMove (kon (.str []))) S4 <|
  (thenF (oVal (fMove G1) S10 <|
  oVal (fIntE G10 (kon (.int .i64 10))) S11 <|
  (sCond G11 (thenF (oVal (fMove G0) S12 <|
  oVal (fInt leI (kon (.int .i64 0)) G12) S13 <|
  oVal (fMove G13) S14 <|
  oGval (wntF G14 true) (fMove G0) S15 <|
  oGval (wntF G14 true) (fInt ltI G15 (kon (.int .i64 100))) S16 <|
  oVal (fPick G14 G16 (kon (.bool false))) S17 <|
  (sCond G17 (oVal (fMove G0) S18 <|
  oCall 296 (fArgs [G18]) S19 <|
  oVal (fMove G19) S4 <|
  sRet)
  oEnd))
  (gn yesW (opAt 0 [u, z, u, z, u, z] Tryz.f295) <|
  (oVal (fMove G0) S20 <|
  oVal (fCnvI .u64 G20) S21 <|
  oVal (fMove G21) S6 <|
  (thenF (oVal (fMove G0) S22 <|
  oVal (fInt ltI G22 (kon (.int .i64 0))) S23 <|
  (sCond G23 (oVal (fMove G6) S24 <|
  gn yesW (opAt 1 [u, z, u, z, u, u, u, z, u, z] Tryz.f295) <|
  oVal (fMove G25) S6 <|
  oEnd)
  oEnd))
  (oVal (fMove G6) S26 <|
  oCall 297 (fArgs [G26]) S27 <|
  oVal (fMove G27) S7 <|
  (oVal (fMove G7) S28 <|
  oVal (fInt addI (kon (.int .i64 1)) G28) S29 <|
  gn yesW (opAt 2 [u, z, u, z, u, u, u, u, u, z] Tryz.f295) <|
  oVal (fMove G6) S31 <|
  oCall 298 (fArgs [G30, G31]) S32 <|
  (thenF (oVal (fMove G0) S33 <|
  oVal (fInt ltI G33 (kon (.int .i64 0))) S34 <|
  (sCond G34 (oVal (fIAa 24 1 G5 (kon (.int .i64 0))) S35 <|
  oUpd (fSt1 G35 (kon (.int .u8 45))) <|
  (oVal (fMove G7) S36 <|
  oVal (fInt addI (kon (.int .i64 1)) G36) S37 <|
  gn yesW (opAt 2 [u, z, u, z, u, u, u, u, u, u, z, u, z, u, z] Tryz.f295) <|
  gn yesW (opAt 3 [u, z, u, z, u, u, u, u, u, u, z, u, z, u, z] Tryz.f295) <|
  oVal (fMove G39) S4 <|
  sRet))
  oEnd))
  (oVal (fMove G7) S40 <|
  oVal (fInt addI (kon (.int .i64 1)) G40) S41 <|
  gn yesW (opAt 2 [u, z, u, z, u, u, u, u, u, u, u, z] Tryz.f295) <|
  gn yesW (opAt 3 [u, z, u, z, u, u, u, u, u, u, u, z] Tryz.f295) <|
  oVal (fMove G43) S4 <|
  sRet))))))))
  oEnd))
  (oVal (fMove G0) S45 <|
  oVal (fCnvI .u64 G45) S46 <|
  oVal (fMove G1) S47 <|
  oVal (fMove G0) S48 <|
  oVal (fInt ltI G48 (kon (.int .i64 0))) S49 <|
  oCall 299 (fArgs [(kon .nils), G46, G47, G49, (kon (.bool false))]) S50 <|
  oVal (fMove G50) S44 <|
  oVal (fExt 0 G44) S51 <|
  oVal (fExt 1 G44) S52 <|
  oVal (fMove G51) S8 <|
  oVal (fMove G52) S9 <|
  (oVal (fMove G9) S53 <|
  oVal (fMove G53) S4 <|
  sRet))))
def c296 : Op8 := (oVal (fMove (kon (.str []))) S2 <|
  (thenF (oVal (fMove G0) S3 <|
  oVal (fInt ltI G3 (kon (.int .i64 10))) S4 <|
  (sCond G4 (oVal (fMove G0) S5 <|
  oVal (fMove G0) S6 <|
  oVal (fInt addI G6 (kon (.int .i64 1))) S7 <|
  oVal (fSlS (kon (.str [48, 49, 50, 51, 52, 53, 54, 55, 56, 57, 97, 98, 99, 100, 101, 102, 103, 104, 105, 106, 107, 108, 109, 110, 111, 112, 113, 114, 115, 116, 117, 118, 119, 120, 121, 122])) (some G5) (some G7)) S8 <|
  oVal (fMove G8) S2 <|
  sRet)
  oEnd))
  (oVal (fMove G0) S9 <|
  oVal (fInt mulI G9 (kon (.int .i64 2))) S10 <|
  oVal (fMove G0) S11 <|
  oVal (fInt mulI G11 (kon (.int .i64 2))) S12 <|
  oVal (fInt addI G12 (kon (.int .i64 2))) S13 <|
  oVal (fSlS (kon (.str [48, 48, 48, 49, 48, 50, 48, 51, 48, 52, 48, 53, 48, 54, 48, 55, 48, 56, 48, 57, 49, 48, 49, 49, 49, 50, 49, 51, 49, 52, 49, 53, 49, 54, 49, 55, 49, 56, 49, 57, 50, 48, 50, 49, 50, 50, 50, 51, 50, 52, 50, 53, 50, 54, 50, 55, 50, 56, 50, 57, 51, 48, 51, 49, 51, 50, 51, 51, 51, 52, 51, 53, 51, 54, 51, 55, 51, 56, 51, 57, 52, 48, 52, 49, 52, 50, 52, 51, 52, 52, 52, 53, 52, 54, 52, 55, 52, 56, 52, 57, 53, 48, 53, 49, 53, 50, 53, 51, 53, 52, 53, 53, 53, 54, 53, 55, 53, 56, 53, 57, 54, 48, 54, 49, 54, 50, 54, 51, 54, 52, 54, 53, 54, 54, 54, 55, 54, 56, 54, 57, 55, 48, 55, 49, 55, 50, 55, 51, 55, 52, 55, 53, 55, 54, 55, 55, 55, 56, 55, 57, 56, 48, 56, 49, 56, 50, 56, 51, 56, 52, 56, 53, 56, 54, 56, 55, 56, 56, 56, 57, 57, 48, 57, 49, 57, 50, 57, 51, 57, 52, 57, 53, 57, 54, 57, 55, 57, 56, 57, 57])) (some G10) (some G13)) S14 <|
  oVal (fMove G14) S2 <|
  sRet)))
def c297 : Op8 := (oVal (fMove (kon (.int .i64 0))) S2 <|
  (oVal (fMove G0) S4 <|
  oCall 301 (fArgs [G4]) S5 <|
  oCall 300 (fArgs [G5]) S6 <|
  oVal (fMove G6) S3 <|
  (oVal (fMove G3) S7 <|
  oVal (fMove G0) S8 <|
  oVal (fMove G3) S9 <|
  oVal (fIAa 20 1 nog G9) S10 <|
  oVal (fLoad1 G10) S11 <|
  oVal (fInt geI G8 G11) S12 <|
  oCall 302 (fArgs [G12]) S13 <|
  oVal (fInt addI G7 G13) S14 <|
  oVal (fMove G14) S2 <|
  sRet)))
def c298 : Op8 := (oVal (fMove G0) S17 <|
  oVal (fLenL G17) S18 <|
  oVal (fMove G18) S4 <|
  (thenF (sBlock 0 (sLoop (thenF (oVal (fMove G4) S19 <|
  oVal (fInt geI G19 (kon (.int .i64 8))) S20 <|
  (sCond G20 oEnd
  (sExit 0)))
  (sBlock 1 (oVal (fMove G1) S21 <|
  gn yesW (opAt 1 [u, z, z, z, u, z, z] Tryz.f298) <|
  oVal (fCnvI .u32 G22) S23 <|
  oVal (fMove G23) S5 <|
  (oVal (fMove G1) S24 <|
  gn yesW (opAt 1 [u, z, z, z, u, z, u, z] Tryz.f298) <|
  oVal (fMove G25) S1 <|
  (oVal (fMove G5) S26 <|
  gn yesW (opAt 1 [u, z, z, z, u, z, u, u, z] Tryz.f298) <|
  oVal (fMove G5) S28 <|
  gn yesW (opAt 3 [u, z, z, z, u, z, u, u, z] Tryz.f298) <|
  oVal (fMove G27) S6 <|
  oVal (fMove G29) S7 <|
  (oVal (fMove G7) S30 <|
  gn yesW (opAt 1 [u, z, z, z, u, z, u, u, u, z] Tryz.f298) <|
  oVal (fInt mulI G31 (kon (.int .u32 2))) S32 <|
  oVal (fMove G7) S33 <|
  gn yesW (opAt 4 [u, z, z, z, u, z, u, u, u, z] Tryz.f298) <|
  oVal (fInt mulI G34 (kon (.int .u32 2))) S35 <|
  oVal (fMove G32) S8 <|
  oVal (fMove G35) S9 <|
  (oVal (fMove G6) S36 <|
  gn yesW (opAt 1 [u, z, z, z, u, z, u, u, u, u, z] Tryz.f298) <|
  oVal (fInt mulI G37 (kon (.int .u32 2))) S38 <|
  oVal (fMove G6) S39 <|
  gn yesW (opAt 4 [u, z, z, z, u, z, u, u, u, u, z] Tryz.f298) <|
  oVal (fInt mulI G40 (kon (.int .u32 2))) S41 <|
  oVal (fMove G38) S10 <|
  oVal (fMove G41) S11 <|
  (sDraw <| dVal cP 0 (fMove G0) S42 <|
  dVal cP 1 (fMove G4) S43 <|
  dVal cP 2 (fInt subI G43 (kon (.int .i64 1))) S44 <|
  dVal cP 3 (fMove G0) S45 <|
  dVal cP 4 (fMove G4) S46 <|
  dVal cP 5 (fInt subI G46 (kon (.int .i64 2))) S47 <|
  dVal cP 6 (fMove G9) S48 <|
  dVal cP 7 (fInt addI G48 (kon (.int .u32 1))) S49 <|
  dVal cP 8 (fIxS (kon (.str [48, 48, 48, 49, 48, 50, 48, 51, 48, 52, 48, 53, 48, 54, 48, 55, 48, 56, 48, 57, 49, 48, 49, 49, 49, 50, 49, 51, 49, 52, 49, 53, 49, 54, 49, 55, 49, 56, 49, 57, 50, 48, 50, 49, 50, 50, 50, 51, 50, 52, 50, 53, 50, 54, 50, 55, 50, 56, 50, 57, 51, 48, 51, 49, 51, 50, 51, 51, 51, 52, 51, 53, 51, 54, 51, 55, 51, 56, 51, 57, 52, 48, 52, 49, 52, 50, 52, 51, 52, 52, 52, 53, 52, 54, 52, 55, 52, 56, 52, 57, 53, 48, 53, 49, 53, 50, 53, 51, 53, 52, 53, 53, 53, 54, 53, 55, 53, 56, 53, 57, 54, 48, 54, 49, 54, 50, 54, 51, 54, 52, 54, 53, 54, 54, 54, 55, 54, 56, 54, 57, 55, 48, 55, 49, 55, 50, 55, 51, 55, 52, 55, 53, 55, 54, 55, 55, 55, 56, 55, 57, 56, 48, 56, 49, 56, 50, 56, 51, 56, 52, 56, 53, 56, 54, 56, 55, 56, 56, 56, 57, 57, 48, 57, 49, 57, 50, 57, 51, 57, 52, 57, 53, 57, 54, 57, 55, 57, 56, 57, 57])) G49) S50 <|
  dVal cP 9 (fMove G9) S51 <|
  dVal cP 10 (fIxS (kon (.str [48, 48, 48, 49, 48, 50, 48, 51, 48, 52, 48, 53, 48, 54, 48, 55, 48, 56, 48, 57, 49, 48, 49, 49, 49, 50, 49, 51, 49, 52, 49, 53, 49, 54, 49, 55, 49, 56, 49, 57, 50, 48, 50, 49, 50, 50, 50, 51, 50, 52, 50, 53, 50, 54, 50, 55, 50, 56, 50, 57, 51, 48, 51, 49, 51, 50, 51, 51, 51, 52, 51, 53, 51, 54, 51, 55, 51, 56, 51, 57, 52, 48, 52, 49, 52, 50, 52, 51, 52, 52, 52, 53, 52, 54, 52, 55, 52, 56, 52, 57, 53, 48, 53, 49, 53, 50, 53, 51, 53, 52, 53, 53, 53, 54, 53, 55, 53, 56, 53, 57, 54, 48, 54, 49, 54, 50, 54, 51, 54, 52, 54, 53, 54, 54, 54, 55, 54, 56, 54, 57, 55, 48, 55, 49, 55, 50, 55, 51, 55, 52, 55, 53, 55, 54, 55, 55, 55, 56, 55, 57, 56, 48, 56, 49, 56, 50, 56, 51, 56, 52, 56, 53, 56, 54, 56, 55, 56, 56, 56, 57, 57, 48, 57, 49, 57, 50, 57, 51, 57, 52, 57, 53, 57, 54, 57, 55, 57, 56, 57, 57])) G51) S52 <|
  dVal cP 11 (fIAs 1 G42 G44) S53 <|
  dUpd cE 12 (fSt1 G53 G50) <|
  dVal cP 13 (fIAs 1 G45 G47) S54 <|
  dUpd cE 14 (fSt1 G54 G52) <|
  dEnd (masks [] (opsAt [u, z, z, z, u, z, u, u, u, u, u, z] Tryz.f298).toList) (sDraw <| dVal cP 0 (fMove G0) S55 <|
  dVal cP 1 (fMove G4) S56 <|
  dVal cP 2 (fInt subI G56 (kon (.int .i64 3))) S57 <|
  dVal cP 3 (fMove G0) S58 <|
  dVal cP 4 (fMove G4) S59 <|
  dVal cP 5 (fInt subI G59 (kon (.int .i64 4))) S60 <|
  dVal cP 6 (fMove G8) S61 <|
  dVal cP 7 (fInt addI G61 (kon (.int .u32 1))) S62 <|
  dVal cP 8 (fIxS (kon (.str [48, 48, 48, 49, 48, 50, 48, 51, 48, 52, 48, 53, 48, 54, 48, 55, 48, 56, 48, 57, 49, 48, 49, 49, 49, 50, 49, 51, 49, 52, 49, 53, 49, 54, 49, 55, 49, 56, 49, 57, 50, 48, 50, 49, 50, 50, 50, 51, 50, 52, 50, 53, 50, 54, 50, 55, 50, 56, 50, 57, 51, 48, 51, 49, 51, 50, 51, 51, 51, 52, 51, 53, 51, 54, 51, 55, 51, 56, 51, 57, 52, 48, 52, 49, 52, 50, 52, 51, 52, 52, 52, 53, 52, 54, 52, 55, 52, 56, 52, 57, 53, 48, 53, 49, 53, 50, 53, 51, 53, 52, 53, 53, 53, 54, 53, 55, 53, 56, 53, 57, 54, 48, 54, 49, 54, 50, 54, 51, 54, 52, 54, 53, 54, 54, 54, 55, 54, 56, 54, 57, 55, 48, 55, 49, 55, 50, 55, 51, 55, 52, 55, 53, 55, 54, 55, 55, 55, 56, 55, 57, 56, 48, 56, 49, 56, 50, 56, 51, 56, 52, 56, 53, 56, 54, 56, 55, 56, 56, 56, 57, 57, 48, 57, 49, 57, 50, 57, 51, 57, 52, 57, 53, 57, 54, 57, 55, 57, 56, 57, 57])) G62) S63 <|
  dVal cP 9 (fMove G8) S64 <|
  dVal cP 10 (fIxS (kon (.str [48, 48, 48, 49, 48, 50, 48, 51, 48, 52, 48, 53, 48, 54, 48, 55, 48, 56, 48, 57, 49, 48, 49, 49, 49, 50, 49, 51, 49, 52, 49, 53, 49, 54, 49, 55, 49, 56, 49, 57, 50, 48, 50, 49, 50, 50, 50, 51, 50, 52, 50, 53, 50, 54, 50, 55, 50, 56, 50, 57, 51, 48, 51, 49, 51, 50, 51, 51, 51, 52, 51, 53, 51, 54, 51, 55, 51, 56, 51, 57, 52, 48, 52, 49, 52, 50, 52, 51, 52, 52, 52, 53, 52, 54, 52, 55, 52, 56, 52, 57, 53, 48, 53, 49, 53, 50, 53, 51, 53, 52, 53, 53, 53, 54, 53, 55, 53, 56, 53, 57, 54, 48, 54, 49, 54, 50, 54, 51, 54, 52, 54, 53, 54, 54, 54, 55, 54, 56, 54, 57, 55, 48, 55, 49, 55, 50, 55, 51, 55, 52, 55, 53, 55, 54, 55, 55, 55, 56, 55, 57, 56, 48, 56, 49, 56, 50, 56, 51, 56, 52, 56, 53, 56, 54, 56, 55, 56, 56, 56, 57, 57, 48, 57, 49, 57, 50, 57, 51, 57, 52, 57, 53, 57, 54, 57, 55, 57, 56, 57, 57])) G64) S65 <|
  dVal cP 11 (fIAs 1 G55 G57) S66 <|
  dUpd cE 12 (fSt1 G66 G63) <|
  dVal cP 13 (fIAs 1 G58 G60) S67 <|
  dUpd cE 14 (fSt1 G67 G65) <|
  dEnd (masks [] (opsAt [u, z, z, z, u, z, u, u, u, u, u, u, z] Tryz.f298).toList) (sDraw <| dVal cP 0 (fMove G0) S68 <|
  dVal cP 1 (fMove G4) S69 <|
  dVal cP 2 (fInt subI G69 (kon (.int .i64 5))) S70 <|
  dVal cP 3 (fMove G0) S71 <|
  dVal cP 4 (fMove G4) S72 <|
  dVal cP 5 (fInt subI G72 (kon (.int .i64 6))) S73 <|
  dVal cP 6 (fMove G11) S74 <|
  dVal cP 7 (fInt addI G74 (kon (.int .u32 1))) S75 <|
  dVal cP 8 (fIxS (kon (.str [48, 48, 48, 49, 48, 50, 48, 51, 48, 52, 48, 53, 48, 54, 48, 55, 48, 56, 48, 57, 49, 48, 49, 49, 49, 50, 49, 51, 49, 52, 49, 53, 49, 54, 49, 55, 49, 56, 49, 57, 50, 48, 50, 49, 50, 50, 50, 51, 50, 52, 50, 53, 50, 54, 50, 55, 50, 56, 50, 57, 51, 48, 51, 49, 51, 50, 51, 51, 51, 52, 51, 53, 51, 54, 51, 55, 51, 56, 51, 57, 52, 48, 52, 49, 52, 50, 52, 51, 52, 52, 52, 53, 52, 54, 52, 55, 52, 56, 52, 57, 53, 48, 53, 49, 53, 50, 53, 51, 53, 52, 53, 53, 53, 54, 53, 55, 53, 56, 53, 57, 54, 48, 54, 49, 54, 50, 54, 51, 54, 52, 54, 53, 54, 54, 54, 55, 54, 56, 54, 57, 55, 48, 55, 49, 55, 50, 55, 51, 55, 52, 55, 53, 55, 54, 55, 55, 55, 56, 55, 57, 56, 48, 56, 49, 56, 50, 56, 51, 56, 52, 56, 53, 56, 54, 56, 55, 56, 56, 56, 57, 57, 48, 57, 49, 57, 50, 57, 51, 57, 52, 57, 53, 57, 54, 57, 55, 57, 56, 57, 57])) G75) S76 <|
  dVal cP 9 (fMove G11) S77 <|
  dVal cP 10 (fIxS (kon (.str [48, 48, 48, 49, 48, 50, 48, 51, 48, 52, 48, 53, 48, 54, 48, 55, 48, 56, 48, 57, 49, 48, 49, 49, 49, 50, 49, 51, 49, 52, 49, 53, 49, 54, 49, 55, 49, 56, 49, 57, 50, 48, 50, 49, 50, 50, 50, 51, 50, 52, 50, 53, 50, 54, 50, 55, 50, 56, 50, 57, 51, 48, 51, 49, 51, 50, 51, 51, 51, 52, 51, 53, 51, 54, 51, 55, 51, 56, 51, 57, 52, 48, 52, 49, 52, 50, 52, 51, 52, 52, 52, 53, 52, 54, 52, 55, 52, 56, 52, 57, 53, 48, 53, 49, 53, 50, 53, 51, 53, 52, 53, 53, 53, 54, 53, 55, 53, 56, 53, 57, 54, 48, 54, 49, 54, 50, 54, 51, 54, 52, 54, 53, 54, 54, 54, 55, 54, 56, 54, 57, 55, 48, 55, 49, 55, 50, 55, 51, 55, 52, 55, 53, 55, 54, 55, 55, 55, 56, 55, 57, 56, 48, 56, 49, 56, 50, 56, 51, 56, 52, 56, 53, 56, 54, 56, 55, 56, 56, 56, 57, 57, 48, 57, 49, 57, 50, 57, 51, 57, 52, 57, 53, 57, 54, 57, 55, 57, 56, 57, 57])) G77) S78 <|
  dVal cP 11 (fIAs 1 G68 G70) S79 <|
  dUpd cE 12 (fSt1 G79 G76) <|
  dVal cP 13 (fIAs 1 G71 G73) S80 <|
  dUpd cE 14 (fSt1 G80 G78) <|
  dEnd (masks [] (opsAt [u, z, z, z, u, z, u, u, u, u, u, u, u, z] Tryz.f298).toList) (sDraw <| dVal cP 0 (fMove G0) S81 <|
  dVal cP 1 (fMove G4) S82 <|
  dVal cP 2 (fInt subI G82 (kon (.int .i64 7))) S83 <|
  dVal cP 3 (fMove G0) S84 <|
  dVal cP 4 (fMove G4) S85 <|
  dVal cP 5 (fInt subI G85 (kon (.int .i64 8))) S86 <|
  dVal cP 6 (fMove G10) S87 <|
  dVal cP 7 (fInt addI G87 (kon (.int .u32 1))) S88 <|
  dVal cP 8 (fIxS (kon (.str [48, 48, 48, 49, 48, 50, 48, 51, 48, 52, 48, 53, 48, 54, 48, 55, 48, 56, 48, 57, 49, 48, 49, 49, 49, 50, 49, 51, 49, 52, 49, 53, 49, 54, 49, 55, 49, 56, 49, 57, 50, 48, 50, 49, 50, 50, 50, 51, 50, 52, 50, 53, 50, 54, 50, 55, 50, 56, 50, 57, 51, 48, 51, 49, 51, 50, 51, 51, 51, 52, 51, 53, 51, 54, 51, 55, 51, 56, 51, 57, 52, 48, 52, 49, 52, 50, 52, 51, 52, 52, 52, 53, 52, 54, 52, 55, 52, 56, 52, 57, 53, 48, 53, 49, 53, 50, 53, 51, 53, 52, 53, 53, 53, 54, 53, 55, 53, 56, 53, 57, 54, 48, 54, 49, 54, 50, 54, 51, 54, 52, 54, 53, 54, 54, 54, 55, 54, 56, 54, 57, 55, 48, 55, 49, 55, 50, 55, 51, 55, 52, 55, 53, 55, 54, 55, 55, 55, 56, 55, 57, 56, 48, 56, 49, 56, 50, 56, 51, 56, 52, 56, 53, 56, 54, 56, 55, 56, 56, 56, 57, 57, 48, 57, 49, 57, 50, 57, 51, 57, 52, 57, 53, 57, 54, 57, 55, 57, 56, 57, 57])) G88) S89 <|
  dVal cP 9 (fMove G10) S90 <|
  dVal cP 10 (fIxS (kon (.str [48, 48, 48, 49, 48, 50, 48, 51, 48, 52, 48, 53, 48, 54, 48, 55, 48, 56, 48, 57, 49, 48, 49, 49, 49, 50, 49, 51, 49, 52, 49, 53, 49, 54, 49, 55, 49, 56, 49, 57, 50, 48, 50, 49, 50, 50, 50, 51, 50, 52, 50, 53, 50, 54, 50, 55, 50, 56, 50, 57, 51, 48, 51, 49, 51, 50, 51, 51, 51, 52, 51, 53, 51, 54, 51, 55, 51, 56, 51, 57, 52, 48, 52, 49, 52, 50, 52, 51, 52, 52, 52, 53, 52, 54, 52, 55, 52, 56, 52, 57, 53, 48, 53, 49, 53, 50, 53, 51, 53, 52, 53, 53, 53, 54, 53, 55, 53, 56, 53, 57, 54, 48, 54, 49, 54, 50, 54, 51, 54, 52, 54, 53, 54, 54, 54, 55, 54, 56, 54, 57, 55, 48, 55, 49, 55, 50, 55, 51, 55, 52, 55, 53, 55, 54, 55, 55, 55, 56, 55, 57, 56, 48, 56, 49, 56, 50, 56, 51, 56, 52, 56, 53, 56, 54, 56, 55, 56, 56, 56, 57, 57, 48, 57, 49, 57, 50, 57, 51, 57, 52, 57, 53, 57, 54, 57, 55, 57, 56, 57, 57])) G90) S91 <|
  dVal cP 11 (fIAs 1 G81 G83) S92 <|
  dUpd cE 12 (fSt1 G92 G89) <|
  dVal cP 13 (fIAs 1 G84 G86) S93 <|
  dUpd cE 14 (fSt1 G93 G91) <|
  dEnd (masks [] (opsAt [u, z, z, z, u, z, u, u, u, u, u, u, u, u, z] Tryz.f298).toList) (oVal (fMove G4) S94 <|
  oVal (fInt subI G94 (kon (.int .i64 8))) S95 <|
  oVal (fMove G95) S4 <|
  oEnd))))))))))))))
  (oVal (fMove G1) S96 <|
  oVal (fCnvI .u32 G96) S97 <|
  oVal (fMove G97) S12 <|
  (thenF (oVal (fMove G4) S98 <|
  oVal (fInt geI G98 (kon (.int .i64 4))) S99 <|
  (sCond G99 (oVal (fMove G12) S100 <|
  gn yesW (opAt 1 [u, u, u, z, u, z, z] Tryz.f298) <|
  oVal (fMove G101) S13 <|
  (oVal (fMove G12) S102 <|
  gn yesW (opAt 1 [u, u, u, z, u, z, u, z] Tryz.f298) <|
  oVal (fMove G103) S12 <|
  (oVal (fMove G13) S104 <|
  gn yesW (opAt 1 [u, u, u, z, u, z, u, u, z] Tryz.f298) <|
  oVal (fInt mulI G105 (kon (.int .u32 2))) S106 <|
  oVal (fMove G13) S107 <|
  gn yesW (opAt 4 [u, u, u, z, u, z, u, u, z] Tryz.f298) <|
  oVal (fInt mulI G108 (kon (.int .u32 2))) S109 <|
  oVal (fMove G106) S14 <|
  oVal (fMove G109) S15 <|
  (sDraw <| dVal cP 0 (fMove G0) S110 <|
  dVal cP 1 (fMove G4) S111 <|
  dVal cP 2 (fInt subI G111 (kon (.int .i64 1))) S112 <|
  dVal cP 3 (fMove G0) S113 <|
  dVal cP 4 (fMove G4) S114 <|
  dVal cP 5 (fInt subI G114 (kon (.int .i64 2))) S115 <|
  dVal cP 6 (fMove G15) S116 <|
  dVal cP 7 (fInt addI G116 (kon (.int .u32 1))) S117 <|
  dVal cP 8 (fIxS (kon (.str [48, 48, 48, 49, 48, 50, 48, 51, 48, 52, 48, 53, 48, 54, 48, 55, 48, 56, 48, 57, 49, 48, 49, 49, 49, 50, 49, 51, 49, 52, 49, 53, 49, 54, 49, 55, 49, 56, 49, 57, 50, 48, 50, 49, 50, 50, 50, 51, 50, 52, 50, 53, 50, 54, 50, 55, 50, 56, 50, 57, 51, 48, 51, 49, 51, 50, 51, 51, 51, 52, 51, 53, 51, 54, 51, 55, 51, 56, 51, 57, 52, 48, 52, 49, 52, 50, 52, 51, 52, 52, 52, 53, 52, 54, 52, 55, 52, 56, 52, 57, 53, 48, 53, 49, 53, 50, 53, 51, 53, 52, 53, 53, 53, 54, 53, 55, 53, 56, 53, 57, 54, 48, 54, 49, 54, 50, 54, 51, 54, 52, 54, 53, 54, 54, 54, 55, 54, 56, 54, 57, 55, 48, 55, 49, 55, 50, 55, 51, 55, 52, 55, 53, 55, 54, 55, 55, 55, 56, 55, 57, 56, 48, 56, 49, 56, 50, 56, 51, 56, 52, 56, 53, 56, 54, 56, 55, 56, 56, 56, 57, 57, 48, 57, 49, 57, 50, 57, 51, 57, 52, 57, 53, 57, 54, 57, 55, 57, 56, 57, 57])) G117) S118 <|
  dVal cP 9 (fMove G15) S119 <|
  dVal cP 10 (fIxS (kon (.str [48, 48, 48, 49, 48, 50, 48, 51, 48, 52, 48, 53, 48, 54, 48, 55, 48, 56, 48, 57, 49, 48, 49, 49, 49, 50, 49, 51, 49, 52, 49, 53, 49, 54, 49, 55, 49, 56, 49, 57, 50, 48, 50, 49, 50, 50, 50, 51, 50, 52, 50, 53, 50, 54, 50, 55, 50, 56, 50, 57, 51, 48, 51, 49, 51, 50, 51, 51, 51, 52, 51, 53, 51, 54, 51, 55, 51, 56, 51, 57, 52, 48, 52, 49, 52, 50, 52, 51, 52, 52, 52, 53, 52, 54, 52, 55, 52, 56, 52, 57, 53, 48, 53, 49, 53, 50, 53, 51, 53, 52, 53, 53, 53, 54, 53, 55, 53, 56, 53, 57, 54, 48, 54, 49, 54, 50, 54, 51, 54, 52, 54, 53, 54, 54, 54, 55, 54, 56, 54, 57, 55, 48, 55, 49, 55, 50, 55, 51, 55, 52, 55, 53, 55, 54, 55, 55, 55, 56, 55, 57, 56, 48, 56, 49, 56, 50, 56, 51, 56, 52, 56, 53, 56, 54, 56, 55, 56, 56, 56, 57, 57, 48, 57, 49, 57, 50, 57, 51, 57, 52, 57, 53, 57, 54, 57, 55, 57, 56, 57, 57])) G119) S120 <|
  dVal cP 11 (fIAs 1 G110 G112) S121 <|
  dUpd cE 12 (fSt1 G121 G118) <|
  dVal cP 13 (fIAs 1 G113 G115) S122 <|
  dUpd cE 14 (fSt1 G122 G120) <|
  dEnd (masks [] (opsAt [u, u, u, z, u, z, u, u, u, z] Tryz.f298).toList) (sDraw <| dVal cP 0 (fMove G0) S123 <|
  dVal cP 1 (fMove G4) S124 <|
  dVal cP 2 (fInt subI G124 (kon (.int .i64 3))) S125 <|
  dVal cP 3 (fMove G0) S126 <|
  dVal cP 4 (fMove G4) S127 <|
  dVal cP 5 (fInt subI G127 (kon (.int .i64 4))) S128 <|
  dVal cP 6 (fMove G14) S129 <|
  dVal cP 7 (fInt addI G129 (kon (.int .u32 1))) S130 <|
  dVal cP 8 (fIxS (kon (.str [48, 48, 48, 49, 48, 50, 48, 51, 48, 52, 48, 53, 48, 54, 48, 55, 48, 56, 48, 57, 49, 48, 49, 49, 49, 50, 49, 51, 49, 52, 49, 53, 49, 54, 49, 55, 49, 56, 49, 57, 50, 48, 50, 49, 50, 50, 50, 51, 50, 52, 50, 53, 50, 54, 50, 55, 50, 56, 50, 57, 51, 48, 51, 49, 51, 50, 51, 51, 51, 52, 51, 53, 51, 54, 51, 55, 51, 56, 51, 57, 52, 48, 52, 49, 52, 50, 52, 51, 52, 52, 52, 53, 52, 54, 52, 55, 52, 56, 52, 57, 53, 48, 53, 49, 53, 50, 53, 51, 53, 52, 53, 53, 53, 54, 53, 55, 53, 56, 53, 57, 54, 48, 54, 49, 54, 50, 54, 51, 54, 52, 54, 53, 54, 54, 54, 55, 54, 56, 54, 57, 55, 48, 55, 49, 55, 50, 55, 51, 55, 52, 55, 53, 55, 54, 55, 55, 55, 56, 55, 57, 56, 48, 56, 49, 56, 50, 56, 51, 56, 52, 56, 53, 56, 54, 56, 55, 56, 56, 56, 57, 57, 48, 57, 49, 57, 50, 57, 51, 57, 52, 57, 53, 57, 54, 57, 55, 57, 56, 57, 57])) G130) S131 <|
  dVal cP 9 (fMove G14) S132 <|
  dVal cP 10 (fIxS (kon (.str [48, 48, 48, 49, 48, 50, 48, 51, 48, 52, 48, 53, 48, 54, 48, 55, 48, 56, 48, 57, 49, 48, 49, 49, 49, 50, 49, 51, 49, 52, 49, 53, 49, 54, 49, 55, 49, 56, 49, 57, 50, 48, 50, 49, 50, 50, 50, 51, 50, 52, 50, 53, 50, 54, 50, 55, 50, 56, 50, 57, 51, 48, 51, 49, 51, 50, 51, 51, 51, 52, 51, 53, 51, 54, 51, 55, 51, 56, 51, 57, 52, 48, 52, 49, 52, 50, 52, 51, 52, 52, 52, 53, 52, 54, 52, 55, 52, 56, 52, 57, 53, 48, 53, 49, 53, 50, 53, 51, 53, 52, 53, 53, 53, 54, 53, 55, 53, 56, 53, 57, 54, 48, 54, 49, 54, 50, 54, 51, 54, 52, 54, 53, 54, 54, 54, 55, 54, 56, 54, 57, 55, 48, 55, 49, 55, 50, 55, 51, 55, 52, 55, 53, 55, 54, 55, 55, 55, 56, 55, 57, 56, 48, 56, 49, 56, 50, 56, 51, 56, 52, 56, 53, 56, 54, 56, 55, 56, 56, 56, 57, 57, 48, 57, 49, 57, 50, 57, 51, 57, 52, 57, 53, 57, 54, 57, 55, 57, 56, 57, 57])) G132) S133 <|
  dVal cP 11 (fIAs 1 G123 G125) S134 <|
  dUpd cE 12 (fSt1 G134 G131) <|
  dVal cP 13 (fIAs 1 G126 G128) S135 <|
  dUpd cE 14 (fSt1 G135 G133) <|
  dEnd (masks [] (opsAt [u, u, u, z, u, z, u, u, u, u, z] Tryz.f298).toList) (oVal (fMove G4) S136 <|
  oVal (fInt subI G136 (kon (.int .i64 4))) S137 <|
  oVal (fMove G137) S4 <|
  oEnd))))))
  oEnd))
  (thenF (oVal (fMove G4) S138 <|
  oVal (fInt geI G138 (kon (.int .i64 2))) S139 <|
  (sCond G139 (oVal (fMove G12) S140 <|
  gn yesW (opAt 1 [u, u, u, u, z, u, z, z] Tryz.f298) <|
  oVal (fInt mulI G141 (kon (.int .u32 2))) S142 <|
  oVal (fMove G142) S16 <|
  (oVal (fMove G12) S143 <|
  gn yesW (opAt 1 [u, u, u, u, z, u, z, u, z] Tryz.f298) <|
  oVal (fMove G144) S12 <|
  (sDraw <| dVal cP 0 (fMove G0) S145 <|
  dVal cP 1 (fMove G4) S146 <|
  dVal cP 2 (fInt subI G146 (kon (.int .i64 1))) S147 <|
  dVal cP 3 (fMove G0) S148 <|
  dVal cP 4 (fMove G4) S149 <|
  dVal cP 5 (fInt subI G149 (kon (.int .i64 2))) S150 <|
  dVal cP 6 (fMove G16) S151 <|
  dVal cP 7 (fInt addI G151 (kon (.int .u32 1))) S152 <|
  dVal cP 8 (fIxS (kon (.str [48, 48, 48, 49, 48, 50, 48, 51, 48, 52, 48, 53, 48, 54, 48, 55, 48, 56, 48, 57, 49, 48, 49, 49, 49, 50, 49, 51, 49, 52, 49, 53, 49, 54, 49, 55, 49, 56, 49, 57, 50, 48, 50, 49, 50, 50, 50, 51, 50, 52, 50, 53, 50, 54, 50, 55, 50, 56, 50, 57, 51, 48, 51, 49, 51, 50, 51, 51, 51, 52, 51, 53, 51, 54, 51, 55, 51, 56, 51, 57, 52, 48, 52, 49, 52, 50, 52, 51, 52, 52, 52, 53, 52, 54, 52, 55, 52, 56, 52, 57, 53, 48, 53, 49, 53, 50, 53, 51, 53, 52, 53, 53, 53, 54, 53, 55, 53, 56, 53, 57, 54, 48, 54, 49, 54, 50, 54, 51, 54, 52, 54, 53, 54, 54, 54, 55, 54, 56, 54, 57, 55, 48, 55, 49, 55, 50, 55, 51, 55, 52, 55, 53, 55, 54, 55, 55, 55, 56, 55, 57, 56, 48, 56, 49, 56, 50, 56, 51, 56, 52, 56, 53, 56, 54, 56, 55, 56, 56, 56, 57, 57, 48, 57, 49, 57, 50, 57, 51, 57, 52, 57, 53, 57, 54, 57, 55, 57, 56, 57, 57])) G152) S153 <|
  dVal cP 9 (fMove G16) S154 <|
  dVal cP 10 (fIxS (kon (.str [48, 48, 48, 49, 48, 50, 48, 51, 48, 52, 48, 53, 48, 54, 48, 55, 48, 56, 48, 57, 49, 48, 49, 49, 49, 50, 49, 51, 49, 52, 49, 53, 49, 54, 49, 55, 49, 56, 49, 57, 50, 48, 50, 49, 50, 50, 50, 51, 50, 52, 50, 53, 50, 54, 50, 55, 50, 56, 50, 57, 51, 48, 51, 49, 51, 50, 51, 51, 51, 52, 51, 53, 51, 54, 51, 55, 51, 56, 51, 57, 52, 48, 52, 49, 52, 50, 52, 51, 52, 52, 52, 53, 52, 54, 52, 55, 52, 56, 52, 57, 53, 48, 53, 49, 53, 50, 53, 51, 53, 52, 53, 53, 53, 54, 53, 55, 53, 56, 53, 57, 54, 48, 54, 49, 54, 50, 54, 51, 54, 52, 54, 53, 54, 54, 54, 55, 54, 56, 54, 57, 55, 48, 55, 49, 55, 50, 55, 51, 55, 52, 55, 53, 55, 54, 55, 55, 55, 56, 55, 57, 56, 48, 56, 49, 56, 50, 56, 51, 56, 52, 56, 53, 56, 54, 56, 55, 56, 56, 56, 57, 57, 48, 57, 49, 57, 50, 57, 51, 57, 52, 57, 53, 57, 54, 57, 55, 57, 56, 57, 57])) G154) S155 <|
  dVal cP 11 (fIAs 1 G145 G147) S156 <|
  dUpd cE 12 (fSt1 G156 G153) <|
  dVal cP 13 (fIAs 1 G148 G150) S157 <|
  dUpd cE 14 (fSt1 G157 G155) <|
  dEnd (masks [] (opsAt [u, u, u, u, z, u, z, u, u, z] Tryz.f298).toList) (oVal (fMove G4) S158 <|
  oVal (fInt subI G158 (kon (.int .i64 2))) S159 <|
  oVal (fMove G159) S4 <|
  oEnd))))
  oEnd))
  (oVal (fMove G4) S160 <|
  oVal (fInt gtI G160 (kon (.int .i64 0))) S161 <|
  (sCond G161 (oVal (fMove G0) S162 <|
  oVal (fMove G12) S163 <|
  oVal (fInt addI (kon (.int .u32 48)) G163) S164 <|
  oVal (fCnvI .u8 G164) S165 <|
  oVal (fIAs 1 G162 (kon (.int .i64 0))) S166 <|
  oUpd (fSt1 G166 G165) <|
  oEnd)
  oEnd)))))))
def c299 : Op8 := (oVal (fMove (kon .nils)) S10 <|
  oVal (fMove (kon (.str []))) S11 <|
  (thenF (oVal (fMove G2) S19 <|
  oVal (fInt ltI G19 (kon (.int .i64 2))) S20 <|
  oVal (fMove G20) S21 <|
  oGval (wntF G21 false) (fMove G2) S22 <|
  oGval (wntF G21 false) (fIntE G22 (kon (.int .i64 10))) S23 <|
  oVal (fPick G21 (kon (.bool true)) G23) S24 <|
  oVal (fMove G24) S25 <|
  oGval (wntF G25 false) (fMove G2) S26 <|
  oGval (wntF G25 false) (fInt gtI G26 (kon (.int .i64 36))) S27 <|
  oVal (fPick G25 (kon (.bool true)) G27) S28 <|
  (sCond G28 (gn yesW (opAt 0 [u, z, u, z] Tryz.f299) <|
  gn yesW (opAt 1 [u, z, u, z] Tryz.f299) <|
  oEnd)
  oEnd))
  (gn yesW (opAt 0 [u, u, z] Tryz.f299) <|
  (oVal (fMove (kon (.int .i64 65))) S13 <|
  (thenF (oVal (fMove G3) S30 <|
  (sCond G30 (oVal (fMove G1) S31 <|
  gn yesW (opAt 1 [u, u, u, u, z, u, z] Tryz.f299) <|
  oVal (fMove G32) S1 <|
  oEnd)
  oEnd))
  (thenF (oVal (fMove G2) S33 <|
  oCall 303 (fArgs [G33]) S34 <|
  (sCond G34 (oVal (fMove G2) S35 <|
  oVal (fCnvI .u64 G35) S36 <|
  oCall 304 (fArgs [G36]) S37 <|
  oVal (fCnvI .u64 G37) S38 <|
  oVal (fMove G38) S14 <|
  (oVal (fMove G2) S39 <|
  oVal (fCnvI .u64 G39) S40 <|
  oVal (fMove G40) S15 <|
  (oVal (fMove G2) S41 <|
  oVal (fCnvI .u64 G41) S42 <|
  oVal (fInt subI G42 (kon (.int .u64 1))) S43 <|
  oVal (fMove G43) S16 <|
  (thenF (sBlock 0 (sLoop (thenF (oVal (fMove G1) S44 <|
  oVal (fMove G15) S45 <|
  oVal (fInt geI G44 G45) S46 <|
  (sCond G46 oEnd
  (sExit 0)))
  (sBlock 1 (oVal (fMove G13) S47 <|
  oVal (fInt subI G47 (kon (.int .i64 1))) S48 <|
  oVal (fMove G48) S13 <|
  (oVal (fMove G13) S49 <|
  oVal (fMove G1) S50 <|
  oVal (fMove G16) S51 <|
  gn yesW (opAt 3 [u, u, u, u, u, z, u, z, u, u, u, z, z, z, u, z, u, z] Tryz.f299) <|
  oVal (fIxS (kon (.str [48, 49, 50, 51, 52, 53, 54, 55, 56, 57, 97, 98, 99, 100, 101, 102, 103, 104, 105, 106, 107, 108, 109, 110, 111, 112, 113, 114, 115, 116, 117, 118, 119, 120, 121, 122])) G52) S53 <|
  oVal (fIAa 65 1 G12 G49) S54 <|
  oUpd (fSt1 G54 G53) <|
  (oVal (fMove G1) S55 <|
  oVal (fMove G14) S56 <|
  gn yesW (opAt 2 [u, u, u, u, u, z, u, z, u, u, u, z, z, z, u, z, u, u] Tryz.f299) <|
  oVal (fMove G57) S1 <|
  oEnd)))))))
  (oVal (fMove G13) S58 <|
  oVal (fInt subI G58 (kon (.int .i64 1))) S59 <|
  oVal (fMove G59) S13 <|
  (oVal (fMove G13) S60 <|
  oVal (fMove G1) S61 <|
  oVal (fIxS (kon (.str [48, 49, 50, 51, 52, 53, 54, 55, 56, 57, 97, 98, 99, 100, 101, 102, 103, 104, 105, 106, 107, 108, 109, 110, 111, 112, 113, 114, 115, 116, 117, 118, 119, 120, 121, 122])) G61) S62 <|
  oVal (fIAa 65 1 G12 G60) S63 <|
  oUpd (fSt1 G63 G62) <|
  oEnd))))))
  (oVal (fMove G2) S64 <|
  oVal (fCnvI .u64 G64) S65 <|
  oVal (fMove G65) S17 <|
  (thenF (sBlock 2 (sLoop (thenF (oVal (fMove G1) S66 <|
  oVal (fMove G17) S67 <|
  oVal (fInt geI G66 G67) S68 <|
  (sCond G68 oEnd
  (sExit 2)))
  (sBlock 3 (oVal (fMove G13) S69 <|
  oVal (fInt subI G69 (kon (.int .i64 1))) S70 <|
  oVal (fMove G70) S13 <|
  (oVal (fMove G1) S71 <|
  oVal (fMove G17) S72 <|
  gn yesW (opAt 2 [u, u, u, u, u, z, u, u, u, z, z, z, u, z, u, z] Tryz.f299) <|
  oVal (fMove G73) S18 <|
  (oVal (fMove G13) S74 <|
  oVal (fMove G1) S75 <|
  oVal (fMove G18) S76 <|
  oVal (fMove G17) S77 <|
  oVal (fInt mulI G76 G77) S78 <|
  oVal (fInt subI G75 G78) S79 <|
  oVal (fIxS (kon (.str [48, 49, 50, 51, 52, 53, 54, 55, 56, 57, 97, 98, 99, 100, 101, 102, 103, 104, 105, 106, 107, 108, 109, 110, 111, 112, 113, 114, 115, 116, 117, 118, 119, 120, 121, 122])) G79) S80 <|
  oVal (fIAa 65 1 G12 G74) S81 <|
  oUpd (fSt1 G81 G80) <|
  (oVal (fMove G18) S82 <|
  oVal (fMove G82) S1 <|
  oEnd))))))))
  (oVal (fMove G13) S83 <|
  oVal (fInt subI G83 (kon (.int .i64 1))) S84 <|
  oVal (fMove G84) S13 <|
  (oVal (fMove G13) S85 <|
  oVal (fMove G1) S86 <|
  oVal (fIxS (kon (.str [48, 49, 50, 51, 52, 53, 54, 55, 56, 57, 97, 98, 99, 100, 101, 102, 103, 104, 105, 106, 107, 108, 109, 110, 111, 112, 113, 114, 115, 116, 117, 118, 119, 120, 121, 122])) G86) S87 <|
  oVal (fIAa 65 1 G12 G85) S88 <|
  oUpd (fSt1 G88 G87) <|
  oEnd))))))
  (thenF (oVal (fMove G3) S89 <|
  (sCond G89 (oVal (fMove G13) S90 <|
  oVal (fInt subI G90 (kon (.int .i64 1))) S91 <|
  oVal (fMove G91) S13 <|
  (oVal (fMove G13) S92 <|
  oVal (fIAa 65 1 G12 G92) S93 <|
  oUpd (fSt1 G93 (kon (.int .u8 45))) <|
  oEnd))
  oEnd))
  (thenF (oVal (fMove G4) S94 <|
  (sCond G94 (oVal (fMove G0) S95 <|
  oVal (fMove G13) S96 <|
  gn yesW (opAt 2 [u, u, u, u, u, u, u, z, u, z, z] Tryz.f299) <|
  gn yesW (opAt 3 [u, u, u, u, u, u, u, z, u, z, z] Tryz.f299) <|
  oVal (fMove G98) S10 <|
  sRet)
  oEnd))
  (oVal (fMove G13) S99 <|
  gn yesW (opAt 1 [u, u, u, u, u, u, u, u, z] Tryz.f299) <|
  gn yesW (opAt 2 [u, u, u, u, u, u, u, u, z] Tryz.f299) <|
  oVal (fMove G101) S11 <|
  sRet)))))))))
def c300 : Op8 := (oVal (fMove (kon (.int .i64 0))) S2 <|
  (oVal (fMove G0) S3 <|
  oVal (fInt mulI G3 (kon (.int .i64 78913))) S4 <|
  gn yesW (opAt 2 [u, z] Tryz.f300) <|
  oVal (fMove G5) S2 <|
  sRet))
def c301 : Op8 := (oVal (fMove (kon (.int .i64 0))) S2 <|
  (thenF (oVal (fMove G0) S3 <|
  oVal (fInt geI G3 (kon (.int .u64 4294967296))) S4 <|
  (sCond G4 (oVal (fMove G0) S5 <|
  gn yesW (opAt 1 [u, z, u, z, z] Tryz.f301) <|
  oVal (fMove G6) S0 <|
  (oVal (fMove (kon (.int .i64 32))) S2 <|
  oEnd))
  oEnd))
  (thenF (oVal (fMove G0) S7 <|
  oVal (fInt geI G7 (kon (.int .u64 65536))) S8 <|
  (sCond G8 (oVal (fMove G0) S9 <|
  gn yesW (opAt 1 [u, u, z, u, z, z] Tryz.f301) <|
  oVal (fMove G10) S0 <|
  (oVal (fMove G2) S11 <|
  oVal (fInt addI G11 (kon (.int .i64 16))) S12 <|
  oVal (fMove G12) S2 <|
  oEnd))
  oEnd))
  (thenF (oVal (fMove G0) S13 <|
  oVal (fInt geI G13 (kon (.int .u64 256))) S14 <|
  (sCond G14 (oVal (fMove G0) S15 <|
  gn yesW (opAt 1 [u, u, u, z, u, z, z] Tryz.f301) <|
  oVal (fMove G16) S0 <|
  (oVal (fMove G2) S17 <|
  oVal (fInt addI G17 (kon (.int .i64 8))) S18 <|
  oVal (fMove G18) S2 <|
  oEnd))
  oEnd))
  (oVal (fMove G2) S19 <|
  oVal (fMove G0) S20 <|
  oVal (fCnvI .u8 G20) S21 <|
  oVal (fIxS (kon (.str [0, 1, 2, 2, 3, 3, 3, 3, 4, 4, 4, 4, 4, 4, 4, 4, 5, 5, 5, 5, 5, 5, 5, 5, 5, 5, 5, 5, 5, 5, 5, 5, 6, 6, 6, 6, 6, 6, 6, 6, 6, 6, 6, 6, 6, 6, 6, 6, 6, 6, 6, 6, 6, 6, 6, 6, 6, 6, 6, 6, 6, 6, 6, 6, 7, 7, 7, 7, 7, 7, 7, 7, 7, 7, 7, 7, 7, 7, 7, 7, 7, 7, 7, 7, 7, 7, 7, 7, 7, 7, 7, 7, 7, 7, 7, 7, 7, 7, 7, 7, 7, 7, 7, 7, 7, 7, 7, 7, 7, 7, 7, 7, 7, 7, 7, 7, 7, 7, 7, 7, 7, 7, 7, 7, 7, 7, 7, 7, 8, 8, 8, 8, 8, 8, 8, 8, 8, 8, 8, 8, 8, 8, 8, 8, 8, 8, 8, 8, 8, 8, 8, 8, 8, 8, 8, 8, 8, 8, 8, 8, 8, 8, 8, 8, 8, 8, 8, 8, 8, 8, 8, 8, 8, 8, 8, 8, 8, 8, 8, 8, 8, 8, 8, 8, 8, 8, 8, 8, 8, 8, 8, 8, 8, 8, 8, 8, 8, 8, 8, 8, 8, 8, 8, 8, 8, 8, 8, 8, 8, 8, 8, 8, 8, 8, 8, 8, 8, 8, 8, 8, 8, 8, 8, 8, 8, 8, 8, 8, 8, 8, 8, 8, 8, 8, 8, 8, 8, 8, 8, 8, 8, 8, 8, 8, 8, 8, 8, 8, 8, 8, 8, 8, 8, 8, 8, 8])) G21) S22 <|
  oVal (fCnvI .i64 G22) S23 <|
  oVal (fInt addI G19 G23) S24 <|
  oVal (fMove G24) S2 <|
  sRet)))))
def c302 : Op8 := (oVal (fMove (kon (.int .i64 0))) S2 <|
  (thenF (oVal (fMove G0) S3 <|
  (sCond G3 (oVal (fMove (kon (.int .i64 1))) S2 <|
  sRet)
  oEnd))
  (oVal (fMove (kon (.int .i64 0))) S2 <|
  sRet)))
def c303 : Op8 := (oVal (fMove (kon (.bool false))) S2 <|
  (oVal (fMove G0) S3 <|
  oVal (fMove G0) S4 <|
  oVal (fInt subI G4 (kon (.int .i64 1))) S5 <|
  gn yesW (opAt 3 [u, z] Tryz.f303) <|
  oVal (fIntE G6 (kon (.int .i64 0))) S7 <|
  oVal (fMove G7) S2 <|
  sRet))
def c304 : Op8 := (oVal (fMove (kon (.int .i64 0))) S2 <|
  (thenF (sCond (kon (.bool false)) (oVal (fMove G0) S3 <|
  oVal (fCnvI .u32 G3) S4 <|
  oCall 305 (fArgs [G4]) S5 <|
  oVal (fMove G5) S2 <|
  sRet)
  oEnd)
  (oVal (fMove G0) S6 <|
  oCall 306 (fArgs [G6]) S7 <|
  oVal (fMove G7) S2 <|
  sRet)))
def c305 : Op8 := (oVal (fMove (kon (.int .i64 0))) S2 <|
  (thenF (oVal (fMove G0) S3 <|
  oVal (fIntE G3 (kon (.int .u32 0))) S4 <|
  (sCond G4 (oVal (fMove (kon (.int .i64 32))) S2 <|
  sRet)
  oEnd))
  (oVal (fMove G0) S5 <|
  oVal (fMove G0) S6 <|
  gn yesW (opAt 2 [u, u, z] Tryz.f305) <|
  gn yesW (opAt 3 [u, u, z] Tryz.f305) <|
  oVal (fInt mulI G8 (kon (.int .u32 125613361))) S9 <|
  gn yesW (opAt 5 [u, u, z] Tryz.f305) <|
  oVal (fIAa 32 1 nog G10) S11 <|
  oVal (fLoad1 G11) S12 <|
  oVal (fCnvI .i64 G12) S13 <|
  oVal (fMove G13) S2 <|
  sRet)))
def c306 : Op8 := (oVal (fMove (kon (.int .i64 0))) S2 <|
  (thenF (oVal (fMove G0) S3 <|
  oVal (fIntE G3 (kon (.int .u64 0))) S4 <|
  (sCond G4 (oVal (fMove (kon (.int .i64 64))) S2 <|
  sRet)
  oEnd))
  (oVal (fMove G0) S5 <|
  oVal (fMove G0) S6 <|
  gn yesW (opAt 2 [u, u, z] Tryz.f306) <|
  gn yesW (opAt 3 [u, u, z] Tryz.f306) <|
  oVal (fInt mulI G8 (kon (.int .u64 285870213051353865))) S9 <|
  gn yesW (opAt 5 [u, u, z] Tryz.f306) <|
  oVal (fIAa 64 1 nog G10) S11 <|
  oVal (fLoad1 G11) S12 <|
  oVal (fCnvI .i64 G12) S13 <|
  oVal (fMove G13) S2 <|
  sRet)))
end
end Go.Ax
namespace Go.Ax
open Go Go.Proofs
set_option maxRecDepth 1000000
noncomputable section
def cT : PT FF :=
  (n none (n none (n (some ⟨82, c9, (resT [G0])⟩) l (n (some ⟨16, c137, (resT [])⟩) l l l l l l l l) (n (some ⟨30, c201, (resT [G4, G5])⟩) l l l l l l l l) (n (some ⟨32, c265, (resT [G4])⟩) l l l l l l l l) l l l l) (n (some ⟨27, c17, (resT [G0])⟩) (n (some ⟨17, c81, (resT [G2])⟩) l l l l l l l l) (n (some ⟨9, c145, (resT [G4])⟩) l l l l l l l l) (n (some ⟨21, c209, (resT [G4])⟩) l l l l l l l l) (n (some ⟨6, c273, (resT [])⟩) l l l l l l l l) l l l l) (n (some ⟨8, c25, (resT [G4])⟩) (n (some ⟨25, c89, (resT [])⟩) l l l l l l l l) (n (some ⟨31, c153, (resT [G4])⟩) l l l l l l l l) (n (some ⟨16, c217, (resT [G4])⟩) l l l l l l l l) (n (some ⟨16, c281, (resT [G6])⟩) l l l l l l l l) l l l l) (n (some ⟨8, c33, (resT [G4])⟩) (n (some ⟨36, c97, (resT [G2])⟩) l l l l l l l l) (n (some ⟨40, c161, (resT [G4, G5])⟩) l l l l l l l l) l (n (some ⟨18, c289, (resT [G2])⟩) l l l l l l l l) l l l l) (n (some ⟨13, c41, (resT [G2])⟩) (n (some ⟨104, c105, (resG tb Tryz.f105)⟩) l l l l l l l l) (n (some ⟨20, c169, (resT [])⟩) l l l l l l l l) (n (some ⟨23, c233, (resT [G6])⟩) l l l l l l l l) (n (some ⟨15, c297, (resT [G2])⟩) l l l l l l l l) l l l l) (n (some ⟨18, c49, (resT [G4])⟩) (n (some ⟨25, c113, (resT [])⟩) l l l l l l l l) (n (some ⟨42, c177, (resT [G2])⟩) l l l l l l l l) (n (some ⟨21, c241, (resT [G4])⟩) l l l l l l l l) (n (some ⟨14, c305, (resT [G2])⟩) l l l l l l l l) l l l l) (n (some ⟨37, c57, (resT [])⟩) (n (some ⟨19, c121, (resT [])⟩) l l l l l l l l) (n (some ⟨5, c185, (resT [G2])⟩) l l l l l l l l) (n (some ⟨8, c249, (resT [G2])⟩) l l l l l l l l) l l l l l) (n (some ⟨4, c65, (resT [G2])⟩) (n (some ⟨31, c129, (resT [])⟩) l l l l l l l l) (n (some ⟨5, c193, (resT [G2])⟩) l l l l l l l l) (n (some ⟨7, c257, (resT [])⟩) l l l l l l l l) l l l l l)) (n none (n (some ⟨3, c10, (resT [G2])⟩) (n (some ⟨19, c74, (resT [G2, G3])⟩) l l l l l l l l) (n (some ⟨143, c138, (resT [])⟩) l l l l l l l l) (n (some ⟨8, c202, (resT [G2])⟩) l l l l l l l l) (n (some ⟨3, c266, (resT [G0])⟩) l l l l l l l l) l l l l) (n (some ⟨39, c18, (resG tb Tryz.f18)⟩) (n (some ⟨6, c82, (resT [G2])⟩) l l l l l l l l) (n (some ⟨7, c146, (resT [G3])⟩) l l l l l l l l) (n (some ⟨8, c210, (resT [G4])⟩) l l l l l l l l) (n (some ⟨21, c274, (resT [G4])⟩) l l l l l l l l) l l l l) (n (some ⟨144, c26, (resT [])⟩) (n (some ⟨136, c90, (resT [G2])⟩) l l l l l l l l) (n (some ⟨52, c154, (resT [G2, G3, G4])⟩) l l l l l l l l) (n (some ⟨23, c218, (resT [G6])⟩) l l l l l l l l) (n (some ⟨50, c282, (resT [G4])⟩) l l l l l l l l) l l l l) (n (some ⟨21, c34, (resT [G2])⟩) (n (some ⟨48, c98, (resT [G2])⟩) l l l l l l l l) (n (some ⟨17, c162, (resT [G2, G3])⟩) l l l l l l l l) (n (some ⟨24, c226, (resT [G4])⟩) l l l l l l l l) (n (some ⟨7, c290, (resT [G2])⟩) l l l l l l l l) l l l l) (n (some ⟨8, c42, (resT [G4])⟩) (n (some ⟨26, c106, (resT [G4])⟩) l l l l l l l l) (n (some ⟨30, c170, (resT [])⟩) l l l l l l l l) (n (some ⟨54, c234, (resT [G2, G3])⟩) l l l l l l l l) (n (some ⟨167, c298, (resT [])⟩) l l l l l l l l) l l l l) (n (some ⟨85, c50, (resT [G4])⟩) (n (some ⟨19, c114, (resT [G4, G5])⟩) l l l l l l l l) (n (some ⟨61, c178, (resT [G2])⟩) l l l l l l l l) (n (some ⟨97, c242, (resG tb Tryz.f242)⟩) l l l l l l l l) (n (some ⟨14, c306, (resT [G2])⟩) l l l l l l l l) l l l l) (n (some ⟨113, c58, (resT [G4])⟩) (n (some ⟨19, c122, (resT [])⟩) l l l l l l l l) (n (some ⟨19, c186, (resT [])⟩) l l l l l l l l) (n (some ⟨17, c250, (resT [G4, G5])⟩) l l l l l l l l) l l l l l) (n (some ⟨37, c66, (resT [G4])⟩) (n (some ⟨28, c130, (resT [])⟩) l l l l l l l l) (n (some ⟨37, c194, (resT [G4])⟩) l l l l l l l l) (n (some ⟨20, c258, (resT [])⟩) l l l l l l l l) l l l l l)) (n (some ⟨68, c3, (resT [G4])⟩) (n (some ⟨10, c11, (resT [G3])⟩) (n (some ⟨23, c75, (resT [G4, G5, G6])⟩) l l l l l l l l) (n (some ⟨101, c139, (resT [G2])⟩) l l l l l l l l) (n (some ⟨12, c203, (resT [G4])⟩) l l l l l l l l) (n (some ⟨37, c267, (resT [G2])⟩) l l l l l l l l) l l l l) (n (some ⟨118, c19, (resT [])⟩) l (n (some ⟨17, c147, (resT [G4])⟩) l l l l l l l l) (n (some ⟨16, c211, (resT [G2])⟩) l l l l l l l l) (n (some ⟨26, c275, (resT [G6])⟩) l l l l l l l l) l l l l) (n (some ⟨102, c27, (resT [])⟩) (n (some ⟨38, c91, (resT [G2])⟩) l l l l l l l l) (n (some ⟨36, c155, (resT [G2, G3, G4])⟩) l l l l l l l l) (n (some ⟨50, c219, (resT [G2])⟩) l l l l l l l l) (n (some ⟨33, c283, (resT [G4])⟩) l l l l l l l l) l l l l) (n (some ⟨26, c35, (resT [G4])⟩) (n (some ⟨47, c99, (resT [G2])⟩) l l l l l l l l) (n (some ⟨38, c163, (resT [G4, G5])⟩) l l l l l l l l) (n (some ⟨104, c227, (resT [G8])⟩) l l l l l l l l) (n (some ⟨5, c291, (resT [G2])⟩) l l l l l l l l) l l l l) (n (some ⟨9, c43, (resT [G4])⟩) (n (some ⟨17, c107, (resT [G4])⟩) l l l l l l l l) (n (some ⟨19, c171, (resT [G4])⟩) l l l l l l l l) (n (some ⟨20, c235, (resT [G6])⟩) l l l l l l l l) (n (some ⟨102, c299, (resT [G10, G11])⟩) l l l l l l l l) l l l l) (n (some ⟨22, c51, (resT [G2])⟩) (n (some ⟨14, c115, (resT [G2])⟩) l l l l l l l l) (n (some ⟨47, c179, (resT [G2])⟩) l l l l l l l l) (n (some ⟨80, c243, (resT [])⟩) l l l l l l l l) l l l l l) (n (some ⟨22, c59, (resG tb Tryz.f59)⟩) (n (some ⟨32, c123, (resT [G4])⟩) l l l l l l l l) (n (some ⟨15, c187, (resT [G2])⟩) l l l l l l l l) (n (some ⟨51, c251, (resT [G4, G5])⟩) l l l l l l l l) l l l l l) (n (some ⟨4, c67, (resT [G2])⟩) (n (some ⟨28, c131, (resT [])⟩) l l l l l l l l) (n (some ⟨24, c195, (resT [G4])⟩) l l l l l l l l) (n (some ⟨77, c259, (resT [G2, G3])⟩) l l l l l l l l) l l l l l)) (n (some ⟨44, c4, (resT [G0])⟩) (n (some ⟨45, c12, (resT [G4])⟩) (n (some ⟨10, c76, (resT [G2])⟩) l l l l l l l l) (n (some ⟨11, c140, (resT [G4])⟩) l l l l l l l l) (n (some ⟨10, c204, (resT [G2])⟩) l l l l l l l l) (n (some ⟨86, c268, (resT [G4])⟩) l l l l l l l l) l l l l) (n (some ⟨9, c20, (resT [G4])⟩) (n (some ⟨53, c84, (resT [G2, G3])⟩) l l l l l l l l) (n (some ⟨19, c148, (resT [G4, G5])⟩) l l l l l l l l) (n (some ⟨19, c212, (resT [G2])⟩) l l l l l l l l) (n (some ⟨34, c276, (resT [])⟩) l l l l l l l l) l l l l) (n (some ⟨119, c28, (resG tb Tryz.f28)⟩) (n (some ⟨20, c92, (resT [G2])⟩) l l l l l l l l) (n (some ⟨54, c156, (resT [G2])⟩) l l l l l l l l) (n (some ⟨15, c220, (resT [G2])⟩) l l l l l l l l) (n (some ⟨78, c284, (resT [G4])⟩) l l l l l l l l) l l l l) (n (some ⟨12, c36, (resT [G4])⟩) (n (some ⟨65, c100, (resT [G2])⟩) l l l l l l l l) (n (some ⟨31, c164, (resT [G2])⟩) l l l l l l l l) (n (some ⟨21, c228, (resT [G4])⟩) l l l l l l l l) (n (some ⟨5, c292, (resT [G2])⟩) l l l l l l l l) l l l l) (n (some ⟨32, c44, (resT [G2])⟩) (n (some ⟨23, c108, (resT [G4])⟩) l l l l l l l l) (n (some ⟨25, c172, (resT [G4])⟩) l l l l l l l l) (n (some ⟨14, c236, (resT [G2, G3])⟩) l l l l l l l l) (n (some ⟨6, c300, (resT [G2])⟩) l l l l l l l l) l l l l) (n (some ⟨13, c52, (resT [G2])⟩) (n (some ⟨42, c116, (resT [G4])⟩) l l l l l l l l) (n (some ⟨69, c180, (resT [G4, G5])⟩) l l l l l l l l) (n (some ⟨13, c244, (resT [G4])⟩) l l l l l l l l) l l l l l) (n (some ⟨81, c60, (resT [])⟩) (n (some ⟨12, c124, (resT [G2])⟩) l l l l l l l l) (n (some ⟨4, c188, (resT [G2])⟩) l l l l l l l l) (n (some ⟨15, c252, (resT [G4, G5])⟩) l l l l l l l l) l l l l l) (n (some ⟨12, c68, (resT [G4])⟩) (n (some ⟨160, c132, (resT [])⟩) l l l l l l l l) (n (some ⟨6, c196, (resT [G2])⟩) l l l l l l l l) (n (some ⟨43, c260, (resT [G10])⟩) l l l l l l l l) l l l l l)) (n (some ⟨133, c5, (resT [G4, G5])⟩) (n (some ⟨47, c13, (resT [G2])⟩) l (n (some ⟨81, c141, (resT [G4])⟩) l l l l l l l l) (n (some ⟨17, c205, (resT [G4])⟩) l l l l l l l l) (n (some ⟨33, c269, (resT [])⟩) l l l l l l l l) l l l l) (n (some ⟨69, c21, (resG tb Tryz.f21)⟩) (n (some ⟨5, c85, (resT [G2])⟩) l l l l l l l l) (n (some ⟨56, c149, (resT [G6, G7, G8])⟩) l l l l l l l l) (n (some ⟨18, c213, (resG tb Tryz.f213)⟩) l l l l l l l l) (n (some ⟨73, c277, (resT [G6, G7])⟩) l l l l l l l l) l l l l) (n (some ⟨46, c29, (resG tb Tryz.f29)⟩) (n (some ⟨11, c93, (resT [G2])⟩) l l l l l l l l) (n (some ⟨65, c157, (resT [G2])⟩) l l l l l l l l) (n (some ⟨37, c221, (resT [G2])⟩) l l l l l l l l) (n (some ⟨50, c285, (resT [G4])⟩) l l l l l l l l) l l l l) (n (some ⟨26, c37, (resT [G4, G5])⟩) (n (some ⟨13, c101, (resT [G2])⟩) l l l l l l l l) (n (some ⟨53, c165, (resT [G4, G5, G6, G7])⟩) l l l l l l l l) (n (some ⟨8, c229, (resT [G4])⟩) l l l l l l l l) (n (some ⟨94, c293, (resT [G2])⟩) l l l l l l l l) l l l l) (n (some ⟨187, c45, (resT [G4])⟩) (n (some ⟨16, c109, (resT [G4])⟩) l l l l l l l l) (n (some ⟨11, c173, (resT [G2])⟩) l l l l l l l l) (n (some ⟨18, c237, (resT [G2])⟩) l l l l l l l l) (n (some ⟨25, c301, (resT [G2])⟩) l l l l l l l l) l l l l) (n (some ⟨30, c53, (resT [G2])⟩) (n (some ⟨7, c117, (resT [G2])⟩) l l l l l l l l) (n (some ⟨100, c181, (resG tb Tryz.f181)⟩) l l l l l l l l) (n (some ⟨19, c245, (resT [])⟩) l l l l l l l l) l l l l l) (n (some ⟨43, c61, (resT [G4])⟩) (n (some ⟨25, c125, (resT [])⟩) l l l l l l l l) (n (some ⟨39, c189, (resT [G2, G3])⟩) l l l l l l l l) (n (some ⟨36, c253, (resT [G4])⟩) l l l l l l l l) l l l l l) (n (some ⟨74, c69, (resT [])⟩) (n (some ⟨44, c133, (resT [G8])⟩) l l l l l l l l) (n (some ⟨13, c197, (resT [G4])⟩) l l l l l l l l) (n (some ⟨23, c261, (resT [G4])⟩) l l l l l l l l) l l l l l)) (n (some ⟨33, c6, (resT [G0])⟩) (n (some ⟨21, c14, (resT [])⟩) (n (some ⟨8, c78, (resT [G4])⟩) l l l l l l l l) (n (some ⟨117, c142, (resT [G2, G3])⟩) l l l l l l l l) (n (some ⟨11, c206, (resT [G4, G5])⟩) l l l l l l l l) (n (some ⟨16, c270, (resT [G4])⟩) l l l l l l l l) l l l l) (n (some ⟨60, c22, (resT [])⟩) (n (some ⟨22, c86, (resT [])⟩) l l l l l l l l) (n (some ⟨34, c150, (resT [G6])⟩) l l l l l l l l) (n (some ⟨39, c214, (resT [G4])⟩) l l l l l l l l) (n (some ⟨11, c278, (resT [G4])⟩) l l l l l l l l) l l l l) (n (some ⟨59, c30, (resG tb Tryz.f30)⟩) (n (some ⟨30, c94, (resT [])⟩) l l l l l l l l) (n (some ⟨27, c158, (resT [G2])⟩) l l l l l l l l) (n (some ⟨43, c222, (resT [G4, G5])⟩) l l l l l l l l) (n (some ⟨37, c286, (resT [G6])⟩) l l l l l l l l) l l l l) (n (some ⟨13, c38, (resT [G4, G5, G6])⟩) (n (some ⟨144, c102, (resT [G2])⟩) l l l l l l l l) (n (some ⟨22, c166, (resT [G2, G3])⟩) l l l l l l l l) (n (some ⟨13, c230, (resT [G2])⟩) l l l l l l l l) (n (some ⟨5, c294, (resT [G2])⟩) l l l l l l l l) l l l l) (n (some ⟨5, c46, (resT [G2])⟩) (n (some ⟨22, c110, (resT [G4])⟩) l l l l l l l l) (n (some ⟨28, c174, (resT [G4])⟩) l l l l l l l l) (n (some ⟨32, c238, (resT [G4])⟩) l l l l l l l l) (n (some ⟨4, c302, (resT [G2])⟩) l l l l l l l l) l l l l) (n (some ⟨6, c54, (resT [G2])⟩) (n (some ⟨14, c118, (resT [G6])⟩) l l l l l l l l) (n (some ⟨88, c182, (resG tb Tryz.f182)⟩) l l l l l l l l) (n (some ⟨13, c246, (resT [G2])⟩) l l l l l l l l) l l l l l) (n (some ⟨75, c62, (resT [G4])⟩) (n (some ⟨81, c126, (resT [])⟩) l l l l l l l l) (n (some ⟨19, c190, (resT [G4])⟩) l l l l l l l l) (n (some ⟨123, c254, (resT [G4])⟩) l l l l l l l l) l l l l l) (n (some ⟨73, c70, (resG tb Tryz.f70)⟩) (n (some ⟨4, c134, (resT [G2])⟩) l l l l l l l l) (n (some ⟨6, c198, (resT [G2])⟩) l l l l l l l l) (n (some ⟨21, c262, (resT [G6])⟩) l l l l l l l l) l l l l l)) (n (some ⟨38, c7, (resG tb Tryz.f7)⟩) (n (some ⟨8, c15, (resT [G2])⟩) (n (some ⟨19, c79, (resT [G4])⟩) l l l l l l l l) l (n (some ⟨16, c207, (resT [G2, G3])⟩) l l l l l l l l) (n (some ⟨32, c271, (resT [G4])⟩) l l l l l l l l) l l l l) (n (some ⟨20, c23, (resT [])⟩) (n (some ⟨90, c87, (resT [])⟩) l l l l l l l l) (n (some ⟨35, c151, (resT [G4])⟩) l l l l l l l l) (n (some ⟨32, c215, (resT [G4])⟩) l l l l l l l l) (n (some ⟨11, c279, (resT [G4])⟩) l l l l l l l l) l l l l) (n (some ⟨22, c31, (resT [G4])⟩) (n (some ⟨31, c95, (resT [G2])⟩) l l l l l l l l) (n (some ⟨29, c159, (resT [G2])⟩) l l l l l l l l) (n (some ⟨6, c223, (resT [G2])⟩) l l l l l l l l) (n (some ⟨52, c287, (resT [])⟩) l l l l l l l l) l l l l) (n (some ⟨34, c39, (resT [G4])⟩) (n (some ⟨15, c103, (resT [G2])⟩) l l l l l l l l) (n (some ⟨9, c167, (resT [G4])⟩) l l l l l l l l) (n (some ⟨39, c231, (resT [G4])⟩) l l l l l l l l) (n (some ⟨54, c295, (resT [G4])⟩) l l l l l l l l) l l l l) (n (some ⟨21, c47, (resG tb Tryz.f47)⟩) (n (some ⟨23, c111, (resT [G4])⟩) l l l l l l l l) (n (some ⟨11, c175, (resT [G6])⟩) l l l l l l l l) (n (some ⟨13, c239, (resG tb Tryz.f239)⟩) l l l l l l l l) (n (some ⟨8, c303, (resT [G2])⟩) l l l l l l l l) l l l l) (n (some ⟨58, c55, (resT [G2])⟩) (n (some ⟨9, c119, (resT [G4])⟩) l l l l l l l l) (n (some ⟨19, c183, (resT [])⟩) l l l l l l l l) (n (some ⟨25, c247, (resT [G2])⟩) l l l l l l l l) l l l l l) (n (some ⟨10, c63, (resT [])⟩) (n (some ⟨69, c127, (resT [])⟩) l l l l l l l l) (n (some ⟨14, c191, (resT [G3])⟩) l l l l l l l l) (n (some ⟨13, c255, (resT [G4])⟩) l l l l l l l l) l l l l l) (n (some ⟨125, c71, (resT [G2])⟩) (n (some ⟨12, c135, (resT [G2])⟩) l l l l l l l l) (n (some ⟨85, c199, (resT [G4])⟩) l l l l l l l l) (n (some ⟨66, c263, (resT [G8])⟩) l l l l l l l l) l l l l l)) (n (some ⟨98, c8, (resG tb Tryz.f8)⟩) (n (some ⟨33, c16, (resT [G2])⟩) (n (some ⟨30, c80, (resT [G2])⟩) l l l l l l l l) (n (some ⟨6, c144, (resT [G2])⟩) l l l l l l l l) (n (some ⟨22, c208, (resT [G2])⟩) l l l l l l l l) (n (some ⟨80, c272, (resT [G2])⟩) l l l l l l l l) l l l l) (n (some ⟨55, c24, (resT [G4])⟩) (n (some ⟨24, c88, (resT [])⟩) l l l l l l l l) (n (some ⟨125, c152, (resT [G4])⟩) l l l l l l l l) (n (some ⟨18, c216, (resT [G2, G3])⟩) l l l l l l l l) (n (some ⟨16, c280, (resT [G6])⟩) l l l l l l l l) l l l l) (n (some ⟨26, c32, (resT [G4])⟩) (n (some ⟨21, c96, (resT [G2])⟩) l l l l l l l l) (n (some ⟨50, c160, (resT [G2, G3, G4])⟩) l l l l l l l l) l (n (some ⟨172, c288, (resT [G6, G7])⟩) l l l l l l l l) l l l l) (n (some ⟨65, c40, (resT [G4])⟩) (n (some ⟨43, c104, (resG tb Tryz.f104)⟩) l l l l l l l l) (n (some ⟨51, c168, (resT [G2, G3])⟩) l l l l l l l l) (n (some ⟨8, c232, (resT [G4])⟩) l l l l l l l l) (n (some ⟨15, c296, (resT [G2])⟩) l l l l l l l l) l l l l) (n (some ⟨10, c48, (resT [G4])⟩) (n (some ⟨34, c112, (resT [G4])⟩) l l l l l l l l) (n (some ⟨8, c176, (resT [G4])⟩) l l l l l l l l) (n (some ⟨34, c240, (resT [G4])⟩) l l l l l l l l) (n (some ⟨8, c304, (resT [G2])⟩) l l l l l l l l) l l l l) (n (some ⟨26, c56, (resT [G2])⟩) (n (some ⟨12, c120, (resT [G4])⟩) l l l l l l l l) (n (some ⟨70, c184, (resT [G2, G3])⟩) l l l l l l l l) (n (some ⟨30, c248, (resT [G4, G5])⟩) l l l l l l l l) l l l l l) (n (some ⟨24, c64, (resT [G6])⟩) (n (some ⟨24, c128, (resT [])⟩) l l l l l l l l) (n (some ⟨19, c192, (resT [G4])⟩) l l l l l l l l) (n (some ⟨13, c256, (resT [G2])⟩) l l l l l l l l) l l l l l) (n (some ⟨9, c72, (resT [G4])⟩) (n (some ⟨11, c136, (resT [G2])⟩) l l l l l l l l) (n (some ⟨13, c200, (resT [G2])⟩) l l l l l l l l) (n (some ⟨25, c264, (resT [G6, G7])⟩) l l l l l l l l) l l l l l)))
def ctb : FuncId → Option FF := cT.get
end
end Go.Ax
