/- A part of the proof that GateNext of stetlaw20 answers true at every input: functions read once. Conditions: none. -/
import Derived.Test.YtepommncifphoaaGreatDoorTab
set_option linter.unusedVariables false
set_option linter.unusedSimpArgs false
set_option linter.unusedSectionVars false
namespace Go.Ax
open Go Go.Proofs
set_option maxRecDepth 1000000
noncomputable section
def c119 : Op8 := (oVal (fMove (kon (.bool false))) S4 <|
  (oVal (fMove G0) S5 <|
  oVal (fMove G1) S6 <|
  oCall 171 (fArgs [G5, G6]) S7 <|
  oVal (fInt geI G7 (kon (.int .i64 0))) S8 <|
  oVal (fMove G8) S4 <|
  sRet))
def c120 : Op8 := (oVal (fMove (kon (.bool false))) S4 <|
  (sDraw <| dVal (cL G1) 0 (fLoad1 G1) S5 <|
  dVal cP 1 (fMove G0) S6 <|
  dVal cP 2 (fNil G6) S7 <|
  dVal cP 3 (fFA 11 G7) S8 <|
  dVal (cL G8) 4 (fLoad1 G8) S9 <|
  dVal (cL G2) 5 (fLoad1 G2) S10 <|
  dCall cE 6 118 (fArgs [G5, G9, G10]) S11 <|
  dVal cP 7 (fMove G11) S4 <|
  dEnd [0, 0, 2, 6, 14, 0, 63, 127] sRet))
def c121 : Op8 := (oVal (fLoad1 G1) S4 <|
  oVal (fLenL G4) S5 <|
  oVal (fInt subI G5 (kon (.int .i64 1))) S6 <|
  oVal (fMove G6) S3 <|
  (sBlock 0 (sLoop (thenF (oVal (fMove G3) S7 <|
  oVal (fInt geI G7 (kon (.int .i64 0))) S8 <|
  (sCond G8 oEnd
  (sExit 0)))
  (thenF (sBlock 1 (oVal (fMove G0) S11 <|
  oVal (fMove G3) S12 <|
  oVal (fLoad1 G1) S13 <|
  oVal (fMove G3) S14 <|
  oVal (fIAs 1 G13 G14) S15 <|
  oVal (fLoad1 G15) S16 <|
  gn yesW (opAt 6 [u, z, z, u, z, z, z] Tryz.f121) <|
  oVal (fNot G17) S18 <|
  (sCond G18 sRet
  oEnd)))
  (oVal (fMove G3) S9 <|
  oVal (fInt subI G9 (kon (.int .i64 1))) S10 <|
  oVal (fMove G10) S3 <|
  oEnd))))))
def c122 : Op8 := (oVal (fLoad1 G1) S4 <|
  oVal (fLenL G4) S5 <|
  oVal (fInt subI G5 (kon (.int .i64 1))) S6 <|
  oVal (fMove G6) S3 <|
  (sBlock 0 (sLoop (thenF (oVal (fMove G3) S7 <|
  oVal (fInt geI G7 (kon (.int .i64 0))) S8 <|
  (sCond G8 oEnd
  (sExit 0)))
  (thenF (sBlock 1 (oVal (fMove G0) S11 <|
  oVal (fMove G3) S12 <|
  oVal (fLoad1 G1) S13 <|
  oVal (fMove G3) S14 <|
  oVal (fIAs 5 G13 G14) S15 <|
  oVal (fLoadN 5 G15) S16 <|
  gn yesW (opAt 6 [u, z, z, u, z, z, z] Tryz.f122) <|
  oVal (fNot G17) S18 <|
  (sCond G18 sRet
  oEnd)))
  (oVal (fMove G3) S9 <|
  oVal (fInt subI G9 (kon (.int .i64 1))) S10 <|
  oVal (fMove G10) S3 <|
  oEnd))))))
def c123 : Op8 := (oVal (fMove (kon (.str []))) S4 <|
  (thenF (oVal (fMove G0) S10 <|
  gn yesW (opAt 1 [u, z, z] Tryz.f123) <|
  (sBlock 0 (sLoop (gn yesW (opAt 0 [u, z, u, z, z, z] Tryz.f123) <|
  oVal (fExt 0 G12) S13 <|
  (thenF (sCond G13 oEnd
  (sExit 0))
  (sBlock 1 (oVal (fExt 1 G12) S14 <|
  oVal (fExt 2 G12) S15 <|
  oVal (fMove G14) S5 <|
  oVal (fMove G15) S6 <|
  (oVal (fMove (kon (.bool false))) S7 <|
  (thenF (oVal (fMove G1) S16 <|
  gn yesW (opAt 1 [u, z, u, z, z, u, u, z, u, u, z, z] Tryz.f123) <|
  (sBlock 2 (sLoop (gn yesW (opAt 0 [u, z, u, z, z, u, u, z, u, u, z, u, z, z, z] Tryz.f123) <|
  oVal (fExt 0 G18) S19 <|
  (thenF (sCond G19 oEnd
  (sExit 2))
  (sBlock 3 (oVal (fExt 2 G18) S20 <|
  oVal (fMove G20) S9 <|
  (oVal (fMove G7) S21 <|
  oVal (fMove G21) S22 <|
  oGval (wntF G22 false) (fMove G6) S23 <|
  oGval (wntF G22 false) (fMove G9) S24 <|
  oGval (wntF G22 false) (fIntE G23 G24) S25 <|
  oVal (fPick G22 (kon (.bool true)) G25) S26 <|
  oVal (fMove G26) S7 <|
  oEnd))))))))
  (oVal (fMove G7) S27 <|
  oVal (fNot G27) S28 <|
  (sCond G28 (oVal (fMove G0) S29 <|
  oVal (fMove G5) S30 <|
  oVal (fSlS G29 (some G30) none) S31 <|
  oVal (fMove G31) S4 <|
  sRet)
  oEnd)))))))))))
  (oVal (fMove (kon (.str []))) S4 <|
  sRet)))
def c124 : Op8 := (oVal (fMove (kon (.str []))) S2 <|
  (oVal (fMove G0) S3 <|
  oVal (fNil G3) S4 <|
  oVal (fFA 0 G4) S5 <|
  oVal (fLoad1 G5) S6 <|
  oVal (fMove G0) S7 <|
  oVal (fNil G7) S8 <|
  oVal (fFA 1 G8) S9 <|
  oVal (fLoad1 G9) S10 <|
  oVal (fSlS G6 (some G10) none) S11 <|
  oVal (fMove G11) S2 <|
  sRet))
def c125 : Op8 := (oVal (fMove G0) S3 <|
  oCall 124 (fArgs [G3]) S4 <|
  oVal (fSlS G4 (some (kon (.int .i64 1))) none) S5 <|
  oVal (fMove G5) S2 <|
  (sBlock 0 (oVal (fMove G2) S9 <|
  oCall 25 (fArgs [G9, (kon (.str [10]))]) S10 <|
  oVal (fMove G10) S8 <|
  (sCond G8 (oVal (fMove G0) S11 <|
  oCall 133 (fArgs [G11, (kon (.int .i64 12)), (kon (.int .i64 2)), (kon (.str []))]) S12 <|
  oEnd)
  (oVal (fMove G2) S14 <|
  gn yesW (opAt 1 [u, z, u, u, z] Tryz.f125) <|
  oVal (fMove G15) S16 <|
  oGval (wntF G16 true) (fMove G2) S17 <|
  oGval (wntF G16 true) (fIxS G17 (kon (.int .i64 0))) S18 <|
  oGcall (wntF G16 true) 173 (fArgs [G18]) S19 <|
  oVal (fPick G16 G19 (kon (.bool false))) S20 <|
  oVal (fMove G20) S13 <|
  (sCond G13 (oVal (fMove G0) S21 <|
  oVal (fMove G2) S22 <|
  oVal (fSlS G22 none (some (kon (.int .i64 1)))) S23 <|
  oCall 133 (fArgs [G21, (kon (.int .i64 10)), (kon (.int .i64 2)), G23]) S24 <|
  oEnd)
  (oVal (fMove G0) S6 <|
  oCall 133 (fArgs [G6, (kon (.int .i64 10)), (kon (.int .i64 1)), (kon (.str [92]))]) S7 <|
  oEnd)))))))
def c126 : Op8 := (oVal (fMove G0) S7 <|
  oCall 124 (fArgs [G7]) S8 <|
  oCall 68 (fArgs [G8, (kon (.str [96]))]) S9 <|
  oVal (fMove G9) S2 <|
  (oVal (fMove (kon (.int .i64 (-1)))) S3 <|
  (thenF (oVal (fMove G0) S11 <|
  oVal (fNil G11) S12 <|
  oVal (fFA 5 G12) S13 <|
  oVal (fLoad1 G13) S14 <|
  oVal (fMove G2) S15 <|
  gn yesW (opAt 5 [u, u, z, z] Tryz.f126) <|
  oVal (fMove G16) S10 <|
  oVal (fExt 0 G10) S17 <|
  oVal (fExt 1 G10) S18 <|
  oVal (fMove G17) S4 <|
  oVal (fMove G18) S5 <|
  (oVal (fMove G5) S19 <|
  oVal (fNot G19) S20 <|
  oVal (fMove G20) S21 <|
  oGval (wntF G21 false) (fMove G0) S22 <|
  oGval (wntF G21 false) (fNil G22) S23 <|
  oGval (wntF G21 false) (fFA 1 G23) S24 <|
  oGval (wntF G21 false) (fLoad1 G24) S25 <|
  oGval (wntF G21 false) (fMove G4) S26 <|
  oGval (wntF G21 false) (fInt ltI G25 G26) S27 <|
  oVal (fPick G21 (kon (.bool true)) G27) S28 <|
  (sCond G28 (oVal (fMove G0) S29 <|
  oCall 124 (fArgs [G29]) S30 <|
  oVal (fMove G2) S31 <|
  oVal (fSlS G30 (some G31) none) S32 <|
  oVal (fMove G2) S33 <|
  oCall 174 (fArgs [G32, G33]) S34 <|
  oVal (fMove G34) S3 <|
  oEnd)
  oEnd)))
  (thenF (oVal (fMove G3) S35 <|
  oVal (fInt ltI G35 (kon (.int .i64 0))) S36 <|
  (sCond G36 (oVal (fMove G0) S37 <|
  oVal (fNil G37) S38 <|
  oVal (fFA 5 G38) S39 <|
  oVal (fLoad1 G39) S40 <|
  oVal (fMove G2) S41 <|
  gn yesW (opAt 5 [u, u, u, z, u, z, z] Tryz.f126) <|
  (oVal (fMove G0) S42 <|
  oVal (fMove G2) S43 <|
  oVal (fMove G0) S44 <|
  oCall 124 (fArgs [G44]) S45 <|
  oVal (fMove G2) S46 <|
  oVal (fSlS G45 none (some G46)) S47 <|
  oCall 133 (fArgs [G42, (kon (.int .i64 10)), G43, G47]) S48 <|
  sRet))
  oEnd))
  (oVal (fMove G0) S49 <|
  oCall 124 (fArgs [G49]) S50 <|
  oVal (fMove G2) S51 <|
  oVal (fMove G2) S52 <|
  oVal (fMove G3) S53 <|
  oVal (fInt addI G52 G53) S54 <|
  oVal (fSlS G50 (some G51) (some G54)) S55 <|
  oCall 175 (fArgs [G55, (kon (.str [10])), (kon (.str [32]))]) S56 <|
  oVal (fMove G56) S6 <|
  (thenF (oVal (fMove G6) S57 <|
  oCall 61 (fArgs [G57, (kon (.str [32]))]) S58 <|
  gn yesW (opAt 2 [u, u, u, u, u, z, z] Tryz.f126) <|
  oVal (fMove G59) S60 <|
  oGval (wntF G60 true) (fMove G6) S61 <|
  oGcall (wntF G60 true) 25 (fArgs [G61, (kon (.str [32]))]) S62 <|
  oVal (fPick G60 G62 (kon (.bool false))) S63 <|
  oVal (fMove G63) S64 <|
  oGval (wntF G64 true) (fMove G6) S65 <|
  oGcall (wntF G64 true) 176 (fArgs [G65, (kon (.str [32]))]) S66 <|
  oVal (fPick G64 G66 (kon (.bool false))) S67 <|
  (sCond G67 (oVal (fMove G6) S68 <|
  oVal (fMove G6) S69 <|
  oVal (fLenS G69) S70 <|
  oVal (fInt subI G70 (kon (.int .i64 1))) S71 <|
  oVal (fSlS G68 (some (kon (.int .i64 1))) (some G71)) S72 <|
  oVal (fMove G72) S6 <|
  oEnd)
  oEnd))
  (oVal (fMove G0) S73 <|
  oVal (fMove G2) S74 <|
  oVal (fMove G3) S75 <|
  oVal (fInt addI G74 G75) S76 <|
  oVal (fMove G2) S77 <|
  oVal (fInt addI G76 G77) S78 <|
  oVal (fMove G6) S79 <|
  oCall 133 (fArgs [G73, (kon (.int .i64 13)), G78, G79]) S80 <|
  oEnd)))))))
def c127 : Op8 := (oVal (fMove G0) S8 <|
  oCall 124 (fArgs [G8]) S9 <|
  oVal (fMove G9) S2 <|
  (oVal (fMove G2) S10 <|
  oCall 177 (fArgs [G10]) S11 <|
  oVal (fMove (kon (.str []))) S3 <|
  oVal (fMove G11) S4 <|
  (thenF (oVal (fMove G4) S12 <|
  oVal (fIntE G12 (kon (.int .i64 0))) S13 <|
  (sCond G13 (oVal (fMove G2) S14 <|
  oCall 178 (fArgs [G14]) S15 <|
  oVal (fMove (kon (.str [109, 97, 105, 108, 116, 111, 58]))) S3 <|
  oVal (fMove G15) S4 <|
  oEnd)
  oEnd))
  (thenF (oVal (fMove G4) S16 <|
  oVal (fInt gtI G16 (kon (.int .i64 0))) S17 <|
  (sCond G17 (oVal (fMove G2) S18 <|
  oVal (fMove G4) S19 <|
  oVal (fInt subI G19 (kon (.int .i64 1))) S20 <|
  oVal (fSlS G18 (some (kon (.int .i64 1))) (some G20)) S21 <|
  oVal (fMove G21) S5 <|
  (oVal (fMove G0) S22 <|
  oVal (fNil G22) S23 <|
  oVal (fFA 1 G23) S24 <|
  oVal (fLoad1 G24) S25 <|
  oVal (fInt addI G25 (kon (.int .i64 1))) S26 <|
  oVal (fMove G0) S27 <|
  oVal (fNil G27) S28 <|
  oVal (fFA 1 G28) S29 <|
  oVal (fLoad1 G29) S30 <|
  oVal (fMove G4) S31 <|
  oVal (fInt addI G30 G31) S32 <|
  oVal (fInt subI G32 (kon (.int .i64 1))) S33 <|
  oVal (fMove G5) S34 <|
  gn yesW (opAt 13 [u, u, u, z, u, z, u, z] Tryz.f127) <|
  gn yesW (opAt 14 [u, u, u, z, u, z, u, z] Tryz.f127) <|
  gn yesW (opAt 15 [u, u, u, z, u, z, u, z] Tryz.f127) <|
  oVal (fMove G37) S6 <|
  (oVal (fMove G0) S38 <|
  oVal (fMove G4) S39 <|
  oCall 133 (fArgs [G38, (kon (.int .i64 16)), G39, (kon (.str []))]) S40 <|
  oVal (fMove G40) S7 <|
  (oVal (fMove G7) S41 <|
  oVal (fMove G7) S42 <|
  oVal (fMove G7) S43 <|
  oVal (fMove G3) S44 <|
  oVal (fMove G5) S45 <|
  gn yesW (opAt 5 [u, u, u, z, u, z, u, u, u, z] Tryz.f127) <|
  oVal (fMove G6) S47 <|
  gn yesW (opAt 7 [u, u, u, z, u, z, u, u, u, z] Tryz.f127) <|
  oVal (fNil G41) S49 <|
  oVal (fFA 0 G49) S50 <|
  oVal (fFA 3 G50) S51 <|
  oUpd (fSt1 G51 (kon (.int .i64 3))) <|
  oVal (fNil G42) S52 <|
  oVal (fFA 0 G52) S53 <|
  oVal (fFA 5 G53) S54 <|
  oUpd (fSt1 G54 G46) <|
  oVal (fNil G43) S55 <|
  oVal (fFA 10 G55) S56 <|
  oUpd (fSt1 G56 G48) <|
  sRet))))
  oEnd))
  (thenF (oVal (fMove G2) S57 <|
  oCall 179 (fArgs [G57]) S58 <|
  oVal (fMove G58) S4 <|
  (oVal (fMove G4) S59 <|
  oVal (fInt gtI G59 (kon (.int .i64 0))) S60 <|
  (sCond G60 (oVal (fMove G0) S61 <|
  oVal (fMove G4) S62 <|
  oVal (fMove G2) S63 <|
  oVal (fMove G4) S64 <|
  oVal (fSlS G63 none (some G64)) S65 <|
  oCall 133 (fArgs [G61, (kon (.int .i64 18)), G62, G65]) S66 <|
  sRet)
  oEnd)))
  (oVal (fMove G0) S67 <|
  oCall 133 (fArgs [G67, (kon (.int .i64 10)), (kon (.int .i64 1)), (kon (.str [60]))]) S68 <|
  oEnd))))))
def c128 : Op8 := (thenF (sDraw <| dVal cP 0 (fMove G0) S5 <|
  dVal cP 1 (fNil G5) S6 <|
  dVal cP 2 (fFA 0 G6) S7 <|
  dVal (cL G7) 3 (fLoad1 G7) S8 <|
  dVal cP 4 (fMove G0) S9 <|
  dVal cP 5 (fNil G9) S10 <|
  dVal cP 6 (fFA 1 G10) S11 <|
  dVal (cL G11) 7 (fLoad1 G11) S12 <|
  dCall cE 8 180 (fArgs [G8, G12]) S13 <|
  dVal cP 9 (fMove G13) S4 <|
  dVal cP 10 (fExt 0 G4) S14 <|
  dVal cP 11 (fExt 1 G4) S15 <|
  dVal cP 12 (fMove G14) S2 <|
  dVal cP 13 (fMove G15) S3 <|
  dEnd [0, 1, 3, 7, 0, 16, 48, 112, 255, 511, 1023, 1023, 2047, 8191] (oVal (fMove G3) S16 <|
  oVal (fInt gtI G16 (kon (.int .i64 0))) S17 <|
  (sCond G17 (oVal (fMove G0) S18 <|
  oVal (fMove G3) S19 <|
  oVal (fMove G2) S20 <|
  oCall 133 (fArgs [G18, (kon (.int .i64 10)), G19, G20]) S21 <|
  sRet)
  oEnd)))
  (oVal (fMove G0) S22 <|
  oCall 133 (fArgs [G22, (kon (.int .i64 10)), (kon (.int .i64 1)), (kon (.str [38]))]) S23 <|
  oEnd))
def c129 : Op8 := (oVal (fMove G0) S3 <|
  oCall 124 (fArgs [G3]) S4 <|
  oCall 68 (fArgs [G4, (kon (.str [32]))]) S5 <|
  oVal (fMove G5) S2 <|
  (sBlock 0 (oVal (fMove G0) S11 <|
  oCall 124 (fArgs [G11]) S12 <|
  oVal (fMove G2) S13 <|
  oVal (fSlS G12 (some G13) none) S14 <|
  oCall 25 (fArgs [G14, (kon (.str [10]))]) S15 <|
  oVal (fNot G15) S16 <|
  oVal (fMove G16) S10 <|
  (sCond G10 (oVal (fMove G0) S17 <|
  oVal (fMove G2) S18 <|
  oVal (fMove G0) S19 <|
  oCall 124 (fArgs [G19]) S20 <|
  oVal (fMove G2) S21 <|
  oVal (fSlS G20 none (some G21)) S22 <|
  oCall 133 (fArgs [G17, (kon (.int .i64 10)), G18, G22]) S23 <|
  oEnd)
  (oVal (fMove G2) S25 <|
  oVal (fInt geI G25 (kon (.int .i64 2))) S26 <|
  oVal (fMove G26) S24 <|
  (sCond G24 (oVal (fMove G0) S27 <|
  oVal (fMove G2) S28 <|
  oVal (fInt addI G28 (kon (.int .i64 1))) S29 <|
  oCall 133 (fArgs [G27, (kon (.int .i64 12)), G29, (kon (.str []))]) S30 <|
  oEnd)
  (oVal (fMove G0) S6 <|
  oVal (fMove G2) S7 <|
  oVal (fInt addI G7 (kon (.int .i64 1))) S8 <|
  oCall 133 (fArgs [G6, (kon (.int .i64 11)), G8, (kon (.str []))]) S9 <|
  oEnd)))))))
def c130 : Op8 := (sDraw <| dVal cP 0 (fMove G0) S5 <|
  dVal cP 1 (fNil G5) S6 <|
  dVal cP 2 (fFA 0 G6) S7 <|
  dVal (cL G7) 3 (fLoad1 G7) S8 <|
  dVal cP 4 (fMove G0) S9 <|
  dVal cP 5 (fNil G9) S10 <|
  dVal cP 6 (fFA 1 G10) S11 <|
  dVal (cL G11) 7 (fLoad1 G11) S12 <|
  dCall cE 8 181 (fArgs [G8, G12]) S13 <|
  dVal cP 9 (fMove G13) S4 <|
  dVal cP 10 (fExt 0 G4) S14 <|
  dVal cP 11 (fExt 1 G4) S15 <|
  gd cN 12 yesW (opAt 12 [z] Tryz.f130) <|
  dUpd cE 13 (fSt tb 150 G2 G14) <|
  dVal cP 14 (fMove G15) S3 <|
  dEnd [0, 1, 3, 7, 0, 16, 48, 112, 255, 511, 1023, 1023, 0, 6143, 16383] (sDraw <| dVal cP 0 (fMove G0) S16 <|
  dVal cP 1 (fFA 1 G2) S17 <|
  dVal (cL G17) 2 (fLoad1 G17) S18 <|
  dVal cP 3 (fMove G0) S19 <|
  dCall cE 4 124 (fArgs [G19]) S20 <|
  dVal cP 5 (fFA 1 G2) S21 <|
  dVal (cL G21) 6 (fLoad1 G21) S22 <|
  dVal cP 7 (fSlS G20 none (some G22)) S23 <|
  dCall cE 8 133 (fArgs [G16, (kon (.int .i64 10)), G18, G23]) S24 <|
  dVal (cL G2) 9 (fLoadN 4 G2) S25 <|
  dVal cP 10 (fNil G24) S26 <|
  dVal cP 11 (fFA 11 G26) S27 <|
  dUpd cE 12 (fSt tb 150 G27 G25) <|
  dEnd [0, 0, 2, 0, 8, 0, 32, 120, 255, 0, 1023, 2047, 4095] oEnd))
def c131 : Op8 := (sDraw <| dVal cP 0 (fMove G0) S6 <|
  dVal cP 1 (fMove G0) S7 <|
  dVal cP 2 (fNil G7) S8 <|
  dVal cP 3 (fFA 4 G8) S9 <|
  dVal (cL G9) 4 (fLoad1 G9) S10 <|
  dVal cP 5 (fMove G0) S11 <|
  dVal cP 6 (fNil G11) S12 <|
  dVal cP 7 (fFA 3 G12) S13 <|
  dVal (cL G13) 8 (fLoad1 G13) S14 <|
  dVal cP 9 (fLenL G14) S15 <|
  gd cN 10 yesW (opAt 10 [z] Tryz.f131) <|
  gd cE 11 yesW (opAt 11 [z] Tryz.f131) <|
  dVal cP 12 (fNil G6) S18 <|
  dVal cP 13 (fFA 4 G18) S19 <|
  dUpd cE 14 (fSt1 G19 G17) <|
  dEnd [0, 0, 2, 6, 14, 0, 32, 96, 224, 480, 992, 2046, 4095, 8191, 16383] (oVal (fMove G0) S20 <|
  oVal (fMove G1) S21 <|
  oVal (fLenS G21) S22 <|
  oVal (fMove G1) S23 <|
  oCall 133 (fArgs [G20, (kon (.int .i64 10)), G22, G23]) S24 <|
  oVal (fMove G2) S25 <|
  oVal (fNil G24) S26 <|
  oVal (fFA 15 G26) S27 <|
  oUpd (fSt1 G27 G25) <|
  oEnd))
def c132 : Op8 := (thenF (oVal (fMove G0) S10 <|
  oVal (fNil G10) S11 <|
  oVal (fFA 4 G11) S12 <|
  oVal (fLoad1 G12) S13 <|
  oVal (fLenL G13) S14 <|
  oVal (fIntE G14 (kon (.int .i64 0))) S15 <|
  (sCond G15 (oVal (fMove G0) S16 <|
  oCall 133 (fArgs [G16, (kon (.int .i64 10)), (kon (.int .i64 1)), (kon (.str [93]))]) S17 <|
  sRet)
  oEnd))
  (oVal (fMove G0) S18 <|
  oVal (fNil G18) S19 <|
  oVal (fFA 4 G19) S20 <|
  oVal (fLoad1 G20) S21 <|
  oVal (fMove G0) S22 <|
  oVal (fNil G22) S23 <|
  oVal (fFA 4 G23) S24 <|
  oVal (fLoad1 G24) S25 <|
  oVal (fLenL G25) S26 <|
  oVal (fInt subI G26 (kon (.int .i64 1))) S27 <|
  oVal (fIAs 1 G21 G27) S28 <|
  oVal (fLoad1 G28) S29 <|
  oVal (fMove G29) S2 <|
  (sDraw <| dVal cP 0 (fMove G0) S30 <|
  dVal cP 1 (fMove G0) S31 <|
  dVal cP 2 (fNil G31) S32 <|
  dVal cP 3 (fFA 4 G32) S33 <|
  dVal (cL G33) 4 (fLoad1 G33) S34 <|
  dVal cP 5 (fMove G0) S35 <|
  dVal cP 6 (fNil G35) S36 <|
  dVal cP 7 (fFA 4 G36) S37 <|
  dVal (cL G37) 8 (fLoad1 G37) S38 <|
  dVal cP 9 (fLenL G38) S39 <|
  dVal cP 10 (fInt subI G39 (kon (.int .i64 1))) S40 <|
  gd cE 11 yesW (opAt 11 [u, u, z] Tryz.f132) <|
  dVal cP 12 (fNil G30) S42 <|
  dVal cP 13 (fFA 4 G42) S43 <|
  dUpd cE 14 (fSt1 G43 G41) <|
  dEnd [0, 0, 2, 6, 14, 0, 32, 96, 224, 480, 992, 2046, 4095, 8191, 16383] (oVal (fMove G0) S44 <|
  oVal (fNil G44) S45 <|
  oVal (fFA 3 G45) S46 <|
  oVal (fLoad1 G46) S47 <|
  oVal (fMove G2) S48 <|
  oVal (fIAs 1 G47 G48) S49 <|
  oVal (fLoad1 G49) S50 <|
  oVal (fMove G50) S3 <|
  (oVal (fMove G3) S51 <|
  oVal (fNil G51) S52 <|
  oVal (fFA 15 G52) S53 <|
  oVal (fLoad1 G53) S54 <|
  oVal (fMove G54) S4 <|
  (oVal (fMove G3) S55 <|
  oVal (fNil G55) S56 <|
  oVal (fFA 15 G56) S57 <|
  oUpd (fSt1 G57 (kon (.int .i64 0))) <|
  (gn yesW (opAt 0 [u, u, u, u, u, u, z] Tryz.f132) <|
  gn yesW (opAt 1 [u, u, u, u, u, u, z] Tryz.f132) <|
  oUpd (fSt tb 238 G5 G58) <|
  oVal (fMove (kon (.bool false))) S6 <|
  (thenF (oVal (fMove G3) S59 <|
  oVal (fNil G59) S60 <|
  oVal (fFA 16 G60) S61 <|
  oVal (fLoad1 G61) S62 <|
  oVal (fNot G62) S63 <|
  (sCond G63 (oVal (fMove G0) S65 <|
  oVal (fMove G3) S66 <|
  oVal (fNil G66) S67 <|
  oVal (fFA 0 G67) S68 <|
  oVal (fFA 2 G68) S69 <|
  oVal (fLoad1 G69) S70 <|
  oVal (fInt subI G70 (kon (.int .i64 1))) S71 <|
  oCall 182 (fArgs [G65, G71]) S72 <|
  oVal (fMove G72) S64 <|
  oVal (fExt 0 G64) S73 <|
  oVal (fExt 1 G64) S74 <|
  oUpd (fSt tb 238 G5 G73) <|
  oVal (fMove G74) S6 <|
  oEnd)
  oEnd))
  (thenF (oVal (fMove G6) S75 <|
  oVal (fNot G75) S76 <|
  (sCond G76 (oVal (fMove G0) S77 <|
  oCall 133 (fArgs [G77, (kon (.int .i64 10)), (kon (.int .i64 1)), (kon (.str [93]))]) S78 <|
  sRet)
  oEnd))
  (sDraw <| dVal cP 0 (fMove G3) S79 <|
  dVal cP 1 (fNil G79) S80 <|
  dVal cP 2 (fFA 0 G80) S81 <|
  dVal cP 3 (fFA 1 G81) S82 <|
  dVal (cL G82) 4 (fLoad1 G82) S83 <|
  dVal cP 5 (fFA 3 G5) S84 <|
  dVal (cL G84) 6 (fLoad1 G84) S85 <|
  dVal cP 7 (fFA 2 G5) S86 <|
  dVal (cL G86) 8 (fLoad1 G86) S87 <|
  dVal cP 9 (fFA 0 G5) S88 <|
  dVal (cL G88) 10 (fLoad1 G88) S89 <|
  dVal cP 11 (fFA 1 G5) S90 <|
  dVal (cL G90) 12 (fLoad1 G90) S91 <|
  gd cP 13 yesW (opAt 13 [u, u, u, u, u, u, u, u, u, z] Tryz.f132) <|
  dVal cP 14 (fMove G0) S93 <|
  dVal cP 15 (fNil G93) S94 <|
  dVal cP 16 (fFA 3 G94) S95 <|
  dVal (cL G95) 17 (fLoad1 G95) S96 <|
  dVal cP 18 (fMove G2) S97 <|
  dVal cP 19 (fInt addI G97 (kon (.int .i64 1))) S98 <|
  gd cE 20 yesW (opAt 20 [u, u, u, u, u, u, u, u, u, z] Tryz.f132) <|
  dCall cE 21 71 (fArgs [G99]) S100 <|
  gd cP 22 yesW (opAt 22 [u, u, u, u, u, u, u, u, u, z] Tryz.f132) <|
  gd cN 23 yesW (opAt 23 [u, u, u, u, u, u, u, u, u, z] Tryz.f132) <|
  dVal cP 24 (fMove G102) S7 <|
  dEnd [0, 1, 3, 7, 15, 0, 32, 0, 128, 0, 512, 0, 2048, 8191, 0, 16384, 49152, 114688, 0, 262144, 1032192, 2080768, 4194303, 8388607, 16777215] (thenF (oVal (fMove G4) S103 <|
  oVal (fIntE G103 (kon (.int .i64 2))) S104 <|
  (sCond G104 (oVal (fMove G7) S105 <|
  oVal (fNil G105) S106 <|
  oVal (fFA 0 G106) S107 <|
  oVal (fFA 0 G107) S108 <|
  oUpd (fSt1 G108 (kon (.int .i64 17))) <|
  oEnd)
  oEnd))
  (oVal (fMove G0) S109 <|
  oVal (fMove G0) S110 <|
  oVal (fNil G110) S111 <|
  oVal (fFA 3 G111) S112 <|
  oVal (fLoad1 G112) S113 <|
  oVal (fMove G2) S114 <|
  gn yesW (opAt 6 [u, u, u, u, u, u, u, u, u, u, u, z] Tryz.f132) <|
  oVal (fMove G7) S116 <|
  gn yesW (opAt 8 [u, u, u, u, u, u, u, u, u, u, u, z] Tryz.f132) <|
  gn yesW (opAt 9 [u, u, u, u, u, u, u, u, u, u, u, z] Tryz.f132) <|
  oVal (fNil G109) S119 <|
  oVal (fFA 3 G119) S120 <|
  oUpd (fSt1 G120 G118) <|
  (oVal (fMove G0) S121 <|
  oVal (fFA 3 G5) S122 <|
  oVal (fLoad1 G122) S123 <|
  oVal (fNil G121) S124 <|
  oVal (fFA 1 G124) S125 <|
  oUpd (fSt1 G125 G123) <|
  (oVal (fMove G0) S126 <|
  oVal (fNil G126) S127 <|
  oVal (fFA 4 G127) S128 <|
  oVal (fLoad1 G128) S129 <|
  oVal (fLenL G129) S130 <|
  oVal (fMove (kon (.int .i64 0))) S131 <|
  (sBlock 0 (sLoop (oVal (fInt ltI G131 G130) S132 <|
  (thenF (sCond G132 oEnd
  (sExit 0))
  (thenF (sBlock 1 (oVal (fIAs 1 G129 G131) S133 <|
  oVal (fLoad1 G133) S134 <|
  oVal (fMove G134) S9 <|
  (oVal (fMove G4) S135 <|
  oVal (fIntE G135 (kon (.int .i64 1))) S136 <|
  oVal (fMove G136) S137 <|
  oGval (wntF G137 true) (fMove G0) S138 <|
  oGval (wntF G137 true) (fNil G138) S139 <|
  oGval (wntF G137 true) (fFA 3 G139) S140 <|
  oGval (wntF G137 true) (fLoad1 G140) S141 <|
  oGval (wntF G137 true) (fMove G9) S142 <|
  oGval (wntF G137 true) (fIAs 1 G141 G142) S143 <|
  oGval (wntF G137 true) (fLoad1 G143) S144 <|
  oGval (wntF G137 true) (fNil G144) S145 <|
  oGval (wntF G137 true) (fFA 15 G145) S146 <|
  oGval (wntF G137 true) (fLoad1 G146) S147 <|
  oGval (wntF G137 true) (fIntE G147 (kon (.int .i64 1))) S148 <|
  oVal (fPick G137 G148 (kon (.bool false))) S149 <|
  (sCond G149 (oVal (fMove G0) S150 <|
  oVal (fNil G150) S151 <|
  oVal (fFA 3 G151) S152 <|
  oVal (fLoad1 G152) S153 <|
  oVal (fMove G9) S154 <|
  oVal (fIAs 1 G153 G154) S155 <|
  oVal (fLoad1 G155) S156 <|
  oVal (fNil G156) S157 <|
  oVal (fFA 16 G157) S158 <|
  oUpd (fSt1 G158 (kon (.bool true))) <|
  oEnd)
  oEnd))))
  (oVal (fInt addI G131 (kon (.int .i64 1))) S159 <|
  oVal (fMove G159) S131 <|
  oEnd))))))))))))))))))))
def c133 : Op8 := (oVal (fMove (kon .nilp)) S8 <|
  (oVal (fMove G1) S10 <|
  oVal (fMove G0) S11 <|
  oVal (fNil G11) S12 <|
  oVal (fFA 1 G12) S13 <|
  oVal (fLoad1 G13) S14 <|
  oVal (fMove G0) S15 <|
  oVal (fNil G15) S16 <|
  oVal (fFA 1 G16) S17 <|
  oVal (fLoad1 G17) S18 <|
  oVal (fMove G2) S19 <|
  oVal (fInt addI G18 G19) S20 <|
  oVal (fMove G3) S21 <|
  gn yesW (opAt 12 [u, z] Tryz.f133) <|
  gn yesW (opAt 13 [u, z] Tryz.f133) <|
  gn yesW (opAt 14 [u, z] Tryz.f133) <|
  oVal (fMove G24) S9 <|
  (oVal (fMove G0) S25 <|
  oVal (fMove G0) S26 <|
  oVal (fNil G26) S27 <|
  oVal (fFA 3 G27) S28 <|
  oVal (fLoad1 G28) S29 <|
  oVal (fMove G9) S30 <|
  gn yesW (opAt 6 [u, u, z] Tryz.f133) <|
  gn yesW (opAt 7 [u, u, z] Tryz.f133) <|
  oVal (fNil G25) S33 <|
  oVal (fFA 3 G33) S34 <|
  oUpd (fSt1 G34 G32) <|
  (oVal (fMove G0) S35 <|
  oVal (fNil G35) S36 <|
  oVal (fFA 1 G36) S37 <|
  oVal (fLoad1 G37) S38 <|
  oVal (fMove G2) S39 <|
  oVal (fInt addI G38 G39) S40 <|
  oVal (fNil G35) S41 <|
  oVal (fFA 1 G41) S42 <|
  oUpd (fSt1 G42 G40) <|
  (oVal (fMove G9) S43 <|
  oVal (fMove G43) S8 <|
  sRet)))))
def c134 : Op8 := (gn yesW (opAt 0 [z] Tryz.f134) <|
  oVal (fMove (kon .nilf)) S2 <|
  (gn yesW (opAt 0 [u, z] Tryz.f134) <|
  oVal (fMove G3) S2 <|
  sRet))
def c135 : Op8 := (oVal (fMove (kon .nils)) S2 <|
  (oVal (fMove G0) S6 <|
  oCall 184 (fArgs [G6]) S7 <|
  oVal (fMove G7) S5 <|
  oVal (fExt 0 G5) S8 <|
  oVal (fExt 1 G5) S9 <|
  gn yesW (opAt 5 [u, z] Tryz.f135) <|
  oVal (fMove G8) S3 <|
  oUpd (fSt1 G4 G9) <|
  (gn yesW (opAt 0 [u, u, z] Tryz.f135) <|
  oCall 185 (fArgs [G10]) S11 <|
  oVal (fMove G11) S2 <|
  sRet)))
def c136 : Op8 := (oVal (fMove (kon .nils)) S2 <|
  (oVal (fMove G0) S6 <|
  oCall 184 (fArgs [G6]) S7 <|
  oVal (fMove G7) S5 <|
  oVal (fExt 0 G5) S8 <|
  oVal (fExt 1 G5) S9 <|
  oVal (fMove G8) S3 <|
  oVal (fMove G9) S4 <|
  (oVal (fMove G3) S10 <|
  oVal (fMove G10) S2 <|
  sRet)))
def c137 : Op8 := (oVal (fMove G0) S4 <|
  oCall 187 (fArgs [G4]) S5 <|
  oVal (fMove G0) S6 <|
  oCall 187 (fArgs [G6]) S7 <|
  oVal (fNil G7) S8 <|
  oVal (fFA 10 G8) S9 <|
  oVal (fLoad1 G9) S10 <|
  oVal (fMove G1) S11 <|
  gn yesW (opAt 8 [] Tryz.f137) <|
  gn yesW (opAt 9 [] Tryz.f137) <|
  oVal (fNil G5) S14 <|
  oVal (fFA 10 G14) S15 <|
  oUpd (fSt1 G15 G13) <|
  oEnd)
def c138 : Op8 := (gn yesW (opAt 0 [z] Tryz.f138) <|
  (sDraw <| dVal (cL G5) 0 (fLoad1 G5) S17 <|
  dVal cP 1 (fMove G1) S18 <|
  dVal cP 2 (fNil G18) S19 <|
  dVal cP 3 (fFA 0 G19) S20 <|
  dVal cP 4 (fFA 1 G20) S21 <|
  dVal (cL G21) 5 (fLoad1 G21) S22 <|
  dVal cP 6 (fNil G17) S23 <|
  dVal cP 7 (fFA 1 G23) S24 <|
  dUpd cE 8 (fSt1 G24 G22) <|
  dEnd [0, 0, 2, 6, 14, 30, 63, 127, 255] (thenF (oVal (fMove G2) S25 <|
  oVal (fLenL G25) S26 <|
  oVal (fMove (kon (.int .i64 0))) S27 <|
  (sBlock 0 (sLoop (oVal (fInt ltI G27 G26) S28 <|
  (thenF (sCond G28 oEnd
  (sExit 0))
  (thenF (sBlock 1 (oVal (fIAs 1 G25 G27) S29 <|
  oVal (fLoad1 G29) S30 <|
  oVal (fMove G30) S11 <|
  (oVal (fLoad1 G5) S31 <|
  oCall 187 (fArgs [G31]) S32 <|
  oVal (fMove G32) S12 <|
  (sDraw <| dVal (cL G5) 0 (fLoad1 G5) S33 <|
  dVal (cL G5) 1 (fLoad1 G5) S34 <|
  dVal cP 2 (fNil G34) S35 <|
  dVal cP 3 (fFA 0 G35) S36 <|
  dVal (cL G36) 4 (fLoad1 G36) S37 <|
  dVal (cL G5) 5 (fLoad1 G5) S38 <|
  dVal cP 6 (fNil G38) S39 <|
  dVal cP 7 (fFA 0 G39) S40 <|
  dVal (cL G40) 8 (fLoad1 G40) S41 <|
  dVal cP 9 (fLenL G41) S42 <|
  dVal cP 10 (fInt subI G42 (kon (.int .i64 1))) S43 <|
  gd cE 11 yesW (opAt 11 [u, u, z, u, z, z, u, u, z, z, u, u, z] Tryz.f138) <|
  dVal cP 12 (fNil G33) S45 <|
  dVal cP 13 (fFA 0 G45) S46 <|
  dUpd cE 14 (fSt1 G46 G44) <|
  dEnd [0, 0, 2, 6, 14, 0, 32, 96, 224, 480, 992, 2046, 4095, 8191, 16383] (oVal (fLoad1 G5) S47 <|
  oVal (fNil G47) S48 <|
  oVal (fFA 1 G48) S49 <|
  oVal (fLoad1 G49) S50 <|
  oVal (fMove G11) S51 <|
  oVal (fInt addI G50 G51) S52 <|
  oVal (fNil G47) S53 <|
  oVal (fFA 1 G53) S54 <|
  oUpd (fSt1 G54 G52) <|
  (oVal (fMove G12) S55 <|
  oVal (fLoad1 G5) S56 <|
  oVal (fNil G56) S57 <|
  oVal (fFA 1 G57) S58 <|
  oVal (fLoad1 G58) S59 <|
  oVal (fNil G55) S60 <|
  oVal (fFA 0 G60) S61 <|
  oVal (fFA 2 G61) S62 <|
  oUpd (fSt1 G62 G59) <|
  (oVal (fMove G12) S63 <|
  oVal (fMove G12) S64 <|
  oVal (fNil G64) S65 <|
  oVal (fFA 10 G65) S66 <|
  oVal (fLoad1 G66) S67 <|
  oCall 139 (fArgs [G67]) S68 <|
  oVal (fNil G63) S69 <|
  oVal (fFA 10 G69) S70 <|
  oUpd (fSt1 G70 G68) <|
  (oVal (fLoad1 G5) S71 <|
  oVal (fMove G12) S72 <|
  oCall 137 (fArgs [G71, G72]) S73 <|
  oEnd))))))))
  (oVal (fInt addI G27 (kon (.int .i64 1))) S74 <|
  oVal (fMove G74) S27 <|
  oEnd)))))))
  (thenF (oVal (fMove G4) S75 <|
  oVal (fInt gtI G75 (kon (.int .i64 0))) S76 <|
  (sCond G76 (oVal (fLoad1 G5) S77 <|
  oVal (fNil G77) S78 <|
  oVal (fFA 1 G78) S79 <|
  oVal (fLoad1 G79) S80 <|
  oVal (fLoad1 G5) S81 <|
  oVal (fNil G81) S82 <|
  oVal (fFA 1 G82) S83 <|
  oVal (fLoad1 G83) S84 <|
  oVal (fMove G4) S85 <|
  oVal (fInt addI G84 G85) S86 <|
  oVal (fMove G1) S87 <|
  oVal (fNil G87) S88 <|
  oVal (fFA 0 G88) S89 <|
  oVal (fFA 4 G89) S90 <|
  oVal (fLoad1 G90) S91 <|
  oVal (fMove G4) S92 <|
  oVal (fSlS G91 none (some G92)) S93 <|
  gn yesW (opAt 17 [u, u, u, z, u, z, z] Tryz.f138) <|
  gn yesW (opAt 18 [u, u, u, z, u, z, z] Tryz.f138) <|
  gn yesW (opAt 19 [u, u, u, z, u, z, z] Tryz.f138) <|
  oVal (fMove G96) S13 <|
  (oVal (fLoad1 G5) S97 <|
  oVal (fNil G97) S98 <|
  oVal (fFA 1 G98) S99 <|
  oVal (fLoad1 G99) S100 <|
  oVal (fMove G4) S101 <|
  oVal (fInt addI G100 G101) S102 <|
  oVal (fNil G97) S103 <|
  oVal (fFA 1 G103) S104 <|
  oUpd (fSt1 G104 G102) <|
  (oVal (fLoad1 G5) S105 <|
  oVal (fMove G13) S106 <|
  oCall 137 (fArgs [G105, G106]) S107 <|
  oEnd)))
  oEnd))
  (oVal (fMove G3) S108 <|
  oCall 188 (fArgs [G108]) S109 <|
  (sBlock 2 (rangeAt tb 143 [u, u, u, u, u, z] Tryz.f138)))))))
def c139 : Op8 := (oVal (fMove (kon .nils)) S2 <|
  (oVal (fMove (kon .nils)) S3 <|
  (oVal (fMove (kon .nilp)) S4 <|
  (thenF (oVal (fMove G0) S8 <|
  oVal (fLenL G8) S9 <|
  oVal (fMove (kon (.int .i64 0))) S10 <|
  (sBlock 0 (sLoop (oVal (fInt ltI G10 G9) S11 <|
  (thenF (sCond G11 oEnd
  (sExit 0))
  (thenF (sBlock 1 (oVal (fIAs 1 G8 G10) S12 <|
  oVal (fLoad1 G12) S13 <|
  oVal (fMove G13) S6 <|
  (oVal (fMove G3) S14 <|
  oVal (fLenL G14) S15 <|
  oVal (fInt subI G15 (kon (.int .i64 1))) S16 <|
  oVal (fMove G16) S7 <|
  (thenF (oVal (fMove G6) S17 <|
  oVal (fNil G17) S18 <|
  oVal (fFA 0 G18) S19 <|
  oVal (fFA 0 G19) S20 <|
  oVal (fLoad1 G20) S21 <|
  oVal (fInt neI G21 (kon (.int .i64 10))) S22 <|
  oVal (fMove G22) S23 <|
  oGval (wntF G23 false) (fMove G7) S24 <|
  oGval (wntF G23 false) (fInt ltI G24 (kon (.int .i64 0))) S25 <|
  oVal (fPick G23 (kon (.bool true)) G25) S26 <|
  oVal (fMove G26) S27 <|
  oGval (wntF G27 false) (fMove G3) S28 <|
  oGval (wntF G27 false) (fMove G7) S29 <|
  oGval (wntF G27 false) (fIAs 1 G28 G29) S30 <|
  oGval (wntF G27 false) (fLoad1 G30) S31 <|
  oGval (wntF G27 false) (fNil G31) S32 <|
  oGval (wntF G27 false) (fFA 0 G32) S33 <|
  oGval (wntF G27 false) (fFA 0 G33) S34 <|
  oGval (wntF G27 false) (fLoad1 G34) S35 <|
  oGval (wntF G27 false) (fInt neI G35 (kon (.int .i64 10))) S36 <|
  oVal (fPick G27 (kon (.bool true)) G36) S37 <|
  (sCond G37 (thenF (oVal (fMove G4) S38 <|
  gn yesW (opAt 1 [u, u, u, z, u, z, z, u, u, z, z, u, u, z, u, z, z, z] Tryz.f139) <|
  (sCond G39 (sDraw <| dVal cP 0 (fMove G3) S40 <|
  dVal cP 1 (fMove G7) S41 <|
  dVal cP 2 (fIAs 1 G40 G41) S42 <|
  dVal (cL G42) 3 (fLoad1 G42) S43 <|
  dVal cP 4 (fMove G4) S44 <|
  dCall cE 5 115 (fArgs [G44]) S45 <|
  dVal cP 6 (fNil G43) S46 <|
  dVal cP 7 (fFA 0 G46) S47 <|
  dVal cP 8 (fFA 4 G47) S48 <|
  dUpd cE 9 (fSt1 G48 G45) <|
  dEnd [0, 0, 3, 7, 0, 16, 63, 127, 255, 511] (oVal (fMove (kon .nilp)) S4 <|
  oEnd))
  oEnd))
  (oVal (fMove G3) S49 <|
  oVal (fMove G6) S50 <|
  gn yesW (opAt 2 [u, u, u, z, u, z, z, u, u, z, z, u, u, z, u, z, u, z] Tryz.f139) <|
  gn yesW (opAt 3 [u, u, u, z, u, z, z, u, u, z, z, u, u, z, u, z, u, z] Tryz.f139) <|
  oVal (fMove G52) S3 <|
  (sExit 1)))
  oEnd))
  (thenF (oVal (fMove G4) S53 <|
  gn yesW (opAt 1 [u, u, u, z, u, z, z, u, u, z, z, u, u, u, z, z] Tryz.f139) <|
  (sCond G54 (gn yesW (opAt 0 [u, u, u, z, u, z, z, u, u, z, z, u, u, u, z, u, z, z] Tryz.f139) <|
  gn yesW (opAt 1 [u, u, u, z, u, z, z, u, u, z, z, u, u, u, z, u, z, z] Tryz.f139) <|
  oVal (fMove G56) S4 <|
  (oVal (fMove G4) S57 <|
  oVal (fMove G3) S58 <|
  oVal (fMove G7) S59 <|
  oVal (fIAs 1 G58 G59) S60 <|
  oVal (fLoad1 G60) S61 <|
  oVal (fNil G61) S62 <|
  oVal (fFA 0 G62) S63 <|
  oVal (fFA 4 G63) S64 <|
  oVal (fLoad1 G64) S65 <|
  oCall 114 (fArgs [G57, G65]) S66 <|
  oEnd))
  oEnd))
  (oVal (fMove G4) S67 <|
  oVal (fMove G6) S68 <|
  oVal (fNil G68) S69 <|
  oVal (fFA 0 G69) S70 <|
  oVal (fFA 4 G70) S71 <|
  oVal (fLoad1 G71) S72 <|
  oCall 114 (fArgs [G67, G72]) S73 <|
  (sDraw <| dVal cP 0 (fMove G3) S74 <|
  dVal cP 1 (fMove G7) S75 <|
  dVal cP 2 (fIAs 1 G74 G75) S76 <|
  dVal (cL G76) 3 (fLoad1 G76) S77 <|
  dVal cP 4 (fMove G6) S78 <|
  dVal cP 5 (fNil G78) S79 <|
  dVal cP 6 (fFA 0 G79) S80 <|
  dVal cP 7 (fFA 2 G80) S81 <|
  dVal (cL G81) 8 (fLoad1 G81) S82 <|
  dVal cP 9 (fNil G77) S83 <|
  dVal cP 10 (fFA 0 G83) S84 <|
  dVal cP 11 (fFA 2 G84) S85 <|
  dUpd cE 12 (fSt1 G85 G82) <|
  dEnd [0, 0, 3, 7, 0, 16, 48, 112, 240, 511, 1023, 2047, 4095] oEnd)))))))
  (oVal (fInt addI G10 (kon (.int .i64 1))) S86 <|
  oVal (fMove G86) S10 <|
  oEnd)))))))
  (thenF (oVal (fMove G4) S87 <|
  gn yesW (opAt 1 [u, u, u, u, z, z] Tryz.f139) <|
  (sCond G88 (sDraw <| dVal cP 0 (fMove G3) S89 <|
  dVal cP 1 (fMove G3) S90 <|
  dVal cP 2 (fLenL G90) S91 <|
  dVal cP 3 (fInt subI G91 (kon (.int .i64 1))) S92 <|
  dVal cP 4 (fIAs 1 G89 G92) S93 <|
  dVal (cL G93) 5 (fLoad1 G93) S94 <|
  dVal cP 6 (fMove G4) S95 <|
  dCall cE 7 115 (fArgs [G95]) S96 <|
  dVal cP 8 (fNil G94) S97 <|
  dVal cP 9 (fFA 0 G97) S98 <|
  dVal cP 10 (fFA 4 G98) S99 <|
  dUpd cE 11 (fSt1 G99 G96) <|
  dEnd [0, 0, 2, 6, 15, 31, 0, 64, 255, 511, 1023, 2047] oEnd)
  oEnd))
  (oVal (fMove G3) S100 <|
  oVal (fMove G100) S2 <|
  sRet))))))
def c140 : Op8 := (oVal (fMove (kon (.bool false))) S4 <|
  (oVal (fLoad1 G1) S5 <|
  oVal (fMove G0) S6 <|
  oVal (fIAs 1 G5 G6) S7 <|
  oVal (fLoad1 G7) S8 <|
  oVal (fLoad1 G2) S9 <|
  oVal (fInt geI G8 G9) S10 <|
  oVal (fMove G10) S4 <|
  sRet))
def c141 : Op8 := (oVal (fMove (kon (.int .i64 0))) S4 <|
  (oVal (fMove G1) S12 <|
  oCall 189 (fArgs [G12]) S13 <|
  oVal (fMove G13) S11 <|
  oVal (fExt 0 G11) S14 <|
  oVal (fExt 1 G11) S15 <|
  oVal (fMove G14) S5 <|
  oVal (fMove G15) S6 <|
  (oVal (fMove G1) S16 <|
  oVal (fLenS G16) S17 <|
  oVal (fMove G17) S7 <|
  (oVal (fMove (kon (.int .u32 0))) S8 <|
  (thenF (oVal (fMove (kon (.int .i64 0))) S9 <|
  (sBlock 0 (sLoop (thenF (oVal (fMove G9) S18 <|
  oVal (fMove G7) S19 <|
  oVal (fInt ltI G18 G19) S20 <|
  (sCond G20 oEnd
  (sExit 0)))
  (thenF (sBlock 1 (oVal (fMove G8) S23 <|
  oVal (fInt mulI G23 (kon (.int .u32 16777619))) S24 <|
  oVal (fMove G0) S25 <|
  oVal (fMove G9) S26 <|
  oVal (fIxS G25 G26) S27 <|
  oVal (fCnvI .u32 G27) S28 <|
  oVal (fInt addI G24 G28) S29 <|
  oVal (fMove G29) S8 <|
  oEnd))
  (oVal (fMove G9) S21 <|
  oVal (fInt addI G21 (kon (.int .i64 1))) S22 <|
  oVal (fMove G22) S9 <|
  oEnd))))))
  (thenF (oVal (fMove G8) S30 <|
  oVal (fMove G5) S31 <|
  oVal (fIntE G30 G31) S32 <|
  oVal (fMove G32) S33 <|
  oGval (wntF G33 true) (fMove G0) S34 <|
  oGval (wntF G33 true) (fMove G7) S35 <|
  oGval (wntF G33 true) (fSlS G34 none (some G35)) S36 <|
  oGval (wntF G33 true) (fMove G1) S37 <|
  gn (wntF G33 true) (opAt 8 [u, u, u, u, u, z, z] Tryz.f141) <|
  oVal (fPick G33 G38 (kon (.bool false))) S39 <|
  (sCond G39 (oVal (fMove (kon (.int .i64 0))) S4 <|
  sRet)
  oEnd))
  (thenF (oVal (fMove G7) S40 <|
  oVal (fMove G40) S10 <|
  (sBlock 2 (sLoop (thenF (oVal (fMove G10) S41 <|
  oVal (fMove G0) S42 <|
  oVal (fLenS G42) S43 <|
  oVal (fInt ltI G41 G43) S44 <|
  (sCond G44 oEnd
  (sExit 2)))
  (sBlock 3 (oVal (fMove G8) S45 <|
  oVal (fInt mulI G45 (kon (.int .u32 16777619))) S46 <|
  oVal (fMove G46) S8 <|
  (oVal (fMove G8) S47 <|
  oVal (fMove G0) S48 <|
  oVal (fMove G10) S49 <|
  oVal (fIxS G48 G49) S50 <|
  oVal (fCnvI .u32 G50) S51 <|
  oVal (fInt addI G47 G51) S52 <|
  oVal (fMove G52) S8 <|
  (oVal (fMove G8) S53 <|
  oVal (fMove G6) S54 <|
  oVal (fMove G0) S55 <|
  oVal (fMove G10) S56 <|
  oVal (fMove G7) S57 <|
  oVal (fInt subI G56 G57) S58 <|
  oVal (fIxS G55 G58) S59 <|
  oVal (fCnvI .u32 G59) S60 <|
  oVal (fInt mulI G54 G60) S61 <|
  oVal (fInt subI G53 G61) S62 <|
  oVal (fMove G62) S8 <|
  (oVal (fMove G10) S63 <|
  oVal (fInt addI G63 (kon (.int .i64 1))) S64 <|
  oVal (fMove G64) S10 <|
  (oVal (fMove G8) S65 <|
  oVal (fMove G5) S66 <|
  oVal (fIntE G65 G66) S67 <|
  oVal (fMove G67) S68 <|
  oGval (wntF G68 true) (fMove G0) S69 <|
  oGval (wntF G68 true) (fMove G10) S70 <|
  oGval (wntF G68 true) (fMove G7) S71 <|
  oGval (wntF G68 true) (fInt subI G70 G71) S72 <|
  oGval (wntF G68 true) (fMove G10) S73 <|
  oGval (wntF G68 true) (fSlS G69 (some G72) (some G73)) S74 <|
  oGval (wntF G68 true) (fMove G1) S75 <|
  gn (wntF G68 true) (opAt 11 [u, u, u, u, u, u, z, u, z, z, u, z, u, u, u, u, z] Tryz.f141) <|
  oVal (fPick G68 G76 (kon (.bool false))) S77 <|
  (sCond G77 (oVal (fMove G10) S78 <|
  oVal (fMove G7) S79 <|
  oVal (fInt subI G78 G79) S80 <|
  oVal (fMove G80) S4 <|
  sRet)
  oEnd)))))))))))
  (oVal (fMove (kon (.int .i64 (-1)))) S4 <|
  sRet))))))))
def c142 : Op8 := (oVal (fMove (kon (.int .i32 0))) S2 <|
  oVal (fMove (kon (.int .i64 0))) S3 <|
  (oVal (fMove G0) S13 <|
  oVal (fLenS G13) S14 <|
  oVal (fMove G14) S4 <|
  (thenF (oVal (fMove G4) S15 <|
  oVal (fInt ltI G15 (kon (.int .i64 1))) S16 <|
  (sCond G16 (oVal (fMove (kon (.int .i32 65533))) S2 <|
  oVal (fMove (kon (.int .i64 0))) S3 <|
  sRet)
  oEnd))
  (oVal (fMove G0) S17 <|
  oVal (fIxS G17 (kon (.int .i64 0))) S18 <|
  oVal (fMove G18) S5 <|
  (oVal (fMove G5) S19 <|
  oVal (fIAa 256 1 nog G19) S20 <|
  oVal (fLoad1 G20) S21 <|
  oVal (fMove G21) S6 <|
  (thenF (oVal (fMove G6) S22 <|
  oVal (fInt geI G22 (kon (.int .u8 240))) S23 <|
  (sCond G23 (oVal (fMove G6) S24 <|
  oVal (fCnvI .i32 G24) S25 <|
  gn yesW (opAt 2 [u, u, u, u, u, z, u, z, z] Tryz.f142) <|
  gn yesW (opAt 3 [u, u, u, u, u, z, u, z, z] Tryz.f142) <|
  oVal (fMove G27) S7 <|
  (oVal (fMove G0) S28 <|
  oVal (fIxS G28 (kon (.int .i64 0))) S29 <|
  oVal (fCnvI .i32 G29) S30 <|
  oVal (fMove G7) S31 <|
  gn yesW (opAt 4 [u, u, u, u, u, z, u, z, u, z] Tryz.f142) <|
  oVal (fMove G7) S33 <|
  gn yesW (opAt 6 [u, u, u, u, u, z, u, z, u, z] Tryz.f142) <|
  gn yesW (opAt 7 [u, u, u, u, u, z, u, z, u, z] Tryz.f142) <|
  oVal (fMove G35) S2 <|
  oVal (fMove (kon (.int .i64 1))) S3 <|
  sRet))
  oEnd))
  (oVal (fMove G6) S36 <|
  gn yesW (opAt 1 [u, u, u, u, u, u, z] Tryz.f142) <|
  oVal (fCnvI .i64 G37) S38 <|
  oVal (fMove G38) S8 <|
  (oVal (fMove G6) S39 <|
  gn yesW (opAt 1 [u, u, u, u, u, u, u, z] Tryz.f142) <|
  oVal (fIAa 16 2 nog G40) S41 <|
  oVal (fLoadN 2 G41) S42 <|
  gn yesW (opAt 4 [u, u, u, u, u, u, u, z] Tryz.f142) <|
  oUpd (fSt tb 259 G9 G42) <|
  (thenF (oVal (fMove G4) S43 <|
  oVal (fMove G8) S44 <|
  oVal (fInt ltI G43 G44) S45 <|
  (sCond G45 (oVal (fMove (kon (.int .i32 65533))) S2 <|
  oVal (fMove (kon (.int .i64 1))) S3 <|
  sRet)
  oEnd))
  (oVal (fMove G0) S46 <|
  oVal (fIxS G46 (kon (.int .i64 1))) S47 <|
  oVal (fMove G47) S10 <|
  (thenF (oVal (fMove G10) S48 <|
  oVal (fFA 0 G9) S49 <|
  oVal (fLoad1 G49) S50 <|
  oVal (fInt ltI G48 G50) S51 <|
  oVal (fMove G51) S52 <|
  oGval (wntF G52 false) (fFA 1 G9) S53 <|
  oGval (wntF G52 false) (fLoad1 G53) S54 <|
  oGval (wntF G52 false) (fMove G10) S55 <|
  oGval (wntF G52 false) (fInt ltI G54 G55) S56 <|
  oVal (fPick G52 (kon (.bool true)) G56) S57 <|
  (sCond G57 (oVal (fMove (kon (.int .i32 65533))) S2 <|
  oVal (fMove (kon (.int .i64 1))) S3 <|
  sRet)
  oEnd))
  (thenF (oVal (fMove G8) S58 <|
  oVal (fInt leI G58 (kon (.int .i64 2))) S59 <|
  (sCond G59 (oVal (fMove G5) S60 <|
  gn yesW (opAt 1 [u, u, u, u, u, u, u, u, u, u, u, z, u, z, z] Tryz.f142) <|
  oVal (fCnvI .i32 G61) S62 <|
  gn yesW (opAt 3 [u, u, u, u, u, u, u, u, u, u, u, z, u, z, z] Tryz.f142) <|
  oVal (fMove G10) S64 <|
  gn yesW (opAt 5 [u, u, u, u, u, u, u, u, u, u, u, z, u, z, z] Tryz.f142) <|
  oVal (fCnvI .i32 G65) S66 <|
  gn yesW (opAt 7 [u, u, u, u, u, u, u, u, u, u, u, z, u, z, z] Tryz.f142) <|
  oVal (fMove G67) S2 <|
  oVal (fMove (kon (.int .i64 2))) S3 <|
  sRet)
  oEnd))
  (oVal (fMove G0) S68 <|
  oVal (fIxS G68 (kon (.int .i64 2))) S69 <|
  oVal (fMove G69) S11 <|
  (thenF (oVal (fMove G11) S70 <|
  oVal (fInt ltI G70 (kon (.int .u8 128))) S71 <|
  oVal (fMove G71) S72 <|
  oGval (wntF G72 false) (fMove G11) S73 <|
  oGval (wntF G72 false) (fInt ltI (kon (.int .u8 191)) G73) S74 <|
  oVal (fPick G72 (kon (.bool true)) G74) S75 <|
  (sCond G75 (oVal (fMove (kon (.int .i32 65533))) S2 <|
  oVal (fMove (kon (.int .i64 1))) S3 <|
  sRet)
  oEnd))
  (thenF (oVal (fMove G8) S76 <|
  oVal (fInt leI G76 (kon (.int .i64 3))) S77 <|
  (sCond G77 (oVal (fMove G5) S78 <|
  gn yesW (opAt 1 [u, u, u, u, u, u, u, u, u, u, u, u, u, u, z, u, z, z] Tryz.f142) <|
  oVal (fCnvI .i32 G79) S80 <|
  gn yesW (opAt 3 [u, u, u, u, u, u, u, u, u, u, u, u, u, u, z, u, z, z] Tryz.f142) <|
  oVal (fMove G10) S82 <|
  gn yesW (opAt 5 [u, u, u, u, u, u, u, u, u, u, u, u, u, u, z, u, z, z] Tryz.f142) <|
  oVal (fCnvI .i32 G83) S84 <|
  gn yesW (opAt 7 [u, u, u, u, u, u, u, u, u, u, u, u, u, u, z, u, z, z] Tryz.f142) <|
  gn yesW (opAt 8 [u, u, u, u, u, u, u, u, u, u, u, u, u, u, z, u, z, z] Tryz.f142) <|
  oVal (fMove G11) S87 <|
  gn yesW (opAt 10 [u, u, u, u, u, u, u, u, u, u, u, u, u, u, z, u, z, z] Tryz.f142) <|
  oVal (fCnvI .i32 G88) S89 <|
  gn yesW (opAt 12 [u, u, u, u, u, u, u, u, u, u, u, u, u, u, z, u, z, z] Tryz.f142) <|
  oVal (fMove G90) S2 <|
  oVal (fMove (kon (.int .i64 3))) S3 <|
  sRet)
  oEnd))
  (oVal (fMove G0) S91 <|
  oVal (fIxS G91 (kon (.int .i64 3))) S92 <|
  oVal (fMove G92) S12 <|
  (thenF (oVal (fMove G12) S93 <|
  oVal (fInt ltI G93 (kon (.int .u8 128))) S94 <|
  oVal (fMove G94) S95 <|
  oGval (wntF G95 false) (fMove G12) S96 <|
  oGval (wntF G95 false) (fInt ltI (kon (.int .u8 191)) G96) S97 <|
  oVal (fPick G95 (kon (.bool true)) G97) S98 <|
  (sCond G98 (oVal (fMove (kon (.int .i32 65533))) S2 <|
  oVal (fMove (kon (.int .i64 1))) S3 <|
  sRet)
  oEnd))
  (oVal (fMove G5) S99 <|
  gn yesW (opAt 1 [u, u, u, u, u, u, u, u, u, u, u, u, u, u, u, u, u, z] Tryz.f142) <|
  oVal (fCnvI .i32 G100) S101 <|
  gn yesW (opAt 3 [u, u, u, u, u, u, u, u, u, u, u, u, u, u, u, u, u, z] Tryz.f142) <|
  oVal (fMove G10) S103 <|
  gn yesW (opAt 5 [u, u, u, u, u, u, u, u, u, u, u, u, u, u, u, u, u, z] Tryz.f142) <|
  oVal (fCnvI .i32 G104) S105 <|
  gn yesW (opAt 7 [u, u, u, u, u, u, u, u, u, u, u, u, u, u, u, u, u, z] Tryz.f142) <|
  gn yesW (opAt 8 [u, u, u, u, u, u, u, u, u, u, u, u, u, u, u, u, u, z] Tryz.f142) <|
  oVal (fMove G11) S108 <|
  gn yesW (opAt 10 [u, u, u, u, u, u, u, u, u, u, u, u, u, u, u, u, u, z] Tryz.f142) <|
  oVal (fCnvI .i32 G109) S110 <|
  gn yesW (opAt 12 [u, u, u, u, u, u, u, u, u, u, u, u, u, u, u, u, u, z] Tryz.f142) <|
  gn yesW (opAt 13 [u, u, u, u, u, u, u, u, u, u, u, u, u, u, u, u, u, z] Tryz.f142) <|
  oVal (fMove G12) S113 <|
  gn yesW (opAt 15 [u, u, u, u, u, u, u, u, u, u, u, u, u, u, u, u, u, z] Tryz.f142) <|
  oVal (fCnvI .i32 G114) S115 <|
  gn yesW (opAt 17 [u, u, u, u, u, u, u, u, u, u, u, u, u, u, u, u, u, z] Tryz.f142) <|
  oVal (fMove G116) S2 <|
  oVal (fMove (kon (.int .i64 4))) S3 <|
  sRet))))))))))))))))))
def c144 : Op8 := (gn yesW (opAt 0 [z] Tryz.f144) <|
  oVal (fMove (kon (.int .i64 0))) S2 <|
  (oCall 9 (fArgs []) S3 <|
  gn yesW (opAt 1 [u, z] Tryz.f144) <|
  oCall 190 (fArgs [G3, G4]) S5 <|
  oVal (fMove G5) S2 <|
  sRet))
def c145 : Op8 := (oVal (fMove (kon (.bool false))) S4 <|
  (oVal (fMove G0) S5 <|
  oVal (fMove G1) S6 <|
  oCall 192 (fArgs [G5, G6]) S7 <|
  oVal (fInt geI G7 (kon (.int .i64 0))) S8 <|
  oVal (fMove G8) S4 <|
  sRet))
def c146 : Op8 := (oVal (fMove (kon (.bool false))) S3 <|
  (oVal (fMove G0) S4 <|
  oVal (fLoad1 G1) S5 <|
  oCall 147 (fArgs [G4, G5]) S6 <|
  oVal (fMove G6) S3 <|
  sRet))
def c147 : Op8 := (oVal (fMove (kon (.bool false))) S4 <|
  (oVal (fMove G0) S5 <|
  oVal (fLenS G5) S6 <|
  oVal (fMove G1) S7 <|
  oVal (fLenS G7) S8 <|
  oVal (fIntE G6 G8) S9 <|
  oVal (fMove G9) S10 <|
  oGval (wntF G10 true) (fMove G0) S11 <|
  oGcall (wntF G10 true) 193 (fArgs [G11]) S12 <|
  oGval (wntF G10 true) (fMove G1) S13 <|
  oGcall (wntF G10 true) 193 (fArgs [G13]) S14 <|
  gn (wntF G10 true) (opAt 10 [u, z] Tryz.f147) <|
  oVal (fPick G10 G15 (kon (.bool false))) S16 <|
  oVal (fMove G16) S4 <|
  sRet))
def c148 : Op8 := (oVal (fMove (kon (.int .i64 0))) S4 <|
  oVal (fMove (kon (.int .i64 0))) S5 <|
  (oVal (fMove G0) S7 <|
  oVal (fLenS G7) S8 <|
  oVal (fMove G0) S9 <|
  oCall 194 (fArgs [G9, (kon (.str [32, 9]))]) S10 <|
  oVal (fLenS G10) S11 <|
  oVal (fInt subI G8 G11) S12 <|
  oVal (fMove G12) S6 <|
  (oVal (fMove G0) S13 <|
  oVal (fMove G6) S14 <|
  oVal (fSlS G13 none (some G14)) S15 <|
  oVal (fMove G1) S16 <|
  oCall 195 (fArgs [G15, G16]) S17 <|
  oVal (fMove G6) S18 <|
  oVal (fMove G17) S4 <|
  oVal (fMove G18) S5 <|
  sRet)))
def c149 : Op8 := (oVal (fMove (kon (.int .i64 0))) S6 <|
  oVal (fMove (kon (.int .i64 0))) S7 <|
  oVal (fMove (kon (.int .i64 0))) S8 <|
  (oVal (fMove G1) S14 <|
  oCall 196 (fArgs [G14]) S15 <|
  oVal (fMove G15) S1 <|
  (oVal (fMove G0) S17 <|
  oVal (fMove G1) S18 <|
  oCall 148 (fArgs [G17, G18]) S19 <|
  oVal (fMove G19) S16 <|
  oVal (fExt 0 G16) S20 <|
  oVal (fExt 1 G16) S21 <|
  oVal (fMove G20) S9 <|
  oVal (fMove G21) S10 <|
  (oVal (fMove G1) S22 <|
  oVal (fMove G2) S23 <|
  oVal (fMove G9) S24 <|
  gn yesW (opAt 3 [u, u, u, z] Tryz.f149) <|
  gn yesW (opAt 4 [u, u, u, z] Tryz.f149) <|
  oVal (fInt addI G22 G26) S27 <|
  oVal (fMove G27) S11 <|
  (oVal (fMove (kon (.int .i64 0))) S12 <|
  (thenF (sBlock 0 (sLoop (thenF (oVal (fMove G12) S28 <|
  oVal (fMove G10) S29 <|
  oVal (fInt ltI G28 G29) S30 <|
  (sCond G30 oEnd
  (sExit 0)))
  (sBlock 1 (oVal (fMove G0) S31 <|
  oVal (fMove G12) S32 <|
  oVal (fIxS G31 G32) S33 <|
  oVal (fMove G1) S34 <|
  oCall 197 (fArgs [G33, G34]) S35 <|
  oVal (fMove G35) S13 <|
  (thenF (oVal (fMove G13) S36 <|
  oVal (fMove G11) S37 <|
  oVal (fInt gtI G36 G37) S38 <|
  (sCond G38 (sExit 0)
  oEnd))
  (oVal (fMove G13) S39 <|
  oVal (fMove G39) S1 <|
  (oVal (fMove G12) S40 <|
  oVal (fInt addI G40 (kon (.int .i64 1))) S41 <|
  oVal (fMove G41) S12 <|
  oEnd))))))))
  (thenF (oVal (fMove G1) S42 <|
  oVal (fMove G11) S43 <|
  oVal (fInt ltI G42 G43) S44 <|
  (sCond G44 (oVal (fMove G12) S45 <|
  oVal (fMove G11) S46 <|
  oVal (fMove G0) S47 <|
  oVal (fMove G12) S48 <|
  oVal (fIxS G47 G48) S49 <|
  oVal (fMove G1) S50 <|
  oCall 197 (fArgs [G49, G50]) S51 <|
  oVal (fMove G11) S52 <|
  oVal (fInt subI G51 G52) S53 <|
  oVal (fMove G45) S6 <|
  oVal (fMove G46) S7 <|
  oVal (fMove G53) S8 <|
  sRet)
  oEnd))
  (oVal (fMove G12) S54 <|
  oVal (fMove G11) S55 <|
  oVal (fMove G54) S6 <|
  oVal (fMove G55) S7 <|
  oVal (fMove (kon (.int .i64 0))) S8 <|
  sRet))))))))
def c150 : Op8 := (oVal (fMove (kon (.bool false))) S6 <|
  (oVal (fMove (kon (.int .i64 0))) S7 <|
  (thenF (sBlock 0 (sLoop (thenF (oVal (fMove G7) S8 <|
  oVal (fMove G0) S9 <|
  oVal (fLenS G9) S10 <|
  oVal (fInt ltI G8 G10) S11 <|
  oVal (fMove G11) S12 <|
  oGval (wntF G12 true) (fMove G0) S13 <|
  oGval (wntF G12 true) (fMove G7) S14 <|
  oGval (wntF G12 true) (fIxS G13 G14) S15 <|
  oGval (wntF G12 true) (fMove G1) S16 <|
  oGval (wntF G12 true) (fIntE G15 G16) S17 <|
  oVal (fPick G12 G17 (kon (.bool false))) S18 <|
  (sCond G18 oEnd
  (sExit 0)))
  (sBlock 1 (oVal (fMove G7) S19 <|
  oVal (fInt addI G19 (kon (.int .i64 1))) S20 <|
  oVal (fMove G20) S7 <|
  oEnd)))))
  (oVal (fMove G2) S21 <|
  oVal (fInt geI G21 (kon (.int .i64 1))) S22 <|
  oVal (fMove G22) S23 <|
  oGval (wntF G23 true) (fMove G7) S24 <|
  oGval (wntF G23 true) (fMove G2) S25 <|
  oGval (wntF G23 true) (fInt geI G24 G25) S26 <|
  oVal (fPick G23 G26 (kon (.bool false))) S27 <|
  oVal (fMove G27) S28 <|
  oGval (wntF G28 true) (fMove G0) S29 <|
  oGval (wntF G28 true) (fMove G7) S30 <|
  oGval (wntF G28 true) (fSlS G29 (some G30) none) S31 <|
  oGcall (wntF G28 true) 198 (fArgs [G31]) S32 <|
  oVal (fPick G28 G32 (kon (.bool false))) S33 <|
  oVal (fMove G33) S6 <|
  sRet))))
def c151 : Op8 := (oVal (fMove (kon (.bool false))) S4 <|
  (thenF (oVal (fMove G1) S8 <|
  (sBlock 0 (oVal (fIntE G8 (kon (.int .i64 1))) S10 <|
  oVal (fMove G10) S9 <|
  (sCond G9 (oVal (fMove G0) S11 <|
  oCall 199 (fArgs [(kon (.fn (.func 200) [] [])), G11]) S12 <|
  oVal (fMove G12) S5 <|
  (gn yesW (opAt 0 [u, z, u, z, u, z, u, z] Tryz.f151) <|
  oVal (fLenL G13) S14 <|
  oVal (fMove (kon (.int .i64 0))) S15 <|
  (sBlock 1 (sLoop (oVal (fInt ltI G15 G14) S16 <|
  (thenF (sCond G16 oEnd
  (sExit 1))
  (thenF (sBlock 2 (oVal (fIAs 1 G13 G15) S17 <|
  oVal (fLoad1 G17) S18 <|
  oVal (fMove G18) S7 <|
  (oVal (fMove G5) S19 <|
  oVal (fMove G7) S20 <|
  oCall 20 (fArgs [G19, G20]) S21 <|
  (sCond G21 (oVal (fMove (kon (.bool true))) S4 <|
  sRet)
  oEnd))))
  (oVal (fInt addI G15 (kon (.int .i64 1))) S22 <|
  oVal (fMove G22) S15 <|
  oEnd))))))))
  (thenF (oVal (fIntE G8 (kon (.int .i64 2))) S24 <|
  oVal (fMove G24) S23 <|
  (sCond G23 oEnd
  (oVal (fIntE G8 (kon (.int .i64 3))) S25 <|
  oVal (fMove G25) S23 <|
  (sCond G23 oEnd
  (oVal (fIntE G8 (kon (.int .i64 4))) S26 <|
  oVal (fMove G26) S23 <|
  (sCond G23 oEnd
  (oVal (fIntE G8 (kon (.int .i64 5))) S27 <|
  oVal (fMove G27) S23 <|
  oEnd)))))))
  (sCond G23 (oVal (fMove G0) S28 <|
  gn yesW (opAt 1 [u, z, u, z, u, u, u, z, z] Tryz.f151) <|
  oVal (fMove G1) S30 <|
  oVal (fInt subI G30 (kon (.int .i64 2))) S31 <|
  oVal (fIAs 1 G29 G31) S32 <|
  oVal (fLoad1 G32) S33 <|
  oCall 20 (fArgs [G28, G33]) S34 <|
  oVal (fMove G34) S4 <|
  sRet)
  oEnd))))))
  (oVal (fMove (kon (.bool false))) S4 <|
  sRet)))
def c152 : Op8 := (oVal (fMove (kon (.str []))) S4 <|
  (thenF (oVal (fMove G1) S11 <|
  (sBlock 0 (oVal (fIntE G11 (kon (.int .i64 0))) S13 <|
  oVal (fMove G13) S12 <|
  (sCond G12 (oVal (fMove (kon (.str []))) S4 <|
  sRet)
  (oVal (fIntE G11 (kon (.int .i64 1))) S15 <|
  oVal (fMove G15) S14 <|
  (sCond G14 (oVal (fMove G0) S16 <|
  oVal (fMove G16) S4 <|
  sRet)
  oEnd))))))
  (thenF (oVal (fMove G1) S17 <|
  oVal (fInt ltI G17 (kon (.int .i64 0))) S18 <|
  (sCond G18 (gn yesW (opAt 0 [u, u, z, u, z] Tryz.f152) <|
  gn yesW (opAt 1 [u, u, z, u, z] Tryz.f152) <|
  oEnd)
  oEnd))
  (oVal (fMove G0) S21 <|
  oVal (fLenS G21) S22 <|
  oVal (fCnvI .u64 G22) S23 <|
  oVal (fMove G1) S24 <|
  oVal (fCnvI .u64 G24) S25 <|
  oCall 201 (fArgs [G23, G25]) S26 <|
  oVal (fMove G26) S20 <|
  oVal (fExt 0 G20) S27 <|
  oVal (fExt 1 G20) S28 <|
  oVal (fMove G27) S5 <|
  oVal (fMove G28) S6 <|
  (thenF (oVal (fMove G5) S29 <|
  oVal (fInt gtI G29 (kon (.int .u64 0))) S30 <|
  oVal (fMove G30) S31 <|
  oGval (wntF G31 false) (fMove G6) S32 <|
  oGval (wntF G31 false) (fInt gtI G32 (kon (.int .u64 9223372036854775807))) S33 <|
  oVal (fPick G31 (kon (.bool true)) G33) S34 <|
  (sCond G34 (gn yesW (opAt 0 [u, u, u, u, z, u, z] Tryz.f152) <|
  gn yesW (opAt 1 [u, u, u, u, z, u, z] Tryz.f152) <|
  oEnd)
  oEnd))
  (oVal (fMove G6) S36 <|
  oVal (fCnvI .i64 G36) S37 <|
  oVal (fMove G37) S7 <|
  (thenF (oVal (fMove G0) S38 <|
  oVal (fLenS G38) S39 <|
  oVal (fIntE G39 (kon (.int .i64 0))) S40 <|
  (sCond G40 (oVal (fMove (kon (.str []))) S4 <|
  sRet)
  oEnd))
  (thenF (oVal (fMove G0) S41 <|
  oVal (fIxS G41 (kon (.int .i64 0))) S42 <|
  (sBlock 1 (thenF (oVal (fIntE G42 (kon (.int .u8 32))) S44 <|
  oVal (fMove G44) S43 <|
  (sCond G43 oEnd
  (oVal (fIntE G42 (kon (.int .u8 45))) S45 <|
  oVal (fMove G45) S43 <|
  (sCond G43 oEnd
  (oVal (fIntE G42 (kon (.int .u8 48))) S46 <|
  oVal (fMove G46) S43 <|
  (sCond G43 oEnd
  (oVal (fIntE G42 (kon (.int .u8 61))) S47 <|
  oVal (fMove G47) S43 <|
  (sCond G43 oEnd
  (oVal (fIntE G42 (kon (.int .u8 9))) S48 <|
  oVal (fMove G48) S43 <|
  oEnd)))))))))
  (sCond G43 (sBlock 2 (oVal (fMove G7) S50 <|
  oVal (fInt leI G50 (kon (.int .i64 128))) S51 <|
  oVal (fMove G51) S52 <|
  oGval (wntF G52 true) (fMove G0) S53 <|
  oGcall (wntF G52 true) 25 (fArgs [(kon (.str [32, 32, 32, 32, 32, 32, 32, 32, 32, 32, 32, 32, 32, 32, 32, 32, 32, 32, 32, 32, 32, 32, 32, 32, 32, 32, 32, 32, 32, 32, 32, 32, 32, 32, 32, 32, 32, 32, 32, 32, 32, 32, 32, 32, 32, 32, 32, 32, 32, 32, 32, 32, 32, 32, 32, 32, 32, 32, 32, 32, 32, 32, 32, 32, 32, 32, 32, 32, 32, 32, 32, 32, 32, 32, 32, 32, 32, 32, 32, 32, 32, 32, 32, 32, 32, 32, 32, 32, 32, 32, 32, 32, 32, 32, 32, 32, 32, 32, 32, 32, 32, 32, 32, 32, 32, 32, 32, 32, 32, 32, 32, 32, 32, 32, 32, 32, 32, 32, 32, 32, 32, 32, 32, 32, 32, 32, 32, 32])), G53]) S54 <|
  oVal (fPick G52 G54 (kon (.bool false))) S55 <|
  oVal (fMove G55) S49 <|
  (sCond G49 (oVal (fMove G7) S56 <|
  oVal (fSlS (kon (.str [32, 32, 32, 32, 32, 32, 32, 32, 32, 32, 32, 32, 32, 32, 32, 32, 32, 32, 32, 32, 32, 32, 32, 32, 32, 32, 32, 32, 32, 32, 32, 32, 32, 32, 32, 32, 32, 32, 32, 32, 32, 32, 32, 32, 32, 32, 32, 32, 32, 32, 32, 32, 32, 32, 32, 32, 32, 32, 32, 32, 32, 32, 32, 32, 32, 32, 32, 32, 32, 32, 32, 32, 32, 32, 32, 32, 32, 32, 32, 32, 32, 32, 32, 32, 32, 32, 32, 32, 32, 32, 32, 32, 32, 32, 32, 32, 32, 32, 32, 32, 32, 32, 32, 32, 32, 32, 32, 32, 32, 32, 32, 32, 32, 32, 32, 32, 32, 32, 32, 32, 32, 32, 32, 32, 32, 32, 32, 32])) none (some G56)) S57 <|
  oVal (fMove G57) S4 <|
  sRet)
  (oVal (fMove G7) S59 <|
  oVal (fInt leI G59 (kon (.int .i64 128))) S60 <|
  oVal (fMove G60) S61 <|
  oGval (wntF G61 true) (fMove G0) S62 <|
  oGcall (wntF G61 true) 25 (fArgs [(kon (.str [45, 45, 45, 45, 45, 45, 45, 45, 45, 45, 45, 45, 45, 45, 45, 45, 45, 45, 45, 45, 45, 45, 45, 45, 45, 45, 45, 45, 45, 45, 45, 45, 45, 45, 45, 45, 45, 45, 45, 45, 45, 45, 45, 45, 45, 45, 45, 45, 45, 45, 45, 45, 45, 45, 45, 45, 45, 45, 45, 45, 45, 45, 45, 45, 45, 45, 45, 45, 45, 45, 45, 45, 45, 45, 45, 45, 45, 45, 45, 45, 45, 45, 45, 45, 45, 45, 45, 45, 45, 45, 45, 45, 45, 45, 45, 45, 45, 45, 45, 45, 45, 45, 45, 45, 45, 45, 45, 45, 45, 45, 45, 45, 45, 45, 45, 45, 45, 45, 45, 45, 45, 45, 45, 45, 45, 45, 45, 45])), G62]) S63 <|
  oVal (fPick G61 G63 (kon (.bool false))) S64 <|
  oVal (fMove G64) S58 <|
  (sCond G58 (oVal (fMove G7) S65 <|
  oVal (fSlS (kon (.str [45, 45, 45, 45, 45, 45, 45, 45, 45, 45, 45, 45, 45, 45, 45, 45, 45, 45, 45, 45, 45, 45, 45, 45, 45, 45, 45, 45, 45, 45, 45, 45, 45, 45, 45, 45, 45, 45, 45, 45, 45, 45, 45, 45, 45, 45, 45, 45, 45, 45, 45, 45, 45, 45, 45, 45, 45, 45, 45, 45, 45, 45, 45, 45, 45, 45, 45, 45, 45, 45, 45, 45, 45, 45, 45, 45, 45, 45, 45, 45, 45, 45, 45, 45, 45, 45, 45, 45, 45, 45, 45, 45, 45, 45, 45, 45, 45, 45, 45, 45, 45, 45, 45, 45, 45, 45, 45, 45, 45, 45, 45, 45, 45, 45, 45, 45, 45, 45, 45, 45, 45, 45, 45, 45, 45, 45, 45, 45])) none (some G65)) S66 <|
  oVal (fMove G66) S4 <|
  sRet)
  (oVal (fMove G7) S68 <|
  oVal (fInt leI G68 (kon (.int .i64 64))) S69 <|
  oVal (fMove G69) S70 <|
  oGval (wntF G70 true) (fMove G0) S71 <|
  oGcall (wntF G70 true) 25 (fArgs [(kon (.str [48, 48, 48, 48, 48, 48, 48, 48, 48, 48, 48, 48, 48, 48, 48, 48, 48, 48, 48, 48, 48, 48, 48, 48, 48, 48, 48, 48, 48, 48, 48, 48, 48, 48, 48, 48, 48, 48, 48, 48, 48, 48, 48, 48, 48, 48, 48, 48, 48, 48, 48, 48, 48, 48, 48, 48, 48, 48, 48, 48, 48, 48, 48, 48])), G71]) S72 <|
  oVal (fPick G70 G72 (kon (.bool false))) S73 <|
  oVal (fMove G73) S67 <|
  (sCond G67 (oVal (fMove G7) S74 <|
  oVal (fSlS (kon (.str [48, 48, 48, 48, 48, 48, 48, 48, 48, 48, 48, 48, 48, 48, 48, 48, 48, 48, 48, 48, 48, 48, 48, 48, 48, 48, 48, 48, 48, 48, 48, 48, 48, 48, 48, 48, 48, 48, 48, 48, 48, 48, 48, 48, 48, 48, 48, 48, 48, 48, 48, 48, 48, 48, 48, 48, 48, 48, 48, 48, 48, 48, 48, 48])) none (some G74)) S75 <|
  oVal (fMove G75) S4 <|
  sRet)
  (oVal (fMove G7) S77 <|
  oVal (fInt leI G77 (kon (.int .i64 128))) S78 <|
  oVal (fMove G78) S79 <|
  oGval (wntF G79 true) (fMove G0) S80 <|
  oGcall (wntF G79 true) 25 (fArgs [(kon (.str [61, 61, 61, 61, 61, 61, 61, 61, 61, 61, 61, 61, 61, 61, 61, 61, 61, 61, 61, 61, 61, 61, 61, 61, 61, 61, 61, 61, 61, 61, 61, 61, 61, 61, 61, 61, 61, 61, 61, 61, 61, 61, 61, 61, 61, 61, 61, 61, 61, 61, 61, 61, 61, 61, 61, 61, 61, 61, 61, 61, 61, 61, 61, 61, 61, 61, 61, 61, 61, 61, 61, 61, 61, 61, 61, 61, 61, 61, 61, 61, 61, 61, 61, 61, 61, 61, 61, 61, 61, 61, 61, 61, 61, 61, 61, 61, 61, 61, 61, 61, 61, 61, 61, 61, 61, 61, 61, 61, 61, 61, 61, 61, 61, 61, 61, 61, 61, 61, 61, 61, 61, 61, 61, 61, 61, 61, 61, 61])), G80]) S81 <|
  oVal (fPick G79 G81 (kon (.bool false))) S82 <|
  oVal (fMove G82) S76 <|
  (sCond G76 (oVal (fMove G7) S83 <|
  oVal (fSlS (kon (.str [61, 61, 61, 61, 61, 61, 61, 61, 61, 61, 61, 61, 61, 61, 61, 61, 61, 61, 61, 61, 61, 61, 61, 61, 61, 61, 61, 61, 61, 61, 61, 61, 61, 61, 61, 61, 61, 61, 61, 61, 61, 61, 61, 61, 61, 61, 61, 61, 61, 61, 61, 61, 61, 61, 61, 61, 61, 61, 61, 61, 61, 61, 61, 61, 61, 61, 61, 61, 61, 61, 61, 61, 61, 61, 61, 61, 61, 61, 61, 61, 61, 61, 61, 61, 61, 61, 61, 61, 61, 61, 61, 61, 61, 61, 61, 61, 61, 61, 61, 61, 61, 61, 61, 61, 61, 61, 61, 61, 61, 61, 61, 61, 61, 61, 61, 61, 61, 61, 61, 61, 61, 61, 61, 61, 61, 61, 61, 61])) none (some G83)) S84 <|
  oVal (fMove G84) S4 <|
  sRet)
  (oVal (fMove G7) S86 <|
  oVal (fInt leI G86 (kon (.int .i64 64))) S87 <|
  oVal (fMove G87) S88 <|
  oGval (wntF G88 true) (fMove G0) S89 <|
  oGcall (wntF G88 true) 25 (fArgs [(kon (.str [9, 9, 9, 9, 9, 9, 9, 9, 9, 9, 9, 9, 9, 9, 9, 9, 9, 9, 9, 9, 9, 9, 9, 9, 9, 9, 9, 9, 9, 9, 9, 9, 9, 9, 9, 9, 9, 9, 9, 9, 9, 9, 9, 9, 9, 9, 9, 9, 9, 9, 9, 9, 9, 9, 9, 9, 9, 9, 9, 9, 9, 9, 9, 9])), G89]) S90 <|
  oVal (fPick G88 G90 (kon (.bool false))) S91 <|
  oVal (fMove G91) S85 <|
  (sCond G85 (oVal (fMove G7) S92 <|
  oVal (fSlS (kon (.str [9, 9, 9, 9, 9, 9, 9, 9, 9, 9, 9, 9, 9, 9, 9, 9, 9, 9, 9, 9, 9, 9, 9, 9, 9, 9, 9, 9, 9, 9, 9, 9, 9, 9, 9, 9, 9, 9, 9, 9, 9, 9, 9, 9, 9, 9, 9, 9, 9, 9, 9, 9, 9, 9, 9, 9, 9, 9, 9, 9, 9, 9, 9, 9])) none (some G92)) S93 <|
  oVal (fMove G93) S4 <|
  sRet)
  oEnd)))))))))))
  oEnd))))
  (oVal (fMove G7) S94 <|
  oVal (fMove G94) S8 <|
  (thenF (oVal (fMove G7) S95 <|
  oVal (fInt gtI G95 (kon (.int .i64 8192))) S96 <|
  (sCond G96 (oVal (fMove G0) S97 <|
  oVal (fLenS G97) S98 <|
  gn yesW (opAt 2 [u, u, u, u, u, u, u, u, u, z, u, z, z] Tryz.f152) <|
  oVal (fMove G0) S100 <|
  oVal (fLenS G100) S101 <|
  oVal (fInt mulI G99 G101) S102 <|
  oVal (fMove G102) S8 <|
  (oVal (fMove G8) S103 <|
  oVal (fIntE G103 (kon (.int .i64 0))) S104 <|
  (sCond G104 (oVal (fMove G0) S105 <|
  oVal (fLenS G105) S106 <|
  oVal (fMove G106) S8 <|
  oEnd)
  oEnd)))
  oEnd))
  (gn yesW (opAt 0 [u, u, u, u, u, u, u, u, u, u, z] Tryz.f152) <|
  (oVal (fMove G7) S107 <|
  oCall 113 (fArgs [G9, G107]) S108 <|
  (oVal (fMove G0) S109 <|
  oCall 114 (fArgs [G9, G109]) S110 <|
  (thenF (sBlock 3 (sLoop (thenF (oCall 202 (fArgs [G9]) S111 <|
  oVal (fMove G7) S112 <|
  oVal (fInt ltI G111 G112) S113 <|
  (sCond G113 oEnd
  (sExit 3)))
  (sBlock 4 (oVal (fMove G7) S114 <|
  oCall 202 (fArgs [G9]) S115 <|
  oVal (fInt subI G114 G115) S116 <|
  oCall 202 (fArgs [G9]) S117 <|
  oVal (fMove G8) S118 <|
  gn yesW (opAt 5 [u, u, u, u, u, u, u, u, u, u, u, u, u, z, z, z, u, z, z] Tryz.f152) <|
  oVal (fMove G119) S10 <|
  (oCall 115 (fArgs [G9]) S120 <|
  oVal (fMove G10) S121 <|
  oVal (fSlS G120 none (some G121)) S122 <|
  oCall 114 (fArgs [G9, G122]) S123 <|
  oEnd))))))
  (oCall 115 (fArgs [G9]) S124 <|
  oVal (fMove G124) S4 <|
  sRet)))))))))))))))
def c153 : Op8 := (gn yesW (opAt 0 [z] Tryz.f153) <|
  oVal (fMove (kon .nilp)) S4 <|
  (oVal (fMove G0) S6 <|
  oVal (fLoadN 10 G3) S7 <|
  oCall 58 (fArgs [G6, G7]) S8 <|
  oVal (fMove G8) S5 <|
  (oVal (fMove G0) S9 <|
  oVal (fMove G0) S10 <|
  oVal (fNil G10) S11 <|
  oVal (fFA 5 G11) S12 <|
  oVal (fLoad1 G12) S13 <|
  oVal (fMove G5) S14 <|
  gn yesW (opAt 6 [u, u, z] Tryz.f153) <|
  gn yesW (opAt 7 [u, u, z] Tryz.f153) <|
  oVal (fNil G9) S17 <|
  oVal (fFA 5 G17) S18 <|
  oUpd (fSt1 G18 G16) <|
  (oVal (fMove G0) S19 <|
  oVal (fMove G0) S20 <|
  oVal (fMove G0) S21 <|
  oVal (fNil G21) S22 <|
  oVal (fFA 5 G22) S23 <|
  oVal (fLoad1 G23) S24 <|
  oVal (fLenL G24) S25 <|
  oVal (fNil G19) S26 <|
  oVal (fFA 6 G26) S27 <|
  oUpd (fSt1 G27 G25) <|
  oVal (fNil G20) S28 <|
  oVal (fFA 10 G28) S29 <|
  oUpd (fSt1 G29 (kon (.bool true))) <|
  (oVal (fMove G5) S30 <|
  oVal (fMove G30) S4 <|
  sRet)))))
def c154 : Op8 := (oVal (fMove (kon (.int .i64 0))) S2 <|
  oVal (fMove (kon (.int .i64 0))) S3 <|
  oVal (fMove (kon (.int .i64 0))) S4 <|
  (oVal (fMove G0) S9 <|
  oCall 203 (fArgs [G9, (kon (.str [35]))]) S10 <|
  oVal (fMove G10) S5 <|
  (thenF (oVal (fMove G5) S11 <|
  oVal (fInt ltI G11 (kon (.int .i64 1))) S12 <|
  oVal (fMove G12) S13 <|
  oGval (wntF G13 false) (fMove G5) S14 <|
  oGval (wntF G13 false) (fInt gtI G14 (kon (.int .i64 6))) S15 <|
  oVal (fPick G13 (kon (.bool true)) G15) S16 <|
  oVal (fMove G16) S17 <|
  oGval (wntF G17 false) (fMove G0) S18 <|
  oGval (wntF G17 false) (fMove G5) S19 <|
  oGval (wntF G17 false) (fSlS G18 (some G19) none) S20 <|
  oGcall (wntF G17 false) 204 (fArgs [G20]) S21 <|
  oGval (wntF G17 false) (fNot G21) S22 <|
  oVal (fPick G17 (kon (.bool true)) G22) S23 <|
  (sCond G23 (oVal (fMove (kon (.int .i64 0))) S2 <|
  oVal (fMove (kon (.int .i64 0))) S3 <|
  oVal (fMove (kon (.int .i64 0))) S4 <|
  sRet)
  oEnd))
  (oVal (fMove G5) S24 <|
  oVal (fMove G0) S25 <|
  oVal (fMove G5) S26 <|
  oVal (fSlS G25 (some G26) none) S27 <|
  oCall 203 (fArgs [G27, (kon (.str [32, 9]))]) S28 <|
  oVal (fInt addI G24 G28) S29 <|
  oVal (fMove G29) S6 <|
  (oVal (fMove G0) S30 <|
  oVal (fMove G6) S31 <|
  oVal (fSlS G30 (some G31) none) S32 <|
  oCall 66 (fArgs [G32, (kon (.str [32, 9]))]) S33 <|
  oVal (fMove G33) S7 <|
  (thenF (oVal (fMove G7) S34 <|
  oCall 66 (fArgs [G34, (kon (.str [35]))]) S35 <|
  oVal (fMove G35) S8 <|
  (oVal (fMove G8) S36 <|
  gn yesW (opAt 1 [u, u, u, u, u, z, u, z] Tryz.f154) <|
  oVal (fMove G37) S38 <|
  oGval (wntF G38 false) (fMove G8) S39 <|
  oGval (wntF G38 false) (fMove G8) S40 <|
  oGcall (wntF G38 false) 66 (fArgs [G40, (kon (.str [32, 9]))]) S41 <|
  gn (wntF G38 false) (opAt 6 [u, u, u, u, u, z, u, z] Tryz.f154) <|
  oVal (fPick G38 (kon (.bool true)) G42) S43 <|
  (sCond G43 (oVal (fMove G8) S44 <|
  oCall 66 (fArgs [G44, (kon (.str [32, 9]))]) S45 <|
  oVal (fMove G45) S7 <|
  oEnd)
  oEnd)))
  (oVal (fMove G5) S46 <|
  oVal (fMove G6) S47 <|
  oVal (fMove G6) S48 <|
  oVal (fMove G7) S49 <|
  oVal (fLenS G49) S50 <|
  oVal (fInt addI G48 G50) S51 <|
  oVal (fMove G46) S2 <|
  oVal (fMove G47) S3 <|
  oVal (fMove G51) S4 <|
  sRet)))))))
def c155 : Op8 := (oVal (fMove (kon (.int .u8 0))) S2 <|
  oVal (fMove (kon (.int .i64 0))) S3 <|
  oVal (fMove (kon (.str []))) S4 <|
  (thenF (gn yesW (opAt 0 [u, z, z] Tryz.f155) <|
  oVal (fLenL G9) S10 <|
  oVal (fMove (kon (.int .i64 0))) S11 <|
  (sBlock 0 (sLoop (oVal (fInt ltI G11 G10) S12 <|
  (thenF (sCond G12 oEnd
  (sExit 0))
  (thenF (sBlock 1 (oVal (fIAs 1 G9 G11) S13 <|
  oVal (fLoad1 G13) S14 <|
  oVal (fMove G14) S6 <|
  (oVal (fMove G0) S15 <|
  oVal (fMove G6) S16 <|
  oCall 203 (fArgs [G15, G16]) S17 <|
  oVal (fMove G17) S7 <|
  (thenF (oVal (fMove G7) S18 <|
  oVal (fInt ltI G18 (kon (.int .i64 3))) S19 <|
  (sCond G19 (sExit 1)
  oEnd))
  (oVal (fMove G0) S20 <|
  oVal (fMove G7) S21 <|
  oVal (fSlS G20 (some G21) none) S22 <|
  oCall 61 (fArgs [G22, (kon (.str [32, 9]))]) S23 <|
  oVal (fMove G23) S8 <|
  (thenF (oVal (fMove G6) S24 <|
  gn yesW (opAt 1 [u, z, u, z, z, u, u, z, z, u, u, u, u, z, z] Tryz.f155) <|
  oVal (fMove G25) S26 <|
  oGval (wntF G26 true) (fMove G8) S27 <|
  oGval (wntF G26 true) (fMove G6) S28 <|
  oGcall (wntF G26 true) 20 (fArgs [G27, G28]) S29 <|
  oVal (fPick G26 G29 (kon (.bool false))) S30 <|
  (sCond G30 (sExit 0)
  oEnd))
  (oVal (fMove G6) S31 <|
  oVal (fIxS G31 (kon (.int .i64 0))) S32 <|
  oVal (fMove G7) S33 <|
  oVal (fMove G8) S34 <|
  oVal (fMove G32) S2 <|
  oVal (fMove G33) S3 <|
  oVal (fMove G34) S4 <|
  sRet)))))))
  (oVal (fInt addI G11 (kon (.int .i64 1))) S35 <|
  oVal (fMove G35) S11 <|
  oEnd)))))))
  (oVal (fMove (kon (.int .u8 0))) S2 <|
  oVal (fMove (kon (.int .i64 0))) S3 <|
  oVal (fMove (kon (.str []))) S4 <|
  sRet)))
def c156 : Op8 := (oVal (fMove (kon (.str []))) S2 <|
  (gn yesW (opAt 0 [u, z] Tryz.f156) <|
  (thenF (oVal (fMove (kon (.int .i64 0))) S4 <|
  (sBlock 0 (sLoop (thenF (oVal (fMove G4) S7 <|
  oVal (fMove G0) S8 <|
  oVal (fLenS G8) S9 <|
  oVal (fInt ltI G7 G9) S10 <|
  (sCond G10 oEnd
  (sExit 0)))
  (thenF (sBlock 1 (oVal (fMove G0) S14 <|
  oVal (fMove G4) S15 <|
  oCall 180 (fArgs [G14, G15]) S16 <|
  oVal (fMove G16) S13 <|
  oVal (fExt 0 G13) S17 <|
  oVal (fExt 1 G13) S18 <|
  oVal (fMove G17) S5 <|
  oVal (fMove G18) S6 <|
  (thenF (sBlock 2 (oVal (fMove G6) S20 <|
  oVal (fInt gtI G20 (kon (.int .i64 0))) S21 <|
  oVal (fMove G21) S19 <|
  (sCond G19 (oVal (fMove G5) S22 <|
  oCall 114 (fArgs [G3, G22]) S23 <|
  (oVal (fMove G4) S24 <|
  oVal (fMove G6) S25 <|
  oVal (fInt subI G25 (kon (.int .i64 1))) S26 <|
  oVal (fInt addI G24 G26) S27 <|
  oVal (fMove G27) S4 <|
  (sExit 1)))
  (oVal (fMove G0) S29 <|
  oVal (fMove G4) S30 <|
  oVal (fIxS G29 G30) S31 <|
  oVal (fIntE G31 (kon (.int .u8 92))) S32 <|
  oVal (fMove G32) S33 <|
  oGval (wntF G33 true) (fMove G4) S34 <|
  oGval (wntF G33 true) (fInt addI G34 (kon (.int .i64 1))) S35 <|
  oGval (wntF G33 true) (fMove G0) S36 <|
  oGval (wntF G33 true) (fLenS G36) S37 <|
  oGval (wntF G33 true) (fInt ltI G35 G37) S38 <|
  oVal (fPick G33 G38 (kon (.bool false))) S39 <|
  oVal (fMove G39) S40 <|
  oGval (wntF G40 true) (fMove G0) S41 <|
  oGval (wntF G40 true) (fMove G4) S42 <|
  oGval (wntF G40 true) (fInt addI G42 (kon (.int .i64 1))) S43 <|
  oGval (wntF G40 true) (fIxS G41 G43) S44 <|
  oGcall (wntF G40 true) 173 (fArgs [G44]) S45 <|
  oVal (fPick G40 G45 (kon (.bool false))) S46 <|
  oVal (fMove G46) S28 <|
  (sCond G28 (oVal (fMove G4) S47 <|
  oVal (fInt addI G47 (kon (.int .i64 1))) S48 <|
  oVal (fMove G48) S4 <|
  oEnd)
  oEnd)))))
  (oVal (fMove G0) S49 <|
  oVal (fMove G4) S50 <|
  oVal (fIxS G49 G50) S51 <|
  oCall 205 (fArgs [G3, G51]) S52 <|
  oEnd))))
  (oVal (fMove G4) S11 <|
  oVal (fInt addI G11 (kon (.int .i64 1))) S12 <|
  oVal (fMove G12) S4 <|
  oEnd))))))
  (oCall 115 (fArgs [G3]) S53 <|
  oVal (fMove G53) S2 <|
  sRet))))
def c157 : Op8 := (oVal (fMove (kon (.int .i64 0))) S2 <|
  (oVal (fMove G0) S11 <|
  oCall 206 (fArgs [G11, (kon (.str [60]))]) S12 <|
  oVal (fMove G12) S10 <|
  oVal (fExt 0 G10) S13 <|
  oVal (fExt 1 G10) S14 <|
  oVal (fMove G13) S3 <|
  oVal (fMove G14) S4 <|
  (thenF (oVal (fMove G4) S15 <|
  oVal (fNot G15) S16 <|
  (sCond G16 (oVal (fMove (kon (.int .i64 0))) S2 <|
  sRet)
  oEnd))
  (thenF (oVal (fMove G3) S18 <|
  oCall 207 (fArgs [G18]) S19 <|
  oVal (fMove G19) S17 <|
  oVal (fExt 0 G17) S20 <|
  oVal (fExt 1 G17) S21 <|
  oVal (fMove G20) S5 <|
  oVal (fMove G21) S6 <|
  (oVal (fMove G5) S22 <|
  oCall 208 (fArgs [G22]) S23 <|
  oVal (fMove G23) S24 <|
  oGval (wntF G24 true) (fMove G6) S25 <|
  oGcall (wntF G24 true) 209 (fArgs [G25, (kon .nils)]) S26 <|
  oVal (fPick G24 G26 (kon (.bool false))) S27 <|
  (sCond G27 (oVal (fMove (kon (.int .i64 1))) S2 <|
  sRet)
  oEnd)))
  (oVal (fMove G3) S29 <|
  oCall 210 (fArgs [G29, (kon (.str [47]))]) S30 <|
  oCall 207 (fArgs [G30]) S31 <|
  oVal (fMove G31) S28 <|
  oVal (fExt 0 G28) S32 <|
  oVal (fExt 1 G28) S33 <|
  oVal (fMove G32) S7 <|
  oVal (fMove G33) S8 <|
  (thenF (sBlock 0 (oVal (fMove G0) S35 <|
  oCall 25 (fArgs [G35, (kon (.str [60, 33, 45, 45]))]) S36 <|
  oVal (fMove G36) S34 <|
  (sCond G34 (oVal (fMove (kon (.int .i64 2))) S2 <|
  sRet)
  (oVal (fMove G0) S38 <|
  oCall 25 (fArgs [G38, (kon (.str [60, 63]))]) S39 <|
  oVal (fMove G39) S37 <|
  (sCond G37 (oVal (fMove (kon (.int .i64 3))) S2 <|
  sRet)
  (oVal (fMove G0) S41 <|
  oCall 211 (fArgs [G41]) S42 <|
  oVal (fMove G42) S40 <|
  (sCond G40 (oVal (fMove (kon (.int .i64 4))) S2 <|
  sRet)
  (oVal (fMove G0) S44 <|
  oCall 25 (fArgs [G44, (kon (.str [60, 33, 91, 67, 68, 65, 84, 65, 91]))]) S45 <|
  oVal (fMove G45) S43 <|
  (sCond G43 (oVal (fMove (kon (.int .i64 5))) S2 <|
  sRet)
  (oVal (fMove G7) S47 <|
  oCall 212 (fArgs [G47]) S48 <|
  oVal (fMove G48) S49 <|
  oGval (wntF G49 true) (fMove G8) S50 <|
  gn (wntF G49 true) (opAt 4 [u, u, u, u, u, z, z, u, u, u, u, u, u, u, u, z] Tryz.f157) <|
  oGcall (wntF G49 true) 209 (fArgs [G50, G51]) S52 <|
  oVal (fPick G49 G52 (kon (.bool false))) S53 <|
  oVal (fMove G53) S46 <|
  (sCond G46 (oVal (fMove (kon (.int .i64 6))) S2 <|
  sRet)
  oEnd)))))))))))
  (thenF (oVal (fMove G0) S54 <|
  oCall 213 (fArgs [G54]) S55 <|
  oVal (fMove G55) S9 <|
  (oVal (fMove G9) S56 <|
  oVal (fInt gtI G56 (kon (.int .i64 0))) S57 <|
  oVal (fMove G57) S58 <|
  oGval (wntF G58 true) (fMove G0) S59 <|
  oGval (wntF G58 true) (fMove G9) S60 <|
  oGval (wntF G58 true) (fSlS G59 (some G60) none) S61 <|
  oGcall (wntF G58 true) 61 (fArgs [G61, (kon (.str [32, 9]))]) S62 <|
  gn (wntF G58 true) (opAt 7 [u, u, u, u, u, u, z, u, z] Tryz.f157) <|
  oVal (fPick G58 G63 (kon (.bool false))) S64 <|
  (sCond G64 (oVal (fMove (kon (.int .i64 7))) S2 <|
  sRet)
  oEnd)))
  (oVal (fMove (kon (.int .i64 0))) S2 <|
  sRet))))))))
def c158 : Op8 := (oVal (fMove (kon (.int .i64 0))) S2 <|
  (thenF (gn yesW (opAt 0 [u, z, z] Tryz.f158) <|
  oVal (fLenL G6) S7 <|
  oVal (fMove (kon (.int .i64 0))) S8 <|
  (sBlock 0 (sLoop (oVal (fInt ltI G8 G7) S9 <|
  (thenF (sCond G9 oEnd
  (sExit 0))
  (thenF (sBlock 1 (oVal (fMove G8) S10 <|
  oVal (fIAs 1 G6 G8) S11 <|
  oVal (fLoad1 G11) S12 <|
  oVal (fMove G10) S3 <|
  oVal (fMove G12) S4 <|
  (oVal (fMove G0) S13 <|
  oVal (fMove G4) S14 <|
  oCall 203 (fArgs [G13, G14]) S15 <|
  oVal (fMove G15) S5 <|
  (oVal (fMove G5) S16 <|
  oVal (fInt gtI G16 (kon (.int .i64 0))) S17 <|
  oVal (fMove G17) S18 <|
  oGval (wntF G18 true) (fMove G0) S19 <|
  oGval (wntF G18 true) (fMove G5) S20 <|
  oGval (wntF G18 true) (fSlS G19 (some G20) none) S21 <|
  oGcall (wntF G18 true) 198 (fArgs [G21]) S22 <|
  oVal (fPick G18 G22 (kon (.bool false))) S23 <|
  (sCond G23 (oVal (fMove G3) S24 <|
  oVal (fInt addI G24 (kon (.int .i64 1))) S25 <|
  oVal (fMove G25) S2 <|
  sRet)
  oEnd)))))
  (oVal (fInt addI G8 (kon (.int .i64 1))) S26 <|
  oVal (fMove G26) S8 <|
  oEnd)))))))
  (oVal (fMove (kon (.int .i64 0))) S2 <|
  sRet)))
def c159 : Op8 := (oVal (fMove (kon (.bool false))) S2 <|
  (thenF (gn yesW (opAt 0 [u, z, z] Tryz.f159) <|
  oVal (fLenL G5) S6 <|
  oVal (fMove (kon (.int .i64 0))) S7 <|
  (sBlock 0 (sLoop (oVal (fInt ltI G7 G6) S8 <|
  (thenF (sCond G8 oEnd
  (sExit 0))
  (thenF (sBlock 1 (oVal (fIAs 1 G5 G7) S9 <|
  oVal (fLoad1 G9) S10 <|
  oVal (fMove G10) S4 <|
  (oVal (fMove G0) S11 <|
  oVal (fMove G4) S12 <|
  oCall 25 (fArgs [G11, G12]) S13 <|
  (sCond G13 (oVal (fMove G0) S14 <|
  oVal (fMove G4) S15 <|
  gn yesW (opAt 2 [u, z, u, z, z, u, u, z, z, u, u, z, z] Tryz.f159) <|
  oCall 215 (fArgs [G14, G16]) S17 <|
  oVal (fMove G4) S18 <|
  gn yesW (opAt 5 [u, z, u, z, z, u, u, z, z, u, u, z, z] Tryz.f159) <|
  oCall 214 (fArgs [G17, G19]) S20 <|
  gn yesW (opAt 7 [u, z, u, z, z, u, u, z, z, u, u, z, z] Tryz.f159) <|
  oVal (fMove G21) S22 <|
  oGval (wntF G22 true) (fMove G0) S23 <|
  oGval (wntF G22 true) (fMove G4) S24 <|
  oGcall (wntF G22 true) 39 (fArgs [G23, G24]) S25 <|
  oGval (wntF G22 true) (fInt geI G25 (kon (.int .i64 3))) S26 <|
  oVal (fPick G22 G26 (kon (.bool false))) S27 <|
  oVal (fMove G27) S2 <|
  sRet)
  oEnd))))
  (oVal (fInt addI G7 (kon (.int .i64 1))) S28 <|
  oVal (fMove G28) S7 <|
  oEnd)))))))
  (oVal (fMove (kon (.bool false))) S2 <|
  sRet)))
def c160 : Op8 := (oVal (fMove (kon (.int .u8 0))) S2 <|
  oVal (fMove (kon (.int .i64 0))) S3 <|
  oVal (fMove (kon (.int .i64 0))) S4 <|
  (oVal (fMove G0) S8 <|
  oCall 203 (fArgs [G8, (kon (.str [48, 49, 50, 51, 52, 53, 54, 55, 56, 57]))]) S9 <|
  oVal (fMove G9) S5 <|
  (oVal (fMove (kon (.str [45, 43, 42]))) S6 <|
  oVal (fMove (kon (.int .i64 (-1)))) S7 <|
  (thenF (oVal (fMove G5) S10 <|
  oVal (fInt gtI G10 (kon (.int .i64 0))) S11 <|
  (sCond G11 (oVal (fMove (kon (.str [46, 41]))) S6 <|
  (oVal (fMove G0) S13 <|
  oVal (fMove G5) S14 <|
  gn yesW (opAt 2 [u, u, u, z, u, z, u] Tryz.f160) <|
  oVal (fSlS G13 none (some G15)) S16 <|
  oCall 216 (fArgs [G16]) S17 <|
  oVal (fMove G17) S12 <|
  oVal (fExt 0 G12) S18 <|
  oVal (fExt 1 G12) S19 <|
  oVal (fMove G18) S7 <|
  oEnd))
  oEnd))
  (thenF (oVal (fMove G5) S20 <|
  oVal (fInt gtI G20 (kon (.int .i64 9))) S21 <|
  oVal (fMove G21) S22 <|
  oGval (wntF G22 false) (fMove G5) S23 <|
  oGval (wntF G22 false) (fMove G0) S24 <|
  oGval (wntF G22 false) (fLenS G24) S25 <|
  oGval (wntF G22 false) (fIntE G23 G25) S26 <|
  oVal (fPick G22 (kon (.bool true)) G26) S27 <|
  oVal (fMove G27) S28 <|
  oGval (wntF G28 false) (fMove G6) S29 <|
  oGval (wntF G28 false) (fMove G0) S30 <|
  oGval (wntF G28 false) (fMove G5) S31 <|
  oGval (wntF G28 false) (fIxS G30 G31) S32 <|
  oGcall (wntF G28 false) 42 (fArgs [G29, G32]) S33 <|
  oGval (wntF G28 false) (fInt ltI G33 (kon (.int .i64 0))) S34 <|
  oVal (fPick G28 (kon (.bool true)) G34) S35 <|
  oVal (fMove G35) S36 <|
  oGval (wntF G36 false) (fMove G0) S37 <|
  oGval (wntF G36 false) (fMove G5) S38 <|
  oGval (wntF G36 false) (fInt addI G38 (kon (.int .i64 1))) S39 <|
  oGval (wntF G36 false) (fSlS G37 (some G39) none) S40 <|
  oGcall (wntF G36 false) 204 (fArgs [G40]) S41 <|
  oGval (wntF G36 false) (fNot G41) S42 <|
  oVal (fPick G36 (kon (.bool true)) G42) S43 <|
  (sCond G43 (oVal (fMove (kon (.int .u8 0))) S2 <|
  oVal (fMove (kon (.int .i64 0))) S3 <|
  oVal (fMove (kon (.int .i64 0))) S4 <|
  sRet)
  oEnd))
  (oVal (fMove G0) S44 <|
  oVal (fMove G5) S45 <|
  oVal (fIxS G44 G45) S46 <|
  oVal (fMove G7) S47 <|
  oVal (fMove G5) S48 <|
  oVal (fInt addI G48 (kon (.int .i64 1))) S49 <|
  oVal (fMove G46) S2 <|
  oVal (fMove G47) S3 <|
  oVal (fMove G49) S4 <|
  sRet))))))
def c161 : Op8 := (oVal (fMove (kon (.str []))) S4 <|
  oVal (fMove (kon (.int .i64 0))) S5 <|
  (oVal (fMove G0) S7 <|
  oVal (fMove G1) S8 <|
  oCall 217 (fArgs [G7, G8]) S9 <|
  oVal (fMove G9) S0 <|
  (thenF (oVal (fMove G0) S10 <|
  oCall 25 (fArgs [G10, (kon (.str [91]))]) S11 <|
  oVal (fNot G11) S12 <|
  (sCond G12 (oVal (fMove (kon (.str []))) S4 <|
  oVal (fMove (kon (.int .i64 0))) S5 <|
  sRet)
  oEnd))
  (oVal (fMove G0) S13 <|
  oCall 218 (fArgs [G13, (kon (.int .i64 1)), (kon (.str [91, 93]))]) S14 <|
  oVal (fMove G14) S6 <|
  (thenF (oVal (fMove G6) S15 <|
  oVal (fInt ltI G15 (kon (.int .i64 0))) S16 <|
  oVal (fMove G16) S17 <|
  oGval (wntF G17 false) (fMove G0) S18 <|
  oGval (wntF G17 false) (fMove G6) S19 <|
  oGval (wntF G17 false) (fIxS G18 G19) S20 <|
  oGval (wntF G17 false) (fIntE G20 (kon (.int .u8 91))) S21 <|
  oVal (fPick G17 (kon (.bool true)) G21) S22 <|
  oVal (fMove G22) S23 <|
  oGval (wntF G23 false) (fMove G6) S24 <|
  oGval (wntF G23 false) (fInt subI G24 (kon (.int .i64 1))) S25 <|
  oGval (wntF G23 false) (fInt gtI G25 (kon (.int .i64 999))) S26 <|
  oVal (fPick G23 (kon (.bool true)) G26) S27 <|
  oVal (fMove G27) S28 <|
  oGval (wntF G28 false) (fMove G0) S29 <|
  oGval (wntF G28 false) (fMove G6) S30 <|
  oGval (wntF G28 false) (fSlS G29 (some (kon (.int .i64 1))) (some G30)) S31 <|
  oGcall (wntF G28 false) 61 (fArgs [G31, (kon (.str [32, 9, 10]))]) S32 <|
  gn (wntF G28 false) (opAt 18 [u, u, u, u, z, z] Tryz.f161) <|
  oVal (fPick G28 (kon (.bool true)) G33) S34 <|
  (sCond G34 (oVal (fMove (kon (.str []))) S4 <|
  oVal (fMove (kon (.int .i64 0))) S5 <|
  sRet)
  oEnd))
  (oVal (fMove G0) S35 <|
  oVal (fMove G6) S36 <|
  oVal (fSlS G35 (some (kon (.int .i64 1))) (some G36)) S37 <|
  oVal (fMove G6) S38 <|
  oVal (fInt addI G38 (kon (.int .i64 1))) S39 <|
  oVal (fMove G37) S4 <|
  oVal (fMove G39) S5 <|
  sRet))))))
def c162 : Op8 := (oVal (fMove (kon (.int .i64 0))) S2 <|
  oVal (fMove (kon (.bool false))) S3 <|
  (oVal (fMove G0) S5 <|
  oVal (fLenS G5) S6 <|
  oVal (fMove G0) S7 <|
  oCall 194 (fArgs [G7, (kon (.str [32, 9, 10]))]) S8 <|
  oVal (fLenS G8) S9 <|
  oVal (fInt subI G6 G9) S10 <|
  oVal (fMove G10) S4 <|
  (oVal (fMove G4) S11 <|
  oVal (fMove G0) S12 <|
  oVal (fMove G4) S13 <|
  oVal (fSlS G12 none (some G13)) S14 <|
  oCall 39 (fArgs [G14, (kon (.str [10]))]) S15 <|
  oVal (fInt leI G15 (kon (.int .i64 1))) S16 <|
  oVal (fMove G11) S2 <|
  oVal (fMove G16) S3 <|
  sRet)))
def c163 : Op8 := (oVal (fMove (kon (.str []))) S4 <|
  oVal (fMove (kon (.int .i64 0))) S5 <|
  (oVal (fMove G0) S8 <|
  oVal (fMove G1) S9 <|
  oCall 217 (fArgs [G8, G9]) S10 <|
  oVal (fMove G10) S0 <|
  (thenF (oVal (fMove G0) S11 <|
  oCall 25 (fArgs [G11, (kon (.str [60]))]) S12 <|
  (sCond G12 (oVal (fMove G0) S13 <|
  oCall 218 (fArgs [G13, (kon (.int .i64 1)), (kon (.str [10, 60, 62]))]) S14 <|
  oVal (fMove G14) S6 <|
  (thenF (oVal (fMove G6) S15 <|
  oVal (fInt ltI G15 (kon (.int .i64 0))) S16 <|
  oVal (fMove G16) S17 <|
  oGval (wntF G17 false) (fMove G0) S18 <|
  oGval (wntF G17 false) (fMove G6) S19 <|
  oGval (wntF G17 false) (fIxS G18 G19) S20 <|
  oGval (wntF G17 false) (fInt neI G20 (kon (.int .u8 62))) S21 <|
  oVal (fPick G17 (kon (.bool true)) G21) S22 <|
  (sCond G22 (oVal (fMove (kon (.str []))) S4 <|
  oVal (fMove (kon (.int .i64 0))) S5 <|
  sRet)
  oEnd))
  (oVal (fMove G0) S23 <|
  oVal (fMove G6) S24 <|
  oVal (fSlS G23 (some (kon (.int .i64 1))) (some G24)) S25 <|
  oCall 156 (fArgs [G25]) S26 <|
  oVal (fMove G6) S27 <|
  oVal (fInt addI G27 (kon (.int .i64 1))) S28 <|
  oVal (fMove G26) S4 <|
  oVal (fMove G28) S5 <|
  sRet)))
  oEnd))
  (oVal (fMove G0) S29 <|
  oCall 219 (fArgs [G29]) S30 <|
  oVal (fMove G30) S7 <|
  (thenF (oVal (fMove G7) S31 <|
  oVal (fInt ltI G31 (kon (.int .i64 0))) S32 <|
  (sCond G32 (oVal (fMove (kon (.str []))) S4 <|
  oVal (fMove (kon (.int .i64 0))) S5 <|
  sRet)
  oEnd))
  (oVal (fMove G0) S33 <|
  oVal (fMove G7) S34 <|
  oVal (fSlS G33 none (some G34)) S35 <|
  oCall 156 (fArgs [G35]) S36 <|
  oVal (fMove G7) S37 <|
  oVal (fMove G36) S4 <|
  oVal (fMove G37) S5 <|
  sRet))))))
def c164 : Op8 := (oVal (fMove (kon (.str []))) S2 <|
  (gn yesW (opAt 0 [u, z] Tryz.f164) <|
  (oVal (fMove (kon (.bool false))) S4 <|
  (thenF (oVal (fMove (kon (.int .i64 0))) S5 <|
  (sBlock 0 (sLoop (thenF (oVal (fMove G5) S8 <|
  oVal (fMove G0) S9 <|
  oVal (fLenS G9) S10 <|
  oVal (fInt ltI G8 G10) S11 <|
  (sCond G11 oEnd
  (sExit 0)))
  (sBlock 1 (oVal (fMove G0) S13 <|
  oVal (fMove G5) S14 <|
  oCall 37 (fArgs [G13, G14]) S15 <|
  oVal (fMove G15) S12 <|
  oVal (fExt 0 G12) S16 <|
  oVal (fExt 1 G12) S17 <|
  oVal (fMove G16) S6 <|
  oVal (fMove G17) S7 <|
  (oVal (fMove G5) S18 <|
  oVal (fMove G7) S19 <|
  oVal (fInt addI G18 G19) S20 <|
  oVal (fMove G20) S5 <|
  (thenF (oVal (fMove G6) S21 <|
  oCall 220 (fArgs [G21]) S22 <|
  (sCond G22 (oCall 202 (fArgs [G3]) S23 <|
  oVal (fInt gtI G23 (kon (.int .i64 0))) S24 <|
  oVal (fMove G24) S4 <|
  (sExit 1))
  oEnd))
  (thenF (oVal (fMove G4) S25 <|
  (sCond G25 (oCall 205 (fArgs [G3, (kon (.int .u8 32))]) S26 <|
  oEnd)
  oEnd))
  (oVal (fMove (kon (.bool false))) S4 <|
  (oVal (fMove G6) S27 <|
  oCall 221 (fArgs [G27]) S28 <|
  oCall 114 (fArgs [G3, G28]) S29 <|
  oEnd)))))))))))
  (oCall 115 (fArgs [G3]) S30 <|
  oVal (fMove G30) S2 <|
  sRet)))))
def c165 : Op8 := (oVal (fMove (kon (.str []))) S4 <|
  oVal (fMove (kon (.int .i64 0))) S5 <|
  oVal (fMove (kon (.int .i64 0))) S6 <|
  oVal (fMove (kon (.bool false))) S7 <|
  (oVal (fMove G0) S11 <|
  oVal (fMove G1) S12 <|
  oVal (fSlS G11 (some G12) none) S13 <|
  oCall 162 (fArgs [G13]) S14 <|
  oVal (fMove G14) S10 <|
  oVal (fExt 0 G10) S15 <|
  oVal (fExt 1 G10) S16 <|
  oVal (fMove G15) S8 <|
  oVal (fMove G16) S7 <|
  (thenF (oVal (fMove G8) S17 <|
  oVal (fIntE G17 (kon (.int .i64 0))) S18 <|
  oVal (fMove G18) S19 <|
  oGval (wntF G19 false) (fMove G7) S20 <|
  oGval (wntF G19 false) (fNot G20) S21 <|
  oVal (fPick G19 (kon (.bool true)) G21) S22 <|
  (sCond G22 (oVal (fMove (kon (.str []))) S4 <|
  oVal (fMove (kon (.int .i64 0))) S5 <|
  oVal (fMove (kon (.int .i64 0))) S6 <|
  oVal (fMove (kon (.bool false))) S7 <|
  sRet)
  oEnd))
  (oVal (fMove G0) S24 <|
  oVal (fMove G1) S25 <|
  oVal (fMove G8) S26 <|
  oVal (fInt addI G25 G26) S27 <|
  oCall 222 (fArgs [G24, G27]) S28 <|
  oVal (fMove G28) S23 <|
  oVal (fExt 0 G23) S29 <|
  oVal (fExt 1 G23) S30 <|
  oVal (fMove G29) S4 <|
  oVal (fMove G30) S9 <|
  (oVal (fMove G1) S31 <|
  oVal (fMove G8) S32 <|
  oVal (fInt addI G31 G32) S33 <|
  oVal (fMove G9) S34 <|
  oVal (fInt addI G33 G34) S35 <|
  oVal (fMove G35) S5 <|
  (oVal (fMove G0) S37 <|
  oVal (fMove G5) S38 <|
  oVal (fSlS G37 (some G38) none) S39 <|
  oCall 166 (fArgs [G39]) S40 <|
  oVal (fMove G40) S36 <|
  oVal (fExt 0 G36) S41 <|
  oVal (fExt 1 G36) S42 <|
  oVal (fMove G41) S8 <|
  oVal (fMove G42) S7 <|
  (oVal (fMove G4) S43 <|
  oVal (fMove G5) S44 <|
  oVal (fMove G5) S45 <|
  oVal (fMove G8) S46 <|
  oVal (fInt addI G45 G46) S47 <|
  oVal (fMove G7) S48 <|
  oVal (fMove G48) S49 <|
  oGval (wntF G49 true) (fMove G9) S50 <|
  oGval (wntF G49 true) (fInt gtI G50 (kon (.int .i64 0))) S51 <|
  oVal (fPick G49 G51 (kon (.bool false))) S52 <|
  oVal (fMove G43) S4 <|
  oVal (fMove G44) S5 <|
  oVal (fMove G47) S6 <|
  oVal (fMove G52) S7 <|
  sRet)))))))
def c166 : Op8 := (oVal (fMove (kon (.int .i64 0))) S2 <|
  oVal (fMove (kon (.bool false))) S3 <|
  (oVal (fMove G0) S8 <|
  oCall 38 (fArgs [G8, (kon (.str [10]))]) S9 <|
  oVal (fMove G9) S7 <|
  oVal (fExt 0 G7) S10 <|
  oVal (fExt 1 G7) S11 <|
  oVal (fExt 2 G7) S12 <|
  oVal (fMove G10) S4 <|
  oVal (fMove G11) S5 <|
  oVal (fMove G12) S6 <|
  (thenF (oVal (fMove G4) S13 <|
  oCall 61 (fArgs [G13, (kon (.str [32, 9]))]) S14 <|
  gn yesW (opAt 2 [u, u, z, z] Tryz.f166) <|
  (sCond G15 (oVal (fMove (kon (.int .i64 0))) S2 <|
  oVal (fMove (kon (.bool false))) S3 <|
  sRet)
  oEnd))
  (thenF (oVal (fMove G6) S16 <|
  (sCond G16 (oVal (fMove G4) S17 <|
  oVal (fLenS G17) S18 <|
  oVal (fInt addI G18 (kon (.int .i64 1))) S19 <|
  oVal (fMove G19) S2 <|
  oVal (fMove (kon (.bool true))) S3 <|
  sRet)
  oEnd))
  (oVal (fMove G4) S20 <|
  oVal (fLenS G20) S21 <|
  oVal (fMove G21) S2 <|
  oVal (fMove (kon (.bool true))) S3 <|
  sRet)))))
def c167 : Op8 := (oVal (fMove (kon (.bool false))) S4 <|
  (oVal (fMove G0) S5 <|
  oVal (fMove G1) S6 <|
  oCall 45 (fArgs [G5, G6]) S7 <|
  oVal (fInt geI G7 (kon (.int .i64 0))) S8 <|
  oVal (fMove G8) S4 <|
  sRet))
def c168 : Op8 := (oVal (fMove (kon (.int .i32 0))) S2 <|
  oVal (fMove (kon (.int .i64 0))) S3 <|
  (oVal (fMove G0) S7 <|
  oVal (fLenS G7) S8 <|
  oVal (fMove G8) S4 <|
  (thenF (oVal (fMove G4) S9 <|
  oVal (fIntE G9 (kon (.int .i64 0))) S10 <|
  (sCond G10 (oVal (fMove (kon (.int .i32 65533))) S2 <|
  oVal (fMove (kon (.int .i64 0))) S3 <|
  sRet)
  oEnd))
  (oVal (fMove G4) S11 <|
  oVal (fInt subI G11 (kon (.int .i64 1))) S12 <|
  oVal (fMove G12) S5 <|
  (oVal (fMove G0) S13 <|
  oVal (fMove G5) S14 <|
  oVal (fIxS G13 G14) S15 <|
  oVal (fCnvI .i32 G15) S16 <|
  oVal (fMove G16) S2 <|
  (thenF (oVal (fMove G2) S17 <|
  oVal (fInt ltI G17 (kon (.int .i32 128))) S18 <|
  (sCond G18 (oVal (fMove G2) S19 <|
  oVal (fMove G19) S2 <|
  oVal (fMove (kon (.int .i64 1))) S3 <|
  sRet)
  oEnd))
  (oVal (fMove G4) S20 <|
  oVal (fInt subI G20 (kon (.int .i64 4))) S21 <|
  gn yesW (opAt 2 [u, u, u, u, u, u, z] Tryz.f168) <|
  oVal (fMove G22) S6 <|
  (thenF (oVal (fMove G5) S23 <|
  oVal (fInt subI G23 (kon (.int .i64 1))) S24 <|
  oVal (fMove G24) S5 <|
  (sBlock 0 (sLoop (thenF (oVal (fMove G5) S25 <|
  oVal (fMove G6) S26 <|
  oVal (fInt geI G25 G26) S27 <|
  (sCond G27 oEnd
  (sExit 0)))
  (thenF (sBlock 1 (oVal (fMove G0) S30 <|
  oVal (fMove G5) S31 <|
  oVal (fIxS G30 G31) S32 <|
  oCall 223 (fArgs [G32]) S33 <|
  (sCond G33 (sExit 0)
  oEnd)))
  (oVal (fMove G5) S28 <|
  oVal (fInt subI G28 (kon (.int .i64 1))) S29 <|
  oVal (fMove G29) S5 <|
  oEnd))))))
  (thenF (oVal (fMove G5) S34 <|
  oVal (fInt ltI G34 (kon (.int .i64 0))) S35 <|
  (sCond G35 (oVal (fMove (kon (.int .i64 0))) S5 <|
  oEnd)
  oEnd))
  (oVal (fMove G0) S37 <|
  oVal (fMove G5) S38 <|
  oVal (fMove G4) S39 <|
  oVal (fSlS G37 (some G38) (some G39)) S40 <|
  oCall 74 (fArgs [G40]) S41 <|
  oVal (fMove G41) S36 <|
  oVal (fExt 0 G36) S42 <|
  oVal (fExt 1 G36) S43 <|
  oVal (fMove G42) S2 <|
  oVal (fMove G43) S3 <|
  (thenF (oVal (fMove G5) S44 <|
  oVal (fMove G3) S45 <|
  oVal (fInt addI G44 G45) S46 <|
  oVal (fMove G4) S47 <|
  oVal (fInt neI G46 G47) S48 <|
  (sCond G48 (oVal (fMove (kon (.int .i32 65533))) S2 <|
  oVal (fMove (kon (.int .i64 1))) S3 <|
  sRet)
  oEnd))
  (oVal (fMove G2) S49 <|
  oVal (fMove G3) S50 <|
  oVal (fMove G49) S2 <|
  oVal (fMove G50) S3 <|
  sRet))))))))))))
def c169 : Op8 := (oVal (fMove G0) S2 <|
  oVal (fNil G2) S3 <|
  oVal (fFA 0 G3) S4 <|
  oVal (fLoad1 G4) S5 <|
  gn yesW (opAt 4 [z] Tryz.f169) <|
  (sCond G6 (oVal (fMove G0) S7 <|
  oVal (fMove G0) S8 <|
  gn yesW (opAt 2 [u, z] Tryz.f169) <|
  gn yesW (opAt 3 [u, z] Tryz.f169) <|
  gn yesW (opAt 4 [u, z] Tryz.f169) <|
  oVal (fNil G7) S12 <|
  oVal (fFA 0 G12) S13 <|
  oUpd (fSt1 G13 G11) <|
  oEnd)
  (oVal (fMove G0) S14 <|
  oVal (fNil G14) S15 <|
  oVal (fFA 0 G15) S16 <|
  oVal (fLoad1 G16) S17 <|
  oVal (fMove G0) S18 <|
  gn yesW (opAt 5 [u, u, z] Tryz.f169) <|
  (sCond G19 sBad
  oEnd))))
def c170 : Op8 := (sDraw <| dVal cP 0 (fMove G0) S5 <|
  dVal cP 1 (fNil G5) S6 <|
  dVal cP 2 (fFA 1 G6) S7 <|
  dVal (cL G7) 3 (fLoad1 G7) S8 <|
  gd cE 4 yesW (opAt 4 [z] Tryz.f170) <|
  dVal cP 5 (fInt mulI (kon (.int .i64 2)) G9) S10 <|
  dVal cP 6 (fMove G1) S11 <|
  dVal cP 7 (fInt addI G10 G11) S12 <|
  gd cE 8 yesW (opAt 8 [z] Tryz.f170) <|
  dVal cP 9 (fMove G0) S14 <|
  dVal cP 10 (fNil G14) S15 <|
  dVal cP 11 (fFA 1 G15) S16 <|
  dVal (cL G16) 12 (fLoad1 G16) S17 <|
  dVal cP 13 (fLenL G17) S18 <|
  gd cE 14 yesW (opAt 14 [z] Tryz.f170) <|
  dVal cP 15 (fMove G19) S4 <|
  dEnd [0, 1, 3, 7, 15, 31, 0, 127, 255, 0, 512, 1536, 3584, 7680, 16383, 32767] (oVal (fMove G4) S20 <|
  oVal (fMove G0) S21 <|
  oVal (fNil G21) S22 <|
  oVal (fFA 1 G22) S23 <|
  oVal (fLoad1 G23) S24 <|
  gn yesW (opAt 5 [u, z] Tryz.f170) <|
  (oVal (fMove G0) S26 <|
  oVal (fMove G4) S27 <|
  oVal (fNil G26) S28 <|
  oVal (fFA 1 G28) S29 <|
  oUpd (fSt1 G29 G27) <|
  oEnd)))
def c171 : Op8 := (oVal (fMove (kon (.int .i64 0))) S4 <|
  (thenF (oVal (fMove G0) S6 <|
  oVal (fLenL G6) S7 <|
  oVal (fMove (kon (.int .i64 0))) S8 <|
  (sBlock 0 (sLoop (oVal (fInt ltI G8 G7) S9 <|
  (thenF (sCond G9 oEnd
  (sExit 0))
  (thenF (sBlock 1 (oVal (fMove G8) S10 <|
  oVal (fMove G10) S5 <|
  (oVal (fMove G1) S11 <|
  oVal (fMove G0) S12 <|
  oVal (fMove G5) S13 <|
  oVal (fIAs 1 G12 G13) S14 <|
  oVal (fLoad1 G14) S15 <|
  gn yesW (opAt 5 [u, z, u, z, z, u, u, z, z, u, z] Tryz.f171) <|
  (sCond G16 (oVal (fMove G5) S17 <|
  oVal (fMove G17) S4 <|
  sRet)
  oEnd))))
  (oVal (fInt addI G8 (kon (.int .i64 1))) S18 <|
  oVal (fMove G18) S8 <|
  oEnd)))))))
  (oVal (fMove (kon (.int .i64 (-1)))) S4 <|
  sRet)))
def c172 : Op8 := (oVal (fMove (kon (.bool false))) S4 <|
  (oVal (fMove G0) S5 <|
  oVal (fNil G5) S6 <|
  oVal (fFA 12 G6) S7 <|
  oVal (fLoad1 G7) S8 <|
  oVal (fInt gtI G8 (kon (.int .i64 0))) S9 <|
  oVal (fMove G9) S10 <|
  oGval (wntF G10 true) (fLoad1 G1) S11 <|
  oGval (wntF G10 true) (fNil G11) S12 <|
  oGval (wntF G10 true) (fFA 9 G12) S13 <|
  oGval (wntF G10 true) (fLoad1 G13) S14 <|
  oGval (wntF G10 true) (fMove G0) S15 <|
  oGval (wntF G10 true) (fNil G15) S16 <|
  oGval (wntF G10 true) (fFA 12 G16) S17 <|
  oGval (wntF G10 true) (fLoad1 G17) S18 <|
  oGval (wntF G10 true) (fInt subI G18 (kon (.int .i64 1))) S19 <|
  oGval (wntF G10 true) (fIAs 1 G14 G19) S20 <|
  oGval (wntF G10 true) (fLoad1 G20) S21 <|
  oGval (wntF G10 true) (fLoad1 G2) S22 <|
  oGval (wntF G10 true) (fIntE G21 G22) S23 <|
  oVal (fPick G10 G23 (kon (.bool false))) S24 <|
  oVal (fMove G24) S4 <|
  sRet))
def c173 : Op8 := (oVal (fMove (kon (.bool false))) S2 <|
  (oVal (fMove G0) S3 <|
  oVal (fCnvI .i64 G3) S4 <|
  gn yesW (opAt 2 [u, z] Tryz.f173) <|
  gn yesW (opAt 3 [u, z] Tryz.f173) <|
  gn yesW (opAt 4 [u, z] Tryz.f173) <|
  gn yesW (opAt 5 [u, z] Tryz.f173) <|
  gn yesW (opAt 6 [u, z] Tryz.f173) <|
  oCall 226 (fArgs [G4, G9]) S10 <|
  oVal (fMove G10) S2 <|
  sRet))
def c174 : Op8 := (oVal (fMove (kon (.int .i64 0))) S4 <|
  (oVal (fMove (kon (.int .i64 0))) S5 <|
  (sBlock 0 (sLoop (sBlock 1 (oVal (fMove G0) S8 <|
  oVal (fMove G5) S9 <|
  oVal (fSlS G8 (some G9) none) S10 <|
  oCall 42 (fArgs [G10, (kon (.int .u8 96))]) S11 <|
  oVal (fMove G11) S6 <|
  (thenF (oVal (fMove G6) S12 <|
  oVal (fInt ltI G12 (kon (.int .i64 0))) S13 <|
  (sCond G13 (oVal (fMove (kon (.int .i64 (-1)))) S4 <|
  sRet)
  oEnd))
  (oVal (fMove G5) S14 <|
  oVal (fMove G6) S15 <|
  oVal (fInt addI G14 G15) S16 <|
  oVal (fMove G16) S5 <|
  (oVal (fMove G0) S17 <|
  oVal (fMove G5) S18 <|
  oVal (fSlS G17 (some G18) none) S19 <|
  oCall 68 (fArgs [G19, (kon (.str [96]))]) S20 <|
  oVal (fMove G20) S7 <|
  (thenF (oVal (fMove G7) S21 <|
  oVal (fMove G1) S22 <|
  oVal (fIntE G21 G22) S23 <|
  (sCond G23 (oVal (fMove G5) S24 <|
  oVal (fMove G24) S4 <|
  sRet)
  oEnd))
  (oVal (fMove G5) S25 <|
  oVal (fMove G7) S26 <|
  oVal (fInt addI G25 G26) S27 <|
  oVal (fMove G27) S5 <|
  oEnd)))))))))))
def c175 : Op8 := (oVal (fMove (kon (.str []))) S6 <|
  (oVal (fMove G0) S7 <|
  oVal (fMove G1) S8 <|
  oVal (fMove G2) S9 <|
  oCall 227 (fArgs [G7, G8, G9, (kon (.int .i64 (-1)))]) S10 <|
  oVal (fMove G10) S6 <|
  sRet))
def c176 : Op8 := (oVal (fMove (kon (.bool false))) S4 <|
  (oVal (fMove G0) S5 <|
  oVal (fMove G1) S6 <|
  oCall 228 (fArgs [G5, G6]) S7 <|
  oVal (fMove G7) S4 <|
  sRet))
def c177 : Op8 := (oVal (fMove (kon (.int .i64 0))) S2 <|
  (oVal (fMove G0) S5 <|
  oVal (fSlS G5 (some (kon (.int .i64 1))) none) S6 <|
  oCall 68 (fArgs [G6, (kon (.str [97, 98, 99, 100, 101, 102, 103, 104, 105, 106, 107, 108, 109, 110, 111, 112, 113, 114, 115, 116, 117, 118, 119, 120, 121, 122, 65, 66, 67, 68, 69, 70, 71, 72, 73, 74, 75, 76, 77, 78, 79, 80, 81, 82, 83, 84, 85, 86, 87, 88, 89, 90, 48, 49, 50, 51, 52, 53, 54, 55, 56, 57, 43, 46, 45]))]) S7 <|
  oVal (fMove G7) S3 <|
  (thenF (oVal (fMove G3) S8 <|
  oVal (fInt ltI G8 (kon (.int .i64 2))) S9 <|
  oVal (fMove G9) S10 <|
  oGval (wntF G10 false) (fMove G3) S11 <|
  oGval (wntF G10 false) (fInt gtI G11 (kon (.int .i64 32))) S12 <|
  oVal (fPick G10 (kon (.bool true)) G12) S13 <|
  oVal (fMove G13) S14 <|
  oGval (wntF G14 false) (fMove G0) S15 <|
  oGval (wntF G14 false) (fIxS G15 (kon (.int .i64 1))) S16 <|
  oGcall (wntF G14 false) 42 (fArgs [(kon (.str [97, 98, 99, 100, 101, 102, 103, 104, 105, 106, 107, 108, 109, 110, 111, 112, 113, 114, 115, 116, 117, 118, 119, 120, 121, 122, 65, 66, 67, 68, 69, 70, 71, 72, 73, 74, 75, 76, 77, 78, 79, 80, 81, 82, 83, 84, 85, 86, 87, 88, 89, 90])), G16]) S17 <|
  oGval (wntF G14 false) (fInt ltI G17 (kon (.int .i64 0))) S18 <|
  oVal (fPick G14 (kon (.bool true)) G18) S19 <|
  oVal (fMove G19) S20 <|
  oGval (wntF G20 false) (fMove G0) S21 <|
  oGval (wntF G20 false) (fMove G3) S22 <|
  oGval (wntF G20 false) (fInt addI (kon (.int .i64 1)) G22) S23 <|
  oGval (wntF G20 false) (fSlS G21 (some G23) none) S24 <|
  oGcall (wntF G20 false) 25 (fArgs [G24, (kon (.str [58]))]) S25 <|
  oGval (wntF G20 false) (fNot G25) S26 <|
  oVal (fPick G20 (kon (.bool true)) G26) S27 <|
  (sCond G27 (oVal (fMove (kon (.int .i64 0))) S2 <|
  sRet)
  oEnd))
  (oVal (fMove G0) S28 <|
  oVal (fSlS G28 (some (kon (.int .i64 1))) none) S29 <|
  oCall 229 (fArgs [G29, (kon (.fn (.func 230) [] []))]) S30 <|
  oVal (fMove G30) S4 <|
  (thenF (oVal (fMove G4) S31 <|
  oVal (fInt ltI G31 (kon (.int .i64 0))) S32 <|
  oVal (fMove G32) S33 <|
  oGval (wntF G33 false) (fMove G0) S34 <|
  oGval (wntF G33 false) (fMove G4) S35 <|
  oGval (wntF G33 false) (fInt addI (kon (.int .i64 1)) G35) S36 <|
  oGval (wntF G33 false) (fIxS G34 G36) S37 <|
  oGval (wntF G33 false) (fInt neI G37 (kon (.int .u8 62))) S38 <|
  oVal (fPick G33 (kon (.bool true)) G38) S39 <|
  (sCond G39 (oVal (fMove (kon (.int .i64 0))) S2 <|
  sRet)
  oEnd))
  (oVal (fMove G4) S40 <|
  oVal (fInt addI G40 (kon (.int .i64 2))) S41 <|
  oVal (fMove G41) S2 <|
  sRet))))))
def c178 : Op8 := (oVal (fMove (kon (.int .i64 0))) S2 <|
  (oVal (fMove G0) S11 <|
  oVal (fSlS G11 (some (kon (.int .i64 1))) none) S12 <|
  oCall 38 (fArgs [G12, (kon (.str [64]))]) S13 <|
  oVal (fMove G13) S10 <|
  oVal (fExt 0 G10) S14 <|
  oVal (fExt 1 G10) S15 <|
  oVal (fExt 2 G10) S16 <|
  oVal (fMove G14) S3 <|
  oVal (fMove G15) S4 <|
  oVal (fMove G16) S5 <|
  (thenF (oVal (fMove G5) S17 <|
  oVal (fNot G17) S18 <|
  oVal (fMove G18) S19 <|
  oGval (wntF G19 false) (fMove G3) S20 <|
  gn (wntF G19 false) (opAt 4 [u, u, z, z] Tryz.f178) <|
  oVal (fPick G19 (kon (.bool true)) G21) S22 <|
  oVal (fMove G22) S23 <|
  oGval (wntF G23 false) (fMove G3) S24 <|
  oGcall (wntF G23 false) 123 (fArgs [G24, (kon (.str [97, 98, 99, 100, 101, 102, 103, 104, 105, 106, 107, 108, 109, 110, 111, 112, 113, 114, 115, 116, 117, 118, 119, 120, 121, 122, 65, 66, 67, 68, 69, 70, 71, 72, 73, 74, 75, 76, 77, 78, 79, 80, 81, 82, 83, 84, 85, 86, 87, 88, 89, 90, 48, 49, 50, 51, 52, 53, 54, 55, 56, 57, 46, 43, 95, 45]))]) S25 <|
  oGcall (wntF G23 false) 231 (fArgs [G25, (kon (.str [97, 98, 99, 100, 101, 102, 103, 104, 105, 106, 107, 108, 109, 110, 111, 112, 113, 114, 115, 116, 117, 118, 119, 120, 121, 122, 65, 66, 67, 68, 69, 70, 71, 72, 73, 74, 75, 76, 77, 78, 79, 80, 81, 82, 83, 84, 85, 86, 87, 88, 89, 90, 48, 49, 50, 51, 52, 53, 54, 55, 56, 57, 46, 43, 95, 45]))]) S26 <|
  gn (wntF G23 false) (opAt 10 [u, u, z, z] Tryz.f178) <|
  oVal (fPick G23 (kon (.bool true)) G27) S28 <|
  (sCond G28 (oVal (fMove (kon (.int .i64 0))) S2 <|
  sRet)
  oEnd))
  (oVal (fMove G4) S30 <|
  oCall 38 (fArgs [G30, (kon (.str [62]))]) S31 <|
  oVal (fMove G31) S29 <|
  oVal (fExt 0 G29) S32 <|
  oVal (fExt 1 G29) S33 <|
  oVal (fExt 2 G29) S34 <|
  oVal (fMove G32) S6 <|
  oVal (fMove G33) S7 <|
  oVal (fMove G34) S5 <|
  (thenF (oVal (fMove G5) S35 <|
  oVal (fNot G35) S36 <|
  (sCond G36 (oVal (fMove (kon (.int .i64 0))) S2 <|
  sRet)
  oEnd))
  (thenF (oVal (fMove G6) S37 <|
  oCall 232 (fArgs [G37, (kon (.str [46]))]) S38 <|
  oVal (fLenL G38) S39 <|
  oVal (fMove (kon (.int .i64 0))) S40 <|
  (sBlock 0 (sLoop (oVal (fInt ltI G40 G39) S41 <|
  (thenF (sCond G41 oEnd
  (sExit 0))
  (thenF (sBlock 1 (oVal (fIAs 1 G38 G40) S42 <|
  oVal (fLoad1 G42) S43 <|
  oVal (fMove G43) S9 <|
  (oVal (fMove G9) S44 <|
  gn yesW (opAt 1 [u, u, u, u, u, z, u, z, z, u, u, z, z, u, z] Tryz.f178) <|
  oVal (fMove G45) S46 <|
  oGval (wntF G46 false) (fMove G9) S47 <|
  oGcall (wntF G46 false) 123 (fArgs [G47, (kon (.str [97, 98, 99, 100, 101, 102, 103, 104, 105, 106, 107, 108, 109, 110, 111, 112, 113, 114, 115, 116, 117, 118, 119, 120, 121, 122, 65, 66, 67, 68, 69, 70, 71, 72, 73, 74, 75, 76, 77, 78, 79, 80, 81, 82, 83, 84, 85, 86, 87, 88, 89, 90, 48, 49, 50, 51, 52, 53, 54, 55, 56, 57, 45]))]) S48 <|
  oGcall (wntF G46 false) 231 (fArgs [G48, (kon (.str [97, 98, 99, 100, 101, 102, 103, 104, 105, 106, 107, 108, 109, 110, 111, 112, 113, 114, 115, 116, 117, 118, 119, 120, 121, 122, 65, 66, 67, 68, 69, 70, 71, 72, 73, 74, 75, 76, 77, 78, 79, 80, 81, 82, 83, 84, 85, 86, 87, 88, 89, 90, 48, 49, 50, 51, 52, 53, 54, 55, 56, 57, 45]))]) S49 <|
  gn (wntF G46 false) (opAt 6 [u, u, u, u, u, z, u, z, z, u, u, z, z, u, z] Tryz.f178) <|
  oVal (fPick G46 (kon (.bool true)) G50) S51 <|
  (sCond G51 (oVal (fMove (kon (.int .i64 0))) S2 <|
  sRet)
  oEnd))))
  (oVal (fInt addI G40 (kon (.int .i64 1))) S52 <|
  oVal (fMove G52) S40 <|
  oEnd)))))))
  (oVal (fMove G3) S53 <|
  oVal (fLenS G53) S54 <|
  oVal (fInt addI (kon (.int .i64 1)) G54) S55 <|
  oVal (fInt addI G55 (kon (.int .i64 1))) S56 <|
  oVal (fMove G6) S57 <|
  oVal (fLenS G57) S58 <|
  oVal (fInt addI G56 G58) S59 <|
  oVal (fInt addI G59 (kon (.int .i64 1))) S60 <|
  oVal (fMove G60) S2 <|
  sRet)))))))
def c179 : Op8 := (oVal (fMove (kon (.int .i64 0))) S2 <|
  (thenF (gn yesW (opAt 0 [u, z, z] Tryz.f179) <|
  oVal (fLenL G7) S8 <|
  oVal (fMove (kon (.int .i64 0))) S9 <|
  (sBlock 0 (sLoop (oVal (fInt ltI G9 G8) S10 <|
  (thenF (sCond G10 oEnd
  (sExit 0))
  (thenF (sBlock 1 (oVal (fIAs 1 G7 G9) S11 <|
  oVal (fLoad1 G11) S12 <|
  oVal (fMove G12) S4 <|
  (oVal (fMove G0) S13 <|
  oVal (fMove G4) S14 <|
  oCall 25 (fArgs [G13, G14]) S15 <|
  (sCond G15 (oVal (fMove G4) S16 <|
  oVal (fLenS G16) S17 <|
  oVal (fMove G17) S2 <|
  sRet)
  oEnd))))
  (oVal (fInt addI G9 (kon (.int .i64 1))) S18 <|
  oVal (fMove G18) S9 <|
  oEnd)))))))
  (thenF (gn yesW (opAt 0 [u, u, z, z] Tryz.f179) <|
  gn yesW (opAt 1 [u, u, z, z] Tryz.f179) <|
  gn yesW (opAt 2 [u, u, z, z] Tryz.f179) <|
  gn yesW (opAt 3 [u, u, z, z] Tryz.f179) <|
  oVal (fLenL G22) S23 <|
  oVal (fMove (kon (.int .i64 0))) S24 <|
  (sBlock 2 (sLoop (oVal (fInt ltI G24 G23) S25 <|
  (thenF (sCond G25 oEnd
  (sExit 2))
  (thenF (sBlock 3 (oVal (fIAs 2 G22 G24) S26 <|
  oVal (fLoadN 2 G26) S27 <|
  gn yesW (opAt 2 [u, u, z, u, z, z, u, u, z, z, z] Tryz.f179) <|
  oUpd (fSt tb 286 G6 G27) <|
  (oVal (fMove G0) S28 <|
  oVal (fIAa 2 1 G6 (kon (.int .i64 0))) S29 <|
  oVal (fLoad1 G29) S30 <|
  oCall 25 (fArgs [G28, G30]) S31 <|
  (sCond G31 (oVal (fMove G0) S32 <|
  oVal (fIAa 2 1 G6 (kon (.int .i64 0))) S33 <|
  oVal (fLoad1 G33) S34 <|
  oVal (fIAa 2 1 G6 (kon (.int .i64 1))) S35 <|
  oVal (fLoad1 G35) S36 <|
  oCall 233 (fArgs [G32, G34, G36]) S37 <|
  oVal (fMove G37) S2 <|
  sRet)
  oEnd))))
  (oVal (fInt addI G24 (kon (.int .i64 1))) S38 <|
  oVal (fMove G38) S24 <|
  oEnd)))))))
  (thenF (oVal (fMove G0) S39 <|
  oCall 211 (fArgs [G39]) S40 <|
  (sCond G40 (oVal (fMove G0) S41 <|
  oVal (fMove G0) S42 <|
  oVal (fSlS G42 none (some (kon (.int .i64 3)))) S43 <|
  oCall 233 (fArgs [G41, G43, (kon (.str [62]))]) S44 <|
  oVal (fMove G44) S2 <|
  sRet)
  oEnd))
  (oVal (fMove G0) S45 <|
  oCall 213 (fArgs [G45]) S46 <|
  oVal (fMove G46) S2 <|
  sRet)))))
def c180 : Op8 := (oVal (fMove (kon (.str []))) S4 <|
  oVal (fMove (kon (.int .i64 0))) S5 <|
  (thenF (oVal (fMove G1) S14 <|
  oVal (fInt ltI G14 (kon (.int .i64 0))) S15 <|
  oVal (fMove G15) S16 <|
  oGval (wntF G16 false) (fMove G1) S17 <|
  oGval (wntF G16 false) (fMove G0) S18 <|
  oGval (wntF G16 false) (fLenS G18) S19 <|
  oGval (wntF G16 false) (fInt geI G17 G19) S20 <|
  oVal (fPick G16 (kon (.bool true)) G20) S21 <|
  (sCond G21 (oVal (fMove (kon (.str []))) S4 <|
  oVal (fMove (kon (.int .i64 0))) S5 <|
  sRet)
  oEnd))
  (oVal (fMove G0) S23 <|
  oVal (fMove G1) S24 <|
  oVal (fSlS G23 (some G24) none) S25 <|
  oCall 206 (fArgs [G25, (kon (.str [38]))]) S26 <|
  oVal (fMove G26) S22 <|
  oVal (fExt 0 G22) S27 <|
  oVal (fExt 1 G22) S28 <|
  oVal (fMove G27) S6 <|
  oVal (fMove G28) S7 <|
  (thenF (oVal (fMove G7) S29 <|
  oVal (fNot G29) S30 <|
  (sCond G30 (oVal (fMove (kon (.str []))) S4 <|
  oVal (fMove (kon (.int .i64 0))) S5 <|
  sRet)
  oEnd))
  (thenF (oVal (fMove G6) S32 <|
  oCall 206 (fArgs [G32, (kon (.str [35]))]) S33 <|
  oVal (fMove G33) S31 <|
  oVal (fExt 0 G31) S34 <|
  oVal (fExt 1 G31) S35 <|
  oVal (fMove G34) S8 <|
  oVal (fMove G35) S9 <|
  (oVal (fMove G9) S36 <|
  (sCond G36 (oVal (fMove G8) S38 <|
  oCall 234 (fArgs [G38]) S39 <|
  oVal (fMove G39) S37 <|
  oVal (fExt 0 G37) S40 <|
  oVal (fExt 1 G37) S41 <|
  oVal (fMove G40) S10 <|
  oVal (fMove G41) S11 <|
  (thenF (oVal (fMove G11) S42 <|
  oVal (fIntE G42 (kon (.int .i64 0))) S43 <|
  (sCond G43 (oVal (fMove (kon (.str []))) S4 <|
  oVal (fMove (kon (.int .i64 0))) S5 <|
  sRet)
  oEnd))
  (oVal (fMove G10) S44 <|
  oVal (fMove G11) S45 <|
  oVal (fInt addI G45 (kon (.int .i64 2))) S46 <|
  oVal (fMove G44) S4 <|
  oVal (fMove G46) S5 <|
  sRet)))
  oEnd)))
  (oVal (fMove G6) S47 <|
  oCall 235 (fArgs [G47, (kon (.str [97, 98, 99, 100, 101, 102, 103, 104, 105, 106, 107, 108, 109, 110, 111, 112, 113, 114, 115, 116, 117, 118, 119, 120, 121, 122, 65, 66, 67, 68, 69, 70, 71, 72, 73, 74, 75, 76, 77, 78, 79, 80, 81, 82, 83, 84, 85, 86, 87, 88, 89, 90, 48, 49, 50, 51, 52, 53, 54, 55, 56, 57])), (kon (.int .i64 8))]) S48 <|
  oVal (fMove G48) S12 <|
  (oVal (fMove G12) S50 <|
  oCall 236 (fArgs [G50]) S51 <|
  oVal (fMove G51) S49 <|
  oVal (fExt 0 G49) S52 <|
  oVal (fExt 1 G49) S53 <|
  oVal (fMove G52) S13 <|
  oVal (fMove G53) S7 <|
  (thenF (oVal (fMove G7) S54 <|
  oVal (fNot G54) S55 <|
  oVal (fMove G55) S56 <|
  oGval (wntF G56 false) (fMove G6) S57 <|
  oGval (wntF G56 false) (fMove G12) S58 <|
  oGval (wntF G56 false) (fLenS G58) S59 <|
  oGval (wntF G56 false) (fSlS G57 (some G59) none) S60 <|
  oGcall (wntF G56 false) 25 (fArgs [G60, (kon (.str [59]))]) S61 <|
  oGval (wntF G56 false) (fNot G61) S62 <|
  oVal (fPick G56 (kon (.bool true)) G62) S63 <|
  (sCond G63 (oVal (fMove (kon (.str []))) S4 <|
  oVal (fMove (kon (.int .i64 0))) S5 <|
  sRet)
  oEnd))
  (oVal (fMove G13) S64 <|
  oCall 237 (fArgs [G64]) S65 <|
  oVal (fMove G12) S66 <|
  oVal (fLenS G66) S67 <|
  oVal (fInt addI G67 (kon (.int .i64 2))) S68 <|
  oVal (fMove G65) S4 <|
  oVal (fMove G68) S5 <|
  sRet)))))))))
def c181 : Op8 := (gn yesW (opAt 0 [z] Tryz.f181) <|
  oVal (fMove (kon (.bool false))) S5 <|
  (thenF (oVal (fMove G1) S14 <|
  oVal (fInt ltI G14 (kon (.int .i64 0))) S15 <|
  oVal (fMove G15) S16 <|
  oGval (wntF G16 false) (fMove G1) S17 <|
  oGval (wntF G16 false) (fMove G0) S18 <|
  oGval (wntF G16 false) (fLenS G18) S19 <|
  oGval (wntF G16 false) (fInt geI G17 G19) S20 <|
  oVal (fPick G16 (kon (.bool true)) G20) S21 <|
  oVal (fMove G21) S22 <|
  oGval (wntF G22 false) (fMove G0) S23 <|
  oGval (wntF G22 false) (fMove G1) S24 <|
  oGval (wntF G22 false) (fIxS G23 G24) S25 <|
  oGval (wntF G22 false) (fInt neI G25 (kon (.int .u8 42))) S26 <|
  oGval (wntF G22 false) (fMove G26) S27 <|
  oGval (wntF G27 true) (fMove G0) S28 <|
  oGval (wntF G27 true) (fMove G1) S29 <|
  oGval (wntF G27 true) (fIxS G28 G29) S30 <|
  oGval (wntF G27 true) (fInt neI G30 (kon (.int .u8 95))) S31 <|
  oGval (wntF G22 false) (fPick G27 G31 (kon (.bool false))) S32 <|
  oVal (fPick G22 (kon (.bool true)) G32) S33 <|
  (sCond G33 (gn yesW (opAt 0 [u, z, u, z, z] Tryz.f181) <|
  oUpd (fSt tb 150 G4 G34) <|
  oVal (fMove (kon (.bool false))) S5 <|
  sRet)
  oEnd))
  (oVal (fMove G0) S35 <|
  oVal (fMove G1) S36 <|
  oVal (fIxS G35 G36) S37 <|
  oVal (fMove G37) S6 <|
  (sDraw <| dVal cP 0 (fMove G0) S38 <|
  dVal cP 1 (fMove G1) S39 <|
  dVal cP 2 (fSlS G38 (some G39) none) S40 <|
  dVal cP 3 (fLenS G40) S41 <|
  dVal cP 4 (fMove G0) S42 <|
  dVal cP 5 (fMove G1) S43 <|
  dVal cP 6 (fSlS G42 (some G43) none) S44 <|
  dVal cP 7 (fMove G6) S45 <|
  dVal cP 8 (fCnvI .i32 G45) S46 <|
  gd cP 9 yesW (opAt 9 [u, u, u, z] Tryz.f181) <|
  dCall cE 10 238 (fArgs [G44, G47]) S48 <|
  dVal cP 11 (fLenS G48) S49 <|
  dVal cP 12 (fInt subI G41 G49) S50 <|
  dVal cP 13 (fMove G50) S7 <|
  dEnd [0, 0, 3, 7, 0, 0, 48, 0, 128, 384, 1008, 2032, 4095, 8191] (oVal (fMove G0) S52 <|
  oVal (fMove G1) S53 <|
  oVal (fMove G7) S54 <|
  oVal (fInt addI G53 G54) S55 <|
  oCall 37 (fArgs [G52, G55]) S56 <|
  oVal (fMove G56) S51 <|
  oVal (fExt 0 G51) S57 <|
  oVal (fExt 1 G51) S58 <|
  oVal (fMove G57) S8 <|
  oVal (fMove G58) S9 <|
  (oVal (fMove G0) S59 <|
  oVal (fMove G1) S60 <|
  oCall 240 (fArgs [G59, G60]) S61 <|
  oVal (fMove G1) S62 <|
  oVal (fInt gtI G62 (kon (.int .i64 0))) S63 <|
  oCall 239 (fArgs [G61, G63]) S64 <|
  oVal (fMove G8) S65 <|
  oVal (fMove G9) S66 <|
  oVal (fInt gtI G66 (kon (.int .i64 0))) S67 <|
  oCall 239 (fArgs [G65, G67]) S68 <|
  gn yesW (opAt 10 [u, u, u, u, u, z] Tryz.f181) <|
  gn yesW (opAt 11 [u, u, u, u, u, z] Tryz.f181) <|
  oUpd (fSt tb 292 G10 G64) <|
  oUpd (fSt tb 292 G11 G68) <|
  (sDraw <| dVal (cL G11) 0 (fLoadN 2 G11) S69 <|
  dVal (cL G10) 1 (fLoadN 2 G10) S70 <|
  dCall cE 2 241 (fArgs [G69, G70]) S71 <|
  dVal (cL G10) 3 (fLoadN 2 G10) S72 <|
  dVal (cL G11) 4 (fLoadN 2 G11) S73 <|
  dCall cE 5 241 (fArgs [G72, G73]) S74 <|
  dVal cP 6 (fMove G71) S12 <|
  dVal cP 7 (fMove G74) S13 <|
  dEnd [0, 0, 3, 0, 0, 31, 63, 127] (thenF (oVal (fMove G6) S75 <|
  oVal (fIntE G75 (kon (.int .u8 95))) S76 <|
  (sCond G76 (oVal (fMove G12) S77 <|
  oVal (fMove G77) S78 <|
  oGval (wntF G78 true) (fMove G13) S79 <|
  oGval (wntF G78 true) (fNot G79) S80 <|
  oGval (wntF G78 true) (fMove G80) S81 <|
  oGval (wntF G81 false) (fFA 1 G10) S82 <|
  oGval (wntF G81 false) (fLoad1 G82) S83 <|
  oGval (wntF G78 true) (fPick G81 (kon (.bool true)) G83) S84 <|
  oVal (fPick G78 G84 (kon (.bool false))) S85 <|
  oVal (fMove G13) S86 <|
  oVal (fMove G86) S87 <|
  oGval (wntF G87 true) (fMove G12) S88 <|
  oGval (wntF G87 true) (fNot G88) S89 <|
  oGval (wntF G87 true) (fMove G89) S90 <|
  oGval (wntF G90 false) (fFA 1 G11) S91 <|
  oGval (wntF G90 false) (fLoad1 G91) S92 <|
  oGval (wntF G87 true) (fPick G90 (kon (.bool true)) G92) S93 <|
  oVal (fPick G87 G93 (kon (.bool false))) S94 <|
  oVal (fMove G85) S12 <|
  oVal (fMove G94) S13 <|
  oEnd)
  oEnd))
  (oVal (fMove G6) S95 <|
  oVal (fMove G7) S96 <|
  oVal (fMove G12) S97 <|
  oVal (fMove G13) S98 <|
  gn yesW (opAt 4 [u, u, u, u, u, u, u, u, z] Tryz.f181) <|
  oUpd (fSt tb 150 G4 G99) <|
  oVal (fMove (kon (.bool true))) S5 <|
  sRet)))))))))
def c182 : Op8 := (gn yesW (opAt 0 [z] Tryz.f182) <|
  oVal (fMove (kon (.bool false))) S5 <|
  (oVal (fMove G0) S15 <|
  oVal (fNil G15) S16 <|
  oVal (fFA 1 G16) S17 <|
  oVal (fLoad1 G17) S18 <|
  oVal (fInt addI G18 (kon (.int .i64 1))) S19 <|
  oVal (fMove G19) S6 <|
  (thenF (oVal (fMove G0) S21 <|
  oVal (fMove G6) S22 <|
  oCall 242 (fArgs [G21, G22]) S23 <|
  oVal (fMove G23) S20 <|
  oVal (fExt 0 G20) S24 <|
  oVal (fExt 1 G20) S25 <|
  gn yesW (opAt 6 [u, u, z, z] Tryz.f182) <|
  oUpd (fSt tb 238 G7 G24) <|
  oVal (fMove G25) S8 <|
  (oVal (fMove G8) S26 <|
  (sCond G26 (oVal (fLoadN 4 G7) S27 <|
  oUpd (fSt tb 238 G4 G27) <|
  oVal (fMove (kon (.bool true))) S5 <|
  sRet)
  oEnd)))
  (oVal (fMove G0) S29 <|
  oVal (fNil G29) S30 <|
  oVal (fFA 0 G30) S31 <|
  oVal (fLoad1 G31) S32 <|
  oVal (fMove G6) S33 <|
  oCall 161 (fArgs [G32, G33]) S34 <|
  oVal (fMove G34) S28 <|
  oVal (fExt 0 G28) S35 <|
  oVal (fExt 1 G28) S36 <|
  oVal (fMove G35) S9 <|
  oVal (fMove G36) S10 <|
  (oVal (fMove G6) S37 <|
  oVal (fMove G10) S38 <|
  oVal (fInt addI G37 G38) S39 <|
  oVal (fMove G39) S6 <|
  (thenF (oVal (fMove G10) S40 <|
  oVal (fIntE G40 (kon (.int .i64 0))) S41 <|
  (sCond G41 (oVal (fMove G0) S43 <|
  oVal (fNil G43) S44 <|
  oVal (fFA 0 G44) S45 <|
  oVal (fLoad1 G45) S46 <|
  oVal (fMove G1) S47 <|
  oCall 161 (fArgs [G46, G47]) S48 <|
  oVal (fMove G48) S42 <|
  oVal (fExt 0 G42) S49 <|
  oVal (fExt 1 G42) S50 <|
  oVal (fMove G49) S11 <|
  oVal (fMove G50) S12 <|
  (thenF (oVal (fMove G12) S51 <|
  oVal (fMove G0) S52 <|
  oVal (fNil G52) S53 <|
  oVal (fFA 1 G53) S54 <|
  oVal (fLoad1 G54) S55 <|
  oVal (fInt addI G55 (kon (.int .i64 1))) S56 <|
  oVal (fMove G1) S57 <|
  oVal (fInt subI G56 G57) S58 <|
  oVal (fInt neI G51 G58) S59 <|
  (sCond G59 (gn yesW (opAt 0 [u, u, u, u, u, z, u, z, u, z, u, z, z] Tryz.f182) <|
  oUpd (fSt tb 238 G4 G60) <|
  oVal (fMove (kon (.bool false))) S5 <|
  sRet)
  oEnd))
  (oVal (fMove G11) S61 <|
  oVal (fMove G61) S9 <|
  (oVal (fMove G0) S62 <|
  oVal (fNil G62) S63 <|
  oVal (fFA 0 G63) S64 <|
  oVal (fLoad1 G64) S65 <|
  oVal (fMove G6) S66 <|
  oVal (fSlS G65 (some G66) none) S67 <|
  oCall 25 (fArgs [G67, (kon (.str [91, 93]))]) S68 <|
  (sCond G68 (oVal (fMove G6) S69 <|
  oVal (fInt addI G69 (kon (.int .i64 2))) S70 <|
  oVal (fMove G70) S6 <|
  oEnd)
  oEnd)))))
  oEnd))
  (sDraw <| dVal cP 0 (fMove G0) S72 <|
  dVal cP 1 (fNil G72) S73 <|
  dVal cP 2 (fFA 2 G73) S74 <|
  dVal (cL G74) 3 (fLoad1 G74) S75 <|
  dVal cP 4 (fMove G9) S76 <|
  dCall cE 5 164 (fArgs [G76]) S77 <|
  gd (cM G75) 6 yesW (opAt 6 [u, u, u, u, u, u, z] Tryz.f182) <|
  dVal cP 7 (fMove G78) S71 <|
  dVal cP 8 (fExt 0 G71) S79 <|
  dVal cP 9 (fExt 1 G71) S80 <|
  gd cN 10 yesW (opAt 10 [u, u, u, u, u, u, z] Tryz.f182) <|
  dUpd cE 11 (fSt tb 145 G13 G79) <|
  dVal cP 12 (fMove G80) S14 <|
  dEnd [0, 1, 3, 7, 0, 16, 63, 127, 255, 255, 0, 1535, 4095] (oVal (fFA 1 G13) S81 <|
  oVal (fLoad1 G81) S82 <|
  oVal (fFA 2 G13) S83 <|
  oVal (fLoad1 G83) S84 <|
  oVal (fMove G6) S85 <|
  gn yesW (opAt 5 [u, u, u, u, u, u, u, z] Tryz.f182) <|
  oVal (fMove G14) S87 <|
  oUpd (fSt tb 238 G4 G86) <|
  oVal (fMove G87) S5 <|
  sRet))))))))
def c183 : Op8 := (oVal (fLoad1 G1) S4 <|
  oVal (fLenL G4) S5 <|
  oVal (fInt subI G5 (kon (.int .i64 1))) S6 <|
  oVal (fMove G6) S3 <|
  (sBlock 0 (sLoop (thenF (oVal (fMove G3) S7 <|
  oVal (fInt geI G7 (kon (.int .i64 0))) S8 <|
  (sCond G8 oEnd
  (sExit 0)))
  (thenF (sBlock 1 (oVal (fMove G0) S11 <|
  oVal (fMove G3) S12 <|
  oVal (fLoad1 G1) S13 <|
  oVal (fMove G3) S14 <|
  oVal (fIAs 1 G13 G14) S15 <|
  oVal (fLoad1 G15) S16 <|
  gn yesW (opAt 6 [u, z, z, u, z, z, z] Tryz.f183) <|
  oVal (fNot G17) S18 <|
  (sCond G18 sRet
  oEnd)))
  (oVal (fMove G3) S9 <|
  oVal (fInt subI G9 (kon (.int .i64 1))) S10 <|
  oVal (fMove G10) S3 <|
  oEnd))))))
def c184 : Op8 := (oVal (fMove (kon .nils)) S2 <|
  oVal (fMove (kon .nils)) S3 <|
  (gn yesW (opAt 0 [u, z] Tryz.f184) <|
  gn yesW (opAt 1 [u, z] Tryz.f184) <|
  gn yesW (opAt 2 [u, z] Tryz.f184) <|
  oVal (fMove G11) S4 <|
  (oVal (fMove (kon .nils)) S5 <|
  (thenF (oVal (fMove G0) S12 <|
  oVal (fLenL G12) S13 <|
  oVal (fMove (kon (.int .i64 0))) S14 <|
  (sBlock 0 (sLoop (oVal (fInt ltI G14 G13) S15 <|
  (thenF (sCond G15 oEnd
  (sExit 0))
  (thenF (sBlock 1 (oVal (fMove G14) S16 <|
  oVal (fIAs 4 G12 G14) S17 <|
  oVal (fLoadN 4 G17) S18 <|
  gn yesW (opAt 3 [u, u, u, z, u, z, z, u, u, z, z, z] Tryz.f184) <|
  oVal (fMove G16) S6 <|
  oUpd (fSt tb 150 G7 G18) <|
  (oVal (fLoadN 4 G7) S19 <|
  oVal (fFA 1 G7) S20 <|
  oVal (fLoad1 G20) S21 <|
  oVal (fMove G6) S22 <|
  gn yesW (opAt 4 [u, u, u, z, u, z, z, u, u, z, z, u, z] Tryz.f184) <|
  gn yesW (opAt 5 [u, u, u, z, u, z, z, u, u, z, z, u, z] Tryz.f184) <|
  oVal (fMove G24) S8 <|
  (thenF (oVal (fFA 1 G7) S25 <|
  oVal (fLoad1 G25) S26 <|
  oVal (fInt ltI G26 (kon (.int .i64 1))) S27 <|
  oVal (fMove G27) S28 <|
  oGval (wntF G28 false) (fFA 1 G7) S29 <|
  oGval (wntF G28 false) (fLoad1 G29) S30 <|
  oGval (wntF G28 false) (fInt gtI G30 (kon (.int .i64 1048576))) S31 <|
  oVal (fPick G28 (kon (.bool true)) G31) S32 <|
  (sCond G32 (oVal (fMove G8) S33 <|
  oVal (fNil G33) S34 <|
  oVal (fFA 4 G34) S35 <|
  oUpd (fSt1 G35 (kon (.int .i64 0))) <|
  oEnd)
  oEnd))
  (oVal (fMove G5) S36 <|
  oVal (fMove G8) S37 <|
  gn yesW (opAt 2 [u, u, u, z, u, z, z, u, u, z, z, u, u, u, z] Tryz.f184) <|
  gn yesW (opAt 3 [u, u, u, z, u, z, z, u, u, z, z, u, u, u, z] Tryz.f184) <|
  oVal (fMove G39) S5 <|
  (thenF (oVal (fFA 3 G7) S40 <|
  oVal (fLoad1 G40) S41 <|
  (sCond G41 (oVal (fMove G4) S42 <|
  oVal (fMove G8) S43 <|
  oCall 243 (fArgs [G42, G43]) S44 <|
  oEnd)
  oEnd))
  (oVal (fFA 2 G7) S45 <|
  oVal (fLoad1 G45) S46 <|
  oVal (fMove G46) S47 <|
  oGval (wntF G47 true) (fMove G8) S48 <|
  oGval (wntF G47 true) (fNil G48) S49 <|
  oGval (wntF G47 true) (fFA 4 G49) S50 <|
  oGval (wntF G47 true) (fLoad1 G50) S51 <|
  oGval (wntF G47 true) (fInt gtI G51 (kon (.int .i64 0))) S52 <|
  oVal (fPick G47 G52 (kon (.bool false))) S53 <|
  (sCond G53 (oVal (fMove G4) S54 <|
  oVal (fMove G4) S55 <|
  oVal (fNil G55) S56 <|
  oVal (fFA 0 G56) S57 <|
  oVal (fLoad1 G57) S58 <|
  oVal (fMove G8) S59 <|
  gn yesW (opAt 6 [u, u, u, z, u, z, z, u, u, z, z, u, u, u, u, u, u, z] Tryz.f184) <|
  gn yesW (opAt 7 [u, u, u, z, u, z, z, u, u, z, z, u, u, u, u, u, u, z] Tryz.f184) <|
  oVal (fNil G54) S62 <|
  oVal (fFA 0 G62) S63 <|
  oUpd (fSt1 G63 G61) <|
  oEnd)
  oEnd))))))))
  (oVal (fInt addI G14 (kon (.int .i64 1))) S64 <|
  oVal (fMove G64) S14 <|
  oEnd)))))))
  (oVal (fMove G4) S65 <|
  oVal (fNil G65) S66 <|
  oVal (fFA 2 G66) S67 <|
  oVal (fLoad1 G67) S68 <|
  oVal (fMove G5) S69 <|
  oVal (fMove G68) S2 <|
  oVal (fMove G69) S3 <|
  sRet)))))
def c185 : Op8 := (oVal (fMove (kon .nils)) S2 <|
  (oVal (fMove G0) S3 <|
  oCall 244 (fArgs [(kon .nils), G3]) S4 <|
  oVal (fMove G4) S2 <|
  sRet))
def c186 : Op8 := (oVal (fLoad1 G1) S5 <|
  oVal (fLenL G5) S6 <|
  oVal (fMove (kon (.int .i64 0))) S7 <|
  (sBlock 0 (sLoop (oVal (fInt ltI G7 G6) S8 <|
  (thenF (sCond G8 oEnd
  (sExit 0))
  (thenF (sBlock 1 (oVal (fIAs 1 G5 G7) S9 <|
  oVal (fLoad1 G9) S10 <|
  oVal (fMove G10) S4 <|
  (oVal (fMove G0) S11 <|
  oVal (fMove G4) S12 <|
  oVal (fNil G12) S13 <|
  oVal (fFA 4 G13) S14 <|
  oVal (fLoad1 G14) S15 <|
  gn yesW (opAt 5 [u, z, z, u, u, z, z, u, z] Tryz.f186) <|
  oVal (fNot G16) S17 <|
  (sCond G17 sRet
  oEnd))))
  (oVal (fInt addI G7 (kon (.int .i64 1))) S18 <|
  oVal (fMove G18) S7 <|
  oEnd)))))))
def c187 : Op8 := (oVal (fMove (kon .nilp)) S2 <|
  (oVal (fMove G0) S3 <|
  oVal (fNil G3) S4 <|
  oVal (fFA 0 G4) S5 <|
  oVal (fLoad1 G5) S6 <|
  oVal (fMove G0) S7 <|
  oVal (fNil G7) S8 <|
  oVal (fFA 0 G8) S9 <|
  oVal (fLoad1 G9) S10 <|
  oVal (fLenL G10) S11 <|
  oVal (fInt subI G11 (kon (.int .i64 1))) S12 <|
  oVal (fIAs 1 G6 G12) S13 <|
  oVal (fLoad1 G13) S14 <|
  oVal (fMove G14) S2 <|
  sRet))
def c188 : Op8 := (gn yesW (opAt 0 [z] Tryz.f188) <|
  oVal (fMove (kon .nilf)) S2 <|
  (gn yesW (opAt 0 [u, z] Tryz.f188) <|
  oVal (fMove G3) S2 <|
  sRet))
def c189 : Op8 := (oVal (fMove (kon (.int .u32 0))) S2 <|
  oVal (fMove (kon (.int .u32 0))) S3 <|
  (oVal (fMove (kon (.int .u32 0))) S4 <|
  (thenF (oVal (fMove (kon (.int .i64 0))) S5 <|
  (sBlock 0 (sLoop (thenF (oVal (fMove G5) S9 <|
  oVal (fMove G0) S10 <|
  oVal (fLenS G10) S11 <|
  oVal (fInt ltI G9 G11) S12 <|
  (sCond G12 oEnd
  (sExit 0)))
  (thenF (sBlock 1 (oVal (fMove G4) S15 <|
  oVal (fInt mulI G15 (kon (.int .u32 16777619))) S16 <|
  oVal (fMove G0) S17 <|
  oVal (fMove G5) S18 <|
  oVal (fIxS G17 G18) S19 <|
  oVal (fCnvI .u32 G19) S20 <|
  oVal (fInt addI G16 G20) S21 <|
  oVal (fMove G21) S4 <|
  oEnd))
  (oVal (fMove G5) S13 <|
  oVal (fInt addI G13 (kon (.int .i64 1))) S14 <|
  oVal (fMove G14) S5 <|
  oEnd))))))
  (oVal (fMove (kon (.int .u32 1))) S6 <|
  oVal (fMove (kon (.int .u32 16777619))) S7 <|
  (thenF (oVal (fMove G0) S22 <|
  oVal (fLenS G22) S23 <|
  oVal (fMove G23) S8 <|
  (sBlock 2 (sLoop (thenF (oVal (fMove G8) S24 <|
  oVal (fInt gtI G24 (kon (.int .i64 0))) S25 <|
  (sCond G25 oEnd
  (sExit 2)))
  (thenF (sBlock 3 (thenF (oVal (fMove G8) S28 <|
  gn yesW (opAt 1 [u, u, u, u, z, u, z, z, u, z, z, z, z] Tryz.f189) <|
  oVal (fInt neI G29 (kon (.int .i64 0))) S30 <|
  (sCond G30 (oVal (fMove G6) S31 <|
  oVal (fMove G7) S32 <|
  oVal (fInt mulI G31 G32) S33 <|
  oVal (fMove G33) S6 <|
  oEnd)
  oEnd))
  (oVal (fMove G7) S34 <|
  oVal (fMove G7) S35 <|
  oVal (fInt mulI G34 G35) S36 <|
  oVal (fMove G36) S7 <|
  oEnd)))
  (oVal (fMove G8) S26 <|
  gn yesW (opAt 1 [u, u, u, u, z, u, z, z, u, u] Tryz.f189) <|
  oVal (fMove G27) S8 <|
  oEnd))))))
  (oVal (fMove G4) S37 <|
  oVal (fMove G6) S38 <|
  oVal (fMove G37) S2 <|
  oVal (fMove G38) S3 <|
  sRet))))))
def c190 : Op8 := (oVal (fMove (kon (.int .i64 0))) S4 <|
  (thenF (oVal (fMove G0) S6 <|
  oVal (fLenL G6) S7 <|
  oVal (fMove (kon (.int .i64 0))) S8 <|
  (sBlock 0 (sLoop (oVal (fInt ltI G8 G7) S9 <|
  (thenF (sCond G9 oEnd
  (sExit 0))
  (thenF (sBlock 1 (oVal (fMove G8) S10 <|
  oVal (fMove G10) S5 <|
  (oVal (fMove G1) S11 <|
  oVal (fMove G0) S12 <|
  oVal (fMove G5) S13 <|
  oVal (fIAs 4 G12 G13) S14 <|
  oVal (fLoadN 4 G14) S15 <|
  gn yesW (opAt 5 [u, z, u, z, z, u, u, z, z, u, z] Tryz.f190) <|
  (sCond G16 (oVal (fMove G5) S17 <|
  oVal (fMove G17) S4 <|
  sRet)
  oEnd))))
  (oVal (fInt addI G8 (kon (.int .i64 1))) S18 <|
  oVal (fMove G18) S8 <|
  oEnd)))))))
  (oVal (fMove (kon (.int .i64 (-1)))) S4 <|
  sRet)))
def c191 : Op8 := (gn yesW (opAt 0 [z] Tryz.f191) <|
  oVal (fMove (kon (.bool false))) S3 <|
  (oVal (fFA 0 G2) S4 <|
  oVal (fLoad1 G4) S5 <|
  oVal (fLoad1 G1) S6 <|
  oCall 147 (fArgs [G5, G6]) S7 <|
  oVal (fMove G7) S8 <|
  oGval (wntF G8 false) (fFA 1 G2) S9 <|
  oGval (wntF G8 false) (fLoad1 G9) S10 <|
  oGval (wntF G8 false) (fLoad1 G1) S11 <|
  oGcall (wntF G8 false) 147 (fArgs [G10, G11]) S12 <|
  oVal (fPick G8 (kon (.bool true)) G12) S13 <|
  oVal (fMove G13) S3 <|
  sRet))
def c192 : Op8 := (oVal (fMove (kon (.int .i64 0))) S4 <|
  (thenF (oVal (fMove G0) S6 <|
  oVal (fLenL G6) S7 <|
  oVal (fMove (kon (.int .i64 0))) S8 <|
  (sBlock 0 (sLoop (oVal (fInt ltI G8 G7) S9 <|
  (thenF (sCond G9 oEnd
  (sExit 0))
  (thenF (sBlock 1 (oVal (fMove G8) S10 <|
  oVal (fMove G10) S5 <|
  (oVal (fMove G1) S11 <|
  oVal (fMove G0) S12 <|
  oVal (fMove G5) S13 <|
  oVal (fIAs 1 G12 G13) S14 <|
  oVal (fLoad1 G14) S15 <|
  gn yesW (opAt 5 [u, z, u, z, z, u, u, z, z, u, z] Tryz.f192) <|
  (sCond G16 (oVal (fMove G5) S17 <|
  oVal (fMove G17) S4 <|
  sRet)
  oEnd))))
  (oVal (fInt addI G8 (kon (.int .i64 1))) S18 <|
  oVal (fMove G18) S8 <|
  oEnd)))))))
  (oVal (fMove (kon (.int .i64 (-1)))) S4 <|
  sRet)))
def c193 : Op8 := (oVal (fMove (kon (.str []))) S2 <|
  (oVal (fMove G0) S3 <|
  oCall 199 (fArgs [(kon (.fn (.func 246) [] [])), G3]) S4 <|
  oVal (fMove G4) S2 <|
  sRet))
def c194 : Op8 := (oVal (fMove (kon (.str []))) S4 <|
  (thenF (oVal (fMove G0) S7 <|
  gn yesW (opAt 1 [u, z, z] Tryz.f194) <|
  oVal (fMove G8) S9 <|
  oGval (wntF G9 false) (fMove G1) S10 <|
  gn (wntF G9 false) (opAt 4 [u, z, z] Tryz.f194) <|
  oVal (fPick G9 (kon (.bool true)) G11) S12 <|
  (sCond G12 (oVal (fMove G0) S13 <|
  oVal (fMove G13) S4 <|
  sRet)
  oEnd))
  (thenF (oVal (fMove G1) S14 <|
  oVal (fLenS G14) S15 <|
  oVal (fIntE G15 (kon (.int .i64 1))) S16 <|
  oVal (fMove G16) S17 <|
  oGval (wntF G17 true) (fMove G1) S18 <|
  oGval (wntF G17 true) (fIxS G18 (kon (.int .i64 0))) S19 <|
  oGval (wntF G17 true) (fInt ltI G19 (kon (.int .u8 128))) S20 <|
  oVal (fPick G17 G20 (kon (.bool false))) S21 <|
  (sCond G21 (oVal (fMove G0) S22 <|
  oVal (fMove G1) S23 <|
  oVal (fIxS G23 (kon (.int .i64 0))) S24 <|
  oCall 107 (fArgs [G22, G24]) S25 <|
  oVal (fMove G25) S4 <|
  sRet)
  oEnd))
  (thenF (oVal (fMove G1) S27 <|
  oCall 47 (fArgs [G27]) S28 <|
  oVal (fMove G28) S26 <|
  oVal (fExt 0 G26) S29 <|
  oVal (fExt 1 G26) S30 <|
  gn yesW (opAt 5 [u, u, u, z, z] Tryz.f194) <|
  oUpd (fSt tb 114 G5 G29) <|
  oVal (fMove G30) S6 <|
  (oVal (fMove G6) S31 <|
  (sCond G31 (oVal (fMove G0) S32 <|
  oCall 109 (fArgs [G32, G5]) S33 <|
  oVal (fMove G33) S4 <|
  sRet)
  oEnd)))
  (oVal (fMove G0) S34 <|
  oVal (fMove G1) S35 <|
  oCall 111 (fArgs [G34, G35]) S36 <|
  oVal (fMove G36) S4 <|
  sRet)))))
def c195 : Op8 := (oVal (fMove (kon (.int .i64 0))) S4 <|
  (oVal (fMove G1) S7 <|
  oCall 196 (fArgs [G7]) S8 <|
  oVal (fMove G8) S1 <|
  (oVal (fMove G1) S9 <|
  oVal (fMove G9) S5 <|
  (thenF (oVal (fMove G0) S10 <|
  oVal (fLenS G10) S11 <|
  oVal (fMove (kon (.int .i64 0))) S12 <|
  (sBlock 0 (sLoop (oVal (fInt ltI G12 G11) S13 <|
  (thenF (sCond G13 oEnd
  (sExit 0))
  (thenF (sBlock 1 (oVal (fMove G12) S14 <|
  oVal (fMove G14) S6 <|
  (oVal (fMove G0) S15 <|
  oVal (fMove G6) S16 <|
  oVal (fIxS G15 G16) S17 <|
  oVal (fMove G5) S18 <|
  oCall 197 (fArgs [G17, G18]) S19 <|
  oVal (fMove G19) S5 <|
  oEnd)))
  (oVal (fInt addI G12 (kon (.int .i64 1))) S20 <|
  oVal (fMove G20) S12 <|
  oEnd)))))))
  (oVal (fMove G5) S21 <|
  oVal (fMove G1) S22 <|
  oVal (fInt subI G21 G22) S23 <|
  oVal (fMove G23) S4 <|
  sRet)))))
def c196 : Op8 := (oVal (fMove (kon (.int .i64 0))) S2 <|
  (oVal (fMove G0) S3 <|
  gn yesW (opAt 1 [u, z] Tryz.f196) <|
  gn yesW (opAt 2 [u, z] Tryz.f196) <|
  oVal (fMove G5) S2 <|
  sRet))
def c197 : Op8 := (oVal (fMove (kon (.int .i64 0))) S4 <|
  (thenF (oVal (fMove G0) S5 <|
  oVal (fIntE G5 (kon (.int .u8 9))) S6 <|
  (sCond G6 (oVal (fMove G1) S7 <|
  gn yesW (opAt 1 [u, z, u, z, z] Tryz.f197) <|
  oVal (fInt mulI G8 (kon (.int .i64 4))) S9 <|
  oVal (fInt addI G9 (kon (.int .i64 4))) S10 <|
  oVal (fMove G10) S4 <|
  sRet)
  oEnd))
  (oVal (fMove G1) S11 <|
  oVal (fInt addI G11 (kon (.int .i64 1))) S12 <|
  oVal (fMove G12) S4 <|
  sRet)))
def c198 : Op8 := (oVal (fMove (kon (.bool false))) S2 <|
  (oVal (fMove G0) S3 <|
  oCall 61 (fArgs [G3, (kon (.str [32, 9]))]) S4 <|
  gn yesW (opAt 2 [u, z] Tryz.f198) <|
  oVal (fMove G5) S2 <|
  sRet))
def c199 : Op8 := (oVal (fMove (kon (.str []))) S4 <|
  (gn yesW (opAt 0 [u, z] Tryz.f199) <|
  (thenF (oVal (fMove G1) S13 <|
  gn yesW (opAt 1 [u, u, z, z] Tryz.f199) <|
  (sBlock 0 (sLoop (gn yesW (opAt 0 [u, u, z, u, z, z, z] Tryz.f199) <|
  oVal (fExt 0 G15) S16 <|
  (thenF (sCond G16 oEnd
  (sExit 0))
  (sBlock 1 (oVal (fExt 1 G15) S17 <|
  oVal (fExt 2 G15) S18 <|
  oVal (fMove G17) S6 <|
  oVal (fMove G18) S7 <|
  (oVal (fMove G0) S19 <|
  oVal (fMove G7) S20 <|
  gn yesW (opAt 2 [u, u, z, u, z, z, u, u, z, u, z] Tryz.f199) <|
  oVal (fMove G21) S8 <|
  (thenF (oVal (fMove G8) S22 <|
  oVal (fMove G7) S23 <|
  oVal (fIntE G22 G23) S24 <|
  oVal (fMove G24) S25 <|
  oGval (wntF G25 true) (fMove G7) S26 <|
  oGval (wntF G25 true) (fInt neI G26 (kon (.int .i32 65533))) S27 <|
  oVal (fPick G25 G27 (kon (.bool false))) S28 <|
  (sCond G28 (sExit 1)
  oEnd))
  (oVal (fMove (kon (.int .i64 0))) S9 <|
  (thenF (oVal (fMove G7) S29 <|
  oVal (fIntE G29 (kon (.int .i32 65533))) S30 <|
  (sCond G30 (oVal (fMove G1) S32 <|
  oVal (fMove G6) S33 <|
  oVal (fSlS G32 (some G33) none) S34 <|
  oCall 74 (fArgs [G34]) S35 <|
  oVal (fMove G35) S31 <|
  oVal (fExt 0 G31) S36 <|
  oVal (fExt 1 G31) S37 <|
  oVal (fMove G36) S7 <|
  oVal (fMove G37) S9 <|
  (oVal (fMove G9) S38 <|
  oVal (fInt neI G38 (kon (.int .i64 1))) S39 <|
  oVal (fMove G39) S40 <|
  oGval (wntF G40 true) (fMove G8) S41 <|
  oGval (wntF G40 true) (fMove G7) S42 <|
  oGval (wntF G40 true) (fIntE G41 G42) S43 <|
  oVal (fPick G40 G43 (kon (.bool false))) S44 <|
  (sCond G44 (sExit 1)
  oEnd)))
  (oVal (fMove G7) S45 <|
  oCall 247 (fArgs [G45]) S46 <|
  oVal (fMove G46) S9 <|
  oEnd)))
  (oVal (fMove G1) S47 <|
  oVal (fLenS G47) S48 <|
  oVal (fInt addI G48 (kon (.int .i64 4))) S49 <|
  oCall 113 (fArgs [G5, G49]) S50 <|
  (oVal (fMove G1) S51 <|
  oVal (fMove G6) S52 <|
  oVal (fSlS G51 none (some G52)) S53 <|
  oCall 114 (fArgs [G5, G53]) S54 <|
  (thenF (oVal (fMove G8) S55 <|
  oVal (fInt geI G55 (kon (.int .i32 0))) S56 <|
  (sCond G56 (oVal (fMove G8) S57 <|
  oCall 248 (fArgs [G5, G57]) S58 <|
  oEnd)
  oEnd))
  (oVal (fMove G1) S59 <|
  oVal (fMove G6) S60 <|
  oVal (fMove G9) S61 <|
  oVal (fInt addI G60 G61) S62 <|
  oVal (fSlS G59 (some G62) none) S63 <|
  oVal (fMove G63) S1 <|
  (sExit 0))))))))))))))))
  (thenF (oCall 249 (fArgs [G5]) S64 <|
  oVal (fIntE G64 (kon (.int .i64 0))) S65 <|
  (sCond G65 (oVal (fMove G1) S66 <|
  oVal (fMove G66) S4 <|
  sRet)
  oEnd))
  (thenF (oVal (fMove G1) S67 <|
  gn yesW (opAt 1 [u, u, u, u, z, z] Tryz.f199) <|
  (sBlock 2 (sLoop (gn yesW (opAt 0 [u, u, u, u, z, u, z, z, z] Tryz.f199) <|
  oVal (fExt 0 G69) S70 <|
  (thenF (sCond G70 oEnd
  (sExit 2))
  (sBlock 3 (oVal (fExt 2 G69) S71 <|
  oVal (fMove G71) S11 <|
  (oVal (fMove G0) S72 <|
  oVal (fMove G11) S73 <|
  gn yesW (opAt 2 [u, u, u, u, z, u, z, z, u, u, z, u, z] Tryz.f199) <|
  oVal (fMove G74) S12 <|
  (oVal (fMove G12) S75 <|
  oVal (fInt geI G75 (kon (.int .i32 0))) S76 <|
  (sCond G76 (oVal (fMove G12) S77 <|
  oVal (fInt ltI G77 (kon (.int .i32 128))) S78 <|
  (sCond G78 (oVal (fMove G12) S79 <|
  oVal (fCnvI .u8 G79) S80 <|
  oCall 205 (fArgs [G5, G80]) S81 <|
  oEnd)
  (oVal (fMove G12) S82 <|
  oCall 248 (fArgs [G5, G82]) S83 <|
  oEnd)))
  oEnd))))))))))
  (oCall 115 (fArgs [G5]) S84 <|
  oVal (fMove G84) S4 <|
  sRet))))))
def c200 : Op8 := (oVal (fMove (kon (.int .i32 0))) S2 <|
  (thenF (oVal (fMove G0) S3 <|
  oVal (fInt leI (kon (.int .i32 65)) G3) S4 <|
  oVal (fMove G4) S5 <|
  oGval (wntF G5 true) (fMove G0) S6 <|
  oGval (wntF G5 true) (fInt leI G6 (kon (.int .i32 90))) S7 <|
  oVal (fPick G5 G7 (kon (.bool false))) S8 <|
  (sCond G8 (oVal (fMove G0) S9 <|
  oVal (fInt addI G9 (kon (.int .i32 97))) S10 <|
  oVal (fInt subI G10 (kon (.int .i32 65))) S11 <|
  oVal (fMove G11) S2 <|
  sRet)
  oEnd))
  (oVal (fMove G0) S12 <|
  oVal (fMove G12) S2 <|
  sRet)))
def c201 : Op8 := (oVal (fMove (kon (.int .u64 0))) S4 <|
  oVal (fMove (kon (.int .u64 0))) S5 <|
  (thenF (sCond (kon (.bool false)) (oVal (fMove G0) S11 <|
  oVal (fCnvI .u32 G11) S12 <|
  oVal (fMove G1) S13 <|
  oVal (fCnvI .u32 G13) S14 <|
  oCall 250 (fArgs [G12, G14]) S15 <|
  oVal (fMove G15) S10 <|
  oVal (fExt 0 G10) S16 <|
  oVal (fExt 1 G10) S17 <|
  oVal (fMove G16) S6 <|
  oVal (fMove G17) S7 <|
  (oVal (fMove G6) S18 <|
  oVal (fCnvI .u64 G18) S19 <|
  oVal (fMove G7) S20 <|
  oVal (fCnvI .u64 G20) S21 <|
  oVal (fMove G19) S4 <|
  oVal (fMove G21) S5 <|
  sRet))
  oEnd)
  (oVal (fMove G0) S23 <|
  oVal (fMove G1) S24 <|
  oCall 251 (fArgs [G23, G24]) S25 <|
  oVal (fMove G25) S22 <|
  oVal (fExt 0 G22) S26 <|
  oVal (fExt 1 G22) S27 <|
  oVal (fMove G26) S8 <|
  oVal (fMove G27) S9 <|
  (oVal (fMove G8) S28 <|
  oVal (fMove G9) S29 <|
  oVal (fMove G28) S4 <|
  oVal (fMove G29) S5 <|
  sRet))))
def c202 : Op8 := (oVal (fMove (kon (.int .i64 0))) S2 <|
  (oVal (fMove G0) S3 <|
  oVal (fNil G3) S4 <|
  oVal (fFA 1 G4) S5 <|
  oVal (fLoad1 G5) S6 <|
  oVal (fLenL G6) S7 <|
  oVal (fMove G7) S2 <|
  sRet))
def c203 : Op8 := (oVal (fMove (kon (.int .i64 0))) S4 <|
  (oVal (fMove G0) S5 <|
  oVal (fLenS G5) S6 <|
  oVal (fMove G0) S7 <|
  oVal (fMove G1) S8 <|
  oCall 215 (fArgs [G7, G8]) S9 <|
  oVal (fLenS G9) S10 <|
  oVal (fInt subI G6 G10) S11 <|
  oVal (fMove G11) S4 <|
  sRet))
def c204 : Op8 := (oVal (fMove (kon (.bool false))) S2 <|
  (oVal (fMove G0) S3 <|
  gn yesW (opAt 1 [u, z] Tryz.f204) <|
  oVal (fMove G4) S5 <|
  oGval (wntF G5 false) (fMove G0) S6 <|
  oGcall (wntF G5 false) 203 (fArgs [G6, (kon (.str [32, 9]))]) S7 <|
  oGval (wntF G5 false) (fInt gtI G7 (kon (.int .i64 0))) S8 <|
  oVal (fPick G5 (kon (.bool true)) G8) S9 <|
  oVal (fMove G9) S2 <|
  sRet))
def c205 : Op8 := (oVal (fMove (kon .nili)) S4 <|
  (oVal (fMove G0) S5 <|
  oCall 169 (fArgs [G5]) S6 <|
  (oVal (fMove G0) S7 <|
  oVal (fMove G0) S8 <|
  oVal (fNil G8) S9 <|
  oVal (fFA 1 G9) S10 <|
  oVal (fLoad1 G10) S11 <|
  oVal (fMove G1) S12 <|
  gn yesW (opAt 6 [u, u, z] Tryz.f205) <|
  gn yesW (opAt 7 [u, u, z] Tryz.f205) <|
  oVal (fNil G7) S15 <|
  oVal (fFA 1 G15) S16 <|
  oUpd (fSt1 G16 G14) <|
  (oVal (fMove (kon .nili)) S4 <|
  sRet))))
def c206 : Op8 := (oVal (fMove (kon (.str []))) S4 <|
  oVal (fMove (kon (.bool false))) S5 <|
  (oVal (fMove G0) S6 <|
  oVal (fMove G1) S7 <|
  oCall 252 (fArgs [G6, G7]) S8 <|
  oVal (fExt 0 G8) S9 <|
  oVal (fExt 1 G8) S10 <|
  oVal (fMove G9) S4 <|
  oVal (fMove G10) S5 <|
  sRet))
def c207 : Op8 := (oVal (fMove (kon (.str []))) S2 <|
  oVal (fMove (kon (.str []))) S3 <|
  (oVal (fMove G0) S6 <|
  gn yesW (opAt 1 [u, z] Tryz.f207) <|
  gn yesW (opAt 2 [u, z] Tryz.f207) <|
  oVal (fMove G8) S4 <|
  (oVal (fMove G4) S9 <|
  oCall 253 (fArgs [G9, (kon (.str [97, 98, 99, 100, 101, 102, 103, 104, 105, 106, 107, 108, 109, 110, 111, 112, 113, 114, 115, 116, 117, 118, 119, 120, 121, 122, 65, 66, 67, 68, 69, 70, 71, 72, 73, 74, 75, 76, 77, 78, 79, 80, 81, 82, 83, 84, 85, 86, 87, 88, 89, 90, 48, 49, 50, 51, 52, 53, 54, 55, 56, 57]))]) S10 <|
  oVal (fMove G10) S5 <|
  (oVal (fMove G5) S11 <|
  oVal (fMove G4) S12 <|
  oVal (fNil G12) S13 <|
  oVal (fFA 0 G13) S14 <|
  oVal (fLoad1 G14) S15 <|
  oVal (fMove G11) S2 <|
  oVal (fMove G15) S3 <|
  sRet))))
def c208 : Op8 := (oVal (fMove (kon (.bool false))) S2 <|
  (thenF (gn yesW (opAt 0 [u, z, z] Tryz.f208) <|
  oVal (fLenL G5) S6 <|
  oVal (fMove (kon (.int .i64 0))) S7 <|
  (sBlock 0 (sLoop (oVal (fInt ltI G7 G6) S8 <|
  (thenF (sCond G8 oEnd
  (sExit 0))
  (thenF (sBlock 1 (oVal (fIAs 1 G5 G7) S9 <|
  oVal (fLoad1 G9) S10 <|
  oVal (fMove G10) S4 <|
  (oVal (fMove G4) S11 <|
  oVal (fMove G0) S12 <|
  oCall 254 (fArgs [G11, G12]) S13 <|
  oVal (fMove G13) S14 <|
  oGval (wntF G14 true) (fMove G4) S15 <|
  oGval (wntF G14 true) (fLenS G15) S16 <|
  oGval (wntF G14 true) (fMove G0) S17 <|
  oGval (wntF G14 true) (fLenS G17) S18 <|
  oGval (wntF G14 true) (fIntE G16 G18) S19 <|
  oVal (fPick G14 G19 (kon (.bool false))) S20 <|
  (sCond G20 (oVal (fMove (kon (.bool true))) S2 <|
  sRet)
  oEnd))))
  (oVal (fInt addI G7 (kon (.int .i64 1))) S21 <|
  oVal (fMove G21) S7 <|
  oEnd)))))))
  (oVal (fMove (kon (.bool false))) S2 <|
  sRet)))
def c209 : Op8 := (oVal (fMove (kon (.bool false))) S4 <|
  (thenF (oVal (fMove G1) S7 <|
  gn yesW (opAt 1 [u, z, z] Tryz.f209) <|
  gn yesW (opAt 2 [u, z, z] Tryz.f209) <|
  oVal (fLenL G9) S10 <|
  oVal (fMove (kon (.int .i64 0))) S11 <|
  (sBlock 0 (sLoop (oVal (fInt ltI G11 G10) S12 <|
  (thenF (sCond G12 oEnd
  (sExit 0))
  (thenF (sBlock 1 (oVal (fIAs 1 G9 G11) S13 <|
  oVal (fLoad1 G13) S14 <|
  oVal (fMove G14) S6 <|
  (oVal (fMove G0) S15 <|
  oVal (fMove G6) S16 <|
  oCall 25 (fArgs [G15, G16]) S17 <|
  (sCond G17 (oVal (fMove (kon (.bool true))) S4 <|
  sRet)
  oEnd))))
  (oVal (fInt addI G11 (kon (.int .i64 1))) S18 <|
  oVal (fMove G18) S11 <|
  oEnd)))))))
  (oVal (fMove G0) S19 <|
  gn yesW (opAt 1 [u, u, z] Tryz.f209) <|
  oVal (fMove G20) S4 <|
  sRet)))
def c210 : Op8 := (oVal (fMove (kon (.str []))) S4 <|
  (oVal (fMove G0) S5 <|
  oVal (fMove G1) S6 <|
  oCall 255 (fArgs [G5, G6]) S7 <|
  oVal (fMove G7) S4 <|
  sRet))
def c211 : Op8 := (oVal (fMove (kon (.bool false))) S2 <|
  (oVal (fMove G0) S3 <|
  oVal (fLenS G3) S4 <|
  oVal (fInt gtI G4 (kon (.int .i64 2))) S5 <|
  oVal (fMove G5) S6 <|
  oGval (wntF G6 true) (fMove G0) S7 <|
  oGcall (wntF G6 true) 25 (fArgs [G7, (kon (.str [60, 33]))]) S8 <|
  oVal (fPick G6 G8 (kon (.bool false))) S9 <|
  oVal (fMove G9) S10 <|
  oGval (wntF G10 true) (fMove G0) S11 <|
  oGval (wntF G10 true) (fIxS G11 (kon (.int .i64 2))) S12 <|
  oGcall (wntF G10 true) 42 (fArgs [(kon (.str [97, 98, 99, 100, 101, 102, 103, 104, 105, 106, 107, 108, 109, 110, 111, 112, 113, 114, 115, 116, 117, 118, 119, 120, 121, 122, 65, 66, 67, 68, 69, 70, 71, 72, 73, 74, 75, 76, 77, 78, 79, 80, 81, 82, 83, 84, 85, 86, 87, 88, 89, 90])), G12]) S13 <|
  oGval (wntF G10 true) (fInt geI G13 (kon (.int .i64 0))) S14 <|
  oVal (fPick G10 G14 (kon (.bool false))) S15 <|
  oVal (fMove G15) S2 <|
  sRet))
def c212 : Op8 := (oVal (fMove (kon (.bool false))) S2 <|
  (oVal (fMove (kon (.fn (.func 256) [] []))) S3 <|
  (oVal (fMove G0) S4 <|
  gn yesW (opAt 1 [u, u, z] Tryz.f212) <|
  oVal (fMove G5) S6 <|
  oGval (wntF G6 true) (fMove G0) S7 <|
  oGcall (wntF G6 true) 20 (fArgs [G7, (kon (.str [32]))]) S8 <|
  oGval (wntF G6 true) (fNot G8) S9 <|
  oVal (fPick G6 G9 (kon (.bool false))) S10 <|
  oVal (fMove G10) S11 <|
  oGval (wntF G11 true) (fMove G3) S12 <|
  oGval (wntF G11 true) (fMove G0) S13 <|
  oGcall (wntF G11 true) 199 (fArgs [G12, G13]) S14 <|
  gn (wntF G11 true) (opAt 11 [u, u, z] Tryz.f212) <|
  gn (wntF G11 true) (opAt 12 [u, u, z] Tryz.f212) <|
  oGcall (wntF G11 true) 20 (fArgs [(kon (.str [32, 97, 100, 100, 114, 101, 115, 115, 32, 97, 114, 116, 105, 99, 108, 101, 32, 97, 115, 105, 100, 101, 32, 98, 108, 111, 99, 107, 113, 117, 111, 116, 101, 32, 98, 111, 100, 121, 32, 99, 101, 110, 116, 101, 114, 32, 99, 111, 108, 32, 100, 100, 32, 100, 101, 116, 97, 105, 108, 115, 32, 100, 105, 97, 108, 111, 103, 32, 100, 105, 114, 32, 100, 105, 118, 32, 100, 108, 32, 100, 116, 32, 102, 105, 101, 108, 100, 115, 101, 116, 32, 102, 105, 103, 117, 114, 101, 32, 102, 111, 111, 116, 101, 114, 32, 102, 111, 114, 109, 32, 102, 114, 97, 109, 101, 32, 104, 49, 32, 104, 50, 32, 104, 51, 32, 104, 52, 32, 104, 53, 32, 104, 54, 32, 104, 101, 97, 100, 32, 104, 101, 97, 100, 101, 114, 32, 104, 114, 32, 104, 116, 109, 108, 32, 105, 102, 114, 97, 109, 101, 32, 108, 101, 103, 101, 110, 100, 32, 108, 105, 32, 108, 105, 110, 107, 32, 109, 97, 105, 110, 32, 109, 101, 110, 117, 32, 110, 97, 118, 32, 111, 108, 32, 111, 112, 116, 105, 111, 110, 32, 112, 32, 112, 97, 114, 97, 109, 32, 115, 101, 99, 116, 105, 111, 110, 32, 115, 117, 109, 109, 97, 114, 121, 32, 116, 97, 98, 108, 101, 32, 116, 98, 111, 100, 121, 32, 116, 100, 32, 116, 102, 111, 111, 116, 32, 116, 104, 32, 116, 104, 101, 97, 100, 32, 116, 105, 116, 108, 101, 32, 116, 114, 32, 116, 114, 97, 99, 107, 32, 117, 108, 32])), G16]) S17 <|
  oVal (fPick G11 G17 (kon (.bool false))) S18 <|
  oVal (fMove G18) S2 <|
  sRet)))
def c213 : Op8 := (gn yesW (opAt 0 [z] Tryz.f213) <|
  (gn yesW (opAt 0 [u, z] Tryz.f213) <|
  gn yesW (opAt 1 [u, z] Tryz.f213) <|
  (oVal (fMove G0) S5 <|
  gn yesW (opAt 1 [u, u, z] Tryz.f213) <|
  gn yesW (opAt 2 [u, u, z] Tryz.f213) <|
  oVal (fMove G7) S3 <|
  (oVal (fMove G3) S8 <|
  oCall 258 (fArgs [G8]) S9 <|
  (oVal (fMove G0) S10 <|
  oVal (fLenS G10) S11 <|
  oVal (fMove G3) S12 <|
  oVal (fNil G12) S13 <|
  oVal (fFA 0 G13) S14 <|
  oVal (fLoad1 G14) S15 <|
  oVal (fLenS G15) S16 <|
  oVal (fInt subI G11 G16) S17 <|
  oUpd (fSt1 G2 G17) <|
  sRet)))))
def c214 : Op8 := (oVal (fMove (kon (.str []))) S4 <|
  (thenF (sBlock 0 (sLoop (thenF (oVal (fMove G0) S10 <|
  oVal (fLenS G10) S11 <|
  oVal (fInt gtI G11 (kon (.int .i64 0))) S12 <|
  (sCond G12 oEnd
  (sExit 0)))
  (sBlock 1 (oVal (fMove G0) S14 <|
  oCall 168 (fArgs [G14]) S15 <|
  oVal (fMove G15) S13 <|
  oVal (fExt 0 G13) S16 <|
  oVal (fExt 1 G13) S17 <|
  oVal (fMove G16) S5 <|
  oVal (fMove G17) S6 <|
  (oVal (fMove (kon (.bool false))) S7 <|
  (thenF (oVal (fMove G1) S18 <|
  gn yesW (opAt 1 [u, z, z, z, u, z, u, u, z, z] Tryz.f214) <|
  (sBlock 2 (sLoop (gn yesW (opAt 0 [u, z, z, z, u, z, u, u, z, u, z, z, z] Tryz.f214) <|
  oVal (fExt 0 G20) S21 <|
  (thenF (sCond G21 oEnd
  (sExit 2))
  (sBlock 3 (oVal (fExt 2 G20) S22 <|
  oVal (fMove G22) S9 <|
  (oVal (fMove G7) S23 <|
  oVal (fMove G23) S24 <|
  oGval (wntF G24 false) (fMove G5) S25 <|
  oGval (wntF G24 false) (fMove G9) S26 <|
  oGval (wntF G24 false) (fIntE G25 G26) S27 <|
  oVal (fPick G24 (kon (.bool true)) G27) S28 <|
  oVal (fMove G28) S7 <|
  oEnd))))))))
  (thenF (oVal (fMove G7) S29 <|
  oVal (fNot G29) S30 <|
  (sCond G30 (oVal (fMove G0) S31 <|
  oVal (fMove G31) S4 <|
  sRet)
  oEnd))
  (oVal (fMove G0) S32 <|
  oVal (fMove G0) S33 <|
  oVal (fLenS G33) S34 <|
  oVal (fMove G6) S35 <|
  oVal (fInt subI G34 G35) S36 <|
  oVal (fSlS G32 none (some G36)) S37 <|
  oVal (fMove G37) S0 <|
  oEnd)))))))))
  (oVal (fMove G0) S38 <|
  oVal (fMove G38) S4 <|
  sRet)))
def c215 : Op8 := (oVal (fMove (kon (.str []))) S4 <|
  (thenF (oVal (fMove G0) S10 <|
  gn yesW (opAt 1 [u, z, z] Tryz.f215) <|
  (sBlock 0 (sLoop (gn yesW (opAt 0 [u, z, u, z, z, z] Tryz.f215) <|
  oVal (fExt 0 G12) S13 <|
  (thenF (sCond G13 oEnd
  (sExit 0))
  (sBlock 1 (oVal (fExt 1 G12) S14 <|
  oVal (fExt 2 G12) S15 <|
  oVal (fMove G14) S5 <|
  oVal (fMove G15) S6 <|
  (oVal (fMove (kon (.bool false))) S7 <|
  (thenF (oVal (fMove G1) S16 <|
  gn yesW (opAt 1 [u, z, u, z, z, u, u, z, u, u, z, z] Tryz.f215) <|
  (sBlock 2 (sLoop (gn yesW (opAt 0 [u, z, u, z, z, u, u, z, u, u, z, u, z, z, z] Tryz.f215) <|
  oVal (fExt 0 G18) S19 <|
  (thenF (sCond G19 oEnd
  (sExit 2))
  (sBlock 3 (oVal (fExt 2 G18) S20 <|
  oVal (fMove G20) S9 <|
  (oVal (fMove G7) S21 <|
  oVal (fMove G21) S22 <|
  oGval (wntF G22 false) (fMove G6) S23 <|
  oGval (wntF G22 false) (fMove G9) S24 <|
  oGval (wntF G22 false) (fIntE G23 G24) S25 <|
  oVal (fPick G22 (kon (.bool true)) G25) S26 <|
  oVal (fMove G26) S7 <|
  oEnd))))))))
  (oVal (fMove G7) S27 <|
  oVal (fNot G27) S28 <|
  (sCond G28 (oVal (fMove G0) S29 <|
  oVal (fMove G5) S30 <|
  oVal (fSlS G29 (some G30) none) S31 <|
  oVal (fMove G31) S4 <|
  sRet)
  oEnd)))))))))))
  (oVal (fMove (kon (.str []))) S4 <|
  sRet)))
def c216 : Op8 := (oVal (fMove (kon (.int .i64 0))) S2 <|
  oVal (fMove (kon .nili)) S3 <|
  (oVal (fMove G0) S7 <|
  oCall 259 (fArgs [G7]) S8 <|
  oVal (fMove G8) S6 <|
  oVal (fExt 0 G6) S9 <|
  oVal (fExt 1 G6) S10 <|
  oVal (fMove G9) S4 <|
  oVal (fMove G10) S5 <|
  (thenF (oVal (fMove G5) S11 <|
  gn yesW (opAt 1 [u, u, z, z] Tryz.f216) <|
  (sCond G12 (oVal (fMove G4) S13 <|
  oVal (fMove G0) S14 <|
  oVal (fMove G5) S15 <|
  oCall 260 (fArgs [(kon (.str [65, 116, 111, 105])), G14, (kon (.int .i64 0)), (kon (.int .i64 0)), G15]) S16 <|
  oVal (fMove G13) S2 <|
  oVal (fMove G16) S3 <|
  sRet)
  oEnd))
  (oVal (fMove G4) S17 <|
  oVal (fMove G17) S2 <|
  oVal (fMove (kon .nili)) S3 <|
  sRet))))
def c217 : Op8 := (oVal (fMove (kon (.str []))) S4 <|
  (thenF (oVal (fMove G1) S5 <|
  oVal (fInt ltI G5 (kon (.int .i64 0))) S6 <|
  oVal (fMove G6) S7 <|
  oGval (wntF G7 false) (fMove G1) S8 <|
  oGval (wntF G7 false) (fMove G0) S9 <|
  oGval (wntF G7 false) (fLenS G9) S10 <|
  oGval (wntF G7 false) (fInt geI G8 G10) S11 <|
  oVal (fPick G7 (kon (.bool true)) G11) S12 <|
  (sCond G12 (oVal (fMove (kon (.str []))) S4 <|
  sRet)
  oEnd))
  (oVal (fMove G0) S13 <|
  oVal (fMove G1) S14 <|
  oVal (fSlS G13 (some G14) none) S15 <|
  oVal (fMove G15) S4 <|
  sRet)))
def c218 : Op8 := (oVal (fMove (kon (.int .i64 0))) S6 <|
  (thenF (sBlock 0 (sLoop (thenF (oVal (fMove G1) S7 <|
  oVal (fMove G0) S8 <|
  oVal (fLenS G8) S9 <|
  oVal (fInt ltI G7 G9) S10 <|
  (sCond G10 oEnd
  (sExit 0)))
  (sBlock 1 (thenF (oVal (fMove G2) S11 <|
  oVal (fMove G0) S12 <|
  oVal (fMove G1) S13 <|
  oVal (fIxS G12 G13) S14 <|
  oCall 42 (fArgs [G11, G14]) S15 <|
  oVal (fInt geI G15 (kon (.int .i64 0))) S16 <|
  (sCond G16 (oVal (fMove G1) S17 <|
  oVal (fMove G17) S6 <|
  sRet)
  oEnd))
  (oVal (fMove G1) S18 <|
  oVal (fMove G0) S19 <|
  oVal (fMove G1) S20 <|
  oCall 261 (fArgs [G19, G20]) S21 <|
  oVal (fInt addI G18 G21) S22 <|
  oVal (fMove G22) S1 <|
  oEnd))))))
  (oVal (fMove (kon (.int .i64 (-1)))) S6 <|
  sRet)))
def c219 : Op8 := (oVal (fMove (kon (.int .i64 0))) S2 <|
  sBad)
def c220 : Op8 := (oVal (fMove (kon (.bool false))) S2 <|
  (oVal (fMove G0) S3 <|
  gn yesW (opAt 1 [u, z] Tryz.f220) <|
  gn yesW (opAt 2 [u, z] Tryz.f220) <|
  gn yesW (opAt 3 [u, z] Tryz.f220) <|
  gn yesW (opAt 4 [u, z] Tryz.f220) <|
  gn yesW (opAt 5 [u, z] Tryz.f220) <|
  gn yesW (opAt 6 [u, z] Tryz.f220) <|
  gn yesW (opAt 7 [u, z] Tryz.f220) <|
  gn yesW (opAt 8 [u, z] Tryz.f220) <|
  gn yesW (opAt 9 [u, z] Tryz.f220) <|
  gn yesW (opAt 10 [u, z] Tryz.f220) <|
  oCall 226 (fArgs [G3, G13]) S14 <|
  oVal (fMove G14) S2 <|
  sRet))
def c221 : Op8 := (oVal (fMove (kon (.str []))) S2 <|
  (thenF (sBlock 0 (oVal (fMove G0) S4 <|
  oVal (fIntE G4 (kon (.int .i64 215))) S5 <|
  oVal (fMove G5) S6 <|
  oGval (wntF G6 false) (fMove G0) S7 <|
  oGval (wntF G6 false) (fIntE G7 (kon (.int .i64 930))) S8 <|
  oVal (fPick G6 (kon (.bool true)) G8) S9 <|
  oVal (fMove G9) S3 <|
  (sCond G3 oEnd
  (oVal (fMove G0) S11 <|
  gn yesW (opAt 1 [u, z, z, u, u, z] Tryz.f221) <|
  gn yesW (opAt 2 [u, z, z, u, u, z] Tryz.f221) <|
  gn yesW (opAt 3 [u, z, z, u, u, z] Tryz.f221) <|
  gn yesW (opAt 4 [u, z, z, u, u, z] Tryz.f221) <|
  gn yesW (opAt 5 [u, z, z, u, u, z] Tryz.f221) <|
  oCall 226 (fArgs [G11, G16]) S17 <|
  oVal (fMove G17) S10 <|
  (sCond G10 (oVal (fMove G0) S18 <|
  oVal (fInt addI G18 (kon (.int .i64 32))) S19 <|
  oVal (fMove G19) S0 <|
  oEnd)
  (oVal (fMove G0) S21 <|
  gn yesW (opAt 1 [u, z, z, u, u, u, u, z] Tryz.f221) <|
  gn yesW (opAt 2 [u, z, z, u, u, u, u, z] Tryz.f221) <|
  oCall 226 (fArgs [G21, G23]) S24 <|
  oVal (fMove G24) S20 <|
  (sCond G20 (oVal (fMove G0) S25 <|
  oVal (fInt addI G25 (kon (.int .i64 80))) S26 <|
  oVal (fMove G26) S0 <|
  oEnd)
  (oVal (fMove G0) S28 <|
  oVal (fIntE G28 (kon (.int .i64 223))) S29 <|
  oVal (fMove G29) S30 <|
  oGval (wntF G30 false) (fMove G0) S31 <|
  oGval (wntF G30 false) (fIntE G31 (kon (.int .i64 7838))) S32 <|
  oVal (fPick G30 (kon (.bool true)) G32) S33 <|
  oVal (fMove G33) S27 <|
  (sCond G27 (oVal (fMove (kon (.str [115, 115]))) S2 <|
  sRet)
  oEnd)))))))))
  (oVal (fMove G0) S34 <|
  oVal (fCnvI .i32 G34) S35 <|
  gn yesW (opAt 2 [u, u, z] Tryz.f221) <|
  oVal (fMove G36) S2 <|
  sRet)))
def c222 : Op8 := (oVal (fMove (kon (.str []))) S4 <|
  oVal (fMove (kon (.int .i64 0))) S5 <|
  (oVal (fMove G0) S9 <|
  oVal (fMove G1) S10 <|
  oCall 217 (fArgs [G9, G10]) S11 <|
  oVal (fMove G11) S0 <|
  (thenF (gn yesW (opAt 0 [u, u, z, z] Tryz.f222) <|
  oVal (fLenL G12) S13 <|
  oVal (fMove (kon (.int .i64 0))) S14 <|
  (sBlock 0 (sLoop (oVal (fInt ltI G14 G13) S15 <|
  (thenF (sCond G15 oEnd
  (sExit 0))
  (thenF (sBlock 1 (oVal (fIAs 1 G12 G14) S16 <|
  oVal (fLoad1 G16) S17 <|
  oVal (fMove G17) S7 <|
  (thenF (oVal (fMove G0) S18 <|
  oVal (fMove G7) S19 <|
  oVal (fSlS G19 none (some (kon (.int .i64 1)))) S20 <|
  oCall 25 (fArgs [G18, G20]) S21 <|
  oVal (fNot G21) S22 <|
  (sCond G22 (sExit 1)
  oEnd))
  (oVal (fMove G0) S23 <|
  oVal (fMove G7) S24 <|
  oCall 218 (fArgs [G23, (kon (.int .i64 1)), G24]) S25 <|
  oVal (fMove G25) S8 <|
  (thenF (oVal (fMove G8) S26 <|
  oVal (fInt ltI G26 (kon (.int .i64 0))) S27 <|
  oVal (fMove G27) S28 <|
  oGval (wntF G28 false) (fMove G0) S29 <|
  oGval (wntF G28 false) (fMove G8) S30 <|
  oGval (wntF G28 false) (fIxS G29 G30) S31 <|
  oGval (wntF G28 false) (fMove G7) S32 <|
  oGval (wntF G28 false) (fIxS G32 (kon (.int .i64 1))) S33 <|
  oGval (wntF G28 false) (fInt neI G31 G33) S34 <|
  oVal (fPick G28 (kon (.bool true)) G34) S35 <|
  (sCond G35 (sExit 0)
  oEnd))
  (oVal (fMove G0) S36 <|
  oVal (fMove G8) S37 <|
  oVal (fSlS G36 (some (kon (.int .i64 1))) (some G37)) S38 <|
  oCall 156 (fArgs [G38]) S39 <|
  oVal (fMove G8) S40 <|
  oVal (fInt addI G40 (kon (.int .i64 1))) S41 <|
  oVal (fMove G39) S4 <|
  oVal (fMove G41) S5 <|
  sRet))))))
  (oVal (fInt addI G14 (kon (.int .i64 1))) S42 <|
  oVal (fMove G42) S14 <|
  oEnd)))))))
  (oVal (fMove (kon (.str []))) S4 <|
  oVal (fMove (kon (.int .i64 0))) S5 <|
  sRet))))
def c223 : Op8 := (oVal (fMove (kon (.bool false))) S2 <|
  (oVal (fMove G0) S3 <|
  gn yesW (opAt 1 [u, z] Tryz.f223) <|
  oVal (fInt neI G4 (kon (.int .u8 128))) S5 <|
  oVal (fMove G5) S2 <|
  sRet))
def c226 : Op8 := (oVal (fMove (kon (.bool false))) S4 <|
  (thenF (oVal (fMove G1) S7 <|
  oVal (fLenL G7) S8 <|
  oVal (fMove (kon (.int .i64 0))) S9 <|
  (sBlock 0 (sLoop (oVal (fInt ltI G9 G8) S10 <|
  (thenF (sCond G10 oEnd
  (sExit 0))
  (thenF (sBlock 1 (oVal (fIAs 2 G7 G9) S11 <|
  oVal (fLoadN 2 G11) S12 <|
  gn yesW (opAt 2 [u, z, u, z, z, u, u, z, z, z] Tryz.f226) <|
  oUpd (fSt tb 282 G6 G12) <|
  (oVal (fFA 0 G6) S13 <|
  oVal (fLoad1 G13) S14 <|
  oVal (fMove G0) S15 <|
  oVal (fInt leI G14 G15) S16 <|
  oVal (fMove G16) S17 <|
  oGval (wntF G17 true) (fMove G0) S18 <|
  oGval (wntF G17 true) (fFA 1 G6) S19 <|
  oGval (wntF G17 true) (fLoad1 G19) S20 <|
  oGval (wntF G17 true) (fInt leI G18 G20) S21 <|
  oVal (fPick G17 G21 (kon (.bool false))) S22 <|
  (sCond G22 (oVal (fMove (kon (.bool true))) S4 <|
  sRet)
  oEnd))))
  (oVal (fInt addI G9 (kon (.int .i64 1))) S23 <|
  oVal (fMove G23) S9 <|
  oEnd)))))))
  (oVal (fMove (kon (.bool false))) S4 <|
  sRet)))
def c227 : Op8 := (oVal (fMove (kon (.str []))) S8 <|
  (thenF (oVal (fMove G1) S16 <|
  oVal (fMove G2) S17 <|
  gn yesW (opAt 2 [u, z, z] Tryz.f227) <|
  oVal (fMove G18) S19 <|
  oGval (wntF G19 false) (fMove G3) S20 <|
  oGval (wntF G19 false) (fIntE G20 (kon (.int .i64 0))) S21 <|
  oVal (fPick G19 (kon (.bool true)) G21) S22 <|
  (sCond G22 (oVal (fMove G0) S23 <|
  oVal (fMove G23) S8 <|
  sRet)
  oEnd))
  (thenF (oVal (fMove G0) S24 <|
  oVal (fMove G1) S25 <|
  oCall 39 (fArgs [G24, G25]) S26 <|
  oVal (fMove G26) S9 <|
  (oVal (fMove G9) S27 <|
  oVal (fIntE G27 (kon (.int .i64 0))) S28 <|
  (sCond G28 (oVal (fMove G0) S29 <|
  oVal (fMove G29) S8 <|
  sRet)
  (oVal (fMove G3) S30 <|
  oVal (fInt ltI G30 (kon (.int .i64 0))) S31 <|
  oVal (fMove G31) S32 <|
  oGval (wntF G32 false) (fMove G9) S33 <|
  oGval (wntF G32 false) (fMove G3) S34 <|
  oGval (wntF G32 false) (fInt ltI G33 G34) S35 <|
  oVal (fPick G32 (kon (.bool true)) G35) S36 <|
  (sCond G36 (oVal (fMove G9) S37 <|
  oVal (fMove G37) S3 <|
  oEnd)
  oEnd)))))
  (gn yesW (opAt 0 [u, u, u, z] Tryz.f227) <|
  (oVal (fMove G0) S38 <|
  oVal (fLenS G38) S39 <|
  oVal (fMove G3) S40 <|
  oVal (fMove G2) S41 <|
  oVal (fLenS G41) S42 <|
  oVal (fMove G1) S43 <|
  oVal (fLenS G43) S44 <|
  oVal (fInt subI G42 G44) S45 <|
  oVal (fInt mulI G40 G45) S46 <|
  oVal (fInt addI G39 G46) S47 <|
  oCall 113 (fArgs [G10, G47]) S48 <|
  (oVal (fMove (kon (.int .i64 0))) S11 <|
  (thenF (oVal (fMove G1) S49 <|
  oVal (fLenS G49) S50 <|
  oVal (fInt gtI G50 (kon (.int .i64 0))) S51 <|
  (sCond G51 (oVal (fMove G3) S52 <|
  oVal (fMove (kon (.int .i64 0))) S53 <|
  (sBlock 0 (sLoop (oVal (fInt ltI G53 G52) S54 <|
  (thenF (sCond G54 oEnd
  (sExit 0))
  (thenF (sBlock 1 (oVal (fMove G11) S55 <|
  oVal (fMove G0) S56 <|
  oVal (fMove G11) S57 <|
  oVal (fSlS G56 (some G57) none) S58 <|
  oVal (fMove G1) S59 <|
  oCall 33 (fArgs [G58, G59]) S60 <|
  oVal (fInt addI G55 G60) S61 <|
  oVal (fMove G61) S12 <|
  (oVal (fMove G0) S62 <|
  oVal (fMove G11) S63 <|
  oVal (fMove G12) S64 <|
  oVal (fSlS G62 (some G63) (some G64)) S65 <|
  oCall 114 (fArgs [G10, G65]) S66 <|
  (oVal (fMove G2) S67 <|
  oCall 114 (fArgs [G10, G67]) S68 <|
  (oVal (fMove G12) S69 <|
  oVal (fMove G1) S70 <|
  oVal (fLenS G70) S71 <|
  oVal (fInt addI G69 G71) S72 <|
  oVal (fMove G72) S11 <|
  oEnd)))))
  (oVal (fInt addI G53 (kon (.int .i64 1))) S73 <|
  oVal (fMove G73) S53 <|
  oEnd)))))))
  (oVal (fMove G2) S74 <|
  oCall 114 (fArgs [G10, G74]) S75 <|
  (oVal (fMove G3) S76 <|
  oVal (fInt subI G76 (kon (.int .i64 1))) S77 <|
  oVal (fMove (kon (.int .i64 0))) S78 <|
  (sBlock 2 (sLoop (oVal (fInt ltI G78 G77) S79 <|
  (thenF (sCond G79 oEnd
  (sExit 2))
  (thenF (sBlock 3 (oVal (fMove G0) S81 <|
  oVal (fMove G11) S82 <|
  oVal (fSlS G81 (some G82) none) S83 <|
  oCall 74 (fArgs [G83]) S84 <|
  oVal (fMove G84) S80 <|
  oVal (fExt 0 G80) S85 <|
  oVal (fExt 1 G80) S86 <|
  oVal (fMove G85) S13 <|
  oVal (fMove G86) S14 <|
  (oVal (fMove G11) S87 <|
  oVal (fMove G14) S88 <|
  oVal (fInt addI G87 G88) S89 <|
  oVal (fMove G89) S15 <|
  (oVal (fMove G0) S90 <|
  oVal (fMove G11) S91 <|
  oVal (fMove G15) S92 <|
  oVal (fSlS G90 (some G91) (some G92)) S93 <|
  oCall 114 (fArgs [G10, G93]) S94 <|
  (oVal (fMove G2) S95 <|
  oCall 114 (fArgs [G10, G95]) S96 <|
  (oVal (fMove G15) S97 <|
  oVal (fMove G97) S11 <|
  oEnd))))))
  (oVal (fInt addI G78 (kon (.int .i64 1))) S98 <|
  oVal (fMove G98) S78 <|
  oEnd))))))))))
  (oVal (fMove G0) S99 <|
  oVal (fMove G11) S100 <|
  oVal (fSlS G99 (some G100) none) S101 <|
  oCall 114 (fArgs [G10, G101]) S102 <|
  (oCall 115 (fArgs [G10]) S103 <|
  oVal (fMove G103) S8 <|
  sRet)))))))))
def c228 : Op8 := (oVal (fMove (kon (.bool false))) S4 <|
  (oVal (fMove G0) S5 <|
  oVal (fLenS G5) S6 <|
  oVal (fMove G1) S7 <|
  oVal (fLenS G7) S8 <|
  oVal (fInt geI G6 G8) S9 <|
  oVal (fMove G9) S10 <|
  oGval (wntF G10 true) (fMove G0) S11 <|
  oGval (wntF G10 true) (fMove G0) S12 <|
  oGval (wntF G10 true) (fLenS G12) S13 <|
  oGval (wntF G10 true) (fMove G1) S14 <|
  oGval (wntF G10 true) (fLenS G14) S15 <|
  oGval (wntF G10 true) (fInt subI G13 G15) S16 <|
  oGval (wntF G10 true) (fSlS G11 (some G16) none) S17 <|
  oGval (wntF G10 true) (fMove G1) S18 <|
  gn (wntF G10 true) (opAt 14 [u, z] Tryz.f228) <|
  oVal (fPick G10 G19 (kon (.bool false))) S20 <|
  oVal (fMove G20) S4 <|
  sRet))
def c229 : Op8 := (oVal (fMove (kon (.int .i64 0))) S4 <|
  (oVal (fMove G0) S5 <|
  oVal (fMove G1) S6 <|
  oCall 262 (fArgs [G5, G6, (kon (.bool true))]) S7 <|
  oVal (fMove G7) S4 <|
  sRet))
def c230 : Op8 := (oVal (fMove (kon (.bool false))) S2 <|
  (oVal (fMove G0) S3 <|
  oVal (fInt leI G3 (kon (.int .i32 32))) S4 <|
  oVal (fMove G4) S5 <|
  oGval (wntF G5 false) (fMove G0) S6 <|
  oGval (wntF G5 false) (fIntE G6 (kon (.int .i32 60))) S7 <|
  oVal (fPick G5 (kon (.bool true)) G7) S8 <|
  oVal (fMove G8) S9 <|
  oGval (wntF G9 false) (fMove G0) S10 <|
  oGval (wntF G9 false) (fIntE G10 (kon (.int .i32 62))) S11 <|
  oVal (fPick G9 (kon (.bool true)) G11) S12 <|
  oVal (fMove G12) S2 <|
  sRet))
def c231 : Op8 := (oVal (fMove (kon (.str []))) S4 <|
  (thenF (sBlock 0 (sLoop (thenF (oVal (fMove G0) S10 <|
  oVal (fLenS G10) S11 <|
  oVal (fInt gtI G11 (kon (.int .i64 0))) S12 <|
  (sCond G12 oEnd
  (sExit 0)))
  (sBlock 1 (oVal (fMove G0) S14 <|
  oCall 168 (fArgs [G14]) S15 <|
  oVal (fMove G15) S13 <|
  oVal (fExt 0 G13) S16 <|
  oVal (fExt 1 G13) S17 <|
  oVal (fMove G16) S5 <|
  oVal (fMove G17) S6 <|
  (oVal (fMove (kon (.bool false))) S7 <|
  (thenF (oVal (fMove G1) S18 <|
  gn yesW (opAt 1 [u, z, z, z, u, z, u, u, z, z] Tryz.f231) <|
  (sBlock 2 (sLoop (gn yesW (opAt 0 [u, z, z, z, u, z, u, u, z, u, z, z, z] Tryz.f231) <|
  oVal (fExt 0 G20) S21 <|
  (thenF (sCond G21 oEnd
  (sExit 2))
  (sBlock 3 (oVal (fExt 2 G20) S22 <|
  oVal (fMove G22) S9 <|
  (oVal (fMove G7) S23 <|
  oVal (fMove G23) S24 <|
  oGval (wntF G24 false) (fMove G5) S25 <|
  oGval (wntF G24 false) (fMove G9) S26 <|
  oGval (wntF G24 false) (fIntE G25 G26) S27 <|
  oVal (fPick G24 (kon (.bool true)) G27) S28 <|
  oVal (fMove G28) S7 <|
  oEnd))))))))
  (thenF (oVal (fMove G7) S29 <|
  oVal (fNot G29) S30 <|
  (sCond G30 (oVal (fMove G0) S31 <|
  oVal (fMove G31) S4 <|
  sRet)
  oEnd))
  (oVal (fMove G0) S32 <|
  oVal (fMove G0) S33 <|
  oVal (fLenS G33) S34 <|
  oVal (fMove G6) S35 <|
  oVal (fInt subI G34 G35) S36 <|
  oVal (fSlS G32 none (some G36)) S37 <|
  oVal (fMove G37) S0 <|
  oEnd)))))))))
  (oVal (fMove G0) S38 <|
  oVal (fMove G38) S4 <|
  sRet)))
def c232 : Op8 := (oVal (fMove (kon .nils)) S4 <|
  (oVal (fMove G0) S5 <|
  oVal (fMove G1) S6 <|
  oCall 263 (fArgs [G5, G6, (kon (.int .i64 0)), (kon (.int .i64 (-1)))]) S7 <|
  oVal (fMove G7) S4 <|
  sRet))
def c233 : Op8 := (oVal (fMove (kon (.int .i64 0))) S6 <|
  (oVal (fMove G0) S8 <|
  oVal (fMove G1) S9 <|
  oVal (fLenS G9) S10 <|
  oVal (fSlS G8 (some G10) none) S11 <|
  oVal (fMove G2) S12 <|
  oCall 33 (fArgs [G11, G12]) S13 <|
  oVal (fMove G13) S7 <|
  (thenF (oVal (fMove G7) S14 <|
  oVal (fInt ltI G14 (kon (.int .i64 0))) S15 <|
  (sCond G15 (oVal (fMove (kon (.int .i64 0))) S6 <|
  sRet)
  oEnd))
  (oVal (fMove G1) S16 <|
  oVal (fLenS G16) S17 <|
  oVal (fMove G7) S18 <|
  oVal (fInt addI G17 G18) S19 <|
  oVal (fMove G2) S20 <|
  oVal (fLenS G20) S21 <|
  oVal (fInt addI G19 G21) S22 <|
  oVal (fMove G22) S6 <|
  sRet))))
def c234 : Op8 := (oVal (fMove (kon (.str []))) S2 <|
  oVal (fMove (kon (.int .i64 0))) S3 <|
  (oVal (fMove (kon (.str [48, 49, 50, 51, 52, 53, 54, 55, 56, 57]))) S4 <|
  oVal (fMove (kon (.int .i64 10))) S5 <|
  oVal (fMove (kon (.int .i64 7))) S6 <|
  oVal (fMove (kon (.int .i64 0))) S7 <|
  (thenF (oVal (fMove G0) S11 <|
  gn yesW (opAt 1 [u, u, z, z] Tryz.f234) <|
  oVal (fMove G12) S13 <|
  oGval (wntF G13 true) (fMove G0) S14 <|
  oGval (wntF G13 true) (fIxS G14 (kon (.int .i64 0))) S15 <|
  oGval (wntF G13 true) (fIntE G15 (kon (.int .u8 120))) S16 <|
  oGval (wntF G13 true) (fMove G16) S17 <|
  oGval (wntF G17 false) (fMove G0) S18 <|
  oGval (wntF G17 false) (fIxS G18 (kon (.int .i64 0))) S19 <|
  oGval (wntF G17 false) (fIntE G19 (kon (.int .u8 88))) S20 <|
  oGval (wntF G13 true) (fPick G17 (kon (.bool true)) G20) S21 <|
  oVal (fPick G13 G21 (kon (.bool false))) S22 <|
  (sCond G22 (oVal (fMove (kon (.str [48, 49, 50, 51, 52, 53, 54, 55, 56, 57, 97, 98, 99, 100, 101, 102, 65, 66, 67, 68, 69, 70]))) S4 <|
  oVal (fMove (kon (.int .i64 16))) S5 <|
  oVal (fMove (kon (.int .i64 6))) S6 <|
  oVal (fMove (kon (.int .i64 1))) S7 <|
  oEnd)
  oEnd))
  (oVal (fMove G0) S23 <|
  oVal (fMove G7) S24 <|
  oVal (fSlS G23 (some G24) none) S25 <|
  oVal (fMove G4) S26 <|
  oVal (fMove G6) S27 <|
  oCall 235 (fArgs [G25, G26, G27]) S28 <|
  oVal (fMove G28) S8 <|
  (oVal (fMove G8) S30 <|
  oVal (fMove G5) S31 <|
  oCall 264 (fArgs [G30, G31, (kon (.int .i64 64))]) S32 <|
  oVal (fMove G32) S29 <|
  oVal (fExt 0 G29) S33 <|
  oVal (fExt 1 G29) S34 <|
  oVal (fMove G33) S9 <|
  oVal (fMove G34) S10 <|
  (thenF (oVal (fMove G10) S35 <|
  gn yesW (opAt 1 [u, u, u, u, u, z, z] Tryz.f234) <|
  oVal (fMove G36) S37 <|
  oGval (wntF G37 false) (fMove G0) S38 <|
  oGval (wntF G37 false) (fMove G7) S39 <|
  oGval (wntF G37 false) (fMove G8) S40 <|
  oGval (wntF G37 false) (fLenS G40) S41 <|
  oGval (wntF G37 false) (fInt addI G39 G41) S42 <|
  oGval (wntF G37 false) (fSlS G38 (some G42) none) S43 <|
  oGcall (wntF G37 false) 25 (fArgs [G43, (kon (.str [59]))]) S44 <|
  oGval (wntF G37 false) (fNot G44) S45 <|
  oVal (fPick G37 (kon (.bool true)) G45) S46 <|
  (sCond G46 (oVal (fMove (kon (.str []))) S2 <|
  oVal (fMove (kon (.int .i64 0))) S3 <|
  sRet)
  oEnd))
  (oVal (fMove G9) S47 <|
  oCall 237 (fArgs [G47]) S48 <|
  oVal (fMove G7) S49 <|
  oVal (fMove G8) S50 <|
  oVal (fLenS G50) S51 <|
  oVal (fInt addI G49 G51) S52 <|
  oVal (fInt addI G52 (kon (.int .i64 1))) S53 <|
  oVal (fMove G48) S2 <|
  oVal (fMove G53) S3 <|
  sRet)))))))
def c235 : Op8 := (oVal (fMove (kon (.str []))) S6 <|
  (oVal (fMove G0) S8 <|
  oVal (fLenS G8) S9 <|
  oVal (fMove G0) S10 <|
  oVal (fMove G1) S11 <|
  oCall 265 (fArgs [G10, G11]) S12 <|
  oVal (fLenS G12) S13 <|
  oVal (fInt subI G9 G13) S14 <|
  oVal (fMove G14) S7 <|
  (oVal (fMove G0) S15 <|
  oVal (fMove G7) S16 <|
  oVal (fMove G2) S17 <|
  gn yesW (opAt 3 [u, u, z] Tryz.f235) <|
  oVal (fSlS G15 none (some G18)) S19 <|
  oVal (fMove G19) S6 <|
  sRet)))
def c236 : Op8 := (oVal (fMove (kon (.int .i64 0))) S2 <|
  oVal (fMove (kon (.bool false))) S3 <|
  (oCall 266 (fArgs []) S7 <|
  oVal (fMove G0) S8 <|
  gn yesW (opAt 2 [u, z] Tryz.f236) <|
  oVal (fMove G9) S6 <|
  oVal (fExt 0 G6) S10 <|
  oVal (fExt 1 G6) S11 <|
  oVal (fMove G10) S4 <|
  oVal (fMove G11) S5 <|
  (oVal (fMove G4) S12 <|
  oVal (fMove G5) S13 <|
  oVal (fMove G12) S2 <|
  oVal (fMove G13) S3 <|
  sRet)))
def c237 : Op8 := (oVal (fMove (kon (.str []))) S2 <|
  (thenF (oVal (fMove G0) S3 <|
  oVal (fIntE G3 (kon (.int .i64 0))) S4 <|
  oVal (fMove G4) S5 <|
  oGval (wntF G5 false) (fMove G0) S6 <|
  oGval (wntF G5 false) (fInt gtI G6 (kon (.int .i64 1114111))) S7 <|
  oVal (fPick G5 (kon (.bool true)) G7) S8 <|
  oVal (fMove G8) S9 <|
  oGval (wntF G9 false) (fMove G0) S10 <|
  oGval (wntF G9 false) (fCnvI .i32 G10) S11 <|
  oGcall (wntF G9 false) 81 (fArgs [G11]) S12 <|
  oGval (wntF G9 false) (fNot G12) S13 <|
  oVal (fPick G9 (kon (.bool true)) G13) S14 <|
  (sCond G14 (oVal (fMove (kon (.str [239, 191, 189]))) S2 <|
  sRet)
  oEnd))
  (oVal (fMove G0) S15 <|
  oVal (fCnvI .i32 G15) S16 <|
  gn yesW (opAt 2 [u, u, z] Tryz.f237) <|
  oVal (fMove G17) S2 <|
  sRet)))
def c238 : Op8 := (oVal (fMove (kon (.str []))) S4 <|
  (thenF (oVal (fMove G0) S10 <|
  gn yesW (opAt 1 [u, z, z] Tryz.f238) <|
  (sBlock 0 (sLoop (gn yesW (opAt 0 [u, z, u, z, z, z] Tryz.f238) <|
  oVal (fExt 0 G12) S13 <|
  (thenF (sCond G13 oEnd
  (sExit 0))
  (sBlock 1 (oVal (fExt 1 G12) S14 <|
  oVal (fExt 2 G12) S15 <|
  oVal (fMove G14) S5 <|
  oVal (fMove G15) S6 <|
  (oVal (fMove (kon (.bool false))) S7 <|
  (thenF (oVal (fMove G1) S16 <|
  gn yesW (opAt 1 [u, z, u, z, z, u, u, z, u, u, z, z] Tryz.f238) <|
  (sBlock 2 (sLoop (gn yesW (opAt 0 [u, z, u, z, z, u, u, z, u, u, z, u, z, z, z] Tryz.f238) <|
  oVal (fExt 0 G18) S19 <|
  (thenF (sCond G19 oEnd
  (sExit 2))
  (sBlock 3 (oVal (fExt 2 G18) S20 <|
  oVal (fMove G20) S9 <|
  (oVal (fMove G7) S21 <|
  oVal (fMove G21) S22 <|
  oGval (wntF G22 false) (fMove G6) S23 <|
  oGval (wntF G22 false) (fMove G9) S24 <|
  oGval (wntF G22 false) (fIntE G23 G24) S25 <|
  oVal (fPick G22 (kon (.bool true)) G25) S26 <|
  oVal (fMove G26) S7 <|
  oEnd))))))))
  (oVal (fMove G7) S27 <|
  oVal (fNot G27) S28 <|
  (sCond G28 (oVal (fMove G0) S29 <|
  oVal (fMove G5) S30 <|
  oVal (fSlS G29 (some G30) none) S31 <|
  oVal (fMove G31) S4 <|
  sRet)
  oEnd)))))))))))
  (oVal (fMove (kon (.str []))) S4 <|
  sRet)))
def c239 : Op8 := (gn yesW (opAt 0 [z] Tryz.f239) <|
  (thenF (oVal (fMove G1) S5 <|
  oVal (fNot G5) S6 <|
  (sCond G6 (gn yesW (opAt 0 [u, z, u, z, z] Tryz.f239) <|
  oUpd (fSt tb 292 G4 G7) <|
  sRet)
  oEnd))
  (oVal (fMove G0) S8 <|
  oCall 220 (fArgs [G8]) S9 <|
  oVal (fMove G0) S10 <|
  oCall 267 (fArgs [G10]) S11 <|
  gn yesW (opAt 4 [u, u, z] Tryz.f239) <|
  oUpd (fSt tb 292 G4 G12) <|
  sRet)))
def c240 : Op8 := (oVal (fMove (kon (.int .i64 0))) S4 <|
  (thenF (oVal (fMove G1) S8 <|
  oVal (fInt ltI G8 (kon (.int .i64 1))) S9 <|
  oVal (fMove G9) S10 <|
  oGval (wntF G10 false) (fMove G1) S11 <|
  oGval (wntF G10 false) (fMove G0) S12 <|
  oGval (wntF G10 false) (fLenS G12) S13 <|
  oGval (wntF G10 false) (fInt gtI G11 G13) S14 <|
  oVal (fPick G10 (kon (.bool true)) G14) S15 <|
  (sCond G15 (oVal (fMove (kon (.int .i64 (-1)))) S4 <|
  sRet)
  oEnd))
  (thenF (oVal (fMove G1) S16 <|
  gn yesW (opAt 1 [u, u, z, z] Tryz.f240) <|
  oVal (fMove G17) S5 <|
  (sBlock 0 (sLoop (thenF (oVal (fMove G5) S18 <|
  oVal (fInt gtI G18 (kon (.int .i64 0))) S19 <|
  (sCond G19 oEnd
  (sExit 0)))
  (thenF (sBlock 1 (oVal (fMove G0) S23 <|
  oVal (fMove G1) S24 <|
  oVal (fMove G5) S25 <|
  oVal (fInt subI G24 G25) S26 <|
  oCall 37 (fArgs [G23, G26]) S27 <|
  oVal (fMove G27) S22 <|
  oVal (fExt 0 G22) S28 <|
  oVal (fExt 1 G22) S29 <|
  oVal (fMove G28) S6 <|
  oVal (fMove G29) S7 <|
  (oVal (fMove G7) S30 <|
  oVal (fMove G5) S31 <|
  oVal (fIntE G30 G31) S32 <|
  (sCond G32 (oVal (fMove G6) S33 <|
  oVal (fMove G33) S4 <|
  sRet)
  oEnd))))
  (oVal (fMove G5) S20 <|
  oVal (fInt subI G20 (kon (.int .i64 1))) S21 <|
  oVal (fMove G21) S5 <|
  oEnd))))))
  (oVal (fMove (kon (.int .i64 65533))) S4 <|
  sRet))))
def c241 : Op8 := (gn yesW (opAt 0 [z] Tryz.f241) <|
  gn yesW (opAt 1 [z] Tryz.f241) <|
  oVal (fMove (kon (.bool false))) S4 <|
  (oVal (fFA 0 G2) S5 <|
  oVal (fLoad1 G5) S6 <|
  oVal (fNot G6) S7 <|
  oVal (fMove G7) S8 <|
  oGval (wntF G8 true) (fFA 1 G2) S9 <|
  oGval (wntF G8 true) (fLoad1 G9) S10 <|
  oGval (wntF G8 true) (fNot G10) S11 <|
  oGval (wntF G8 true) (fMove G11) S12 <|
  oGval (wntF G12 false) (fFA 0 G3) S13 <|
  oGval (wntF G12 false) (fLoad1 G13) S14 <|
  oGval (wntF G8 true) (fPick G12 (kon (.bool true)) G14) S15 <|
  oGval (wntF G8 true) (fMove G15) S16 <|
  oGval (wntF G16 false) (fFA 1 G3) S17 <|
  oGval (wntF G16 false) (fLoad1 G17) S18 <|
  oGval (wntF G8 true) (fPick G16 (kon (.bool true)) G18) S19 <|
  oVal (fPick G8 G19 (kon (.bool false))) S20 <|
  oVal (fMove G20) S4 <|
  sRet))
def c242 : Op8 := (gn yesW (opAt 0 [z] Tryz.f242) <|
  oVal (fMove (kon (.bool false))) S5 <|
  (thenF (oVal (fMove G0) S12 <|
  oVal (fNil G12) S13 <|
  oVal (fFA 0 G13) S14 <|
  oVal (fLoad1 G14) S15 <|
  oVal (fMove G1) S16 <|
  oVal (fSlS G15 (some G16) none) S17 <|
  oCall 25 (fArgs [G17, (kon (.str [40]))]) S18 <|
  oVal (fNot G18) S19 <|
  (sCond G19 (gn yesW (opAt 0 [u, z, u, z, z] Tryz.f242) <|
  oUpd (fSt tb 238 G4 G20) <|
  oVal (fMove (kon (.bool false))) S5 <|
  sRet)
  oEnd))
  (oVal (fMove G1) S21 <|
  oVal (fInt addI G21 (kon (.int .i64 1))) S22 <|
  oVal (fMove G22) S1 <|
  (oVal (fMove G1) S23 <|
  oVal (fMove G0) S24 <|
  oVal (fNil G24) S25 <|
  oVal (fFA 0 G25) S26 <|
  oVal (fLoad1 G26) S27 <|
  oVal (fMove G1) S28 <|
  oVal (fSlS G27 (some G28) none) S29 <|
  oCall 68 (fArgs [G29, (kon (.str [32, 9, 10]))]) S30 <|
  oVal (fInt addI G23 G30) S31 <|
  oVal (fMove G31) S1 <|
  (gn yesW (opAt 0 [u, u, u, u, z] Tryz.f242) <|
  gn yesW (opAt 1 [u, u, u, u, z] Tryz.f242) <|
  oUpd (fSt tb 238 G6 G32) <|
  (oVal (fMove G0) S34 <|
  oVal (fNil G34) S35 <|
  oVal (fFA 0 G35) S36 <|
  oVal (fLoad1 G36) S37 <|
  oVal (fMove G1) S38 <|
  oCall 163 (fArgs [G37, G38]) S39 <|
  oVal (fMove G39) S33 <|
  oVal (fExt 0 G33) S40 <|
  oVal (fExt 1 G33) S41 <|
  oVal (fMove G40) S7 <|
  oVal (fMove G41) S8 <|
  (oVal (fMove G1) S42 <|
  oVal (fMove G8) S43 <|
  oVal (fInt addI G42 G43) S44 <|
  oVal (fMove G44) S1 <|
  (oVal (fMove G0) S45 <|
  oVal (fNil G45) S46 <|
  oVal (fFA 0 G46) S47 <|
  oVal (fLoad1 G47) S48 <|
  oVal (fMove G1) S49 <|
  oVal (fSlS G48 (some G49) none) S50 <|
  oCall 68 (fArgs [G50, (kon (.str [32, 9, 10]))]) S51 <|
  oVal (fMove G51) S9 <|
  (oVal (fMove G1) S52 <|
  oVal (fMove G9) S53 <|
  oVal (fInt addI G52 G53) S54 <|
  oVal (fMove G54) S1 <|
  (thenF (oVal (fMove G8) S55 <|
  oVal (fInt gtI G55 (kon (.int .i64 0))) S56 <|
  oVal (fMove G56) S57 <|
  oGval (wntF G57 true) (fMove G9) S58 <|
  oGval (wntF G57 true) (fInt gtI G58 (kon (.int .i64 0))) S59 <|
  oVal (fPick G57 G59 (kon (.bool false))) S60 <|
  (sCond G60 (oVal (fMove G0) S62 <|
  oVal (fNil G62) S63 <|
  oVal (fFA 0 G63) S64 <|
  oVal (fLoad1 G64) S65 <|
  oVal (fMove G1) S66 <|
  oCall 222 (fArgs [G65, G66]) S67 <|
  oVal (fMove G67) S61 <|
  oVal (fExt 0 G61) S68 <|
  oVal (fExt 1 G61) S69 <|
  oVal (fMove G68) S10 <|
  oVal (fMove G69) S11 <|
  (oVal (fMove G1) S70 <|
  oVal (fMove G11) S71 <|
  oVal (fInt addI G70 G71) S72 <|
  oVal (fMove G72) S1 <|
  (oVal (fMove G1) S73 <|
  oVal (fMove G0) S74 <|
  oVal (fNil G74) S75 <|
  oVal (fFA 0 G75) S76 <|
  oVal (fLoad1 G76) S77 <|
  oVal (fMove G1) S78 <|
  oVal (fSlS G77 (some G78) none) S79 <|
  oCall 68 (fArgs [G79, (kon (.str [32, 9, 10]))]) S80 <|
  oVal (fInt addI G73 G80) S81 <|
  oVal (fMove G81) S1 <|
  (oVal (fMove G10) S82 <|
  oVal (fFA 1 G6) S83 <|
  oUpd (fSt1 G83 G82) <|
  oEnd))))
  oEnd))
  (oVal (fMove G7) S84 <|
  oVal (fMove G1) S85 <|
  oVal (fInt addI G85 (kon (.int .i64 1))) S86 <|
  oVal (fFA 0 G6) S87 <|
  oUpd (fSt1 G87 G84) <|
  oVal (fFA 3 G6) S88 <|
  oUpd (fSt1 G88 G86) <|
  (sDraw <| dVal (cL G6) 0 (fLoadN 4 G6) S89 <|
  dVal cP 1 (fMove G0) S90 <|
  dVal cP 2 (fNil G90) S91 <|
  dVal cP 3 (fFA 0 G91) S92 <|
  dVal (cL G92) 4 (fLoad1 G92) S93 <|
  dVal cP 5 (fMove G1) S94 <|
  dVal cP 6 (fSlS G93 (some G94) none) S95 <|
  dCall cE 7 25 (fArgs [G95, (kon (.str [41]))]) S96 <|
  dUpd cE 8 (fSt tb 238 G4 G89) <|
  dVal cP 9 (fMove G96) S5 <|
  dEnd [0, 0, 2, 6, 14, 0, 62, 126, 255, 511] sRet))))))))))))
def c243 : Op8 := (sBlock 0 (sLoop (thenF (oVal (fMove G1) S7 <|
  oVal (fNil G7) S8 <|
  oVal (fFA 4 G8) S9 <|
  oVal (fLoad1 G9) S10 <|
  oVal (fInt gtI G10 (kon (.int .i64 0))) S11 <|
  (sCond G11 oEnd
  (sExit 0)))
  (sBlock 1 (oVal (fMove G0) S12 <|
  oVal (fMove G1) S13 <|
  oCall 268 (fArgs [G12, G13]) S14 <|
  oVal (fMove G14) S4 <|
  (thenF (oVal (fMove G4) S15 <|
  oVal (fInt ltI G15 (kon (.int .i64 0))) S16 <|
  (sCond G16 sRet
  oEnd))
  (oVal (fMove G0) S17 <|
  oVal (fNil G17) S18 <|
  oVal (fFA 0 G18) S19 <|
  oVal (fLoad1 G19) S20 <|
  oVal (fMove G4) S21 <|
  oVal (fIAs 1 G20 G21) S22 <|
  oVal (fLoad1 G22) S23 <|
  oVal (fMove G23) S5 <|
  (oVal (fMove G5) S24 <|
  oVal (fNil G24) S25 <|
  oVal (fFA 4 G25) S26 <|
  oVal (fLoad1 G26) S27 <|
  oVal (fMove G1) S28 <|
  oVal (fNil G28) S29 <|
  oVal (fFA 4 G29) S30 <|
  oVal (fLoad1 G30) S31 <|
  gn yesW (opAt 8 [z, z, u, z, u, u, u, z] Tryz.f243) <|
  oVal (fMove G32) S6 <|
  (sDraw <| dVal cP 0 (fMove G0) S33 <|
  dVal cP 1 (fMove G0) S34 <|
  dVal cP 2 (fNil G34) S35 <|
  dVal cP 3 (fFA 2 G35) S36 <|
  dVal (cL G36) 4 (fLoad1 G36) S37 <|
  dVal cP 5 (fMove G5) S38 <|
  dVal cP 6 (fNil G38) S39 <|
  dVal cP 7 (fFA 5 G39) S40 <|
  dVal (cL G40) 8 (fLoad1 G40) S41 <|
  dVal cP 9 (fMove G1) S42 <|
  dVal cP 10 (fNil G42) S43 <|
  dVal cP 11 (fFA 5 G43) S44 <|
  dVal (cL G44) 12 (fLoad1 G44) S45 <|
  dVal cP 13 (fMove G6) S46 <|
  gd cP 14 yesW (opAt 14 [z, z, u, z, u, u, u, u, z] Tryz.f243) <|
  gd cN 15 yesW (opAt 15 [z, z, u, z, u, u, u, u, z] Tryz.f243) <|
  gd cE 16 yesW (opAt 16 [z, z, u, z, u, u, u, u, z] Tryz.f243) <|
  dVal cP 17 (fNil G33) S50 <|
  dVal cP 18 (fFA 2 G50) S51 <|
  dUpd cE 19 (fSt1 G51 G49) <|
  dEnd [0, 0, 2, 6, 14, 0, 32, 96, 224, 0, 512, 1536, 3584, 0, 16352, 32736, 65534, 131071, 262143, 524287] (oVal (fMove G5) S52 <|
  oVal (fNil G52) S53 <|
  oVal (fFA 4 G53) S54 <|
  oVal (fLoad1 G54) S55 <|
  oVal (fMove G6) S56 <|
  oVal (fInt subI G55 G56) S57 <|
  oVal (fNil G52) S58 <|
  oVal (fFA 4 G58) S59 <|
  oUpd (fSt1 G59 G57) <|
  (oVal (fMove G1) S60 <|
  oVal (fNil G60) S61 <|
  oVal (fFA 4 G61) S62 <|
  oVal (fLoad1 G62) S63 <|
  oVal (fMove G6) S64 <|
  oVal (fInt subI G63 G64) S65 <|
  oVal (fNil G60) S66 <|
  oVal (fFA 4 G66) S67 <|
  oUpd (fSt1 G67 G65) <|
  (oVal (fMove G0) S68 <|
  oVal (fMove G4) S69 <|
  oVal (fInt addI G69 (kon (.int .i64 1))) S70 <|
  oCall 269 (fArgs [G68, G70]) S71 <|
  (oVal (fMove G5) S72 <|
  oVal (fNil G72) S73 <|
  oVal (fFA 4 G73) S74 <|
  oVal (fLoad1 G74) S75 <|
  oVal (fIntE G75 (kon (.int .i64 0))) S76 <|
  (sCond G76 (oVal (fMove G0) S77 <|
  oVal (fMove G4) S78 <|
  oCall 269 (fArgs [G77, G78]) S79 <|
  oEnd)
  oEnd))))))))))))))
def c244 : Op8 := (gn yesW (opAt 0 [z] Tryz.f244) <|
  oVal (fMove (kon .nils)) S4 <|
  (thenF (oVal (fMove G1) S6 <|
  (sBlock 0 (rangeAt tb 13 [u, z, u, z] Tryz.f244)))
  (oVal (fLoad1 G2) S12 <|
  oVal (fMove G12) S4 <|
  sRet)))
def c245 : Op8 := (oVal (fLoad1 G1) S4 <|
  oVal (fLenL G4) S5 <|
  oVal (fInt subI G5 (kon (.int .i64 1))) S6 <|
  oVal (fMove G6) S3 <|
  (sBlock 0 (sLoop (thenF (oVal (fMove G3) S7 <|
  oVal (fInt geI G7 (kon (.int .i64 0))) S8 <|
  (sCond G8 oEnd
  (sExit 0)))
  (thenF (sBlock 1 (oVal (fMove G0) S11 <|
  oVal (fMove G3) S12 <|
  oVal (fLoad1 G1) S13 <|
  oVal (fMove G3) S14 <|
  oVal (fIAs 1 G13 G14) S15 <|
  oVal (fLoad1 G15) S16 <|
  gn yesW (opAt 6 [u, z, z, u, z, z, z] Tryz.f245) <|
  oVal (fNot G17) S18 <|
  (sCond G18 sRet
  oEnd)))
  (oVal (fMove G3) S9 <|
  oVal (fInt subI G9 (kon (.int .i64 1))) S10 <|
  oVal (fMove G10) S3 <|
  oEnd))))))
def c246 : Op8 := (oVal (fMove (kon (.int .i32 0))) S2 <|
  (thenF (oVal (fMove G0) S3 <|
  oVal (fInt leI (kon (.int .i32 65)) G3) S4 <|
  oVal (fMove G4) S5 <|
  oGval (wntF G5 true) (fMove G0) S6 <|
  oGval (wntF G5 true) (fInt leI G6 (kon (.int .i32 90))) S7 <|
  oVal (fPick G5 G7 (kon (.bool false))) S8 <|
  (sCond G8 (oVal (fMove G0) S9 <|
  oVal (fInt addI G9 (kon (.int .i32 97))) S10 <|
  oVal (fInt subI G10 (kon (.int .i32 65))) S11 <|
  oVal (fMove G11) S2 <|
  sRet)
  oEnd))
  (oVal (fMove G0) S12 <|
  oVal (fMove G12) S2 <|
  sRet)))
def c247 : Op8 := (oVal (fMove (kon (.int .i64 0))) S2 <|
  (thenF (sBlock 0 (oVal (fMove G0) S4 <|
  oVal (fInt ltI G4 (kon (.int .i32 0))) S5 <|
  oVal (fMove G5) S3 <|
  (sCond G3 (oVal (fMove (kon (.int .i64 (-1)))) S2 <|
  sRet)
  (oVal (fMove G0) S7 <|
  oVal (fInt leI G7 (kon (.int .i32 127))) S8 <|
  oVal (fMove G8) S6 <|
  (sCond G6 (oVal (fMove (kon (.int .i64 1))) S2 <|
  sRet)
  (oVal (fMove G0) S10 <|
  oVal (fInt leI G10 (kon (.int .i32 2047))) S11 <|
  oVal (fMove G11) S9 <|
  (sCond G9 (oVal (fMove (kon (.int .i64 2))) S2 <|
  sRet)
  (oVal (fMove G0) S13 <|
  oVal (fInt leI (kon (.int .i32 55296)) G13) S14 <|
  oVal (fMove G14) S15 <|
  oGval (wntF G15 true) (fMove G0) S16 <|
  oGval (wntF G15 true) (fInt leI G16 (kon (.int .i32 57343))) S17 <|
  oVal (fPick G15 G17 (kon (.bool false))) S18 <|
  oVal (fMove G18) S12 <|
  (sCond G12 (oVal (fMove (kon (.int .i64 (-1)))) S2 <|
  sRet)
  (oVal (fMove G0) S20 <|
  oVal (fInt leI G20 (kon (.int .i32 65535))) S21 <|
  oVal (fMove G21) S19 <|
  (sCond G19 (oVal (fMove (kon (.int .i64 3))) S2 <|
  sRet)
  (oVal (fMove G0) S23 <|
  oVal (fInt leI G23 (kon (.int .i32 1114111))) S24 <|
  oVal (fMove G24) S22 <|
  (sCond G22 (oVal (fMove (kon (.int .i64 4))) S2 <|
  sRet)
  oEnd)))))))))))))
  (oVal (fMove (kon (.int .i64 (-1)))) S2 <|
  sRet)))
def c248 : Op8 := (oVal (fMove (kon (.int .i64 0))) S4 <|
  oVal (fMove (kon .nili)) S5 <|
  (oVal (fMove G0) S7 <|
  oCall 169 (fArgs [G7]) S8 <|
  (oVal (fMove G0) S9 <|
  oVal (fNil G9) S10 <|
  oVal (fFA 1 G10) S11 <|
  oVal (fLoad1 G11) S12 <|
  oVal (fLenL G12) S13 <|
  oVal (fMove G13) S6 <|
  (oVal (fMove G0) S14 <|
  oVal (fMove G0) S15 <|
  oVal (fNil G15) S16 <|
  oVal (fFA 1 G16) S17 <|
  oVal (fLoad1 G17) S18 <|
  oVal (fMove G1) S19 <|
  oCall 270 (fArgs [G18, G19]) S20 <|
  oVal (fNil G14) S21 <|
  oVal (fFA 1 G21) S22 <|
  oUpd (fSt1 G22 G20) <|
  (oVal (fMove G0) S23 <|
  oVal (fNil G23) S24 <|
  oVal (fFA 1 G24) S25 <|
  oVal (fLoad1 G25) S26 <|
  oVal (fLenL G26) S27 <|
  oVal (fMove G6) S28 <|
  oVal (fInt subI G27 G28) S29 <|
  oVal (fMove G29) S4 <|
  oVal (fMove (kon .nili)) S5 <|
  sRet)))))
def c249 : Op8 := (oVal (fMove (kon (.int .i64 0))) S2 <|
  (oVal (fMove G0) S3 <|
  oVal (fNil G3) S4 <|
  oVal (fFA 1 G4) S5 <|
  oVal (fLoad1 G5) S6 <|
  gn yesW (opAt 4 [u, z] Tryz.f249) <|
  oVal (fMove G7) S2 <|
  sRet))
def c250 : Op8 := (oVal (fMove (kon (.int .u32 0))) S4 <|
  oVal (fMove (kon (.int .u32 0))) S5 <|
  (oVal (fMove G0) S7 <|
  oVal (fCnvI .u64 G7) S8 <|
  oVal (fMove G1) S9 <|
  oVal (fCnvI .u64 G9) S10 <|
  oVal (fInt mulI G8 G10) S11 <|
  oVal (fMove G11) S6 <|
  (oVal (fMove G6) S12 <|
  gn yesW (opAt 1 [u, u, z] Tryz.f250) <|
  oVal (fCnvI .u32 G13) S14 <|
  oVal (fMove G6) S15 <|
  oVal (fCnvI .u32 G15) S16 <|
  oVal (fMove G14) S4 <|
  oVal (fMove G16) S5 <|
  sRet)))
def c251 : Op8 := (oVal (fMove (kon (.int .u64 0))) S4 <|
  oVal (fMove (kon (.int .u64 0))) S5 <|
  (oVal (fMove G0) S14 <|
  gn yesW (opAt 1 [u, z] Tryz.f251) <|
  oVal (fMove G15) S6 <|
  (oVal (fMove G0) S16 <|
  gn yesW (opAt 1 [u, u, z] Tryz.f251) <|
  oVal (fMove G17) S7 <|
  (oVal (fMove G1) S18 <|
  gn yesW (opAt 1 [u, u, u, z] Tryz.f251) <|
  oVal (fMove G19) S8 <|
  (oVal (fMove G1) S20 <|
  gn yesW (opAt 1 [u, u, u, u, z] Tryz.f251) <|
  oVal (fMove G21) S9 <|
  (oVal (fMove G6) S22 <|
  oVal (fMove G8) S23 <|
  oVal (fInt mulI G22 G23) S24 <|
  oVal (fMove G24) S10 <|
  (oVal (fMove G7) S25 <|
  oVal (fMove G8) S26 <|
  oVal (fInt mulI G25 G26) S27 <|
  oVal (fMove G10) S28 <|
  gn yesW (opAt 4 [u, u, u, u, u, u, z] Tryz.f251) <|
  oVal (fInt addI G27 G29) S30 <|
  oVal (fMove G30) S11 <|
  (oVal (fMove G11) S31 <|
  gn yesW (opAt 1 [u, u, u, u, u, u, u, z] Tryz.f251) <|
  oVal (fMove G32) S12 <|
  (oVal (fMove G11) S33 <|
  gn yesW (opAt 1 [u, u, u, u, u, u, u, u, z] Tryz.f251) <|
  oVal (fMove G34) S13 <|
  (oVal (fMove G12) S35 <|
  oVal (fMove G6) S36 <|
  oVal (fMove G9) S37 <|
  oVal (fInt mulI G36 G37) S38 <|
  oVal (fInt addI G35 G38) S39 <|
  oVal (fMove G39) S12 <|
  (oVal (fMove G7) S40 <|
  oVal (fMove G9) S41 <|
  oVal (fInt mulI G40 G41) S42 <|
  oVal (fMove G13) S43 <|
  oVal (fInt addI G42 G43) S44 <|
  oVal (fMove G12) S45 <|
  gn yesW (opAt 6 [u, u, u, u, u, u, u, u, u, u, z] Tryz.f251) <|
  oVal (fInt addI G44 G46) S47 <|
  oVal (fMove G47) S4 <|
  (oVal (fMove G0) S48 <|
  oVal (fMove G1) S49 <|
  oVal (fInt mulI G48 G49) S50 <|
  oVal (fMove G50) S5 <|
  sRet))))))))))))
def c252 : Op8 := (oVal (fMove (kon (.str []))) S4 <|
  oVal (fMove (kon (.bool false))) S5 <|
  (thenF (oVal (fMove G0) S6 <|
  oVal (fMove G1) S7 <|
  oCall 49 (fArgs [G6, G7]) S8 <|
  oVal (fNot G8) S9 <|
  (sCond G9 (oVal (fMove G0) S10 <|
  oVal (fMove G10) S4 <|
  oVal (fMove (kon (.bool false))) S5 <|
  sRet)
  oEnd))
  (oVal (fMove G0) S11 <|
  oVal (fMove G1) S12 <|
  oVal (fLenS G12) S13 <|
  oVal (fSlS G11 (some G13) none) S14 <|
  oVal (fMove G14) S4 <|
  oVal (fMove (kon (.bool true))) S5 <|
  sRet)))
def c253 : Op8 := (oVal (fMove (kon (.str []))) S4 <|
  (sDraw <| dVal cP 0 (fMove G0) S7 <|
  dVal cP 1 (fNil G7) S8 <|
  dVal cP 2 (fFA 0 G8) S9 <|
  dVal (cL G9) 3 (fLoad1 G9) S10 <|
  dVal cP 4 (fLenS G10) S11 <|
  dVal cP 5 (fMove G0) S12 <|
  dVal cP 6 (fNil G12) S13 <|
  dVal cP 7 (fFA 0 G13) S14 <|
  dVal (cL G14) 8 (fLoad1 G14) S15 <|
  dVal cP 9 (fMove G1) S16 <|
  dCall cE 10 271 (fArgs [G15, G16]) S17 <|
  dVal cP 11 (fLenS G17) S18 <|
  dVal cP 12 (fInt subI G11 G18) S19 <|
  dVal cP 13 (fMove G19) S5 <|
  dEnd [0, 1, 3, 7, 15, 0, 32, 96, 224, 0, 992, 2016, 4095, 8191] (oVal (fMove G0) S20 <|
  oVal (fNil G20) S21 <|
  oVal (fFA 0 G21) S22 <|
  oVal (fLoad1 G22) S23 <|
  oVal (fMove G5) S24 <|
  oVal (fSlS G23 none (some G24)) S25 <|
  oVal (fMove G25) S6 <|
  (oVal (fMove G0) S26 <|
  oVal (fMove G0) S27 <|
  oVal (fNil G27) S28 <|
  oVal (fFA 0 G28) S29 <|
  oVal (fLoad1 G29) S30 <|
  oVal (fMove G5) S31 <|
  oVal (fSlS G30 (some G31) none) S32 <|
  oVal (fNil G26) S33 <|
  oVal (fFA 0 G33) S34 <|
  oUpd (fSt1 G34 G32) <|
  (oVal (fMove G6) S35 <|
  oVal (fMove G35) S4 <|
  sRet)))))
end
end Go.Ax
