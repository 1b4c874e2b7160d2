/- A part of the proof that GateNext of stetlaw20 answers true at every input: functions read once. Conditions: none. -/
import Derived.Test.YtepommncifphoaaGreatDoorTab
set_option linter.unusedVariables false
set_option linter.unusedSimpArgs false
set_option linter.unusedSectionVars false
namespace Go.Ax
open Go Go.Proofs
set_option maxRecDepth 1000000
noncomputable section
def c3 : Op8 := (oVal (fMove (kon (.bool false))) S4 <|
  (thenF (oCall 4 (fArgs []) S11 <|
  oVal (fNot G11) S12 <|
  (sCond G12 (oVal (fMove (kon (.bool false))) S4 <|
  sRet)
  oEnd))
  (thenF (oVal (fMove G0) S13 <|
  oVal (fInt ltI G13 (kon (.int .i64 0))) S14 <|
  oVal (fMove G14) S15 <|
  oGval (wntF G15 false) (fMove G0) S16 <|
  oGval (wntF G15 false) (fInt geI G16 (kon (.int .i64 40))) S17 <|
  oVal (fPick G15 (kon (.bool true)) G17) S18 <|
  (sCond G18 (oVal (fMove (kon (.bool true))) S4 <|
  sRet)
  oEnd))
  (oVal (fMove (kon (.str [108, 105, 110, 116, 45, 100, 105, 115, 97, 98, 108, 101, 45, 108, 105, 110, 101]))) S5 <|
  (oVal (fMove (kon (.int .i64 1))) S6 <|
  (thenF (oVal (fMove G1) S19 <|
  (sCond G19 (oVal (fMove (kon (.str [108, 105, 110, 116, 45, 100, 105, 115, 97, 98, 108, 101, 45, 110, 101, 120, 116, 45, 108, 105, 110, 101]))) S5 <|
  (oVal (fMove (kon (.int .i64 2))) S6 <|
  oEnd))
  oEnd))
  (sDraw <| dVal cP 0 (fMove G5) S21 <|
  gd cP 1 yesW (opAt 1 [u, u, u, u, u, u, z] Tryz.f3) <|
  gd cP 2 yesW (opAt 2 [u, u, u, u, u, u, z] Tryz.f3) <|
  dCall cE 3 6 (fArgs []) S24 <|
  dVal cP 4 (fMove G0) S25 <|
  dVal cP 5 (fIAs 4 G24 G25) S26 <|
  dVal cP 6 (fFA 0 G26) S27 <|
  dVal (cL G27) 7 (fLoad1 G27) S28 <|
  gd cP 8 yesW (opAt 8 [u, u, u, u, u, u, z] Tryz.f3) <|
  gd cP 9 yesW (opAt 9 [u, u, u, u, u, u, z] Tryz.f3) <|
  dCall cE 10 7 (fArgs []) S31 <|
  dCall cE 11 5 (fArgs [G30, G31]) S32 <|
  dVal cP 12 (fMove G32) S20 <|
  dVal cP 13 (fExt 0 G20) S33 <|
  dVal cP 14 (fExt 1 G20) S34 <|
  dVal cP 15 (fMove G33) S7 <|
  dVal cP 16 (fMove G34) S8 <|
  dEnd [0, 1, 3, 0, 0, 24, 56, 120, 255, 511, 8, 2047, 4095, 8191, 8191, 16383, 65535] (thenF (oVal (fMove G8) S35 <|
  oVal (fInt neI G35 (kon (.int .i64 0))) S36 <|
  oVal (fMove G36) S37 <|
  oGval (wntF G37 false) (fMove G7) S38 <|
  oGval (wntF G37 false) (fLenL G38) S39 <|
  oGval (wntF G37 false) (fInt neI G39 (kon (.int .i64 5))) S40 <|
  oVal (fPick G37 (kon (.bool true)) G40) S41 <|
  (sCond G41 (oVal (fMove (kon (.bool false))) S4 <|
  sRet)
  oEnd))
  (thenF (oVal (fMove (kon (.int .i64 0))) S9 <|
  (sBlock 0 (sLoop (thenF (oVal (fMove G9) S42 <|
  oVal (fMove G7) S43 <|
  oVal (fLenL G43) S44 <|
  oVal (fInt ltI G42 G44) S45 <|
  (sCond G45 oEnd
  (sExit 0)))
  (thenF (sBlock 1 (oVal (fMove (kon (.int .i64 0))) S10 <|
  (sBlock 2 (sLoop (thenF (oVal (fMove G10) S48 <|
  oVal (fInt ltI G48 (kon (.int .i64 40))) S49 <|
  (sCond G49 oEnd
  (sExit 2)))
  (thenF (sBlock 3 (oVal (fMove G7) S52 <|
  oVal (fMove G9) S53 <|
  oVal (fIAs 1 G52 G53) S54 <|
  oVal (fLoad1 G54) S55 <|
  oVal (fMove G10) S56 <|
  oVal (fIAs 1 G55 G56) S57 <|
  oVal (fLoad1 G57) S58 <|
  oVal (fMove G9) S59 <|
  oVal (fMove G6) S60 <|
  oVal (fInt neI G59 G60) S61 <|
  oVal (fMove G61) S62 <|
  oGval (wntF G62 false) (fMove G10) S63 <|
  oGval (wntF G62 false) (fMove G0) S64 <|
  oGval (wntF G62 false) (fInt neI G63 G64) S65 <|
  oVal (fPick G62 (kon (.bool true)) G65) S66 <|
  gn yesW (opAt 15 [u, u, u, u, u, u, u, u, z, u, z, z, u, z, z, u, z, z, u, z, z, z] Tryz.f3) <|
  (sCond G67 (oVal (fMove (kon (.bool false))) S4 <|
  sRet)
  oEnd)))
  (oVal (fMove G10) S50 <|
  oVal (fInt addI G50 (kon (.int .i64 1))) S51 <|
  oVal (fMove G51) S10 <|
  oEnd)))))))
  (oVal (fMove G9) S46 <|
  oVal (fInt addI G46 (kon (.int .i64 1))) S47 <|
  oVal (fMove G47) S9 <|
  oEnd))))))
  (oVal (fMove (kon (.bool true))) S4 <|
  sRet))))))))))
def c4 : Op8 := (oVal (fMove (kon (.bool false))) S0 <|
  (oCall 7 (fArgs []) S4 <|
  oCall 5 (fArgs [(kon (.str [97, 32, 60, 33, 45, 45, 32, 108, 105, 110, 116, 45, 100, 105, 115, 97, 98, 108, 101, 45, 108, 105, 110, 101, 32, 77, 68, 48, 48, 57, 32, 45, 45, 62, 32, 10, 98])), G4]) S5 <|
  oVal (fMove G5) S3 <|
  oVal (fExt 0 G3) S6 <|
  oVal (fExt 1 G3) S7 <|
  oVal (fMove G6) S1 <|
  oVal (fMove G7) S2 <|
  (oVal (fMove G2) S8 <|
  oVal (fIntE G8 (kon (.int .i64 0))) S9 <|
  oVal (fMove G9) S10 <|
  oGval (wntF G10 true) (fMove G1) S11 <|
  oGval (wntF G10 true) (fLenL G11) S12 <|
  oGval (wntF G10 true) (fIntE G12 (kon (.int .i64 3))) S13 <|
  oVal (fPick G10 G13 (kon (.bool false))) S14 <|
  oVal (fMove G14) S15 <|
  oGval (wntF G15 true) (fMove G1) S16 <|
  oGval (wntF G15 true) (fIAs 1 G16 (kon (.int .i64 0))) S17 <|
  oGval (wntF G15 true) (fLoad1 G17) S18 <|
  oGval (wntF G15 true) (fLenL G18) S19 <|
  oGval (wntF G15 true) (fIntE G19 (kon (.int .i64 40))) S20 <|
  oVal (fPick G15 G20 (kon (.bool false))) S21 <|
  oVal (fMove G21) S22 <|
  oGval (wntF G22 true) (fMove G1) S23 <|
  oGval (wntF G22 true) (fIAs 1 G23 (kon (.int .i64 0))) S24 <|
  oGval (wntF G22 true) (fLoad1 G24) S25 <|
  oGval (wntF G22 true) (fIAs 1 G25 (kon (.int .i64 4))) S26 <|
  oGval (wntF G22 true) (fLoad1 G26) S27 <|
  oGval (wntF G22 true) (fNot G27) S28 <|
  oVal (fPick G22 G28 (kon (.bool false))) S29 <|
  oVal (fMove G29) S30 <|
  oGval (wntF G30 true) (fMove G1) S31 <|
  oGval (wntF G30 true) (fIAs 1 G31 (kon (.int .i64 1))) S32 <|
  oGval (wntF G30 true) (fLoad1 G32) S33 <|
  oGval (wntF G30 true) (fIAs 1 G33 (kon (.int .i64 4))) S34 <|
  oGval (wntF G30 true) (fLoad1 G34) S35 <|
  oVal (fPick G30 G35 (kon (.bool false))) S36 <|
  oVal (fMove G36) S37 <|
  oGval (wntF G37 true) (fMove G1) S38 <|
  oGval (wntF G37 true) (fIAs 1 G38 (kon (.int .i64 0))) S39 <|
  oGval (wntF G37 true) (fLoad1 G39) S40 <|
  oGval (wntF G37 true) (fIAs 1 G40 (kon (.int .i64 5))) S41 <|
  oGval (wntF G37 true) (fLoad1 G41) S42 <|
  oVal (fPick G37 G42 (kon (.bool false))) S43 <|
  oVal (fMove G43) S0 <|
  sRet)))
def c5 : Op8 := (gn yesW (opAt 0 [z] Tryz.f5) <|
  oVal (fMove (kon .nils)) S4 <|
  oVal (fMove (kon (.int .i64 0))) S5 <|
  (oVal (fMove G0) S24 <|
  oCall 8 (fArgs [G24]) S25 <|
  oVal (fMove G25) S23 <|
  oVal (fExt 0 G23) S26 <|
  oVal (fExt 1 G23) S27 <|
  oVal (fExt 2 G23) S28 <|
  gn yesW (opAt 6 [u, z] Tryz.f5) <|
  oUpd (fSt tb 40 G6 G26) <|
  oVal (fMove G27) S7 <|
  oVal (fMove G28) S8 <|
  (thenF (oVal (fMove G8) S29 <|
  oVal (fInt neI G29 (kon (.int .i64 0))) S30 <|
  (sCond G30 (oVal (fMove G8) S31 <|
  oVal (fMove (kon .nils)) S4 <|
  oVal (fMove G31) S5 <|
  sRet)
  oEnd))
  (thenF (sDraw <| dVal cP 0 (fFA 0 G3) S32 <|
  dVal (cL G32) 1 (fLoad1 G32) S33 <|
  dVal cP 2 (fLenL G33) S34 <|
  dCall cE 3 9 (fArgs []) S35 <|
  dVal cP 4 (fLenL G35) S36 <|
  dVal cP 5 (fInt neI G34 G36) S37 <|
  dEnd [0, 1, 3, 0, 8, 31] (sCond G37 (oVal (fMove (kon .nils)) S4 <|
  oVal (fMove (kon (.int .i64 51))) S5 <|
  sRet)
  oEnd))
  (oVal (fMove (kon (.fn (.func 10) [] []))) S9 <|
  (gn yesW (opAt 0 [u, u, u, u, u, z] Tryz.f5) <|
  oVal (fMove G38) S10 <|
  (oVal (fFA 0 G3) S39 <|
  oVal (fLoad1 G39) S40 <|
  oVal (fLenL G40) S41 <|
  gn yesW (opAt 3 [u, u, u, u, u, u, z] Tryz.f5) <|
  oVal (fMove G42) S11 <|
  (thenF (oVal (fMove G11) S43 <|
  oVal (fLenL G43) S44 <|
  oVal (fMove (kon (.int .i64 0))) S45 <|
  (sBlock 0 (sLoop (oVal (fInt ltI G45 G44) S46 <|
  (thenF (sCond G46 oEnd
  (sExit 0))
  (thenF (sBlock 1 (oVal (fMove G45) S47 <|
  oVal (fMove G47) S12 <|
  (oVal (fMove G11) S48 <|
  oVal (fMove G12) S49 <|
  oVal (fMove G10) S50 <|
  oVal (fMove G12) S51 <|
  gn yesW (opAt 4 [u, u, u, u, u, u, u, z, u, z, z, u, u, z, z, u] Tryz.f5) <|
  oVal (fIAs 1 G48 G49) S53 <|
  oUpd (fSt1 G53 G52) <|
  oEnd)))
  (oVal (fInt addI G45 (kon (.int .i64 1))) S54 <|
  oVal (fMove G54) S45 <|
  oEnd)))))))
  (oVal (fMove G0) S55 <|
  oVal (fLoadN 1 G6) S56 <|
  oCall 12 (fArgs [G55, G56]) S57 <|
  oVal (fMove G57) S13 <|
  (oVal (fMove (kon .nils)) S14 <|
  (thenF (oVal (fMove G0) S58 <|
  oCall 13 (fArgs [G58]) S59 <|
  oVal (fLenL G59) S60 <|
  oVal (fInt addI G60 (kon (.int .i64 1))) S61 <|
  oVal (fMove (kon (.int .i64 0))) S62 <|
  (sBlock 2 (sLoop (oVal (fInt ltI G62 G61) S63 <|
  (thenF (sCond G63 oEnd
  (sExit 2))
  (thenF (sBlock 3 (oVal (fMove G62) S64 <|
  oVal (fMove G64) S15 <|
  (thenF (oVal (fMove G13) S65 <|
  oVal (fMove G15) S66 <|
  gn yesW (opAt 2 [u, u, u, u, u, u, u, u, u, u, z, u, z, z, u, u, z, z, u, z, z] Tryz.f5) <|
  oVal (fLenL G67) S68 <|
  oVal (fMove (kon (.int .i64 0))) S69 <|
  (sBlock 4 (sLoop (oVal (fInt ltI G69 G68) S70 <|
  (thenF (sCond G70 oEnd
  (sExit 4))
  (thenF (sBlock 5 (oVal (fIAs 2 G67 G69) S71 <|
  oVal (fLoadN 2 G71) S72 <|
  gn yesW (opAt 2 [u, u, u, u, u, u, u, u, u, u, z, u, z, z, u, u, z, z, u, z, u, z, z, u, u, z, z, z] Tryz.f5) <|
  oUpd (fSt tb 54 G17 G72) <|
  (oVal (fFA 0 G17) S73 <|
  oVal (fLoad1 G73) S74 <|
  (sBlock 6 (gn yesW (opAt 0 [u, u, u, u, u, u, u, u, u, u, z, u, z, z, u, u, z, z, u, z, u, z, z, u, u, z, z, u, u, z, z] Tryz.f5) <|
  oVal (fMove G76) S75 <|
  (sCond G75 (oVal (fMove G11) S77 <|
  oVal (fFA 1 G17) S78 <|
  oVal (fLoad1 G78) S79 <|
  oVal (fMove G9) S80 <|
  oCall 14 (fArgs [G77, G79, G80]) S81 <|
  oEnd)
  (gn yesW (opAt 0 [u, u, u, u, u, u, u, u, u, u, z, u, z, z, u, u, z, z, u, z, u, z, z, u, u, z, z, u, u, z, u, u, z] Tryz.f5) <|
  oVal (fMove G83) S82 <|
  (sCond G82 (oVal (fMove G11) S84 <|
  oVal (fFA 1 G17) S85 <|
  oVal (fLoad1 G85) S86 <|
  oVal (fMove G10) S87 <|
  oCall 14 (fArgs [G84, G86, G87]) S88 <|
  oEnd)
  oEnd))))))))
  (oVal (fInt addI G69 (kon (.int .i64 1))) S89 <|
  oVal (fMove G89) S69 <|
  oEnd)))))))
  (oVal (fMove G11) S90 <|
  oCall 15 (fArgs [G90]) S91 <|
  oVal (fMove G91) S18 <|
  (thenF (oVal (fMove G13) S92 <|
  oVal (fMove G15) S93 <|
  gn yesW (opAt 2 [u, u, u, u, u, u, u, u, u, u, z, u, z, z, u, u, z, z, u, u, u, z, z] Tryz.f5) <|
  oVal (fLenL G94) S95 <|
  oVal (fMove (kon (.int .i64 0))) S96 <|
  (sBlock 7 (sLoop (oVal (fInt ltI G96 G95) S97 <|
  (thenF (sCond G97 oEnd
  (sExit 7))
  (thenF (sBlock 8 (oVal (fIAs 2 G94 G96) S98 <|
  oVal (fLoadN 2 G98) S99 <|
  gn yesW (opAt 2 [u, u, u, u, u, u, u, u, u, u, z, u, z, z, u, u, z, z, u, u, u, z, u, z, z, u, u, z, z, z] Tryz.f5) <|
  oUpd (fSt tb 54 G20 G99) <|
  (oVal (fFA 0 G20) S100 <|
  oVal (fLoad1 G100) S101 <|
  gn yesW (opAt 2 [u, u, u, u, u, u, u, u, u, u, z, u, z, z, u, u, z, z, u, u, u, z, u, z, z, u, u, z, z, u, z] Tryz.f5) <|
  (sCond G102 (oVal (fMove G18) S103 <|
  oVal (fFA 1 G20) S104 <|
  oVal (fLoad1 G104) S105 <|
  oVal (fMove G9) S106 <|
  oCall 14 (fArgs [G103, G105, G106]) S107 <|
  oEnd)
  oEnd))))
  (oVal (fInt addI G96 (kon (.int .i64 1))) S108 <|
  oVal (fMove G108) S96 <|
  oEnd)))))))
  (thenF (oVal (fMove G13) S109 <|
  oVal (fMove G15) S110 <|
  oVal (fInt subI G110 (kon (.int .i64 1))) S111 <|
  gn yesW (opAt 3 [u, u, u, u, u, u, u, u, u, u, z, u, z, z, u, u, z, z, u, u, u, u, z, z] Tryz.f5) <|
  oVal (fLenL G112) S113 <|
  oVal (fMove (kon (.int .i64 0))) S114 <|
  (sBlock 9 (sLoop (oVal (fInt ltI G114 G113) S115 <|
  (thenF (sCond G115 oEnd
  (sExit 9))
  (thenF (sBlock 10 (oVal (fIAs 2 G112 G114) S116 <|
  oVal (fLoadN 2 G116) S117 <|
  gn yesW (opAt 2 [u, u, u, u, u, u, u, u, u, u, z, u, z, z, u, u, z, z, u, u, u, u, z, u, z, z, u, u, z, z, z] Tryz.f5) <|
  oUpd (fSt tb 54 G22 G117) <|
  (oVal (fFA 0 G22) S118 <|
  oVal (fLoad1 G118) S119 <|
  gn yesW (opAt 2 [u, u, u, u, u, u, u, u, u, u, z, u, z, z, u, u, z, z, u, u, u, u, z, u, z, z, u, u, z, z, u, z] Tryz.f5) <|
  (sCond G120 (oVal (fMove G18) S121 <|
  oVal (fFA 1 G22) S122 <|
  oVal (fLoad1 G122) S123 <|
  oVal (fMove G9) S124 <|
  oCall 14 (fArgs [G121, G123, G124]) S125 <|
  oEnd)
  oEnd))))
  (oVal (fInt addI G114 (kon (.int .i64 1))) S126 <|
  oVal (fMove G126) S114 <|
  oEnd)))))))
  (oVal (fMove G14) S127 <|
  oVal (fMove G18) S128 <|
  gn yesW (opAt 2 [u, u, u, u, u, u, u, u, u, u, z, u, z, z, u, u, z, z, u, u, u, u, u] Tryz.f5) <|
  gn yesW (opAt 3 [u, u, u, u, u, u, u, u, u, u, z, u, z, z, u, u, z, z, u, u, u, u, u] Tryz.f5) <|
  oVal (fMove G130) S14 <|
  oEnd)))))))
  (oVal (fInt addI G62 (kon (.int .i64 1))) S131 <|
  oVal (fMove G131) S62 <|
  oEnd)))))))
  (oVal (fMove G14) S132 <|
  oVal (fMove G132) S4 <|
  oVal (fMove (kon (.int .i64 0))) S5 <|
  sRet))))))))))))
def c6 : Op8 := (oVal (fMove (kon .nils)) S0 <|
  (gn yesW (opAt 0 [u, z] Tryz.f6) <|
  gn yesW (opAt 1 [u, z] Tryz.f6) <|
  oUpd (fSt tb 57 G1 G6) <|
  (gn yesW (opAt 0 [u, u, z] Tryz.f6) <|
  gn yesW (opAt 1 [u, u, z] Tryz.f6) <|
  oUpd (fSt tb 58 G2 G7) <|
  (gn yesW (opAt 0 [u, u, u, z] Tryz.f6) <|
  oVal (fMove G8) S3 <|
  (thenF (oVal (fMove (kon (.int .i64 0))) S4 <|
  (sBlock 0 (sLoop (thenF (oVal (fMove G4) S9 <|
  oVal (fInt ltI G9 (kon (.int .i64 40))) S10 <|
  (sCond G10 oEnd
  (sExit 0)))
  (thenF (sBlock 1 (oVal (fMove G4) S13 <|
  oVal (fIAa 40 1 G1 G13) S14 <|
  oVal (fLoad1 G14) S15 <|
  oCall 16 (fArgs [G15]) S16 <|
  oVal (fMove G16) S5 <|
  (sDraw <| dVal cP 0 (fMove G3) S17 <|
  dVal cP 1 (fMove G5) S18 <|
  dVal cP 2 (fIAs 1 G18 (kon (.int .i64 0))) S19 <|
  dVal (cL G19) 3 (fLoad1 G19) S20 <|
  dVal cP 4 (fMove G5) S21 <|
  dVal cP 5 (fIAs 1 G21 (kon (.int .i64 1))) S22 <|
  dVal (cL G22) 6 (fLoad1 G22) S23 <|
  dVal cP 7 (fMove G5) S24 <|
  gd cE 8 yesW (opAt 8 [u, u, u, u, z, u, z, z, u, z, z, u] Tryz.f6) <|
  dVal cP 9 (fMove G4) S26 <|
  dVal cP 10 (fIAa 40 1 G2 G26) S27 <|
  dVal (cL G27) 11 (fLoad1 G27) S28 <|
  gd cP 12 yesW (opAt 12 [u, u, u, u, z, u, z, z, u, z, z, u] Tryz.f6) <|
  gd cN 13 yesW (opAt 13 [u, u, u, u, z, u, z, z, u, z, z, u] Tryz.f6) <|
  gd cE 14 yesW (opAt 14 [u, u, u, u, z, u, z, z, u, z, z, u] Tryz.f6) <|
  dVal cP 15 (fMove G31) S3 <|
  dEnd [0, 0, 2, 6, 0, 16, 48, 0, 128, 0, 512, 1536, 4094, 8190, 16383, 32767] oEnd)))
  (oVal (fMove G4) S11 <|
  oVal (fInt addI G11 (kon (.int .i64 1))) S12 <|
  oVal (fMove G12) S4 <|
  oEnd))))))
  (oVal (fMove G3) S32 <|
  oVal (fMove G32) S0 <|
  sRet))))))
def c7 : Op8 := (gn yesW (opAt 0 [z] Tryz.f7) <|
  (gn yesW (opAt 0 [u, z] Tryz.f7) <|
  (oCall 17 (fArgs []) S7 <|
  oVal (fMove G7) S2 <|
  (thenF (oCall 9 (fArgs []) S8 <|
  oVal (fLenL G8) S9 <|
  oVal (fMove (kon (.int .i64 0))) S10 <|
  (sBlock 0 (sLoop (oVal (fInt ltI G10 G9) S11 <|
  (thenF (sCond G11 oEnd
  (sExit 0))
  (thenF (sBlock 1 (oVal (fIAs 4 G8 G10) S12 <|
  oVal (fLoadN 4 G12) S13 <|
  gn yesW (opAt 2 [u, u, u, z, u, z, z, u, u, z, z, z] Tryz.f7) <|
  oUpd (fSt tb 29 G4 G13) <|
  (oVal (fMove G2) S14 <|
  oVal (fFA 0 G4) S15 <|
  oVal (fLoad1 G15) S16 <|
  gn yesW (opAt 3 [u, u, u, z, u, z, z, u, u, z, z, u, z] Tryz.f7) <|
  gn yesW (opAt 4 [u, u, u, z, u, z, z, u, u, z, z, u, z] Tryz.f7) <|
  oUpd (fSt tb 63 G5 G17) <|
  (oVal (fFA 1 G5) S18 <|
  oVal (fLoad1 G18) S19 <|
  gn yesW (opAt 2 [u, u, u, z, u, z, z, u, u, z, z, u, u, z] Tryz.f7) <|
  gn yesW (opAt 3 [u, u, u, z, u, z, z, u, u, z, z, u, u, z] Tryz.f7) <|
  oUpd (fSt tb 46 G6 G20) <|
  (thenF (oVal (fFA 2 G5) S21 <|
  oVal (fLoad1 G21) S22 <|
  oVal (fLenL G22) S23 <|
  oVal (fInt gtI G23 (kon (.int .i64 0))) S24 <|
  (sCond G24 (oVal (fFA 2 G5) S25 <|
  oVal (fLoad1 G25) S26 <|
  oVal (fIAs 1 G26 (kon (.int .i64 0))) S27 <|
  oVal (fLoad1 G27) S28 <|
  oVal (fFA 2 G6) S29 <|
  oUpd (fSt1 G29 G28) <|
  oEnd)
  oEnd))
  (oVal (fFA 0 G1) S30 <|
  oVal (fLoad1 G30) S31 <|
  oVal (fLoadN 3 G6) S32 <|
  gn yesW (opAt 3 [u, u, u, z, u, z, z, u, u, z, z, u, u, u, u] Tryz.f7) <|
  gn yesW (opAt 4 [u, u, u, z, u, z, z, u, u, z, z, u, u, u, u] Tryz.f7) <|
  oVal (fFA 0 G1) S35 <|
  oUpd (fSt1 G35 G34) <|
  oEnd))))))
  (oVal (fInt addI G10 (kon (.int .i64 1))) S36 <|
  oVal (fMove G36) S10 <|
  oEnd)))))))
  (oVal (fLoadN 1 G1) S37 <|
  oUpd (fSt tb 34 G0 G37) <|
  sRet)))))
def c8 : Op8 := (gn yesW (opAt 0 [z] Tryz.f8) <|
  oVal (fMove (kon .nils)) S3 <|
  oVal (fMove (kon (.int .i64 0))) S4 <|
  (thenF (oVal (fMove G0) S16 <|
  oVal (fLenS G16) S17 <|
  oVal (fInt gtI G17 (kon (.int .i64 1048576))) S18 <|
  (sCond G18 (gn yesW (opAt 0 [u, z, u, z, z] Tryz.f8) <|
  oUpd (fSt tb 40 G2 G19) <|
  oVal (fMove (kon .nils)) S3 <|
  oVal (fMove (kon (.int .i64 10))) S4 <|
  sRet)
  oEnd))
  (oVal (fMove G0) S21 <|
  oCall 18 (fArgs [G21]) S22 <|
  oVal (fMove G22) S20 <|
  oVal (fExt 0 G20) S23 <|
  oVal (fExt 1 G20) S24 <|
  gn yesW (opAt 5 [u, u, z] Tryz.f8) <|
  oUpd (fSt tb 40 G5 G23) <|
  oVal (fMove G24) S6 <|
  (oVal (fMove G0) S25 <|
  oVal (fMove G6) S26 <|
  gn yesW (opAt 2 [u, u, u, z] Tryz.f8) <|
  gn yesW (opAt 3 [u, u, u, z] Tryz.f8) <|
  oVal (fMove G28) S7 <|
  (thenF (oVal (fFA 0 G5) S29 <|
  oVal (fLoad1 G29) S30 <|
  oVal (fLenL G30) S31 <|
  oVal (fMove (kon (.int .i64 0))) S32 <|
  (sBlock 0 (sLoop (oVal (fInt ltI G32 G31) S33 <|
  (thenF (sCond G33 oEnd
  (sExit 0))
  (thenF (sBlock 1 (oVal (fIAs 10 G30 G32) S34 <|
  oVal (fLoadN 10 G34) S35 <|
  gn yesW (opAt 2 [u, u, u, u, z, u, z, z, u, u, z, z, z] Tryz.f8) <|
  oUpd (fSt tb 71 G9 G35) <|
  (oVal (fMove G7) S36 <|
  oVal (fLoadN 10 G9) S37 <|
  oCall 19 (fArgs [G36, G37]) S38 <|
  oEnd)))
  (oVal (fInt addI G32 (kon (.int .i64 1))) S39 <|
  oVal (fMove G39) S32 <|
  oEnd)))))))
  (thenF (oVal (fMove G7) S40 <|
  oVal (fNil G40) S41 <|
  oVal (fFA 3 G41) S42 <|
  oVal (fLoad1 G42) S43 <|
  oVal (fLenL G43) S44 <|
  oVal (fMove (kon (.int .i64 0))) S45 <|
  (sBlock 2 (sLoop (oVal (fInt ltI G45 G44) S46 <|
  (thenF (sCond G46 oEnd
  (sExit 2))
  (thenF (sBlock 3 (oVal (fIAs 1 G43 G45) S47 <|
  oVal (fLoad1 G47) S48 <|
  oVal (fMove G48) S11 <|
  (oVal (fMove G7) S49 <|
  oVal (fNil G49) S50 <|
  oVal (fFA 2 G50) S51 <|
  oVal (fLoad1 G51) S52 <|
  oVal (fMove G11) S53 <|
  oVal (fIAs 10 G52 G53) S54 <|
  oVal (fMove G54) S12 <|
  (thenF (oVal (fMove G12) S55 <|
  oVal (fNil G55) S56 <|
  oVal (fFA 0 G56) S57 <|
  oVal (fLoad1 G57) S58 <|
  oVal (fIntE G58 (kon (.int .i64 5))) S59 <|
  oVal (fMove G59) S60 <|
  oGval (wntF G60 false) (fMove G12) S61 <|
  oGval (wntF G60 false) (fNil G61) S62 <|
  oGval (wntF G60 false) (fFA 0 G62) S63 <|
  oGval (wntF G60 false) (fLoad1 G63) S64 <|
  oGval (wntF G60 false) (fIntE G64 (kon (.int .i64 6))) S65 <|
  oVal (fPick G60 (kon (.bool true)) G65) S66 <|
  (sCond G66 (sExit 3)
  oEnd))
  (oVal (fMove (kon .nils)) S13 <|
  (thenF (oVal (fMove G12) S67 <|
  oVal (fNil G67) S68 <|
  oVal (fFA 8 G68) S69 <|
  oVal (fLoad1 G69) S70 <|
  oVal (fLenL G70) S71 <|
  oVal (fMove (kon (.int .i64 0))) S72 <|
  (sBlock 4 (sLoop (oVal (fInt ltI G72 G71) S73 <|
  (thenF (sCond G73 oEnd
  (sExit 4))
  (thenF (sBlock 5 (oVal (fIAs 1 G70 G72) S74 <|
  oVal (fLoad1 G74) S75 <|
  oVal (fMove G75) S15 <|
  (oVal (fMove G13) S76 <|
  oVal (fMove G7) S77 <|
  oVal (fNil G77) S78 <|
  oVal (fFA 3 G78) S79 <|
  oVal (fLoad1 G79) S80 <|
  oVal (fMove G15) S81 <|
  oVal (fIAs 1 G80 G81) S82 <|
  oVal (fLoad1 G82) S83 <|
  gn yesW (opAt 8 [u, u, u, u, u, z, u, z, z, u, u, z, z, u, u, u, u, z, u, z, z, u, u, z, z, u] Tryz.f8) <|
  gn yesW (opAt 9 [u, u, u, u, u, z, u, z, z, u, u, z, z, u, u, u, u, z, u, z, z, u, u, z, z, u] Tryz.f8) <|
  oVal (fMove G85) S13 <|
  oEnd)))
  (oVal (fInt addI G72 (kon (.int .i64 1))) S86 <|
  oVal (fMove G86) S72 <|
  oEnd)))))))
  (oVal (fMove G12) S87 <|
  oVal (fMove G13) S88 <|
  oVal (fNil G87) S89 <|
  oVal (fFA 8 G89) S90 <|
  oUpd (fSt1 G90 G88) <|
  oEnd)))))))
  (oVal (fInt addI G45 (kon (.int .i64 1))) S91 <|
  oVal (fMove G91) S45 <|
  oEnd)))))))
  (oVal (fMove G7) S92 <|
  oVal (fNil G92) S93 <|
  oVal (fFA 2 G93) S94 <|
  oVal (fLoad1 G94) S95 <|
  gn yesW (opAt 4 [u, u, u, u, u, u, z] Tryz.f8) <|
  oVal (fMove G6) S97 <|
  oUpd (fSt tb 40 G2 G96) <|
  oVal (fMove G97) S3 <|
  oVal (fMove (kon (.int .i64 0))) S4 <|
  sRet)))))))
def c9 : Op8 := (oVal (fMove (kon .nils)) S0 <|
  (gn yesW (opAt 0 [u, z] Tryz.f9) <|
  gn yesW (opAt 1 [u, z] Tryz.f9) <|
  gn yesW (opAt 2 [u, z] Tryz.f9) <|
  gn yesW (opAt 3 [u, z] Tryz.f9) <|
  gn yesW (opAt 4 [u, z] Tryz.f9) <|
  gn yesW (opAt 5 [u, z] Tryz.f9) <|
  gn yesW (opAt 6 [u, z] Tryz.f9) <|
  gn yesW (opAt 7 [u, z] Tryz.f9) <|
  gn yesW (opAt 8 [u, z] Tryz.f9) <|
  gn yesW (opAt 9 [u, z] Tryz.f9) <|
  gn yesW (opAt 10 [u, z] Tryz.f9) <|
  gn yesW (opAt 11 [u, z] Tryz.f9) <|
  gn yesW (opAt 12 [u, z] Tryz.f9) <|
  gn yesW (opAt 13 [u, z] Tryz.f9) <|
  gn yesW (opAt 14 [u, z] Tryz.f9) <|
  gn yesW (opAt 15 [u, z] Tryz.f9) <|
  gn yesW (opAt 16 [u, z] Tryz.f9) <|
  gn yesW (opAt 17 [u, z] Tryz.f9) <|
  gn yesW (opAt 18 [u, z] Tryz.f9) <|
  gn yesW (opAt 19 [u, z] Tryz.f9) <|
  gn yesW (opAt 20 [u, z] Tryz.f9) <|
  gn yesW (opAt 21 [u, z] Tryz.f9) <|
  gn yesW (opAt 22 [u, z] Tryz.f9) <|
  gn yesW (opAt 23 [u, z] Tryz.f9) <|
  gn yesW (opAt 24 [u, z] Tryz.f9) <|
  gn yesW (opAt 25 [u, z] Tryz.f9) <|
  gn yesW (opAt 26 [u, z] Tryz.f9) <|
  gn yesW (opAt 27 [u, z] Tryz.f9) <|
  gn yesW (opAt 28 [u, z] Tryz.f9) <|
  gn yesW (opAt 29 [u, z] Tryz.f9) <|
  gn yesW (opAt 30 [u, z] Tryz.f9) <|
  gn yesW (opAt 31 [u, z] Tryz.f9) <|
  gn yesW (opAt 32 [u, z] Tryz.f9) <|
  gn yesW (opAt 33 [u, z] Tryz.f9) <|
  gn yesW (opAt 34 [u, z] Tryz.f9) <|
  gn yesW (opAt 35 [u, z] Tryz.f9) <|
  gn yesW (opAt 36 [u, z] Tryz.f9) <|
  gn yesW (opAt 37 [u, z] Tryz.f9) <|
  gn yesW (opAt 38 [u, z] Tryz.f9) <|
  gn yesW (opAt 39 [u, z] Tryz.f9) <|
  gn yesW (opAt 40 [u, z] Tryz.f9) <|
  gn yesW (opAt 41 [u, z] Tryz.f9) <|
  gn yesW (opAt 42 [u, z] Tryz.f9) <|
  gn yesW (opAt 43 [u, z] Tryz.f9) <|
  gn yesW (opAt 44 [u, z] Tryz.f9) <|
  gn yesW (opAt 45 [u, z] Tryz.f9) <|
  gn yesW (opAt 46 [u, z] Tryz.f9) <|
  gn yesW (opAt 47 [u, z] Tryz.f9) <|
  gn yesW (opAt 48 [u, z] Tryz.f9) <|
  gn yesW (opAt 49 [u, z] Tryz.f9) <|
  gn yesW (opAt 50 [u, z] Tryz.f9) <|
  gn yesW (opAt 51 [u, z] Tryz.f9) <|
  gn yesW (opAt 52 [u, z] Tryz.f9) <|
  gn yesW (opAt 53 [u, z] Tryz.f9) <|
  gn yesW (opAt 54 [u, z] Tryz.f9) <|
  gn yesW (opAt 55 [u, z] Tryz.f9) <|
  gn yesW (opAt 56 [u, z] Tryz.f9) <|
  gn yesW (opAt 57 [u, z] Tryz.f9) <|
  gn yesW (opAt 58 [u, z] Tryz.f9) <|
  gn yesW (opAt 59 [u, z] Tryz.f9) <|
  gn yesW (opAt 60 [u, z] Tryz.f9) <|
  gn yesW (opAt 61 [u, z] Tryz.f9) <|
  gn yesW (opAt 62 [u, z] Tryz.f9) <|
  gn yesW (opAt 63 [u, z] Tryz.f9) <|
  gn yesW (opAt 64 [u, z] Tryz.f9) <|
  gn yesW (opAt 65 [u, z] Tryz.f9) <|
  gn yesW (opAt 66 [u, z] Tryz.f9) <|
  gn yesW (opAt 67 [u, z] Tryz.f9) <|
  gn yesW (opAt 68 [u, z] Tryz.f9) <|
  gn yesW (opAt 69 [u, z] Tryz.f9) <|
  gn yesW (opAt 70 [u, z] Tryz.f9) <|
  gn yesW (opAt 71 [u, z] Tryz.f9) <|
  gn yesW (opAt 72 [u, z] Tryz.f9) <|
  gn yesW (opAt 73 [u, z] Tryz.f9) <|
  gn yesW (opAt 74 [u, z] Tryz.f9) <|
  gn yesW (opAt 75 [u, z] Tryz.f9) <|
  gn yesW (opAt 76 [u, z] Tryz.f9) <|
  gn yesW (opAt 77 [u, z] Tryz.f9) <|
  gn yesW (opAt 78 [u, z] Tryz.f9) <|
  gn yesW (opAt 79 [u, z] Tryz.f9) <|
  gn yesW (opAt 80 [u, z] Tryz.f9) <|
  oVal (fMove G81) S0 <|
  sRet))
def c10 : Op8 := (oVal (fMove (kon (.bool false))) S2 <|
  (oVal (fMove (kon (.bool false))) S2 <|
  sRet))
def c11 : Op8 := (oVal (fMove (kon (.bool false))) S3 <|
  (oVal (fFA 0 G1) S4 <|
  oVal (fLoad1 G4) S5 <|
  oVal (fMove G0) S6 <|
  oVal (fIAs 3 G5 G6) S7 <|
  oVal (fFA 0 G7) S8 <|
  oVal (fLoad1 G8) S9 <|
  oVal (fMove G9) S3 <|
  sRet))
def c12 : Op8 := (gn yesW (opAt 0 [z] Tryz.f12) <|
  oVal (fMove (kon .nilm)) S4 <|
  (gn yesW (opAt 0 [u, z] Tryz.f12) <|
  gn yesW (opAt 1 [u, z] Tryz.f12) <|
  oUpd (fSt1 G5 G10) <|
  (thenF (oVal (fFA 0 G3) S11 <|
  oVal (fLoad1 G11) S12 <|
  oVal (fLenL G12) S13 <|
  oVal (fMove (kon (.int .i64 0))) S14 <|
  (sBlock 0 (sLoop (oVal (fInt ltI G14 G13) S15 <|
  (thenF (sCond G15 oEnd
  (sExit 0))
  (thenF (sBlock 1 (oVal (fIAs 10 G12 G14) S16 <|
  oVal (fLoadN 10 G16) S17 <|
  gn yesW (opAt 2 [u, u, z, u, z, z, u, u, z, z, z] Tryz.f12) <|
  oUpd (fSt tb 71 G7 G17) <|
  (thenF (oVal (fFA 0 G7) S18 <|
  oVal (fLoad1 G18) S19 <|
  oVal (fInt neI G19 (kon (.int .i64 9))) S20 <|
  oVal (fMove G20) S21 <|
  oGval (wntF G21 true) (fFA 0 G7) S22 <|
  oGval (wntF G21 true) (fLoad1 G22) S23 <|
  oGval (wntF G21 true) (fInt neI G23 (kon (.int .i64 18))) S24 <|
  oVal (fPick G21 G24 (kon (.bool false))) S25 <|
  oVal (fMove G25) S26 <|
  oGval (wntF G26 false) (fFA 4 G7) S27 <|
  oGval (wntF G26 false) (fLoad1 G27) S28 <|
  oGcall (wntF G26 false) 20 (fArgs [G28, (kon (.str [108, 105, 110, 116, 45]))]) S29 <|
  oGval (wntF G26 false) (fNot G29) S30 <|
  oVal (fPick G26 (kon (.bool true)) G30) S31 <|
  (sCond G31 (sExit 1)
  oEnd))
  (oVal (fMove G0) S33 <|
  oVal (fFA 1 G7) S34 <|
  oVal (fLoad1 G34) S35 <|
  oCall 21 (fArgs [G33, G35]) S36 <|
  oVal (fMove G36) S32 <|
  oVal (fExt 0 G32) S37 <|
  oVal (fExt 1 G32) S38 <|
  gn yesW (opAt 7 [u, u, z, u, z, z, u, u, z, z, u, u, z] Tryz.f12) <|
  oUpd (fSt tb 76 G8 G37) <|
  oVal (fMove G38) S9 <|
  (oVal (fFA 4 G7) S39 <|
  oVal (fLoad1 G39) S40 <|
  gn yesW (opAt 2 [u, u, z, u, z, z, u, u, z, z, u, u, u] Tryz.f12) <|
  oCall 22 (fArgs [G40, G41]) S42 <|
  oEnd)))))
  (oVal (fInt addI G14 (kon (.int .i64 1))) S43 <|
  oVal (fMove G43) S14 <|
  oEnd)))))))
  (oVal (fLoad1 G5) S44 <|
  oVal (fMove G44) S4 <|
  sRet))))
def c13 : Op8 := (oVal (fMove (kon .nils)) S2 <|
  (oVal (fMove (kon .nils)) S3 <|
  (thenF (oVal (fMove (kon (.int .i64 0))) S4 <|
  (sBlock 0 (sLoop (thenF (oVal (fMove G4) S7 <|
  oVal (fMove G0) S8 <|
  oVal (fLenS G8) S9 <|
  oVal (fInt ltI G7 G9) S10 <|
  (sCond G10 oEnd
  (sExit 0)))
  (sBlock 1 (oVal (fMove G4) S11 <|
  oVal (fMove G0) S12 <|
  oVal (fLenS G12) S13 <|
  oVal (fMove G0) S14 <|
  oVal (fLenS G14) S15 <|
  gn yesW (opAt 5 [u, u, z, u, z, z, u, z, z] Tryz.f13) <|
  gn yesW (opAt 6 [u, u, z, u, z, z, u, z, z] Tryz.f13) <|
  oUpd (fSt tb 82 G5 G16) <|
  (thenF (oVal (fMove G0) S17 <|
  oVal (fMove G4) S18 <|
  oVal (fSlS G17 (some G18) none) S19 <|
  oCall 24 (fArgs [G19, (kon (.str [13, 10]))]) S20 <|
  oVal (fMove G20) S6 <|
  (oVal (fMove G6) S21 <|
  oVal (fInt geI G21 (kon (.int .i64 0))) S22 <|
  (sCond G22 (oVal (fMove G4) S23 <|
  oVal (fMove G6) S24 <|
  oVal (fInt addI G23 G24) S25 <|
  oVal (fFA 1 G5) S26 <|
  oUpd (fSt1 G26 G25) <|
  (oVal (fFA 1 G5) S27 <|
  oVal (fLoad1 G27) S28 <|
  oVal (fInt addI G28 (kon (.int .i64 1))) S29 <|
  oVal (fFA 2 G5) S30 <|
  oUpd (fSt1 G30 G29) <|
  (oVal (fMove G0) S31 <|
  oVal (fFA 1 G5) S32 <|
  oVal (fLoad1 G32) S33 <|
  oVal (fSlS G31 (some G33) none) S34 <|
  oCall 25 (fArgs [G34, (kon (.str [13, 10]))]) S35 <|
  (sCond G35 (oVal (fFA 2 G5) S36 <|
  oVal (fLoad1 G36) S37 <|
  oVal (fInt addI G37 (kon (.int .i64 1))) S38 <|
  oVal (fFA 2 G5) S39 <|
  oUpd (fSt1 G39 G38) <|
  oEnd)
  oEnd))))
  oEnd)))
  (oVal (fMove G3) S40 <|
  oVal (fLoadN 3 G5) S41 <|
  gn yesW (opAt 2 [u, u, z, u, z, z, u, z, u, u, z] Tryz.f13) <|
  gn yesW (opAt 3 [u, u, z, u, z, z, u, z, u, u, z] Tryz.f13) <|
  oVal (fMove G43) S3 <|
  (oVal (fFA 2 G5) S44 <|
  oVal (fLoad1 G44) S45 <|
  oVal (fMove G45) S4 <|
  oEnd)))))))))
  (oVal (fMove G3) S46 <|
  oVal (fMove G46) S2 <|
  sRet))))
def c14 : Op8 := (oVal (fMove G1) S8 <|
  oVal (fLenL G8) S9 <|
  oVal (fMove (kon (.int .i64 0))) S10 <|
  (sBlock 0 (sLoop (oVal (fInt ltI G10 G9) S11 <|
  (thenF (sCond G11 oEnd
  (sExit 0))
  (thenF (sBlock 1 (oVal (fIAs 1 G8 G10) S12 <|
  oVal (fLoad1 G12) S13 <|
  oVal (fMove G13) S7 <|
  (oVal (fMove G0) S14 <|
  oVal (fMove G7) S15 <|
  oVal (fMove G2) S16 <|
  oVal (fMove G7) S17 <|
  gn yesW (opAt 4 [u, z, z, u, u, z, z, u] Tryz.f14) <|
  oVal (fIAs 1 G14 G15) S19 <|
  oUpd (fSt1 G19 G18) <|
  oEnd)))
  (oVal (fInt addI G10 (kon (.int .i64 1))) S20 <|
  oVal (fMove G20) S10 <|
  oEnd)))))))
def c15 : Op8 := (oVal (fMove (kon .nils)) S2 <|
  (thenF (oVal (fMove G0) S3 <|
  gn yesW (opAt 1 [u, z, z] Tryz.f15) <|
  (sCond G4 (oVal (fMove (kon .nils)) S2 <|
  sRet)
  oEnd))
  (gn yesW (opAt 0 [u, u, z] Tryz.f15) <|
  oVal (fMove G0) S6 <|
  gn yesW (opAt 2 [u, u, z] Tryz.f15) <|
  oVal (fMove G7) S2 <|
  sRet)))
def c16 : Op8 := (oVal (fMove (kon .nils)) S2 <|
  (gn yesW (opAt 0 [u, z] Tryz.f16) <|
  oVal (fMove G6) S3 <|
  (oVal (fMove (kon (.int .i64 0))) S4 <|
  (thenF (oVal (fMove (kon (.int .i64 0))) S5 <|
  (sBlock 0 (sLoop (thenF (oVal (fMove G5) S7 <|
  oVal (fMove G0) S8 <|
  oVal (fLenS G8) S9 <|
  oVal (fInt leI G7 G9) S10 <|
  (sCond G10 oEnd
  (sExit 0)))
  (thenF (sBlock 1 (oVal (fMove G5) S13 <|
  oVal (fMove G0) S14 <|
  oVal (fLenS G14) S15 <|
  oVal (fIntE G13 G15) S16 <|
  oVal (fMove G16) S17 <|
  oGval (wntF G17 false) (fMove G0) S18 <|
  oGval (wntF G17 false) (fMove G5) S19 <|
  oGval (wntF G17 false) (fIxS G18 G19) S20 <|
  oGval (wntF G17 false) (fIntE G20 (kon (.int .u8 32))) S21 <|
  oVal (fPick G17 (kon (.bool true)) G21) S22 <|
  (sCond G22 (oVal (fMove G3) S23 <|
  oVal (fMove G0) S24 <|
  oVal (fMove G4) S25 <|
  oVal (fMove G5) S26 <|
  oVal (fSlS G24 (some G25) (some G26)) S27 <|
  gn yesW (opAt 5 [u, u, u, z, u, z, z, u, z, z, u, z, z] Tryz.f16) <|
  gn yesW (opAt 6 [u, u, u, z, u, z, z, u, z, z, u, z, z] Tryz.f16) <|
  oVal (fMove G29) S3 <|
  (oVal (fMove G5) S30 <|
  oVal (fInt addI G30 (kon (.int .i64 1))) S31 <|
  oVal (fMove G31) S4 <|
  oEnd))
  oEnd)))
  (oVal (fMove G5) S11 <|
  oVal (fInt addI G11 (kon (.int .i64 1))) S12 <|
  oVal (fMove G12) S5 <|
  oEnd))))))
  (oVal (fMove G3) S32 <|
  oVal (fMove G32) S2 <|
  sRet)))))
def c17 : Op8 := (oVal (fMove (kon .nilm)) S0 <|
  (gn yesW (opAt 0 [u, z] Tryz.f17) <|
  oVal (fMove G2) S1 <|
  (gn yesW (opAt 0 [u, u, z] Tryz.f17) <|
  gn yesW (opAt 1 [u, u, z] Tryz.f17) <|
  gn yesW (opAt 2 [u, u, z] Tryz.f17) <|
  gn yesW (opAt 3 [u, u, z] Tryz.f17) <|
  gn yesW (opAt 4 [u, u, z] Tryz.f17) <|
  gn yesW (opAt 5 [u, u, z] Tryz.f17) <|
  gn yesW (opAt 6 [u, u, z] Tryz.f17) <|
  gn yesW (opAt 7 [u, u, z] Tryz.f17) <|
  gn yesW (opAt 8 [u, u, z] Tryz.f17) <|
  gn yesW (opAt 9 [u, u, z] Tryz.f17) <|
  gn yesW (opAt 10 [u, u, z] Tryz.f17) <|
  gn yesW (opAt 11 [u, u, z] Tryz.f17) <|
  gn yesW (opAt 12 [u, u, z] Tryz.f17) <|
  gn yesW (opAt 13 [u, u, z] Tryz.f17) <|
  gn yesW (opAt 14 [u, u, z] Tryz.f17) <|
  gn yesW (opAt 15 [u, u, z] Tryz.f17) <|
  gn yesW (opAt 16 [u, u, z] Tryz.f17) <|
  gn yesW (opAt 17 [u, u, z] Tryz.f17) <|
  gn yesW (opAt 18 [u, u, z] Tryz.f17) <|
  gn yesW (opAt 19 [u, u, z] Tryz.f17) <|
  gn yesW (opAt 20 [u, u, z] Tryz.f17) <|
  gn yesW (opAt 21 [u, u, z] Tryz.f17) <|
  gn yesW (opAt 22 [u, u, z] Tryz.f17) <|
  gn yesW (opAt 23 [u, u, z] Tryz.f17) <|
  gn yesW (opAt 24 [u, u, z] Tryz.f17) <|
  gn yesW (opAt 25 [u, u, z] Tryz.f17) <|
  gn yesW (opAt 26 [u, u, z] Tryz.f17) <|
  gn yesW (opAt 27 [u, u, z] Tryz.f17) <|
  gn yesW (opAt 28 [u, u, z] Tryz.f17) <|
  gn yesW (opAt 29 [u, u, z] Tryz.f17) <|
  oVal (fMove G1) S22 <|
  gn yesW (opAt 31 [u, u, z] Tryz.f17) <|
  gn yesW (opAt 32 [u, u, z] Tryz.f17) <|
  oVal (fMove G1) S24 <|
  gn yesW (opAt 34 [u, u, z] Tryz.f17) <|
  gn yesW (opAt 35 [u, u, z] Tryz.f17) <|
  oVal (fMove G3) S26 <|
  oVal (fMove G26) S0 <|
  sRet)))
def c18 : Op8 := (gn yesW (opAt 0 [z] Tryz.f18) <|
  oVal (fMove (kon .nils)) S3 <|
  (oVal (fMove G0) S8 <|
  oVal (fLenS G8) S9 <|
  gn yesW (opAt 2 [u, z] Tryz.f18) <|
  gn yesW (opAt 3 [u, z] Tryz.f18) <|
  gn yesW (opAt 4 [u, z] Tryz.f18) <|
  oVal (fMove G12) S4 <|
  (oVal (fMove G0) S13 <|
  gn yesW (opAt 1 [u, u, z] Tryz.f18) <|
  oVal (fMove G4) S15 <|
  gn yesW (opAt 3 [u, u, z] Tryz.f18) <|
  gn yesW (opAt 4 [u, u, z] Tryz.f18) <|
  gn yesW (opAt 5 [u, u, z] Tryz.f18) <|
  oVal (fMove G18) S5 <|
  (thenF (oVal (fMove G0) S19 <|
  oCall 13 (fArgs [G19]) S20 <|
  oVal (fLenL G20) S21 <|
  oVal (fMove (kon (.int .i64 0))) S22 <|
  (sBlock 0 (sLoop (oVal (fInt ltI G22 G21) S23 <|
  (thenF (sCond G23 oEnd
  (sExit 0))
  (thenF (sBlock 1 (oVal (fIAs 3 G20 G22) S24 <|
  oVal (fLoadN 3 G24) S25 <|
  gn yesW (opAt 2 [u, u, u, z, u, z, z, u, u, z, z, z] Tryz.f18) <|
  oUpd (fSt tb 82 G7 G25) <|
  (oVal (fMove G5) S26 <|
  oVal (fLoadN 3 G7) S27 <|
  oCall 26 (fArgs [G26, G27]) S28 <|
  oEnd)))
  (oVal (fInt addI G22 (kon (.int .i64 1))) S29 <|
  oVal (fMove G29) S22 <|
  oEnd)))))))
  (oVal (fMove G5) S30 <|
  oCall 27 (fArgs [G30]) S31 <|
  (sDraw <| dVal cP 0 (fMove G5) S32 <|
  dVal cP 1 (fMove G4) S33 <|
  dCall cE 2 28 (fArgs [G32, G33]) S34 <|
  dVal cP 3 (fMove G5) S35 <|
  dVal cP 4 (fNil G35) S36 <|
  dVal cP 5 (fFA 8 G36) S37 <|
  dVal (cL G37) 6 (fLoad1 G37) S38 <|
  dUpd cE 7 (fSt tb 40 G2 G34) <|
  dVal cP 8 (fMove G38) S3 <|
  dEnd [0, 0, 3, 0, 8, 24, 56, 7, 255] sRet))))))
def c19 : Op8 := (gn yesW (opAt 0 [z] Tryz.f19) <|
  (oVal (fMove G0) S10 <|
  oVal (fNil G10) S11 <|
  oVal (fFA 2 G11) S12 <|
  oVal (fLoad1 G12) S13 <|
  oVal (fLenL G13) S14 <|
  oVal (fMove G14) S4 <|
  (oVal (fMove G0) S15 <|
  oVal (fMove G0) S16 <|
  oVal (fNil G16) S17 <|
  oVal (fFA 3 G17) S18 <|
  oVal (fLoad1 G18) S19 <|
  oVal (fMove G4) S20 <|
  gn yesW (opAt 6 [u, u, z] Tryz.f19) <|
  gn yesW (opAt 7 [u, u, z] Tryz.f19) <|
  oVal (fNil G15) S23 <|
  oVal (fFA 3 G23) S24 <|
  oUpd (fSt1 G24 G22) <|
  (sDraw <| dVal cP 0 (fMove G0) S25 <|
  dVal cP 1 (fNil G25) S26 <|
  dVal cP 2 (fFA 0 G26) S27 <|
  dVal (cL G27) 3 (fLoad1 G27) S28 <|
  dVal cP 4 (fFA 9 G3) S29 <|
  dVal (cL G29) 5 (fLoad1 G29) S30 <|
  dCall cE 6 29 (fArgs [G28, G30]) S31 <|
  gd cN 7 yesW (opAt 7 [u, u, u, z] Tryz.f19) <|
  dUpd cE 8 (fSt tb 96 G5 G31) <|
  dEnd (masks [] (opsAt [u, u, u, z] Tryz.f19).toList) (oVal (fFA 8 G3) S32 <|
  oVal (fLoad1 G32) S33 <|
  oVal (fMove G33) S6 <|
  (oVal (fFA 9 G3) S34 <|
  oUpd (fSt1 G34 (kon .nils)) <|
  oVal (fFA 8 G3) S35 <|
  oUpd (fSt1 G35 (kon .nils)) <|
  (sDraw <| dVal cP 0 (fMove G0) S36 <|
  dVal cP 1 (fMove G0) S37 <|
  dVal cP 2 (fNil G37) S38 <|
  dVal cP 3 (fFA 2 G38) S39 <|
  dVal (cL G39) 4 (fLoad1 G39) S40 <|
  dVal (cL G3) 5 (fLoadN 10 G3) S41 <|
  gd cN 6 yesW (opAt 6 [u, u, u, u, u, u, z] Tryz.f19) <|
  gd cE 7 yesW (opAt 7 [u, u, u, u, u, u, z] Tryz.f19) <|
  dVal cP 8 (fNil G36) S44 <|
  dVal cP 9 (fFA 2 G44) S45 <|
  dUpd cE 10 (fSt1 G45 G43) <|
  dEnd (masks [] (opsAt [u, u, u, u, u, u, z] Tryz.f19).toList) (thenF (oVal (fFA 0 G3) S46 <|
  oVal (fLoad1 G46) S47 <|
  oVal (fInt neI G47 (kon (.int .i64 5))) S48 <|
  oVal (fMove G48) S49 <|
  oGval (wntF G49 true) (fFA 0 G3) S50 <|
  oGval (wntF G49 true) (fLoad1 G50) S51 <|
  oGval (wntF G49 true) (fInt neI G51 (kon (.int .i64 6))) S52 <|
  oVal (fPick G49 G52 (kon (.bool false))) S53 <|
  (sCond G53 (oVal (fMove G0) S54 <|
  oVal (fNil G54) S55 <|
  oVal (fFA 2 G55) S56 <|
  oVal (fLoad1 G56) S57 <|
  oVal (fMove G4) S58 <|
  oVal (fMove G6) S59 <|
  oVal (fIAs 10 G57 G58) S60 <|
  oVal (fFA 8 G60) S61 <|
  oUpd (fSt1 G61 G59) <|
  sRet)
  oEnd))
  (sDraw <| dVal cP 0 (fFA 0 G5) S62 <|
  dVal (cL G62) 1 (fLoad1 G62) S63 <|
  dVal cP 2 (fMove G0) S64 <|
  dVal cP 3 (fNil G64) S65 <|
  dVal cP 4 (fFA 1 G65) S66 <|
  dVal (cL G66) 5 (fLoad1 G66) S67 <|
  dCall cE 6 30 (fArgs [G63, G67]) S68 <|
  gd cN 7 yesW (opAt 7 [u, u, u, u, u, u, u, u, z] Tryz.f19) <|
  dUpd cE 8 (fSt tb 40 G7 G68) <|
  dEnd (masks [] (opsAt [u, u, u, u, u, u, u, u, z] Tryz.f19).toList) (oVal (fFA 0 G7) S69 <|
  oVal (fLoad1 G69) S70 <|
  oVal (fLenL G70) S71 <|
  oVal (fMove (kon (.int .i64 0))) S72 <|
  (sBlock 0 (sLoop (oVal (fInt ltI G72 G71) S73 <|
  (thenF (sCond G73 oEnd
  (sExit 0))
  (thenF (sBlock 1 (oVal (fMove G72) S74 <|
  oVal (fIAs 10 G70 G72) S75 <|
  oVal (fLoadN 10 G75) S76 <|
  gn yesW (opAt 3 [u, u, u, u, u, u, u, u, u, u, z, z, u, u, z, z, z] Tryz.f19) <|
  oVal (fMove G74) S8 <|
  oUpd (fSt tb 71 G9 G76) <|
  (thenF (oVal (fMove G8) S77 <|
  oVal (fIntE G77 (kon (.int .i64 0))) S78 <|
  (sCond G78 (sDraw <| dVal cP 0 (fMove G0) S79 <|
  dVal cP 1 (fNil G79) S80 <|
  dVal cP 2 (fFA 2 G80) S81 <|
  dVal (cL G81) 3 (fLoad1 G81) S82 <|
  dVal cP 4 (fMove G4) S83 <|
  dVal cP 5 (fFA 8 G9) S84 <|
  dVal (cL G84) 6 (fLoad1 G84) S85 <|
  dVal cP 7 (fMove G4) S86 <|
  dCall cE 8 31 (fArgs [G85, G86]) S87 <|
  dVal cP 9 (fIAs 10 G82 G83) S88 <|
  dVal cP 10 (fFA 8 G88) S89 <|
  dUpd cE 11 (fSt1 G89 G87) <|
  dEnd (masks [] (opsAt [u, u, u, u, u, u, u, u, u, u, z, z, u, u, z, z, u, z, u, z, z] Tryz.f19).toList) (sExit 1))
  oEnd))
  (sDraw <| dVal (cL G5) 0 (fLoadN 3 G5) S90 <|
  dVal cP 1 (fFA 1 G9) S91 <|
  dVal (cL G91) 2 (fLoad1 G91) S92 <|
  dCall cE 3 32 (fArgs [G90, G92]) S93 <|
  dVal (cL G5) 4 (fLoadN 3 G5) S94 <|
  dVal cP 5 (fFA 2 G9) S95 <|
  dVal (cL G95) 6 (fLoad1 G95) S96 <|
  dVal cP 7 (fInt subI G96 (kon (.int .i64 1))) S97 <|
  dCall cE 8 32 (fArgs [G94, G97]) S98 <|
  dVal cP 9 (fInt addI G98 (kon (.int .i64 1))) S99 <|
  dVal cP 10 (fFA 1 G9) S100 <|
  dUpd cE 11 (fSt1 G100 G93) <|
  dVal cP 12 (fFA 2 G9) S101 <|
  dUpd cE 13 (fSt1 G101 G99) <|
  dEnd (masks [] (opsAt [u, u, u, u, u, u, u, u, u, u, z, z, u, u, z, z, u, u, z] Tryz.f19).toList) (oVal (fFA 8 G9) S102 <|
  oVal (fLoad1 G102) S103 <|
  oVal (fMove G4) S104 <|
  oCall 31 (fArgs [G103, G104]) S105 <|
  oVal (fFA 8 G9) S106 <|
  oUpd (fSt1 G106 G105) <|
  (sDraw <| dVal cP 0 (fMove G0) S107 <|
  dVal cP 1 (fMove G0) S108 <|
  dVal cP 2 (fNil G108) S109 <|
  dVal cP 3 (fFA 2 G109) S110 <|
  dVal (cL G110) 4 (fLoad1 G110) S111 <|
  dVal (cL G9) 5 (fLoadN 10 G9) S112 <|
  gd cN 6 yesW (opAt 6 [u, u, u, u, u, u, u, u, u, u, z, z, u, u, z, z, u, u, u, u] Tryz.f19) <|
  gd cE 7 yesW (opAt 7 [u, u, u, u, u, u, u, u, u, u, z, z, u, u, z, z, u, u, u, u] Tryz.f19) <|
  dVal cP 8 (fNil G107) S115 <|
  dVal cP 9 (fFA 2 G115) S116 <|
  dUpd cE 10 (fSt1 G116 G114) <|
  dEnd (masks [] (opsAt [u, u, u, u, u, u, u, u, u, u, z, z, u, u, z, z, u, u, u, u] Tryz.f19).toList) oEnd))))))
  (oVal (fInt addI G72 (kon (.int .i64 1))) S117 <|
  oVal (fMove G117) S72 <|
  oEnd))))))))))))))))
def c20 : Op8 := (oVal (fMove (kon (.bool false))) S4 <|
  (oVal (fMove G0) S5 <|
  oVal (fMove G1) S6 <|
  oCall 33 (fArgs [G5, G6]) S7 <|
  oVal (fInt geI G7 (kon (.int .i64 0))) S8 <|
  oVal (fMove G8) S4 <|
  sRet))
def c21 : Op8 := (gn yesW (opAt 0 [z] Tryz.f21) <|
  gn yesW (opAt 1 [z] Tryz.f21) <|
  oVal (fMove (kon (.int .i64 0))) S5 <|
  (thenF (oVal (fLoad1 G3) S12 <|
  oVal (fInt ltI G12 (kon (.int .i64 0))) S13 <|
  oVal (fMove G13) S14 <|
  oGval (wntF G14 false) (fLoad1 G3) S15 <|
  oGval (wntF G14 false) (fMove G0) S16 <|
  oGval (wntF G14 false) (fLenS G16) S17 <|
  oGval (wntF G14 false) (fInt gtI G15 G17) S18 <|
  oVal (fPick G14 (kon (.bool true)) G18) S19 <|
  (sCond G19 (gn yesW (opAt 0 [u, z, u, z, z] Tryz.f21) <|
  oUpd (fSt tb 76 G4 G20) <|
  oVal (fMove (kon (.int .i64 11))) S5 <|
  sRet)
  oEnd))
  (oVal (fMove G0) S21 <|
  oCall 13 (fArgs [G21]) S22 <|
  gn yesW (opAt 2 [u, u, z] Tryz.f21) <|
  oUpd (fSt1 G6 G22) <|
  (thenF (oVal (fLoad1 G3) S23 <|
  oVal (fMove G0) S24 <|
  oVal (fLenS G24) S25 <|
  oVal (fIntE G23 G25) S26 <|
  oVal (fMove G26) S27 <|
  oGval (wntF G27 true) (fMove G0) S28 <|
  oGcall (wntF G27 true) 34 (fArgs [G28]) S29 <|
  oVal (fPick G27 G29 (kon (.bool false))) S30 <|
  (sCond G30 (oVal (fLoad1 G6) S31 <|
  oVal (fLenL G31) S32 <|
  oVal (fInt addI G32 (kon (.int .i64 1))) S33 <|
  gn yesW (opAt 3 [u, u, u, z, u, z, z] Tryz.f21) <|
  oUpd (fSt tb 76 G4 G34) <|
  oVal (fMove (kon (.int .i64 0))) S5 <|
  sRet)
  oEnd))
  (oVal (fLoad1 G6) S35 <|
  oVal (fLenL G35) S36 <|
  gn yesW (opAt 2 [u, u, u, u, z] Tryz.f21) <|
  oCall 35 (fArgs [G36, G37]) S38 <|
  oVal (fMove G38) S7 <|
  (oVal (fMove G7) S39 <|
  oVal (fLoad1 G6) S40 <|
  oVal (fLenL G40) S41 <|
  oVal (fInt subI G41 (kon (.int .i64 1))) S42 <|
  gn yesW (opAt 4 [u, u, u, u, u, z] Tryz.f21) <|
  oVal (fMove G43) S7 <|
  (oVal (fMove G7) S44 <|
  oVal (fInt addI G44 (kon (.int .i64 1))) S45 <|
  gn yesW (opAt 2 [u, u, u, u, u, u, z] Tryz.f21) <|
  gn yesW (opAt 3 [u, u, u, u, u, u, z] Tryz.f21) <|
  oUpd (fSt tb 76 G8 G46) <|
  (thenF (oVal (fLoad1 G6) S47 <|
  oVal (fMove G7) S48 <|
  oVal (fIAs 3 G47 G48) S49 <|
  oVal (fFA 0 G49) S50 <|
  oVal (fLoad1 G50) S51 <|
  oVal (fMove G51) S9 <|
  (sBlock 0 (sLoop (thenF (oVal (fMove G9) S52 <|
  oVal (fLoad1 G3) S53 <|
  oVal (fInt ltI G52 G53) S54 <|
  (sCond G54 oEnd
  (sExit 0)))
  (thenF (sBlock 1 (oVal (fMove G0) S60 <|
  oVal (fMove G9) S61 <|
  oCall 37 (fArgs [G60, G61]) S62 <|
  oVal (fMove G62) S59 <|
  oVal (fExt 0 G59) S63 <|
  oVal (fExt 1 G59) S64 <|
  oVal (fMove G63) S10 <|
  oVal (fMove G64) S11 <|
  (oVal (fMove G9) S65 <|
  oVal (fMove G11) S66 <|
  oVal (fInt addI G65 G66) S67 <|
  oVal (fMove G67) S9 <|
  oEnd)))
  (oVal (fFA 1 G8) S55 <|
  oVal (fLoad1 G55) S56 <|
  oVal (fInt addI G56 (kon (.int .i64 1))) S57 <|
  oVal (fFA 1 G8) S58 <|
  oUpd (fSt1 G58 G57) <|
  oEnd))))))
  (oVal (fLoadN 2 G8) S68 <|
  oUpd (fSt tb 76 G4 G68) <|
  oVal (fMove (kon (.int .i64 0))) S5 <|
  sRet)))))))))
def c22 : Op8 := (oVal (fMove (kon (.int .i64 0))) S4 <|
  (sBlock 0 (sLoop (sBlock 1 (oVal (fMove G0) S12 <|
  oCall 38 (fArgs [G12, (kon (.str [60, 33, 45, 45]))]) S13 <|
  oVal (fMove G13) S11 <|
  oVal (fExt 0 G11) S14 <|
  oVal (fExt 1 G11) S15 <|
  oVal (fExt 2 G11) S16 <|
  oVal (fMove G14) S5 <|
  oVal (fMove G15) S6 <|
  oVal (fMove G16) S7 <|
  (oVal (fMove G4) S17 <|
  oVal (fMove G5) S18 <|
  oCall 39 (fArgs [G18, (kon (.str [10]))]) S19 <|
  oVal (fInt addI G17 G19) S20 <|
  oVal (fMove G20) S4 <|
  (thenF (oVal (fMove G7) S21 <|
  oVal (fNot G21) S22 <|
  (sCond G22 sRet
  oEnd))
  (oVal (fMove G6) S24 <|
  oCall 38 (fArgs [G24, (kon (.str [45, 45, 62]))]) S25 <|
  oVal (fMove G25) S23 <|
  oVal (fExt 0 G23) S26 <|
  oVal (fExt 1 G23) S27 <|
  oVal (fExt 2 G23) S28 <|
  oVal (fMove G26) S8 <|
  oVal (fMove G27) S9 <|
  oVal (fMove G28) S7 <|
  (thenF (oVal (fMove G7) S29 <|
  oVal (fNot G29) S30 <|
  (sCond G30 sRet
  oEnd))
  (oVal (fMove G8) S31 <|
  oCall 40 (fArgs [G31, (kon (.fn (.func 41) [] []))]) S32 <|
  oVal (fMove G32) S10 <|
  (thenF (oVal (fMove G10) S33 <|
  oVal (fLenL G33) S34 <|
  oVal (fInt gtI G34 (kon (.int .i64 0))) S35 <|
  oVal (fMove G35) S36 <|
  oGval (wntF G36 true) (fMove G8) S37 <|
  oGval (wntF G36 true) (fIxS G37 (kon (.int .i64 0))) S38 <|
  oGcall (wntF G36 true) 42 (fArgs [(kon (.str [32, 9, 10])), G38]) S39 <|
  oGval (wntF G36 true) (fInt geI G39 (kon (.int .i64 0))) S40 <|
  oVal (fPick G36 G40 (kon (.bool false))) S41 <|
  oVal (fMove G41) S42 <|
  gn (wntF G42 true) (opAt 10 [u, z, z, z, u, u, u, u, u, u, z, z] Tryz.f22) <|
  oGval (wntF G42 true) (fMove G10) S44 <|
  oGval (wntF G42 true) (fIAs 1 G44 (kon (.int .i64 0))) S45 <|
  oGval (wntF G42 true) (fLoad1 G45) S46 <|
  oGcall (wntF G42 true) 43 (fArgs [G43, G46]) S47 <|
  oVal (fPick G42 G47 (kon (.bool false))) S48 <|
  (sCond G48 (sDraw <| dVal cP 0 (fMove G1) S49 <|
  dVal cP 1 (fMove G4) S50 <|
  dVal cP 2 (fMove G10) S51 <|
  dVal cP 3 (fIAs 1 G51 (kon (.int .i64 0))) S52 <|
  dVal (cL G52) 4 (fLoad1 G52) S53 <|
  dVal cP 5 (fMove G10) S54 <|
  gd cE 6 yesW (opAt 6 [u, z, z, z, u, u, u, u, u, u, z, u, z] Tryz.f22) <|
  dCall cE 7 44 (fArgs [G55]) S56 <|
  gd cP 8 yesW (opAt 8 [u, z, z, z, u, u, u, u, u, u, z, u, z] Tryz.f22) <|
  gd cE 9 yesW (opAt 9 [u, z, z, z, u, u, u, u, u, u, z, u, z] Tryz.f22) <|
  dEnd [0, 0, 0, 4, 12, 0, 32, 96, 252, 511] oEnd)
  oEnd))
  (oVal (fMove G6) S59 <|
  oVal (fMove G59) S0 <|
  oEnd))))))))))))
def c23 : Op8 := (gn yesW (opAt 0 [z] Tryz.f23) <|
  (oVal (fFA 0 G2) S7 <|
  oVal (fLoad1 G7) S8 <|
  oVal (fInt subI G8 (kon (.int .i64 1))) S9 <|
  oVal (fMove G0) S10 <|
  oVal (fInt addI G9 G10) S11 <|
  oVal (fMove G11) S6 <|
  (sDraw <| dVal (cL G3) 0 (fLoad1 G3) S12 <|
  dVal cP 1 (fMove G6) S13 <|
  dVal (cL G3) 2 (fLoad1 G3) S14 <|
  dVal cP 3 (fMove G6) S15 <|
  gd (cM G14) 4 yesW (opAt 4 [u, u] Tryz.f23) <|
  dVal (cL G5) 5 (fLoadN 2 G5) S17 <|
  gd cN 6 yesW (opAt 6 [u, u] Tryz.f23) <|
  gd cE 7 yesW (opAt 7 [u, u] Tryz.f23) <|
  gd cE 8 yesW (opAt 8 [u, u] Tryz.f23) <|
  dEnd [0, 0, 0, 0, 12, 0, 32, 124, 255] oEnd)))
def c24 : Op8 := (oVal (fMove (kon (.int .i64 0))) S4 <|
  (thenF (oVal (fMove G1) S11 <|
  gn yesW (opAt 1 [u, z, z] Tryz.f24) <|
  (sCond G12 (oVal (fMove (kon (.int .i64 (-1)))) S4 <|
  sRet)
  oEnd))
  (thenF (oVal (fMove G1) S13 <|
  oVal (fLenS G13) S14 <|
  oVal (fIntE G14 (kon (.int .i64 1))) S15 <|
  (sCond G15 (oVal (fMove G1) S16 <|
  oVal (fIxS G16 (kon (.int .i64 0))) S17 <|
  oVal (fCnvI .i32 G17) S18 <|
  oVal (fMove G18) S5 <|
  (thenF (oVal (fMove G5) S19 <|
  oVal (fInt geI G19 (kon (.int .i32 128))) S20 <|
  (sCond G20 (oVal (fMove (kon (.int .i32 65533))) S5 <|
  oEnd)
  oEnd))
  (oVal (fMove G0) S21 <|
  oVal (fMove G5) S22 <|
  oCall 45 (fArgs [G21, G22]) S23 <|
  oVal (fMove G23) S4 <|
  sRet)))
  oEnd))
  (thenF (oVal (fMove G0) S24 <|
  oVal (fLenS G24) S25 <|
  oCall 46 (fArgs [G25]) S26 <|
  (sCond G26 (oVal (fMove G1) S28 <|
  oCall 47 (fArgs [G28]) S29 <|
  oVal (fMove G29) S27 <|
  oVal (fExt 0 G27) S30 <|
  oVal (fExt 1 G27) S31 <|
  gn yesW (opAt 5 [u, u, u, z, u, z, z] Tryz.f24) <|
  oUpd (fSt tb 114 G6 G30) <|
  oVal (fMove G31) S7 <|
  (oVal (fMove G7) S32 <|
  (sCond G32 (thenF (oVal (fMove (kon (.int .i64 0))) S8 <|
  (sBlock 0 (sLoop (thenF (oVal (fMove G8) S33 <|
  oVal (fMove G0) S34 <|
  oVal (fLenS G34) S35 <|
  oVal (fInt ltI G33 G35) S36 <|
  (sCond G36 oEnd
  (sExit 0)))
  (thenF (sBlock 1 (oVal (fMove G0) S39 <|
  oVal (fMove G8) S40 <|
  oVal (fIxS G39 G40) S41 <|
  oCall 48 (fArgs [G6, G41]) S42 <|
  (sCond G42 (oVal (fMove G8) S43 <|
  oVal (fMove G43) S4 <|
  sRet)
  oEnd)))
  (oVal (fMove G8) S37 <|
  oVal (fInt addI G37 (kon (.int .i64 1))) S38 <|
  oVal (fMove G38) S8 <|
  oEnd))))))
  (oVal (fMove (kon (.int .i64 (-1)))) S4 <|
  sRet))
  oEnd)))
  oEnd))
  (thenF (oVal (fMove G0) S44 <|
  gn yesW (opAt 1 [u, u, u, u, z, z] Tryz.f24) <|
  (sBlock 2 (sLoop (gn yesW (opAt 0 [u, u, u, u, z, u, z, z, z] Tryz.f24) <|
  oVal (fExt 0 G46) S47 <|
  (thenF (sCond G47 oEnd
  (sExit 2))
  (sBlock 3 (oVal (fExt 1 G46) S48 <|
  oVal (fExt 2 G46) S49 <|
  oVal (fMove G48) S9 <|
  oVal (fMove G49) S10 <|
  (oVal (fMove G1) S50 <|
  oVal (fMove G10) S51 <|
  oCall 45 (fArgs [G50, G51]) S52 <|
  oVal (fInt geI G52 (kon (.int .i64 0))) S53 <|
  (sCond G53 (oVal (fMove G9) S54 <|
  oVal (fMove G54) S4 <|
  sRet)
  oEnd)))))))))
  (oVal (fMove (kon (.int .i64 (-1)))) S4 <|
  sRet))))))
def c25 : Op8 := (oVal (fMove (kon (.bool false))) S4 <|
  (oVal (fMove G0) S5 <|
  oVal (fMove G1) S6 <|
  oCall 49 (fArgs [G5, G6]) S7 <|
  oVal (fMove G7) S4 <|
  sRet))
def c26 : Op8 := (gn yesW (opAt 0 [z] Tryz.f26) <|
  (sDraw <| dVal cP 0 (fMove G0) S6 <|
  dVal cP 1 (fMove G0) S7 <|
  dVal cP 2 (fNil G7) S8 <|
  dVal cP 3 (fFA 0 G8) S9 <|
  dVal cP 4 (fFA 0 G9) S10 <|
  dVal (cL G10) 5 (fLoad1 G10) S11 <|
  dVal cP 6 (fFA 0 G3) S12 <|
  dVal (cL G12) 7 (fLoad1 G12) S13 <|
  dVal cP 8 (fFA 1 G3) S14 <|
  dVal (cL G14) 9 (fLoad1 G14) S15 <|
  gd cP 10 yesW (opAt 10 [u, z] Tryz.f26) <|
  dVal cP 11 (fNil G6) S17 <|
  dVal cP 12 (fFA 0 G17) S18 <|
  dUpd cE 13 (fSt tb 90 G18 G16) <|
  dEnd [0, 0, 2, 6, 14, 30, 0, 64, 0, 256, 1022, 2047, 4095, 8191] (oVal (fMove G0) S19 <|
  oVal (fNil G19) S20 <|
  oVal (fFA 10 G20) S21 <|
  oUpd (fSt1 G21 (kon (.bool false))) <|
  (oVal (fMove G0) S22 <|
  oVal (fMove G0) S23 <|
  oVal (fNil G23) S24 <|
  oVal (fFA 9 G24) S25 <|
  oVal (fLoad1 G25) S26 <|
  gn yesW (opAt 5 [u, u, u, z] Tryz.f26) <|
  gn yesW (opAt 6 [u, u, u, z] Tryz.f26) <|
  oVal (fNil G22) S29 <|
  oVal (fFA 9 G29) S30 <|
  oUpd (fSt1 G30 G28) <|
  (oVal (fMove G0) S31 <|
  oVal (fNil G31) S32 <|
  oVal (fFA 6 G32) S33 <|
  oUpd (fSt1 G33 (kon (.int .i64 1))) <|
  (thenF (sBlock 0 (sLoop (thenF (sDraw <| dVal cP 0 (fMove G0) S34 <|
  dVal cP 1 (fNil G34) S35 <|
  dVal cP 2 (fFA 6 G35) S36 <|
  dVal (cL G36) 3 (fLoad1 G36) S37 <|
  dVal cP 4 (fMove G0) S38 <|
  dVal cP 5 (fNil G38) S39 <|
  dVal cP 6 (fFA 5 G39) S40 <|
  dVal (cL G40) 7 (fLoad1 G40) S41 <|
  dVal cP 8 (fLenL G41) S42 <|
  dVal cP 9 (fInt ltI G37 G42) S43 <|
  dVal cP 10 (fMove G43) S44 <|
  dGval (wntF G44 true) cP 11 (fMove G0) S45 <|
  dGval (wntF G44 true) cP 12 (fMove G0) S46 <|
  dGval (wntF G44 true) cP 13 (fNil G46) S47 <|
  dGval (wntF G44 true) cP 14 (fFA 5 G47) S48 <|
  dGval (wntF G44 true) (cL G48) 15 (fLoad1 G48) S49 <|
  dGval (wntF G44 true) cP 16 (fMove G0) S50 <|
  dGval (wntF G44 true) cP 17 (fNil G50) S51 <|
  dGval (wntF G44 true) cP 18 (fFA 6 G51) S52 <|
  dGval (wntF G44 true) (cL G52) 19 (fLoad1 G52) S53 <|
  dGval (wntF G44 true) cP 20 (fIAs 1 G49 G53) S54 <|
  dGval (wntF G44 true) (cL G54) 21 (fLoad1 G54) S55 <|
  dGcall (wntF G44 true) cE 22 50 (fArgs [G45, G55]) S56 <|
  dVal cP 23 (fPick G44 G56 (kon (.bool false))) S57 <|
  dEnd [0, 1, 3, 7, 0, 16, 48, 112, 240, 511, 1023, 2047, 2047, 6143, 14335, 30719, 2047, 67583, 198655, 460799, 1046527, 2095103, 4194303, 8388607] (sCond G57 oEnd
  (sExit 0)))
  (sBlock 1 (oVal (fMove G0) S58 <|
  oVal (fNil G58) S59 <|
  oVal (fFA 6 G59) S60 <|
  oVal (fLoad1 G60) S61 <|
  oVal (fInt addI G61 (kon (.int .i64 1))) S62 <|
  oVal (fNil G58) S63 <|
  oVal (fFA 6 G63) S64 <|
  oUpd (fSt1 G64 G62) <|
  oEnd)))))
  (sDraw <| dVal cP 0 (fMove G0) S65 <|
  dVal cP 1 (fNil G65) S66 <|
  dVal cP 2 (fFA 5 G66) S67 <|
  dVal (cL G67) 3 (fLoad1 G67) S68 <|
  dVal cP 4 (fMove G0) S69 <|
  dVal cP 5 (fNil G69) S70 <|
  dVal cP 6 (fFA 6 G70) S71 <|
  dVal (cL G71) 7 (fLoad1 G71) S72 <|
  gd cE 8 yesW (opAt 8 [u, u, u, u, u, u, z] Tryz.f26) <|
  dCall cE 9 51 (fArgs [G73]) S74 <|
  dVal cP 10 (fMove G74) S4 <|
  dEnd [0, 1, 3, 7, 0, 16, 48, 112, 255, 511, 1023] (thenF (oVal (fMove G0) S75 <|
  oCall 52 (fArgs [G75]) S76 <|
  oVal (fMove G76) S77 <|
  oGval (wntF G77 true) (fMove G0) S78 <|
  oGcall (wntF G77 true) 53 (fArgs [G78]) S79 <|
  oVal (fPick G77 G79 (kon (.bool false))) S80 <|
  (sCond G80 sRet
  oEnd))
  (thenF (sBlock 2 (sLoop (thenF (oVal (fMove G0) S81 <|
  oVal (fNil G81) S82 <|
  oVal (fFA 0 G82) S83 <|
  oCall 54 (fArgs [G83]) S84 <|
  oVal (fNot G84) S85 <|
  (sCond G85 oEnd
  (sExit 2)))
  (sBlock 3 (oVal (fMove G0) S86 <|
  oCall 55 (fArgs [G86]) S87 <|
  oVal (fMove G87) S5 <|
  (thenF (oVal (fMove G5) S88 <|
  oVal (fIntE G88 (kon (.int .i64 2))) S89 <|
  (sCond G89 sRet
  oEnd))
  (oVal (fMove G5) S90 <|
  oVal (fIntE G90 (kon (.int .i64 0))) S91 <|
  (sCond G91 (sExit 2)
  oEnd))))))))
  (sBlock 4 (oVal (fMove G0) S102 <|
  oVal (fNil G102) S103 <|
  oVal (fFA 0 G103) S104 <|
  oCall 54 (fArgs [G104]) S105 <|
  oVal (fMove G105) S101 <|
  (sCond G101 (thenF (oVal (fMove G0) S106 <|
  oVal (fNil G106) S107 <|
  oVal (fFA 10 G107) S108 <|
  oVal (fLoad1 G108) S109 <|
  (sCond G109 sRet
  oEnd))
  (sDraw <| dVal cP 0 (fMove G0) S110 <|
  dVal cP 1 (fNil G110) S111 <|
  dVal cP 2 (fFA 9 G111) S112 <|
  dVal (cL G112) 3 (fLoad1 G112) S113 <|
  dVal cP 4 (fMove G0) S114 <|
  dVal cP 5 (fNil G114) S115 <|
  dVal cP 6 (fFA 9 G115) S116 <|
  dVal (cL G116) 7 (fLoad1 G116) S117 <|
  dVal cP 8 (fLenL G117) S118 <|
  dVal cP 9 (fInt subI G118 (kon (.int .i64 1))) S119 <|
  dVal cP 10 (fMove G4) S120 <|
  dVal cP 11 (fIAs 1 G113 G119) S121 <|
  dUpd cE 12 (fSt1 G121 G120) <|
  dEnd [0, 1, 3, 7, 0, 16, 48, 112, 240, 496, 0, 2047, 4095] (oVal (fMove G0) S122 <|
  oCall 52 (fArgs [G122]) S123 <|
  oVal (fNot G123) S124 <|
  (sCond G124 (oVal (fMove G0) S125 <|
  oCall 27 (fArgs [G125]) S126 <|
  (sDraw <| dVal cP 0 (fMove G0) S127 <|
  dVal cP 1 (fMove G0) S128 <|
  dVal cP 2 (fNil G128) S129 <|
  dVal cP 3 (fFA 5 G129) S130 <|
  dVal (cL G130) 4 (fLoad1 G130) S131 <|
  dVal cP 5 (fMove G0) S132 <|
  dVal cP 6 (fNil G132) S133 <|
  dVal cP 7 (fFA 6 G133) S134 <|
  dVal (cL G134) 8 (fLoad1 G134) S135 <|
  gd cE 9 yesW (opAt 9 [u, u, u, u, u, u, u, u, u, z, u, z, u, u, u, z, u] Tryz.f26) <|
  dVal cP 10 (fNil G127) S137 <|
  dVal cP 11 (fFA 5 G137) S138 <|
  dUpd cE 12 (fSt1 G138 G136) <|
  dEnd [0, 0, 2, 6, 14, 0, 32, 96, 224, 510, 1023, 2047, 4095] oEnd))
  oEnd))))
  (oVal (fMove G0) S140 <|
  oCall 56 (fArgs [G140]) S141 <|
  oVal (fMove G141) S139 <|
  (sCond G139 (oVal (fMove G0) S142 <|
  oCall 57 (fArgs [G142]) S143 <|
  oEnd)
  (oVal (fMove G0) S92 <|
  oVal (fMove G0) S93 <|
  oVal (fMove G0) S94 <|
  oCall 59 (fArgs [G94, (kon (.int .i64 5))]) S95 <|
  oCall 58 (fArgs [G93, G95]) S96 <|
  oVal (fNil G92) S97 <|
  oVal (fFA 7 G97) S98 <|
  oUpd (fSt1 G98 G96) <|
  (oVal (fMove G0) S99 <|
  oCall 57 (fArgs [G99]) S100 <|
  oEnd))))))))))))))))
def c27 : Op8 := (oVal (fMove G0) S3 <|
  oVal (fNil G3) S4 <|
  oVal (fFA 7 G4) S5 <|
  oVal (fLoad1 G5) S6 <|
  oVal (fMove G6) S2 <|
  (oVal (fMove G0) S7 <|
  oVal (fNil G7) S8 <|
  oVal (fFA 7 G8) S9 <|
  oUpd (fSt1 G9 (kon .nilp)) <|
  (sBlock 0 (oVal (fMove G2) S80 <|
  gn yesW (opAt 1 [u, u, z, z] Tryz.f27) <|
  oVal (fMove G81) S79 <|
  (sCond G79 oEnd
  (oVal (fMove G2) S83 <|
  oVal (fNil G83) S84 <|
  oVal (fFA 0 G84) S85 <|
  oVal (fFA 0 G85) S86 <|
  oVal (fLoad1 G86) S87 <|
  oVal (fIntE G87 (kon (.int .i64 5))) S88 <|
  oVal (fMove G88) S82 <|
  (sCond G82 (oVal (fMove G0) S89 <|
  oVal (fMove G2) S90 <|
  oCall 60 (fArgs [G89, G90]) S91 <|
  (oVal (fMove G2) S92 <|
  oVal (fMove G2) S93 <|
  oVal (fNil G93) S94 <|
  oVal (fFA 0 G94) S95 <|
  oVal (fFA 9 G95) S96 <|
  oVal (fLoad1 G96) S97 <|
  oVal (fLenL G97) S98 <|
  oVal (fIntE G98 (kon (.int .i64 0))) S99 <|
  oVal (fNil G92) S100 <|
  oVal (fFA 19 G100) S101 <|
  oUpd (fSt1 G101 G99) <|
  oEnd))
  (thenF (oVal (fMove G2) S10 <|
  oVal (fNil G10) S11 <|
  oVal (fFA 0 G11) S12 <|
  oVal (fFA 0 G12) S13 <|
  oVal (fLoad1 G13) S14 <|
  oVal (fIntE G14 (kon (.int .i64 8))) S15 <|
  oVal (fMove G15) S16 <|
  oGval (wntF G16 true) (fMove G2) S17 <|
  oGval (wntF G16 true) (fNil G17) S18 <|
  oGval (wntF G16 true) (fFA 0 G18) S19 <|
  oGval (wntF G16 true) (fFA 3 G19) S20 <|
  oGval (wntF G16 true) (fLoad1 G20) S21 <|
  oGval (wntF G16 true) (fIntE G21 (kon (.int .i64 0))) S22 <|
  oVal (fPick G16 G22 (kon (.bool false))) S23 <|
  (sCond G23 (sBlock 1 (sLoop (thenF (sDraw <| dVal cP 0 (fMove G2) S24 <|
  dVal cP 1 (fNil G24) S25 <|
  dVal cP 2 (fFA 17 G25) S26 <|
  dVal (cL G26) 3 (fLoad1 G26) S27 <|
  dVal cP 4 (fLenL G27) S28 <|
  dVal cP 5 (fInt gtI G28 (kon (.int .i64 0))) S29 <|
  dVal cP 6 (fMove G29) S30 <|
  dGval (wntF G30 true) cP 7 (fMove G2) S31 <|
  dGval (wntF G30 true) cP 8 (fNil G31) S32 <|
  dGval (wntF G30 true) cP 9 (fFA 17 G32) S33 <|
  dGval (wntF G30 true) (cL G33) 10 (fLoad1 G33) S34 <|
  dGval (wntF G30 true) cP 11 (fMove G2) S35 <|
  dGval (wntF G30 true) cP 12 (fNil G35) S36 <|
  dGval (wntF G30 true) cP 13 (fFA 17 G36) S37 <|
  dGval (wntF G30 true) (cL G37) 14 (fLoad1 G37) S38 <|
  dGval (wntF G30 true) cP 15 (fLenL G38) S39 <|
  dGval (wntF G30 true) cP 16 (fInt subI G39 (kon (.int .i64 1))) S40 <|
  dGval (wntF G30 true) cP 17 (fIAs 1 G34 G40) S41 <|
  dGval (wntF G30 true) (cL G41) 18 (fLoad1 G41) S42 <|
  dGcall (wntF G30 true) cE 19 61 (fArgs [G42, (kon (.str [32, 9]))]) S43 <|
  gd cP 20 (wntF G30 true) (opAt 20 [u, u, z, u, u, u, u, z, u, z, z, z, z, z] Tryz.f27) <|
  dVal cP 21 (fPick G30 G44 (kon (.bool false))) S45 <|
  dEnd [0, 1, 3, 7, 15, 31, 63, 127, 255, 511, 1023, 127, 2175, 6271, 14463, 30847, 63615, 131071, 262143, 524287, 1048575, 2097151] (sCond G45 oEnd
  (sExit 1)))
  (sBlock 2 (sDraw <| dVal cP 0 (fMove G2) S46 <|
  dVal cP 1 (fMove G2) S47 <|
  dVal cP 2 (fNil G47) S48 <|
  dVal cP 3 (fFA 17 G48) S49 <|
  dVal (cL G49) 4 (fLoad1 G49) S50 <|
  dVal cP 5 (fMove G2) S51 <|
  dVal cP 6 (fNil G51) S52 <|
  dVal cP 7 (fFA 17 G52) S53 <|
  dVal (cL G53) 8 (fLoad1 G53) S54 <|
  dVal cP 9 (fLenL G54) S55 <|
  dVal cP 10 (fInt subI G55 (kon (.int .i64 1))) S56 <|
  gd cE 11 yesW (opAt 11 [u, u, z, u, u, u, u, z, u, z, z, z, u, z] Tryz.f27) <|
  dVal cP 12 (fNil G46) S58 <|
  dVal cP 13 (fFA 17 G58) S59 <|
  dUpd cE 14 (fSt1 G59 G57) <|
  dEnd [0, 0, 2, 6, 14, 0, 32, 96, 224, 480, 992, 2046, 4095, 8191, 16383] oEnd)))))
  oEnd))
  (thenF (oVal (fMove G2) S60 <|
  oVal (fNil G60) S61 <|
  oVal (fFA 17 G61) S62 <|
  oVal (fLoad1 G62) S63 <|
  oVal (fLenL G63) S64 <|
  oVal (fInt gtI G64 (kon (.int .i64 0))) S65 <|
  (sCond G65 (oVal (fMove G2) S66 <|
  oVal (fMove G2) S67 <|
  oVal (fNil G67) S68 <|
  oVal (fFA 17 G68) S69 <|
  oVal (fLoad1 G69) S70 <|
  oCall 62 (fArgs [G70, (kon (.str [10]))]) S71 <|
  gn yesW (opAt 6 [u, u, z, u, u, u, u, u, z, u, z] Tryz.f27) <|
  oVal (fNil G66) S73 <|
  oVal (fFA 0 G73) S74 <|
  oVal (fFA 4 G74) S75 <|
  oUpd (fSt1 G75 G72) <|
  oEnd)
  oEnd))
  (oVal (fMove G2) S76 <|
  oVal (fNil G76) S77 <|
  oVal (fFA 17 G77) S78 <|
  oUpd (fSt1 G78 (kon .nils)) <|
  oEnd))))))))))
def c28 : Op8 := (gn yesW (opAt 0 [z] Tryz.f28) <|
  (gn yesW (opAt 0 [u, z] Tryz.f28) <|
  (oVal (fMove G1) S14 <|
  gn yesW (opAt 1 [u, u, z] Tryz.f28) <|
  gn yesW (opAt 2 [u, u, z] Tryz.f28) <|
  gn yesW (opAt 3 [u, u, z] Tryz.f28) <|
  oUpd (fSt1 G6 G16) <|
  (thenF (sBlock 0 (sLoop (thenF (oVal (fLoad1 G6) S17 <|
  oVal (fLenL G17) S18 <|
  oVal (fInt gtI G18 (kon (.int .i64 0))) S19 <|
  (sCond G19 oEnd
  (sExit 0)))
  (sBlock 1 (oVal (fLoad1 G6) S20 <|
  oVal (fLoad1 G6) S21 <|
  oVal (fLenL G21) S22 <|
  oVal (fInt subI G22 (kon (.int .i64 1))) S23 <|
  oVal (fIAs 3 G20 G23) S24 <|
  oVal (fLoadN 3 G24) S25 <|
  gn yesW (opAt 6 [u, u, u, z, z, z, u, z, z] Tryz.f28) <|
  oUpd (fSt tb 127 G7 G25) <|
  (oVal (fLoad1 G6) S26 <|
  oVal (fLoad1 G6) S27 <|
  oVal (fLenL G27) S28 <|
  oVal (fInt subI G28 (kon (.int .i64 1))) S29 <|
  gn yesW (opAt 4 [u, u, u, z, z, z, u, z, u, z] Tryz.f28) <|
  oUpd (fSt1 G6 G30) <|
  (oVal (fFA 0 G7) S31 <|
  oVal (fLoad1 G31) S32 <|
  oCall 63 (fArgs [G32]) S33 <|
  (oVal (fFA 2 G7) S34 <|
  oVal (fLoad1 G34) S35 <|
  gn yesW (opAt 2 [u, u, u, z, z, z, u, z, u, u, u, z] Tryz.f28) <|
  oUpd (fSt1 G8 G35) <|
  (thenF (oVal (fFA 0 G7) S36 <|
  oVal (fLoad1 G36) S37 <|
  oVal (fNil G37) S38 <|
  oVal (fFA 0 G38) S39 <|
  oVal (fFA 0 G39) S40 <|
  oVal (fLoad1 G40) S41 <|
  (sBlock 2 (oVal (fIntE G41 (kon (.int .i64 3))) S43 <|
  oVal (fMove G43) S42 <|
  (sCond G42 (thenF (oVal (fFA 0 G7) S44 <|
  oVal (fLoad1 G44) S45 <|
  oVal (fNil G45) S46 <|
  oVal (fFA 11 G46) S47 <|
  oVal (fLoad1 G47) S48 <|
  oVal (fLenL G48) S49 <|
  oVal (fMove (kon (.int .i64 0))) S50 <|
  (sBlock 3 (sLoop (oVal (fInt ltI G50 G49) S51 <|
  (thenF (sCond G51 oEnd
  (sExit 3))
  (thenF (sBlock 4 (oVal (fIAs 1 G48 G50) S52 <|
  oVal (fLoad1 G52) S53 <|
  oVal (fMove G53) S10 <|
  (oVal (fMove G10) S54 <|
  oCall 63 (fArgs [G54]) S55 <|
  oEnd)))
  (oVal (fInt addI G50 (kon (.int .i64 1))) S56 <|
  oVal (fMove G56) S50 <|
  oEnd)))))))
  (sDraw <| dVal cP 0 (fFA 0 G7) S57 <|
  dVal (cL G57) 1 (fLoad1 G57) S58 <|
  dVal cP 2 (fMove G0) S59 <|
  dVal cP 3 (fFA 0 G7) S60 <|
  dVal (cL G60) 4 (fLoad1 G60) S61 <|
  dVal (cL G8) 5 (fLoad1 G8) S62 <|
  dCall cE 6 64 (fArgs [G59, G61, G62]) S63 <|
  dVal cP 7 (fNil G58) S64 <|
  dVal cP 8 (fFA 0 G64) S65 <|
  dVal cP 9 (fFA 7 G65) S66 <|
  dUpd cE 10 (fSt1 G66 G63) <|
  dEnd [0, 1, 0, 0, 8, 0, 60, 127, 255, 511, 1023] oEnd))
  (oVal (fIntE G41 (kon (.int .i64 2))) S68 <|
  oVal (fMove G68) S67 <|
  (sCond G67 (oVal (fLoad1 G8) S69 <|
  oVal (fInt addI G69 (kon (.int .i64 1))) S70 <|
  oUpd (fSt1 G8 G70) <|
  oEnd)
  oEnd))))))
  (oVal (fFA 0 G5) S71 <|
  oVal (fLoad1 G71) S72 <|
  oVal (fLenL G72) S73 <|
  gn yesW (opAt 3 [u, u, u, z, z, z, u, z, u, u, u, u, u, z] Tryz.f28) <|
  oUpd (fSt1 G11 G73) <|
  (sDraw <| dVal cP 0 (fFA 0 G5) S74 <|
  dVal (cL G74) 1 (fLoad1 G74) S75 <|
  dVal cP 2 (fFA 0 G7) S76 <|
  dVal (cL G76) 3 (fLoad1 G76) S77 <|
  dVal cP 4 (fNil G77) S78 <|
  dVal cP 5 (fFA 0 G78) S79 <|
  dVal (cL G79) 6 (fLoadN 10 G79) S80 <|
  gd cN 7 yesW (opAt 7 [u, u, u, z, z, z, u, z, u, u, u, u, u, u, z] Tryz.f28) <|
  gd cE 8 yesW (opAt 8 [u, u, u, z, z, z, u, z, u, u, u, u, u, u, z] Tryz.f28) <|
  dVal cP 9 (fFA 0 G5) S83 <|
  dUpd cE 10 (fSt1 G83 G82) <|
  dEnd [0, 1, 0, 4, 12, 28, 60, 124, 255, 511, 1023] (thenF (oVal (fFA 1 G7) S84 <|
  oVal (fLoad1 G84) S85 <|
  oVal (fInt geI G85 (kon (.int .i64 0))) S86 <|
  (sCond G86 (sDraw <| dVal cP 0 (fFA 0 G5) S87 <|
  dVal (cL G87) 1 (fLoad1 G87) S88 <|
  dVal cP 2 (fFA 1 G7) S89 <|
  dVal (cL G89) 3 (fLoad1 G89) S90 <|
  dVal cP 4 (fFA 0 G5) S91 <|
  dVal (cL G91) 5 (fLoad1 G91) S92 <|
  dVal cP 6 (fFA 1 G7) S93 <|
  dVal (cL G93) 7 (fLoad1 G93) S94 <|
  dVal cP 8 (fIAs 10 G92 G94) S95 <|
  dVal cP 9 (fFA 8 G95) S96 <|
  dVal (cL G96) 10 (fLoad1 G96) S97 <|
  dVal (cL G11) 11 (fLoad1 G11) S98 <|
  gd cN 12 yesW (opAt 12 [u, u, u, z, z, z, u, z, u, u, u, u, u, u, u, z, u, z] Tryz.f28) <|
  gd cE 13 yesW (opAt 13 [u, u, u, z, z, z, u, z, u, u, u, u, u, u, u, z, u, z] Tryz.f28) <|
  dVal cP 14 (fIAs 10 G88 G90) S101 <|
  dVal cP 15 (fFA 8 G101) S102 <|
  dUpd cE 16 (fSt1 G102 G100) <|
  dEnd [0, 1, 0, 4, 0, 16, 0, 64, 240, 496, 1008, 0, 2048, 8176, 16383, 32767, 65535] oEnd)
  oEnd))
  (oVal (fFA 0 G7) S103 <|
  oVal (fLoad1 G103) S104 <|
  oVal (fNil G104) S105 <|
  oVal (fFA 11 G105) S106 <|
  oVal (fLoad1 G106) S107 <|
  oCall 65 (fArgs [G107]) S108 <|
  (sBlock 5 (rangeAt tb 119 [u, u, u, z, z, z, u, z, u, u, u, u, u, u, u, u, u, z] Tryz.f28)))))))))))))))
  (oVal (fLoadN 1 G5) S118 <|
  oUpd (fSt tb 40 G4 G118) <|
  sRet)))))
def c29 : Op8 := (gn yesW (opAt 0 [z] Tryz.f29) <|
  (oVal (fMove G1) S10 <|
  gn yesW (opAt 1 [u, z] Tryz.f29) <|
  gn yesW (opAt 2 [u, z] Tryz.f29) <|
  oUpd (fSt tb 96 G5 G11) <|
  (oVal (fMove (kon .nils)) S6 <|
  (oVal (fMove (kon (.int .i64 0))) S7 <|
  (thenF (oVal (fMove G1) S12 <|
  oVal (fLenL G12) S13 <|
  oVal (fMove (kon (.int .i64 0))) S14 <|
  (sBlock 0 (sLoop (oVal (fInt ltI G14 G13) S15 <|
  (thenF (sCond G15 oEnd
  (sExit 0))
  (thenF (sBlock 1 (oVal (fIAs 2 G12 G14) S16 <|
  oVal (fLoadN 2 G16) S17 <|
  gn yesW (opAt 2 [u, u, u, u, z, u, z, z, u, u, z, z, z] Tryz.f29) <|
  oUpd (fSt tb 134 G9 G17) <|
  (sDraw <| dVal cP 0 (fMove G6) S18 <|
  dVal cP 1 (fMove G0) S19 <|
  dVal cP 2 (fFA 0 G9) S20 <|
  dVal (cL G20) 3 (fLoad1 G20) S21 <|
  dVal cP 4 (fFA 1 G9) S22 <|
  dVal (cL G22) 5 (fLoad1 G22) S23 <|
  dVal cP 6 (fSlS G19 (some G21) (some G23)) S24 <|
  gd cN 7 yesW (opAt 7 [u, u, u, u, z, u, z, z, u, u, z, z, u, z] Tryz.f29) <|
  gd cE 8 yesW (opAt 8 [u, u, u, u, z, u, z, z, u, u, z, z, u, z] Tryz.f29) <|
  dVal cP 9 (fFA 2 G5) S27 <|
  dVal (cL G27) 10 (fLoad1 G27) S28 <|
  dVal cP 11 (fMove G7) S29 <|
  gd cN 12 yesW (opAt 12 [u, u, u, u, z, u, z, z, u, u, z, z, u, z] Tryz.f29) <|
  gd cE 13 yesW (opAt 13 [u, u, u, u, z, u, z, z, u, u, z, z, u, z] Tryz.f29) <|
  dVal cP 14 (fMove G26) S6 <|
  dVal cP 15 (fFA 2 G5) S32 <|
  dUpd cE 16 (fSt1 G32 G31) <|
  dEnd [0, 0, 0, 4, 0, 16, 62, 126, 255, 0, 512, 0, 2048, 8191, 16383, 32767, 65535] (oVal (fMove G7) S33 <|
  oVal (fFA 1 G9) S34 <|
  oVal (fLoad1 G34) S35 <|
  oVal (fFA 0 G9) S36 <|
  oVal (fLoad1 G36) S37 <|
  oVal (fInt subI G35 G37) S38 <|
  oVal (fInt addI G38 (kon (.int .i64 1))) S39 <|
  oVal (fInt addI G33 G39) S40 <|
  oVal (fMove G40) S7 <|
  oEnd))))
  (oVal (fInt addI G14 (kon (.int .i64 1))) S41 <|
  oVal (fMove G41) S14 <|
  oEnd)))))))
  (oVal (fMove G6) S42 <|
  oCall 62 (fArgs [G42, (kon (.str [10]))]) S43 <|
  oVal (fFA 0 G5) S44 <|
  oUpd (fSt1 G44 G43) <|
  (oVal (fLoadN 3 G5) S45 <|
  oUpd (fSt tb 96 G4 G45) <|
  sRet)))))))
def c30 : Op8 := (gn yesW (opAt 0 [z] Tryz.f30) <|
  (oVal (fMove G0) S8 <|
  oCall 66 (fArgs [G8, (kon (.str [32, 9, 10]))]) S9 <|
  gn yesW (opAt 2 [u, z] Tryz.f30) <|
  gn yesW (opAt 3 [u, z] Tryz.f30) <|
  gn yesW (opAt 4 [u, z] Tryz.f30) <|
  gn yesW (opAt 5 [u, z] Tryz.f30) <|
  gn yesW (opAt 6 [u, z] Tryz.f30) <|
  oUpd (fSt1 G5 G13) <|
  (thenF (oVal (fMove G1) S14 <|
  oCall 67 (fArgs [G14]) S15 <|
  (sBlock 0 (rangeAt tb 59 [u, u, z, u, z] Tryz.f30)))
  (sDraw <| dVal (cL G5) 0 (fLoad1 G5) S25 <|
  dVal cP 1 (fMove G0) S26 <|
  dCall cE 2 68 (fArgs [G26, (kon (.str [32, 9, 10]))]) S27 <|
  dVal (cL G5) 3 (fLoad1 G5) S28 <|
  dVal cP 4 (fNil G28) S29 <|
  dVal cP 5 (fFA 0 G29) S30 <|
  dVal (cL G30) 6 (fLoad1 G30) S31 <|
  dVal cP 7 (fLenS G31) S32 <|
  gd cP 8 yesW (opAt 8 [u, u, u, z] Tryz.f30) <|
  dVal cP 9 (fNil G25) S34 <|
  dVal cP 10 (fFA 1 G34) S35 <|
  dUpd cE 11 (fSt1 G35 G33) <|
  dEnd [0, 0, 2, 0, 8, 24, 56, 120, 254, 511, 1023, 2047] (thenF (sBlock 2 (sLoop (thenF (oVal (fLoad1 G5) S36 <|
  oVal (fNil G36) S37 <|
  oVal (fFA 1 G37) S38 <|
  oVal (fLoad1 G38) S39 <|
  oVal (fLoad1 G5) S40 <|
  oVal (fNil G40) S41 <|
  oVal (fFA 0 G41) S42 <|
  oVal (fLoad1 G42) S43 <|
  oVal (fLenS G43) S44 <|
  oVal (fInt ltI G39 G44) S45 <|
  (sCond G45 oEnd
  (sExit 2)))
  (sBlock 3 (oVal (fLoad1 G5) S46 <|
  oCall 69 (fArgs [G46]) S47 <|
  oEnd)))))
  (oVal (fMove G0) S48 <|
  oVal (fLenS G48) S49 <|
  gn yesW (opAt 2 [u, u, u, u, u, z] Tryz.f30) <|
  oVal (fLoad1 G5) S51 <|
  oVal (fNil G51) S52 <|
  oVal (fFA 3 G52) S53 <|
  oVal (fLoad1 G53) S54 <|
  oCall 71 (fArgs [G54]) S55 <|
  gn yesW (opAt 8 [u, u, u, u, u, z] Tryz.f30) <|
  gn yesW (opAt 9 [u, u, u, u, u, z] Tryz.f30) <|
  oCall 70 (fArgs [G57]) S58 <|
  oUpd (fSt tb 40 G4 G58) <|
  sRet))))))
def c31 : Op8 := (oVal (fMove (kon .nils)) S4 <|
  (oVal (fMove (kon .nils)) S5 <|
  (thenF (oVal (fMove G0) S8 <|
  oVal (fLenL G8) S9 <|
  oVal (fMove (kon (.int .i64 0))) S10 <|
  (sBlock 0 (sLoop (oVal (fInt ltI G10 G9) S11 <|
  (thenF (sCond G11 oEnd
  (sExit 0))
  (thenF (sBlock 1 (oVal (fIAs 1 G8 G10) S12 <|
  oVal (fLoad1 G12) S13 <|
  oVal (fMove G13) S7 <|
  (oVal (fMove G5) S14 <|
  oVal (fMove G7) S15 <|
  oVal (fMove G1) S16 <|
  oVal (fInt addI G15 G16) S17 <|
  gn yesW (opAt 4 [u, u, z, u, z, z, u, u, z, z, u] Tryz.f31) <|
  gn yesW (opAt 5 [u, u, z, u, z, z, u, u, z, z, u] Tryz.f31) <|
  oVal (fMove G19) S5 <|
  oEnd)))
  (oVal (fInt addI G10 (kon (.int .i64 1))) S20 <|
  oVal (fMove G20) S10 <|
  oEnd)))))))
  (oVal (fMove G5) S21 <|
  oVal (fMove G21) S4 <|
  sRet))))
def c32 : Op8 := (gn yesW (opAt 0 [z] Tryz.f32) <|
  oVal (fMove (kon (.int .i64 0))) S4 <|
  (oVal (fFA 2 G2) S6 <|
  oVal (fLoad1 G6) S7 <|
  oVal (fMove G1) S8 <|
  oVal (fInt addI G8 (kon (.int .i64 1))) S9 <|
  oCall 72 (fArgs [G7, G9]) S10 <|
  oVal (fInt subI G10 (kon (.int .i64 1))) S11 <|
  oVal (fMove G11) S5 <|
  (oVal (fFA 1 G2) S12 <|
  oVal (fLoad1 G12) S13 <|
  oVal (fMove G5) S14 <|
  oVal (fIAs 2 G13 G14) S15 <|
  oVal (fFA 0 G15) S16 <|
  oVal (fLoad1 G16) S17 <|
  oVal (fMove G1) S18 <|
  oVal (fInt addI G17 G18) S19 <|
  oVal (fFA 2 G2) S20 <|
  oVal (fLoad1 G20) S21 <|
  oVal (fMove G5) S22 <|
  oVal (fIAs 1 G21 G22) S23 <|
  oVal (fLoad1 G23) S24 <|
  oVal (fInt subI G19 G24) S25 <|
  oVal (fMove G25) S4 <|
  sRet)))
def c33 : Op8 := (oVal (fMove (kon (.int .i64 0))) S4 <|
  (oVal (fMove G0) S5 <|
  oVal (fMove G1) S6 <|
  gn yesW (opAt 2 [u, z] Tryz.f33) <|
  oVal (fMove G7) S4 <|
  sRet))
def c34 : Op8 := (oVal (fMove (kon (.bool false))) S2 <|
  (oVal (fMove G0) S3 <|
  gn yesW (opAt 1 [u, z] Tryz.f34) <|
  oVal (fMove G4) S5 <|
  oGval (wntF G5 false) (fMove G0) S6 <|
  oGval (wntF G5 false) (fMove G0) S7 <|
  oGval (wntF G5 false) (fLenS G7) S8 <|
  oGval (wntF G5 false) (fInt subI G8 (kon (.int .i64 1))) S9 <|
  oGval (wntF G5 false) (fIxS G6 G9) S10 <|
  oGval (wntF G5 false) (fIntE G10 (kon (.int .u8 10))) S11 <|
  oVal (fPick G5 (kon (.bool true)) G11) S12 <|
  oVal (fMove G12) S13 <|
  oGval (wntF G13 false) (fMove G0) S14 <|
  oGval (wntF G13 false) (fMove G0) S15 <|
  oGval (wntF G13 false) (fLenS G15) S16 <|
  oGval (wntF G13 false) (fInt subI G16 (kon (.int .i64 1))) S17 <|
  oGval (wntF G13 false) (fIxS G14 G17) S18 <|
  oGval (wntF G13 false) (fIntE G18 (kon (.int .u8 13))) S19 <|
  oVal (fPick G13 (kon (.bool true)) G19) S20 <|
  oVal (fMove G20) S2 <|
  sRet))
def c35 : Op8 := (oVal (fMove (kon (.int .i64 0))) S4 <|
  (oVal (fMove G0) S8 <|
  oVal (fMove (kon (.int .i64 0))) S5 <|
  oVal (fMove G8) S6 <|
  (thenF (sBlock 0 (sLoop (thenF (oVal (fMove G5) S9 <|
  oVal (fMove G6) S10 <|
  oVal (fInt ltI G9 G10) S11 <|
  (sCond G11 oEnd
  (sExit 0)))
  (sBlock 1 (oVal (fMove G5) S12 <|
  oVal (fMove G6) S13 <|
  oVal (fInt addI G12 G13) S14 <|
  oVal (fCnvI .u64 G14) S15 <|
  gn yesW (opAt 4 [u, u, z, z, z, u, z, z] Tryz.f35) <|
  oVal (fCnvI .i64 G16) S17 <|
  oVal (fMove G17) S7 <|
  (oVal (fMove G1) S18 <|
  oVal (fMove G7) S19 <|
  gn yesW (opAt 2 [u, u, z, z, z, u, z, u, z] Tryz.f35) <|
  oVal (fNot G20) S21 <|
  (sCond G21 (oVal (fMove G7) S22 <|
  oVal (fInt addI G22 (kon (.int .i64 1))) S23 <|
  oVal (fMove G23) S5 <|
  oEnd)
  (oVal (fMove G7) S24 <|
  oVal (fMove G24) S6 <|
  oEnd))))))))
  (oVal (fMove G5) S25 <|
  oVal (fMove G25) S4 <|
  sRet))))
def c36 : Op8 := (oVal (fMove (kon (.bool false))) S4 <|
  (oVal (fLoad1 G1) S5 <|
  oVal (fMove G0) S6 <|
  oVal (fIAs 3 G5 G6) S7 <|
  oVal (fFA 2 G7) S8 <|
  oVal (fLoad1 G8) S9 <|
  oVal (fLoad1 G2) S10 <|
  oVal (fInt gtI G9 G10) S11 <|
  oVal (fMove G11) S4 <|
  sRet))
def c37 : Op8 := (oVal (fMove (kon (.int .i64 0))) S4 <|
  oVal (fMove (kon (.int .i64 0))) S5 <|
  (thenF (oVal (fMove G1) S8 <|
  oVal (fInt ltI G8 (kon (.int .i64 0))) S9 <|
  oVal (fMove G9) S10 <|
  oGval (wntF G10 false) (fMove G1) S11 <|
  oGval (wntF G10 false) (fMove G0) S12 <|
  oGval (wntF G10 false) (fLenS G12) S13 <|
  oGval (wntF G10 false) (fInt geI G11 G13) S14 <|
  oVal (fPick G10 (kon (.bool true)) G14) S15 <|
  (sCond G15 (oVal (fMove (kon (.int .i64 0))) S4 <|
  oVal (fMove (kon (.int .i64 0))) S5 <|
  sRet)
  oEnd))
  (oVal (fMove G0) S17 <|
  oVal (fMove G1) S18 <|
  oVal (fSlS G17 (some G18) none) S19 <|
  oCall 74 (fArgs [G19]) S20 <|
  oVal (fMove G20) S16 <|
  oVal (fExt 0 G16) S21 <|
  oVal (fExt 1 G16) S22 <|
  oVal (fMove G21) S6 <|
  oVal (fMove G22) S7 <|
  (oVal (fMove G6) S23 <|
  oVal (fCnvI .i64 G23) S24 <|
  oVal (fMove G7) S25 <|
  oVal (fMove G24) S4 <|
  oVal (fMove G25) S5 <|
  sRet))))
def c38 : Op8 := (oVal (fMove (kon (.str []))) S4 <|
  oVal (fMove (kon (.str []))) S5 <|
  oVal (fMove (kon (.bool false))) S6 <|
  (oVal (fMove G0) S7 <|
  oVal (fMove G1) S8 <|
  oCall 75 (fArgs [G7, G8]) S9 <|
  oVal (fExt 0 G9) S10 <|
  oVal (fExt 1 G9) S11 <|
  oVal (fExt 2 G9) S12 <|
  oVal (fMove G10) S4 <|
  oVal (fMove G11) S5 <|
  oVal (fMove G12) S6 <|
  sRet))
def c39 : Op8 := (oVal (fMove (kon (.int .i64 0))) S4 <|
  (thenF (oVal (fMove G1) S7 <|
  oVal (fLenS G7) S8 <|
  oVal (fIntE G8 (kon (.int .i64 0))) S9 <|
  (sCond G9 (oVal (fMove G0) S10 <|
  oCall 76 (fArgs [G10]) S11 <|
  oVal (fInt addI G11 (kon (.int .i64 1))) S12 <|
  oVal (fMove G12) S4 <|
  sRet)
  oEnd))
  (thenF (oVal (fMove G1) S13 <|
  oVal (fLenS G13) S14 <|
  oVal (fIntE G14 (kon (.int .i64 1))) S15 <|
  (sCond G15 (oVal (fMove G0) S16 <|
  oVal (fMove G1) S17 <|
  oVal (fIxS G17 (kon (.int .i64 0))) S18 <|
  gn yesW (opAt 3 [u, u, z, u, z, z] Tryz.f39) <|
  oVal (fMove G19) S4 <|
  sRet)
  oEnd))
  (oVal (fMove (kon (.int .i64 0))) S5 <|
  (sBlock 0 (sLoop (sBlock 1 (oVal (fMove G0) S20 <|
  oVal (fMove G1) S21 <|
  oCall 33 (fArgs [G20, G21]) S22 <|
  oVal (fMove G22) S6 <|
  (thenF (oVal (fMove G6) S23 <|
  oVal (fIntE G23 (kon (.int .i64 (-1)))) S24 <|
  (sCond G24 (oVal (fMove G5) S25 <|
  oVal (fMove G25) S4 <|
  sRet)
  oEnd))
  (oVal (fMove G5) S26 <|
  oVal (fInt addI G26 (kon (.int .i64 1))) S27 <|
  oVal (fMove G27) S5 <|
  (oVal (fMove G0) S28 <|
  oVal (fMove G6) S29 <|
  oVal (fMove G1) S30 <|
  oVal (fLenS G30) S31 <|
  oVal (fInt addI G29 G31) S32 <|
  oVal (fSlS G28 (some G32) none) S33 <|
  oVal (fMove G33) S0 <|
  oEnd)))))))))))
def c40 : Op8 := (oVal (fMove (kon .nils)) S4 <|
  (gn yesW (opAt 0 [u, z] Tryz.f40) <|
  oVal (fMove G12) S5 <|
  (oVal (fMove (kon (.int .i64 (-1)))) S6 <|
  (thenF (oVal (fMove G0) S13 <|
  gn yesW (opAt 1 [u, u, u, z, z] Tryz.f40) <|
  (sBlock 0 (sLoop (gn yesW (opAt 0 [u, u, u, z, u, z, z, z] Tryz.f40) <|
  oVal (fExt 0 G15) S16 <|
  (thenF (sCond G16 oEnd
  (sExit 0))
  (sBlock 1 (oVal (fExt 1 G15) S17 <|
  oVal (fExt 2 G15) S18 <|
  oVal (fMove G17) S7 <|
  oVal (fMove G18) S8 <|
  (oVal (fMove G1) S19 <|
  oVal (fMove G8) S20 <|
  gn yesW (opAt 2 [u, u, u, z, u, z, z, u, u, z, u, z] Tryz.f40) <|
  (sCond G21 (oVal (fMove G6) S22 <|
  oVal (fInt geI G22 (kon (.int .i64 0))) S23 <|
  (sCond G23 (oVal (fMove G5) S24 <|
  oVal (fMove G6) S25 <|
  oVal (fMove G7) S26 <|
  gn yesW (opAt 3 [u, u, u, z, u, z, z, u, u, z, u, u, z, u, z, z] Tryz.f40) <|
  gn yesW (opAt 4 [u, u, u, z, u, z, z, u, u, z, u, u, z, u, z, z] Tryz.f40) <|
  gn yesW (opAt 5 [u, u, u, z, u, z, z, u, u, z, u, u, z, u, z, z] Tryz.f40) <|
  oVal (fMove G29) S5 <|
  (oVal (fMove G6) S30 <|
  gn yesW (opAt 1 [u, u, u, z, u, z, z, u, u, z, u, u, z, u, z, u] Tryz.f40) <|
  oVal (fMove G31) S6 <|
  oEnd))
  oEnd))
  (oVal (fMove G6) S32 <|
  oVal (fInt ltI G32 (kon (.int .i64 0))) S33 <|
  (sCond G33 (oVal (fMove G7) S34 <|
  oVal (fMove G34) S6 <|
  oEnd)
  oEnd)))))))))))
  (thenF (oVal (fMove G6) S35 <|
  oVal (fInt geI G35 (kon (.int .i64 0))) S36 <|
  (sCond G36 (oVal (fMove G5) S37 <|
  oVal (fMove G6) S38 <|
  oVal (fMove G0) S39 <|
  oVal (fLenS G39) S40 <|
  gn yesW (opAt 4 [u, u, u, u, z, u, z] Tryz.f40) <|
  gn yesW (opAt 5 [u, u, u, u, z, u, z] Tryz.f40) <|
  gn yesW (opAt 6 [u, u, u, u, z, u, z] Tryz.f40) <|
  oVal (fMove G43) S5 <|
  oEnd)
  oEnd))
  (oVal (fMove G5) S44 <|
  oVal (fLenL G44) S45 <|
  gn yesW (opAt 2 [u, u, u, u, u, z] Tryz.f40) <|
  oVal (fMove G46) S9 <|
  (thenF (oVal (fMove G5) S47 <|
  oVal (fLenL G47) S48 <|
  oVal (fMove (kon (.int .i64 0))) S49 <|
  (sBlock 2 (sLoop (oVal (fInt ltI G49 G48) S50 <|
  (thenF (sCond G50 oEnd
  (sExit 2))
  (thenF (sBlock 3 (oVal (fMove G49) S51 <|
  oVal (fIAs 2 G47 G49) S52 <|
  oVal (fLoadN 2 G52) S53 <|
  gn yesW (opAt 3 [u, u, u, u, u, u, z, u, z, z, u, u, z, z, z] Tryz.f40) <|
  oVal (fMove G51) S10 <|
  oUpd (fSt tb 160 G11 G53) <|
  (oVal (fMove G9) S54 <|
  oVal (fMove G10) S55 <|
  oVal (fMove G0) S56 <|
  oVal (fFA 0 G11) S57 <|
  oVal (fLoad1 G57) S58 <|
  oVal (fFA 1 G11) S59 <|
  oVal (fLoad1 G59) S60 <|
  oVal (fSlS G56 (some G58) (some G60)) S61 <|
  oVal (fIAs 1 G54 G55) S62 <|
  oUpd (fSt1 G62 G61) <|
  oEnd)))
  (oVal (fInt addI G49 (kon (.int .i64 1))) S63 <|
  oVal (fMove G63) S49 <|
  oEnd)))))))
  (oVal (fMove G9) S64 <|
  oVal (fMove G64) S4 <|
  sRet))))))))
def c41 : Op8 := (oVal (fMove (kon (.bool false))) S2 <|
  (oVal (fMove G0) S3 <|
  oVal (fIntE G3 (kon (.int .i32 32))) S4 <|
  oVal (fMove G4) S5 <|
  oGval (wntF G5 false) (fMove G0) S6 <|
  oGval (wntF G5 false) (fIntE G6 (kon (.int .i32 9))) S7 <|
  oVal (fPick G5 (kon (.bool true)) G7) S8 <|
  oVal (fMove G8) S9 <|
  oGval (wntF G9 false) (fMove G0) S10 <|
  oGval (wntF G9 false) (fIntE G10 (kon (.int .i32 10))) S11 <|
  oVal (fPick G9 (kon (.bool true)) G11) S12 <|
  oVal (fMove G12) S2 <|
  sRet))
def c42 : Op8 := (oVal (fMove (kon (.int .i64 0))) S4 <|
  (oVal (fMove G0) S5 <|
  oVal (fMove G1) S6 <|
  oCall 78 (fArgs [G5, G6]) S7 <|
  oVal (fMove G7) S4 <|
  sRet))
def c43 : Op8 := (oVal (fMove (kon (.bool false))) S4 <|
  (oVal (fMove G0) S5 <|
  oVal (fMove G1) S6 <|
  oCall 79 (fArgs [G5, G6]) S7 <|
  oVal (fInt geI G7 (kon (.int .i64 0))) S8 <|
  oVal (fMove G8) S4 <|
  sRet))
def c44 : Op8 := (oVal (fMove (kon .nils)) S2 <|
  (oVal (fMove (kon .nils)) S3 <|
  (thenF (oVal (fMove G0) S7 <|
  oVal (fLenL G7) S8 <|
  oVal (fMove (kon (.int .i64 0))) S9 <|
  (sBlock 0 (sLoop (oVal (fInt ltI G9 G8) S10 <|
  (thenF (sCond G10 oEnd
  (sExit 0))
  (thenF (sBlock 1 (oVal (fIAs 1 G7 G9) S11 <|
  oVal (fLoad1 G11) S12 <|
  oVal (fMove G12) S5 <|
  (oVal (fMove G3) S13 <|
  oVal (fMove G5) S14 <|
  oCall 80 (fArgs [G14]) S15 <|
  gn yesW (opAt 3 [u, u, z, u, z, z, u, u, z, z, u] Tryz.f44) <|
  oVal (fMove G16) S3 <|
  oEnd)))
  (oVal (fInt addI G9 (kon (.int .i64 1))) S17 <|
  oVal (fMove G17) S9 <|
  oEnd)))))))
  (thenF (oVal (fMove G0) S18 <|
  oVal (fLenL G18) S19 <|
  oVal (fIntE G19 (kon (.int .i64 0))) S20 <|
  (sCond G20 (oCall 9 (fArgs []) S21 <|
  oVal (fLenL G21) S22 <|
  oVal (fMove (kon (.int .i64 0))) S23 <|
  (sBlock 2 (sLoop (oVal (fInt ltI G23 G22) S24 <|
  (thenF (sCond G24 oEnd
  (sExit 2))
  (thenF (sBlock 3 (oVal (fMove G23) S25 <|
  oVal (fMove G25) S6 <|
  (oVal (fMove G3) S26 <|
  oVal (fMove G6) S27 <|
  gn yesW (opAt 2 [u, u, u, z, u, z, u, z, z, u, u, z, z, u] Tryz.f44) <|
  gn yesW (opAt 3 [u, u, u, z, u, z, u, z, z, u, u, z, z, u] Tryz.f44) <|
  oVal (fMove G29) S3 <|
  oEnd)))
  (oVal (fInt addI G23 (kon (.int .i64 1))) S30 <|
  oVal (fMove G30) S23 <|
  oEnd)))))))
  oEnd))
  (oVal (fMove G3) S31 <|
  oVal (fMove G31) S2 <|
  sRet)))))
def c45 : Op8 := (oVal (fMove (kon (.int .i64 0))) S4 <|
  (sBlock 0 (oVal (fMove G1) S161 <|
  oVal (fInt leI (kon (.int .i32 0)) G161) S162 <|
  oVal (fMove G162) S163 <|
  oGval (wntF G163 true) (fMove G1) S164 <|
  oGval (wntF G163 true) (fInt ltI G164 (kon (.int .i32 128))) S165 <|
  oVal (fPick G163 G165 (kon (.bool false))) S166 <|
  oVal (fMove G166) S160 <|
  (sCond G160 (oVal (fMove G0) S167 <|
  oVal (fMove G1) S168 <|
  oVal (fCnvI .u8 G168) S169 <|
  oCall 42 (fArgs [G167, G169]) S170 <|
  oVal (fMove G170) S4 <|
  sRet)
  (oVal (fMove G1) S172 <|
  oVal (fIntE G172 (kon (.int .i32 65533))) S173 <|
  oVal (fMove G173) S171 <|
  (sCond G171 (thenF (oVal (fMove G0) S174 <|
  gn yesW (opAt 1 [u, z, u, u, u, z, z, z] Tryz.f45) <|
  (sBlock 9 (sLoop (gn yesW (opAt 0 [u, z, u, u, u, z, z, u, z, z, z] Tryz.f45) <|
  oVal (fExt 0 G176) S177 <|
  (thenF (sCond G177 oEnd
  (sExit 9))
  (sBlock 10 (oVal (fExt 1 G176) S178 <|
  oVal (fExt 2 G176) S179 <|
  oVal (fMove G178) S5 <|
  oVal (fMove G179) S6 <|
  (oVal (fMove G6) S180 <|
  oVal (fIntE G180 (kon (.int .i32 65533))) S181 <|
  (sCond G181 (oVal (fMove G5) S182 <|
  oVal (fMove G182) S4 <|
  sRet)
  oEnd)))))))))
  (oVal (fMove (kon (.int .i64 (-1)))) S4 <|
  sRet))
  (oVal (fMove G1) S184 <|
  oCall 81 (fArgs [G184]) S185 <|
  oVal (fNot G185) S186 <|
  oVal (fMove G186) S183 <|
  (sCond G183 (oVal (fMove (kon (.int .i64 (-1)))) S4 <|
  sRet)
  sBad))))))))
def c46 : Op8 := (oVal (fMove (kon (.bool false))) S2 <|
  (oVal (fMove G0) S3 <|
  oVal (fInt gtI G3 (kon (.int .i64 8))) S4 <|
  oVal (fMove G4) S2 <|
  sRet))
def c47 : Op8 := (gn yesW (opAt 0 [z] Tryz.f47) <|
  oVal (fMove (kon (.bool false))) S3 <|
  (thenF (oVal (fMove (kon (.int .i64 0))) S4 <|
  (sBlock 0 (sLoop (thenF (oVal (fMove G4) S6 <|
  oVal (fMove G0) S7 <|
  oVal (fLenS G7) S8 <|
  oVal (fInt ltI G6 G8) S9 <|
  (sCond G9 oEnd
  (sExit 0)))
  (thenF (sBlock 1 (oVal (fMove G0) S12 <|
  oVal (fMove G4) S13 <|
  oVal (fIxS G12 G13) S14 <|
  oVal (fMove G14) S5 <|
  (thenF (oVal (fMove G5) S15 <|
  oVal (fInt geI G15 (kon (.int .u8 128))) S16 <|
  (sCond G16 (oVal (fLoadN 256 G2) S17 <|
  oUpd (fSt tb 114 G2 G17) <|
  oVal (fMove (kon (.bool false))) S3 <|
  sRet)
  oEnd))
  (oVal (fMove G5) S18 <|
  oVal (fIAa 256 1 G2 G18) S19 <|
  oUpd (fSt1 G19 (kon (.bool true))) <|
  oEnd))))
  (oVal (fMove G4) S10 <|
  oVal (fInt addI G10 (kon (.int .i64 1))) S11 <|
  oVal (fMove G11) S4 <|
  oEnd))))))
  (oVal (fLoadN 256 G2) S20 <|
  oUpd (fSt tb 114 G2 G20) <|
  oVal (fMove (kon (.bool true))) S3 <|
  sRet)))
def c48 : Op8 := (oVal (fMove (kon (.bool false))) S4 <|
  (oVal (fMove G0) S5 <|
  oVal (fMove G1) S6 <|
  oVal (fNil G5) S7 <|
  oVal (fIAa 256 1 G7 G6) S8 <|
  oVal (fLoad1 G8) S9 <|
  oVal (fMove G9) S4 <|
  sRet))
def c49 : Op8 := (oVal (fMove (kon (.bool false))) S4 <|
  (oVal (fMove G0) S5 <|
  oVal (fLenS G5) S6 <|
  oVal (fMove G1) S7 <|
  oVal (fLenS G7) S8 <|
  oVal (fInt geI G6 G8) S9 <|
  oVal (fMove G9) S10 <|
  oGval (wntF G10 true) (fMove G0) S11 <|
  oGval (wntF G10 true) (fMove G1) S12 <|
  oGval (wntF G10 true) (fLenS G12) S13 <|
  oGval (wntF G10 true) (fSlS G11 none (some G13)) S14 <|
  oGval (wntF G10 true) (fMove G1) S15 <|
  gn (wntF G10 true) (opAt 11 [u, z] Tryz.f49) <|
  oVal (fPick G10 G16 (kon (.bool false))) S17 <|
  oVal (fMove G17) S4 <|
  sRet))
def c50 : Op8 := (oVal (fMove (kon (.bool false))) S4 <|
  (oVal (fMove G0) S8 <|
  oVal (fNil G8) S9 <|
  oVal (fFA 0 G9) S10 <|
  oCall 84 (fArgs [G10]) S11 <|
  oVal (fMove G11) S7 <|
  oVal (fExt 0 G7) S12 <|
  oVal (fExt 1 G7) S13 <|
  oVal (fMove G12) S5 <|
  oVal (fMove G13) S6 <|
  (thenF (oVal (fMove G1) S14 <|
  oVal (fNil G14) S15 <|
  oVal (fFA 0 G15) S16 <|
  oVal (fFA 0 G16) S17 <|
  oVal (fLoad1 G17) S18 <|
  (sBlock 0 (oVal (fIntE G18 (kon (.int .i64 2))) S20 <|
  oVal (fMove G20) S19 <|
  (sCond G19 (thenF (sDraw <| dVal cP 0 (fMove G5) S21 <|
  dVal cP 1 (fInt gtI G21 (kon (.int .i64 3))) S22 <|
  dVal cP 2 (fMove G22) S23 <|
  dGval (wntF G23 false) cP 3 (fMove G0) S24 <|
  dGval (wntF G23 false) cP 4 (fNil G24) S25 <|
  dGval (wntF G23 false) cP 5 (fFA 0 G25) S26 <|
  dGval (wntF G23 false) cP 6 (fFA 0 G26) S27 <|
  dGval (wntF G23 false) (cL G27) 7 (fLoad1 G27) S28 <|
  dGval (wntF G23 false) cP 8 (fMove G6) S29 <|
  dGval (wntF G23 false) cP 9 (fMove G0) S30 <|
  dGval (wntF G23 false) cP 10 (fNil G30) S31 <|
  dGval (wntF G23 false) cP 11 (fFA 0 G31) S32 <|
  dGval (wntF G23 false) cP 12 (fFA 2 G32) S33 <|
  dGval (wntF G23 false) (cL G33) 13 (fLoad1 G33) S34 <|
  dGval (wntF G23 false) cP 14 (fSlS G28 (some G29) (some G34)) S35 <|
  dGcall (wntF G23 false) cE 15 85 (fArgs [G35]) S36 <|
  dGval (wntF G23 false) cP 16 (fNot G36) S37 <|
  dVal cP 17 (fPick G23 (kon (.bool true)) G37) S38 <|
  dEnd [0, 1, 3, 7, 15, 31, 63, 127, 7, 7, 519, 1543, 3591, 7687, 16383, 32767, 65535, 131071] (sCond G38 (oVal (fMove (kon (.bool false))) S4 <|
  sRet)
  oEnd))
  (oVal (fMove G0) S39 <|
  oVal (fNil G39) S40 <|
  oVal (fFA 0 G40) S41 <|
  oCall 86 (fArgs [G41, (kon (.int .i64 1))]) S42 <|
  (oVal (fMove G0) S43 <|
  oVal (fNil G43) S44 <|
  oVal (fFA 0 G44) S45 <|
  oCall 87 (fArgs [G45, (kon (.int .i64 1))]) S46 <|
  (oVal (fMove G1) S47 <|
  oVal (fMove G0) S48 <|
  oVal (fNil G48) S49 <|
  oVal (fFA 0 G49) S50 <|
  oVal (fFA 2 G50) S51 <|
  oVal (fLoad1 G51) S52 <|
  oCall 88 (fArgs [G47, G52]) S53 <|
  oEnd))))
  (oVal (fIntE G18 (kon (.int .i64 4))) S55 <|
  oVal (fMove G55) S54 <|
  (sCond G54 (sBlock 1 (oVal (fMove G0) S57 <|
  oVal (fNil G57) S58 <|
  oVal (fFA 0 G58) S59 <|
  oCall 54 (fArgs [G59]) S60 <|
  oVal (fMove G60) S56 <|
  (sCond G56 (thenF (oVal (fMove G1) S61 <|
  oVal (fNil G61) S62 <|
  oVal (fFA 18 G62) S63 <|
  oVal (fLoad1 G63) S64 <|
  oVal (fNot G64) S65 <|
  (sCond G65 (oVal (fMove (kon (.bool false))) S4 <|
  sRet)
  oEnd))
  (oVal (fMove G0) S66 <|
  oVal (fNil G66) S67 <|
  oVal (fFA 0 G67) S68 <|
  oCall 89 (fArgs [G68]) S69 <|
  oEnd))
  (oVal (fMove G5) S71 <|
  oVal (fMove G1) S72 <|
  oVal (fNil G72) S73 <|
  oVal (fFA 13 G73) S74 <|
  oVal (fLoad1 G74) S75 <|
  oVal (fInt geI G71 G75) S76 <|
  oVal (fMove G76) S70 <|
  (sCond G70 (sDraw <| dVal cP 0 (fMove G0) S77 <|
  dVal cP 1 (fNil G77) S78 <|
  dVal cP 2 (fFA 0 G78) S79 <|
  dVal cP 3 (fMove G1) S80 <|
  dVal cP 4 (fNil G80) S81 <|
  dVal cP 5 (fFA 13 G81) S82 <|
  dVal (cL G82) 6 (fLoad1 G82) S83 <|
  dCall cE 7 87 (fArgs [G79, G83]) S84 <|
  dEnd [0, 1, 3, 0, 8, 24, 56, 127] oEnd)
  (oVal (fMove (kon (.bool false))) S4 <|
  sRet))))))
  oEnd))))))
  (oVal (fMove (kon (.bool true))) S4 <|
  sRet))))
def c51 : Op8 := (oVal (fMove (kon (.int .i64 0))) S2 <|
  (oVal (fMove (kon (.int .i64 0))) S3 <|
  (thenF (oVal (fMove G0) S6 <|
  oVal (fLenL G6) S7 <|
  oVal (fMove (kon (.int .i64 0))) S8 <|
  (sBlock 0 (sLoop (oVal (fInt ltI G8 G7) S9 <|
  (thenF (sCond G9 oEnd
  (sExit 0))
  (thenF (sBlock 1 (oVal (fIAs 1 G6 G8) S10 <|
  oVal (fLoad1 G10) S11 <|
  oVal (fMove G11) S5 <|
  (oVal (fMove G5) S12 <|
  oVal (fNil G12) S13 <|
  oVal (fFA 0 G13) S14 <|
  oVal (fFA 0 G14) S15 <|
  oVal (fLoad1 G15) S16 <|
  oVal (fIntE G16 (kon (.int .i64 2))) S17 <|
  (sCond G17 (oVal (fMove G3) S18 <|
  oVal (fInt addI G18 (kon (.int .i64 1))) S19 <|
  oVal (fMove G19) S3 <|
  oEnd)
  oEnd))))
  (oVal (fInt addI G8 (kon (.int .i64 1))) S20 <|
  oVal (fMove G20) S8 <|
  oEnd)))))))
  (oVal (fMove G3) S21 <|
  oVal (fMove G21) S2 <|
  sRet))))
def c52 : Op8 := (oVal (fMove (kon (.bool false))) S2 <|
  (oVal (fMove G0) S3 <|
  oVal (fNil G3) S4 <|
  oVal (fFA 6 G4) S5 <|
  oVal (fLoad1 G5) S6 <|
  oVal (fMove G0) S7 <|
  oVal (fNil G7) S8 <|
  oVal (fFA 5 G8) S9 <|
  oVal (fLoad1 G9) S10 <|
  oVal (fLenL G10) S11 <|
  oVal (fIntE G6 G11) S12 <|
  oVal (fMove G12) S2 <|
  sRet))
def c53 : Op8 := (oVal (fMove (kon (.bool false))) S2 <|
  (thenF (oVal (fMove G0) S3 <|
  oVal (fNil G3) S4 <|
  oVal (fFA 7 G4) S5 <|
  oVal (fLoad1 G5) S6 <|
  gn yesW (opAt 4 [u, z, z] Tryz.f53) <|
  (sCond G7 (oVal (fMove (kon (.bool false))) S2 <|
  sRet)
  oEnd))
  (thenF (oVal (fMove G0) S8 <|
  oVal (fNil G8) S9 <|
  oVal (fFA 7 G9) S10 <|
  oVal (fLoad1 G10) S11 <|
  oVal (fNil G11) S12 <|
  oVal (fFA 0 G12) S13 <|
  oVal (fFA 0 G13) S14 <|
  oVal (fLoad1 G14) S15 <|
  (sBlock 0 (oVal (fIntE G15 (kon (.int .i64 8))) S17 <|
  oVal (fMove G17) S16 <|
  (sCond G16 (oVal (fMove G0) S18 <|
  oCall 90 (fArgs [G18]) S19 <|
  oVal (fMove G19) S2 <|
  sRet)
  (oVal (fIntE G15 (kon (.int .i64 9))) S21 <|
  oVal (fMove G21) S20 <|
  (sCond G20 (oVal (fMove G0) S22 <|
  oCall 91 (fArgs [G22]) S23 <|
  oVal (fMove G23) S2 <|
  sRet)
  oEnd))))))
  (thenF (oVal (fMove G0) S24 <|
  oVal (fNil G24) S25 <|
  oVal (fFA 0 G25) S26 <|
  oCall 54 (fArgs [G26]) S27 <|
  (sCond G27 (oVal (fMove G0) S28 <|
  oCall 27 (fArgs [G28]) S29 <|
  oEnd)
  oEnd))
  (oVal (fMove (kon (.bool false))) S2 <|
  sRet)))))
def c54 : Op8 := (oVal (fMove (kon (.bool false))) S2 <|
  (oVal (fMove G0) S3 <|
  oCall 92 (fArgs [G3]) S4 <|
  gn yesW (opAt 2 [u, z] Tryz.f54) <|
  oVal (fMove G5) S2 <|
  sRet))
def c55 : Op8 := (oVal (fMove (kon (.int .i64 0))) S2 <|
  (thenF (oVal (fMove G0) S7 <|
  oVal (fNil G7) S8 <|
  oVal (fFA 0 G8) S9 <|
  oCall 93 (fArgs [G9]) S10 <|
  oVal (fInt geI G10 (kon (.int .i64 4))) S11 <|
  (sCond G11 (thenF (oVal (fMove G0) S12 <|
  oCall 56 (fArgs [G12]) S13 <|
  (sCond G13 (oVal (fMove (kon (.int .i64 0))) S2 <|
  sRet)
  oEnd))
  (oVal (fMove G0) S14 <|
  oCall 59 (fArgs [G14, (kon (.int .i64 8))]) S15 <|
  gn yesW (opAt 2 [u, z, u, z, u, z] Tryz.f55) <|
  oUpd (fSt tb 71 G3 G15) <|
  (oVal (fMove G0) S16 <|
  oVal (fNil G16) S17 <|
  oVal (fFA 0 G17) S18 <|
  oCall 87 (fArgs [G18, (kon (.int .i64 4))]) S19 <|
  (oVal (fMove G0) S20 <|
  oVal (fMove G0) S21 <|
  oVal (fLoadN 10 G3) S22 <|
  oCall 58 (fArgs [G21, G22]) S23 <|
  oVal (fNil G20) S24 <|
  oVal (fFA 7 G24) S25 <|
  oUpd (fSt1 G25 G23) <|
  (oVal (fMove G0) S26 <|
  oVal (fMove G0) S27 <|
  oVal (fNil G27) S28 <|
  oVal (fFA 0 G28) S29 <|
  oCall 95 (fArgs [G29]) S30 <|
  oCall 94 (fArgs [G26, G30]) S31 <|
  (oVal (fMove (kon (.int .i64 2))) S2 <|
  sRet))))))
  oEnd))
  (thenF (oVal (fMove G0) S32 <|
  gn yesW (opAt 1 [u, u, z, z] Tryz.f55) <|
  oVal (fMove G0) S34 <|
  gn yesW (opAt 3 [u, u, z, z] Tryz.f55) <|
  oVal (fMove G0) S36 <|
  gn yesW (opAt 5 [u, u, z, z] Tryz.f55) <|
  oVal (fMove G0) S38 <|
  gn yesW (opAt 7 [u, u, z, z] Tryz.f55) <|
  oVal (fMove G0) S40 <|
  gn yesW (opAt 9 [u, u, z, z] Tryz.f55) <|
  oVal (fMove G0) S42 <|
  gn yesW (opAt 11 [u, u, z, z] Tryz.f55) <|
  oVal (fMove G0) S44 <|
  gn yesW (opAt 13 [u, u, z, z] Tryz.f55) <|
  gn yesW (opAt 14 [u, u, z, z] Tryz.f55) <|
  oVal (fLenL G46) S47 <|
  oVal (fMove (kon (.int .i64 0))) S48 <|
  (sBlock 0 (sLoop (oVal (fInt ltI G48 G47) S49 <|
  (thenF (sCond G49 oEnd
  (sExit 0))
  (thenF (sBlock 1 (oVal (fIAs 1 G46 G48) S50 <|
  oVal (fLoad1 G50) S51 <|
  oVal (fMove G51) S5 <|
  (oVal (fMove G5) S52 <|
  gn yesW (opAt 1 [u, u, z, u, z, z, u, u, z, z, u, z] Tryz.f55) <|
  oVal (fMove G53) S6 <|
  (oVal (fMove G6) S54 <|
  oVal (fInt neI G54 (kon (.int .i64 0))) S55 <|
  (sCond G55 (oVal (fMove G6) S56 <|
  oVal (fMove G56) S2 <|
  sRet)
  oEnd)))))
  (oVal (fInt addI G48 (kon (.int .i64 1))) S57 <|
  oVal (fMove G57) S48 <|
  oEnd)))))))
  (oVal (fMove (kon (.int .i64 0))) S2 <|
  sRet))))
def c56 : Op8 := (oVal (fMove (kon (.bool false))) S2 <|
  (oVal (fMove G0) S3 <|
  oVal (fNil G3) S4 <|
  oVal (fFA 10 G4) S5 <|
  oVal (fLoad1 G5) S6 <|
  oVal (fNot G6) S7 <|
  oVal (fMove G7) S8 <|
  oGval (wntF G8 true) (fMove G0) S9 <|
  oGval (wntF G8 true) (fNil G9) S10 <|
  oGval (wntF G8 true) (fFA 7 G10) S11 <|
  oGval (wntF G8 true) (fLoad1 G11) S12 <|
  gn (wntF G8 true) (opAt 10 [u, z] Tryz.f56) <|
  oVal (fPick G8 G13 (kon (.bool false))) S14 <|
  oVal (fMove G14) S15 <|
  oGval (wntF G15 true) (fMove G0) S16 <|
  oGval (wntF G15 true) (fNil G16) S17 <|
  oGval (wntF G15 true) (fFA 7 G17) S18 <|
  oGval (wntF G15 true) (fLoad1 G18) S19 <|
  oGval (wntF G15 true) (fNil G19) S20 <|
  oGval (wntF G15 true) (fFA 0 G20) S21 <|
  oGval (wntF G15 true) (fFA 0 G21) S22 <|
  oGval (wntF G15 true) (fLoad1 G22) S23 <|
  oGval (wntF G15 true) (fIntE G23 (kon (.int .i64 5))) S24 <|
  oVal (fPick G15 G24 (kon (.bool false))) S25 <|
  oVal (fMove G25) S2 <|
  sRet))
def c57 : Op8 := (oVal (fMove G0) S3 <|
  oCall 59 (fArgs [G3, (kon (.int .i64 0))]) S4 <|
  gn yesW (opAt 2 [z] Tryz.f57) <|
  oUpd (fSt tb 71 G2 G4) <|
  (sDraw <| dVal cP 0 (fMove G0) S5 <|
  dVal cP 1 (fNil G5) S6 <|
  dVal cP 2 (fFA 7 G6) S7 <|
  dVal (cL G7) 3 (fLoad1 G7) S8 <|
  dVal cP 4 (fMove G0) S9 <|
  dVal cP 5 (fNil G9) S10 <|
  dVal cP 6 (fFA 7 G10) S11 <|
  dVal (cL G11) 7 (fLoad1 G11) S12 <|
  dVal cP 8 (fNil G12) S13 <|
  dVal cP 9 (fFA 0 G13) S14 <|
  dVal cP 10 (fFA 9 G14) S15 <|
  dVal (cL G15) 11 (fLoad1 G15) S16 <|
  dVal cP 12 (fFA 1 G2) S17 <|
  dVal (cL G17) 13 (fLoad1 G17) S18 <|
  dVal cP 14 (fFA 2 G2) S19 <|
  dVal (cL G19) 15 (fLoad1 G19) S20 <|
  gd cP 16 yesW (opAt 16 [u, z] Tryz.f57) <|
  gd cN 17 yesW (opAt 17 [u, z] Tryz.f57) <|
  gd cE 18 yesW (opAt 18 [u, z] Tryz.f57) <|
  dVal cP 19 (fNil G8) S24 <|
  dVal cP 20 (fFA 0 G24) S25 <|
  dVal cP 21 (fFA 9 G25) S26 <|
  dUpd cE 22 (fSt1 G26 G23) <|
  dEnd [0, 1, 3, 7, 0, 16, 48, 112, 240, 496, 1008, 2032, 0, 4096, 0, 16384, 61440, 126976, 262128, 524287, 1048575, 2097151, 4194303] (sDraw <| dVal cP 0 (fMove G0) S27 <|
  dVal cP 1 (fNil G27) S28 <|
  dVal cP 2 (fFA 7 G28) S29 <|
  dVal (cL G29) 3 (fLoad1 G29) S30 <|
  dVal cP 4 (fMove G0) S31 <|
  dVal cP 5 (fNil G31) S32 <|
  dVal cP 6 (fFA 0 G32) S33 <|
  dVal cP 7 (fFA 2 G33) S34 <|
  dVal (cL G34) 8 (fLoad1 G34) S35 <|
  dCall cE 9 88 (fArgs [G30, G35]) S36 <|
  dEnd [0, 1, 3, 7, 0, 16, 48, 112, 240, 511] oEnd)))
def c58 : Op8 := (gn yesW (opAt 0 [z] Tryz.f58) <|
  oVal (fMove (kon .nilp)) S4 <|
  (oVal (fMove G0) S7 <|
  oCall 27 (fArgs [G7]) S8 <|
  (sDraw <| dVal cP 0 (fMove G0) S9 <|
  dVal cP 1 (fMove G0) S10 <|
  dVal cP 2 (fNil G10) S11 <|
  dVal cP 3 (fFA 5 G11) S12 <|
  dVal (cL G12) 4 (fLoad1 G12) S13 <|
  dVal cP 5 (fMove G0) S14 <|
  dVal cP 6 (fNil G14) S15 <|
  dVal cP 7 (fFA 6 G15) S16 <|
  dVal (cL G16) 8 (fLoad1 G16) S17 <|
  gd cE 9 yesW (opAt 9 [u, u, z] Tryz.f58) <|
  dVal cP 10 (fNil G9) S19 <|
  dVal cP 11 (fFA 5 G19) S20 <|
  dUpd cE 12 (fSt1 G20 G18) <|
  dEnd [0, 0, 2, 6, 14, 0, 32, 96, 224, 510, 1023, 2047, 4095] (thenF (oVal (fMove G0) S21 <|
  oCall 103 (fArgs [G21]) S22 <|
  oVal (fNil G22) S23 <|
  oVal (fFA 0 G23) S24 <|
  oVal (fFA 0 G24) S25 <|
  oVal (fLoad1 G25) S26 <|
  oVal (fIntE G26 (kon (.int .i64 3))) S27 <|
  oVal (fMove G27) S28 <|
  oGval (wntF G28 true) (fFA 0 G3) S29 <|
  oGval (wntF G28 true) (fLoad1 G29) S30 <|
  oGval (wntF G28 true) (fInt neI G30 (kon (.int .i64 4))) S31 <|
  oVal (fPick G28 G31 (kon (.bool false))) S32 <|
  (sCond G32 (sDraw <| dVal cP 0 (fMove G0) S33 <|
  dVal cP 1 (fMove G0) S34 <|
  dVal cP 2 (fNil G34) S35 <|
  dVal cP 3 (fFA 5 G35) S36 <|
  dVal (cL G36) 4 (fLoad1 G36) S37 <|
  dVal cP 5 (fMove G0) S38 <|
  dVal cP 6 (fNil G38) S39 <|
  dVal cP 7 (fFA 5 G39) S40 <|
  dVal (cL G40) 8 (fLoad1 G40) S41 <|
  dVal cP 9 (fLenL G41) S42 <|
  dVal cP 10 (fInt subI G42 (kon (.int .i64 1))) S43 <|
  gd cE 11 yesW (opAt 11 [u, u, u, z, u, z] Tryz.f58) <|
  dVal cP 12 (fNil G33) S45 <|
  dVal cP 13 (fFA 5 G45) S46 <|
  dUpd cE 14 (fSt1 G46 G44) <|
  dEnd [0, 0, 2, 6, 14, 0, 32, 96, 224, 480, 992, 2046, 4095, 8191, 16383] oEnd)
  oEnd))
  (sDraw <| dVal (cL G3) 0 (fLoadN 10 G3) S47 <|
  dVal cP 1 (fMove G0) S48 <|
  dCall cE 2 103 (fArgs [G48]) S49 <|
  dVal cP 3 (fMove G0) S50 <|
  dVal cP 4 (fNil G50) S51 <|
  dVal cP 5 (fFA 9 G51) S52 <|
  dVal (cL G52) 6 (fLoad1 G52) S53 <|
  dVal cP 7 (fLenL G53) S54 <|
  dVal cP 8 (fInt subI G54 (kon (.int .i64 1))) S55 <|
  gd cP 9 yesW (opAt 9 [u, u, u, u, z] Tryz.f58) <|
  gd cN 10 yesW (opAt 10 [u, u, u, u, z] Tryz.f58) <|
  dVal cP 11 (fMove G57) S5 <|
  dEnd [0, 0, 2, 0, 8, 24, 56, 120, 248, 511, 1023, 2047] (sDraw <| dVal cP 0 (fMove G5) S58 <|
  dVal cP 1 (fNil G58) S59 <|
  dVal cP 2 (fFA 10 G59) S60 <|
  dVal (cL G60) 3 (fLoad1 G60) S61 <|
  dVal cP 4 (fMove G5) S62 <|
  dVal cP 5 (fNil G62) S63 <|
  dVal cP 6 (fFA 10 G63) S64 <|
  dVal (cL G64) 7 (fLoad1 G64) S65 <|
  dVal cP 8 (fNil G65) S66 <|
  dVal cP 9 (fFA 11 G66) S67 <|
  dVal (cL G67) 10 (fLoad1 G67) S68 <|
  dVal cP 11 (fMove G5) S69 <|
  gd cN 12 yesW (opAt 12 [u, u, u, u, u, z] Tryz.f58) <|
  gd cE 13 yesW (opAt 13 [u, u, u, u, u, z] Tryz.f58) <|
  dVal cP 14 (fNil G61) S72 <|
  dVal cP 15 (fFA 11 G72) S73 <|
  dUpd cE 16 (fSt1 G73 G71) <|
  dEnd [0, 1, 3, 7, 0, 16, 48, 112, 240, 496, 1008, 0, 2048, 8176, 16383, 32767, 65535] (thenF (oVal (fMove G5) S74 <|
  oVal (fNil G74) S75 <|
  oVal (fFA 10 G75) S76 <|
  oVal (fLoad1 G76) S77 <|
  oVal (fMove G77) S6 <|
  (sBlock 0 (sLoop (thenF (oVal (fMove G6) S78 <|
  gn yesW (opAt 1 [u, u, u, u, u, u, z, u, z, z, z, z] Tryz.f58) <|
  oVal (fMove G79) S80 <|
  oGval (wntF G80 true) (fMove G6) S81 <|
  oGval (wntF G80 true) (fNil G81) S82 <|
  oGval (wntF G80 true) (fFA 18 G82) S83 <|
  oGval (wntF G80 true) (fLoad1 G83) S84 <|
  oGval (wntF G80 true) (fNot G84) S85 <|
  oVal (fPick G80 G85 (kon (.bool false))) S86 <|
  (sCond G86 oEnd
  (sExit 0)))
  (thenF (sBlock 1 (oVal (fMove G6) S91 <|
  oVal (fNil G91) S92 <|
  oVal (fFA 18 G92) S93 <|
  oUpd (fSt1 G93 (kon (.bool true))) <|
  oEnd))
  (oVal (fMove G6) S87 <|
  oVal (fNil G87) S88 <|
  oVal (fFA 10 G88) S89 <|
  oVal (fLoad1 G89) S90 <|
  oVal (fMove G90) S6 <|
  oEnd))))))
  (sDraw <| dVal cP 0 (fMove G5) S94 <|
  dVal cP 1 (fNil G94) S95 <|
  dVal cP 2 (fFA 10 G95) S96 <|
  dVal (cL G96) 3 (fLoad1 G96) S97 <|
  dVal cP 4 (fMove G5) S98 <|
  dVal cP 5 (fNil G98) S99 <|
  dVal cP 6 (fFA 0 G99) S100 <|
  dVal cP 7 (fFA 2 G100) S101 <|
  dVal (cL G101) 8 (fLoad1 G101) S102 <|
  dCall cE 9 88 (fArgs [G97, G102]) S103 <|
  dEnd [0, 1, 3, 7, 0, 16, 48, 112, 240, 511] (oVal (fMove G0) S104 <|
  oVal (fMove G0) S105 <|
  oVal (fNil G105) S106 <|
  oVal (fFA 5 G106) S107 <|
  oVal (fLoad1 G107) S108 <|
  oVal (fLenL G108) S109 <|
  oVal (fNil G104) S110 <|
  oVal (fFA 6 G110) S111 <|
  oUpd (fSt1 G111 G109) <|
  (oVal (fMove G5) S112 <|
  oVal (fMove G112) S4 <|
  sRet))))))))))
def c59 : Op8 := (gn yesW (opAt 0 [z] Tryz.f59) <|
  (oVal (fMove G0) S8 <|
  oVal (fNil G8) S9 <|
  oVal (fFA 0 G9) S10 <|
  oCall 84 (fArgs [G10]) S11 <|
  oVal (fMove G11) S7 <|
  oVal (fExt 0 G7) S12 <|
  oVal (fExt 1 G7) S13 <|
  oVal (fMove G12) S5 <|
  oVal (fMove G13) S6 <|
  (oVal (fMove G1) S14 <|
  oVal (fMove G6) S15 <|
  oVal (fMove G0) S16 <|
  oVal (fNil G16) S17 <|
  oVal (fFA 0 G17) S18 <|
  oVal (fFA 2 G18) S19 <|
  oVal (fLoad1 G19) S20 <|
  gn yesW (opAt 7 [u, u, z] Tryz.f59) <|
  oUpd (fSt tb 71 G4 G21) <|
  sRet)))
def c60 : Op8 := (sDraw <| dVal cP 0 (fMove G0) S9 <|
  dVal cP 1 (fNil G9) S10 <|
  dVal cP 2 (fFA 0 G10) S11 <|
  dVal cP 3 (fFA 0 G11) S12 <|
  dVal (cL G12) 4 (fLoad1 G12) S13 <|
  dVal cP 5 (fMove G1) S14 <|
  dVal cP 6 (fNil G14) S15 <|
  dVal cP 7 (fFA 0 G15) S16 <|
  dVal cP 8 (fFA 9 G16) S17 <|
  dVal (cL G17) 9 (fLoad1 G17) S18 <|
  dCall cE 10 104 (fArgs [G13, G18]) S19 <|
  gd cN 11 yesW (opAt 11 [z] Tryz.f60) <|
  dUpd cE 12 (fSt tb 173 G4 G19) <|
  dEnd [0, 1, 3, 7, 15, 0, 32, 96, 224, 480, 1023, 0, 4095] (oVal (fMove (kon (.int .i64 0))) S5 <|
  (thenF (sBlock 0 (sLoop (sBlock 1 (oVal (fFA 0 G4) S21 <|
  oVal (fLoad1 G21) S22 <|
  oVal (fMove G5) S23 <|
  oCall 105 (fArgs [G22, G23]) S24 <|
  oVal (fMove G24) S20 <|
  oVal (fExt 0 G20) S25 <|
  oVal (fExt 1 G20) S26 <|
  gn yesW (opAt 7 [u, u, z, z, z, z, z] Tryz.f60) <|
  oUpd (fSt tb 145 G6 G25) <|
  oVal (fMove G26) S7 <|
  (thenF (oVal (fMove G7) S27 <|
  oVal (fIntE G27 (kon (.int .i64 0))) S28 <|
  (sCond G28 (sExit 0)
  oEnd))
  (sDraw <| dVal (cL G4) 0 (fLoadN 3 G4) S29 <|
  dVal cP 1 (fMove G5) S30 <|
  dCall cE 2 106 (fArgs [G29, G30]) S31 <|
  dVal (cL G4) 3 (fLoadN 3 G4) S32 <|
  dVal cP 4 (fFA 4 G6) S33 <|
  dVal (cL G33) 5 (fLoad1 G33) S34 <|
  dVal cP 6 (fInt subI G34 (kon (.int .i64 1))) S35 <|
  dCall cE 7 106 (fArgs [G32, G35]) S36 <|
  dVal cP 8 (fInt addI G36 (kon (.int .i64 1))) S37 <|
  dVal cP 9 (fFA 3 G6) S38 <|
  dUpd cE 10 (fSt1 G38 G31) <|
  dVal cP 11 (fFA 4 G6) S39 <|
  dUpd cE 12 (fSt1 G39 G37) <|
  dEnd [0, 0, 3, 0, 0, 16, 48, 127, 255, 255, 767, 2047, 4095] (sDraw <| dVal cP 0 (fMove G0) S40 <|
  dVal cP 1 (fMove G0) S41 <|
  dVal cP 2 (fNil G41) S42 <|
  dVal cP 3 (fFA 8 G42) S43 <|
  dVal (cL G43) 4 (fLoad1 G43) S44 <|
  dVal (cL G6) 5 (fLoadN 5 G6) S45 <|
  gd cN 6 yesW (opAt 6 [u, u, z, z, z, z, u, u, u, z] Tryz.f60) <|
  gd cE 7 yesW (opAt 7 [u, u, z, z, z, z, u, u, u, z] Tryz.f60) <|
  dVal cP 8 (fNil G40) S48 <|
  dVal cP 9 (fFA 8 G48) S49 <|
  dUpd cE 10 (fSt1 G49 G47) <|
  dEnd [0, 0, 2, 6, 14, 0, 32, 126, 255, 511, 1023] (oVal (fMove G5) S50 <|
  oVal (fMove G7) S51 <|
  oVal (fInt addI G50 G51) S52 <|
  oVal (fMove G52) S5 <|
  oEnd))))))))
  (oVal (fFA 0 G4) S53 <|
  oVal (fLoad1 G53) S54 <|
  oVal (fMove G5) S55 <|
  oVal (fSlS G54 none (some G55)) S56 <|
  oCall 39 (fArgs [G56, (kon (.str [10]))]) S57 <|
  oVal (fMove G57) S8 <|
  (thenF (oVal (fMove G5) S58 <|
  oVal (fInt gtI G58 (kon (.int .i64 0))) S59 <|
  oVal (fMove G59) S60 <|
  oGval (wntF G60 true) (fFA 0 G4) S61 <|
  oGval (wntF G60 true) (fLoad1 G61) S62 <|
  oGval (wntF G60 true) (fMove G5) S63 <|
  oGval (wntF G60 true) (fInt subI G63 (kon (.int .i64 1))) S64 <|
  oGval (wntF G60 true) (fIxS G62 G64) S65 <|
  oGval (wntF G60 true) (fInt neI G65 (kon (.int .u8 10))) S66 <|
  oVal (fPick G60 G66 (kon (.bool false))) S67 <|
  (sCond G67 (oVal (fMove G8) S68 <|
  oVal (fInt addI G68 (kon (.int .i64 1))) S69 <|
  oVal (fMove G69) S8 <|
  oEnd)
  oEnd))
  (oVal (fMove G1) S70 <|
  oVal (fMove G1) S71 <|
  oVal (fNil G71) S72 <|
  oVal (fFA 0 G72) S73 <|
  oVal (fFA 9 G73) S74 <|
  oVal (fLoad1 G74) S75 <|
  oVal (fMove G8) S76 <|
  gn yesW (opAt 7 [u, u, u, u, u] Tryz.f60) <|
  oVal (fNil G70) S78 <|
  oVal (fFA 0 G78) S79 <|
  oVal (fFA 9 G79) S80 <|
  oUpd (fSt1 G80 G77) <|
  oEnd))))))
def c61 : Op8 := (oVal (fMove (kon (.str []))) S4 <|
  (thenF (oVal (fMove G0) S7 <|
  gn yesW (opAt 1 [u, z, z] Tryz.f61) <|
  oVal (fMove G8) S9 <|
  oGval (wntF G9 false) (fMove G1) S10 <|
  gn (wntF G9 false) (opAt 4 [u, z, z] Tryz.f61) <|
  oVal (fPick G9 (kon (.bool true)) G11) S12 <|
  (sCond G12 (oVal (fMove G0) S13 <|
  oVal (fMove G13) S4 <|
  sRet)
  oEnd))
  (thenF (oVal (fMove G1) S14 <|
  oVal (fLenS G14) S15 <|
  oVal (fIntE G15 (kon (.int .i64 1))) S16 <|
  oVal (fMove G16) S17 <|
  oGval (wntF G17 true) (fMove G1) S18 <|
  oGval (wntF G17 true) (fIxS G18 (kon (.int .i64 0))) S19 <|
  oGval (wntF G17 true) (fInt ltI G19 (kon (.int .u8 128))) S20 <|
  oVal (fPick G17 G20 (kon (.bool false))) S21 <|
  (sCond G21 (sDraw <| dVal cP 0 (fMove G0) S22 <|
  dVal cP 1 (fMove G1) S23 <|
  dVal cP 2 (fIxS G23 (kon (.int .i64 0))) S24 <|
  dCall cE 3 108 (fArgs [G22, G24]) S25 <|
  dVal cP 4 (fMove G1) S26 <|
  dVal cP 5 (fIxS G26 (kon (.int .i64 0))) S27 <|
  dCall cE 6 107 (fArgs [G25, G27]) S28 <|
  dVal cP 7 (fMove G28) S4 <|
  dEnd [0, 0, 2, 7, 0, 16, 63, 127] sRet)
  oEnd))
  (thenF (oVal (fMove G1) S30 <|
  oCall 47 (fArgs [G30]) S31 <|
  oVal (fMove G31) S29 <|
  oVal (fExt 0 G29) S32 <|
  oVal (fExt 1 G29) S33 <|
  gn yesW (opAt 5 [u, u, u, z, z] Tryz.f61) <|
  oUpd (fSt tb 114 G5 G32) <|
  oVal (fMove G33) S6 <|
  (oVal (fMove G6) S34 <|
  (sCond G34 (oVal (fMove G0) S35 <|
  oCall 110 (fArgs [G35, G5]) S36 <|
  oCall 109 (fArgs [G36, G5]) S37 <|
  oVal (fMove G37) S4 <|
  sRet)
  oEnd)))
  (oVal (fMove G0) S38 <|
  oVal (fMove G1) S39 <|
  oCall 112 (fArgs [G38, G39]) S40 <|
  oVal (fMove G1) S41 <|
  oCall 111 (fArgs [G40, G41]) S42 <|
  oVal (fMove G42) S4 <|
  sRet)))))
def c62 : Op8 := (oVal (fMove (kon (.str []))) S4 <|
  (thenF (oVal (fMove G0) S11 <|
  oVal (fLenL G11) S12 <|
  (sBlock 0 (oVal (fIntE G12 (kon (.int .i64 0))) S14 <|
  oVal (fMove G14) S13 <|
  (sCond G13 (oVal (fMove (kon (.str []))) S4 <|
  sRet)
  (oVal (fIntE G12 (kon (.int .i64 1))) S16 <|
  oVal (fMove G16) S15 <|
  (sCond G15 (oVal (fMove G0) S17 <|
  oVal (fIAs 1 G17 (kon (.int .i64 0))) S18 <|
  oVal (fLoad1 G18) S19 <|
  oVal (fMove G19) S4 <|
  sRet)
  oEnd))))))
  (oVal (fMove (kon (.int .i64 0))) S5 <|
  (thenF (oVal (fMove G1) S20 <|
  oVal (fLenS G20) S21 <|
  oVal (fInt gtI G21 (kon (.int .i64 0))) S22 <|
  (sCond G22 (thenF (oVal (fMove G1) S23 <|
  oVal (fLenS G23) S24 <|
  oVal (fMove G0) S25 <|
  oVal (fLenL G25) S26 <|
  oVal (fInt subI G26 (kon (.int .i64 1))) S27 <|
  gn yesW (opAt 5 [u, u, u, z, u, z, z, z] Tryz.f62) <|
  oVal (fInt geI G24 G28) S29 <|
  (sCond G29 (gn yesW (opAt 0 [u, u, u, z, u, z, z, u, z] Tryz.f62) <|
  gn yesW (opAt 1 [u, u, u, z, u, z, z, u, z] Tryz.f62) <|
  oEnd)
  oEnd))
  (oVal (fMove G5) S31 <|
  oVal (fMove G1) S32 <|
  oVal (fLenS G32) S33 <|
  oVal (fMove G0) S34 <|
  oVal (fLenL G34) S35 <|
  oVal (fInt subI G35 (kon (.int .i64 1))) S36 <|
  oVal (fInt mulI G33 G36) S37 <|
  oVal (fInt addI G31 G37) S38 <|
  oVal (fMove G38) S5 <|
  oEnd))
  oEnd))
  (thenF (oVal (fMove G0) S39 <|
  oVal (fLenL G39) S40 <|
  oVal (fMove (kon (.int .i64 0))) S41 <|
  (sBlock 1 (sLoop (oVal (fInt ltI G41 G40) S42 <|
  (thenF (sCond G42 oEnd
  (sExit 1))
  (thenF (sBlock 2 (oVal (fIAs 1 G39 G41) S43 <|
  oVal (fLoad1 G43) S44 <|
  oVal (fMove G44) S7 <|
  (thenF (oVal (fMove G7) S45 <|
  oVal (fLenS G45) S46 <|
  oVal (fMove G5) S47 <|
  oVal (fInt subI (kon (.int .i64 9223372036854775807)) G47) S48 <|
  oVal (fInt gtI G46 G48) S49 <|
  (sCond G49 (gn yesW (opAt 0 [u, u, u, u, z, u, z, z, u, u, z, z, u, z, u, z] Tryz.f62) <|
  gn yesW (opAt 1 [u, u, u, u, z, u, z, z, u, u, z, z, u, z, u, z] Tryz.f62) <|
  oEnd)
  oEnd))
  (oVal (fMove G5) S51 <|
  oVal (fMove G7) S52 <|
  oVal (fLenS G52) S53 <|
  oVal (fInt addI G51 G53) S54 <|
  oVal (fMove G54) S5 <|
  oEnd))))
  (oVal (fInt addI G41 (kon (.int .i64 1))) S55 <|
  oVal (fMove G55) S41 <|
  oEnd)))))))
  (gn yesW (opAt 0 [u, u, u, u, u, z] Tryz.f62) <|
  (oVal (fMove G5) S56 <|
  oCall 113 (fArgs [G8, G56]) S57 <|
  (oVal (fMove G0) S58 <|
  oVal (fIAs 1 G58 (kon (.int .i64 0))) S59 <|
  oVal (fLoad1 G59) S60 <|
  oCall 114 (fArgs [G8, G60]) S61 <|
  (thenF (oVal (fMove G0) S62 <|
  gn yesW (opAt 1 [u, u, u, u, u, u, u, u, z, z] Tryz.f62) <|
  oVal (fLenL G63) S64 <|
  oVal (fMove (kon (.int .i64 0))) S65 <|
  (sBlock 3 (sLoop (oVal (fInt ltI G65 G64) S66 <|
  (thenF (sCond G66 oEnd
  (sExit 3))
  (thenF (sBlock 4 (oVal (fIAs 1 G63 G65) S67 <|
  oVal (fLoad1 G67) S68 <|
  oVal (fMove G68) S10 <|
  (oVal (fMove G1) S69 <|
  oCall 114 (fArgs [G8, G69]) S70 <|
  (oVal (fMove G10) S71 <|
  oCall 114 (fArgs [G8, G71]) S72 <|
  oEnd))))
  (oVal (fInt addI G65 (kon (.int .i64 1))) S73 <|
  oVal (fMove G73) S65 <|
  oEnd)))))))
  (oCall 115 (fArgs [G8]) S74 <|
  oVal (fMove G74) S4 <|
  sRet))))))))))
def c63 : Op8 := (oVal (fMove G0) S2 <|
  oVal (fMove G0) S3 <|
  oVal (fNil G3) S4 <|
  oVal (fFA 11 G4) S5 <|
  oVal (fLoad1 G5) S6 <|
  oCall 116 (fArgs [G6, (kon (.fn (.func 117) [] []))]) S7 <|
  oVal (fNil G2) S8 <|
  oVal (fFA 11 G8) S9 <|
  oUpd (fSt1 G9 G7) <|
  oEnd)
def c64 : Op8 := (gn yesW (opAt 0 [z] Tryz.f64) <|
  gn yesW (opAt 1 [z] Tryz.f64) <|
  oVal (fMove (kon (.bool false))) S6 <|
  (sDraw <| dVal (cL G3) 0 (fLoad1 G3) S7 <|
  dVal cP 1 (fMove G1) S8 <|
  dVal cP 2 (fNil G8) S9 <|
  dVal cP 3 (fFA 11 G9) S10 <|
  dVal (cL G10) 4 (fLoad1 G10) S11 <|
  dVal (cL G5) 5 (fLoad1 G5) S12 <|
  dCall cE 6 118 (fArgs [G7, G11, G12]) S13 <|
  dVal cP 7 (fNot G13) S14 <|
  dVal cP 8 (fMove G14) S15 <|
  dGval (wntF G15 true) cP 9 (fMove G1) S16 <|
  dGval (wntF G15 true) cP 10 (fNil G16) S17 <|
  dGval (wntF G15 true) cP 11 (fFA 11 G17) S18 <|
  dGval (wntF G15 true) (cL G18) 12 (fLoad1 G18) S19 <|
  gd cP 13 (wntF G15 true) (opAt 13 [u, z] Tryz.f64) <|
  dGcall (wntF G15 true) cE 14 119 (fArgs [G19, G20]) S21 <|
  dGval (wntF G15 true) cP 15 (fNot G21) S22 <|
  dVal cP 16 (fPick G15 G22 (kon (.bool false))) S23 <|
  dVal cP 17 (fMove G23) S6 <|
  dEnd [0, 0, 2, 6, 14, 0, 63, 127, 255, 511, 1023, 2047, 4095, 511, 16383, 32767, 65535, 131071] sRet))
def c65 : Op8 := (gn yesW (opAt 0 [z] Tryz.f65) <|
  oVal (fMove (kon .nilf)) S2 <|
  (gn yesW (opAt 0 [u, z] Tryz.f65) <|
  oVal (fMove G3) S2 <|
  sRet))
def c66 : Op8 := (oVal (fMove (kon (.str []))) S4 <|
  (thenF (oVal (fMove G0) S7 <|
  gn yesW (opAt 1 [u, z, z] Tryz.f66) <|
  oVal (fMove G8) S9 <|
  oGval (wntF G9 false) (fMove G1) S10 <|
  gn (wntF G9 false) (opAt 4 [u, z, z] Tryz.f66) <|
  oVal (fPick G9 (kon (.bool true)) G11) S12 <|
  (sCond G12 (oVal (fMove G0) S13 <|
  oVal (fMove G13) S4 <|
  sRet)
  oEnd))
  (thenF (oVal (fMove G1) S14 <|
  oVal (fLenS G14) S15 <|
  oVal (fIntE G15 (kon (.int .i64 1))) S16 <|
  oVal (fMove G16) S17 <|
  oGval (wntF G17 true) (fMove G1) S18 <|
  oGval (wntF G17 true) (fIxS G18 (kon (.int .i64 0))) S19 <|
  oGval (wntF G17 true) (fInt ltI G19 (kon (.int .u8 128))) S20 <|
  oVal (fPick G17 G20 (kon (.bool false))) S21 <|
  (sCond G21 (oVal (fMove G0) S22 <|
  oVal (fMove G1) S23 <|
  oVal (fIxS G23 (kon (.int .i64 0))) S24 <|
  oCall 108 (fArgs [G22, G24]) S25 <|
  oVal (fMove G25) S4 <|
  sRet)
  oEnd))
  (thenF (oVal (fMove G1) S27 <|
  oCall 47 (fArgs [G27]) S28 <|
  oVal (fMove G28) S26 <|
  oVal (fExt 0 G26) S29 <|
  oVal (fExt 1 G26) S30 <|
  gn yesW (opAt 5 [u, u, u, z, z] Tryz.f66) <|
  oUpd (fSt tb 114 G5 G29) <|
  oVal (fMove G30) S6 <|
  (oVal (fMove G6) S31 <|
  (sCond G31 (oVal (fMove G0) S32 <|
  oCall 110 (fArgs [G32, G5]) S33 <|
  oVal (fMove G33) S4 <|
  sRet)
  oEnd)))
  (oVal (fMove G0) S34 <|
  oVal (fMove G1) S35 <|
  oCall 112 (fArgs [G34, G35]) S36 <|
  oVal (fMove G36) S4 <|
  sRet)))))
def c67 : Op8 := (gn yesW (opAt 0 [z] Tryz.f67) <|
  oVal (fMove (kon .nilf)) S2 <|
  (gn yesW (opAt 0 [u, z] Tryz.f67) <|
  oVal (fMove G3) S2 <|
  sRet))
def c68 : Op8 := (oVal (fMove (kon (.int .i64 0))) S4 <|
  (oVal (fMove G0) S5 <|
  oVal (fLenS G5) S6 <|
  oVal (fMove G0) S7 <|
  oVal (fMove G1) S8 <|
  oCall 123 (fArgs [G7, G8]) S9 <|
  oVal (fLenS G9) S10 <|
  oVal (fInt subI G6 G10) S11 <|
  oVal (fMove G11) S4 <|
  sRet))
def c69 : Op8 := (oVal (fMove G0) S5 <|
  oCall 124 (fArgs [G5]) S6 <|
  oVal (fMove G6) S2 <|
  (oVal (fMove G2) S7 <|
  oVal (fIxS G7 (kon (.int .i64 0))) S8 <|
  oVal (fMove G8) S3 <|
  (sBlock 0 (oVal (fMove G3) S22 <|
  oVal (fIntE G22 (kon (.int .u8 92))) S23 <|
  oVal (fMove G23) S21 <|
  (sCond G21 (oVal (fMove G0) S24 <|
  oCall 125 (fArgs [G24]) S25 <|
  oEnd)
  (oVal (fMove G3) S27 <|
  oVal (fIntE G27 (kon (.int .u8 96))) S28 <|
  oVal (fMove G28) S26 <|
  (sCond G26 (oVal (fMove G0) S29 <|
  oCall 126 (fArgs [G29]) S30 <|
  oEnd)
  (oVal (fMove G3) S32 <|
  oVal (fIntE G32 (kon (.int .u8 60))) S33 <|
  oVal (fMove G33) S31 <|
  (sCond G31 (oVal (fMove G0) S34 <|
  oCall 127 (fArgs [G34]) S35 <|
  oEnd)
  (oVal (fMove G3) S37 <|
  oVal (fIntE G37 (kon (.int .u8 38))) S38 <|
  oVal (fMove G38) S36 <|
  (sCond G36 (oVal (fMove G0) S39 <|
  oCall 128 (fArgs [G39]) S40 <|
  oEnd)
  (oVal (fMove G3) S42 <|
  oVal (fIntE G42 (kon (.int .u8 32))) S43 <|
  oVal (fMove G43) S44 <|
  oGval (wntF G44 false) (fMove G3) S45 <|
  oGval (wntF G44 false) (fIntE G45 (kon (.int .u8 10))) S46 <|
  oVal (fPick G44 (kon (.bool true)) G46) S47 <|
  oVal (fMove G47) S41 <|
  (sCond G41 (oVal (fMove G0) S48 <|
  oCall 129 (fArgs [G48]) S49 <|
  oEnd)
  (oVal (fMove G3) S51 <|
  oVal (fIntE G51 (kon (.int .u8 42))) S52 <|
  oVal (fMove G52) S53 <|
  oGval (wntF G53 false) (fMove G3) S54 <|
  oGval (wntF G53 false) (fIntE G54 (kon (.int .u8 95))) S55 <|
  oVal (fPick G53 (kon (.bool true)) G55) S56 <|
  oVal (fMove G56) S50 <|
  (sCond G50 (oVal (fMove G0) S57 <|
  oCall 130 (fArgs [G57]) S58 <|
  oEnd)
  (oVal (fMove G2) S60 <|
  oCall 25 (fArgs [G60, (kon (.str [33, 91]))]) S61 <|
  oVal (fMove G61) S59 <|
  (sCond G59 (oVal (fMove G0) S62 <|
  oCall 131 (fArgs [G62, (kon (.str [33, 91])), (kon (.int .i64 2))]) S63 <|
  oEnd)
  (oVal (fMove G3) S65 <|
  oVal (fIntE G65 (kon (.int .u8 91))) S66 <|
  oVal (fMove G66) S64 <|
  (sCond G64 (oVal (fMove G0) S67 <|
  oCall 131 (fArgs [G67, (kon (.str [91])), (kon (.int .i64 1))]) S68 <|
  oEnd)
  (oVal (fMove G3) S70 <|
  oVal (fIntE G70 (kon (.int .u8 93))) S71 <|
  oVal (fMove G71) S69 <|
  (sCond G69 (oVal (fMove G0) S72 <|
  oCall 132 (fArgs [G72]) S73 <|
  oEnd)
  (oVal (fMove G2) S9 <|
  oVal (fSlS G9 (some (kon (.int .i64 1))) none) S10 <|
  gn yesW (opAt 2 [u, u, z, u, u, u, u, u, u, u, u, u, u, u, u, u, u, u, u, u, u, z] Tryz.f69) <|
  oCall 24 (fArgs [G11, (kon (.str [92, 96, 60, 38, 32, 10, 42, 95, 33, 91, 93]))]) S12 <|
  oVal (fMove G12) S4 <|
  (oVal (fMove G0) S13 <|
  oVal (fMove G4) S14 <|
  oVal (fInt addI G14 (kon (.int .i64 1))) S15 <|
  oVal (fMove G2) S16 <|
  oVal (fMove G4) S17 <|
  oVal (fInt addI G17 (kon (.int .i64 1))) S18 <|
  oVal (fSlS G16 none (some G18)) S19 <|
  oCall 133 (fArgs [G13, (kon (.int .i64 10)), G15, G19]) S20 <|
  oEnd)))))))))))))))))))))))
def c70 : Op8 := (gn yesW (opAt 0 [z] Tryz.f70) <|
  (gn yesW (opAt 0 [u, z] Tryz.f70) <|
  (oVal (fMove G0) S9 <|
  gn yesW (opAt 1 [u, u, z] Tryz.f70) <|
  gn yesW (opAt 2 [u, u, z] Tryz.f70) <|
  gn yesW (opAt 3 [u, u, z] Tryz.f70) <|
  oUpd (fSt1 G4 G11) <|
  (thenF (sBlock 0 (sLoop (thenF (oVal (fLoad1 G4) S12 <|
  oVal (fLenL G12) S13 <|
  oVal (fInt gtI G13 (kon (.int .i64 0))) S14 <|
  (sCond G14 oEnd
  (sExit 0)))
  (sBlock 1 (oVal (fLoad1 G4) S15 <|
  oVal (fLoad1 G4) S16 <|
  oVal (fLenL G16) S17 <|
  oVal (fInt subI G17 (kon (.int .i64 1))) S18 <|
  oVal (fIAs 2 G15 G18) S19 <|
  oVal (fLoadN 2 G19) S20 <|
  gn yesW (opAt 6 [u, u, u, z, z, z, u, z, z] Tryz.f70) <|
  oUpd (fSt tb 195 G5 G20) <|
  (oVal (fLoad1 G4) S21 <|
  oVal (fLoad1 G4) S22 <|
  oVal (fLenL G22) S23 <|
  oVal (fInt subI G23 (kon (.int .i64 1))) S24 <|
  gn yesW (opAt 4 [u, u, u, z, z, z, u, z, u, z] Tryz.f70) <|
  oUpd (fSt1 G4 G25) <|
  (oVal (fFA 0 G3) S26 <|
  oVal (fLoad1 G26) S27 <|
  oVal (fLenL G27) S28 <|
  gn yesW (opAt 3 [u, u, u, z, z, z, u, z, u, u, z] Tryz.f70) <|
  oUpd (fSt1 G6 G28) <|
  (sDraw <| dVal cP 0 (fFA 0 G3) S29 <|
  dVal (cL G29) 1 (fLoad1 G29) S30 <|
  dVal cP 2 (fFA 0 G5) S31 <|
  dVal (cL G31) 3 (fLoad1 G31) S32 <|
  dVal cP 4 (fNil G32) S33 <|
  dVal cP 5 (fFA 0 G33) S34 <|
  dVal (cL G34) 6 (fLoadN 10 G34) S35 <|
  gd cN 7 yesW (opAt 7 [u, u, u, z, z, z, u, z, u, u, u, z] Tryz.f70) <|
  gd cE 8 yesW (opAt 8 [u, u, u, z, z, z, u, z, u, u, u, z] Tryz.f70) <|
  dVal cP 9 (fFA 0 G3) S38 <|
  dUpd cE 10 (fSt1 G38 G37) <|
  dEnd [0, 1, 0, 4, 12, 28, 60, 124, 255, 511, 1023] (thenF (oVal (fFA 1 G5) S39 <|
  oVal (fLoad1 G39) S40 <|
  oVal (fInt geI G40 (kon (.int .i64 0))) S41 <|
  (sCond G41 (sDraw <| dVal cP 0 (fFA 0 G3) S42 <|
  dVal (cL G42) 1 (fLoad1 G42) S43 <|
  dVal cP 2 (fFA 1 G5) S44 <|
  dVal (cL G44) 3 (fLoad1 G44) S45 <|
  dVal cP 4 (fFA 0 G3) S46 <|
  dVal (cL G46) 5 (fLoad1 G46) S47 <|
  dVal cP 6 (fFA 1 G5) S48 <|
  dVal (cL G48) 7 (fLoad1 G48) S49 <|
  dVal cP 8 (fIAs 10 G47 G49) S50 <|
  dVal cP 9 (fFA 8 G50) S51 <|
  dVal (cL G51) 10 (fLoad1 G51) S52 <|
  dVal (cL G6) 11 (fLoad1 G6) S53 <|
  gd cN 12 yesW (opAt 12 [u, u, u, z, z, z, u, z, u, u, u, u, z, u, z] Tryz.f70) <|
  gd cE 13 yesW (opAt 13 [u, u, u, z, z, z, u, z, u, u, u, u, z, u, z] Tryz.f70) <|
  dVal cP 14 (fIAs 10 G43 G45) S56 <|
  dVal cP 15 (fFA 8 G56) S57 <|
  dUpd cE 16 (fSt1 G57 G55) <|
  dEnd [0, 1, 0, 4, 0, 16, 0, 64, 240, 496, 1008, 0, 2048, 8176, 16383, 32767, 65535] oEnd)
  oEnd))
  (oVal (fFA 0 G5) S58 <|
  oVal (fLoad1 G58) S59 <|
  oVal (fNil G59) S60 <|
  oVal (fFA 10 G60) S61 <|
  oVal (fLoad1 G61) S62 <|
  oCall 134 (fArgs [G62]) S63 <|
  (sBlock 2 (rangeAt tb 73 [u, u, u, z, z, z, u, z, u, u, u, u, u, u, z] Tryz.f70))))))))))))
  (oVal (fLoadN 1 G3) S72 <|
  oUpd (fSt tb 40 G2 G72) <|
  sRet)))))
def c71 : Op8 := (oVal (fMove (kon .nils)) S2 <|
  (oVal (fMove (kon .nils)) S3 <|
  (thenF (oVal (fMove G0) S15 <|
  oVal (fLenL G15) S16 <|
  oVal (fMove (kon (.int .i64 0))) S17 <|
  (sBlock 0 (sLoop (oVal (fInt ltI G17 G16) S18 <|
  (thenF (sCond G18 oEnd
  (sExit 0))
  (thenF (sBlock 1 (oVal (fIAs 1 G15 G17) S19 <|
  oVal (fLoad1 G19) S20 <|
  oVal (fMove G20) S5 <|
  (oVal (fMove G5) S21 <|
  oVal (fNil G21) S22 <|
  oVal (fFA 11 G22) S23 <|
  oVal (fFA 1 G23) S24 <|
  oVal (fLoad1 G24) S25 <|
  oVal (fInt gtI G25 (kon (.int .i64 0))) S26 <|
  (sCond G26 (oVal (fMove G3) S27 <|
  oVal (fMove G5) S28 <|
  oVal (fNil G28) S29 <|
  oVal (fFA 11 G29) S30 <|
  oVal (fLoadN 4 G30) S31 <|
  gn yesW (opAt 5 [u, u, z, u, z, z, u, u, z, z, u, u, z] Tryz.f71) <|
  gn yesW (opAt 6 [u, u, z, u, z, z, u, u, z, z, u, u, z] Tryz.f71) <|
  oVal (fMove G33) S3 <|
  oEnd)
  oEnd))))
  (oVal (fInt addI G17 (kon (.int .i64 1))) S34 <|
  oVal (fMove G34) S17 <|
  oEnd)))))))
  (oVal (fMove G3) S35 <|
  oCall 135 (fArgs [G35]) S36 <|
  oVal (fMove G36) S6 <|
  (oVal (fMove G3) S37 <|
  oVal (fLenL G37) S38 <|
  gn yesW (opAt 2 [u, u, u, u, z] Tryz.f71) <|
  oVal (fMove G3) S40 <|
  oVal (fLenL G40) S41 <|
  gn yesW (opAt 5 [u, u, u, u, z] Tryz.f71) <|
  oVal (fMove G39) S7 <|
  oVal (fMove G42) S8 <|
  (thenF (oVal (fMove G3) S43 <|
  oCall 136 (fArgs [G43]) S44 <|
  oVal (fLenL G44) S45 <|
  oVal (fMove (kon (.int .i64 0))) S46 <|
  (sBlock 2 (sLoop (oVal (fInt ltI G46 G45) S47 <|
  (thenF (sCond G47 oEnd
  (sExit 2))
  (thenF (sBlock 3 (oVal (fIAs 3 G44 G46) S48 <|
  oVal (fLoadN 3 G48) S49 <|
  gn yesW (opAt 2 [u, u, u, u, u, z, u, z, z, u, u, z, z, z] Tryz.f71) <|
  oUpd (fSt tb 206 G10 G49) <|
  (sDraw <| dVal cP 0 (fMove G7) S50 <|
  dVal cP 1 (fFA 1 G10) S51 <|
  dVal (cL G51) 2 (fLoad1 G51) S52 <|
  dVal cP 3 (fMove G7) S53 <|
  dVal cP 4 (fFA 1 G10) S54 <|
  dVal (cL G54) 5 (fLoad1 G54) S55 <|
  dVal cP 6 (fIAs 1 G53 G55) S56 <|
  dVal (cL G56) 7 (fLoad1 G56) S57 <|
  dVal cP 8 (fFA 2 G10) S58 <|
  dVal (cL G58) 9 (fLoad1 G58) S59 <|
  gd cN 10 yesW (opAt 10 [u, u, u, u, u, z, u, z, z, u, u, z, z, u, z] Tryz.f71) <|
  gd cE 11 yesW (opAt 11 [u, u, u, u, u, z, u, z, z, u, u, z, z, u, z] Tryz.f71) <|
  dVal cP 12 (fIAs 1 G50 G52) S62 <|
  dUpd cE 13 (fSt1 G62 G61) <|
  dEnd [0, 0, 2, 0, 0, 16, 56, 120, 0, 256, 768, 2040, 4095, 8191] (sDraw <| dVal cP 0 (fMove G8) S63 <|
  dVal cP 1 (fFA 0 G10) S64 <|
  dVal (cL G64) 2 (fLoad1 G64) S65 <|
  dVal cP 3 (fMove G8) S66 <|
  dVal cP 4 (fFA 0 G10) S67 <|
  dVal (cL G67) 5 (fLoad1 G67) S68 <|
  dVal cP 6 (fIAs 1 G66 G68) S69 <|
  dVal (cL G69) 7 (fLoad1 G69) S70 <|
  dVal cP 8 (fFA 2 G10) S71 <|
  dVal (cL G71) 9 (fLoad1 G71) S72 <|
  gd cN 10 yesW (opAt 10 [u, u, u, u, u, z, u, z, z, u, u, z, z, u, u] Tryz.f71) <|
  gd cE 11 yesW (opAt 11 [u, u, u, u, u, z, u, z, z, u, u, z, z, u, u] Tryz.f71) <|
  dVal cP 12 (fIAs 1 G63 G65) S75 <|
  dUpd cE 13 (fSt1 G75 G74) <|
  dEnd [0, 0, 2, 0, 0, 16, 56, 120, 0, 256, 768, 2040, 4095, 8191] oEnd))))
  (oVal (fInt addI G46 (kon (.int .i64 1))) S76 <|
  oVal (fMove G76) S46 <|
  oEnd)))))))
  (gn yesW (opAt 0 [u, u, u, u, u, u, z] Tryz.f71) <|
  gn yesW (opAt 1 [u, u, u, u, u, u, z] Tryz.f71) <|
  gn yesW (opAt 2 [u, u, u, u, u, u, z] Tryz.f71) <|
  gn yesW (opAt 3 [u, u, u, u, u, u, z] Tryz.f71) <|
  gn yesW (opAt 4 [u, u, u, u, u, u, z] Tryz.f71) <|
  oVal (fMove G81) S11 <|
  (oVal (fMove (kon (.int .i64 0))) S12 <|
  (thenF (oVal (fMove G0) S82 <|
  oVal (fLenL G82) S83 <|
  oVal (fMove (kon (.int .i64 0))) S84 <|
  (sBlock 4 (sLoop (oVal (fInt ltI G84 G83) S85 <|
  (thenF (sCond G85 oEnd
  (sExit 4))
  (thenF (sBlock 5 (oVal (fIAs 1 G82 G84) S86 <|
  oVal (fLoad1 G86) S87 <|
  oVal (fMove G87) S14 <|
  (thenF (oVal (fMove G14) S88 <|
  oVal (fNil G88) S89 <|
  oVal (fFA 11 G89) S90 <|
  oVal (fFA 1 G90) S91 <|
  oVal (fLoad1 G91) S92 <|
  oVal (fIntE G92 (kon (.int .i64 0))) S93 <|
  (sCond G93 (oVal (fMove G11) S94 <|
  oVal (fMove G14) S95 <|
  oCall 137 (fArgs [G94, G95]) S96 <|
  (sExit 5))
  oEnd))
  (sDraw <| dVal cP 0 (fMove G11) S97 <|
  dVal cP 1 (fMove G14) S98 <|
  dVal cP 2 (fMove G7) S99 <|
  dVal cP 3 (fMove G12) S100 <|
  dVal cP 4 (fIAs 1 G99 G100) S101 <|
  dVal (cL G101) 5 (fLoad1 G101) S102 <|
  dVal cP 6 (fMove G8) S103 <|
  dVal cP 7 (fMove G12) S104 <|
  dVal cP 8 (fIAs 1 G103 G104) S105 <|
  dVal (cL G105) 9 (fLoad1 G105) S106 <|
  dVal cP 10 (fMove G6) S107 <|
  dVal cP 11 (fMove G12) S108 <|
  dVal cP 12 (fIAs 1 G107 G108) S109 <|
  dVal (cL G109) 13 (fLoad1 G109) S110 <|
  dCall cE 14 138 (fArgs [G97, G98, G102, G106, G110]) S111 <|
  dEnd [0, 0, 0, 0, 12, 28, 0, 0, 192, 448, 0, 0, 3072, 7168, 16383] (oVal (fMove G12) S112 <|
  oVal (fInt addI G112 (kon (.int .i64 1))) S113 <|
  oVal (fMove G113) S12 <|
  oEnd)))))
  (oVal (fInt addI G84 (kon (.int .i64 1))) S114 <|
  oVal (fMove G114) S84 <|
  oEnd)))))))
  (oVal (fMove G11) S115 <|
  oVal (fNil G115) S116 <|
  oVal (fFA 0 G116) S117 <|
  oVal (fLoad1 G117) S118 <|
  oVal (fIAs 1 G118 (kon (.int .i64 0))) S119 <|
  oVal (fLoad1 G119) S120 <|
  oVal (fNil G120) S121 <|
  oVal (fFA 10 G121) S122 <|
  oVal (fLoad1 G122) S123 <|
  oCall 139 (fArgs [G123]) S124 <|
  oVal (fMove G124) S2 <|
  sRet))))))))))
def c72 : Op8 := (gn yesW (opAt 0 [z] Tryz.f72) <|
  gn yesW (opAt 1 [z] Tryz.f72) <|
  oVal (fMove (kon (.int .i64 0))) S4 <|
  (oVal (fLoad1 G2) S5 <|
  oVal (fLenL G5) S6 <|
  gn yesW (opAt 2 [u, z] Tryz.f72) <|
  oCall 35 (fArgs [G6, G7]) S8 <|
  oVal (fMove G8) S4 <|
  sRet))
def c74 : Op8 := (oVal (fMove (kon (.int .i32 0))) S2 <|
  oVal (fMove (kon (.int .i64 0))) S3 <|
  (thenF (oVal (fMove G0) S4 <|
  gn yesW (opAt 1 [u, z, z] Tryz.f74) <|
  oVal (fMove G5) S6 <|
  oGval (wntF G6 true) (fMove G0) S7 <|
  oGval (wntF G6 true) (fIxS G7 (kon (.int .i64 0))) S8 <|
  oGval (wntF G6 true) (fInt ltI G8 (kon (.int .u8 128))) S9 <|
  oVal (fPick G6 G9 (kon (.bool false))) S10 <|
  (sCond G10 (oVal (fMove G0) S11 <|
  oVal (fIxS G11 (kon (.int .i64 0))) S12 <|
  oVal (fCnvI .i32 G12) S13 <|
  oVal (fMove G13) S2 <|
  oVal (fMove (kon (.int .i64 1))) S3 <|
  sRet)
  (oVal (fMove G0) S15 <|
  oCall 142 (fArgs [G15]) S16 <|
  oVal (fMove G16) S14 <|
  oVal (fExt 0 G14) S17 <|
  oVal (fExt 1 G14) S18 <|
  oVal (fMove G17) S2 <|
  oVal (fMove G18) S3 <|
  oEnd)))
  sRet))
def c75 : Op8 := (oVal (fMove (kon (.str []))) S4 <|
  oVal (fMove (kon (.str []))) S5 <|
  oVal (fMove (kon (.bool false))) S6 <|
  (thenF (oVal (fMove G0) S8 <|
  oVal (fMove G1) S9 <|
  gn yesW (opAt 2 [u, z, z] Tryz.f75) <|
  oVal (fMove G10) S7 <|
  (oVal (fMove G7) S11 <|
  oVal (fInt geI G11 (kon (.int .i64 0))) S12 <|
  (sCond G12 (oVal (fMove G0) S13 <|
  oVal (fMove G7) S14 <|
  oVal (fSlS G13 none (some G14)) S15 <|
  oVal (fMove G0) S16 <|
  oVal (fMove G7) S17 <|
  oVal (fMove G1) S18 <|
  oVal (fLenS G18) S19 <|
  oVal (fInt addI G17 G19) S20 <|
  oVal (fSlS G16 (some G20) none) S21 <|
  oVal (fMove G15) S4 <|
  oVal (fMove G21) S5 <|
  oVal (fMove (kon (.bool true))) S6 <|
  sRet)
  oEnd)))
  (oVal (fMove G0) S22 <|
  oVal (fMove G22) S4 <|
  oVal (fMove (kon (.str []))) S5 <|
  oVal (fMove (kon (.bool false))) S6 <|
  sRet)))
def c76 : Op8 := (oVal (fMove (kon (.int .i64 0))) S2 <|
  (thenF (oVal (fMove G0) S3 <|
  gn yesW (opAt 1 [u, z, z] Tryz.f76) <|
  (sBlock 0 (sLoop (gn yesW (opAt 0 [u, z, u, z, z, z] Tryz.f76) <|
  oVal (fExt 0 G5) S6 <|
  (thenF (sCond G6 oEnd
  (sExit 0))
  (sBlock 1 (oVal (fMove G2) S7 <|
  oVal (fInt addI G7 (kon (.int .i64 1))) S8 <|
  oVal (fMove G8) S2 <|
  oEnd)))))))
  (oVal (fMove G2) S9 <|
  oVal (fMove G9) S2 <|
  sRet)))
def c78 : Op8 := (oVal (fMove (kon (.int .i64 0))) S4 <|
  (oVal (fMove G0) S5 <|
  oVal (fMove G1) S6 <|
  gn yesW (opAt 2 [u, z] Tryz.f78) <|
  oVal (fMove G7) S4 <|
  sRet))
def c79 : Op8 := (oVal (fMove (kon (.int .i64 0))) S4 <|
  (thenF (oVal (fMove G0) S6 <|
  oVal (fLenL G6) S7 <|
  oVal (fMove (kon (.int .i64 0))) S8 <|
  (sBlock 0 (sLoop (oVal (fInt ltI G8 G7) S9 <|
  (thenF (sCond G9 oEnd
  (sExit 0))
  (thenF (sBlock 1 (oVal (fMove G8) S10 <|
  oVal (fMove G10) S5 <|
  (oVal (fMove G1) S11 <|
  oVal (fMove G0) S12 <|
  oVal (fMove G5) S13 <|
  oVal (fIAs 1 G12 G13) S14 <|
  oVal (fLoad1 G14) S15 <|
  gn yesW (opAt 5 [u, z, u, z, z, u, u, z, z, u, z] Tryz.f79) <|
  (sCond G16 (oVal (fMove G5) S17 <|
  oVal (fMove G17) S4 <|
  sRet)
  oEnd))))
  (oVal (fInt addI G8 (kon (.int .i64 1))) S18 <|
  oVal (fMove G18) S8 <|
  oEnd)))))))
  (oVal (fMove (kon (.int .i64 (-1)))) S4 <|
  sRet)))
def c80 : Op8 := (gn yesW (opAt 0 [z] Tryz.f80) <|
  oVal (fMove (kon .nils)) S2 <|
  (thenF (oVal (fLoad1 G1) S7 <|
  oCall 144 (fArgs [G7]) S8 <|
  oVal (fMove G8) S3 <|
  (oVal (fMove G3) S9 <|
  oVal (fInt geI G9 (kon (.int .i64 0))) S10 <|
  (sCond G10 (oVal (fMove G3) S11 <|
  gn yesW (opAt 1 [u, z, u, u, z, z] Tryz.f80) <|
  oVal (fMove G12) S2 <|
  sRet)
  oEnd)))
  (oVal (fMove (kon .nils)) S4 <|
  (thenF (oCall 9 (fArgs []) S13 <|
  oVal (fLenL G13) S14 <|
  oVal (fMove (kon (.int .i64 0))) S15 <|
  (sBlock 0 (sLoop (oVal (fInt ltI G15 G14) S16 <|
  (thenF (sCond G16 oEnd
  (sExit 0))
  (thenF (sBlock 1 (oVal (fMove G15) S17 <|
  oVal (fIAs 4 G13 G15) S18 <|
  oVal (fLoadN 4 G18) S19 <|
  gn yesW (opAt 3 [u, u, u, z, u, z, z, u, u, z, z, z] Tryz.f80) <|
  oVal (fMove G17) S5 <|
  oUpd (fSt tb 29 G6 G19) <|
  (oVal (fFA 2 G6) S20 <|
  oVal (fLoad1 G20) S21 <|
  gn yesW (opAt 2 [u, u, u, z, u, z, z, u, u, z, z, u, z] Tryz.f80) <|
  oCall 145 (fArgs [G21, G22]) S23 <|
  (sCond G23 (oVal (fMove G4) S24 <|
  oVal (fMove G5) S25 <|
  gn yesW (opAt 2 [u, u, u, z, u, z, z, u, u, z, z, u, u, z] Tryz.f80) <|
  gn yesW (opAt 3 [u, u, u, z, u, z, z, u, u, z, z, u, u, z] Tryz.f80) <|
  oVal (fMove G27) S4 <|
  oEnd)
  oEnd))))
  (oVal (fInt addI G15 (kon (.int .i64 1))) S28 <|
  oVal (fMove G28) S15 <|
  oEnd)))))))
  (oVal (fMove G4) S29 <|
  oVal (fMove G29) S2 <|
  sRet)))))
def c81 : Op8 := (oVal (fMove (kon (.bool false))) S2 <|
  (thenF (sBlock 0 (oVal (fMove G0) S4 <|
  oVal (fInt leI (kon (.int .i32 0)) G4) S5 <|
  oVal (fMove G5) S6 <|
  oGval (wntF G6 true) (fMove G0) S7 <|
  oGval (wntF G6 true) (fInt ltI G7 (kon (.int .i32 55296))) S8 <|
  oVal (fPick G6 G8 (kon (.bool false))) S9 <|
  oVal (fMove G9) S3 <|
  (sCond G3 (oVal (fMove (kon (.bool true))) S2 <|
  sRet)
  (oVal (fMove G0) S11 <|
  oVal (fInt ltI (kon (.int .i32 57343)) G11) S12 <|
  oVal (fMove G12) S13 <|
  oGval (wntF G13 true) (fMove G0) S14 <|
  oGval (wntF G13 true) (fInt leI G14 (kon (.int .i32 1114111))) S15 <|
  oVal (fPick G13 G15 (kon (.bool false))) S16 <|
  oVal (fMove G16) S10 <|
  (sCond G10 (oVal (fMove (kon (.bool true))) S2 <|
  sRet)
  oEnd)))))
  (oVal (fMove (kon (.bool false))) S2 <|
  sRet)))
def c82 : Op8 := (oVal (fMove (kon (.int .i64 0))) S2 <|
  (oVal (fMove G0) S3 <|
  oVal (fInt addI G3 (kon (.int .i64 16))) S4 <|
  gn yesW (opAt 2 [u, z] Tryz.f82) <|
  oVal (fMove G5) S2 <|
  sRet))
def c84 : Op8 := (oVal (fMove (kon (.int .i64 0))) S2 <|
  oVal (fMove (kon (.int .i64 0))) S3 <|
  (oVal (fMove G0) S8 <|
  oVal (fNil G8) S9 <|
  oVal (fFA 1 G9) S10 <|
  oVal (fLoad1 G10) S11 <|
  oVal (fMove G0) S12 <|
  oVal (fNil G12) S13 <|
  oVal (fFA 3 G13) S14 <|
  oVal (fLoad1 G14) S15 <|
  oVal (fMove G11) S4 <|
  oVal (fMove G15) S5 <|
  (thenF (oVal (fMove G0) S16 <|
  oVal (fNil G16) S17 <|
  oVal (fFA 4 G17) S18 <|
  oVal (fLoad1 G18) S19 <|
  oVal (fInt gtI G19 (kon (.int .i64 0))) S20 <|
  (sCond G20 (oVal (fMove G4) S21 <|
  oVal (fInt addI G21 (kon (.int .i64 1))) S22 <|
  oVal (fMove G5) S23 <|
  oVal (fMove G0) S24 <|
  oVal (fNil G24) S25 <|
  oVal (fFA 4 G25) S26 <|
  oVal (fLoad1 G26) S27 <|
  oVal (fInt addI G23 G27) S28 <|
  oVal (fMove G22) S4 <|
  oVal (fMove G28) S5 <|
  oEnd)
  oEnd))
  (sDraw <| dVal cP 0 (fMove G0) S30 <|
  dVal cP 1 (fNil G30) S31 <|
  dVal cP 2 (fFA 0 G31) S32 <|
  dVal (cL G32) 3 (fLoad1 G32) S33 <|
  dVal cP 4 (fMove G4) S34 <|
  dVal cP 5 (fMove G0) S35 <|
  dVal cP 6 (fNil G35) S36 <|
  dVal cP 7 (fFA 2 G36) S37 <|
  dVal (cL G37) 8 (fLoad1 G37) S38 <|
  dVal cP 9 (fSlS G33 (some G34) (some G38)) S39 <|
  dVal cP 10 (fMove G5) S40 <|
  dCall cE 11 148 (fArgs [G39, G40]) S41 <|
  dVal cP 12 (fMove G41) S29 <|
  dVal cP 13 (fExt 0 G29) S42 <|
  dVal cP 14 (fExt 1 G29) S43 <|
  dVal cP 15 (fMove G42) S6 <|
  dVal cP 16 (fMove G43) S7 <|
  dEnd [0, 1, 3, 7, 0, 0, 32, 96, 224, 511, 0, 2047, 4095, 8191, 8191, 16383, 65535] (oVal (fMove G0) S44 <|
  oVal (fNil G44) S45 <|
  oVal (fFA 4 G45) S46 <|
  oVal (fLoad1 G46) S47 <|
  oVal (fMove G6) S48 <|
  oVal (fInt addI G47 G48) S49 <|
  oVal (fMove G4) S50 <|
  oVal (fMove G7) S51 <|
  oVal (fInt addI G50 G51) S52 <|
  oVal (fMove G49) S2 <|
  oVal (fMove G52) S3 <|
  sRet)))))
def c85 : Op8 := (oVal (fMove (kon (.bool false))) S2 <|
  (oVal (fMove G0) S3 <|
  oCall 25 (fArgs [G3, (kon (.str [62]))]) S4 <|
  oVal (fMove G4) S2 <|
  sRet))
def c86 : Op8 := (oVal (fMove G0) S4 <|
  oCall 89 (fArgs [G4]) S5 <|
  (oVal (fMove G0) S6 <|
  oVal (fNil G6) S7 <|
  oVal (fFA 1 G7) S8 <|
  oVal (fLoad1 G8) S9 <|
  oVal (fMove G1) S10 <|
  oVal (fInt addI G9 G10) S11 <|
  oVal (fNil G6) S12 <|
  oVal (fFA 1 G12) S13 <|
  oUpd (fSt1 G13 G11) <|
  (oVal (fMove G0) S14 <|
  oVal (fNil G14) S15 <|
  oVal (fFA 3 G15) S16 <|
  oVal (fLoad1 G16) S17 <|
  oVal (fMove G1) S18 <|
  oVal (fInt addI G17 G18) S19 <|
  oVal (fNil G14) S20 <|
  oVal (fFA 3 G20) S21 <|
  oUpd (fSt1 G21 G19) <|
  oEnd)))
def c87 : Op8 := (thenF (oVal (fMove G0) S8 <|
  oVal (fNil G8) S9 <|
  oVal (fFA 4 G9) S10 <|
  oVal (fLoad1 G10) S11 <|
  oVal (fInt gtI G11 (kon (.int .i64 0))) S12 <|
  (sCond G12 (oVal (fMove G1) S13 <|
  oVal (fMove G0) S14 <|
  oVal (fNil G14) S15 <|
  oVal (fFA 4 G15) S16 <|
  oVal (fLoad1 G16) S17 <|
  gn yesW (opAt 5 [z, u, z, z] Tryz.f87) <|
  oVal (fMove G18) S4 <|
  (oVal (fMove G0) S19 <|
  oVal (fNil G19) S20 <|
  oVal (fFA 4 G20) S21 <|
  oVal (fLoad1 G21) S22 <|
  oVal (fMove G4) S23 <|
  oVal (fInt subI G22 G23) S24 <|
  oVal (fNil G19) S25 <|
  oVal (fFA 4 G25) S26 <|
  oUpd (fSt1 G26 G24) <|
  (oVal (fMove G0) S27 <|
  oVal (fNil G27) S28 <|
  oVal (fFA 3 G28) S29 <|
  oVal (fLoad1 G29) S30 <|
  oVal (fMove G4) S31 <|
  oVal (fInt addI G30 G31) S32 <|
  oVal (fNil G27) S33 <|
  oVal (fFA 3 G33) S34 <|
  oUpd (fSt1 G34 G32) <|
  (oVal (fMove G1) S35 <|
  oVal (fMove G4) S36 <|
  oVal (fInt subI G35 G36) S37 <|
  oVal (fMove G37) S1 <|
  (thenF (oVal (fMove G0) S38 <|
  oVal (fNil G38) S39 <|
  oVal (fFA 4 G39) S40 <|
  oVal (fLoad1 G40) S41 <|
  oVal (fInt gtI G41 (kon (.int .i64 0))) S42 <|
  (sCond G42 sRet
  oEnd))
  (oVal (fMove G0) S43 <|
  oVal (fNil G43) S44 <|
  oVal (fFA 1 G44) S45 <|
  oVal (fLoad1 G45) S46 <|
  oVal (fInt addI G46 (kon (.int .i64 1))) S47 <|
  oVal (fNil G43) S48 <|
  oVal (fFA 1 G48) S49 <|
  oUpd (fSt1 G49 G47) <|
  oEnd))))))
  oEnd))
  (sDraw <| dVal cP 0 (fMove G0) S51 <|
  dVal cP 1 (fNil G51) S52 <|
  dVal cP 2 (fFA 0 G52) S53 <|
  dVal (cL G53) 3 (fLoad1 G53) S54 <|
  dVal cP 4 (fMove G0) S55 <|
  dVal cP 5 (fNil G55) S56 <|
  dVal cP 6 (fFA 1 G56) S57 <|
  dVal (cL G57) 7 (fLoad1 G57) S58 <|
  dVal cP 8 (fMove G0) S59 <|
  dVal cP 9 (fNil G59) S60 <|
  dVal cP 10 (fFA 2 G60) S61 <|
  dVal (cL G61) 11 (fLoad1 G61) S62 <|
  dVal cP 12 (fSlS G54 (some G58) (some G62)) S63 <|
  dVal cP 13 (fMove G0) S64 <|
  dVal cP 14 (fNil G64) S65 <|
  dVal cP 15 (fFA 3 G65) S66 <|
  dVal (cL G66) 16 (fLoad1 G66) S67 <|
  dVal cP 17 (fMove G1) S68 <|
  dCall cE 18 149 (fArgs [G63, G67, G68]) S69 <|
  dVal cP 19 (fMove G69) S50 <|
  dVal cP 20 (fExt 0 G50) S70 <|
  dVal cP 21 (fExt 1 G50) S71 <|
  dVal cP 22 (fExt 2 G50) S72 <|
  dVal cP 23 (fMove G70) S5 <|
  dVal cP 24 (fMove G71) S6 <|
  dVal cP 25 (fMove G72) S7 <|
  dEnd [0, 1, 3, 7, 0, 16, 48, 112, 0, 256, 768, 1792, 4095, 0, 8192, 24576, 57344, 0, 262143, 524287, 1048575, 1048575, 1048575, 2097151, 12582911, 33554431] (oVal (fMove G0) S73 <|
  oVal (fMove G0) S74 <|
  oVal (fMove G0) S75 <|
  oVal (fMove G0) S76 <|
  oVal (fNil G76) S77 <|
  oVal (fFA 1 G77) S78 <|
  oVal (fLoad1 G78) S79 <|
  oVal (fMove G5) S80 <|
  oVal (fInt addI G79 G80) S81 <|
  oVal (fMove G6) S82 <|
  oVal (fMove G7) S83 <|
  oVal (fNil G73) S84 <|
  oVal (fFA 1 G84) S85 <|
  oUpd (fSt1 G85 G81) <|
  oVal (fNil G74) S86 <|
  oVal (fFA 3 G86) S87 <|
  oUpd (fSt1 G87 G82) <|
  oVal (fNil G75) S88 <|
  oVal (fFA 4 G88) S89 <|
  oUpd (fSt1 G89 G83) <|
  oEnd)))
def c88 : Op8 := (sBlock 0 (sLoop (thenF (oVal (fMove G0) S4 <|
  gn yesW (opAt 1 [z, z, z, z] Tryz.f88) <|
  oVal (fMove G5) S6 <|
  oGval (wntF G6 true) (fMove G0) S7 <|
  oGval (wntF G6 true) (fNil G7) S8 <|
  oGval (wntF G6 true) (fFA 0 G8) S9 <|
  oGval (wntF G6 true) (fFA 2 G9) S10 <|
  oGval (wntF G6 true) (fLoad1 G10) S11 <|
  oGval (wntF G6 true) (fMove G1) S12 <|
  oGval (wntF G6 true) (fInt ltI G11 G12) S13 <|
  oVal (fPick G6 G13 (kon (.bool false))) S14 <|
  (sCond G14 oEnd
  (sExit 0)))
  (thenF (sBlock 1 (oVal (fMove G0) S19 <|
  oVal (fMove G1) S20 <|
  oVal (fNil G19) S21 <|
  oVal (fFA 0 G21) S22 <|
  oVal (fFA 2 G22) S23 <|
  oUpd (fSt1 G23 G20) <|
  oEnd))
  (oVal (fMove G0) S15 <|
  oVal (fNil G15) S16 <|
  oVal (fFA 10 G16) S17 <|
  oVal (fLoad1 G17) S18 <|
  oVal (fMove G18) S0 <|
  oEnd)))))
def c89 : Op8 := (oVal (fMove G0) S5 <|
  oCall 84 (fArgs [G5]) S6 <|
  oVal (fMove G6) S4 <|
  oVal (fExt 0 G4) S7 <|
  oVal (fExt 1 G4) S8 <|
  oVal (fMove G7) S2 <|
  oVal (fMove G8) S3 <|
  (oVal (fMove G0) S9 <|
  oVal (fMove G0) S10 <|
  oVal (fMove G0) S11 <|
  oVal (fMove G3) S12 <|
  oVal (fMove G0) S13 <|
  oVal (fNil G13) S14 <|
  oVal (fFA 3 G14) S15 <|
  oVal (fLoad1 G15) S16 <|
  oVal (fMove G2) S17 <|
  oVal (fInt addI G16 G17) S18 <|
  oVal (fNil G9) S19 <|
  oVal (fFA 1 G19) S20 <|
  oUpd (fSt1 G20 G12) <|
  oVal (fNil G10) S21 <|
  oVal (fFA 3 G21) S22 <|
  oUpd (fSt1 G22 G18) <|
  oVal (fNil G11) S23 <|
  oVal (fFA 4 G23) S24 <|
  oUpd (fSt1 G24 (kon (.int .i64 0))) <|
  oEnd))
def c90 : Op8 := (oVal (fMove (kon (.bool false))) S2 <|
  (oVal (fMove G0) S4 <|
  oVal (fNil G4) S5 <|
  oVal (fFA 0 G5) S6 <|
  oCall 93 (fArgs [G6]) S7 <|
  oVal (fMove G7) S3 <|
  (thenF (sBlock 0 (oVal (fMove G0) S11 <|
  oVal (fNil G11) S12 <|
  oVal (fFA 7 G12) S13 <|
  oVal (fLoad1 G13) S14 <|
  oVal (fNil G14) S15 <|
  oVal (fFA 0 G15) S16 <|
  oVal (fFA 3 G16) S17 <|
  oVal (fLoad1 G17) S18 <|
  oVal (fInt gtI G18 (kon (.int .i64 0))) S19 <|
  oVal (fMove G19) S10 <|
  (sCond G10 (thenF (sDraw <| dVal cP 0 (fMove G3) S20 <|
  dVal cP 1 (fInt leI G20 (kon (.int .i64 3))) S21 <|
  dVal cP 2 (fMove G21) S22 <|
  dGval (wntF G22 true) cP 3 (fMove G0) S23 <|
  dGval (wntF G22 true) cP 4 (fNil G23) S24 <|
  dGval (wntF G22 true) cP 5 (fFA 0 G24) S25 <|
  dGcall (wntF G22 true) cE 6 92 (fArgs [G25]) S26 <|
  dGval (wntF G22 true) cP 7 (fMove G0) S27 <|
  dGval (wntF G22 true) cP 8 (fNil G27) S28 <|
  dGval (wntF G22 true) cP 9 (fFA 7 G28) S29 <|
  dGval (wntF G22 true) (cL G29) 10 (fLoad1 G29) S30 <|
  dGval (wntF G22 true) cP 11 (fNil G30) S31 <|
  dGval (wntF G22 true) cP 12 (fFA 14 G31) S32 <|
  dGval (wntF G22 true) (cL G32) 13 (fLoad1 G32) S33 <|
  dGval (wntF G22 true) cP 14 (fMove G0) S34 <|
  dGval (wntF G22 true) cP 15 (fNil G34) S35 <|
  dGval (wntF G22 true) cP 16 (fFA 7 G35) S36 <|
  dGval (wntF G22 true) (cL G36) 17 (fLoad1 G36) S37 <|
  dGval (wntF G22 true) cP 18 (fNil G37) S38 <|
  dGval (wntF G22 true) cP 19 (fFA 0 G38) S39 <|
  dGval (wntF G22 true) cP 20 (fFA 3 G39) S40 <|
  dGval (wntF G22 true) (cL G40) 21 (fLoad1 G40) S41 <|
  dGcall (wntF G22 true) cE 22 150 (fArgs [G26, G33, G41]) S42 <|
  dVal cP 23 (fPick G22 G42 (kon (.bool false))) S43 <|
  dEnd [0, 1, 3, 7, 15, 31, 63, 7, 135, 391, 903, 1927, 3975, 8071, 7, 16391, 49159, 114695, 245767, 507911, 1032199, 2080775, 4194303, 8388607] (sCond G43 (sDraw <| dVal cP 0 (fMove G0) S44 <|
  dVal cP 1 (fNil G44) S45 <|
  dVal cP 2 (fFA 7 G45) S46 <|
  dVal (cL G46) 3 (fLoad1 G46) S47 <|
  dVal cP 4 (fMove G0) S48 <|
  dVal cP 5 (fNil G48) S49 <|
  dVal cP 6 (fFA 0 G49) S50 <|
  dVal cP 7 (fFA 2 G50) S51 <|
  dVal (cL G51) 8 (fLoad1 G51) S52 <|
  dCall cE 9 88 (fArgs [G47, G52]) S53 <|
  dEnd [0, 1, 3, 7, 0, 16, 48, 112, 240, 511] (oVal (fMove G0) S54 <|
  oCall 27 (fArgs [G54]) S55 <|
  (oVal (fMove (kon (.bool true))) S2 <|
  sRet)))
  oEnd))
  (sDraw <| dVal cP 0 (fMove G0) S56 <|
  dVal cP 1 (fNil G56) S57 <|
  dVal cP 2 (fFA 0 G57) S58 <|
  dVal cP 3 (fMove G0) S59 <|
  dVal cP 4 (fNil G59) S60 <|
  dVal cP 5 (fFA 7 G60) S61 <|
  dVal (cL G61) 6 (fLoad1 G61) S62 <|
  dVal cP 7 (fNil G62) S63 <|
  dVal cP 8 (fFA 15 G63) S64 <|
  dVal (cL G64) 9 (fLoad1 G64) S65 <|
  dCall cE 10 87 (fArgs [G58, G65]) S66 <|
  dEnd [0, 1, 3, 0, 8, 24, 56, 120, 248, 504, 1023] (oVal (fMove G0) S67 <|
  oVal (fMove G0) S68 <|
  oVal (fNil G68) S69 <|
  oVal (fFA 0 G69) S70 <|
  oCall 95 (fArgs [G70]) S71 <|
  oCall 94 (fArgs [G67, G71]) S72 <|
  oEnd)))
  (oVal (fMove G0) S74 <|
  oVal (fNil G74) S75 <|
  oVal (fFA 0 G75) S76 <|
  oCall 54 (fArgs [G76]) S77 <|
  oVal (fMove G77) S73 <|
  (sCond G73 (thenF (oVal (fMove G3) S78 <|
  oVal (fInt ltI G78 (kon (.int .i64 4))) S79 <|
  (sCond G79 (oVal (fMove G0) S80 <|
  oVal (fNil G80) S81 <|
  oVal (fFA 0 G81) S82 <|
  oCall 89 (fArgs [G82]) S83 <|
  oEnd)
  oEnd))
  (oVal (fMove G0) S84 <|
  oVal (fNil G84) S85 <|
  oVal (fFA 0 G85) S86 <|
  oCall 87 (fArgs [G86, (kon (.int .i64 4))]) S87 <|
  (sDraw <| dVal cP 0 (fMove G0) S88 <|
  dVal cP 1 (fNil G88) S89 <|
  dVal cP 2 (fFA 7 G89) S90 <|
  dVal (cL G90) 3 (fLoad1 G90) S91 <|
  dVal cP 4 (fMove G0) S92 <|
  dVal cP 5 (fNil G92) S93 <|
  dVal cP 6 (fFA 7 G93) S94 <|
  dVal (cL G94) 7 (fLoad1 G94) S95 <|
  dVal cP 8 (fNil G95) S96 <|
  dVal cP 9 (fFA 17 G96) S97 <|
  dVal (cL G97) 10 (fLoad1 G97) S98 <|
  dVal cP 11 (fMove G0) S99 <|
  dVal cP 12 (fNil G99) S100 <|
  dVal cP 13 (fFA 0 G100) S101 <|
  dCall cE 14 95 (fArgs [G101]) S102 <|
  gd cN 15 yesW (opAt 15 [u, u, z, z, u, u, u, z, u, u, z] Tryz.f90) <|
  gd cE 16 yesW (opAt 16 [u, u, z, z, u, u, u, z, u, u, z] Tryz.f90) <|
  dVal cP 17 (fNil G91) S105 <|
  dVal cP 18 (fFA 17 G105) S106 <|
  dUpd cE 19 (fSt1 G106 G104) <|
  dEnd [0, 1, 3, 7, 0, 16, 48, 112, 240, 496, 1008, 0, 2048, 6144, 14336, 30720, 65520, 131071, 262143, 524287] (sDraw <| dVal cP 0 (fMove G0) S107 <|
  dVal cP 1 (fNil G107) S108 <|
  dVal cP 2 (fFA 9 G108) S109 <|
  dVal (cL G109) 3 (fLoad1 G109) S110 <|
  dVal cP 4 (fMove G0) S111 <|
  dVal cP 5 (fNil G111) S112 <|
  dVal cP 6 (fFA 9 G112) S113 <|
  dVal (cL G113) 7 (fLoad1 G113) S114 <|
  dVal cP 8 (fLenL G114) S115 <|
  dVal cP 9 (fInt subI G115 (kon (.int .i64 1))) S116 <|
  dVal cP 10 (fMove G0) S117 <|
  dVal cP 11 (fNil G117) S118 <|
  dVal cP 12 (fFA 5 G118) S119 <|
  dVal (cL G119) 13 (fLoad1 G119) S120 <|
  dCall cE 14 51 (fArgs [G120]) S121 <|
  dVal cP 15 (fIAs 1 G110 G116) S122 <|
  dUpd cE 16 (fSt1 G122 G121) <|
  dEnd [0, 1, 3, 7, 0, 16, 48, 112, 240, 496, 0, 1024, 3072, 7168, 15360, 32767, 65535] oEnd))))
  (oVal (fMove G3) S124 <|
  oVal (fInt geI G124 (kon (.int .i64 4))) S125 <|
  oVal (fMove G125) S123 <|
  (sCond G123 (oVal (fMove G0) S126 <|
  oVal (fNil G126) S127 <|
  oVal (fFA 0 G127) S128 <|
  oCall 87 (fArgs [G128, (kon (.int .i64 4))]) S129 <|
  (oVal (fMove G0) S130 <|
  oVal (fMove G0) S131 <|
  oVal (fNil G131) S132 <|
  oVal (fFA 0 G132) S133 <|
  oCall 95 (fArgs [G133]) S134 <|
  oCall 94 (fArgs [G130, G134]) S135 <|
  oEnd))
  (oVal (fMove G0) S8 <|
  oCall 27 (fArgs [G8]) S9 <|
  (oVal (fMove (kon (.bool false))) S2 <|
  sRet)))))))))
  (oVal (fMove (kon (.bool true))) S2 <|
  sRet))))
def c91 : Op8 := (oVal (fMove (kon (.bool false))) S2 <|
  (thenF (oVal (fMove G0) S4 <|
  oVal (fNil G4) S5 <|
  oVal (fFA 7 G5) S6 <|
  oVal (fLoad1 G6) S7 <|
  oVal (fNil G7) S8 <|
  oVal (fFA 16 G8) S9 <|
  oVal (fLoad1 G9) S10 <|
  oVal (fInt geI G10 (kon (.int .i64 6))) S11 <|
  oVal (fMove G11) S12 <|
  oGval (wntF G12 true) (fMove G0) S13 <|
  oGval (wntF G12 true) (fNil G13) S14 <|
  oGval (wntF G12 true) (fFA 0 G14) S15 <|
  oGcall (wntF G12 true) 54 (fArgs [G15]) S16 <|
  oVal (fPick G12 G16 (kon (.bool false))) S17 <|
  (sCond G17 (oVal (fMove G0) S18 <|
  oCall 27 (fArgs [G18]) S19 <|
  (oVal (fMove (kon (.bool false))) S2 <|
  sRet))
  oEnd))
  (oVal (fMove G0) S20 <|
  oVal (fNil G20) S21 <|
  oVal (fFA 0 G21) S22 <|
  oCall 95 (fArgs [G22]) S23 <|
  oVal (fMove G23) S3 <|
  (oVal (fMove G0) S24 <|
  oVal (fMove G3) S25 <|
  oCall 94 (fArgs [G24, G25]) S26 <|
  (thenF (oVal (fMove G3) S27 <|
  oVal (fMove G0) S28 <|
  oVal (fNil G28) S29 <|
  oVal (fFA 7 G29) S30 <|
  oVal (fLoad1 G30) S31 <|
  oVal (fNil G31) S32 <|
  oVal (fFA 16 G32) S33 <|
  oVal (fLoad1 G33) S34 <|
  oCall 151 (fArgs [G27, G34]) S35 <|
  (sCond G35 (oVal (fMove G0) S36 <|
  oCall 27 (fArgs [G36]) S37 <|
  oEnd)
  oEnd))
  (oVal (fMove (kon (.bool true))) S2 <|
  sRet))))))
def c92 : Op8 := (oVal (fMove (kon (.str []))) S2 <|
  (oVal (fMove G0) S6 <|
  oCall 84 (fArgs [G6]) S7 <|
  oVal (fMove G7) S5 <|
  oVal (fExt 0 G5) S8 <|
  oVal (fExt 1 G5) S9 <|
  oVal (fMove G8) S3 <|
  oVal (fMove G9) S4 <|
  (oVal (fMove G0) S10 <|
  oVal (fNil G10) S11 <|
  oVal (fFA 0 G11) S12 <|
  oVal (fLoad1 G12) S13 <|
  oVal (fMove G4) S14 <|
  oVal (fMove G0) S15 <|
  oVal (fNil G15) S16 <|
  oVal (fFA 2 G16) S17 <|
  oVal (fLoad1 G17) S18 <|
  oVal (fSlS G13 (some G14) (some G18)) S19 <|
  oVal (fMove G19) S2 <|
  sRet)))
def c93 : Op8 := (oVal (fMove (kon (.int .i64 0))) S2 <|
  (oVal (fMove G0) S6 <|
  oCall 84 (fArgs [G6]) S7 <|
  oVal (fMove G7) S5 <|
  oVal (fExt 0 G5) S8 <|
  oVal (fExt 1 G5) S9 <|
  oVal (fMove G8) S3 <|
  oVal (fMove G9) S4 <|
  (oVal (fMove G3) S10 <|
  oVal (fMove G10) S2 <|
  sRet)))
def c94 : Op8 := (sDraw <| dVal cP 0 (fMove G0) S4 <|
  dVal cP 1 (fNil G4) S5 <|
  dVal cP 2 (fFA 7 G5) S6 <|
  dVal (cL G6) 3 (fLoad1 G6) S7 <|
  dVal cP 4 (fMove G0) S8 <|
  dVal cP 5 (fNil G8) S9 <|
  dVal cP 6 (fFA 7 G9) S10 <|
  dVal (cL G10) 7 (fLoad1 G10) S11 <|
  dVal cP 8 (fNil G11) S12 <|
  dVal cP 9 (fFA 17 G12) S13 <|
  dVal (cL G13) 10 (fLoad1 G13) S14 <|
  dVal cP 11 (fMove G1) S15 <|
  gd cN 12 yesW (opAt 12 [z] Tryz.f94) <|
  gd cE 13 yesW (opAt 13 [z] Tryz.f94) <|
  dVal cP 14 (fNil G7) S18 <|
  dVal cP 15 (fFA 17 G18) S19 <|
  dUpd cE 16 (fSt1 G19 G17) <|
  dEnd [0, 1, 3, 7, 0, 16, 48, 112, 240, 496, 1008, 0, 2048, 8176, 16383, 32767, 65535] (sDraw <| dVal cP 0 (fMove G0) S20 <|
  dVal cP 1 (fNil G20) S21 <|
  dVal cP 2 (fFA 7 G21) S22 <|
  dVal (cL G22) 3 (fLoad1 G22) S23 <|
  dVal cP 4 (fMove G0) S24 <|
  dVal cP 5 (fNil G24) S25 <|
  dVal cP 6 (fFA 0 G25) S26 <|
  dVal cP 7 (fFA 2 G26) S27 <|
  dVal (cL G27) 8 (fLoad1 G27) S28 <|
  dCall cE 9 88 (fArgs [G23, G28]) S29 <|
  dEnd [0, 1, 3, 7, 0, 16, 48, 112, 240, 511] oEnd))
def c95 : Op8 := (oVal (fMove (kon (.str []))) S2 <|
  (oVal (fMove G0) S4 <|
  oVal (fNil G4) S5 <|
  oVal (fFA 1 G5) S6 <|
  oVal (fLoad1 G6) S7 <|
  oVal (fMove G7) S3 <|
  (thenF (oVal (fMove G0) S8 <|
  oVal (fNil G8) S9 <|
  oVal (fFA 4 G9) S10 <|
  oVal (fLoad1 G10) S11 <|
  oVal (fInt gtI G11 (kon (.int .i64 0))) S12 <|
  (sCond G12 (oVal (fMove G3) S13 <|
  oVal (fInt addI G13 (kon (.int .i64 1))) S14 <|
  oVal (fMove G14) S3 <|
  oEnd)
  oEnd))
  (sDraw <| dVal cP 0 (fMove G0) S15 <|
  dVal cP 1 (fNil G15) S16 <|
  dVal cP 2 (fFA 4 G16) S17 <|
  dVal (cL G17) 3 (fLoad1 G17) S18 <|
  dCall cE 4 152 (fArgs [(kon (.str [32])), G18]) S19 <|
  dVal cP 5 (fMove G0) S20 <|
  dVal cP 6 (fNil G20) S21 <|
  dVal cP 7 (fFA 0 G21) S22 <|
  dVal (cL G22) 8 (fLoad1 G22) S23 <|
  dVal cP 9 (fMove G3) S24 <|
  dVal cP 10 (fMove G0) S25 <|
  dVal cP 11 (fNil G25) S26 <|
  dVal cP 12 (fFA 2 G26) S27 <|
  dVal (cL G27) 13 (fLoad1 G27) S28 <|
  dVal cP 14 (fSlS G23 (some G24) (some G28)) S29 <|
  gd cP 15 yesW (opAt 15 [u, u, u, z] Tryz.f95) <|
  dVal cP 16 (fMove G30) S2 <|
  dEnd [0, 1, 3, 7, 15, 0, 32, 96, 224, 0, 0, 1024, 3072, 7168, 16352, 32767, 65535] sRet))))
def c96 : Op8 := (oVal (fMove (kon (.int .i64 0))) S2 <|
  (thenF (oVal (fMove G0) S3 <|
  oVal (fNil G3) S4 <|
  oVal (fFA 0 G4) S5 <|
  oCall 92 (fArgs [G5]) S6 <|
  oCall 85 (fArgs [G6]) S7 <|
  oVal (fNot G7) S8 <|
  (sCond G8 (oVal (fMove (kon (.int .i64 0))) S2 <|
  sRet)
  oEnd))
  (oVal (fMove G0) S9 <|
  oVal (fMove G0) S10 <|
  oCall 59 (fArgs [G10, (kon (.int .i64 2))]) S11 <|
  oCall 153 (fArgs [G9, G11]) S12 <|
  (oVal (fMove G0) S13 <|
  oVal (fNil G13) S14 <|
  oVal (fFA 0 G14) S15 <|
  oCall 86 (fArgs [G15, (kon (.int .i64 1))]) S16 <|
  (oVal (fMove G0) S17 <|
  oVal (fNil G17) S18 <|
  oVal (fFA 0 G18) S19 <|
  oCall 87 (fArgs [G19, (kon (.int .i64 1))]) S20 <|
  (oVal (fMove (kon (.int .i64 1))) S2 <|
  sRet))))))
def c97 : Op8 := (oVal (fMove (kon (.int .i64 0))) S2 <|
  (oVal (fMove G0) S8 <|
  oVal (fNil G8) S9 <|
  oVal (fFA 0 G9) S10 <|
  oCall 92 (fArgs [G10]) S11 <|
  oCall 154 (fArgs [G11]) S12 <|
  oVal (fMove G12) S7 <|
  oVal (fExt 0 G7) S13 <|
  oVal (fExt 1 G7) S14 <|
  oVal (fExt 2 G7) S15 <|
  oVal (fMove G13) S3 <|
  oVal (fMove G14) S4 <|
  oVal (fMove G15) S5 <|
  (thenF (oVal (fMove G3) S16 <|
  oVal (fIntE G16 (kon (.int .i64 0))) S17 <|
  (sCond G17 (oVal (fMove (kon (.int .i64 0))) S2 <|
  sRet)
  oEnd))
  (oVal (fMove G0) S18 <|
  oCall 59 (fArgs [G18, (kon (.int .i64 6))]) S19 <|
  gn yesW (opAt 2 [u, u, u, z] Tryz.f97) <|
  oUpd (fSt tb 71 G6 G19) <|
  (oVal (fMove G3) S20 <|
  oVal (fFA 1 G6) S21 <|
  oVal (fLoad1 G21) S22 <|
  oVal (fMove G4) S23 <|
  oVal (fInt addI G22 G23) S24 <|
  oVal (fFA 1 G6) S25 <|
  oVal (fLoad1 G25) S26 <|
  oVal (fMove G5) S27 <|
  oVal (fInt addI G26 G27) S28 <|
  gn yesW (opAt 9 [u, u, u, u, z] Tryz.f97) <|
  gn yesW (opAt 10 [u, u, u, u, z] Tryz.f97) <|
  oVal (fFA 3 G6) S31 <|
  oUpd (fSt1 G31 G20) <|
  oVal (fFA 9 G6) S32 <|
  oUpd (fSt1 G32 G30) <|
  (oVal (fMove G0) S33 <|
  oVal (fLoadN 10 G6) S34 <|
  oCall 58 (fArgs [G33, G34]) S35 <|
  (oVal (fMove (kon (.int .i64 2))) S2 <|
  sRet)))))))
def c98 : Op8 := (oVal (fMove (kon (.int .i64 0))) S2 <|
  (oVal (fMove G0) S8 <|
  oVal (fNil G8) S9 <|
  oVal (fFA 0 G9) S10 <|
  oCall 92 (fArgs [G10]) S11 <|
  oCall 155 (fArgs [G11]) S12 <|
  oVal (fMove G12) S7 <|
  oVal (fExt 0 G7) S13 <|
  oVal (fExt 1 G7) S14 <|
  oVal (fExt 2 G7) S15 <|
  oVal (fMove G13) S3 <|
  oVal (fMove G14) S4 <|
  oVal (fMove G15) S5 <|
  (thenF (oVal (fMove G4) S16 <|
  oVal (fIntE G16 (kon (.int .i64 0))) S17 <|
  (sCond G17 (oVal (fMove (kon (.int .i64 0))) S2 <|
  sRet)
  oEnd))
  (oVal (fMove G0) S18 <|
  oCall 59 (fArgs [G18, (kon (.int .i64 8))]) S19 <|
  gn yesW (opAt 2 [u, u, u, z] Tryz.f98) <|
  oUpd (fSt tb 71 G6 G19) <|
  (oVal (fMove G4) S20 <|
  oVal (fMove G5) S21 <|
  oCall 156 (fArgs [G21]) S22 <|
  oVal (fFA 3 G6) S23 <|
  oUpd (fSt1 G23 G20) <|
  oVal (fFA 5 G6) S24 <|
  oUpd (fSt1 G24 G22) <|
  (oVal (fMove G0) S25 <|
  oVal (fMove G0) S26 <|
  oVal (fLoadN 10 G6) S27 <|
  oCall 58 (fArgs [G26, G27]) S28 <|
  oVal (fNil G25) S29 <|
  oVal (fFA 7 G29) S30 <|
  oUpd (fSt1 G30 G28) <|
  (sDraw <| dVal cP 0 (fMove G0) S31 <|
  dVal cP 1 (fNil G31) S32 <|
  dVal cP 2 (fFA 7 G32) S33 <|
  dVal (cL G33) 3 (fLoad1 G33) S34 <|
  dVal cP 4 (fMove G0) S35 <|
  dVal cP 5 (fNil G35) S36 <|
  dVal cP 6 (fFA 7 G36) S37 <|
  dVal (cL G37) 7 (fLoad1 G37) S38 <|
  dVal cP 8 (fMove G3) S39 <|
  dVal cP 9 (fMove G0) S40 <|
  dVal cP 10 (fNil G40) S41 <|
  dVal cP 11 (fFA 0 G41) S42 <|
  dCall cE 12 93 (fArgs [G42]) S43 <|
  dVal cP 13 (fNil G34) S44 <|
  dVal cP 14 (fFA 14 G44) S45 <|
  dUpd cE 15 (fSt1 G45 G39) <|
  dVal cP 16 (fNil G38) S46 <|
  dVal cP 17 (fFA 15 G46) S47 <|
  dUpd cE 18 (fSt1 G47 G43) <|
  dEnd [0, 1, 3, 7, 0, 16, 48, 112, 0, 0, 512, 1536, 3584, 8191, 16383, 32767, 65535, 131071, 262143] (oVal (fMove (kon (.int .i64 2))) S2 <|
  sRet))))))))
def c99 : Op8 := (oVal (fMove (kon (.int .i64 0))) S2 <|
  (oVal (fMove G0) S4 <|
  oVal (fNil G4) S5 <|
  oVal (fFA 0 G5) S6 <|
  oCall 92 (fArgs [G6]) S7 <|
  oCall 157 (fArgs [G7]) S8 <|
  oVal (fMove G8) S3 <|
  (thenF (oVal (fMove G3) S9 <|
  oVal (fIntE G9 (kon (.int .i64 0))) S10 <|
  oVal (fMove G10) S11 <|
  oGval (wntF G11 false) (fMove G3) S12 <|
  oGval (wntF G11 false) (fIntE G12 (kon (.int .i64 7))) S13 <|
  oGval (wntF G11 false) (fMove G13) S14 <|
  oGval (wntF G14 true) (fMove G0) S15 <|
  oGcall (wntF G14 true) 56 (fArgs [G15]) S16 <|
  oGval (wntF G11 false) (fPick G14 G16 (kon (.bool false))) S17 <|
  oVal (fPick G11 (kon (.bool true)) G17) S18 <|
  (sCond G18 (oVal (fMove (kon (.int .i64 0))) S2 <|
  sRet)
  oEnd))
  (oVal (fMove G0) S19 <|
  oVal (fMove G0) S20 <|
  oVal (fMove G0) S21 <|
  oCall 59 (fArgs [G21, (kon (.int .i64 9))]) S22 <|
  oCall 58 (fArgs [G20, G22]) S23 <|
  oVal (fNil G19) S24 <|
  oVal (fFA 7 G24) S25 <|
  oUpd (fSt1 G25 G23) <|
  (oVal (fMove G0) S26 <|
  oVal (fNil G26) S27 <|
  oVal (fFA 7 G27) S28 <|
  oVal (fLoad1 G28) S29 <|
  oVal (fMove G3) S30 <|
  oVal (fNil G29) S31 <|
  oVal (fFA 16 G31) S32 <|
  oUpd (fSt1 G32 G30) <|
  (oVal (fMove G0) S33 <|
  oVal (fMove G0) S34 <|
  oVal (fNil G34) S35 <|
  oVal (fFA 0 G35) S36 <|
  oCall 95 (fArgs [G36]) S37 <|
  oCall 94 (fArgs [G33, G37]) S38 <|
  (thenF (oVal (fMove G0) S39 <|
  oVal (fNil G39) S40 <|
  oVal (fFA 0 G40) S41 <|
  oCall 92 (fArgs [G41]) S42 <|
  oVal (fMove G3) S43 <|
  oCall 151 (fArgs [G42, G43]) S44 <|
  (sCond G44 (oVal (fMove G0) S45 <|
  oCall 27 (fArgs [G45]) S46 <|
  oEnd)
  oEnd))
  (oVal (fMove (kon (.int .i64 2))) S2 <|
  sRet))))))))
def c100 : Op8 := (oVal (fMove (kon (.int .i64 0))) S2 <|
  (oVal (fMove G0) S5 <|
  oVal (fNil G5) S6 <|
  oVal (fFA 0 G6) S7 <|
  oCall 92 (fArgs [G7]) S8 <|
  oCall 158 (fArgs [G8]) S9 <|
  oVal (fMove G9) S3 <|
  (thenF (oVal (fMove G3) S10 <|
  oVal (fIntE G10 (kon (.int .i64 0))) S11 <|
  oVal (fMove G11) S12 <|
  oGval (wntF G12 false) (fMove G0) S13 <|
  oGcall (wntF G12 false) 56 (fArgs [G13]) S14 <|
  oGval (wntF G12 false) (fNot G14) S15 <|
  oVal (fPick G12 (kon (.bool true)) G15) S16 <|
  oVal (fMove G16) S17 <|
  oGval (wntF G17 false) (fMove G0) S18 <|
  oGcall (wntF G17 false) 52 (fArgs [G18]) S19 <|
  oGval (wntF G17 false) (fNot G19) S20 <|
  oVal (fPick G17 (kon (.bool true)) G20) S21 <|
  (sCond G21 (oVal (fMove (kon (.int .i64 0))) S2 <|
  sRet)
  oEnd))
  (oVal (fMove G0) S22 <|
  oVal (fMove G0) S23 <|
  oVal (fNil G23) S24 <|
  oVal (fFA 7 G24) S25 <|
  oVal (fLoad1 G25) S26 <|
  oCall 60 (fArgs [G22, G26]) S27 <|
  (thenF (oVal (fMove G0) S28 <|
  oVal (fNil G28) S29 <|
  oVal (fFA 7 G29) S30 <|
  oVal (fLoad1 G30) S31 <|
  oVal (fNil G31) S32 <|
  oVal (fFA 0 G32) S33 <|
  oVal (fFA 9 G33) S34 <|
  oVal (fLoad1 G34) S35 <|
  oVal (fLenL G35) S36 <|
  oVal (fIntE G36 (kon (.int .i64 0))) S37 <|
  (sCond G37 (oVal (fMove (kon (.int .i64 0))) S2 <|
  sRet)
  oEnd))
  (oVal (fMove G0) S38 <|
  oVal (fNil G38) S39 <|
  oVal (fFA 7 G39) S40 <|
  oVal (fLoad1 G40) S41 <|
  oVal (fMove G41) S4 <|
  (oVal (fMove G4) S42 <|
  oVal (fMove G4) S43 <|
  oVal (fMove G4) S44 <|
  oVal (fMove G3) S45 <|
  oVal (fNil G42) S46 <|
  oVal (fFA 0 G46) S47 <|
  oVal (fFA 0 G47) S48 <|
  oUpd (fSt1 G48 (kon (.int .i64 6))) <|
  oVal (fNil G43) S49 <|
  oVal (fFA 0 G49) S50 <|
  oVal (fFA 3 G50) S51 <|
  oUpd (fSt1 G51 G45) <|
  oVal (fNil G44) S52 <|
  oVal (fFA 0 G52) S53 <|
  oVal (fFA 7 G53) S54 <|
  oUpd (fSt1 G54 (kon (.bool true))) <|
  (oVal (fMove G4) S55 <|
  oVal (fMove G0) S56 <|
  oVal (fNil G56) S57 <|
  oVal (fFA 0 G57) S58 <|
  oVal (fFA 2 G58) S59 <|
  oVal (fLoad1 G59) S60 <|
  oCall 88 (fArgs [G55, G60]) S61 <|
  (oVal (fMove G0) S62 <|
  oVal (fNil G62) S63 <|
  oVal (fFA 7 G63) S64 <|
  oUpd (fSt1 G64 (kon .nilp)) <|
  (oVal (fMove (kon (.int .i64 2))) S2 <|
  sRet))))))))))
def c101 : Op8 := (oVal (fMove (kon (.int .i64 0))) S2 <|
  (thenF (oVal (fMove G0) S3 <|
  oVal (fNil G3) S4 <|
  oVal (fFA 0 G4) S5 <|
  oCall 92 (fArgs [G5]) S6 <|
  oCall 159 (fArgs [G6]) S7 <|
  oVal (fNot G7) S8 <|
  (sCond G8 (oVal (fMove (kon (.int .i64 0))) S2 <|
  sRet)
  oEnd))
  (oVal (fMove G0) S9 <|
  oVal (fMove G0) S10 <|
  oCall 59 (fArgs [G10, (kon (.int .i64 7))]) S11 <|
  oCall 58 (fArgs [G9, G11]) S12 <|
  (oVal (fMove (kon (.int .i64 2))) S2 <|
  sRet))))
def c102 : Op8 := (oVal (fMove (kon (.int .i64 0))) S2 <|
  (oVal (fMove G0) S13 <|
  oVal (fNil G13) S14 <|
  oVal (fFA 0 G14) S15 <|
  oCall 92 (fArgs [G15]) S16 <|
  oVal (fMove G16) S3 <|
  (oVal (fMove G3) S18 <|
  oCall 160 (fArgs [G18]) S19 <|
  oVal (fMove G19) S17 <|
  oVal (fExt 0 G17) S20 <|
  oVal (fExt 1 G17) S21 <|
  oVal (fExt 2 G17) S22 <|
  oVal (fMove G20) S4 <|
  oVal (fMove G21) S5 <|
  oVal (fMove G22) S6 <|
  (thenF (oVal (fMove G6) S23 <|
  oVal (fIntE G23 (kon (.int .i64 0))) S24 <|
  oVal (fMove G24) S25 <|
  oGval (wntF G25 false) (fMove G0) S26 <|
  oGcall (wntF G25 false) 56 (fArgs [G26]) S27 <|
  oGval (wntF G25 false) (fMove G27) S28 <|
  oGval (wntF G28 true) (fMove G0) S29 <|
  oGcall (wntF G28 true) 52 (fArgs [G29]) S30 <|
  oGval (wntF G25 false) (fPick G28 G30 (kon (.bool false))) S31 <|
  oGval (wntF G25 false) (fMove G31) S32 <|
  oGval (wntF G32 true) (fMove G3) S33 <|
  oGval (wntF G32 true) (fMove G6) S34 <|
  oGval (wntF G32 true) (fSlS G33 (some G34) none) S35 <|
  oGcall (wntF G32 true) 61 (fArgs [G35, (kon (.str [32, 9]))]) S36 <|
  gn (wntF G32 true) (opAt 14 [u, u, u, z, z] Tryz.f102) <|
  oGval (wntF G32 true) (fMove G37) S38 <|
  oGval (wntF G38 false) (fMove G5) S39 <|
  oGval (wntF G38 false) (fInt gtI G39 (kon (.int .i64 1))) S40 <|
  oGval (wntF G32 true) (fPick G38 (kon (.bool true)) G40) S41 <|
  oGval (wntF G32 true) (fMove G41) S42 <|
  oGval (wntF G42 false) (fMove G5) S43 <|
  oGval (wntF G42 false) (fIntE G43 (kon (.int .i64 0))) S44 <|
  oGval (wntF G32 true) (fPick G42 (kon (.bool true)) G44) S45 <|
  oGval (wntF G25 false) (fPick G32 G45 (kon (.bool false))) S46 <|
  oVal (fPick G25 (kon (.bool true)) G46) S47 <|
  (sCond G47 (oVal (fMove (kon (.int .i64 0))) S2 <|
  sRet)
  oEnd))
  (oVal (fMove G0) S48 <|
  oVal (fNil G48) S49 <|
  oVal (fFA 0 G49) S50 <|
  oCall 93 (fArgs [G50]) S51 <|
  oVal (fMove G51) S7 <|
  (oVal (fMove G0) S52 <|
  oCall 59 (fArgs [G52, (kon (.int .i64 4))]) S53 <|
  gn yesW (opAt 2 [u, u, u, u, u, z] Tryz.f102) <|
  oUpd (fSt tb 71 G8 G53) <|
  (oVal (fFA 1 G8) S54 <|
  oVal (fLoad1 G54) S55 <|
  oVal (fMove G6) S56 <|
  oVal (fInt addI G55 G56) S57 <|
  oVal (fFA 2 G8) S58 <|
  oUpd (fSt1 G58 G57) <|
  (sDraw <| dVal cP 0 (fMove G0) S59 <|
  dVal cP 1 (fMove G0) S60 <|
  dVal cP 2 (fNil G60) S61 <|
  dVal cP 3 (fFA 5 G61) S62 <|
  dVal (cL G62) 4 (fLoad1 G62) S63 <|
  dVal cP 5 (fMove G0) S64 <|
  dVal cP 6 (fNil G64) S65 <|
  dVal cP 7 (fFA 6 G65) S66 <|
  dVal (cL G66) 8 (fLoad1 G66) S67 <|
  gd cE 9 yesW (opAt 9 [u, u, u, u, u, u, u, z] Tryz.f102) <|
  dVal cP 10 (fNil G59) S69 <|
  dVal cP 11 (fFA 5 G69) S70 <|
  dUpd cE 12 (fSt1 G70 G68) <|
  dEnd [0, 0, 2, 6, 14, 0, 32, 96, 224, 510, 1023, 2047, 4095] (oVal (fFA 1 G8) S71 <|
  oVal (fLoad1 G71) S72 <|
  oVal (fFA 2 G8) S73 <|
  oVal (fLoad1 G73) S74 <|
  oVal (fMove G5) S75 <|
  oVal (fMove G4) S76 <|
  oVal (fCnvI .i32 G76) S77 <|
  gn yesW (opAt 7 [u, u, u, u, u, u, u, u, z] Tryz.f102) <|
  gn yesW (opAt 8 [u, u, u, u, u, u, u, u, z] Tryz.f102) <|
  gn yesW (opAt 9 [u, u, u, u, u, u, u, u, z] Tryz.f102) <|
  oUpd (fSt tb 71 G9 G79) <|
  (thenF (oVal (fMove G0) S80 <|
  oCall 103 (fArgs [G80]) S81 <|
  oVal (fMove G81) S10 <|
  (oVal (fMove G10) S82 <|
  oVal (fNil G82) S83 <|
  oVal (fFA 0 G83) S84 <|
  oVal (fFA 0 G84) S85 <|
  oVal (fLoad1 G85) S86 <|
  oVal (fInt neI G86 (kon (.int .i64 3))) S87 <|
  oVal (fMove G87) S88 <|
  oGval (wntF G88 false) (fMove G10) S89 <|
  oGval (wntF G88 false) (fNil G89) S90 <|
  oGval (wntF G88 false) (fFA 0 G90) S91 <|
  oGval (wntF G88 false) (fFA 4 G91) S92 <|
  oGval (wntF G88 false) (fLoad1 G92) S93 <|
  oGval (wntF G88 false) (fFA 4 G9) S94 <|
  oGval (wntF G88 false) (fLoad1 G94) S95 <|
  gn (wntF G88 false) (opAt 14 [u, u, u, u, u, u, u, u, u, z, u, z] Tryz.f102) <|
  oVal (fPick G88 (kon (.bool true)) G96) S97 <|
  (sCond G97 (oVal (fMove G0) S98 <|
  oVal (fLoadN 10 G9) S99 <|
  oCall 153 (fArgs [G98, G99]) S100 <|
  oEnd)
  oEnd)))
  (oVal (fMove G0) S101 <|
  oVal (fLoadN 10 G8) S102 <|
  oCall 153 (fArgs [G101, G102]) S103 <|
  oVal (fMove G103) S11 <|
  (oVal (fMove G0) S104 <|
  oVal (fNil G104) S105 <|
  oVal (fFA 0 G105) S106 <|
  oVal (fMove G6) S107 <|
  oCall 86 (fArgs [G106, G107]) S108 <|
  (oVal (fMove G0) S109 <|
  oVal (fNil G109) S110 <|
  oVal (fFA 0 G110) S111 <|
  oCall 93 (fArgs [G111]) S112 <|
  oVal (fMove G112) S12 <|
  (thenF (oVal (fMove G12) S113 <|
  oVal (fInt gtI G113 (kon (.int .i64 4))) S114 <|
  oVal (fMove G114) S115 <|
  oGval (wntF G115 false) (fMove G0) S116 <|
  oGval (wntF G115 false) (fNil G116) S117 <|
  oGval (wntF G115 false) (fFA 0 G117) S118 <|
  oGcall (wntF G115 false) 54 (fArgs [G118]) S119 <|
  oVal (fPick G115 (kon (.bool true)) G119) S120 <|
  (sCond G120 (oVal (fMove G12) S121 <|
  gn yesW (opAt 1 [u, u, u, u, u, u, u, u, u, u, u, u, u, z, u, z, z] Tryz.f102) <|
  oVal (fMove G122) S12 <|
  (oVal (fMove G11) S123 <|
  oVal (fNil G123) S124 <|
  oVal (fFA 13 G124) S125 <|
  oUpd (fSt1 G125 (kon (.int .i64 1))) <|
  oEnd))
  oEnd))
  (oVal (fMove G0) S126 <|
  oVal (fNil G126) S127 <|
  oVal (fFA 0 G127) S128 <|
  oVal (fMove G12) S129 <|
  oCall 87 (fArgs [G128, G129]) S130 <|
  (oVal (fMove G11) S131 <|
  oVal (fMove G7) S132 <|
  oVal (fMove G6) S133 <|
  oVal (fInt addI G132 G133) S134 <|
  oVal (fMove G11) S135 <|
  oVal (fNil G135) S136 <|
  oVal (fFA 13 G136) S137 <|
  oVal (fLoad1 G137) S138 <|
  oVal (fMove G12) S139 <|
  gn yesW (opAt 9 [u, u, u, u, u, u, u, u, u, u, u, u, u, u, u, z] Tryz.f102) <|
  oVal (fInt addI G134 G140) S141 <|
  oVal (fNil G131) S142 <|
  oVal (fFA 13 G142) S143 <|
  oUpd (fSt1 G143 G141) <|
  (oVal (fMove (kon (.int .i64 1))) S2 <|
  sRet)))))))))))))))))
def c103 : Op8 := (oVal (fMove (kon .nilp)) S2 <|
  (oVal (fMove G0) S3 <|
  oVal (fNil G3) S4 <|
  oVal (fFA 5 G4) S5 <|
  oVal (fLoad1 G5) S6 <|
  oVal (fMove G0) S7 <|
  oVal (fNil G7) S8 <|
  oVal (fFA 5 G8) S9 <|
  oVal (fLoad1 G9) S10 <|
  oVal (fLenL G10) S11 <|
  oVal (fInt subI G11 (kon (.int .i64 1))) S12 <|
  oVal (fIAs 1 G6 G12) S13 <|
  oVal (fLoad1 G13) S14 <|
  oVal (fMove G14) S2 <|
  sRet))
def c104 : Op8 := (gn yesW (opAt 0 [z] Tryz.f104) <|
  (oVal (fMove (kon .nils)) S5 <|
  (oVal (fMove (kon .nils)) S6 <|
  (oVal (fMove (kon (.int .i64 0))) S7 <|
  (thenF (oVal (fMove G1) S10 <|
  oVal (fLenL G10) S11 <|
  oVal (fMove (kon (.int .i64 0))) S12 <|
  (sBlock 0 (sLoop (oVal (fInt ltI G12 G11) S13 <|
  (thenF (sCond G13 oEnd
  (sExit 0))
  (thenF (sBlock 1 (oVal (fIAs 2 G10 G12) S14 <|
  oVal (fLoadN 2 G14) S15 <|
  gn yesW (opAt 2 [u, u, u, u, z, u, z, z, u, u, z, z, z] Tryz.f104) <|
  oUpd (fSt tb 134 G9 G15) <|
  (oVal (fMove G5) S16 <|
  oVal (fMove G0) S17 <|
  oVal (fFA 0 G9) S18 <|
  oVal (fLoad1 G18) S19 <|
  oVal (fFA 1 G9) S20 <|
  oVal (fLoad1 G20) S21 <|
  oVal (fSlS G17 (some G19) (some G21)) S22 <|
  gn yesW (opAt 7 [u, u, u, u, z, u, z, z, u, u, z, z, u, z] Tryz.f104) <|
  gn yesW (opAt 8 [u, u, u, u, z, u, z, z, u, u, z, z, u, z] Tryz.f104) <|
  oVal (fMove G6) S25 <|
  oVal (fMove G7) S26 <|
  gn yesW (opAt 11 [u, u, u, u, z, u, z, z, u, u, z, z, u, z] Tryz.f104) <|
  gn yesW (opAt 12 [u, u, u, u, z, u, z, z, u, u, z, z, u, z] Tryz.f104) <|
  oVal (fMove G24) S5 <|
  oVal (fMove G28) S6 <|
  (oVal (fMove G7) S29 <|
  oVal (fFA 1 G9) S30 <|
  oVal (fLoad1 G30) S31 <|
  oVal (fFA 0 G9) S32 <|
  oVal (fLoad1 G32) S33 <|
  oVal (fInt subI G31 G33) S34 <|
  oVal (fInt addI G34 (kon (.int .i64 1))) S35 <|
  oVal (fInt addI G29 G35) S36 <|
  oVal (fMove G36) S7 <|
  oEnd))))
  (oVal (fInt addI G12 (kon (.int .i64 1))) S37 <|
  oVal (fMove G37) S12 <|
  oEnd)))))))
  (oVal (fMove G5) S38 <|
  oCall 62 (fArgs [G38, (kon (.str [10]))]) S39 <|
  oVal (fMove G1) S40 <|
  oVal (fMove G6) S41 <|
  gn yesW (opAt 4 [u, u, u, u, u, z] Tryz.f104) <|
  oUpd (fSt tb 173 G4 G42) <|
  sRet))))))
def c105 : Op8 := (gn yesW (opAt 0 [z] Tryz.f105) <|
  oVal (fMove (kon (.int .i64 0))) S5 <|
  (oVal (fMove G0) S18 <|
  oVal (fMove G1) S19 <|
  oCall 161 (fArgs [G18, G19]) S20 <|
  oVal (fMove G20) S17 <|
  oVal (fExt 0 G17) S21 <|
  oVal (fExt 1 G17) S22 <|
  oVal (fMove G21) S6 <|
  oVal (fMove G22) S7 <|
  (thenF (oVal (fMove G7) S23 <|
  oVal (fIntE G23 (kon (.int .i64 0))) S24 <|
  oVal (fMove G24) S25 <|
  oGval (wntF G25 false) (fMove G0) S26 <|
  oGval (wntF G25 false) (fMove G1) S27 <|
  oGval (wntF G25 false) (fMove G7) S28 <|
  oGval (wntF G25 false) (fInt addI G27 G28) S29 <|
  oGval (wntF G25 false) (fSlS G26 (some G29) none) S30 <|
  oGcall (wntF G25 false) 25 (fArgs [G30, (kon (.str [58]))]) S31 <|
  oGval (wntF G25 false) (fNot G31) S32 <|
  oVal (fPick G25 (kon (.bool true)) G32) S33 <|
  (sCond G33 (gn yesW (opAt 0 [u, u, z, u, z, z] Tryz.f105) <|
  oUpd (fSt tb 145 G4 G34) <|
  oVal (fMove (kon (.int .i64 0))) S5 <|
  sRet)
  oEnd))
  (oVal (fMove G1) S35 <|
  oVal (fMove G7) S36 <|
  oVal (fInt addI G35 G36) S37 <|
  oVal (fInt addI G37 (kon (.int .i64 1))) S38 <|
  oVal (fMove G38) S8 <|
  (oVal (fMove G0) S40 <|
  oVal (fMove G8) S41 <|
  oVal (fSlS G40 (some G41) none) S42 <|
  oCall 162 (fArgs [G42]) S43 <|
  oVal (fMove G43) S39 <|
  oVal (fExt 0 G39) S44 <|
  oVal (fExt 1 G39) S45 <|
  oVal (fMove G44) S9 <|
  oVal (fMove G45) S10 <|
  (oVal (fMove G8) S46 <|
  oVal (fMove G9) S47 <|
  oVal (fInt addI G46 G47) S48 <|
  oVal (fMove G48) S8 <|
  (oVal (fMove G0) S50 <|
  oVal (fMove G8) S51 <|
  oCall 163 (fArgs [G50, G51]) S52 <|
  oVal (fMove G52) S49 <|
  oVal (fExt 0 G49) S53 <|
  oVal (fExt 1 G49) S54 <|
  oVal (fMove G53) S11 <|
  oVal (fMove G54) S9 <|
  (oVal (fMove G8) S55 <|
  oVal (fMove G9) S56 <|
  oVal (fInt addI G55 G56) S57 <|
  oVal (fMove G57) S8 <|
  (thenF (oVal (fMove G10) S58 <|
  oVal (fNot G58) S59 <|
  oVal (fMove G59) S60 <|
  oGval (wntF G60 false) (fMove G9) S61 <|
  oGval (wntF G60 false) (fIntE G61 (kon (.int .i64 0))) S62 <|
  oVal (fPick G60 (kon (.bool true)) G62) S63 <|
  (sCond G63 (gn yesW (opAt 0 [u, u, u, u, u, u, u, u, z, u, z, z] Tryz.f105) <|
  oUpd (fSt tb 145 G4 G64) <|
  oVal (fMove (kon (.int .i64 0))) S5 <|
  sRet)
  oEnd))
  (oVal (fMove G6) S65 <|
  oCall 164 (fArgs [G65]) S66 <|
  oVal (fMove G11) S67 <|
  oVal (fMove G1) S68 <|
  oVal (fMove G8) S69 <|
  gn yesW (opAt 5 [u, u, u, u, u, u, u, u, u, z] Tryz.f105) <|
  gn yesW (opAt 6 [u, u, u, u, u, u, u, u, u, z] Tryz.f105) <|
  oUpd (fSt tb 145 G12 G70) <|
  (thenF (oVal (fMove G0) S72 <|
  oVal (fMove G8) S73 <|
  oCall 165 (fArgs [G72, G73]) S74 <|
  oVal (fMove G74) S71 <|
  oVal (fExt 0 G71) S75 <|
  oVal (fExt 1 G71) S76 <|
  oVal (fExt 2 G71) S77 <|
  oVal (fExt 3 G71) S78 <|
  oVal (fMove G75) S13 <|
  oVal (fMove G76) S14 <|
  oVal (fMove G77) S15 <|
  oVal (fMove G78) S16 <|
  (oVal (fMove G16) S79 <|
  (sCond G79 (oVal (fMove G13) S80 <|
  oVal (fMove G14) S81 <|
  oVal (fFA 2 G12) S82 <|
  oUpd (fSt1 G82 G80) <|
  oVal (fFA 4 G12) S83 <|
  oUpd (fSt1 G83 G81) <|
  (oVal (fLoadN 5 G12) S84 <|
  oVal (fMove G15) S85 <|
  oVal (fMove G1) S86 <|
  oVal (fInt subI G85 G86) S87 <|
  oUpd (fSt tb 145 G4 G84) <|
  oVal (fMove G87) S5 <|
  sRet))
  oEnd)))
  (oVal (fMove G0) S89 <|
  oVal (fMove G8) S90 <|
  oVal (fSlS G89 (some G90) none) S91 <|
  oCall 166 (fArgs [G91]) S92 <|
  oVal (fMove G92) S88 <|
  oVal (fExt 0 G88) S93 <|
  oVal (fExt 1 G88) S94 <|
  oVal (fMove G93) S9 <|
  oVal (fMove G94) S10 <|
  (thenF (oVal (fMove G10) S95 <|
  oVal (fNot G95) S96 <|
  (sCond G96 (gn yesW (opAt 0 [u, u, u, u, u, u, u, u, u, u, u, u, z, u, z, z] Tryz.f105) <|
  oUpd (fSt tb 145 G4 G97) <|
  oVal (fMove (kon (.int .i64 0))) S5 <|
  sRet)
  oEnd))
  (oVal (fLoadN 5 G12) S98 <|
  oVal (fMove G8) S99 <|
  oVal (fMove G9) S100 <|
  oVal (fInt addI G99 G100) S101 <|
  oVal (fMove G1) S102 <|
  oVal (fInt subI G101 G102) S103 <|
  oUpd (fSt tb 145 G4 G98) <|
  oVal (fMove G103) S5 <|
  sRet))))))))))))))
def c106 : Op8 := (gn yesW (opAt 0 [z] Tryz.f106) <|
  oVal (fMove (kon (.int .i64 0))) S4 <|
  (oVal (fFA 2 G2) S6 <|
  oVal (fLoad1 G6) S7 <|
  oVal (fMove G1) S8 <|
  oVal (fInt addI G8 (kon (.int .i64 1))) S9 <|
  oCall 72 (fArgs [G7, G9]) S10 <|
  oVal (fInt subI G10 (kon (.int .i64 1))) S11 <|
  oVal (fMove G11) S5 <|
  (oVal (fFA 1 G2) S12 <|
  oVal (fLoad1 G12) S13 <|
  oVal (fMove G5) S14 <|
  oVal (fIAs 2 G13 G14) S15 <|
  oVal (fFA 0 G15) S16 <|
  oVal (fLoad1 G16) S17 <|
  oVal (fMove G1) S18 <|
  oVal (fInt addI G17 G18) S19 <|
  oVal (fFA 2 G2) S20 <|
  oVal (fLoad1 G20) S21 <|
  oVal (fMove G5) S22 <|
  oVal (fIAs 1 G21 G22) S23 <|
  oVal (fLoad1 G23) S24 <|
  oVal (fInt subI G19 G24) S25 <|
  oVal (fMove G25) S4 <|
  sRet)))
def c107 : Op8 := (oVal (fMove (kon (.str []))) S4 <|
  (thenF (sBlock 0 (sLoop (thenF (oVal (fMove G0) S5 <|
  oVal (fLenS G5) S6 <|
  oVal (fInt gtI G6 (kon (.int .i64 0))) S7 <|
  oVal (fMove G7) S8 <|
  oGval (wntF G8 true) (fMove G0) S9 <|
  oGval (wntF G8 true) (fIxS G9 (kon (.int .i64 0))) S10 <|
  oGval (wntF G8 true) (fMove G1) S11 <|
  oGval (wntF G8 true) (fIntE G10 G11) S12 <|
  oVal (fPick G8 G12 (kon (.bool false))) S13 <|
  (sCond G13 oEnd
  (sExit 0)))
  (sBlock 1 (oVal (fMove G0) S14 <|
  oVal (fSlS G14 (some (kon (.int .i64 1))) none) S15 <|
  oVal (fMove G15) S0 <|
  oEnd)))))
  (oVal (fMove G0) S16 <|
  oVal (fMove G16) S4 <|
  sRet)))
def c108 : Op8 := (oVal (fMove (kon (.str []))) S4 <|
  (thenF (sBlock 0 (sLoop (thenF (oVal (fMove G0) S5 <|
  oVal (fLenS G5) S6 <|
  oVal (fInt gtI G6 (kon (.int .i64 0))) S7 <|
  oVal (fMove G7) S8 <|
  oGval (wntF G8 true) (fMove G0) S9 <|
  oGval (wntF G8 true) (fMove G0) S10 <|
  oGval (wntF G8 true) (fLenS G10) S11 <|
  oGval (wntF G8 true) (fInt subI G11 (kon (.int .i64 1))) S12 <|
  oGval (wntF G8 true) (fIxS G9 G12) S13 <|
  oGval (wntF G8 true) (fMove G1) S14 <|
  oGval (wntF G8 true) (fIntE G13 G14) S15 <|
  oVal (fPick G8 G15 (kon (.bool false))) S16 <|
  (sCond G16 oEnd
  (sExit 0)))
  (sBlock 1 (oVal (fMove G0) S17 <|
  oVal (fMove G0) S18 <|
  oVal (fLenS G18) S19 <|
  oVal (fInt subI G19 (kon (.int .i64 1))) S20 <|
  oVal (fSlS G17 none (some G20)) S21 <|
  oVal (fMove G21) S0 <|
  oEnd)))))
  (oVal (fMove G0) S22 <|
  oVal (fMove G22) S4 <|
  sRet)))
def c109 : Op8 := (oVal (fMove (kon (.str []))) S4 <|
  (thenF (sBlock 0 (sLoop (thenF (oVal (fMove G0) S5 <|
  oVal (fLenS G5) S6 <|
  oVal (fInt gtI G6 (kon (.int .i64 0))) S7 <|
  (sCond G7 oEnd
  (sExit 0)))
  (sBlock 1 (thenF (oVal (fMove G1) S8 <|
  oVal (fMove G0) S9 <|
  oVal (fIxS G9 (kon (.int .i64 0))) S10 <|
  oCall 48 (fArgs [G8, G10]) S11 <|
  oVal (fNot G11) S12 <|
  (sCond G12 (sExit 0)
  oEnd))
  (oVal (fMove G0) S13 <|
  oVal (fSlS G13 (some (kon (.int .i64 1))) none) S14 <|
  oVal (fMove G14) S0 <|
  oEnd))))))
  (oVal (fMove G0) S15 <|
  oVal (fMove G15) S4 <|
  sRet)))
def c110 : Op8 := (oVal (fMove (kon (.str []))) S4 <|
  (thenF (sBlock 0 (sLoop (thenF (oVal (fMove G0) S5 <|
  oVal (fLenS G5) S6 <|
  oVal (fInt gtI G6 (kon (.int .i64 0))) S7 <|
  (sCond G7 oEnd
  (sExit 0)))
  (sBlock 1 (thenF (oVal (fMove G1) S8 <|
  oVal (fMove G0) S9 <|
  oVal (fMove G0) S10 <|
  oVal (fLenS G10) S11 <|
  oVal (fInt subI G11 (kon (.int .i64 1))) S12 <|
  oVal (fIxS G9 G12) S13 <|
  oCall 48 (fArgs [G8, G13]) S14 <|
  oVal (fNot G14) S15 <|
  (sCond G15 (sExit 0)
  oEnd))
  (oVal (fMove G0) S16 <|
  oVal (fMove G0) S17 <|
  oVal (fLenS G17) S18 <|
  oVal (fInt subI G18 (kon (.int .i64 1))) S19 <|
  oVal (fSlS G16 none (some G19)) S20 <|
  oVal (fMove G20) S0 <|
  oEnd))))))
  (oVal (fMove G0) S21 <|
  oVal (fMove G21) S4 <|
  sRet)))
def c111 : Op8 := (oVal (fMove (kon (.str []))) S4 <|
  (thenF (sBlock 0 (sLoop (thenF (oVal (fMove G0) S7 <|
  oVal (fLenS G7) S8 <|
  oVal (fInt gtI G8 (kon (.int .i64 0))) S9 <|
  (sCond G9 oEnd
  (sExit 0)))
  (sBlock 1 (oVal (fMove G0) S11 <|
  oCall 74 (fArgs [G11]) S12 <|
  oVal (fMove G12) S10 <|
  oVal (fExt 0 G10) S13 <|
  oVal (fExt 1 G10) S14 <|
  oVal (fMove G13) S5 <|
  oVal (fMove G14) S6 <|
  (thenF (oVal (fMove G1) S15 <|
  oVal (fMove G5) S16 <|
  oCall 167 (fArgs [G15, G16]) S17 <|
  oVal (fNot G17) S18 <|
  (sCond G18 (sExit 0)
  oEnd))
  (oVal (fMove G0) S19 <|
  oVal (fMove G6) S20 <|
  oVal (fSlS G19 (some G20) none) S21 <|
  oVal (fMove G21) S0 <|
  oEnd)))))))
  (oVal (fMove G0) S22 <|
  oVal (fMove G22) S4 <|
  sRet)))
def c112 : Op8 := (oVal (fMove (kon (.str []))) S4 <|
  (thenF (sBlock 0 (sLoop (thenF (oVal (fMove G0) S7 <|
  oVal (fLenS G7) S8 <|
  oVal (fInt gtI G8 (kon (.int .i64 0))) S9 <|
  (sCond G9 oEnd
  (sExit 0)))
  (sBlock 1 (oVal (fMove G0) S10 <|
  oVal (fMove G0) S11 <|
  oVal (fLenS G11) S12 <|
  oVal (fInt subI G12 (kon (.int .i64 1))) S13 <|
  oVal (fIxS G10 G13) S14 <|
  oVal (fCnvI .i32 G14) S15 <|
  oVal (fMove G15) S5 <|
  oVal (fMove (kon (.int .i64 1))) S6 <|
  (thenF (oVal (fMove G5) S16 <|
  oVal (fInt geI G16 (kon (.int .i32 128))) S17 <|
  (sCond G17 (oVal (fMove G0) S19 <|
  oCall 168 (fArgs [G19]) S20 <|
  oVal (fMove G20) S18 <|
  oVal (fExt 0 G18) S21 <|
  oVal (fExt 1 G18) S22 <|
  oVal (fMove G21) S5 <|
  oVal (fMove G22) S6 <|
  oEnd)
  oEnd))
  (thenF (oVal (fMove G1) S23 <|
  oVal (fMove G5) S24 <|
  oCall 167 (fArgs [G23, G24]) S25 <|
  oVal (fNot G25) S26 <|
  (sCond G26 (sExit 0)
  oEnd))
  (oVal (fMove G0) S27 <|
  oVal (fMove G0) S28 <|
  oVal (fLenS G28) S29 <|
  oVal (fMove G6) S30 <|
  oVal (fInt subI G29 G30) S31 <|
  oVal (fSlS G27 none (some G31)) S32 <|
  oVal (fMove G32) S0 <|
  oEnd))))))))
  (oVal (fMove G0) S33 <|
  oVal (fMove G33) S4 <|
  sRet)))
def c113 : Op8 := (oVal (fMove G0) S4 <|
  oCall 169 (fArgs [G4]) S5 <|
  (thenF (oVal (fMove G1) S6 <|
  oVal (fInt ltI G6 (kon (.int .i64 0))) S7 <|
  (sCond G7 (gn yesW (opAt 0 [u, z, u, z] Tryz.f113) <|
  gn yesW (opAt 1 [u, z, u, z] Tryz.f113) <|
  oEnd)
  oEnd))
  (sDraw <| dVal cP 0 (fMove G0) S9 <|
  dVal cP 1 (fNil G9) S10 <|
  dVal cP 2 (fFA 1 G10) S11 <|
  dVal (cL G11) 3 (fLoad1 G11) S12 <|
  gd cE 4 yesW (opAt 4 [u, u, z] Tryz.f113) <|
  dVal cP 5 (fMove G0) S14 <|
  dVal cP 6 (fNil G14) S15 <|
  dVal cP 7 (fFA 1 G15) S16 <|
  dVal (cL G16) 8 (fLoad1 G16) S17 <|
  dVal cP 9 (fLenL G17) S18 <|
  dVal cP 10 (fInt subI G13 G18) S19 <|
  dVal cP 11 (fMove G1) S20 <|
  dVal cP 12 (fInt ltI G19 G20) S21 <|
  dEnd [0, 1, 3, 7, 15, 0, 32, 96, 224, 480, 1023, 0, 4095] (sCond G21 (oVal (fMove G0) S22 <|
  oVal (fMove G1) S23 <|
  oCall 170 (fArgs [G22, G23]) S24 <|
  oEnd)
  oEnd))))
def c114 : Op8 := (oVal (fMove (kon (.int .i64 0))) S4 <|
  oVal (fMove (kon .nili)) S5 <|
  (oVal (fMove G0) S6 <|
  oCall 169 (fArgs [G6]) S7 <|
  (oVal (fMove G0) S8 <|
  oVal (fMove G0) S9 <|
  oVal (fNil G9) S10 <|
  oVal (fFA 1 G10) S11 <|
  oVal (fLoad1 G11) S12 <|
  oVal (fMove G1) S13 <|
  gn yesW (opAt 6 [u, u, z] Tryz.f114) <|
  oVal (fNil G8) S15 <|
  oVal (fFA 1 G15) S16 <|
  oUpd (fSt1 G16 G14) <|
  (oVal (fMove G1) S17 <|
  oVal (fLenS G17) S18 <|
  oVal (fMove G18) S4 <|
  oVal (fMove (kon .nili)) S5 <|
  sRet))))
def c115 : Op8 := (oVal (fMove (kon (.str []))) S2 <|
  (sDraw <| dVal cP 0 (fMove G0) S3 <|
  dVal cP 1 (fNil G3) S4 <|
  dVal cP 2 (fFA 1 G4) S5 <|
  dVal (cL G5) 3 (fLoad1 G5) S6 <|
  gd cE 4 yesW (opAt 4 [u, z] Tryz.f115) <|
  dVal cP 5 (fMove G0) S8 <|
  dVal cP 6 (fNil G8) S9 <|
  dVal cP 7 (fFA 1 G9) S10 <|
  dVal (cL G10) 8 (fLoad1 G10) S11 <|
  dVal cP 9 (fLenL G11) S12 <|
  gd cE 10 yesW (opAt 10 [u, z] Tryz.f115) <|
  dVal cP 11 (fMove G13) S2 <|
  dEnd [0, 1, 3, 7, 15, 0, 32, 96, 224, 480, 1023, 2047] sRet))
def c116 : Op8 := (oVal (fMove (kon .nils)) S4 <|
  (oVal (fMove G0) S8 <|
  oVal (fMove G1) S9 <|
  oCall 171 (fArgs [G8, G9]) S10 <|
  oVal (fMove G10) S5 <|
  (thenF (oVal (fMove G5) S11 <|
  oVal (fIntE G11 (kon (.int .i64 (-1)))) S12 <|
  (sCond G12 (oVal (fMove G0) S13 <|
  oVal (fMove G13) S4 <|
  sRet)
  oEnd))
  (thenF (oVal (fMove G5) S14 <|
  oVal (fInt addI G14 (kon (.int .i64 1))) S15 <|
  oVal (fMove G15) S6 <|
  (sBlock 0 (sLoop (thenF (oVal (fMove G6) S16 <|
  oVal (fMove G0) S17 <|
  oVal (fLenL G17) S18 <|
  oVal (fInt ltI G16 G18) S19 <|
  (sCond G19 oEnd
  (sExit 0)))
  (thenF (sBlock 1 (oVal (fMove G0) S22 <|
  oVal (fMove G6) S23 <|
  oVal (fIAs 1 G22 G23) S24 <|
  oVal (fLoad1 G24) S25 <|
  oVal (fMove G25) S7 <|
  (oVal (fMove G1) S26 <|
  oVal (fMove G7) S27 <|
  gn yesW (opAt 2 [u, u, u, z, u, z, z, u, z, z, u, z] Tryz.f116) <|
  oVal (fNot G28) S29 <|
  (sCond G29 (oVal (fMove G0) S30 <|
  oVal (fMove G5) S31 <|
  oVal (fMove G7) S32 <|
  oVal (fIAs 1 G30 G31) S33 <|
  oUpd (fSt1 G33 G32) <|
  (oVal (fMove G5) S34 <|
  oVal (fInt addI G34 (kon (.int .i64 1))) S35 <|
  oVal (fMove G35) S5 <|
  oEnd))
  oEnd))))
  (oVal (fMove G6) S20 <|
  oVal (fInt addI G20 (kon (.int .i64 1))) S21 <|
  oVal (fMove G21) S6 <|
  oEnd))))))
  (oVal (fMove G0) S36 <|
  oVal (fMove G5) S37 <|
  gn yesW (opAt 2 [u, u, u, u, z] Tryz.f116) <|
  gn yesW (opAt 3 [u, u, u, u, z] Tryz.f116) <|
  (oVal (fMove G0) S39 <|
  oVal (fMove G5) S40 <|
  gn yesW (opAt 2 [u, u, u, u, u, z] Tryz.f116) <|
  oVal (fMove G41) S4 <|
  sRet))))))
def c117 : Op8 := (oVal (fMove (kon (.bool false))) S2 <|
  (oVal (fMove G0) S3 <|
  oVal (fNil G3) S4 <|
  oVal (fFA 19 G4) S5 <|
  oVal (fLoad1 G5) S6 <|
  oVal (fMove G6) S2 <|
  sRet))
def c118 : Op8 := (gn yesW (opAt 0 [z] Tryz.f118) <|
  gn yesW (opAt 1 [z] Tryz.f118) <|
  oVal (fMove (kon (.bool false))) S6 <|
  (oVal (fMove G1) S7 <|
  oVal (fMove G1) S8 <|
  oVal (fLenL G8) S9 <|
  gn yesW (opAt 3 [u, z] Tryz.f118) <|
  gn yesW (opAt 4 [u, z] Tryz.f118) <|
  gn yesW (opAt 5 [u, z] Tryz.f118) <|
  oCall 119 (fArgs [G11, G12]) S13 <|
  oVal (fMove G13) S6 <|
  sRet))
end
end Go.Ax
