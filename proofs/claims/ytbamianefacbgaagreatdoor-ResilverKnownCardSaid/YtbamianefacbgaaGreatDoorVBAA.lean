import Derived.Test.YtbamianefacbgaaGreatDoorVAAF
import Derived.Test.YtbamianefacbgaaGreatDoorVAAH
import Derived.Test.YtbamianefacbgaaGreatDoorVAAI
set_option maxHeartbeats 8000000
set_option linter.unusedSimpArgs false
set_option linter.unusedVariables false
open Go Go.Ev Go.Proofs Go.RowKit
namespace HS.Rp
set_option maxRecDepth 100000
noncomputable def zvd : Code := bodyN look 71
noncomputable def f71r0 : K2 :=
  .mv (.con .nilSl) (some (sOf 8)) <|
  .done
noncomputable def f71r1 : K2 :=
  .mv (tO 0) (some (sOf 15)) <|
  .mv (tO 1) (some (sOf 16)) <|
  .mv (tO 2) (some (sOf 17)) <|
  .ls (fun xs _ => zpa look 43 true true false xs) [(tO 15), (tO 16), (tO 17)] (opN zvd 1 3) (some (sOf 18)) <|
  .done
noncomputable def f71r2 : K2 :=
  .mv (tO 1) (some (sOf 19)) <|
  .mv (tO 2) (some (sOf 20)) <|
  .p2 (binF .eql (evBin look .eql 3 (.tmp 19) (.tmp 20))) (tO 19) (tO 20) (some (sOf 21)) <|
  .done
noncomputable def f71r3 : K2 :=
  .mv (tO 0) (some (sOf 22)) <|
  .mv (tO 1) (some (sOf 23)) <|
  .mv (tO 3) (some (sOf 24)) <|
  .cl false 156 [(tO 22), (tO 23), (tO 24)] (some (sOf 25)) <|
  .mv (tO 25) (some (sOf 8)) <|
  .done
noncomputable def f71r4 : K2 :=
  .mv (tO 2) (some (sOf 26)) <|
  .mv (tO 0) (some (sOf 27)) <|
  .ln (fun xs H => fstO (zda .len look [43] xs H)) [(tO 27)] (some (sOf 28)) <|
  .p2 (binF .eql (evBin look .eql 3 (.tmp 26) (.tmp 28))) (tO 26) (tO 28) (some (sOf 29)) <|
  .done
noncomputable def f71r5 : K2 :=
  .mv (tO 0) (some (sOf 30)) <|
  .mv (tO 1) (some (sOf 31)) <|
  .ls (fun xs _ => zpa look 43 false true false xs) [(tO 30), (tO 31)] (opN zvd 5 2) (some (sOf 32)) <|
  .mv (tO 3) (some (sOf 33)) <|
  .hn false (appX 3 1 8) [(tO 32), (tO 33)] (some (sOf 34)) <|
  .mv (tO 34) (some (sOf 9)) <|
  .done
noncomputable def f71r6 : K2 :=
  .mv (tO 9) (some (sOf 35)) <|
  .ln (fun xs H => fstO (zda .len look [43] xs H)) [(tO 35)] (some (sOf 36)) <|
  .mv (tO 0) (some (sOf 37)) <|
  .ln (fun xs H => fstO (zda .len look [43] xs H)) [(tO 37)] (some (sOf 38)) <|
  .p2 (binF .lss (evBin look .lss 3 (.tmp 36) (.tmp 38))) (tO 36) (tO 38) (some (sOf 39)) <|
  .done
noncomputable def f71r7 : K2 :=
  .mv (tO 0) (some (sOf 40)) <|
  .mv (tO 9) (some (sOf 41)) <|
  .ln (fun xs H => fstO (zda .len look [43] xs H)) [(tO 41)] (some (sOf 42)) <|
  .ls (fun xs _ => zpa look 43 true false false xs) [(tO 40), (tO 42)] (opN zvd 7 3) (some (sOf 43)) <|
  .hn false (zda .clear look [43]) [(tO 43)] none <|
  .done
noncomputable def f71r8 : K2 :=
  .mv (tO 9) (some (sOf 44)) <|
  .mv (tO 44) (some (sOf 8)) <|
  .done
noncomputable def f71r9 : K2 :=
  .mv (tO 0) (some (sOf 45)) <|
  .mv (tO 1) (some (sOf 46)) <|
  .ln (fun xs _ => zpa look 43 false true false xs) [(tO 45), (tO 46)] (some (sOf 47)) <|
  .ln (fun xs H => fstO (zda .len look [43] xs H)) [(tO 47)] (some (sOf 48)) <|
  .mv (tO 3) (some (sOf 49)) <|
  .ln (fun xs H => fstO (zda .len look [43] xs H)) [(tO 49)] (some (sOf 50)) <|
  .p2 (binF .add (evBin look .add 3 (.tmp 48) (.tmp 50))) (tO 48) (tO 50) (some (sOf 51)) <|
  .mv (tO 0) (some (sOf 52)) <|
  .mv (tO 2) (some (sOf 53)) <|
  .ln (fun xs _ => zpa look 43 true false false xs) [(tO 52), (tO 53)] (some (sOf 54)) <|
  .ln (fun xs H => fstO (zda .len look [43] xs H)) [(tO 54)] (some (sOf 55)) <|
  .p2 (binF .add (evBin look .add 3 (.tmp 51) (.tmp 55))) (tO 51) (tO 55) (some (sOf 56)) <|
  .mv (tO 56) (some (sOf 10)) <|
  .done
noncomputable def f71r10 : K2 :=
  .mv (tO 10) (some (sOf 57)) <|
  .mv (tO 0) (some (sOf 58)) <|
  .ln (fun xs H => fstO (zda .cap look [43] xs H)) [(tO 58)] (some (sOf 59)) <|
  .p2 (binF .gtr (evBin look .gtr 3 (.tmp 57) (.tmp 59))) (tO 57) (tO 59) (some (sOf 60)) <|
  .done
noncomputable def f71r11 : K2 :=
  .mv (tO 0) (some (sOf 61)) <|
  .mv (tO 1) (some (sOf 62)) <|
  .ls (fun xs _ => zpa look 43 false true false xs) [(tO 61), (tO 62)] (opN zvd 11 2) (some (sOf 63)) <|
  .mv (tO 10) (some (sOf 64)) <|
  .mv (tO 1) (some (sOf 65)) <|
  .p2 (binF .sub (evBin look .sub 3 (.tmp 64) (.tmp 65))) (tO 64) (tO 65) (some (sOf 66)) <|
  .hn false (zda .append look [43, 3]) [(tO 63), (tO 66)] (some (sOf 67)) <|
  .mv (tO 67) (some (sOf 11)) <|
  .done
noncomputable def f71r12 : K2 :=
  .mv (tO 11) (some (sOf 68)) <|
  .mv (tO 1) (some (sOf 69)) <|
  .ls (fun xs _ => zpa look 43 true false false xs) [(tO 68), (tO 69)] (opN zvd 12 2) (some (sOf 70)) <|
  .mv (tO 3) (some (sOf 71)) <|
  .hn false (zda .copy look [43, 43]) [(tO 70), (tO 71)] (some (sOf 72)) <|
  .done
noncomputable def f71r13 : K2 :=
  .mv (tO 11) (some (sOf 73)) <|
  .mv (tO 1) (some (sOf 74)) <|
  .mv (tO 3) (some (sOf 75)) <|
  .ln (fun xs H => fstO (zda .len look [43] xs H)) [(tO 75)] (some (sOf 76)) <|
  .p2 (binF .add (evBin look .add 3 (.tmp 74) (.tmp 76))) (tO 74) (tO 76) (some (sOf 77)) <|
  .ln (fun xs _ => zpa look 43 true false false xs) [(tO 73), (tO 77)] (some (sOf 78)) <|
  .mv (tO 0) (some (sOf 79)) <|
  .mv (tO 2) (some (sOf 80)) <|
  .ln (fun xs _ => zpa look 43 true false false xs) [(tO 79), (tO 80)] (some (sOf 81)) <|
  .hn false (zda .copy look [43, 43]) [(tO 78), (tO 81)] (some (sOf 82)) <|
  .done
noncomputable def f71r14 : K2 :=
  .mv (tO 11) (some (sOf 83)) <|
  .mv (tO 83) (some (sOf 8)) <|
  .done
noncomputable def f71r15 : K2 :=
  .mv (tO 0) (some (sOf 84)) <|
  .mv (tO 10) (some (sOf 85)) <|
  .ls (fun xs _ => zpa look 43 false true false xs) [(tO 84), (tO 85)] (opN zvd 15 2) (some (sOf 86)) <|
  .mv (tO 86) (some (sOf 12)) <|
  .done
noncomputable def f71r16 : K2 :=
  .mv (tO 1) (some (sOf 87)) <|
  .mv (tO 3) (some (sOf 88)) <|
  .ln (fun xs H => fstO (zda .len look [43] xs H)) [(tO 88)] (some (sOf 89)) <|
  .p2 (binF .add (evBin look .add 3 (.tmp 87) (.tmp 89))) (tO 87) (tO 89) (some (sOf 90)) <|
  .mv (tO 2) (some (sOf 91)) <|
  .p2 (binF .leq (evBin look .leq 3 (.tmp 90) (.tmp 91))) (tO 90) (tO 91) (some (sOf 92)) <|
  .done
noncomputable def f71r17 : K2 :=
  .mv (tO 12) (some (sOf 93)) <|
  .mv (tO 1) (some (sOf 94)) <|
  .ls (fun xs _ => zpa look 43 true false false xs) [(tO 93), (tO 94)] (opN zvd 17 2) (some (sOf 95)) <|
  .mv (tO 3) (some (sOf 96)) <|
  .hn false (zda .copy look [43, 43]) [(tO 95), (tO 96)] (some (sOf 97)) <|
  .done
noncomputable def f71r18 : K2 :=
  .mv (tO 12) (some (sOf 98)) <|
  .mv (tO 1) (some (sOf 99)) <|
  .mv (tO 3) (some (sOf 100)) <|
  .ln (fun xs H => fstO (zda .len look [43] xs H)) [(tO 100)] (some (sOf 101)) <|
  .p2 (binF .add (evBin look .add 3 (.tmp 99) (.tmp 101))) (tO 99) (tO 101) (some (sOf 102)) <|
  .ln (fun xs _ => zpa look 43 true false false xs) [(tO 98), (tO 102)] (some (sOf 103)) <|
  .mv (tO 0) (some (sOf 104)) <|
  .mv (tO 2) (some (sOf 105)) <|
  .ln (fun xs _ => zpa look 43 true false false xs) [(tO 104), (tO 105)] (some (sOf 106)) <|
  .hn false (zda .copy look [43, 43]) [(tO 103), (tO 106)] (some (sOf 107)) <|
  .done
noncomputable def f71r19 : K2 :=
  .mv (tO 0) (some (sOf 108)) <|
  .mv (tO 10) (some (sOf 109)) <|
  .ls (fun xs _ => zpa look 43 true false false xs) [(tO 108), (tO 109)] (opN zvd 19 2) (some (sOf 110)) <|
  .hn false (zda .clear look [43]) [(tO 110)] none <|
  .done
noncomputable def f71r20 : K2 :=
  .mv (tO 12) (some (sOf 111)) <|
  .mv (tO 111) (some (sOf 8)) <|
  .done
noncomputable def f71r21 : K2 :=
  .mv (tO 12) (some (sOf 112)) <|
  .mv (tO 1) (some (sOf 113)) <|
  .mv (tO 3) (some (sOf 114)) <|
  .ln (fun xs H => fstO (zda .len look [43] xs H)) [(tO 114)] (some (sOf 115)) <|
  .p2 (binF .add (evBin look .add 3 (.tmp 113) (.tmp 115))) (tO 113) (tO 115) (some (sOf 116)) <|
  .ls (fun xs _ => zpa look 43 true false false xs) [(tO 112), (tO 116)] (opN zvd 21 5) (some (sOf 117)) <|
  .mv (tO 3) (some (sOf 118)) <|
  .cl false 157 [(tO 117), (tO 118)] (some (sOf 119)) <|
  .p1 notF (tO 119) (some (sOf 120)) <|
  .done
noncomputable def f71r22 : K2 :=
  .mv (tO 12) (some (sOf 121)) <|
  .mv (tO 1) (some (sOf 122)) <|
  .mv (tO 3) (some (sOf 123)) <|
  .ln (fun xs H => fstO (zda .len look [43] xs H)) [(tO 123)] (some (sOf 124)) <|
  .p2 (binF .add (evBin look .add 3 (.tmp 122) (.tmp 124))) (tO 122) (tO 124) (some (sOf 125)) <|
  .ln (fun xs _ => zpa look 43 true false false xs) [(tO 121), (tO 125)] (some (sOf 126)) <|
  .mv (tO 0) (some (sOf 127)) <|
  .mv (tO 2) (some (sOf 128)) <|
  .ln (fun xs _ => zpa look 43 true false false xs) [(tO 127), (tO 128)] (some (sOf 129)) <|
  .hn false (zda .copy look [43, 43]) [(tO 126), (tO 129)] (some (sOf 130)) <|
  .done
noncomputable def f71r23 : K2 :=
  .mv (tO 12) (some (sOf 131)) <|
  .mv (tO 1) (some (sOf 132)) <|
  .ls (fun xs _ => zpa look 43 true false false xs) [(tO 131), (tO 132)] (opN zvd 23 2) (some (sOf 133)) <|
  .mv (tO 3) (some (sOf 134)) <|
  .hn false (zda .copy look [43, 43]) [(tO 133), (tO 134)] (some (sOf 135)) <|
  .done
noncomputable def f71r24 : K2 :=
  .mv (tO 12) (some (sOf 136)) <|
  .mv (tO 136) (some (sOf 8)) <|
  .done
noncomputable def f71r25 : K2 :=
  .mv (tO 3) (some (sOf 137)) <|
  .ln (fun xs H => fstO (zda .len look [43] xs H)) [(tO 137)] (some (sOf 138)) <|
  .mv (tO 2) (some (sOf 139)) <|
  .mv (tO 1) (some (sOf 140)) <|
  .p2 (binF .sub (evBin look .sub 3 (.tmp 139) (.tmp 140))) (tO 139) (tO 140) (some (sOf 141)) <|
  .p2 (binF .sub (evBin look .sub 3 (.tmp 138) (.tmp 141))) (tO 138) (tO 141) (some (sOf 142)) <|
  .mv (tO 142) (some (sOf 13)) <|
  .done
noncomputable def f71r26 : K2 :=
  .mv (tO 12) (some (sOf 143)) <|
  .mv (tO 1) (some (sOf 144)) <|
  .mv (tO 2) (some (sOf 145)) <|
  .ls (fun xs _ => zpa look 43 true true false xs) [(tO 143), (tO 144), (tO 145)] (opN zvd 26 3) (some (sOf 146)) <|
  .mv (tO 3) (some (sOf 147)) <|
  .cl false 157 [(tO 146), (tO 147)] (some (sOf 148)) <|
  .p1 notF (tO 148) (some (sOf 149)) <|
  .done
noncomputable def f71r27 : K2 :=
  .mv (tO 12) (some (sOf 150)) <|
  .mv (tO 1) (some (sOf 151)) <|
  .mv (tO 2) (some (sOf 152)) <|
  .ln (fun xs _ => zpa look 43 true true false xs) [(tO 150), (tO 151), (tO 152)] (some (sOf 153)) <|
  .mv (tO 3) (some (sOf 154)) <|
  .mv (tO 13) (some (sOf 155)) <|
  .ln (fun xs _ => zpa look 43 true false false xs) [(tO 154), (tO 155)] (some (sOf 156)) <|
  .hn false (zda .copy look [43, 43]) [(tO 153), (tO 156)] (some (sOf 157)) <|
  .done
noncomputable def f71r28 : K2 :=
  .mv (tO 12) (some (sOf 158)) <|
  .mv (tO 0) (some (sOf 159)) <|
  .ln (fun xs H => fstO (zda .len look [43] xs H)) [(tO 159)] (some (sOf 160)) <|
  .ln (fun xs _ => zpa look 43 true false false xs) [(tO 158), (tO 160)] (some (sOf 161)) <|
  .mv (tO 3) (some (sOf 162)) <|
  .mv (tO 13) (some (sOf 163)) <|
  .ln (fun xs _ => zpa look 43 false true false xs) [(tO 162), (tO 163)] (some (sOf 164)) <|
  .hn false (zda .copy look [43, 43]) [(tO 161), (tO 164)] (some (sOf 165)) <|
  .done
noncomputable def f71r29 : K2 :=
  .mv (tO 12) (some (sOf 166)) <|
  .mv (tO 1) (some (sOf 167)) <|
  .ls (fun xs _ => zpa look 43 true false false xs) [(tO 166), (tO 167)] (opN zvd 29 2) (some (sOf 168)) <|
  .mv (tO 13) (some (sOf 169)) <|
  .cl false 158 [(tO 168), (tO 169)] (some (sOf 170)) <|
  .done
noncomputable def f71r30 : K2 :=
  .mv (tO 12) (some (sOf 171)) <|
  .mv (tO 171) (some (sOf 8)) <|
  .done
noncomputable def f71r31 : K2 :=
  .mv (tO 12) (some (sOf 172)) <|
  .mv (tO 0) (some (sOf 173)) <|
  .ln (fun xs H => fstO (zda .len look [43] xs H)) [(tO 173)] (some (sOf 174)) <|
  .ls (fun xs _ => zpa look 43 true false false xs) [(tO 172), (tO 174)] (opN zvd 31 3) (some (sOf 175)) <|
  .mv (tO 3) (some (sOf 176)) <|
  .cl false 157 [(tO 175), (tO 176)] (some (sOf 177)) <|
  .p1 notF (tO 177) (some (sOf 178)) <|
  .done
noncomputable def f71r32 : K2 :=
  .mv (tO 12) (some (sOf 179)) <|
  .mv (tO 0) (some (sOf 180)) <|
  .ln (fun xs H => fstO (zda .len look [43] xs H)) [(tO 180)] (some (sOf 181)) <|
  .ln (fun xs _ => zpa look 43 true false false xs) [(tO 179), (tO 181)] (some (sOf 182)) <|
  .mv (tO 3) (some (sOf 183)) <|
  .mv (tO 13) (some (sOf 184)) <|
  .ln (fun xs _ => zpa look 43 false true false xs) [(tO 183), (tO 184)] (some (sOf 185)) <|
  .hn false (zda .copy look [43, 43]) [(tO 182), (tO 185)] (some (sOf 186)) <|
  .done
noncomputable def f71r33 : K2 :=
  .mv (tO 12) (some (sOf 187)) <|
  .mv (tO 1) (some (sOf 188)) <|
  .mv (tO 2) (some (sOf 189)) <|
  .ln (fun xs _ => zpa look 43 true true false xs) [(tO 187), (tO 188), (tO 189)] (some (sOf 190)) <|
  .mv (tO 3) (some (sOf 191)) <|
  .mv (tO 13) (some (sOf 192)) <|
  .ln (fun xs _ => zpa look 43 true false false xs) [(tO 191), (tO 192)] (some (sOf 193)) <|
  .hn false (zda .copy look [43, 43]) [(tO 190), (tO 193)] (some (sOf 194)) <|
  .done
noncomputable def f71r34 : K2 :=
  .mv (tO 12) (some (sOf 195)) <|
  .mv (tO 1) (some (sOf 196)) <|
  .ls (fun xs _ => zpa look 43 true false false xs) [(tO 195), (tO 196)] (opN zvd 34 2) (some (sOf 197)) <|
  .mv (tO 13) (some (sOf 198)) <|
  .cl false 158 [(tO 197), (tO 198)] (some (sOf 199)) <|
  .done
noncomputable def f71r35 : K2 :=
  .mv (tO 12) (some (sOf 200)) <|
  .mv (tO 200) (some (sOf 8)) <|
  .done
noncomputable def f71r36 : K2 :=
  .mv (tO 3) (some (sOf 201)) <|
  .mv (tO 0) (some (sOf 202)) <|
  .mv (tO 2) (some (sOf 203)) <|
  .ls (fun xs _ => zpa look 43 true false false xs) [(tO 202), (tO 203)] (opN zvd 36 3) (some (sOf 204)) <|
  .cl false 159 [(tO 201), (tO 204)] (some (sOf 205)) <|
  .mv (tO 205) (some (sOf 14)) <|
  .done
noncomputable def f71r37 : K2 :=
  .mv (tO 12) (some (sOf 206)) <|
  .mv (tO 1) (some (sOf 207)) <|
  .ls (fun xs _ => zpa look 43 true false false xs) [(tO 206), (tO 207)] (opN zvd 37 2) (some (sOf 208)) <|
  .mv (tO 3) (some (sOf 209)) <|
  .hn false (zda .copy look [43, 43]) [(tO 208), (tO 209)] (some (sOf 210)) <|
  .done
noncomputable def f71r38 : K2 :=
  .mv (tO 12) (some (sOf 211)) <|
  .mv (tO 1) (some (sOf 212)) <|
  .mv (tO 3) (some (sOf 213)) <|
  .ln (fun xs H => fstO (zda .len look [43] xs H)) [(tO 213)] (some (sOf 214)) <|
  .p2 (binF .add (evBin look .add 3 (.tmp 212) (.tmp 214))) (tO 212) (tO 214) (some (sOf 215)) <|
  .ln (fun xs _ => zpa look 43 true false false xs) [(tO 211), (tO 215)] (some (sOf 216)) <|
  .mv (tO 12) (some (sOf 217)) <|
  .mv (tO 1) (some (sOf 218)) <|
  .mv (tO 14) (some (sOf 219)) <|
  .p2 (binF .add (evBin look .add 3 (.tmp 218) (.tmp 219))) (tO 218) (tO 219) (some (sOf 220)) <|
  .ln (fun xs _ => zpa look 43 true false false xs) [(tO 217), (tO 220)] (some (sOf 221)) <|
  .hn false (zda .copy look [43, 43]) [(tO 216), (tO 221)] (some (sOf 222)) <|
  .done
noncomputable def f71r39 : K2 :=
  .mv (tO 12) (some (sOf 223)) <|
  .mv (tO 223) (some (sOf 8)) <|
  .done
noncomputable def f71c : C2 := (.seq (.reg f71r0)
  (.seq (.reg f71r1)
  (.seq (.seq (.reg f71r2)
  (.cond (tO 21) (.seq (.reg f71r3)
  .ret) .skip))
  (.seq (.seq (.reg f71r4)
  (.cond (tO 29) (.seq (.reg f71r5)
  (.seq (.seq (.reg f71r6)
  (.cond (tO 39) (.reg f71r7) .skip))
  (.seq (.reg f71r8)
  .ret))) .skip))
  (.seq (.reg f71r9)
  (.seq (.seq (.reg f71r10)
  (.cond (tO 60) (.seq (.reg f71r11)
  (.seq (.reg f71r12)
  (.seq (.reg f71r13)
  (.seq (.reg f71r14)
  .ret)))) .skip))
  (.seq (.reg f71r15)
  (.seq (.seq (.reg f71r16)
  (.cond (tO 92) (.seq (.reg f71r17)
  (.seq (.reg f71r18)
  (.seq (.reg f71r19)
  (.seq (.reg f71r20)
  .ret)))) .skip))
  (.seq (.seq (.reg f71r21)
  (.cond (tO 120) (.seq (.reg f71r22)
  (.seq (.reg f71r23)
  (.seq (.reg f71r24)
  .ret))) .skip))
  (.seq (.reg f71r25)
  (.seq (.seq (.reg f71r26)
  (.cond (tO 149) (.seq (.reg f71r27)
  (.seq (.reg f71r28)
  (.seq (.reg f71r29)
  (.seq (.reg f71r30)
  .ret)))) .skip))
  (.seq (.seq (.reg f71r31)
  (.cond (tO 178) (.seq (.reg f71r32)
  (.seq (.reg f71r33)
  (.seq (.reg f71r34)
  (.seq (.reg f71r35)
  .ret)))) .skip))
  (.seq (.reg f71r36)
  (.seq (.reg f71r37)
  (.seq (.reg f71r38)
  (.seq (.reg f71r39)
  .ret))))))))))))))))
theorem f71_eq : fnF look 71 = some ⟨224, f71c, [.tmp 8]⟩ := by kernel_rfl
end HS.Rp
open Go Go.Proofs Go.RowKit
namespace HS.Rp
open Go.Ev
open Ra Rb Rc Rd Re Rf Rg Rh Ri Rj Rk Rl Rm Rn Ro Rp Rq Rr
set_option maxRecDepth 100000
theorem uI : look.under 43 = some (.slice 3) := by kernel_rfl
theorem zI : look.size 3 = some 1 := by kernel_rfl
theorem s1 (i x : Nat) : zpa look 43 true true false [.sl i 0 2 (x + 2) false, .int .i64 (0 : Nat), .int .i64 (1 : Nat)] = some (.sl i 0 1 (x + 2) false) := by kernel_rfl
theorem s2 (i x : Nat) : zpa look 43 false true false [.sl i 0 2 (x + 2) false, .int .i64 (0 : Nat)] = some (.sl i 0 0 (x + 2) false) := by kernel_rfl
theorem s3 (i x : Nat) : zpa look 43 true false false [.sl i 0 2 (x + 2) false, .int .i64 (1 : Nat)] = some (.sl i 1 1 (x + 1) false) := by kernel_rfl
theorem s4 (i x : Nat) : zpa look 43 false true false [.sl i 0 2 (x + 2) false, .int .i64 (2 : Nat)] = some (.sl i 0 2 (x + 2) false) := by kernel_rfl
theorem s5 (i x : Nat) : zpa look 43 true false false [.sl i 0 2 (x + 2) false, .int .i64 (0 : Nat)] = some (.sl i 0 2 (x + 2) false) := by kernel_rfl
theorem s6 (i x : Nat) : zpa look 43 true false false [.sl i 0 2 (x + 2) false, .int .i64 (2 : Nat)] = some (.sl i (offOf (x + 2) 2 0 1) 0 x false) := by kernel_rfl
theorem ln (i o n c : Nat) (op : Bool) (H : AH) : fstO (zda .len look [43] [.sl i o n c op] H) = some (.int .i64 (n : Nat)) := by kernel_rfl
theorem cp (i x : Nat) (H : AH) : fstO (zda .cap look [43] [.sl i 0 2 (x + 2) false] H) = some (.int .i64 ((x + 2 : Nat) : Int)) := by kernel_rfl
theorem cl (i o x : Nat) (H : AH) : zda .clear look [43] [.sl i o 0 x false] H = some (.undef, H) := by kernel_rfl
set_option maxHeartbeats 4000000 in
theorem zzy (H : AH) (i j p c2 x : Nat) (op2 : Bool) (x0 x1 : AV) (m : Int) (rs : List AV) (cv : Ce) (hr : Row H i false false 3 1 ([x0, x1] ++ rs)) (h1 : x1.oneCell = true) (hv : H.subC j p 1 = some cv) (hcv : cv.l = [.int .i64 m]) (hlo : H.lo ≤ i) (hh : H.hide = []) :
    FnE look 71 [.sl i 0 2 (x + 2) false, .int .i64 (0 : Nat), .int .i64 (1 : Nat), .sl j p 1 c2 op2] H fun r H' => r = .sl i 0 2 (x + 2) false ∧ Row H' i false false 3 1 ([.int .i64 m, x1] ++ rs) ∧ HP (· ≠ i) H H' ∧ H'.next = H.next := by
  have one1 : cv.one = true := by
    cases cv with
    | lst l => simp only [Ce.l] at hcv; subst hcv; rfl
    | byt n N => rfl
  obtain ⟨H1, hc1, hr1, hp1, hn1⟩ := zmu (L := look) (ts := []) (t := 43) (t' := 43) (e := 3) (H := H) (i := i) (o := 0) (n := 2) (c := x + 2) (op := false) (x := .sl j p 1 c2 op2) (m := 1) (new := cv) uI zI rfl hv hr hh hlo one1 (by rw [hcv]; simp)
  rw [hcv] at hr1
  have hr1 : Row H1 i false false 3 1 ([.int .i64 m, x1] ++ rs) := hr1
  have hh1 : H1.hide = [] := hp1.hide.trans hh
  obtain ⟨nw, hs, hnl⟩ := znu (z := 1) (i := i) (o := 1) (n := 1) (m := 1) (c := x + 1) (op := false) hr1 (by simp)
  have hnl : nw.l = [x1] := hnl
  have one2 : nw.one = true := by
    cases nw with
    | lst l => simp only [Ce.l] at hnl; subst hnl; show (_ && true) = true; rw [h1]; rfl
    | byt n N => rfl
  obtain ⟨H2, hc2, hr2, hp2, hn2⟩ := zmu (L := look) (ts := []) (t := 43) (t' := 43) (e := 3) (H := H1) (i := i) (o := 1) (n := 1) (c := x + 1) (op := false) (x := .sl i 1 1 (x + 1) false) (m := 1) (new := nw) uI zI rfl hs hr1 hh1 (by rw [hp1.lo]; exact hlo) one2 (by rw [hnl]; simp)
  rw [hnl] at hr2
  have hr2 : Row H2 i false false 3 1 ([.int .i64 m, x1] ++ rs) := hr2
  have hpf : HP (· ≠ i) H H2 := hp1.trans hp2 fun _ _ h => ⟨h, h⟩
  refine zfc f71_eq noext rfl ?_
  unfold f71c
  have q1 := s1 i x
  have q2 := s2 i x
  have q3 := s3 i x
  have q4 := s4 i x
  have q5 := s5 i x
  have q6 := s6 i x
  have qc := cp i x
  have ql := ln
  (repeat' (first | refine Z ?_ | refine Zq ?_ | refine zaa (by decide) ?_ | ((first | refine' Y ?_ ?_ | refine' X ?_ ?_ ?_); rotate_left; (· (first | (simp (disch := omega) only [evl, Nat.reduceEqDiff, Nat.reduceAdd, reduceIte, reduceCtorEq, q1, q2, q3, q4, q5, q6, qc, ql] <;> exact rfl) | exact rfl)); all_goals try (refine fun (hb : _ = _) => ?_; try simp only [Zu, ne_eq, reduceCtorEq] at hb)) | (apply zca; · simp [evl])))
  refine rk_hn (by (simp (disch := omega) only [evl, Nat.reduceEqDiff, Nat.reduceAdd, reduceIte, reduceCtorEq]); exact hc1) ?_
  simp only [zva]
  (repeat' (first | refine Z ?_ | refine Zq ?_ | refine zaa (by decide) ?_ | ((first | refine' Y ?_ ?_ | refine' X ?_ ?_ ?_); rotate_left; (· (first | (simp (disch := omega) only [evl, Nat.reduceEqDiff, Nat.reduceAdd, reduceIte, reduceCtorEq, q1, q2, q3, q4, q5, q6, qc, ql] <;> exact rfl) | exact rfl)); all_goals try (refine fun (hb : _ = _) => ?_; try simp only [Zu, ne_eq, reduceCtorEq] at hb)) | (apply zca; · simp [evl])))
  refine rk_hn (by (simp (disch := omega) only [evl, Nat.reduceEqDiff, Nat.reduceAdd, reduceIte, reduceCtorEq]); exact hc2) ?_
  simp only [zva]
  (repeat' (first | refine Z ?_ | refine Zq ?_ | refine zaa (by decide) ?_ | ((first | refine' Y ?_ ?_ | refine' X ?_ ?_ ?_); rotate_left; (· (first | (simp (disch := omega) only [evl, Nat.reduceEqDiff, Nat.reduceAdd, reduceIte, reduceCtorEq, q1, q2, q3, q4, q5, q6, qc, ql] <;> exact rfl) | exact rfl)); all_goals try (refine fun (hb : _ = _) => ?_; try simp only [Zu, ne_eq, reduceCtorEq] at hb)) | (apply zca; · simp [evl])))
  refine rk_hn (v := .undef) (H' := H2) (by (simp (disch := omega) only [evl, Nat.reduceEqDiff, Nat.reduceAdd, reduceIte, reduceCtorEq]); exact cl _ _ _ _) ?_
  simp only [zva]
  (repeat' (first | refine Z ?_ | refine Zq ?_ | refine zaa (by decide) ?_ | ((first | refine' Y ?_ ?_ | refine' X ?_ ?_ ?_); rotate_left; (· (first | (simp (disch := omega) only [evl, Nat.reduceEqDiff, Nat.reduceAdd, reduceIte, reduceCtorEq] <;> exact rfl) | exact rfl)); all_goals try (refine fun (hb : _ = _) => ?_; try simp only [Zu, ne_eq, reduceCtorEq] at hb)) | (apply zca; · simp [evl])))
  refine zqa ?_; refine zsc (zwc _ _) ⟨?_, hr2, hpf, hn2.trans hn1⟩
  (simp (disch := omega) only [evl, Nat.reduceEqDiff, Nat.reduceAdd, reduceIte, reduceCtorEq])
  rfl
end HS.Rp
open Go Go.Proofs Go.RowKit
namespace HS.Rp
open Go.Ev
open Ra Rb Rc Rd Re Rf Rg Rh Ri Rj Rk Rl Rm Rn Ro Rp Rq Rr
set_option maxRecDepth 100000
noncomputable def xReplace : XFn := fun args H => match args with
  | [.sl i 0 2 2 true, .int .i64 (.ofNat 0), .int .i64 (.ofNat 1), .sl j p 1 c2 op2] => (match H.hide with
    | [] => (match Nat.ble H.lo i, Nat.beq j i, H.get i, H.subC j p 1 with
      | true, false, some (.cells (.lst [x0, x1]) e z true false), some cv => (match Nat.beq e 3 && Nat.beq z 1 && x1.oneCell, cv.l with
        | true, [.int .i64 m] => some (.sl i 0 2 2 true, H.put i (.cells (.lst [.int .i64 m, x1]) e z true false))
        | _, _ => none)
      | _, _, _, _ => none)
    | _ :: _ => none)
  | _ => none
set_option maxHeartbeats 4000000 in
theorem xReplace_ok (B : Nat) : XOk Tryz.prog B 71 xReplace := by
  intro args H p hp E w us hw hS hus
  unfold xReplace at hp
  split at hp
  · next i j p' c2 op2 =>
    split at hp
    · next hh =>
      split at hp
      · next x0 x1 e z cv hlo hji hg hsub =>
        split at hp
        · next m hez hcv =>
          cases hp
          simp only [Bool.and_eq_true] at hez
          obtain ⟨⟨he, hz⟩, h1⟩ := hez
          have he := Nat.eq_of_beq_eq_true he
          have hz := Nat.eq_of_beq_eq_true hz
          subst he hz
          have hlo := Nat.le_of_ble_eq_true hlo
          have hij : j ≠ i := fun h => by subst h; rw [Nat.beq_refl] at hji; cases hji
          have hi := hw.get_lt hg
          have hvis := (AH.get_some.1 hg).1
          obtain ⟨rs, hrl, hrE, hS1, hP1, hw1⟩ := zss hw hS hg hlo
          have hgB : ∀ k, (H.put i (.cells (.lst ([x0, x1] ++ rs)) 3 1 false false)).get k = if k = i then some (.cells (.lst ([x0, x1] ++ rs)) 3 1 false false) else H.get k := fun k => AH.put_get hvis _ k
          have hnB : (H.put i (.cells (.lst ([x0, x1] ++ rs)) 3 1 false false)).next = H.next := rfl
          have hlB : (H.put i (.cells (.lst ([x0, x1] ++ rs)) 3 1 false false)).lo = H.lo := rfl
          have hhB : (H.put i (.cells (.lst ([x0, x1] ++ rs)) 3 1 false false)).hide = [] := hh
          have hzB : (H.put i (.cells (.lst ([x0, x1] ++ rs)) 3 1 false false)).fz = H.fz := rfl
          have hpB : HP (· ≠ i) H (H.put i (.cells (.lst ([x0, x1] ++ rs)) 3 1 false false)) := HP.put _ _ _
          change St B E (H.put i (.cells (.lst ([x0, x1] ++ rs)) 3 1 false false)) w at hS1
          change Post E H w E (H.put i (.cells (.lst ([x0, x1] ++ rs)) 3 1 false false)) w at hP1
          change (H.put i (.cells (.lst ([x0, x1] ++ rs)) 3 1 false false)).Wf at hw1
          generalize H.put i (.cells (.lst ([x0, x1] ++ rs)) 3 1 false false) = HB at *
          have hr : Row HB i false false 3 1 ([x0, x1] ++ rs) := ⟨_, (hgB i).trans (if_pos rfl), rfl⟩
          have hsB : HB.subC j p' 1 = some cv := by
            unfold AH.subC at hsub ⊢
            rw [hgB j, if_neg hij]; exact hsub
          have hus' : StL E HB.next [.sl i 0 2 (rs.length + 2) false, .int .i64 (0 : Nat), .int .i64 (1 : Nat), .sl j p' 1 c2 op2] us := fun E' hE => by
            rw [hus E' (by rw [hnB] at hE; exact hE)]
            have hei : E' i = E i := hE i (by rw [hnB]; exact hi)
            show [Value.slice (some ⟨(E' i).blk, (E' i).off + 0, none⟩) 2 (2 + (E' i).extra), _, _, _] = [Value.slice (some ⟨(E' i).blk, (E' i).off + 0, none⟩) 2 (rs.length + 2 + 0), _, _, _]
            rw [hrl, hei, Nat.mul_one, Nat.add_comm 2]
            rfl
          refine (zsk look_ok (zia B) (zzy HB i j p' c2 rs.length op2 x0 x1 m rs cv hr h1 hsB hcv (by rw [hlB]; exact hlo) hhB) E w us hw1 hS1 hus').ok ?_
          rintro v' H' u w1 ⟨rfl, ⟨cc, hg', hcc⟩, hp', hn'⟩ ⟨E1, hv, hS2, hP2, hw2⟩
          have hei : E1 i = E i := hP2.ext i (by rw [hnB]; exact hi)
          obtain ⟨hS3, hP3, hw3⟩ := re_open hw2 hS2 (nv := .lst [.int .i64 m, x1]) (rs := rs) hg' (by rw [hp'.lo, hlB]; exact hlo) hcc (by rw [hei]; exact hrl) (fun E' => (hrE E').trans (hrE E1).symm)
          have hvis' : H'.vis i = true := by rw [hp'.vis, hpB.vis]; exact hvis
          have htree : ∀ k, (H.put i (.cells (.lst [.int .i64 m, x1]) 3 1 true false)).tree.get k = (H'.put i (.cells (.lst [.int .i64 m, x1]) 3 1 true false)).tree.get k := fun k => by
            show (H.tree.set i _).get k = (H'.tree.set i _).get k
            rw [Tr.get_set, Tr.get_set]
            by_cases hk : k = i
            · rw [if_pos hk, if_pos hk]
            · rw [if_neg hk, if_neg hk]
              rcases Nat.lt_or_ge k H.next with hkn | hkn
              · rw [hp'.old k (by rw [hnB]; exact hkn) hk, hpB.old k hkn hk]
              · have e1 : H.tree.get k = none := by
                  cases hx : H.tree.get k with
                  | none => rfl
                  | some b => exact absurd (hw.tree k b hx) (by omega)
                have e2 : H'.tree.get k = none := by
                  cases hx : H'.tree.get k with
                  | none => rfl
                  | some b => exact absurd (hw2.tree k b hx) (by omega)
                rw [e1, e2]
          have hne : (H.put i (.cells (.lst [.int .i64 m, x1]) 3 1 true false)).next = (H'.put i (.cells (.lst [.int .i64 m, x1]) 3 1 true false)).next := by
            show H.next = H'.next
            omega
          have hle : (H.put i (.cells (.lst [.int .i64 m, x1]) 3 1 true false)).lo = (H'.put i (.cells (.lst [.int .i64 m, x1]) 3 1 true false)).lo := by
            show H.lo = H'.lo
            rw [hp'.lo, hlB]
          have hhe : (H.put i (.cells (.lst [.int .i64 m, x1]) 3 1 true false)).hide = (H'.put i (.cells (.lst [.int .i64 m, x1]) 3 1 true false)).hide := by
            show H.hide = H'.hide
            rw [hp'.hide, hhB, hh]
          have hze : (H.put i (.cells (.lst [.int .i64 m, x1]) 3 1 true false)).fz = (H'.put i (.cells (.lst [.int .i64 m, x1]) 3 1 true false)).fz := by
            show H.fz = H'.fz
            rw [hp'.fz, hzB]
          have hget : ∀ k, (H.put i (.cells (.lst [.int .i64 m, x1]) 3 1 true false)).get k = (H'.put i (.cells (.lst [.int .i64 m, x1]) 3 1 true false)).get k := fun k => by
            unfold AH.get AH.vis; rw [hhe, htree]
          refine ⟨E1, fun E' hE => ?_, hS3.ext hne hget, ((hP1.trans hP2).trans hP3).ext2 hne hle hhe hze htree, AH.put_wf hw hi _⟩
          have hE' : Agree H'.next E1 E' := fun k hk => hE k (by rw [hne]; exact hk)
          rw [hv E' hE']
          have hei' : E' i = E1 i := hE' i (by omega)
          show Value.slice (some ⟨(E' i).blk, (E' i).off + 0, none⟩) 2 (rs.length + 2 + 0) = Value.slice (some ⟨(E' i).blk, (E' i).off + 0, none⟩) 2 (2 + (E' i).extra)
          rw [hrl, hei', hei, Nat.mul_one, Nat.add_comm 2]
        · cases hp
      · cases hp
    · cases hp
  · cases hp
end HS.Rp
open Go Go.Proofs Go.RowKit
namespace HS
open Go.Ev
set_option maxRecDepth 1000000
noncomputable def zl : List (Nat × Nat) := [(24, 32), (25, 32), (234, 256), (235, 256), (488, 2), (489, 2), (490, 32)]
theorem hm0 : Tryz.prog.follows .mixedOrders = true := by kernel_rfl
theorem hf0 : Tryz.prog.funcs.toList.all fitFn = true := by kernel_rfl
theorem hz0 : zl.all (zFits Tryz.prog.types.toList) = true := by kernel_rfl
noncomputable def dl : List Nat := [63, 68, 70, 133, 136, 179, 185, 263, 323]
noncomputable def lk (tab : List (Nat × XFn)) : Lk := lkD Tryz.prog (Tr.ofList Tryz.prog.funcs.toList) (Tr.ofList Tryz.prog.types.toList) tab zl dl
theorem lk_ok (tab : List (Nat × XFn)) : LOk (lk tab) Tryz.prog := lkD_ok hm0 hf0 hz0
theorem zlb {P : Program} {B : Nat} {f : Nat} {g : XFn} {l : List (Nat × XFn)} (h : XOk P B f g) (hl : ∀ p ∈ l, XOk P B p.1 p.2) : ∀ p ∈ (f, g) :: l, XOk P B p.1 p.2 := fun p hp => by
  rcases List.mem_cons.1 hp with rfl | hp
  · exact h
  · exact hl p hp
theorem zjk {P : Program} {B f : Nat} {F : Fact} {l : List Fact} (h : XOk P B f F.fn) (hl : ∀ F ∈ l, XOk P B f F.fn) : ∀ G ∈ F :: l, XOk P B f G.fn := fun G hG => by
  rcases List.mem_cons.1 hG with rfl | hG
  · exact h
  · exact hl G hG
noncomputable def fI (n : Nat) : AV := .int .i64 (.ofNat n)
noncomputable def fI0 : AV := .int .i64 (.ofNat 0)
noncomputable def fB (n : Nat) : AV := .int .u8 (.ofNat n)
noncomputable def fB0 : AV := .int .u8 (.ofNat 0)
noncomputable def fU (n : Nat) : AV := .int .u64 (.ofNat n)
noncomputable def fU0 : AV := .int .u64 (.ofNat 0)
noncomputable def byL (n N : Nat) (r : List AV) : List AV := nrecF (α := Nat) (β := List AV) (fun _ => r) (fun _ ih N => zgh (fun M => AV.int .u8 (.ofNat (Nat.mod N 256)) :: ih M) (Nat.div N 256)) n N
noncomputable def rpL (n : Nat) (a : AV) (r : List AV) : List AV := nrecF (α := Unit) (β := List AV) (fun _ => r) (fun _ ih u => a :: ih u) n ()
theorem s335 (B : Nat) : XOk Tryz.prog B 335 (Hs.xTurned) := Hs.xTurned_ok B
theorem s282 (B : Nat) : XOk Tryz.prog B 282 (zvu) := zos B
theorem s226 (B : Nat) : XOk Tryz.prog B 226 (zrl) := zbp B
theorem s383 (B : Nat) : XOk Tryz.prog B 383 (Tm.xTrim) := Tm.xTrim_ok B
theorem s71 (B : Nat) : XOk Tryz.prog B 71 (Rp.xReplace) := Rp.xReplace_ok B
theorem b245 : Bare Tryz.prog 245 Extern.ReflectliteType.typeOf := ⟨Tryz.f245, Tryz.func245, by kernel_rfl, by kernel_rfl, by kernel_rfl, by kernel_rfl⟩
theorem g245 : Tryz.prog.globals.size = 3 := by kernel_rfl
theorem c245 : Tryz.prog.cutTypes.find? (·.1 == "internal/reflectlite.rtype") = some ("internal/reflectlite.rtype", 387) := by kernel_rfl
theorem s245 (B : Nat) : XOk Tryz.prog B 245 (ztl 3 387) := by
  have h := @zep Tryz.prog B 245 3 387 b245 g245 ⟨_, c245⟩
  exact h
theorem b451 : Bare Tryz.prog 451 eComp := ⟨Tryz.f451, Tryz.func451, by kernel_rfl, by kernel_rfl, by kernel_rfl, by kernel_rfl⟩
theorem zaz (w : World) : (eComp #[.agg #[.pointer (some ⟨3, 49, none⟩)]]).run Tryz.prog w = .ok (.bool true) w := by kernel_rfl
theorem zyq (w : World) : (eComp #[.agg #[.pointer (some ⟨3, 241, none⟩)]]).run Tryz.prog w = .ok (.bool true) w := by kernel_rfl
theorem s451 (B : Nat) : XOk Tryz.prog B 451 (zzd 3 [(49, true), (241, true)]) := by
  have h := @zlh Tryz.prog B 451 3 [(49, true), (241, true)] eComp b451 (@zbn Tryz.prog eComp 3 49 true _ zaz (@zbn Tryz.prog eComp 3 241 true _ zyq (zgf1)))
  exact h
theorem b377 : Bare Tryz.prog 377 Extern.BytealgIndexByte.indexByte := ⟨Tryz.f377, Tryz.func377, by kernel_rfl, by kernel_rfl, by kernel_rfl, by kernel_rfl⟩
theorem s377 (B : Nat) : XOk Tryz.prog B 377 (zbf) := by
  have h := @zqi Tryz.prog B 377 b377
  exact h
theorem b346 : Bare Tryz.prog 346 Extern.BytealgCompare.compare := ⟨Tryz.f346, Tryz.func346, by kernel_rfl, by kernel_rfl, by kernel_rfl, by kernel_rfl⟩
theorem s346 (B : Nat) : XOk Tryz.prog B 346 (zgi) := by
  have h := @zol Tryz.prog B 346 b346
  exact h
noncomputable def tab0 : List (Nat × XFn) := [(335, Hs.xTurned), (282, zvu), (226, zrl), (383, Tm.xTrim), (71, Rp.xReplace), (245, ztl 3 387), (451, zzd 3 [(49, true), (241, true)]), (377, zbf), (346, zgi)]
theorem zkk (B : Nat) : ∀ p ∈ tab0, XOk Tryz.prog B p.1 p.2 := zlb (s335 B) (zlb (s282 B) (zlb (s226 B) (zlb (s383 B) (zlb (s71 B) (zlb (s245 B) (zlb (s451 B) (zlb (s377 B) (zlb (s346 B) (fun _ h => by cases h)))))))))
noncomputable def rgL (n a : Nat) (r : List AV) : List AV := nrecF (α := Nat) (β := List AV) (fun _ => r) (fun _ ih a => zgh (fun b => fI b :: ih (Nat.add b 1)) a) n a
abbrev LT := Tr XFn
noncomputable def dT : Tr Unit := uTr dl
noncomputable def lkt (t : LT) : Lk := lkT Tryz.prog (Tr.ofList Tryz.prog.funcs.toList) (Tr.ofList Tryz.prog.types.toList) t zl dT
theorem zbz (t : LT) : LOk (lkt t) Tryz.prog := lkT_ok hm0 hf0 hz0
noncomputable def T0 : LT := trOf tab0
abbrev LF := List Fact
noncomputable def cT (l : List AV) (e z : Nat) : ABlk := .cells (.lst l) e z true false
noncomputable def cF (l : List AV) (e z : Nat) : ABlk := .cells (.lst l) e z false false
noncomputable def yT (n N e z : Nat) : ABlk := .cells (.byt n N) e z true false
noncomputable def yF (n N e z : Nat) : ABlk := .cells (.byt n N) e z false false
noncomputable def sT (i n : Nat) : AV := .sl i 0 n n true
noncomputable def sF (i n : Nat) : AV := .sl i 0 n n false
noncomputable def pP (i : Nat) : AV := .ptr i 0
noncomputable def chk (t : LT) (f : Nat) (F : Fact) : Bool := F.ok && F.res (evF (lkt t) 1000000 (.call f F.args (hA F.pre)))
abbrev TO (t : LT) : Prop := TOk Tryz.prog t
theorem T0_ok : TO T0 := TOk.of _ zkk
def LO (f : Nat) (l : LF) : Prop := ∀ B, ∀ G ∈ l, XOk Tryz.prog B f G.fn
theorem LO0 (f : Nat) : LO f [] := fun _ _ h => by cases h
theorem stp {t : LT} {l : LF} {f : Nat} {F : Fact} (ht : TO t) (hc : chk t f F = true) (hl : LO f l) : LO f (F :: l) ∧ TO (t.set f (facts (F :: l))) := by
  unfold chk at hc
  rw [Bool.and_eq_true] at hc
  have hl' : LO f (F :: l) := fun B => zjk (zwe1 (zbz _) (zgj ht) hc.1 (by rw [← zlo]; exact hc.2) B) (hl B)
  exact ⟨hl', ht.set fun B => zqq _ (hl' B)⟩
theorem zst {t : LT} {f : Nat} (ht : TO t) (hr : saysT (evF (lkt t) 1000000 (.call f [] H0)) = true) : (∀ B, XOk Tryz.prog B f zed) ∧ TO (t.set f zed) :=
  have h : ∀ B, XOk Tryz.prog B f zed := fun B => zbs (zbz _) (zgj ht) (by rw [← zlo]; exact hr)
  ⟨h, ht.set h⟩
end HS
