import Derived.Test.YtkihlgfcjhbgmaaGreatDoorVBAA
set_option maxHeartbeats 8000000
set_option linter.unusedSimpArgs false
set_option linter.unusedVariables false
open Go Go.Proofs Go.RowKit
namespace HS
open Go.Ev
set_option maxRecDepth 1000000
namespace Fb
noncomputable section
def b235 : ABlk := w21 15 17
def b236 : ABlk := w20 2 6 7 8 12 13 16 3 14 q44
def b237 : ABlk := w9 2096640 1 10 11
def b238 : ABlk := w22 16
def F81 : Fact := ⟨[pP 0, (u2 14 3 3 q44)], [b233, b215, b5, b216, b217, b7, b76, b19, b234, b220, b220, b130, b223, b201, b201], (.tup [sT 15 256, fI0]), [], [yT 256 q43 5 1], [96], true⟩
def l81 : LF := F81 :: l78
def t81 : LT := t80.set 425 (facts l81)
def F82 : Fact := ⟨[pP 0, (u2 14 3 2 q42)], [b233, b215, b5, b216, b217, b7, b76, b19, b234, b220, b220, b130, b223, b201, b195], (.tup [sT 15 256, fI0]), [], [yT 256 q41 5 1], [96], true⟩
def l82 : LF := F82 :: l81
def t82 : LT := t81.set 425 (facts l82)
def F83 : Fact := ⟨[pP 0, (u2 14 3 1 q40)], [b233, b215, b5, b216, b217, b7, b76, b19, b234, b220, b220, b130, b223, b201, b182], (.tup [sT 15 256, fI0]), [], [yT 256 q39 5 1], [96], true⟩
def l83 : LF := F83 :: l82
def t83 : LT := t82.set 425 (facts l83)
def F84 : Fact := ⟨[pP 0], [b235, b236, b227, b73, b216, b217, b74, b76, b28, b237, b220, b220, b130, b223, b201, b238, b161, b76], (.tup [sT 18 2, fI0]), [], [cT [sT 19 4, sT 24 4] 272 1, w23 20 q44 21 q42 22 q40 23 q38, b201, b195, b182, b176, w23 25 q36 26 q34 27 q32 28 q30, b161, b155, b149, b141], [247, 109, 55, 72, 89, 106, 218, 164, 181, 198, 215], true⟩
def l84 : LF := F84 :: []
def t84 : LT := t83.set 344 (facts l84)
def F85 : Fact := ⟨[pP 0, sT 14 8, (.ptr 23 2), (.ptr 23 3), (.ptr 23 4)], [b233, b215, b5, b216, b217, b7, b76, b19, b234, b220, b220, b130, b223, b201, cT ((sT 15 2) :: (fI 3) :: (fI 3) :: (byL 32 q44 ((sT 16 2) :: (fI 3) :: (fI 2) :: (byL 32 q42 ((sT 17 2) :: (fI 3) :: (fI 1) :: (byL 32 q40 ((sT 18 2) :: (fI 3) :: fI0 :: (byL 32 q38 ((sT 19 2) :: (fI 3) :: (fI 3) :: (byL 32 q36 ((sT 20 2) :: (fI 3) :: (fI 2) :: (byL 32 q34 ((sT 21 2) :: (fI 3) :: (fI 1) :: (byL 32 q32 ((sT 22 2) :: (fI 3) :: fI0 :: (byL 32 q30 [])))))))))))))))) 113 35, b201, b195, b182, b176, b161, b155, b149, b141, cF ((fI 3) :: (fI 1) :: fI0 :: fI0 :: fI0 :: (fI 43) :: (rpL 4 fI0 [])) 174 10], (.tup []), [(23, cF ((fI 3) :: (fI 1) :: (fI 8) :: fI0 :: fI0 :: (fI 43) :: (rpL 4 fI0 [])) 174 10)], [], [], true⟩
def l85 : LF := F85 :: []
def t85 : LT := t84.set 220 (facts l85)
def F86 : Fact := ⟨[pP 0], [b235, b236, b227, b73, b216, b217, b74, b76, b28, b237, b220, b220, b130, b223, b201, b238, b161, b76], (.tup [(.agg ((fI 3) :: (fI 1) :: (fI 8) :: fI0 :: fI0 :: (fI 43) :: (rpL 4 fI0 []))), fI0]), [], [], [], true⟩
def l86 : LF := F86 :: []
def t86 : LT := t85.set 109 (facts l86)
def F87 : Fact := ⟨[pP 0], [b235, b236, b227, b73, b216, b217, b74, b76, b28, b237, b220, b220, b130, b223, b201, b238, b161, b76], (.tup [sF 18 2, fI0]), [], [cF ((.bool true) :: (rpL 4 fI0 ((fI 8) :: (.bool true) :: (rpL 4 fI0 ((fI 8) :: []))))) 293 6], [203], true⟩
def l87 : LF := F87 :: []
def t87 : LT := t86.set 106 (facts l87)
def F88 : Fact := ⟨[], [], (.bool true), [], [], [], true⟩
def l88 : LF := F88 :: []
def t88 : LT := t87.set 3 (facts l88)
def t89 : LT := t88.set 3 zxg
end
end Fb
end HS
