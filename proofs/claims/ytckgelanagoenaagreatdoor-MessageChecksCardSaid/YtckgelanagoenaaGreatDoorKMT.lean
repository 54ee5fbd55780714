/- What functions and loops compute: trees of nodes, found by a driver. -/
import Derived.Test.YtckgelanagoenaaGreatDoorAbsJ
import Derived.Test.YtckgelanagoenaaGreatDoorAbsTold
import Derived.Test.YtckgelanagoenaaGreatDoorAbsTold3
namespace Go.Proofs.YtckgelanagoenaaGreatDoor
open Go Go.Abs
set_option maxRecDepth 100000
set_option linter.unusedVariables false
set_option linter.unusedSimpArgs false
namespace M
noncomputable section
def d31 : PDef := .fn [] [.sc]<|.step (.ci .u64 1)<|.step (.ci .i64 0)<|.step (.ci .i64 1)<|.step (.cs [99, 104, 111, 115, 101, 110])<|.step (.mk [0, 1, 2, 3])<|.step (.ci .u64 2) <|
 .step (.ci .i64 3)<|.step (.cs [110, 97, 109, 101])<|.step (.mk [5, 6, 2, 7])<|.step (.ci .u64 3)<|.step (.ci .i64 2)<|.step (.cs [114, 101, 103, 105, 111, 110])<|.step (.mk [9, 6, 10, 11]) <|
 .step (.ml [4, 8, 12])<|.ret [13]
def d0 : PDef := .fn [.ag 24, .sc, .sc] [.sc]<|.step (.cell 0 0)<|.step (.cell 1 0)<|.step (.cell 2 0)<|.step (.cell 3 0)<|.step (.cell 4 0)<|.step (.cell 5 0)<|.step (.cell 6 0) <|
 .step (.cell 7 0)<|.step (.cell 8 0)<|.step (.cell 9 0)<|.step (.cell 10 0)<|.step (.cell 11 0)<|.step (.cell 12 0)<|.step (.cell 13 0)<|.step (.cell 14 0)<|.step (.cell 15 0)<|.step (.cell 16 0) <|
 .step (.cell 17 0)<|.step (.cell 18 0)<|.step (.cell 19 0)<|.step (.cell 20 0)<|.step (.cell 21 0)<|.step (.cell 22 0)<|.step (.cell 23 0)<|.step (.mk [3, 4, 5, 6, 7, 8, 9, 10, 11, 12, 13, 14, 15, 16, 17, 18, 19, 20, 21, 22, 23, 24, 25, 26]) <|
 .step (.call 1 [27] 0)<|.step (.un .not 28)<|.ite 29
 (.step (.cb true)<|.ret [30])
 (.step (.call 15 [27] 0)<|.step (.cell 0 30)<|.step (.cell 1 30)<|.step (.cell 2 30)<|.step (.cell 3 30)<|.step (.cell 4 30)<|.step (.cell 5 30)<|.step (.cell 6 30)<|.step (.cell 7 30) <|
 .step (.cell 8 30)<|.step (.cell 9 30)<|.step (.cell 10 30)<|.step (.cell 11 30)<|.step (.cell 12 30)<|.step (.cell 13 30)<|.step (.cell 14 30)<|.step (.cell 15 30)<|.step (.cell 16 30) <|
 .step (.cell 17 30)<|.step (.cell 18 30)<|.step (.cell 19 30)<|.step (.cell 20 30)<|.step (.cell 21 30)<|.step (.cell 22 30)<|.step (.cell 23 30)<|.step (.mk [31, 32, 33, 34, 35, 36, 37, 38, 39, 40, 41, 42, 43, 44, 45, 46, 47, 48, 49, 50, 51, 52, 53, 54]) <|
 .step (.call 19 [55] 0)<|.step (.cell 0 56)<|.step (.cell 1 56)<|.step (.cell 2 56)<|.step (.cell 3 56)<|.step (.cell 4 56)<|.step (.cell 5 56)<|.step (.cell 6 56)<|.step (.cell 7 56) <|
 .step (.cell 8 56)<|.step (.cell 9 56)<|.step (.cell 10 56)<|.step (.cell 11 56)<|.step (.cell 12 56)<|.step (.cell 13 56)<|.step (.cell 14 56)<|.step (.cell 15 56)<|.step (.cell 16 56) <|
 .step (.cell 17 56)<|.step (.cell 18 56)<|.step (.cell 19 56)<|.step (.cell 20 56)<|.step (.cell 21 56)<|.step (.cell 22 56)<|.step (.cell 23 56)<|.step (.call 26 [55, 1] 0)<|.step (.mk [57, 58, 59, 60, 61, 62, 63, 64, 65, 66, 67, 68, 69, 70, 71, 72, 73, 74, 75, 76, 77, 78, 79, 80]) <|
 .step (.call 79 [82, 1] 0)<|.step (.bin .neq 81 83)<|.ite 84
 (.step (.cb false)<|.ret [85])
 (.step (.call 39 [] 0)<|.step (.call 83 [] 0)<|.step (.call 125 [85, 86] 0)<|.step (.un .not 87)<|.ite 88
 (.step (.cb false)<|.ret [89])
 (.step (.cs [116, 97, 98, 108, 101])<|.step (.bin .eql 2 89)<|.ite 90
 (.step (.call 55 [53] 0)<|.step (.ci .i64 0)<|.step (.bin .neq 91 92)<|.ite 93
 (.step (.cb true)<|.ret [94])
 (.step (.call 127 [55, 2] 0)<|.step (.cell 0 94)<|.step (.cell 1 94)<|.step (.cell 2 94)<|.step (.cell 3 94)<|.step (.cell 4 94)<|.step (.call 127 [55, 2] 1)<|.step (.call 88 [2] 0) <|
 .step (.bin .lss 101 92)<|.ite 102
 (.step (.un .not 100)<|.ite 103
 (.step (.mk [95, 96, 97, 98, 99])<|.step (.ml [104])<|.step (.ci .u64 0)<|.step (.cs [])<|.step (.ml [])<|.step (.mk [106, 92, 106, 107, 108])<|.step (.ml [109])<|.step (.call 133 [105, 110] 0) <|
 .ret [111])
 (.step (.cb false)<|.ret [104]))
 (.step (.call 87 [82, 2] 0)<|.step (.call 87 [82, 2] 1)<|.ite 100
 (.step (.ci .u64 0)<|.step (.bin .eql 95 105)<|.ite 106
 (.step (.ci .i64 3)<|.step (.bin .quo 101 107)<|.step (.bin .eql 96 108)<|.ite 109
 (.step (.bin .eql 97 103)<|.ite 110
 (.step (.bin .eql 98 104)<|.ite 111
 (.step (.len 99)<|.step (.bin .eql 112 92)<|.ret [113])
 (.step (.cb false)<|.ret [112]))
 (.step (.cb false)<|.ret [111]))
 (.step (.cb false)<|.ret [110]))
 (.step (.cb false)<|.ret [107]))
 (.step (.cb false)<|.ret [105]))))
 (.step (.call 127 [55, 2] 0)<|.step (.cell 0 91)<|.step (.cell 1 91)<|.step (.cell 2 91)<|.step (.cell 3 91)<|.step (.cell 4 91)<|.step (.call 127 [55, 2] 1)<|.step (.call 88 [2] 0) <|
 .step (.ci .i64 0)<|.step (.bin .lss 98 99)<|.ite 100
 (.step (.un .not 97)<|.ite 101
 (.step (.mk [92, 93, 94, 95, 96])<|.step (.ml [102])<|.step (.ci .u64 0)<|.step (.cs [])<|.step (.ml [])<|.step (.mk [104, 99, 104, 105, 106])<|.step (.ml [107])<|.step (.call 133 [103, 108] 0) <|
 .ret [109])
 (.step (.cb false)<|.ret [102]))
 (.step (.call 87 [82, 2] 0)<|.step (.call 87 [82, 2] 1)<|.ite 97
 (.step (.ci .u64 0)<|.step (.bin .eql 92 103)<|.ite 104
 (.step (.ci .i64 3)<|.step (.bin .quo 98 105)<|.step (.bin .eql 93 106)<|.ite 107
 (.step (.bin .eql 94 101)<|.ite 108
 (.step (.bin .eql 95 102)<|.ite 109
 (.step (.len 96)<|.step (.bin .eql 110 99)<|.ret [111])
 (.step (.cb false)<|.ret [110]))
 (.step (.cb false)<|.ret [109]))
 (.step (.cb false)<|.ret [108]))
 (.step (.cb false)<|.ret [105]))
 (.step (.cb false)<|.ret [103]))))))
def d115 : PDef := .fn [.sc] [.sc]<|.step (.len 0)<|.step (.conv .u64 1)<|.step (.call 94 [2] 0)<|.step (.ci .i64 0)<|.step (.call 116 [0, 3, 1, 4] 0)<|.step (.call 116 [0, 3, 1, 4] 1) <|
 .ret [6]
def d102 : PDef := .fn [.sc] [.sc]<|.step (.len 0)<|.step (.conv .u64 1)<|.step (.ci .u64 0)<|.step (.bin .eql 2 3)<|.ite 4
 (.step (.ci .i64 12)<|.step (.ci .i64 0)<|.step (.call 103 [0, 5, 6] 0)<|.step (.call 103 [0, 5, 6] 1)<|.ret [8])
 (.step (.ci .u64 16)<|.step (.bin .gtr 2 5)<|.ite 6
 (.step (.ci .i64 13)<|.step (.ci .i64 0)<|.step (.call 103 [0, 7, 8] 0)<|.step (.call 103 [0, 7, 8] 1)<|.ret [10])
 (.step (.ci .i64 0)<|.step (.call 103 [0, 7, 7] 0)<|.step (.call 103 [0, 7, 7] 1)<|.ret [9]))
def d101 : PDef := .fn [.ag 2] [.sc]<|.step (.cell 0 0)<|.step (.cell 1 0)<|.step (.call 102 [1] 0)<|.step (.ci .i64 0)<|.step (.bin .eql 3 4)<|.ite 5
 (.step (.ci .u64 0)<|.step (.bin .eql 2 6)<|.ite 7
 (.step (.ci .i64 18)<|.ret [8])
 (.ret [3]))
 (.ret [3])
def d86 : PDef := .fn [.ag 24, .sc] [.sc]<|.step (.cell 0 0)<|.step (.cell 1 0)<|.step (.cell 2 0)<|.step (.cell 3 0)<|.step (.cell 4 0)<|.step (.cell 5 0)<|.step (.cell 6 0)<|.step (.cell 7 0) <|
 .step (.cell 8 0)<|.step (.cell 9 0)<|.step (.cell 10 0)<|.step (.cell 11 0)<|.step (.cell 12 0)<|.step (.cell 13 0)<|.step (.cell 14 0)<|.step (.cell 15 0)<|.step (.cell 16 0) <|
 .step (.cell 17 0)<|.step (.cell 18 0)<|.step (.cell 19 0)<|.step (.cell 20 0)<|.step (.cell 21 0)<|.step (.cell 22 0)<|.step (.cell 23 0)<|.step (.cs [100, 101, 115, 99, 114]) <|
 .step (.bin .eql 1 26)<|.ite 27
 (.step (.len 23)<|.step (.ci .i64 0)<|.step (.bin .eql 28 29)<|.ret [30])
 (.step (.cs [116, 97, 98, 108, 101])<|.step (.bin .eql 1 28)<|.ite 29
 (.step (.len 24)<|.step (.ci .i64 0)<|.step (.bin .eql 30 31)<|.ret [32])
 (.step (.mk [2, 3, 4, 5, 6, 7, 8, 9, 10, 11, 12, 13, 14, 15, 16, 17, 18, 19, 20, 21, 22, 23, 24, 25])<|.step (.call 87 [30, 1] 0)<|.step (.call 87 [30, 1] 1)<|.step (.ci .u64 0) <|
 .step (.bin .eql 31 33)<|.ite 34
 (.step (.cs [])<|.step (.bin .eql 32 35)<|.ret [36])
 (.step (.cb false)<|.ret [35])))
def d35 : PDef := .fn [] [.sc]<|.step (.ci .u64 1)<|.step (.ci .i64 0)<|.step (.ci .i64 2)<|.step (.cs [98, 97, 115, 101])<|.step (.mk [0, 1, 2, 3])<|.step (.ci .u64 2)<|.step (.cs [101, 112, 111, 99, 104]) <|
 .step (.mk [5, 1, 2, 6])<|.step (.ci .u64 3)<|.step (.ci .i64 5)<|.step (.cs [116, 97, 98, 108, 101])<|.step (.mk [8, 9, 2, 10])<|.step (.ci .u64 4)<|.step (.ci .i64 3)<|.step (.cs [114, 101, 103, 105, 111, 110]) <|
 .step (.mk [12, 13, 2, 14])<|.step (.ci .u64 5)<|.step (.cs [100, 105, 103, 101, 115, 116])<|.step (.mk [16, 1, 13, 17])<|.step (.ml [4, 7, 11, 15, 18])<|.ret [19]
def d26 : PDef := .fn [.ag 24, .sc] [.sc]<|.step (.cell 0 0)<|.step (.cell 1 0)<|.step (.cell 2 0)<|.step (.cell 3 0)<|.step (.cell 4 0)<|.step (.cell 5 0)<|.step (.cell 6 0)<|.step (.cell 7 0) <|
 .step (.cell 8 0)<|.step (.cell 9 0)<|.step (.cell 10 0)<|.step (.cell 11 0)<|.step (.cell 12 0)<|.step (.cell 13 0)<|.step (.cell 14 0)<|.step (.cell 15 0)<|.step (.cell 16 0) <|
 .step (.cell 17 0)<|.step (.cell 18 0)<|.step (.cell 19 0)<|.step (.cell 20 0)<|.step (.cell 21 0)<|.step (.cell 22 0)<|.step (.cell 23 0)<|.step (.ci .i64 1)<|.step (.bin .lss 1 26) <|
 .ite 27
 (.step (.ci .i64 16)<|.ret [28])
 (.step (.ci .i64 3)<|.step (.bin .gtr 1 28)<|.ite 29
 (.step (.ci .i64 16)<|.ret [30])
 (.step (.call 27 [2] 0)<|.step (.ci .i64 0)<|.step (.bin .eql 30 31)<|.ite 32
 (.step (.ci .i64 15)<|.ret [33])
 (.step (.bin .gtr 30 1)<|.ite 33
 (.step (.ci .i64 15)<|.ret [34])
 (.step (.call 28 [2, 1] 0)<|.step (.len 34)<|.step (.ml [])<|.step (.call 38 [34, 35, 31, 36, 2, 3, 4, 5, 6, 7, 8, 9, 10, 11, 12, 13, 14, 15, 16, 17, 18, 19, 20, 21, 22, 23, 24, 25] 0) <|
 .step (.call 38 [34, 35, 31, 36, 2, 3, 4, 5, 6, 7, 8, 9, 10, 11, 12, 13, 14, 15, 16, 17, 18, 19, 20, 21, 22, 23, 24, 25] 1)<|.step (.call 39 [] 0)<|.step (.len 39)<|.step (.call 40 [34, 39, 40, 31, 38, 2, 3, 4, 5, 6, 7, 8, 9, 10, 11, 12, 13, 14, 15, 16, 17, 18, 19, 20, 21, 22, 23, 24, 25] 0) <|
 .step (.bin .eql 41 31)<|.ite 42
 (.step (.ci .i64 26)<|.ret [43])
 (.step (.call 41 [34, 35, 31, 2, 3, 4, 5, 6, 7, 8, 9, 10, 11, 12, 13, 14, 15, 16, 17, 18, 19, 20, 21, 22, 23, 24, 25] 0)<|.step (.bin .eql 43 31)<|.ite 44
 (.step (.call 41 [34, 35, 31, 2, 3, 4, 5, 6, 7, 8, 9, 10, 11, 12, 13, 14, 15, 16, 17, 18, 19, 20, 21, 22, 23, 24, 25] 1)<|.ret [45])
 (.step (.bin .eql 2 26)<|.ite 45
 (.step (.ci .u64 1)<|.step (.bin .lss 4 46)<|.ite 47
 (.step (.ci .i64 18)<|.ret [48])
 (.step (.bin .lss 5 4)<|.ite 48
 (.step (.ci .i64 18)<|.ret [49])
 (.step (.ci .u64 255)<|.step (.bin .gtr 5 49)<|.ite 50
 (.step (.ci .i64 18)<|.ret [51])
 (.step (.call 74 [25] 0)<|.step (.bin .neq 51 31)<|.ite 52
 (.ret [51])
 (.step (.len 25)<|.step (.call 77 [34, 25, 53, 31] 0)<|.step (.bin .eql 54 31)<|.ite 55
 (.step (.ci .i64 14)<|.ret [56])
 (.ret [31]))))))
 (.step (.ci .i64 2)<|.step (.bin .eql 2 46)<|.ite 47
 (.step (.ci .u64 1)<|.step (.bin .lss 6 48)<|.ite 49
 (.step (.ci .i64 18)<|.ret [50])
 (.step (.ci .u64 255)<|.step (.bin .gtr 6 50)<|.ite 51
 (.step (.ci .i64 18)<|.ret [52])
 (.step (.call 74 [25] 0)<|.step (.bin .neq 52 31)<|.ite 53
 (.ret [52])
 (.step (.len 25)<|.step (.call 77 [34, 25, 54, 31] 0)<|.step (.bin .eql 55 31)<|.ite 56
 (.step (.ci .i64 14)<|.ret [57])
 (.ret [31])))))
 (.step (.bin .eql 2 28)<|.ite 48
 (.step (.len 23)<|.step (.bin .eql 49 31)<|.ite 50
 (.step (.ci .i64 12)<|.ret [51])
 (.step (.call 74 [25] 0)<|.step (.bin .neq 51 31)<|.ite 52
 (.ret [51])
 (.step (.len 25)<|.step (.call 77 [34, 25, 53, 31] 0)<|.step (.bin .eql 54 31)<|.ite 55
 (.step (.ci .i64 14)<|.ret [56])
 (.ret [31]))))
 (.step (.ci .i64 5)<|.step (.bin .eql 2 49)<|.ite 50
 (.step (.ci .u64 1)<|.step (.bin .lss 12 51)<|.ite 52
 (.step (.ci .i64 18)<|.ret [53])
 (.step (.call 74 [25] 0)<|.step (.bin .neq 53 31)<|.ite 54
 (.ret [53])
 (.step (.len 25)<|.step (.call 77 [34, 25, 55, 31] 0)<|.step (.bin .eql 56 31)<|.ite 57
 (.step (.ci .i64 14)<|.ret [58])
 (.ret [31]))))
 (.step (.ci .i64 6)<|.step (.bin .eql 2 51)<|.ite 52
 (.step (.ci .u64 1)<|.step (.bin .lss 13 53)<|.ite 54
 (.step (.ci .i64 18)<|.ret [55])
 (.step (.bin .leq 12 13)<|.ite 55
 (.step (.ci .i64 20)<|.ret [56])
 (.step (.call 74 [25] 0)<|.step (.bin .neq 56 31)<|.ite 57
 (.ret [56])
 (.step (.len 25)<|.step (.call 77 [34, 25, 58, 31] 0)<|.step (.bin .eql 59 31)<|.ite 60
 (.step (.ci .i64 14)<|.ret [61])
 (.ret [31])))))
 (.step (.call 74 [25] 0)<|.step (.bin .neq 53 31)<|.ite 54
 (.ret [53])
 (.step (.len 25)<|.step (.call 77 [34, 25, 55, 31] 0)<|.step (.bin .eql 56 31)<|.ite 57
 (.step (.ci .i64 14)<|.ret [58])
 (.ret [31])))))))))))))
def d29 : PDef := .fn [] [.sc]<|.step (.ci .u64 1)<|.step (.ci .i64 0)<|.step (.ci .i64 1)<|.step (.cs [109, 105, 110])<|.step (.mk [0, 1, 2, 3])<|.step (.ci .u64 2)<|.step (.cs [109, 97, 120]) <|
 .step (.mk [5, 1, 2, 6])<|.step (.ci .u64 3)<|.step (.ci .i64 3)<|.step (.cs [110, 97, 109, 101])<|.step (.mk [8, 9, 2, 10])<|.step (.ci .u64 4)<|.step (.ci .i64 2)<|.step (.cs [114, 101, 103, 105, 111, 110]) <|
 .step (.mk [12, 9, 13, 14])<|.step (.ci .u64 5)<|.step (.cs [102, 108, 97, 103, 115])<|.step (.mk [16, 1, 9, 17])<|.step (.ml [4, 7, 11, 15, 18])<|.ret [19]
abbrev d39 : PDef := .prim namesP
def d79 : PDef := .fn [.ag 24, .sc] [.sc]<|.step (.cell 0 0)<|.step (.cell 1 0)<|.step (.cell 2 0)<|.step (.cell 3 0)<|.step (.cell 4 0)<|.step (.cell 5 0)<|.step (.cell 6 0)<|.step (.cell 7 0) <|
 .step (.cell 8 0)<|.step (.cell 9 0)<|.step (.cell 10 0)<|.step (.cell 11 0)<|.step (.cell 12 0)<|.step (.cell 13 0)<|.step (.cell 14 0)<|.step (.cell 15 0)<|.step (.cell 16 0) <|
 .step (.cell 17 0)<|.step (.cell 18 0)<|.step (.cell 19 0)<|.step (.cell 20 0)<|.step (.cell 21 0)<|.step (.cell 22 0)<|.step (.cell 23 0)<|.step (.ci .i64 1)<|.step (.bin .lss 1 26) <|
 .ite 27
 (.step (.ci .i64 16)<|.ret [28])
 (.step (.ci .i64 3)<|.step (.bin .gtr 1 28)<|.ite 29
 (.step (.ci .i64 16)<|.ret [30])
 (.step (.call 80 [2, 1] 0)<|.step (.len 30)<|.step (.ci .i64 0)<|.step (.bin .eql 31 32)<|.ite 33
 (.step (.ci .i64 15)<|.ret [34])
 (.step (.call 83 [] 0)<|.step (.len 34)<|.step (.call 84 [30, 34, 35, 32, 2, 3, 4, 5, 6, 7, 8, 9, 10, 11, 12, 13, 14, 15, 16, 17, 18, 19, 20, 21, 22, 23, 24, 25] 0)<|.step (.bin .eql 36 32) <|
 .ite 37
 (.step (.ci .i64 26)<|.ret [38])
 (.step (.call 120 [30, 31, 32, 2, 3, 4, 5, 6, 7, 8, 9, 10, 11, 12, 13, 14, 15, 16, 17, 18, 19, 20, 21, 22, 23, 24, 25] 0)<|.step (.bin .eql 38 32)<|.ite 39
 (.step (.call 120 [30, 31, 32, 2, 3, 4, 5, 6, 7, 8, 9, 10, 11, 12, 13, 14, 15, 16, 17, 18, 19, 20, 21, 22, 23, 24, 25] 1)<|.ret [40])
 (.step (.bin .eql 2 26)<|.ite 40
 (.step (.ci .u64 0)<|.step (.bin .eql 4 41)<|.ite 42
 (.step (.ci .i64 18)<|.ret [43])
 (.step (.bin .lss 5 4)<|.ite 43
 (.step (.ci .i64 18)<|.ret [44])
 (.step (.ci .u64 255)<|.step (.bin .gtr 5 44)<|.ite 45
 (.step (.ci .i64 18)<|.ret [46])
 (.step (.ci .i64 2)<|.step (.bin .eql 2 46)<|.step (.ci .i64 5)<|.step (.bin .eql 2 48)<|.step (.ci .i64 6)<|.step (.bin .eql 2 50)<|.step (.bin .eql 2 28)<|.step (.call 121 [25, 32] 0) <|
 .step (.bin .neq 53 32)<|.ite 54
 (.ret [53])
 (.step (.len 25)<|.step (.call 123 [30, 25, 55, 32] 0)<|.step (.bin .eql 56 32)<|.ite 57
 (.step (.ci .i64 14)<|.ret [58])
 (.ret [32]))))))
 (.step (.ci .i64 2)<|.step (.bin .eql 2 41)<|.ite 42
 (.step (.ci .u64 0)<|.step (.bin .eql 6 43)<|.ite 44
 (.step (.ci .i64 18)<|.ret [45])
 (.step (.ci .u64 255)<|.step (.bin .gtr 6 45)<|.ite 46
 (.step (.ci .i64 18)<|.ret [47])
 (.step (.ci .i64 5)<|.step (.bin .eql 2 47)<|.step (.ci .i64 6)<|.step (.bin .eql 2 49)<|.step (.bin .eql 2 28)<|.step (.call 121 [25, 32] 0)<|.step (.bin .neq 52 32)<|.ite 53
 (.ret [52])
 (.step (.len 25)<|.step (.call 123 [30, 25, 54, 32] 0)<|.step (.bin .eql 55 32)<|.ite 56
 (.step (.ci .i64 14)<|.ret [57])
 (.ret [32])))))
 (.step (.ci .i64 5)<|.step (.bin .eql 2 43)<|.ite 44
 (.step (.ci .u64 0)<|.step (.bin .eql 12 45)<|.ite 46
 (.step (.ci .i64 18)<|.ret [47])
 (.step (.ci .i64 6)<|.step (.bin .eql 2 47)<|.step (.bin .eql 2 28)<|.step (.call 121 [25, 32] 0)<|.step (.bin .neq 50 32)<|.ite 51
 (.ret [50])
 (.step (.len 25)<|.step (.call 123 [30, 25, 52, 32] 0)<|.step (.bin .eql 53 32)<|.ite 54
 (.step (.ci .i64 14)<|.ret [55])
 (.ret [32]))))
 (.step (.ci .i64 6)<|.step (.bin .eql 2 45)<|.ite 46
 (.step (.ci .u64 0)<|.step (.bin .eql 13 47)<|.ite 48
 (.step (.ci .i64 18)<|.ret [49])
 (.step (.bin .eql 2 28)<|.step (.bin .leq 12 13)<|.ite 50
 (.step (.ci .i64 20)<|.ret [51])
 (.step (.call 121 [25, 32] 0)<|.step (.bin .neq 51 32)<|.ite 52
 (.ret [51])
 (.step (.len 25)<|.step (.call 123 [30, 25, 53, 32] 0)<|.step (.bin .eql 54 32)<|.ite 55
 (.step (.ci .i64 14)<|.ret [56])
 (.ret [32])))))
 (.step (.bin .eql 2 28)<|.ite 47
 (.step (.len 23)<|.step (.bin .eql 48 32)<|.ite 49
 (.step (.ci .i64 12)<|.ret [50])
 (.step (.call 121 [25, 32] 0)<|.step (.bin .neq 50 32)<|.ite 51
 (.ret [50])
 (.step (.len 25)<|.step (.call 123 [30, 25, 52, 32] 0)<|.step (.bin .eql 53 32)<|.ite 54
 (.step (.ci .i64 14)<|.ret [55])
 (.ret [32]))))
 (.step (.call 121 [25, 32] 0)<|.step (.bin .neq 48 32)<|.ite 49
 (.ret [48])
 (.step (.len 25)<|.step (.call 123 [30, 25, 50, 32] 0)<|.step (.bin .eql 51 32)<|.ite 52
 (.step (.ci .i64 14)<|.ret [53])
 (.ret [32]))))))))))))
def d4 : PDef := .fn [.sc] [.sc]<|.step (.len 0)<|.step (.ci .i64 0)<|.step (.call 5 [0, 1, 2] 0)<|.step (.bin .eql 3 2)<|.ite 4
 (.step (.cb false)<|.ret [5])
 (.step (.ci .i64 300)<|.step (.bin .leq 1 5)<|.ret [6])
def d111 : PDef := .fn [.ag 2, .ag 2] [.sc]<|.step (.cell 0 0)<|.step (.cell 1 0)<|.step (.cell 0 1)<|.step (.cell 1 1)<|.step (.call 112 [2, 4] 0)<|.ite 6
 (.step (.ci .i64 (-1))<|.ret [7])
 (.step (.bin .eql 2 4)<|.ite 7
 (.step (.call 112 [3, 5] 0)<|.ite 8
 (.step (.ci .i64 (-1))<|.ret [9])
 (.step (.mk [2, 3])<|.step (.mk [4, 5])<|.step (.binc .eql [1, 1] 9 10)<|.ite 11
 (.step (.ci .i64 0)<|.ret [12])
 (.step (.ci .i64 1)<|.ret [12])))
 (.step (.mk [2, 3])<|.step (.mk [4, 5])<|.step (.binc .eql [1, 1] 8 9)<|.ite 10
 (.step (.ci .i64 0)<|.ret [11])
 (.step (.ci .i64 1)<|.ret [11])))
def d34 : PDef := .fn [] [.sc]<|.step (.ci .u64 1)<|.step (.ci .i64 0)<|.step (.ci .i64 1)<|.step (.cs [101, 112, 111, 99, 104])<|.step (.mk [0, 1, 2, 3])<|.step (.ci .u64 2)<|.step (.ci .i64 5) <|
 .step (.cs [116, 97, 98, 108, 101])<|.step (.mk [5, 6, 2, 7])<|.step (.ci .u64 3)<|.step (.ci .i64 3)<|.step (.ci .i64 2)<|.step (.cs [114, 101, 103, 105, 111, 110])<|.step (.mk [9, 10, 11, 12]) <|
 .step (.ci .u64 4)<|.step (.cs [100, 105, 103, 101, 115, 116])<|.step (.mk [14, 1, 10, 15])<|.step (.ml [4, 8, 13, 16])<|.ret [17]
def d127 : PDef := .fn [.ag 24, .sc] [.ag 5, .sc]<|.step (.cell 0 0)<|.step (.cell 1 0)<|.step (.cell 2 0)<|.step (.cell 3 0)<|.step (.cell 4 0)<|.step (.cell 5 0)<|.step (.cell 6 0) <|
 .step (.cell 7 0)<|.step (.cell 8 0)<|.step (.cell 9 0)<|.step (.cell 10 0)<|.step (.cell 11 0)<|.step (.cell 12 0)<|.step (.cell 13 0)<|.step (.cell 14 0)<|.step (.cell 15 0)<|.step (.cell 16 0) <|
 .step (.cell 17 0)<|.step (.cell 18 0)<|.step (.cell 19 0)<|.step (.cell 20 0)<|.step (.cell 21 0)<|.step (.cell 22 0)<|.step (.cell 23 0)<|.step (.cs [114, 101, 109, 97, 105, 110, 105, 110, 103]) <|
 .step (.bin .eql 1 26)<|.ite 27
 (.step (.conv .u64 18)<|.step (.ci .u64 1)<|.step (.bin .shl 28 29)<|.step (.ci .u64 63)<|.step (.bin .shr 18 31)<|.step (.conv .u64 32)<|.step (.bin .xor 30 33)<|.step (.ci .u64 0) <|
 .step (.ci .i64 0)<|.step (.cs [])<|.step (.ml [])<|.step (.cb true)<|.step (.mk [35, 36, 34, 37, 38])<|.ret [40, 39])
 (.step (.cs [97, 108, 108, 111, 119, 101, 100])<|.step (.bin .eql 1 28)<|.ite 29
 (.ite 19
 (.step (.ci .u64 0)<|.step (.ci .i64 0)<|.step (.ci .u64 1)<|.step (.cs [])<|.step (.ml [])<|.step (.cb true)<|.step (.mk [30, 31, 32, 33, 34])<|.ret [36, 35])
 (.step (.ci .u64 0)<|.step (.ci .i64 0)<|.step (.cs [])<|.step (.ml [])<|.step (.cb true)<|.step (.mk [30, 31, 30, 32, 33])<|.ret [35, 34]))
 (.step (.cs [110, 97, 109, 101])<|.step (.bin .eql 1 30)<|.ite 31
 (.step (.ci .u64 0)<|.step (.ci .i64 1)<|.step (.ml [])<|.step (.cb true)<|.step (.mk [32, 33, 32, 20, 34])<|.ret [36, 35])
 (.step (.cs [114, 101, 103, 105, 111, 110])<|.step (.bin .eql 1 32)<|.ite 33
 (.step (.ci .u64 0)<|.step (.ci .i64 1)<|.step (.ml [])<|.step (.cb true)<|.step (.mk [34, 35, 34, 21, 36])<|.ret [38, 37])
 (.step (.cs [110, 111, 116, 101])<|.step (.bin .eql 1 34)<|.ite 35
 (.step (.ci .u64 0)<|.step (.ci .i64 1)<|.step (.ml [])<|.step (.cb true)<|.step (.mk [36, 37, 36, 22, 38])<|.ret [40, 39])
 (.step (.cs [100, 101, 115, 99, 114])<|.step (.bin .eql 1 36)<|.ite 37
 (.step (.len 23)<|.step (.ci .i64 0)<|.step (.bin .eql 38 39)<|.ite 40
 (.step (.ci .u64 0)<|.step (.ci .i64 1)<|.step (.cs [])<|.step (.ml [])<|.step (.cb true)<|.step (.mk [41, 42, 41, 43, 44])<|.ret [46, 45])
 (.step (.call 6 [23] 0)<|.step (.ci .u64 0)<|.step (.ci .i64 1)<|.step (.ml [])<|.step (.cb true)<|.step (.mk [42, 43, 42, 41, 44])<|.ret [46, 45]))
 (.step (.cs [116, 97, 98, 108, 101])<|.step (.bin .eql 1 38)<|.ite 39
 (.step (.len 24)<|.step (.ci .i64 0)<|.step (.bin .eql 40 41)<|.ite 42
 (.step (.ci .u64 0)<|.step (.ci .i64 1)<|.step (.cs [])<|.step (.ml [])<|.step (.cb true)<|.step (.mk [43, 44, 43, 45, 46])<|.ret [48, 47])
 (.step (.call 128 [24] 0)<|.step (.call 128 [24] 1)<|.step (.ci .u64 0)<|.step (.ci .i64 1)<|.step (.ml [])<|.step (.cb true)<|.step (.mk [45, 46, 45, 43, 47])<|.ret [49, 48]))
 (.step (.cs [105, 100])<|.step (.bin .eql 1 40)<|.ite 41
 (.step (.ci .u64 0)<|.step (.ci .i64 0)<|.step (.cs [])<|.step (.ml [])<|.step (.cb true)<|.step (.mk [42, 43, 3, 44, 45])<|.ret [47, 46])
 (.step (.cs [109, 105, 110])<|.step (.bin .eql 1 42)<|.ite 43
 (.step (.ci .u64 0)<|.step (.ci .i64 0)<|.step (.cs [])<|.step (.ml [])<|.step (.cb true)<|.step (.mk [44, 45, 4, 46, 47])<|.ret [49, 48])
 (.step (.cs [109, 97, 120])<|.step (.bin .eql 1 44)<|.ite 45
 (.step (.ci .u64 0)<|.step (.ci .i64 0)<|.step (.cs [])<|.step (.ml [])<|.step (.cb true)<|.step (.mk [46, 47, 5, 48, 49])<|.ret [51, 50])
 (.step (.cs [99, 104, 111, 115, 101, 110])<|.step (.bin .eql 1 46)<|.ite 47
 (.step (.ci .u64 0)<|.step (.ci .i64 0)<|.step (.cs [])<|.step (.ml [])<|.step (.cb true)<|.step (.mk [48, 49, 6, 50, 51])<|.ret [53, 52])
 (.step (.cs [102, 108, 97, 103, 115])<|.step (.bin .eql 1 48)<|.ite 49
 (.step (.ci .u64 0)<|.step (.ci .i64 0)<|.step (.cs [])<|.step (.ml [])<|.step (.cb true)<|.step (.mk [50, 51, 7, 52, 53])<|.ret [55, 54])
 (.step (.cs [99, 111, 115, 116])<|.step (.bin .eql 1 50)<|.ite 51
 (.step (.ci .u64 0)<|.step (.ci .i64 0)<|.step (.cs [])<|.step (.ml [])<|.step (.cb true)<|.step (.mk [52, 53, 8, 54, 55])<|.ret [57, 56])
 (.step (.cs [112, 114, 105, 111, 114, 105, 116, 121])<|.step (.bin .eql 1 52)<|.ite 53
 (.step (.ci .u64 0)<|.step (.ci .i64 0)<|.step (.cs [])<|.step (.ml [])<|.step (.cb true)<|.step (.mk [54, 55, 9, 56, 57])<|.ret [59, 58])
 (.step (.cs [100, 101, 97, 100, 108, 105, 110, 101])<|.step (.bin .eql 1 54)<|.ite 55
 (.step (.ci .u64 0)<|.step (.ci .i64 0)<|.step (.cs [])<|.step (.ml [])<|.step (.cb true)<|.step (.mk [56, 57, 10, 58, 59])<|.ret [61, 60])
 (.step (.cs [114, 101, 116, 114, 121])<|.step (.bin .eql 1 56)<|.ite 57
 (.step (.ci .u64 0)<|.step (.ci .i64 0)<|.step (.cs [])<|.step (.ml [])<|.step (.cb true)<|.step (.mk [58, 59, 11, 60, 61])<|.ret [63, 62])
 (.step (.cs [101, 112, 111, 99, 104])<|.step (.bin .eql 1 58)<|.ite 59
 (.step (.ci .u64 0)<|.step (.ci .i64 0)<|.step (.cs [])<|.step (.ml [])<|.step (.cb true)<|.step (.mk [60, 61, 12, 62, 63])<|.ret [65, 64])
 (.step (.cs [98, 97, 115, 101])<|.step (.bin .eql 1 60)<|.ite 61
 (.step (.ci .u64 0)<|.step (.ci .i64 0)<|.step (.cs [])<|.step (.ml [])<|.step (.cb true)<|.step (.mk [62, 63, 13, 64, 65])<|.ret [67, 66])
 (.step (.cs [100, 105, 103, 101, 115, 116])<|.step (.bin .eql 1 62)<|.ite 63
 (.step (.ci .u64 0)<|.step (.ci .i64 0)<|.step (.cs [])<|.step (.ml [])<|.step (.cb true)<|.step (.mk [64, 65, 14, 66, 67])<|.ret [69, 68])
 (.step (.cs [108, 97, 103])<|.step (.bin .eql 1 64)<|.ite 65
 (.step (.ci .u64 0)<|.step (.ci .i64 0)<|.step (.cs [])<|.step (.ml [])<|.step (.cb true)<|.step (.mk [66, 67, 15, 68, 69])<|.ret [71, 70])
 (.step (.cs [99, 111, 100, 101])<|.step (.bin .eql 1 66)<|.ite 67
 (.step (.ci .u64 0)<|.step (.ci .i64 0)<|.step (.cs [])<|.step (.ml [])<|.step (.cb true)<|.step (.mk [68, 69, 16, 70, 71])<|.ret [73, 72])
 (.step (.cs [119, 97, 110, 116])<|.step (.bin .eql 1 68)<|.ite 69
 (.step (.ci .u64 0)<|.step (.ci .i64 0)<|.step (.cs [])<|.step (.ml [])<|.step (.cb true)<|.step (.mk [70, 71, 17, 72, 73])<|.ret [75, 74])
 (.step (.ci .u64 0)<|.step (.ci .i64 0)<|.step (.cs [])<|.step (.ml [])<|.step (.cb false)<|.step (.mk [70, 71, 70, 72, 73])<|.ret [75, 74]))))))))))))))))))))))
def d46 : PDef := .fn [.sc] [.sc]<|.step (.call 47 [0] 0)<|.ret [1]
def d74 : PDef := .fn [.sc] [.sc]<|.step (.ci .i64 0)<|.step (.call 75 [0, 1] 0)<|.ret [2]
def d118 : PDef := .fn [.sc, .sc] [.sc]<|.step (.ci .i64 0)<|.step (.call 119 [0, 1, 2] 0)<|.step (.bin .eql 3 2)<|.ite 4
 (.step (.call 119 [0, 1, 2] 1)<|.ret [5])
 (.step (.slen 0)<|.step (.slen 1)<|.step (.mm false 5 6)<|.ret [7])
def d6 : PDef := .fn [.sc] [.sc]<|.step (.len 0)<|.step (.conv .u64 1)<|.step (.call 7 [2] 0)<|.step (.bytes 3)<|.step (.ml [])<|.step (.app 1 1 5 4)<|.step (.slen 3)<|.step (.ci .i64 0) <|
 .step (.call 11 [0, 1, 8, 6] 0)<|.step (.call 11 [0, 1, 8, 6] 1)<|.step (.len 10)<|.step (.str 10)<|.ret [12]
def d80 : PDef := .fn [.sc, .sc] [.sc]<|.step (.call 81 [0] 0)<|.step (.len 2)<|.step (.ci .i64 0)<|.step (.ml [])<|.step (.call 82 [1, 5, 2, 3, 4] 0)<|.step (.call 82 [1, 5, 2, 3, 4] 1) <|
 .ret [7]
def d53 : PDef := .fn [.ag 2] [.sc]<|.step (.cell 0 0)<|.step (.cell 1 0)<|.step (.ci .i64 1)<|.step (.ci .i64 64)<|.step (.call 45 [1, 3, 4] 0)<|.step (.ci .i64 0)<|.step (.bin .neq 5 6) <|
 .ite 7
 (.ret [5])
 (.step (.ci .i64 256)<|.step (.call 45 [2, 6, 8] 0)<|.ret [9])
def d88 : PDef := .fn [.sc] [.sc]<|.step (.ci .i64 1)<|.step (.call 89 [0, 1] 0)<|.step (.ci .i64 0)<|.step (.bin .eql 2 3)<|.ite 4
 (.step (.call 89 [0, 1] 1)<|.ret [5])
 (.step (.ci .i64 (-1))<|.ret [5])
def d87 : PDef := .fn [.ag 24, .sc] [.sc, .sc]<|.step (.cell 0 0)<|.step (.cell 1 0)<|.step (.cell 2 0)<|.step (.cell 3 0)<|.step (.cell 4 0)<|.step (.cell 5 0)<|.step (.cell 6 0) <|
 .step (.cell 7 0)<|.step (.cell 8 0)<|.step (.cell 9 0)<|.step (.cell 10 0)<|.step (.cell 11 0)<|.step (.cell 12 0)<|.step (.cell 13 0)<|.step (.cell 14 0)<|.step (.cell 15 0)<|.step (.cell 16 0) <|
 .step (.cell 17 0)<|.step (.cell 18 0)<|.step (.cell 19 0)<|.step (.cell 20 0)<|.step (.cell 21 0)<|.step (.cell 22 0)<|.step (.cell 23 0)<|.step (.call 88 [1] 0)<|.step (.ci .i64 0) <|
 .step (.bin .eql 26 27)<|.ite 28
 (.step (.mk [2, 3, 4, 5, 6, 7, 8, 9, 10, 11, 12, 13, 14, 15, 16, 17, 18, 19, 20, 21, 22, 23, 24, 25])<|.step (.call 91 [29, 1] 0)<|.step (.cs [])<|.ret [30, 31])
 (.step (.ci .i64 1)<|.step (.bin .eql 26 29)<|.ite 30
 (.ite 19
 (.step (.ci .u64 1)<|.step (.cs [])<|.ret [31, 32])
 (.step (.ci .u64 0)<|.step (.cs [])<|.ret [31, 32]))
 (.step (.ci .i64 2)<|.step (.bin .eql 26 31)<|.ite 32
 (.step (.bin .geq 18 27)<|.ite 33
 (.step (.conv .u64 18)<|.step (.ci .u64 2)<|.step (.bin .mul 35 34)<|.step (.cs [])<|.ret [36, 37])
 (.step (.bin .add 18 29)<|.step (.bin .sub 27 34)<|.step (.conv .u64 35)<|.step (.ci .u64 1)<|.step (.bin .add 36 37)<|.step (.bin .sub 38 37)<|.step (.ci .u64 2)<|.step (.bin .mul 40 39) <|
 .step (.bin .add 41 37)<|.step (.cs [])<|.ret [42, 43]))
 (.step (.ci .i64 3)<|.step (.bin .eql 26 33)<|.ite 34
 (.step (.mk [2, 3, 4, 5, 6, 7, 8, 9, 10, 11, 12, 13, 14, 15, 16, 17, 18, 19, 20, 21, 22, 23, 24, 25])<|.step (.call 92 [35, 1] 0)<|.step (.ci .u64 0)<|.ret [37, 36])
 (.step (.ci .i64 4)<|.step (.bin .eql 26 35)<|.ite 36
 (.step (.len 23)<|.step (.bin .gtr 37 27)<|.ite 38
 (.step (.call 93 [23] 0)<|.step (.ci .u64 0)<|.ret [40, 39])
 (.step (.ci .u64 0)<|.step (.cs [])<|.ret [39, 40]))
 (.step (.len 24)<|.step (.bin .gtr 37 27)<|.ite 38
 (.step (.call 98 [24] 0)<|.step (.call 98 [24] 1)<|.step (.ci .u64 0)<|.ret [41, 39])
 (.step (.ci .u64 0)<|.step (.cs [])<|.ret [39, 40]))))))
def d133 : PDef := .fn [.sc, .sc] [.sc]<|.step (.mk [0, 1])<|.step (.ml [2])<|.step (.call 134 [3] 0)<|.step (.ci .i64 0)<|.step (.bin .eql 4 5)<|.ite 6
 (.step (.cb false)<|.ret [7])
 (.step (.cb true)<|.ret [7])
def d110 : PDef := .fn [.ag 2, .ag 2] [.sc]<|.step (.cell 0 0)<|.step (.cell 1 0)<|.step (.cell 0 1)<|.step (.cell 1 1)<|.step (.bin .eql 2 4)<|.ite 6
 (.step (.ci .i64 14)<|.ret [7])
 (.step (.mk [2, 3])<|.step (.mk [4, 5])<|.step (.call 111 [7, 8] 0)<|.step (.ci .i64 0)<|.step (.bin .gtr 9 10)<|.ite 11
 (.step (.ci .i64 7)<|.ret [12])
 (.ret [10]))
def d55 : PDef := .fn [.sc] [.sc]<|.step (.len 0)<|.step (.ci .i64 256)<|.step (.bin .gtr 1 2)<|.ite 3
 (.step (.ci .i64 13)<|.ret [4])
 (.step (.cs [])<|.step (.ci .i64 0)<|.step (.call 56 [4, 0, 1, 5] 0)<|.step (.bin .eql 6 5)<|.ite 7
 (.step (.call 56 [4, 0, 1, 5] 1)<|.ret [8])
 (.ret [5]))
def d130 : PDef := .fn [.sc, .sc] [.sc]<|.step (.call 131 [0, 1] 0)<|.step (.conv .u64 2)<|.step (.call 7 [3] 0)<|.step (.slen 1)<|.step (.bin .sub 5 2)<|.step (.conv .u64 6)<|.step (.call 7 [7] 0) <|
 .step (.bin .add 4 8)<|.step (.ssub 1 2 5)<|.step (.bin .add 9 10)<|.ret [11]
def d97 : PDef := .fn [.ag 2] [.sc]<|.step (.cell 0 0)<|.step (.cell 1 0)<|.step (.slen 1)<|.step (.conv .u64 3)<|.step (.call 94 [4] 0)<|.step (.bin .add 5 1)<|.step (.slen 2)<|.step (.conv .u64 7) <|
 .step (.call 94 [8] 0)<|.step (.bin .add 6 9)<|.step (.bin .add 10 2)<|.ret [11]
def d19 : PDef := .fn [.ag 24] [.ag 24]<|.step (.cell 0 0)<|.step (.cell 1 0)<|.step (.cell 2 0)<|.step (.cell 3 0)<|.step (.cell 4 0)<|.step (.cell 5 0)<|.step (.cell 6 0)<|.step (.cell 7 0) <|
 .step (.cell 8 0)<|.step (.cell 9 0)<|.step (.cell 10 0)<|.step (.cell 11 0)<|.step (.cell 12 0)<|.step (.cell 13 0)<|.step (.cell 14 0)<|.step (.cell 15 0)<|.step (.cell 16 0) <|
 .step (.cell 17 0)<|.step (.cell 18 0)<|.step (.cell 19 0)<|.step (.cell 20 0)<|.step (.cell 21 0)<|.step (.cell 22 0)<|.step (.cell 23 0)<|.step (.call 20 [22] 0)<|.step (.call 22 [23] 0) <|
 .step (.call 24 [24] 0)<|.step (.mk [1, 2, 3, 4, 5, 6, 7, 8, 9, 10, 11, 12, 13, 14, 15, 16, 17, 18, 19, 20, 21, 25, 26, 27])<|.ret [28]
def d128 : PDef := .fn [.sc] [.sc, .sc]<|.step (.call 55 [0] 0)<|.step (.ci .i64 0)<|.step (.bin .neq 1 2)<|.ite 3
 (.step (.cs [])<|.ret [4, 1])
 (.step (.len 0)<|.step (.conv .u64 4)<|.step (.call 7 [5] 0)<|.step (.bytes 6)<|.step (.ml [])<|.step (.app 1 1 8 7)<|.step (.slen 6)<|.step (.cs [])<|.step (.call 129 [11, 0, 4, 2, 9] 0) <|
 .step (.call 129 [11, 0, 4, 2, 9] 1)<|.step (.len 13)<|.step (.str 13)<|.ret [15, 2])
def d125 : PDef := .fn [.sc, .sc] [.sc]<|.step (.len 0)<|.step (.len 1)<|.step (.bin .neq 2 3)<|.ite 4
 (.step (.cb false)<|.ret [5])
 (.step (.ci .i64 0)<|.step (.call 126 [0, 1, 2, 5] 0)<|.step (.bin .eql 6 5)<|.ite 7
 (.step (.cb false)<|.ret [8])
 (.step (.cb true)<|.ret [8]))
def d17 : PDef := .fn [.sc, .sc] [.sc, .sc]<|.step (.ml [])<|.step (.call 18 [0, 1, 2] 0)<|.step (.call 18 [0, 1, 2] 1)<|.step (.call 18 [0, 1, 2] 2)<|.ret [5, 4]
def d117 : PDef := .fn [.sc, .sc] [.sc]<|.step (.call 118 [0, 1] 0)<|.step (.conv .u64 2)<|.step (.call 94 [3] 0)<|.step (.slen 1)<|.step (.bin .sub 5 2)<|.step (.conv .u64 6)<|.step (.call 94 [7] 0) <|
 .step (.bin .add 4 8)<|.step (.ssub 1 2 5)<|.step (.bin .add 9 10)<|.ret [11]
def d98 : PDef := .fn [.sc] [.sc, .sc]<|.step (.call 99 [0] 0)<|.step (.ci .i64 0)<|.step (.bin .neq 1 2)<|.ite 3
 (.step (.cs [])<|.ret [4, 1])
 (.step (.call 115 [0] 0)<|.ret [4, 2])
def d13 : PDef := .fn [.sc] [.sc]<|.step (.len 0)<|.step (.ci .i64 0)<|.step (.call 14 [0, 1, 2] 0)<|.step (.bin .eql 3 2)<|.ite 4
 (.step (.cb false)<|.ret [5])
 (.step (.ci .i64 60)<|.step (.bin .leq 1 5)<|.ret [6])
def d83 : PDef := .fn [] [.sc]<|.step (.cs [97, 108, 108, 111, 119, 101, 100])<|.step (.cs [98, 97, 115, 101])<|.step (.cs [99, 104, 111, 115, 101, 110])<|.step (.cs [99, 111, 100, 101]) <|
 .step (.cs [99, 111, 115, 116])<|.step (.cs [100, 101, 97, 100, 108, 105, 110, 101])<|.step (.cs [100, 101, 115, 99, 114])<|.step (.cs [100, 105, 103, 101, 115, 116])<|.step (.cs [101, 112, 111, 99, 104]) <|
 .step (.cs [102, 108, 97, 103, 115])<|.step (.cs [105, 100])<|.step (.cs [108, 97, 103])<|.step (.cs [109, 97, 120])<|.step (.cs [109, 105, 110])<|.step (.cs [110, 97, 109, 101]) <|
 .step (.cs [110, 111, 116, 101])<|.step (.cs [112, 114, 105, 111, 114, 105, 116, 121])<|.step (.cs [114, 101, 103, 105, 111, 110])<|.step (.cs [114, 101, 109, 97, 105, 110, 105, 110, 103]) <|
 .step (.cs [114, 101, 116, 114, 121])<|.step (.cs [116, 97, 98, 108, 101])<|.step (.cs [119, 97, 110, 116])<|.step (.ml [0, 1, 2, 3, 4, 5, 6, 7, 8, 9, 10, 11, 12, 13, 14, 15, 16, 17, 18, 19, 20, 21]) <|
 .ret [22]
def d57 : PDef := .fn [.ag 2] [.sc]<|.step (.cell 0 0)<|.step (.cell 1 0)<|.step (.call 51 [1] 0)<|.step (.ci .i64 0)<|.step (.bin .neq 3 4)<|.ite 5
 (.ret [3])
 (.step (.ci .u64 0)<|.step (.bin .eql 2 6)<|.ite 7
 (.step (.ci .i64 18)<|.ret [8])
 (.ret [4]))
def d91 : PDef := .fn [.ag 24, .sc] [.sc]<|.step (.cell 0 0)<|.step (.cell 1 0)<|.step (.cell 2 0)<|.step (.cell 3 0)<|.step (.cell 4 0)<|.step (.cell 5 0)<|.step (.cell 6 0)<|.step (.cell 7 0) <|
 .step (.cell 8 0)<|.step (.cell 9 0)<|.step (.cell 10 0)<|.step (.cell 11 0)<|.step (.cell 12 0)<|.step (.cell 13 0)<|.step (.cell 14 0)<|.step (.cell 15 0)<|.step (.cell 16 0) <|
 .step (.cell 17 0)<|.step (.cell 18 0)<|.step (.cell 19 0)<|.step (.cell 20 0)<|.step (.cell 21 0)<|.step (.cell 22 0)<|.step (.cell 23 0)<|.step (.cs [105, 100])<|.step (.bin .eql 1 26) <|
 .ite 27
 (.ret [3])
 (.step (.cs [109, 105, 110])<|.step (.bin .eql 1 28)<|.ite 29
 (.ret [4])
 (.step (.cs [109, 97, 120])<|.step (.bin .eql 1 30)<|.ite 31
 (.ret [5])
 (.step (.cs [99, 104, 111, 115, 101, 110])<|.step (.bin .eql 1 32)<|.ite 33
 (.ret [6])
 (.step (.cs [102, 108, 97, 103, 115])<|.step (.bin .eql 1 34)<|.ite 35
 (.ret [7])
 (.step (.cs [99, 111, 115, 116])<|.step (.bin .eql 1 36)<|.ite 37
 (.ret [8])
 (.step (.cs [112, 114, 105, 111, 114, 105, 116, 121])<|.step (.bin .eql 1 38)<|.ite 39
 (.ret [9])
 (.step (.cs [100, 101, 97, 100, 108, 105, 110, 101])<|.step (.bin .eql 1 40)<|.ite 41
 (.ret [10])
 (.step (.cs [114, 101, 116, 114, 121])<|.step (.bin .eql 1 42)<|.ite 43
 (.ret [11])
 (.step (.cs [101, 112, 111, 99, 104])<|.step (.bin .eql 1 44)<|.ite 45
 (.ret [12])
 (.step (.cs [98, 97, 115, 101])<|.step (.bin .eql 1 46)<|.ite 47
 (.ret [13])
 (.step (.cs [100, 105, 103, 101, 115, 116])<|.step (.bin .eql 1 48)<|.ite 49
 (.ret [14])
 (.step (.cs [108, 97, 103])<|.step (.bin .eql 1 50)<|.ite 51
 (.ret [15])
 (.step (.cs [99, 111, 100, 101])<|.step (.bin .eql 1 52)<|.ite 53
 (.ret [16])
 (.ret [17]))))))))))))))
def d24 : PDef := .fn [.sc] [.sc]<|.step (.len 0)<|.step (.ci .i64 0)<|.step (.ml [])<|.step (.call 25 [3, 0, 1, 2] 0)<|.step (.call 25 [3, 0, 1, 2] 1)<|.ret [5]
def d105 : PDef := .fn [.sc, .sc, .sc] [.sc]<|.step (.slen 0)<|.step (.bin .lss 3 1)<|.ite 4
 (.step (.ci .i64 13)<|.ret [5])
 (.step (.bin .gtr 3 2)<|.ite 5
 (.step (.ci .i64 13)<|.ret [6])
 (.step (.call 106 [0] 0)<|.step (.un .not 6)<|.ite 7
 (.step (.ci .i64 11)<|.ret [8])
 (.step (.ci .i64 0)<|.ret [8])))
def d37 : PDef := .fn [] [.sc]<|.step (.ci .u64 1)<|.step (.ci .i64 0)<|.step (.ci .i64 1)<|.step (.cs [101, 112, 111, 99, 104])<|.step (.mk [0, 1, 2, 3])<|.step (.ci .u64 2)<|.step (.cs [99, 111, 100, 101]) <|
 .step (.mk [5, 1, 2, 6])<|.step (.ci .u64 3)<|.step (.ci .i64 2)<|.step (.cs [119, 97, 110, 116])<|.step (.mk [8, 1, 9, 10])<|.step (.ci .u64 4)<|.step (.ci .i64 3)<|.step (.cs [110, 111, 116, 101]) <|
 .step (.mk [12, 13, 13, 14])<|.step (.ml [4, 7, 11, 15])<|.ret [16]
def d94 : PDef := .fn [.sc] [.sc]<|.step (.cs [])<|.step (.call 95 [0, 1] 0)<|.step (.call 95 [0, 1] 1)<|.step (.call 95 [0, 1] 2)<|.step (.conv .u8 3)<|.step (.ml [5])<|.step (.str 6) <|
 .step (.bin .add 4 7)<|.ret [8]
def d104 : PDef := .fn [.ag 2] [.sc]<|.step (.cell 0 0)<|.step (.cell 1 0)<|.step (.ci .i64 1)<|.step (.ci .i64 64)<|.step (.call 105 [1, 3, 4] 0)<|.step (.ci .i64 0)<|.step (.bin .neq 5 6) <|
 .ite 7
 (.ret [5])
 (.step (.ci .i64 256)<|.step (.call 105 [2, 6, 8] 0)<|.ret [9])
def d36 : PDef := .fn [] [.sc]<|.step (.ci .u64 1)<|.step (.ci .i64 0)<|.step (.ci .i64 1)<|.step (.cs [101, 112, 111, 99, 104])<|.step (.mk [0, 1, 2, 3])<|.step (.ci .u64 2)<|.step (.ci .i64 3) <|
 .step (.cs [108, 97, 103])<|.step (.mk [5, 1, 6, 7])<|.step (.ml [4, 8])<|.ret [9]
def d92 : PDef := .fn [.ag 24, .sc] [.sc]<|.step (.cell 0 0)<|.step (.cell 1 0)<|.step (.cell 2 0)<|.step (.cell 3 0)<|.step (.cell 4 0)<|.step (.cell 5 0)<|.step (.cell 6 0)<|.step (.cell 7 0) <|
 .step (.cell 8 0)<|.step (.cell 9 0)<|.step (.cell 10 0)<|.step (.cell 11 0)<|.step (.cell 12 0)<|.step (.cell 13 0)<|.step (.cell 14 0)<|.step (.cell 15 0)<|.step (.cell 16 0) <|
 .step (.cell 17 0)<|.step (.cell 18 0)<|.step (.cell 19 0)<|.step (.cell 20 0)<|.step (.cell 21 0)<|.step (.cell 22 0)<|.step (.cell 23 0)<|.step (.cs [110, 97, 109, 101])<|.step (.bin .eql 1 26) <|
 .ite 27
 (.ret [20])
 (.step (.cs [114, 101, 103, 105, 111, 110])<|.step (.bin .eql 1 28)<|.ite 29
 (.ret [21])
 (.ret [22]))
def d20 : PDef := .fn [.sc] [.sc]<|.step (.len 0)<|.step (.ci .i64 0)<|.step (.ml [])<|.step (.call 21 [3, 0, 1, 2] 0)<|.step (.call 21 [3, 0, 1, 2] 1)<|.ret [5]
def d2 : PDef := .fn [.sc] [.sc]<|.step (.len 0)<|.step (.ci .i64 0)<|.step (.call 3 [0, 1, 2] 0)<|.step (.bin .eql 3 2)<|.ite 4
 (.step (.cb false)<|.ret [5])
 (.step (.ci .i64 40)<|.step (.bin .leq 1 5)<|.ret [6])
def d81 : PDef := .fn [.sc] [.sc]<|.step (.ci .i64 1)<|.step (.bin .eql 0 1)<|.ite 2
 (.step (.ci .u64 1)<|.step (.ci .i64 0)<|.step (.cs [109, 105, 110])<|.step (.mk [3, 4, 1, 5])<|.step (.ci .u64 2)<|.step (.cs [109, 97, 120])<|.step (.mk [7, 4, 1, 8])<|.step (.ci .u64 3) <|
 .step (.ci .i64 3)<|.step (.cs [110, 97, 109, 101])<|.step (.mk [10, 11, 1, 12])<|.step (.ci .u64 4)<|.step (.ci .i64 2)<|.step (.cs [114, 101, 103, 105, 111, 110])<|.step (.mk [14, 11, 15, 16]) <|
 .step (.ci .u64 5)<|.step (.cs [102, 108, 97, 103, 115])<|.step (.mk [18, 4, 11, 19])<|.step (.ml [6, 9, 13, 17, 20])<|.ret [21])
 (.step (.ci .i64 2)<|.step (.bin .eql 0 3)<|.ite 4
 (.step (.ci .u64 1)<|.step (.ci .i64 0)<|.step (.cs [99, 104, 111, 115, 101, 110])<|.step (.mk [5, 6, 1, 7])<|.step (.ci .u64 2)<|.step (.ci .i64 3)<|.step (.cs [110, 97, 109, 101]) <|
 .step (.mk [9, 10, 1, 11])<|.step (.ci .u64 3)<|.step (.cs [114, 101, 103, 105, 111, 110])<|.step (.mk [13, 10, 3, 14])<|.step (.ml [8, 12, 15])<|.ret [16])
 (.step (.ci .i64 3)<|.step (.bin .eql 0 5)<|.ite 6
 (.step (.ci .u64 1)<|.step (.ci .i64 0)<|.step (.cs [105, 100])<|.step (.mk [7, 8, 1, 9])<|.step (.ci .u64 2)<|.step (.ci .i64 4)<|.step (.cs [100, 101, 115, 99, 114])<|.step (.mk [11, 12, 1, 13]) <|
 .step (.ci .u64 3)<|.step (.cs [99, 111, 115, 116])<|.step (.mk [15, 8, 1, 16])<|.step (.ci .u64 4)<|.step (.cs [112, 114, 105, 111, 114, 105, 116, 121])<|.step (.mk [18, 8, 3, 19]) <|
 .step (.ci .u64 5)<|.step (.cs [100, 101, 97, 100, 108, 105, 110, 101])<|.step (.mk [21, 8, 5, 22])<|.step (.ml [10, 14, 17, 20, 23])<|.ret [24])
 (.step (.ci .i64 4)<|.step (.bin .eql 0 7)<|.ite 8
 (.step (.ci .u64 1)<|.step (.ci .i64 0)<|.step (.cs [105, 100])<|.step (.mk [9, 10, 1, 11])<|.step (.ci .u64 2)<|.step (.cs [97, 108, 108, 111, 119, 101, 100])<|.step (.mk [13, 1, 1, 14]) <|
 .step (.ci .u64 3)<|.step (.cs [114, 101, 109, 97, 105, 110, 105, 110, 103])<|.step (.mk [16, 3, 1, 17])<|.step (.ci .u64 4)<|.step (.cs [114, 101, 116, 114, 121])<|.step (.mk [19, 10, 3, 20]) <|
 .step (.ci .u64 5)<|.step (.cs [110, 111, 116, 101])<|.step (.mk [22, 5, 5, 23])<|.step (.ml [12, 15, 18, 21, 24])<|.ret [25])
 (.step (.ci .i64 5)<|.step (.bin .eql 0 9)<|.ite 10
 (.step (.ci .u64 1)<|.step (.ci .i64 0)<|.step (.cs [101, 112, 111, 99, 104])<|.step (.mk [11, 12, 1, 13])<|.step (.ci .u64 2)<|.step (.cs [116, 97, 98, 108, 101])<|.step (.mk [15, 9, 1, 16]) <|
 .step (.ci .u64 3)<|.step (.cs [114, 101, 103, 105, 111, 110])<|.step (.mk [18, 5, 3, 19])<|.step (.ci .u64 4)<|.step (.cs [100, 105, 103, 101, 115, 116])<|.step (.mk [21, 12, 5, 22]) <|
 .step (.ml [14, 17, 20, 23])<|.ret [24])
 (.step (.ci .i64 6)<|.step (.bin .eql 0 11)<|.ite 12
 (.step (.ci .u64 1)<|.step (.ci .i64 0)<|.step (.cs [98, 97, 115, 101])<|.step (.mk [13, 14, 3, 15])<|.step (.ci .u64 2)<|.step (.cs [101, 112, 111, 99, 104])<|.step (.mk [17, 14, 3, 18]) <|
 .step (.ci .u64 3)<|.step (.cs [116, 97, 98, 108, 101])<|.step (.mk [20, 9, 3, 21])<|.step (.ci .u64 4)<|.step (.cs [114, 101, 103, 105, 111, 110])<|.step (.mk [23, 5, 3, 24])<|.step (.ci .u64 5) <|
 .step (.cs [100, 105, 103, 101, 115, 116])<|.step (.mk [26, 14, 5, 27])<|.step (.ml [16, 19, 22, 25, 28])<|.ret [29])
 (.step (.ci .i64 7)<|.step (.bin .eql 0 13)<|.ite 14
 (.step (.ci .u64 1)<|.step (.ci .i64 0)<|.step (.cs [101, 112, 111, 99, 104])<|.step (.mk [15, 16, 1, 17])<|.step (.ci .u64 2)<|.step (.cs [108, 97, 103])<|.step (.mk [19, 16, 5, 20]) <|
 .step (.ml [18, 21])<|.ret [22])
 (.step (.ci .i64 8)<|.step (.bin .eql 0 15)<|.ite 16
 (.step (.ci .u64 1)<|.step (.ci .i64 0)<|.step (.cs [101, 112, 111, 99, 104])<|.step (.mk [17, 18, 1, 19])<|.step (.ci .u64 2)<|.step (.cs [99, 111, 100, 101])<|.step (.mk [21, 18, 1, 22]) <|
 .step (.ci .u64 3)<|.step (.cs [119, 97, 110, 116])<|.step (.mk [24, 18, 3, 25])<|.step (.ci .u64 4)<|.step (.cs [110, 111, 116, 101])<|.step (.mk [27, 5, 5, 28])<|.step (.ml [20, 23, 26, 29]) <|
 .ret [30])
 (.step (.ml [])<|.ret [17]))))))))
def d112 : PDef := .fn [.sc, .sc] [.sc]<|.step (.ci .i64 0)<|.step (.call 113 [0, 1, 2] 0)<|.step (.bin .eql 3 2)<|.ite 4
 (.step (.call 113 [0, 1, 2] 1)<|.ret [5])
 (.step (.slen 0)<|.step (.slen 1)<|.step (.bin .lss 5 6)<|.ret [7])
def d12 : PDef := .fn [.ag 2] [.sc]<|.step (.cell 0 0)<|.step (.cell 1 0)<|.step (.slen 1)<|.step (.conv .u64 3)<|.step (.call 7 [4] 0)<|.step (.bin .add 5 1)<|.step (.slen 2)<|.step (.conv .u64 7) <|
 .step (.call 7 [8] 0)<|.step (.bin .add 6 9)<|.step (.bin .add 10 2)<|.ret [11]
def d114 : PDef := .fn [.sc, .sc] [.sc]<|.step (.cs [])<|.step (.mk [0, 2])<|.step (.mk [1, 2])<|.step (.call 111 [3, 4] 0)<|.step (.ci .i64 0)<|.step (.bin .lss 5 6)<|.ret [7]
def d99 : PDef := .fn [.sc] [.sc]<|.step (.len 0)<|.step (.ci .i64 256)<|.step (.bin .gtr 1 2)<|.ite 3
 (.step (.ci .i64 13)<|.ret [4])
 (.step (.ci .i64 0)<|.step (.call 100 [0, 1, 4] 0)<|.step (.bin .eql 5 4)<|.ite 6
 (.step (.call 100 [0, 1, 4] 1)<|.ret [7])
 (.ret [4]))
def d1 : PDef := .fn [.ag 24] [.sc]<|.step (.cell 0 0)<|.step (.cell 1 0)<|.step (.cell 2 0)<|.step (.cell 3 0)<|.step (.cell 4 0)<|.step (.cell 5 0)<|.step (.cell 6 0)<|.step (.cell 7 0) <|
 .step (.cell 8 0)<|.step (.cell 9 0)<|.step (.cell 10 0)<|.step (.cell 11 0)<|.step (.cell 12 0)<|.step (.cell 13 0)<|.step (.cell 14 0)<|.step (.cell 15 0)<|.step (.cell 16 0) <|
 .step (.cell 17 0)<|.step (.cell 18 0)<|.step (.cell 19 0)<|.step (.cell 20 0)<|.step (.cell 21 0)<|.step (.cell 22 0)<|.step (.cell 23 0)<|.step (.slen 19)<|.step (.ci .i64 600) <|
 .step (.bin .leq 25 26)<|.ite 27
 (.step (.slen 20)<|.step (.bin .leq 28 26)<|.ite 29
 (.step (.slen 21)<|.step (.bin .leq 30 26)<|.ite 31
 (.step (.call 2 [22] 0)<|.ite 32
 (.step (.call 4 [23] 0)<|.ite 33
 (.step (.call 13 [24] 0)<|.ret [34])
 (.step (.cb false)<|.ret [34]))
 (.step (.cb false)<|.ret [33]))
 (.step (.cb false)<|.ret [32]))
 (.step (.cb false)<|.ret [30]))
 (.step (.cb false)<|.ret [28])
def d131 : PDef := .fn [.sc, .sc] [.sc]<|.step (.ci .i64 0)<|.step (.call 132 [0, 1, 2] 0)<|.step (.call 132 [0, 1, 2] 1)<|.ret [4]
def d22 : PDef := .fn [.sc] [.sc]<|.step (.len 0)<|.step (.ci .i64 0)<|.step (.ml [])<|.step (.call 23 [3, 0, 1, 2] 0)<|.step (.call 23 [3, 0, 1, 2] 1)<|.ret [5]
def d7 : PDef := .fn [.sc] [.sc]<|.step (.call 8 [0] 0)<|.step (.ci .u8 0)<|.step (.rep 1 1 2 1 1)<|.step (.len 3)<|.step (.ci .i64 0)<|.step (.call 10 [0, 3, 4, 5] 0)<|.step (.call 10 [0, 3, 4, 5] 1) <|
 .step (.len 7)<|.step (.ci .i64 1)<|.step (.bin .sub 8 9)<|.step (.idx 7 10)<|.step (.at 1 7 11)<|.step (.cell 0 12)<|.step (.ci .u8 127)<|.step (.bin .and 13 14)<|.step (.upd 1 0 7 11 [15]) <|
 .step (.str 16)<|.ret [17]
def d8 : PDef := .fn [.sc] [.sc]<|.step (.ci .i64 1)<|.step (.call 9 [0, 1] 0)<|.step (.call 9 [0, 1] 1)<|.ret [3]
def d75 : PDef := .fn [.sc, .sc] [.sc]<|.step (.len 0)<|.step (.ci .u64 0)<|.step (.ci .i64 0)<|.step (.call 76 [1, 3, 0, 2, 4] 0)<|.step (.bin .eql 5 4)<|.ite 6
 (.step (.call 76 [1, 3, 0, 2, 4] 1)<|.ret [7])
 (.ret [4])
def d51 : PDef := .fn [.sc] [.sc]<|.step (.len 0)<|.step (.conv .u64 1)<|.step (.ci .u64 0)<|.step (.bin .eql 2 3)<|.ite 4
 (.step (.ci .i64 12)<|.ret [5])
 (.step (.ci .u64 16)<|.step (.bin .gtr 2 5)<|.ite 6
 (.step (.ci .i64 13)<|.ret [7])
 (.step (.ci .i64 0)<|.step (.call 52 [0, 1, 7] 0)<|.step (.bin .eql 8 7)<|.ite 9
 (.step (.call 52 [0, 1, 7] 1)<|.ret [10])
 (.ret [7])))
def d106 : PDef := .fn [.sc] [.sc]<|.step (.call 107 [0] 0)<|.step (.ci .i64 0)<|.step (.bin .eql 1 2)<|.ite 3
 (.step (.cb false)<|.ret [4])
 (.step (.cb true)<|.ret [4])
abbrev d47 : PDef := .prim validP
def d33 : PDef := .fn [] [.sc]<|.step (.ci .u64 1)<|.step (.ci .i64 0)<|.step (.ci .i64 1)<|.step (.cs [105, 100])<|.step (.mk [0, 1, 2, 3])<|.step (.ci .u64 2)<|.step (.cs [97, 108, 108, 111, 119, 101, 100]) <|
 .step (.mk [5, 2, 2, 6])<|.step (.ci .u64 3)<|.step (.ci .i64 2)<|.step (.cs [114, 101, 109, 97, 105, 110, 105, 110, 103])<|.step (.mk [8, 9, 2, 10])<|.step (.ci .u64 4)<|.step (.cs [114, 101, 116, 114, 121]) <|
 .step (.mk [12, 1, 9, 13])<|.step (.ci .u64 5)<|.step (.ci .i64 3)<|.step (.cs [110, 111, 116, 101])<|.step (.mk [15, 16, 16, 17])<|.step (.ml [4, 7, 11, 14, 18])<|.ret [19]
def d45 : PDef := .fn [.sc, .sc, .sc] [.sc]<|.step (.slen 0)<|.step (.bin .lss 3 1)<|.ite 4
 (.step (.ci .i64 13)<|.ret [5])
 (.step (.bin .gtr 3 2)<|.ite 5
 (.step (.ci .i64 13)<|.ret [6])
 (.step (.call 46 [0] 0)<|.step (.un .not 6)<|.ite 7
 (.step (.ci .i64 11)<|.ret [8])
 (.step (.ci .i64 0)<|.ret [8])))
def d108 : PDef := .fn [.sc] [.sc]<|.step (.slen 0)<|.step (.ci .i64 0)<|.step (.bin .eql 1 2)<|.ite 3
 (.ret [2])
 (.step (.sidx 0 2)<|.step (.conv .i64 4)<|.step (.ci .i64 128)<|.step (.bin .lss 5 6)<|.ite 7
 (.step (.ci .i64 1)<|.ret [8])
 (.step (.ci .i64 192)<|.step (.bin .geq 5 8)<|.ite 9
 (.step (.ci .i64 224)<|.step (.bin .lss 5 10)<|.ite 11
 (.step (.bin .sub 5 8)<|.step (.ci .i64 2)<|.step (.bin .lss 1 13)<|.ite 14
 (.ret [2])
 (.step (.ci .i64 1)<|.step (.call 109 [0, 13, 12, 6, 15] 0)<|.step (.bin .eql 16 2)<|.ite 17
 (.ret [2])
 (.step (.call 109 [0, 13, 12, 6, 15] 1)<|.step (.bin .lss 18 6)<|.ite 19
 (.ret [2])
 (.step (.ci .i64 1114111)<|.step (.bin .gtr 18 20)<|.ite 21
 (.ret [2])
 (.step (.ci .i64 55296)<|.step (.bin .geq 18 22)<|.ite 23
 (.step (.ci .i64 57344)<|.step (.bin .lss 18 24)<|.ite 25
 (.ret [2])
 (.ret [13]))
 (.ret [13]))))))
 (.step (.bin .geq 5 10)<|.step (.ci .i64 240)<|.step (.bin .lss 5 13)<|.ite 14
 (.step (.bin .sub 5 10)<|.step (.ci .i64 3)<|.step (.bin .lss 1 16)<|.ite 17
 (.ret [2])
 (.step (.ci .i64 2048)<|.step (.ci .i64 1)<|.step (.call 109 [0, 16, 15, 18, 19] 0)<|.step (.bin .eql 20 2)<|.ite 21
 (.ret [2])
 (.step (.call 109 [0, 16, 15, 18, 19] 1)<|.step (.bin .lss 22 18)<|.ite 23
 (.ret [2])
 (.step (.ci .i64 1114111)<|.step (.bin .gtr 22 24)<|.ite 25
 (.ret [2])
 (.step (.ci .i64 55296)<|.step (.bin .geq 22 26)<|.ite 27
 (.step (.ci .i64 57344)<|.step (.bin .lss 22 28)<|.ite 29
 (.ret [2])
 (.ret [16]))
 (.ret [16]))))))
 (.step (.bin .geq 5 13)<|.step (.ci .i64 248)<|.step (.bin .lss 5 16)<|.ite 17
 (.step (.bin .sub 5 13)<|.step (.ci .i64 4)<|.step (.bin .lss 1 19)<|.ite 20
 (.ret [2])
 (.step (.ci .i64 65536)<|.step (.ci .i64 1)<|.step (.call 109 [0, 19, 18, 21, 22] 0)<|.step (.bin .eql 23 2)<|.ite 24
 (.ret [2])
 (.step (.call 109 [0, 19, 18, 21, 22] 1)<|.step (.bin .lss 25 21)<|.ite 26
 (.ret [2])
 (.step (.ci .i64 1114111)<|.step (.bin .gtr 25 27)<|.ite 28
 (.ret [2])
 (.step (.ci .i64 55296)<|.step (.bin .geq 25 29)<|.ite 30
 (.step (.ci .i64 57344)<|.step (.bin .lss 25 31)<|.ite 32
 (.ret [2])
 (.ret [19]))
 (.ret [19]))))))
 (.ret [2]))))
 (.step (.ci .i64 224)<|.step (.bin .geq 5 10)<|.ite 11
 (.step (.ci .i64 240)<|.step (.bin .lss 5 12)<|.ite 13
 (.step (.bin .sub 5 10)<|.step (.ci .i64 3)<|.step (.bin .lss 1 15)<|.ite 16
 (.ret [2])
 (.step (.ci .i64 2048)<|.step (.ci .i64 1)<|.step (.call 109 [0, 15, 14, 17, 18] 0)<|.step (.bin .eql 19 2)<|.ite 20
 (.ret [2])
 (.step (.call 109 [0, 15, 14, 17, 18] 1)<|.step (.bin .lss 21 17)<|.ite 22
 (.ret [2])
 (.step (.ci .i64 1114111)<|.step (.bin .gtr 21 23)<|.ite 24
 (.ret [2])
 (.step (.ci .i64 55296)<|.step (.bin .geq 21 25)<|.ite 26
 (.step (.ci .i64 57344)<|.step (.bin .lss 21 27)<|.ite 28
 (.ret [2])
 (.ret [15]))
 (.ret [15]))))))
 (.step (.bin .geq 5 12)<|.step (.ci .i64 248)<|.step (.bin .lss 5 15)<|.ite 16
 (.step (.bin .sub 5 12)<|.step (.ci .i64 4)<|.step (.bin .lss 1 18)<|.ite 19
 (.ret [2])
 (.step (.ci .i64 65536)<|.step (.ci .i64 1)<|.step (.call 109 [0, 18, 17, 20, 21] 0)<|.step (.bin .eql 22 2)<|.ite 23
 (.ret [2])
 (.step (.call 109 [0, 18, 17, 20, 21] 1)<|.step (.bin .lss 24 20)<|.ite 25
 (.ret [2])
 (.step (.ci .i64 1114111)<|.step (.bin .gtr 24 26)<|.ite 27
 (.ret [2])
 (.step (.ci .i64 55296)<|.step (.bin .geq 24 28)<|.ite 29
 (.step (.ci .i64 57344)<|.step (.bin .lss 24 30)<|.ite 31
 (.ret [2])
 (.ret [18]))
 (.ret [18]))))))
 (.ret [2])))
 (.step (.ci .i64 240)<|.step (.bin .geq 5 12)<|.ite 13
 (.step (.ci .i64 248)<|.step (.bin .lss 5 14)<|.ite 15
 (.step (.bin .sub 5 12)<|.step (.ci .i64 4)<|.step (.bin .lss 1 17)<|.ite 18
 (.ret [2])
 (.step (.ci .i64 65536)<|.step (.ci .i64 1)<|.step (.call 109 [0, 17, 16, 19, 20] 0)<|.step (.bin .eql 21 2)<|.ite 22
 (.ret [2])
 (.step (.call 109 [0, 17, 16, 19, 20] 1)<|.step (.bin .lss 23 19)<|.ite 24
 (.ret [2])
 (.step (.ci .i64 1114111)<|.step (.bin .gtr 23 25)<|.ite 26
 (.ret [2])
 (.step (.ci .i64 55296)<|.step (.bin .geq 23 27)<|.ite 28
 (.step (.ci .i64 57344)<|.step (.bin .lss 23 29)<|.ite 30
 (.ret [2])
 (.ret [17]))
 (.ret [17]))))))
 (.ret [2]))
 (.ret [2])))))
def d93 : PDef := .fn [.sc] [.sc]<|.step (.len 0)<|.step (.conv .u64 1)<|.step (.call 94 [2] 0)<|.step (.ci .i64 0)<|.step (.call 96 [3, 0, 1, 4] 0)<|.step (.call 96 [3, 0, 1, 4] 1) <|
 .ret [6]
def d16 : PDef := .fn [.sc] [.sc]<|.step (.ci .u8 0)<|.step (.call 17 [0, 1] 0)<|.step (.call 17 [0, 1] 1)<|.ret [2]
def d27 : PDef := .fn [.sc] [.sc]<|.step (.ci .i64 0)<|.step (.bin .eql 0 1)<|.step (.ci .i64 1)<|.step (.bin .eql 0 3)<|.ite 4
 (.ret [3])
 (.step (.ci .i64 2)<|.step (.bin .eql 0 5)<|.ite 6
 (.ret [3])
 (.step (.ci .i64 3)<|.step (.bin .eql 0 7)<|.ite 8
 (.ret [3])
 (.step (.ci .i64 4)<|.step (.bin .eql 0 9)<|.ite 10
 (.ret [3])
 (.step (.ci .i64 5)<|.step (.bin .eql 0 11)<|.ite 12
 (.ret [3])
 (.step (.ci .i64 6)<|.step (.bin .eql 0 13)<|.ite 14
 (.ret [5])
 (.step (.ci .i64 7)<|.step (.bin .eql 0 15)<|.ite 16
 (.ret [3])
 (.step (.ci .i64 8)<|.step (.bin .eql 0 17)<|.ite 18
 (.ret [3])
 (.ret [1]))))))))
def d121 : PDef := .fn [.sc, .sc] [.sc]<|.step (.len 0)<|.step (.ci .i64 0)<|.step (.call 122 [0, 1, 2, 3] 0)<|.step (.bin .eql 4 3)<|.ite 5
 (.step (.call 122 [0, 1, 2, 3] 1)<|.ret [6])
 (.ret [3])
def d28 : PDef := .fn [.sc, .sc] [.sc]<|.step (.ci .i64 0)<|.step (.bin .eql 0 2)<|.step (.ci .i64 1)<|.step (.bin .eql 0 4)<|.ite 5
 (.step (.bin .lss 1 4)<|.ite 6
 (.step (.ml [])<|.ret [7])
 (.step (.ci .i64 3)<|.step (.bin .gtr 1 7)<|.ite 8
 (.step (.ml [])<|.ret [9])
 (.step (.call 29 [] 0)<|.step (.len 9)<|.step (.ml [])<|.step (.call 30 [1, 11, 9, 10, 2] 0)<|.step (.call 30 [1, 11, 9, 10, 2] 1)<|.ret [13])))
 (.step (.ci .i64 2)<|.step (.bin .eql 0 6)<|.ite 7
 (.step (.bin .lss 1 4)<|.ite 8
 (.step (.ml [])<|.ret [9])
 (.step (.ci .i64 3)<|.step (.bin .gtr 1 9)<|.ite 10
 (.step (.ml [])<|.ret [11])
 (.step (.call 31 [] 0)<|.step (.len 11)<|.step (.ml [])<|.step (.call 30 [1, 13, 11, 12, 2] 0)<|.step (.call 30 [1, 13, 11, 12, 2] 1)<|.ret [15])))
 (.step (.ci .i64 3)<|.step (.bin .eql 0 8)<|.ite 9
 (.step (.bin .lss 1 4)<|.ite 10
 (.step (.ml [])<|.ret [11])
 (.step (.bin .gtr 1 8)<|.ite 11
 (.step (.ml [])<|.ret [12])
 (.step (.call 32 [] 0)<|.step (.len 12)<|.step (.ml [])<|.step (.call 30 [1, 14, 12, 13, 2] 0)<|.step (.call 30 [1, 14, 12, 13, 2] 1)<|.ret [16])))
 (.step (.ci .i64 4)<|.step (.bin .eql 0 10)<|.ite 11
 (.step (.bin .lss 1 4)<|.ite 12
 (.step (.ml [])<|.ret [13])
 (.step (.bin .gtr 1 8)<|.ite 13
 (.step (.ml [])<|.ret [14])
 (.step (.call 33 [] 0)<|.step (.len 14)<|.step (.ml [])<|.step (.call 30 [1, 16, 14, 15, 2] 0)<|.step (.call 30 [1, 16, 14, 15, 2] 1)<|.ret [18])))
 (.step (.ci .i64 5)<|.step (.bin .eql 0 12)<|.ite 13
 (.step (.bin .lss 1 4)<|.ite 14
 (.step (.ml [])<|.ret [15])
 (.step (.bin .gtr 1 8)<|.ite 15
 (.step (.ml [])<|.ret [16])
 (.step (.call 34 [] 0)<|.step (.len 16)<|.step (.ml [])<|.step (.call 30 [1, 18, 16, 17, 2] 0)<|.step (.call 30 [1, 18, 16, 17, 2] 1)<|.ret [20])))
 (.step (.ci .i64 6)<|.step (.bin .eql 0 14)<|.ite 15
 (.step (.bin .lss 1 6)<|.ite 16
 (.step (.ml [])<|.ret [17])
 (.step (.bin .gtr 1 8)<|.ite 17
 (.step (.ml [])<|.ret [18])
 (.step (.call 35 [] 0)<|.step (.len 18)<|.step (.ml [])<|.step (.call 30 [1, 20, 18, 19, 2] 0)<|.step (.call 30 [1, 20, 18, 19, 2] 1)<|.ret [22])))
 (.step (.ci .i64 7)<|.step (.bin .eql 0 16)<|.ite 17
 (.step (.bin .lss 1 4)<|.ite 18
 (.step (.ml [])<|.ret [19])
 (.step (.bin .gtr 1 8)<|.ite 19
 (.step (.ml [])<|.ret [20])
 (.step (.call 36 [] 0)<|.step (.len 20)<|.step (.ml [])<|.step (.call 30 [1, 22, 20, 21, 2] 0)<|.step (.call 30 [1, 22, 20, 21, 2] 1)<|.ret [24])))
 (.step (.ci .i64 8)<|.step (.bin .eql 0 18)<|.ite 19
 (.step (.bin .lss 1 4)<|.ite 20
 (.step (.ml [])<|.ret [21])
 (.step (.bin .gtr 1 8)<|.ite 21
 (.step (.ml [])<|.ret [22])
 (.step (.call 37 [] 0)<|.step (.len 22)<|.step (.ml [])<|.step (.call 30 [1, 24, 22, 23, 2] 0)<|.step (.call 30 [1, 24, 22, 23, 2] 1)<|.ret [26])))
 (.step (.ml [])<|.ret [20]))))))))
def d32 : PDef := .fn [] [.sc]<|.step (.ci .u64 1)<|.step (.ci .i64 0)<|.step (.ci .i64 1)<|.step (.cs [105, 100])<|.step (.mk [0, 1, 2, 3])<|.step (.ci .u64 2)<|.step (.ci .i64 4) <|
 .step (.cs [100, 101, 115, 99, 114])<|.step (.mk [5, 6, 2, 7])<|.step (.ci .u64 3)<|.step (.cs [99, 111, 115, 116])<|.step (.mk [9, 1, 2, 10])<|.step (.ci .u64 4)<|.step (.ci .i64 2) <|
 .step (.cs [112, 114, 105, 111, 114, 105, 116, 121])<|.step (.mk [12, 1, 13, 14])<|.step (.ci .u64 5)<|.step (.ci .i64 3)<|.step (.cs [100, 101, 97, 100, 108, 105, 110, 101])<|.step (.mk [16, 1, 17, 18]) <|
 .step (.ml [4, 8, 11, 15, 19])<|.ret [20]
def d15 : PDef := .fn [.ag 24] [.ag 24]<|.step (.cell 0 0)<|.step (.cell 1 0)<|.step (.cell 2 0)<|.step (.cell 3 0)<|.step (.cell 4 0)<|.step (.cell 5 0)<|.step (.cell 6 0)<|.step (.cell 7 0) <|
 .step (.cell 8 0)<|.step (.cell 9 0)<|.step (.cell 10 0)<|.step (.cell 11 0)<|.step (.cell 12 0)<|.step (.cell 13 0)<|.step (.cell 14 0)<|.step (.cell 15 0)<|.step (.cell 16 0) <|
 .step (.cell 17 0)<|.step (.cell 18 0)<|.step (.cell 19 0)<|.step (.cell 20 0)<|.step (.cell 21 0)<|.step (.cell 22 0)<|.step (.cell 23 0)<|.step (.call 16 [24] 0)<|.step (.mk [1, 2, 3, 4, 5, 6, 7, 8, 9, 10, 11, 12, 13, 14, 15, 16, 17, 18, 19, 20, 21, 22, 23, 25]) <|
 .ret [26]
def d73 : PDef := .tree 0<|.step (.ci .i64 0)<|.ret [0]
def d72 : PDef := .tree 24<|.step (.ci .i64 0)<|.ret [24]
def d71 : PDef := .tree 24<|.step (.ci .i64 0)<|.ret [24]
def d70 : PDef := .tree 24<|.step (.ci .i64 0)<|.ret [24]
def d69 : PDef := .tree 24<|.step (.ci .i64 0)<|.ret [24]
def d68 : PDef := .tree 24<|.step (.ci .i64 0)<|.ret [24]
def d67 : PDef := .tree 24<|.step (.ci .i64 0)<|.ret [24]
def d66 : PDef := .tree 24<|.step (.ci .i64 0)<|.ret [24]
def d65 : PDef := .tree 24<|.step (.ci .i64 0)<|.ret [24]
def d64 : PDef := .tree 24<|.step (.ci .i64 0)<|.ret [24]
def d63 : PDef := .tree 24<|.step (.ci .i64 0)<|.ret [24]
def d62 : PDef := .tree 24<|.step (.ci .i64 0)<|.ret [24]
def d61 : PDef := .tree 24<|.step (.ci .i64 0)<|.ret [24]
def d60 : PDef := .tree 24<|.step (.ci .i64 0)<|.ret [24]
def d59 : PDef := .tree 24<|.step (.ci .i64 0)<|.ret [24]
def d58 : PDef := .tree 24<|.step (.ci .i64 0)<|.ret [24]
def d54 : PDef := .tree 24<|.step (.call 55 [22] 0)<|.step (.ci .i64 0)<|.ret [25, 24]
def d50 : PDef := .tree 24<|.step (.len 21)<|.step (.ci .i64 0)<|.step (.bin .gtr 24 25)<|.ite 26
 (.step (.call 51 [21] 0)<|.ret [25, 27])
 (.ret [25, 25])
def d49 : PDef := .tree 24<|.step (.ci .i64 0)<|.step (.ci .i64 256)<|.step (.call 45 [20, 24, 25] 0)<|.ret [24, 26]
def d48 : PDef := .tree 24<|.step (.ci .i64 0)<|.step (.ci .i64 256)<|.step (.call 45 [19, 24, 25] 0)<|.ret [24, 26]
def d44 : PDef := .tree 24<|.step (.ci .i64 0)<|.step (.ci .i64 256)<|.step (.call 45 [18, 24, 25] 0)<|.ret [24, 26]
def d43 : PDef := .tree 24<|.step (.ci .i64 0)<|.ret [24]
def d42 : PDef := .tree 24<|.step (.ci .i64 0)<|.ret [24]
def d23 : PDef := .tree 4<|.step (.bin .lss 3 2)<|.ite 4
 (.step (.at 2 1 3)<|.step (.cell 0 5)<|.step (.cell 1 5)<|.step (.call 20 [6] 0)<|.step (.mk [8, 7])<|.step (.ml [9])<|.step (.app 2 32 0 10)<|.step (.ci .i64 1)<|.step (.bin .add 3 12) <|
 .tail 23 [11, 1, 2, 13])
 (.step (.ci .i64 0)<|.ret [5, 0])
def d135 : PDef := .tree 5<|.step (.bin .lss 2 1)<|.ite 5
 (.step (.at 5 3 2)<|.step (.at 5 4 2)<|.step (.cell 0 6)<|.step (.cell 0 7)<|.step (.bin .eql 8 9)<|.ite 10
 (.step (.cell 1 6)<|.step (.cell 1 7)<|.step (.bin .eql 11 12)<|.ite 13
 (.step (.cell 2 6)<|.step (.cell 2 7)<|.step (.bin .eql 14 15)<|.ite 16
 (.step (.cell 3 6)<|.step (.cell 3 7)<|.step (.bin .eql 17 18)<|.step (.un .not 19)<|.ite 20
 (.step (.ci .i64 0)<|.ret [21])
 (.step (.cell 4 6)<|.step (.len 21)<|.step (.ci .i64 0)<|.step (.bin .gtr 22 23)<|.ite 24
 (.step (.cell 4 7)<|.step (.mk [21, 25])<|.step (.ml [26])<|.step (.app 2 48 0 27)<|.step (.ci .i64 1)<|.step (.bin .add 2 29)<|.tail 135 [28, 1, 30, 3, 4])
 (.step (.cell 4 7)<|.step (.len 25)<|.step (.bin .gtr 26 23)<|.ite 27
 (.step (.mk [21, 25])<|.step (.ml [28])<|.step (.app 2 48 0 29)<|.step (.ci .i64 1)<|.step (.bin .add 2 31)<|.tail 135 [30, 1, 32, 3, 4])
 (.step (.ci .i64 1)<|.step (.bin .add 2 28)<|.tail 135 [0, 1, 29, 3, 4]))))
 (.step (.ci .i64 0)<|.ret [17]))
 (.step (.ci .i64 0)<|.ret [14]))
 (.step (.ci .i64 0)<|.ret [11]))
 (.step (.ci .i64 1)<|.ret [6, 0])
def d103 : PDef := .tree 3<|.step (.len 0)<|.step (.bin .lss 2 3)<|.ite 4
 (.step (.ci .i64 0)<|.step (.bin .eql 1 5)<|.ite 6
 (.step (.at 2 0 2)<|.step (.cell 0 7)<|.step (.cell 1 7)<|.step (.mk [8, 9])<|.step (.call 104 [10] 0)<|.step (.bin .eql 11 5)<|.ite 12
 (.step (.bin .gtr 2 5)<|.ite 13
 (.step (.ci .i64 1)<|.step (.bin .sub 2 14)<|.step (.at 2 0 15)<|.step (.cell 0 16)<|.step (.cell 1 16)<|.step (.mk [17, 18])<|.step (.call 110 [19, 10] 0)<|.step (.bin .add 2 14) <|
 .tail 103 [0, 20, 21])
 (.step (.ci .i64 1)<|.step (.bin .add 2 14)<|.tail 103 [0, 11, 15]))
 (.step (.ci .i64 1)<|.step (.bin .add 2 13)<|.tail 103 [0, 11, 14]))
 (.ret [5, 1]))
 (.step (.ci .i64 0)<|.ret [5, 1])
def d119 : PDef := .tree 3<|.step (.slen 0)<|.step (.bin .lss 2 3)<|.ite 4
 (.step (.slen 1)<|.step (.bin .lss 2 5)<|.ite 6
 (.step (.sidx 0 2)<|.step (.sidx 1 2)<|.step (.bin .neq 7 8)<|.ite 9
 (.step (.ci .i64 0)<|.ret [10, 2])
 (.step (.ci .i64 1)<|.step (.bin .add 2 10)<|.tail 119 [0, 1, 11]))
 (.step (.ci .i64 1)<|.ret [7]))
 (.step (.ci .i64 1)<|.ret [5])
def d76 : PDef := .tree 5<|.step (.bin .lss 4 3)<|.ite 5
 (.step (.at 5 2 4)<|.step (.cell 0 6)<|.step (.cell 1 6)<|.step (.cell 2 6)<|.step (.cell 3 6)<|.step (.cell 4 6)<|.step (.ci .u64 0)<|.step (.bin .eql 7 12)<|.ite 13
 (.step (.ci .i64 18)<|.step (.ci .i64 0)<|.ret [15, 14])
 (.step (.ci .u64 4294967296)<|.step (.bin .gtr 7 14)<|.ite 15
 (.step (.ci .i64 18)<|.step (.ci .i64 0)<|.ret [17, 16])
 (.step (.bin .leq 7 1)<|.ite 16
 (.step (.ci .i64 7)<|.step (.ci .i64 0)<|.ret [18, 17])
 (.step (.ci .i64 0)<|.step (.bin .eql 8 17)<|.ite 18
 (.step (.cs [])<|.step (.bin .eql 10 19)<|.ite 20
 (.step (.len 11)<|.step (.bin .eql 21 17)<|.step (.un .not 22)<|.ite 23
 (.step (.ci .i64 8)<|.ret [17, 24])
 (.step (.ci .i64 2)<|.step (.bin .neq 8 24)<|.step (.ci .i64 1)<|.step (.bin .add 4 26)<|.tail 76 [0, 7, 2, 3, 27]))
 (.step (.ci .i64 8)<|.ret [17, 21]))
 (.step (.ci .i64 1)<|.step (.bin .eql 8 19)<|.ite 20
 (.step (.bin .eql 9 12)<|.ite 21
 (.step (.len 11)<|.step (.bin .eql 22 17)<|.step (.un .not 23)<|.ite 24
 (.step (.ci .i64 8)<|.ret [17, 25])
 (.step (.ci .i64 2)<|.step (.bin .neq 8 25)<|.step (.bin .add 4 19)<|.tail 76 [0, 7, 2, 3, 27]))
 (.step (.ci .i64 8)<|.ret [17, 22]))
 (.step (.ci .i64 2)<|.step (.bin .eql 8 21)<|.ite 22
 (.step (.bin .eql 9 12)<|.ite 23
 (.step (.cs [])<|.step (.bin .eql 10 24)<|.step (.un .not 25)<|.ite 26
 (.step (.ci .i64 8)<|.ret [17, 27])
 (.step (.bin .neq 8 21)<|.step (.ci .i64 8)<|.step (.bin .geq 0 28)<|.ite 29
 (.step (.ci .i64 9)<|.ret [17, 30])
 (.step (.bin .add 0 19)<|.step (.call 75 [11, 30] 0)<|.step (.bin .neq 31 17)<|.ite 32
 (.ret [17, 31])
 (.step (.bin .add 4 19)<|.tail 76 [0, 7, 2, 3, 33]))))
 (.step (.ci .i64 8)<|.ret [17, 24]))
 (.step (.ci .i64 8)<|.ret [17, 23])))))))
 (.step (.ci .i64 1)<|.ret [6])
def d38 : PDef := .tree 28<|.step (.bin .lss 2 1)<|.ite 28
 (.step (.at 4 0 2)<|.step (.cell 0 29)<|.step (.cell 1 29)<|.step (.cell 2 29)<|.step (.cell 3 29)<|.step (.cs [])<|.step (.bin .eql 33 34)<|.step (.cb true)<|.step (.mput 3 33 36) <|
 .step (.ci .i64 1)<|.step (.bin .add 2 38)<|.tail 38 [0, 1, 39, 37, 4, 5, 6, 7, 8, 9, 10, 11, 12, 13, 14, 15, 16, 17, 18, 19, 20, 21, 22, 23, 24, 25, 26, 27])
 (.step (.ci .i64 0)<|.ret [29, 3])
def d107 : PDef := .tree 1<|.step (.slen 0)<|.step (.ci .i64 0)<|.step (.bin .gtr 1 2)<|.ite 3
 (.step (.call 108 [0] 0)<|.step (.bin .eql 4 2)<|.ite 5
 (.ret [2])
 (.step (.ssub 0 4 1)<|.tail 107 [6]))
 (.step (.ci .i64 1)<|.ret [4])
def d14 : PDef := .tree 3<|.step (.bin .lss 2 1)<|.ite 3
 (.step (.at 5 0 2)<|.step (.cell 0 4)<|.step (.cell 1 4)<|.step (.cell 2 4)<|.step (.cell 3 4)<|.step (.cell 4 4)<|.step (.slen 9)<|.step (.ci .i64 300)<|.step (.bin .gtr 10 11) <|
 .ite 12
 (.step (.ci .i64 0)<|.ret [13])
 (.step (.ci .i64 1)<|.step (.bin .add 2 13)<|.tail 14 [0, 1, 14]))
 (.step (.ci .i64 1)<|.ret [4])
def d84 : PDef := .tree 28<|.step (.bin .lss 3 2)<|.ite 28
 (.step (.at 1 1 3)<|.step (.cell 0 29)<|.step (.len 0)<|.step (.cb false)<|.step (.ci .i64 0)<|.step (.call 85 [0, 30, 32, 1, 2, 3, 31, 33, 4, 5, 6, 7, 8, 9, 10, 11, 12, 13, 14, 15, 16, 17, 18, 19, 20, 21, 22, 23, 24, 25, 26, 27] 0) <|
 .step (.call 85 [0, 30, 32, 1, 2, 3, 31, 33, 4, 5, 6, 7, 8, 9, 10, 11, 12, 13, 14, 15, 16, 17, 18, 19, 20, 21, 22, 23, 24, 25, 26, 27] 1)<|.step (.un .not 35)<|.ite 36
 (.step (.mk [4, 5, 6, 7, 8, 9, 10, 11, 12, 13, 14, 15, 16, 17, 18, 19, 20, 21, 22, 23, 24, 25, 26, 27])<|.step (.call 86 [37, 30] 0)<|.step (.un .not 38)<|.ite 39
 (.ret [33])
 (.step (.ci .i64 1)<|.step (.bin .add 3 40)<|.tail 84 [0, 1, 2, 41, 4, 5, 6, 7, 8, 9, 10, 11, 12, 13, 14, 15, 16, 17, 18, 19, 20, 21, 22, 23, 24, 25, 26, 27]))
 (.step (.ci .i64 1)<|.step (.bin .add 3 37)<|.tail 84 [0, 1, 2, 38, 4, 5, 6, 7, 8, 9, 10, 11, 12, 13, 14, 15, 16, 17, 18, 19, 20, 21, 22, 23, 24, 25, 26, 27]))
 (.step (.ci .i64 1)<|.ret [29])
def d123 : PDef := .tree 4<|.step (.bin .lss 3 2)<|.ite 4
 (.step (.at 5 1 3)<|.step (.cell 0 5)<|.step (.cell 1 5)<|.step (.cell 2 5)<|.step (.cell 3 5)<|.step (.cell 4 5)<|.step (.len 0)<|.step (.ci .i64 0)<|.step (.call 124 [0, 1, 2, 3, 11, 12, 6, 7, 8, 9, 10] 0) <|
 .step (.bin .eql 13 12)<|.ite 14
 (.ret [12])
 (.step (.ci .i64 1)<|.step (.bin .add 3 15)<|.tail 123 [0, 1, 2, 16]))
 (.step (.ci .i64 1)<|.ret [5])
def d129 : PDef := .tree 5<|.step (.bin .lss 3 2)<|.ite 5
 (.step (.at 2 1 3)<|.step (.cell 0 6)<|.step (.cell 1 6)<|.step (.call 6 [7] 0)<|.step (.call 130 [0, 9] 0)<|.step (.bytes 10)<|.step (.app 1 1 4 11)<|.step (.slen 10)<|.step (.call 7 [8] 0) <|
 .step (.bytes 14)<|.step (.app 1 1 12 15)<|.step (.slen 14)<|.step (.ci .i64 1)<|.step (.bin .add 3 18)<|.tail 129 [9, 1, 2, 19, 16])
 (.step (.ci .i64 0)<|.ret [6, 4])
def d113 : PDef := .tree 3<|.step (.slen 0)<|.step (.bin .lss 2 3)<|.ite 4
 (.step (.slen 1)<|.step (.bin .lss 2 5)<|.ite 6
 (.step (.sidx 0 2)<|.step (.sidx 1 2)<|.step (.bin .neq 7 8)<|.ite 9
 (.step (.bin .lss 7 8)<|.step (.ci .i64 0)<|.ret [11, 10])
 (.step (.ci .i64 1)<|.step (.bin .add 2 10)<|.tail 113 [0, 1, 11]))
 (.step (.ci .i64 1)<|.ret [7]))
 (.step (.ci .i64 1)<|.ret [5])
def d124 : PDef := .tree 11<|.step (.bin .lss 5 4)<|.ite 11
 (.step (.at 4 0 5)<|.step (.cell 0 12)<|.step (.cell 1 12)<|.step (.cell 2 12)<|.step (.cell 3 12)<|.step (.bin .eql 13 6)<|.ite 17
 (.step (.ci .i64 0)<|.ret [18])
 (.step (.ci .i64 1)<|.step (.bin .add 5 18)<|.tail 124 [0, 1, 2, 3, 4, 19, 6, 7, 8, 9, 10]))
 (.step (.ci .i64 1)<|.ret [12])
def d122 : PDef := .tree 4<|.step (.bin .lss 3 2)<|.ite 4
 (.step (.at 5 0 3)<|.step (.cell 0 5)<|.step (.cell 1 5)<|.step (.cell 2 5)<|.step (.cell 3 5)<|.step (.cell 4 5)<|.step (.ci .u64 0)<|.step (.bin .eql 6 11)<|.ite 12
 (.step (.ci .i64 18)<|.step (.ci .i64 0)<|.ret [14, 13])
 (.step (.ci .u64 4294967296)<|.step (.bin .gtr 6 13)<|.ite 14
 (.step (.ci .i64 18)<|.step (.ci .i64 0)<|.ret [16, 15])
 (.step (.ci .i64 0)<|.step (.bin .gtr 3 15)<|.ite 16
 (.step (.ci .i64 1)<|.step (.bin .sub 3 17)<|.step (.at 5 0 18)<|.step (.cell 0 19)<|.step (.bin .leq 6 20)<|.ite 21
 (.step (.ci .i64 7)<|.ret [15, 22])
 (.step (.bin .lss 7 15)<|.ite 22
 (.step (.ci .i64 8)<|.ret [15, 23])
 (.step (.ci .i64 2)<|.step (.bin .gtr 7 23)<|.ite 24
 (.step (.ci .i64 8)<|.ret [15, 25])
 (.step (.bin .neq 7 15)<|.ite 25
 (.step (.bin .neq 8 11)<|.ite 26
 (.step (.ci .i64 8)<|.ret [15, 27])
 (.step (.bin .neq 7 17)<|.ite 27
 (.step (.cs [])<|.step (.bin .neq 9 28)<|.ite 29
 (.step (.ci .i64 8)<|.ret [15, 30])
 (.step (.bin .neq 7 23)<|.ite 30
 (.step (.len 10)<|.step (.bin .gtr 31 15)<|.ite 32
 (.step (.ci .i64 8)<|.ret [15, 33])
 (.step (.bin .eql 7 23)<|.step (.bin .add 1 17)<|.step (.call 121 [10, 34] 0)<|.step (.bin .neq 35 15)<|.ite 36
 (.ret [15, 35])
 (.step (.bin .add 3 17)<|.tail 122 [0, 1, 2, 37])))
 (.step (.bin .eql 7 23)<|.step (.ci .i64 8)<|.step (.bin .eql 1 32)<|.ite 33
 (.step (.ci .i64 9)<|.ret [15, 34])
 (.step (.bin .add 1 17)<|.step (.call 121 [10, 34] 0)<|.step (.bin .neq 35 15)<|.ite 36
 (.ret [15, 35])
 (.step (.bin .add 3 17)<|.tail 122 [0, 1, 2, 37])))))
 (.step (.bin .neq 7 23)<|.ite 28
 (.step (.len 10)<|.step (.bin .gtr 29 15)<|.ite 30
 (.step (.ci .i64 8)<|.ret [15, 31])
 (.step (.bin .eql 7 23)<|.step (.bin .add 1 17)<|.step (.call 121 [10, 32] 0)<|.step (.bin .neq 33 15)<|.ite 34
 (.ret [15, 33])
 (.step (.bin .add 3 17)<|.tail 122 [0, 1, 2, 35])))
 (.step (.bin .eql 7 23)<|.step (.ci .i64 8)<|.step (.bin .eql 1 30)<|.ite 31
 (.step (.ci .i64 9)<|.ret [15, 32])
 (.step (.bin .add 1 17)<|.step (.call 121 [10, 32] 0)<|.step (.bin .neq 33 15)<|.ite 34
 (.ret [15, 33])
 (.step (.bin .add 3 17)<|.tail 122 [0, 1, 2, 35]))))))
 (.step (.bin .neq 7 17)<|.ite 26
 (.step (.cs [])<|.step (.bin .neq 9 27)<|.ite 28
 (.step (.ci .i64 8)<|.ret [15, 29])
 (.step (.bin .neq 7 23)<|.ite 29
 (.step (.len 10)<|.step (.bin .gtr 30 15)<|.ite 31
 (.step (.ci .i64 8)<|.ret [15, 32])
 (.step (.bin .eql 7 23)<|.step (.bin .add 1 17)<|.step (.call 121 [10, 33] 0)<|.step (.bin .neq 34 15)<|.ite 35
 (.ret [15, 34])
 (.step (.bin .add 3 17)<|.tail 122 [0, 1, 2, 36])))
 (.step (.bin .eql 7 23)<|.step (.ci .i64 8)<|.step (.bin .eql 1 31)<|.ite 32
 (.step (.ci .i64 9)<|.ret [15, 33])
 (.step (.bin .add 1 17)<|.step (.call 121 [10, 33] 0)<|.step (.bin .neq 34 15)<|.ite 35
 (.ret [15, 34])
 (.step (.bin .add 3 17)<|.tail 122 [0, 1, 2, 36])))))
 (.step (.bin .neq 7 23)<|.ite 27
 (.step (.len 10)<|.step (.bin .gtr 28 15)<|.ite 29
 (.step (.ci .i64 8)<|.ret [15, 30])
 (.step (.bin .eql 7 23)<|.step (.bin .add 1 17)<|.step (.call 121 [10, 31] 0)<|.step (.bin .neq 32 15)<|.ite 33
 (.ret [15, 32])
 (.step (.bin .add 3 17)<|.tail 122 [0, 1, 2, 34])))
 (.step (.bin .eql 7 23)<|.step (.ci .i64 8)<|.step (.bin .eql 1 29)<|.ite 30
 (.step (.ci .i64 9)<|.ret [15, 31])
 (.step (.bin .add 1 17)<|.step (.call 121 [10, 31] 0)<|.step (.bin .neq 32 15)<|.ite 33
 (.ret [15, 32])
 (.step (.bin .add 3 17)<|.tail 122 [0, 1, 2, 34])))))))))
 (.step (.bin .lss 7 15)<|.ite 17
 (.step (.ci .i64 8)<|.ret [15, 18])
 (.step (.ci .i64 2)<|.step (.bin .gtr 7 18)<|.ite 19
 (.step (.ci .i64 8)<|.ret [15, 20])
 (.step (.bin .neq 7 15)<|.ite 20
 (.step (.bin .neq 8 11)<|.ite 21
 (.step (.ci .i64 8)<|.ret [15, 22])
 (.step (.ci .i64 1)<|.step (.bin .neq 7 22)<|.ite 23
 (.step (.cs [])<|.step (.bin .neq 9 24)<|.ite 25
 (.step (.ci .i64 8)<|.ret [15, 26])
 (.step (.bin .neq 7 18)<|.ite 26
 (.step (.len 10)<|.step (.bin .gtr 27 15)<|.ite 28
 (.step (.ci .i64 8)<|.ret [15, 29])
 (.step (.bin .eql 7 18)<|.step (.bin .add 1 22)<|.step (.call 121 [10, 30] 0)<|.step (.bin .neq 31 15)<|.ite 32
 (.ret [15, 31])
 (.step (.bin .add 3 22)<|.tail 122 [0, 1, 2, 33])))
 (.step (.bin .eql 7 18)<|.step (.ci .i64 8)<|.step (.bin .eql 1 28)<|.ite 29
 (.step (.ci .i64 9)<|.ret [15, 30])
 (.step (.bin .add 1 22)<|.step (.call 121 [10, 30] 0)<|.step (.bin .neq 31 15)<|.ite 32
 (.ret [15, 31])
 (.step (.bin .add 3 22)<|.tail 122 [0, 1, 2, 33])))))
 (.step (.bin .neq 7 18)<|.ite 24
 (.step (.len 10)<|.step (.bin .gtr 25 15)<|.ite 26
 (.step (.ci .i64 8)<|.ret [15, 27])
 (.step (.bin .eql 7 18)<|.step (.bin .add 1 22)<|.step (.call 121 [10, 28] 0)<|.step (.bin .neq 29 15)<|.ite 30
 (.ret [15, 29])
 (.step (.bin .add 3 22)<|.tail 122 [0, 1, 2, 31])))
 (.step (.bin .eql 7 18)<|.step (.ci .i64 8)<|.step (.bin .eql 1 26)<|.ite 27
 (.step (.ci .i64 9)<|.ret [15, 28])
 (.step (.bin .add 1 22)<|.step (.call 121 [10, 28] 0)<|.step (.bin .neq 29 15)<|.ite 30
 (.ret [15, 29])
 (.step (.bin .add 3 22)<|.tail 122 [0, 1, 2, 31]))))))
 (.step (.ci .i64 1)<|.step (.bin .neq 7 21)<|.ite 22
 (.step (.cs [])<|.step (.bin .neq 9 23)<|.ite 24
 (.step (.ci .i64 8)<|.ret [15, 25])
 (.step (.bin .neq 7 18)<|.ite 25
 (.step (.len 10)<|.step (.bin .gtr 26 15)<|.ite 27
 (.step (.ci .i64 8)<|.ret [15, 28])
 (.step (.bin .eql 7 18)<|.step (.bin .add 1 21)<|.step (.call 121 [10, 29] 0)<|.step (.bin .neq 30 15)<|.ite 31
 (.ret [15, 30])
 (.step (.bin .add 3 21)<|.tail 122 [0, 1, 2, 32])))
 (.step (.bin .eql 7 18)<|.step (.ci .i64 8)<|.step (.bin .eql 1 27)<|.ite 28
 (.step (.ci .i64 9)<|.ret [15, 29])
 (.step (.bin .add 1 21)<|.step (.call 121 [10, 29] 0)<|.step (.bin .neq 30 15)<|.ite 31
 (.ret [15, 30])
 (.step (.bin .add 3 21)<|.tail 122 [0, 1, 2, 32])))))
 (.step (.bin .neq 7 18)<|.ite 23
 (.step (.len 10)<|.step (.bin .gtr 24 15)<|.ite 25
 (.step (.ci .i64 8)<|.ret [15, 26])
 (.step (.bin .eql 7 18)<|.step (.bin .add 1 21)<|.step (.call 121 [10, 27] 0)<|.step (.bin .neq 28 15)<|.ite 29
 (.ret [15, 28])
 (.step (.bin .add 3 21)<|.tail 122 [0, 1, 2, 30])))
 (.step (.bin .eql 7 18)<|.step (.ci .i64 8)<|.step (.bin .eql 1 25)<|.ite 26
 (.step (.ci .i64 9)<|.ret [15, 27])
 (.step (.bin .add 1 21)<|.step (.call 121 [10, 27] 0)<|.step (.bin .neq 28 15)<|.ite 29
 (.ret [15, 28])
 (.step (.bin .add 3 21)<|.tail 122 [0, 1, 2, 30])))))))))))
 (.step (.ci .i64 1)<|.ret [5])
def d90 : PDef := .tree 5<|.step (.bin .lss 4 3)<|.ite 5
 (.step (.at 4 2 4)<|.step (.cell 0 6)<|.step (.cell 1 6)<|.step (.cell 2 6)<|.step (.cell 3 6)<|.step (.bin .eql 10 0)<|.ite 11
 (.step (.ci .i64 0)<|.ret [12, 8])
 (.step (.ci .i64 1)<|.step (.bin .add 4 12)<|.tail 90 [0, 1, 2, 3, 13]))
 (.step (.ci .i64 1)<|.ret [6])
def d25 : PDef := .tree 4<|.step (.bin .lss 3 2)<|.ite 4
 (.step (.at 5 1 3)<|.step (.cell 0 5)<|.step (.cell 1 5)<|.step (.cell 2 5)<|.step (.cell 3 5)<|.step (.cell 4 5)<|.step (.call 24 [10] 0)<|.step (.mk [6, 7, 8, 9, 11])<|.step (.ml [12]) <|
 .step (.app 5 64 0 13)<|.step (.ci .i64 1)<|.step (.bin .add 3 15)<|.tail 25 [14, 1, 2, 16])
 (.step (.ci .i64 0)<|.ret [5, 0])
def d41 : PDef := .tree 27<|.step (.bin .lss 2 1)<|.ite 27
 (.step (.at 4 0 2)<|.step (.cell 0 28)<|.step (.cell 1 28)<|.step (.cell 2 28)<|.step (.cell 3 28)<|.step (.cs [114, 101, 109, 97, 105, 110, 105, 110, 103])<|.step (.bin .eql 32 33) <|
 .ite 34
 (.step (.call 42 [3, 4, 5, 6, 7, 8, 9, 10, 11, 12, 13, 14, 15, 16, 17, 18, 19, 20, 21, 22, 23, 24, 25, 26] 0)<|.step (.ci .i64 1)<|.step (.bin .add 2 36)<|.tail 41 [0, 1, 37, 3, 4, 5, 6, 7, 8, 9, 10, 11, 12, 13, 14, 15, 16, 17, 18, 19, 20, 21, 22, 23, 24, 25, 26])
 (.step (.cs [97, 108, 108, 111, 119, 101, 100])<|.step (.bin .eql 32 35)<|.ite 36
 (.step (.call 43 [3, 4, 5, 6, 7, 8, 9, 10, 11, 12, 13, 14, 15, 16, 17, 18, 19, 20, 21, 22, 23, 24, 25, 26] 0)<|.step (.ci .i64 1)<|.step (.bin .add 2 38)<|.tail 41 [0, 1, 39, 3, 4, 5, 6, 7, 8, 9, 10, 11, 12, 13, 14, 15, 16, 17, 18, 19, 20, 21, 22, 23, 24, 25, 26])
 (.step (.cs [110, 97, 109, 101])<|.step (.bin .eql 32 37)<|.ite 38
 (.step (.call 44 [3, 4, 5, 6, 7, 8, 9, 10, 11, 12, 13, 14, 15, 16, 17, 18, 19, 20, 21, 22, 23, 24, 25, 26] 0)<|.step (.call 44 [3, 4, 5, 6, 7, 8, 9, 10, 11, 12, 13, 14, 15, 16, 17, 18, 19, 20, 21, 22, 23, 24, 25, 26] 1) <|
 .step (.ci .i64 0)<|.step (.bin .neq 40 41)<|.ite 42
 (.ret [41, 40])
 (.step (.ci .i64 1)<|.step (.bin .add 2 43)<|.tail 41 [0, 1, 44, 3, 4, 5, 6, 7, 8, 9, 10, 11, 12, 13, 14, 15, 16, 17, 18, 19, 20, 21, 22, 23, 24, 25, 26]))
 (.step (.cs [114, 101, 103, 105, 111, 110])<|.step (.bin .eql 32 39)<|.ite 40
 (.step (.call 48 [3, 4, 5, 6, 7, 8, 9, 10, 11, 12, 13, 14, 15, 16, 17, 18, 19, 20, 21, 22, 23, 24, 25, 26] 0)<|.step (.call 48 [3, 4, 5, 6, 7, 8, 9, 10, 11, 12, 13, 14, 15, 16, 17, 18, 19, 20, 21, 22, 23, 24, 25, 26] 1) <|
 .step (.ci .i64 0)<|.step (.bin .neq 42 43)<|.ite 44
 (.ret [43, 42])
 (.step (.ci .i64 1)<|.step (.bin .add 2 45)<|.tail 41 [0, 1, 46, 3, 4, 5, 6, 7, 8, 9, 10, 11, 12, 13, 14, 15, 16, 17, 18, 19, 20, 21, 22, 23, 24, 25, 26]))
 (.step (.cs [110, 111, 116, 101])<|.step (.bin .eql 32 41)<|.ite 42
 (.step (.call 49 [3, 4, 5, 6, 7, 8, 9, 10, 11, 12, 13, 14, 15, 16, 17, 18, 19, 20, 21, 22, 23, 24, 25, 26] 0)<|.step (.call 49 [3, 4, 5, 6, 7, 8, 9, 10, 11, 12, 13, 14, 15, 16, 17, 18, 19, 20, 21, 22, 23, 24, 25, 26] 1) <|
 .step (.ci .i64 0)<|.step (.bin .neq 44 45)<|.ite 46
 (.ret [45, 44])
 (.step (.ci .i64 1)<|.step (.bin .add 2 47)<|.tail 41 [0, 1, 48, 3, 4, 5, 6, 7, 8, 9, 10, 11, 12, 13, 14, 15, 16, 17, 18, 19, 20, 21, 22, 23, 24, 25, 26]))
 (.step (.cs [100, 101, 115, 99, 114])<|.step (.bin .eql 32 43)<|.ite 44
 (.step (.call 50 [3, 4, 5, 6, 7, 8, 9, 10, 11, 12, 13, 14, 15, 16, 17, 18, 19, 20, 21, 22, 23, 24, 25, 26] 0)<|.step (.call 50 [3, 4, 5, 6, 7, 8, 9, 10, 11, 12, 13, 14, 15, 16, 17, 18, 19, 20, 21, 22, 23, 24, 25, 26] 1) <|
 .step (.ci .i64 0)<|.step (.bin .neq 46 47)<|.ite 48
 (.ret [47, 46])
 (.step (.ci .i64 1)<|.step (.bin .add 2 49)<|.tail 41 [0, 1, 50, 3, 4, 5, 6, 7, 8, 9, 10, 11, 12, 13, 14, 15, 16, 17, 18, 19, 20, 21, 22, 23, 24, 25, 26]))
 (.step (.cs [116, 97, 98, 108, 101])<|.step (.bin .eql 32 45)<|.ite 46
 (.step (.call 54 [3, 4, 5, 6, 7, 8, 9, 10, 11, 12, 13, 14, 15, 16, 17, 18, 19, 20, 21, 22, 23, 24, 25, 26] 0)<|.step (.call 54 [3, 4, 5, 6, 7, 8, 9, 10, 11, 12, 13, 14, 15, 16, 17, 18, 19, 20, 21, 22, 23, 24, 25, 26] 1) <|
 .step (.ci .i64 0)<|.step (.bin .neq 48 49)<|.ite 50
 (.ret [49, 48])
 (.step (.ci .i64 1)<|.step (.bin .add 2 51)<|.tail 41 [0, 1, 52, 3, 4, 5, 6, 7, 8, 9, 10, 11, 12, 13, 14, 15, 16, 17, 18, 19, 20, 21, 22, 23, 24, 25, 26]))
 (.step (.cs [105, 100])<|.step (.bin .eql 32 47)<|.ite 48
 (.step (.call 58 [3, 4, 5, 6, 7, 8, 9, 10, 11, 12, 13, 14, 15, 16, 17, 18, 19, 20, 21, 22, 23, 24, 25, 26] 0)<|.step (.ci .i64 1)<|.step (.bin .add 2 50)<|.tail 41 [0, 1, 51, 3, 4, 5, 6, 7, 8, 9, 10, 11, 12, 13, 14, 15, 16, 17, 18, 19, 20, 21, 22, 23, 24, 25, 26])
 (.step (.cs [109, 105, 110])<|.step (.bin .eql 32 49)<|.ite 50
 (.step (.call 59 [3, 4, 5, 6, 7, 8, 9, 10, 11, 12, 13, 14, 15, 16, 17, 18, 19, 20, 21, 22, 23, 24, 25, 26] 0)<|.step (.ci .i64 1)<|.step (.bin .add 2 52)<|.tail 41 [0, 1, 53, 3, 4, 5, 6, 7, 8, 9, 10, 11, 12, 13, 14, 15, 16, 17, 18, 19, 20, 21, 22, 23, 24, 25, 26])
 (.step (.cs [109, 97, 120])<|.step (.bin .eql 32 51)<|.ite 52
 (.step (.call 60 [3, 4, 5, 6, 7, 8, 9, 10, 11, 12, 13, 14, 15, 16, 17, 18, 19, 20, 21, 22, 23, 24, 25, 26] 0)<|.step (.ci .i64 1)<|.step (.bin .add 2 54)<|.tail 41 [0, 1, 55, 3, 4, 5, 6, 7, 8, 9, 10, 11, 12, 13, 14, 15, 16, 17, 18, 19, 20, 21, 22, 23, 24, 25, 26])
 (.step (.cs [99, 104, 111, 115, 101, 110])<|.step (.bin .eql 32 53)<|.ite 54
 (.step (.call 61 [3, 4, 5, 6, 7, 8, 9, 10, 11, 12, 13, 14, 15, 16, 17, 18, 19, 20, 21, 22, 23, 24, 25, 26] 0)<|.step (.ci .i64 1)<|.step (.bin .add 2 56)<|.tail 41 [0, 1, 57, 3, 4, 5, 6, 7, 8, 9, 10, 11, 12, 13, 14, 15, 16, 17, 18, 19, 20, 21, 22, 23, 24, 25, 26])
 (.step (.cs [102, 108, 97, 103, 115])<|.step (.bin .eql 32 55)<|.ite 56
 (.step (.call 62 [3, 4, 5, 6, 7, 8, 9, 10, 11, 12, 13, 14, 15, 16, 17, 18, 19, 20, 21, 22, 23, 24, 25, 26] 0)<|.step (.ci .i64 1)<|.step (.bin .add 2 58)<|.tail 41 [0, 1, 59, 3, 4, 5, 6, 7, 8, 9, 10, 11, 12, 13, 14, 15, 16, 17, 18, 19, 20, 21, 22, 23, 24, 25, 26])
 (.step (.cs [99, 111, 115, 116])<|.step (.bin .eql 32 57)<|.ite 58
 (.step (.call 63 [3, 4, 5, 6, 7, 8, 9, 10, 11, 12, 13, 14, 15, 16, 17, 18, 19, 20, 21, 22, 23, 24, 25, 26] 0)<|.step (.ci .i64 1)<|.step (.bin .add 2 60)<|.tail 41 [0, 1, 61, 3, 4, 5, 6, 7, 8, 9, 10, 11, 12, 13, 14, 15, 16, 17, 18, 19, 20, 21, 22, 23, 24, 25, 26])
 (.step (.cs [112, 114, 105, 111, 114, 105, 116, 121])<|.step (.bin .eql 32 59)<|.ite 60
 (.step (.call 64 [3, 4, 5, 6, 7, 8, 9, 10, 11, 12, 13, 14, 15, 16, 17, 18, 19, 20, 21, 22, 23, 24, 25, 26] 0)<|.step (.ci .i64 1)<|.step (.bin .add 2 62)<|.tail 41 [0, 1, 63, 3, 4, 5, 6, 7, 8, 9, 10, 11, 12, 13, 14, 15, 16, 17, 18, 19, 20, 21, 22, 23, 24, 25, 26])
 (.step (.cs [100, 101, 97, 100, 108, 105, 110, 101])<|.step (.bin .eql 32 61)<|.ite 62
 (.step (.call 65 [3, 4, 5, 6, 7, 8, 9, 10, 11, 12, 13, 14, 15, 16, 17, 18, 19, 20, 21, 22, 23, 24, 25, 26] 0)<|.step (.ci .i64 1)<|.step (.bin .add 2 64)<|.tail 41 [0, 1, 65, 3, 4, 5, 6, 7, 8, 9, 10, 11, 12, 13, 14, 15, 16, 17, 18, 19, 20, 21, 22, 23, 24, 25, 26])
 (.step (.cs [114, 101, 116, 114, 121])<|.step (.bin .eql 32 63)<|.ite 64
 (.step (.call 66 [3, 4, 5, 6, 7, 8, 9, 10, 11, 12, 13, 14, 15, 16, 17, 18, 19, 20, 21, 22, 23, 24, 25, 26] 0)<|.step (.ci .i64 1)<|.step (.bin .add 2 66)<|.tail 41 [0, 1, 67, 3, 4, 5, 6, 7, 8, 9, 10, 11, 12, 13, 14, 15, 16, 17, 18, 19, 20, 21, 22, 23, 24, 25, 26])
 (.step (.cs [101, 112, 111, 99, 104])<|.step (.bin .eql 32 65)<|.ite 66
 (.step (.call 67 [3, 4, 5, 6, 7, 8, 9, 10, 11, 12, 13, 14, 15, 16, 17, 18, 19, 20, 21, 22, 23, 24, 25, 26] 0)<|.step (.ci .i64 1)<|.step (.bin .add 2 68)<|.tail 41 [0, 1, 69, 3, 4, 5, 6, 7, 8, 9, 10, 11, 12, 13, 14, 15, 16, 17, 18, 19, 20, 21, 22, 23, 24, 25, 26])
 (.step (.cs [98, 97, 115, 101])<|.step (.bin .eql 32 67)<|.ite 68
 (.step (.call 68 [3, 4, 5, 6, 7, 8, 9, 10, 11, 12, 13, 14, 15, 16, 17, 18, 19, 20, 21, 22, 23, 24, 25, 26] 0)<|.step (.ci .i64 1)<|.step (.bin .add 2 70)<|.tail 41 [0, 1, 71, 3, 4, 5, 6, 7, 8, 9, 10, 11, 12, 13, 14, 15, 16, 17, 18, 19, 20, 21, 22, 23, 24, 25, 26])
 (.step (.cs [100, 105, 103, 101, 115, 116])<|.step (.bin .eql 32 69)<|.ite 70
 (.step (.call 69 [3, 4, 5, 6, 7, 8, 9, 10, 11, 12, 13, 14, 15, 16, 17, 18, 19, 20, 21, 22, 23, 24, 25, 26] 0)<|.step (.ci .i64 1)<|.step (.bin .add 2 72)<|.tail 41 [0, 1, 73, 3, 4, 5, 6, 7, 8, 9, 10, 11, 12, 13, 14, 15, 16, 17, 18, 19, 20, 21, 22, 23, 24, 25, 26])
 (.step (.cs [108, 97, 103])<|.step (.bin .eql 32 71)<|.ite 72
 (.step (.call 70 [3, 4, 5, 6, 7, 8, 9, 10, 11, 12, 13, 14, 15, 16, 17, 18, 19, 20, 21, 22, 23, 24, 25, 26] 0)<|.step (.ci .i64 1)<|.step (.bin .add 2 74)<|.tail 41 [0, 1, 75, 3, 4, 5, 6, 7, 8, 9, 10, 11, 12, 13, 14, 15, 16, 17, 18, 19, 20, 21, 22, 23, 24, 25, 26])
 (.step (.cs [99, 111, 100, 101])<|.step (.bin .eql 32 73)<|.ite 74
 (.step (.call 71 [3, 4, 5, 6, 7, 8, 9, 10, 11, 12, 13, 14, 15, 16, 17, 18, 19, 20, 21, 22, 23, 24, 25, 26] 0)<|.step (.ci .i64 1)<|.step (.bin .add 2 76)<|.tail 41 [0, 1, 77, 3, 4, 5, 6, 7, 8, 9, 10, 11, 12, 13, 14, 15, 16, 17, 18, 19, 20, 21, 22, 23, 24, 25, 26])
 (.step (.cs [119, 97, 110, 116])<|.step (.bin .eql 32 75)<|.ite 76
 (.step (.call 72 [3, 4, 5, 6, 7, 8, 9, 10, 11, 12, 13, 14, 15, 16, 17, 18, 19, 20, 21, 22, 23, 24, 25, 26] 0)<|.step (.ci .i64 1)<|.step (.bin .add 2 78)<|.tail 41 [0, 1, 79, 3, 4, 5, 6, 7, 8, 9, 10, 11, 12, 13, 14, 15, 16, 17, 18, 19, 20, 21, 22, 23, 24, 25, 26])
 (.step (.call 73 [] 0)<|.step (.ci .i64 1)<|.step (.bin .add 2 78)<|.tail 41 [0, 1, 79, 3, 4, 5, 6, 7, 8, 9, 10, 11, 12, 13, 14, 15, 16, 17, 18, 19, 20, 21, 22, 23, 24, 25, 26])))))))))))))))))))))))
 (.step (.ci .i64 1)<|.ret [28])
def d132 : PDef := .tree 3<|.step (.slen 0)<|.step (.bin .lss 2 3)<|.ite 4
 (.step (.slen 1)<|.step (.bin .lss 2 5)<|.ite 6
 (.step (.sidx 0 2)<|.step (.sidx 1 2)<|.step (.bin .eql 7 8)<|.ite 9
 (.step (.ci .i64 1)<|.step (.bin .add 2 10)<|.tail 132 [0, 1, 11])
 (.step (.ci .i64 0)<|.ret [10, 2]))
 (.step (.ci .i64 0)<|.ret [7, 2]))
 (.step (.ci .i64 0)<|.ret [5, 2])
def d95 : PDef := .tree 2<|.step (.ci .u64 127)<|.step (.bin .gtr 0 2)<|.ite 3
 (.step (.ci .u64 128)<|.step (.bin .rem 0 4)<|.step (.bin .add 5 4)<|.step (.conv .u8 6)<|.step (.ml [7])<|.step (.str 8)<|.step (.bin .add 1 9)<|.step (.bin .quo 0 4)<|.tail 95 [11, 10])
 (.step (.ci .i64 0)<|.ret [4, 0, 1])
def d116 : PDef := .tree 4<|.step (.bin .lss 3 2)<|.ite 4
 (.step (.at 2 0 3)<|.step (.cell 0 5)<|.step (.cell 1 5)<|.step (.ci .i64 0)<|.step (.bin .gtr 3 8)<|.ite 9
 (.step (.ci .i64 1)<|.step (.bin .sub 3 10)<|.step (.at 2 0 11)<|.step (.cell 0 12)<|.step (.call 93 [13] 0)<|.step (.call 93 [6] 0)<|.step (.call 117 [14, 15] 0)<|.step (.bin .add 1 16) <|
 .step (.call 94 [7] 0)<|.step (.bin .add 17 18)<|.step (.bin .add 3 10)<|.tail 116 [0, 19, 2, 20])
 (.step (.call 93 [6] 0)<|.step (.cs [])<|.step (.call 117 [11, 10] 0)<|.step (.bin .add 1 12)<|.step (.call 94 [7] 0)<|.step (.bin .add 13 14)<|.step (.ci .i64 1)<|.step (.bin .add 3 16) <|
 .tail 116 [0, 15, 2, 17]))
 (.step (.ci .i64 0)<|.ret [5, 1])
def d52 : PDef := .tree 3<|.step (.bin .lss 2 1)<|.ite 3
 (.step (.at 2 0 2)<|.step (.cell 0 4)<|.step (.cell 1 4)<|.step (.mk [5, 6])<|.step (.call 53 [7] 0)<|.step (.ci .i64 0)<|.step (.bin .neq 8 9)<|.ite 10
 (.ret [9, 8])
 (.step (.bin .eql 2 9)<|.ite 11
 (.step (.ci .i64 1)<|.step (.bin .add 2 12)<|.tail 52 [0, 1, 13])
 (.step (.ci .i64 1)<|.step (.bin .sub 2 12)<|.step (.at 2 0 13)<|.step (.cell 0 14)<|.step (.bin .eql 5 15)<|.ite 16
 (.step (.ci .i64 14)<|.ret [9, 17])
 (.step (.bin .lss 5 15)<|.ite 17
 (.step (.ci .i64 7)<|.ret [9, 18])
 (.step (.bin .add 2 12)<|.tail 52 [0, 1, 18])))))
 (.step (.ci .i64 1)<|.ret [4])
def d82 : PDef := .tree 5<|.step (.bin .lss 4 3)<|.ite 5
 (.step (.at 4 2 4)<|.step (.cell 0 6)<|.step (.cell 1 6)<|.step (.cell 2 6)<|.step (.cell 3 6)<|.step (.ci .i64 3)<|.step (.bin .leq 0 11)<|.ite 12
 (.step (.bin .leq 9 0)<|.ite 13
 (.step (.mk [7, 8, 9, 10])<|.step (.ml [14])<|.step (.app 4 40 1 15)<|.step (.ci .i64 1)<|.step (.bin .add 4 17)<|.tail 82 [0, 16, 2, 3, 18])
 (.step (.ci .i64 1)<|.step (.bin .add 4 14)<|.tail 82 [0, 1, 2, 3, 15]))
 (.step (.ci .i64 1)<|.step (.bin .add 4 13)<|.tail 82 [0, 1, 2, 3, 14]))
 (.step (.ci .i64 0)<|.ret [6, 1])
def d85 : PDef := .tree 32<|.step (.bin .lss 7 6)<|.ite 32
 (.step (.at 4 0 7)<|.step (.cell 0 33)<|.step (.cell 1 33)<|.step (.cell 2 33)<|.step (.cell 3 33)<|.ite 2
 (.step (.ci .i64 1)<|.step (.bin .add 7 38)<|.step (.cb true)<|.tail 85 [0, 1, 40, 3, 4, 5, 6, 39, 8, 9, 10, 11, 12, 13, 14, 15, 16, 17, 18, 19, 20, 21, 22, 23, 24, 25, 26, 27, 28, 29, 30, 31])
 (.step (.bin .eql 37 1)<|.step (.ci .i64 1)<|.step (.bin .add 7 39)<|.tail 85 [0, 1, 38, 3, 4, 5, 6, 40, 8, 9, 10, 11, 12, 13, 14, 15, 16, 17, 18, 19, 20, 21, 22, 23, 24, 25, 26, 27, 28, 29, 30, 31]))
 (.step (.ci .i64 0)<|.ret [33, 2])
def d77 : PDef := .tree 4<|.step (.bin .lss 3 2)<|.ite 4
 (.step (.at 5 1 3)<|.step (.cell 0 5)<|.step (.cell 1 5)<|.step (.cell 2 5)<|.step (.cell 3 5)<|.step (.cell 4 5)<|.step (.len 0)<|.step (.ci .i64 0)<|.step (.call 78 [0, 1, 2, 3, 11, 12, 6, 7, 8, 9, 10] 0) <|
 .step (.bin .eql 13 12)<|.ite 14
 (.ret [12])
 (.step (.ci .i64 1)<|.step (.bin .add 3 15)<|.tail 77 [0, 1, 2, 16]))
 (.step (.ci .i64 1)<|.ret [5])
def d3 : PDef := .tree 3<|.step (.bin .lss 2 1)<|.ite 3
 (.step (.at 2 0 2)<|.step (.cell 0 4)<|.step (.cell 1 4)<|.step (.slen 5)<|.step (.slen 6)<|.step (.bin .add 7 8)<|.step (.ci .i64 600)<|.step (.bin .gtr 9 10)<|.ite 11
 (.step (.ci .i64 0)<|.ret [12])
 (.step (.ci .i64 1)<|.step (.bin .add 2 12)<|.tail 3 [0, 1, 13]))
 (.step (.ci .i64 1)<|.ret [4])
def d134 : PDef := .tree 1<|.step (.len 0)<|.step (.ci .i64 0)<|.step (.bin .gtr 1 2)<|.ite 3
 (.step (.ci .i64 1)<|.step (.bin .sub 1 4)<|.step (.idx 0 5)<|.step (.at 2 0 6)<|.step (.cell 0 7)<|.step (.cell 1 7)<|.step (.lsub 2 0 2 5)<|.step (.len 8)<|.step (.len 9)<|.step (.bin .neq 11 12) <|
 .ite 13
 (.ret [2])
 (.step (.call 135 [10, 11, 2, 8, 9] 0)<|.step (.bin .eql 14 2)<|.ite 15
 (.ret [2])
 (.step (.call 135 [10, 11, 2, 8, 9] 1)<|.tail 134 [16])))
 (.step (.ci .i64 1)<|.ret [4])
def d89 : PDef := .tree 2<|.step (.ci .i64 8)<|.step (.bin .leq 1 2)<|.ite 3
 (.step (.call 81 [1] 0)<|.step (.len 4)<|.step (.ci .i64 0)<|.step (.call 90 [0, 1, 4, 5, 6] 0)<|.step (.bin .eql 7 6)<|.ite 8
 (.step (.call 90 [0, 1, 4, 5, 6] 1)<|.ret [6, 9])
 (.step (.ci .i64 1)<|.step (.bin .add 1 9)<|.tail 89 [0, 10]))
 (.step (.ci .i64 1)<|.ret [4])
def d11 : PDef := .tree 4<|.step (.bin .lss 2 1)<|.ite 4
 (.step (.at 2 0 2)<|.step (.cell 0 5)<|.step (.cell 1 5)<|.step (.mk [6, 7])<|.step (.call 12 [8] 0)<|.step (.bytes 9)<|.step (.app 1 1 3 10)<|.step (.slen 9)<|.step (.ci .i64 1) <|
 .step (.bin .add 2 13)<|.tail 11 [0, 1, 14, 11])
 (.step (.ci .i64 0)<|.ret [5, 3])
def d96 : PDef := .tree 4<|.step (.bin .lss 3 2)<|.ite 4
 (.step (.at 2 1 3)<|.step (.cell 0 5)<|.step (.cell 1 5)<|.step (.mk [6, 7])<|.step (.call 97 [8] 0)<|.step (.bin .add 0 9)<|.step (.ci .i64 1)<|.step (.bin .add 3 11)<|.tail 96 [10, 1, 2, 12])
 (.step (.ci .i64 0)<|.ret [5, 0])
def d30 : PDef := .tree 5<|.step (.bin .lss 4 3)<|.ite 5
 (.step (.at 4 2 4)<|.step (.cell 0 6)<|.step (.cell 1 6)<|.step (.cell 2 6)<|.step (.cell 3 6)<|.step (.bin .leq 9 0)<|.ite 11
 (.step (.mk [7, 8, 9, 10])<|.step (.ml [12])<|.step (.app 4 40 1 13)<|.step (.ci .i64 1)<|.step (.bin .add 4 15)<|.tail 30 [0, 14, 2, 3, 16])
 (.step (.ci .i64 1)<|.step (.bin .add 4 12)<|.tail 30 [0, 1, 2, 3, 13]))
 (.step (.ci .i64 0)<|.ret [6, 1])
def d10 : PDef := .tree 4<|.step (.bin .lss 3 2)<|.ite 4
 (.step (.ci .u64 127)<|.step (.bin .and 0 5)<|.step (.conv .u8 6)<|.step (.ci .u8 128)<|.step (.bin .or 7 8)<|.step (.idx 1 3)<|.step (.upd 1 0 1 10 [9])<|.step (.ci .u64 7)<|.step (.bin .shr 0 12) <|
 .step (.ci .i64 1)<|.step (.bin .add 3 14)<|.tail 10 [13, 11, 2, 15])
 (.step (.ci .i64 0)<|.ret [5, 1])
def d5 : PDef := .tree 3<|.step (.bin .lss 2 1)<|.ite 3
 (.step (.at 2 0 2)<|.step (.cell 0 4)<|.step (.cell 1 4)<|.step (.len 5)<|.step (.ci .i64 18)<|.step (.bin .gtr 7 8)<|.ite 9
 (.step (.ci .i64 0)<|.ret [10])
 (.step (.call 2 [5] 0)<|.step (.un .not 10)<|.ite 11
 (.step (.ci .i64 0)<|.ret [12])
 (.step (.len 0)<|.step (.ci .i64 40)<|.step (.bin .gtr 12 13)<|.ite 14
 (.step (.call 6 [5] 0)<|.step (.slen 15)<|.step (.ci .i64 100)<|.step (.bin .gtr 16 17)<|.ite 18
 (.step (.ci .i64 0)<|.ret [19])
 (.step (.ci .i64 1)<|.step (.bin .add 2 19)<|.tail 5 [0, 1, 20]))
 (.step (.ci .i64 1)<|.step (.bin .add 2 15)<|.tail 5 [0, 1, 16]))))
 (.step (.ci .i64 1)<|.ret [4])
def d120 : PDef := .tree 27<|.step (.bin .lss 2 1)<|.ite 27
 (.step (.at 4 0 2)<|.step (.cell 0 28)<|.step (.cell 1 28)<|.step (.cell 2 28)<|.step (.cell 3 28)<|.step (.ci .i64 3)<|.step (.bin .eql 30 33)<|.ite 34
 (.step (.mk [3, 4, 5, 6, 7, 8, 9, 10, 11, 12, 13, 14, 15, 16, 17, 18, 19, 20, 21, 22, 23, 24, 25, 26])<|.step (.call 92 [35, 32] 0)<|.step (.ci .i64 0)<|.step (.ci .i64 256)<|.step (.call 105 [36, 37, 38] 0) <|
 .step (.ci .i64 4)<|.step (.bin .eql 30 40)<|.step (.ci .i64 5)<|.step (.bin .eql 30 42)<|.step (.bin .neq 39 37)<|.ite 44
 (.ret [37, 39])
 (.step (.ci .i64 1)<|.step (.bin .add 2 45)<|.tail 120 [0, 1, 46, 3, 4, 5, 6, 7, 8, 9, 10, 11, 12, 13, 14, 15, 16, 17, 18, 19, 20, 21, 22, 23, 24, 25, 26]))
 (.step (.ci .i64 4)<|.step (.bin .eql 30 35)<|.ite 36
 (.step (.len 24)<|.step (.ci .i64 0)<|.step (.bin .gtr 37 38)<|.ite 39
 (.step (.call 102 [24] 0)<|.step (.ci .i64 5)<|.step (.bin .eql 30 41)<|.step (.bin .neq 40 38)<|.ite 43
 (.ret [38, 40])
 (.step (.ci .i64 1)<|.step (.bin .add 2 44)<|.tail 120 [0, 1, 45, 3, 4, 5, 6, 7, 8, 9, 10, 11, 12, 13, 14, 15, 16, 17, 18, 19, 20, 21, 22, 23, 24, 25, 26]))
 (.step (.ci .i64 5)<|.step (.bin .eql 30 40)<|.step (.ci .i64 1)<|.step (.bin .add 2 42)<|.tail 120 [0, 1, 43, 3, 4, 5, 6, 7, 8, 9, 10, 11, 12, 13, 14, 15, 16, 17, 18, 19, 20, 21, 22, 23, 24, 25, 26]))
 (.step (.ci .i64 5)<|.step (.bin .eql 30 37)<|.ite 38
 (.step (.call 99 [25] 0)<|.step (.ci .i64 0)<|.step (.bin .neq 39 40)<|.ite 41
 (.ret [40, 39])
 (.step (.ci .i64 1)<|.step (.bin .add 2 42)<|.tail 120 [0, 1, 43, 3, 4, 5, 6, 7, 8, 9, 10, 11, 12, 13, 14, 15, 16, 17, 18, 19, 20, 21, 22, 23, 24, 25, 26]))
 (.step (.ci .i64 1)<|.step (.bin .add 2 39)<|.tail 120 [0, 1, 40, 3, 4, 5, 6, 7, 8, 9, 10, 11, 12, 13, 14, 15, 16, 17, 18, 19, 20, 21, 22, 23, 24, 25, 26]))))
 (.step (.ci .i64 1)<|.ret [28])
def d100 : PDef := .tree 3<|.step (.bin .lss 2 1)<|.ite 3
 (.step (.at 2 0 2)<|.step (.cell 0 4)<|.step (.cell 1 4)<|.step (.mk [5, 6])<|.step (.call 101 [7] 0)<|.step (.ci .i64 0)<|.step (.bin .eql 8 9)<|.ite 10
 (.step (.bin .gtr 2 9)<|.ite 11
 (.step (.ci .i64 1)<|.step (.bin .sub 2 12)<|.step (.at 2 0 13)<|.step (.cell 0 14)<|.step (.call 93 [15] 0)<|.step (.call 93 [5] 0)<|.step (.bin .eql 16 17)<|.ite 18
 (.step (.ci .i64 14)<|.ret [9, 19])
 (.step (.call 114 [16, 17] 0)<|.step (.un .not 19)<|.ite 20
 (.step (.ci .i64 7)<|.ret [9, 21])
 (.step (.bin .neq 8 9)<|.step (.bin .add 2 12)<|.tail 100 [0, 1, 22])))
 (.step (.bin .neq 8 9)<|.step (.ci .i64 1)<|.step (.bin .add 2 13)<|.tail 100 [0, 1, 14]))
 (.step (.bin .neq 8 9)<|.ret [9, 8]))
 (.step (.ci .i64 1)<|.ret [4])
def d40 : PDef := .tree 29<|.step (.bin .lss 3 2)<|.ite 29
 (.step (.at 1 1 3)<|.step (.cell 0 30)<|.step (.cs [])<|.step (.bin .eql 31 32)<|.step (.cb false)<|.step (.mget 34 4 31)<|.step (.cell 0 35)<|.step (.un .not 36)<|.ite 37
 (.step (.cs [114, 101, 109, 97, 105, 110, 105, 110, 103])<|.step (.bin .eql 31 38)<|.ite 39
 (.step (.ci .i64 0)<|.step (.bin .eql 21 40)<|.step (.un .not 41)<|.ite 42
 (.ret [40])
 (.step (.ci .i64 1)<|.step (.bin .add 3 43)<|.tail 40 [0, 1, 2, 44, 4, 5, 6, 7, 8, 9, 10, 11, 12, 13, 14, 15, 16, 17, 18, 19, 20, 21, 22, 23, 24, 25, 26, 27, 28]))
 (.step (.cs [97, 108, 108, 111, 119, 101, 100])<|.step (.bin .eql 31 40)<|.ite 41
 (.step (.un .not 22)<|.step (.un .not 42)<|.ite 43
 (.step (.ci .i64 0)<|.ret [44])
 (.step (.ci .i64 1)<|.step (.bin .add 3 44)<|.tail 40 [0, 1, 2, 45, 4, 5, 6, 7, 8, 9, 10, 11, 12, 13, 14, 15, 16, 17, 18, 19, 20, 21, 22, 23, 24, 25, 26, 27, 28]))
 (.step (.cs [110, 97, 109, 101])<|.step (.bin .eql 31 42)<|.ite 43
 (.step (.bin .eql 23 32)<|.step (.un .not 44)<|.ite 45
 (.step (.ci .i64 0)<|.ret [46])
 (.step (.ci .i64 1)<|.step (.bin .add 3 46)<|.tail 40 [0, 1, 2, 47, 4, 5, 6, 7, 8, 9, 10, 11, 12, 13, 14, 15, 16, 17, 18, 19, 20, 21, 22, 23, 24, 25, 26, 27, 28]))
 (.step (.cs [114, 101, 103, 105, 111, 110])<|.step (.bin .eql 31 44)<|.ite 45
 (.step (.bin .eql 24 32)<|.step (.un .not 46)<|.ite 47
 (.step (.ci .i64 0)<|.ret [48])
 (.step (.ci .i64 1)<|.step (.bin .add 3 48)<|.tail 40 [0, 1, 2, 49, 4, 5, 6, 7, 8, 9, 10, 11, 12, 13, 14, 15, 16, 17, 18, 19, 20, 21, 22, 23, 24, 25, 26, 27, 28]))
 (.step (.cs [110, 111, 116, 101])<|.step (.bin .eql 31 46)<|.ite 47
 (.step (.bin .eql 25 32)<|.step (.un .not 48)<|.ite 49
 (.step (.ci .i64 0)<|.ret [50])
 (.step (.ci .i64 1)<|.step (.bin .add 3 50)<|.tail 40 [0, 1, 2, 51, 4, 5, 6, 7, 8, 9, 10, 11, 12, 13, 14, 15, 16, 17, 18, 19, 20, 21, 22, 23, 24, 25, 26, 27, 28]))
 (.step (.cs [100, 101, 115, 99, 114])<|.step (.bin .eql 31 48)<|.ite 49
 (.step (.len 26)<|.step (.ci .i64 0)<|.step (.bin .eql 50 51)<|.step (.un .not 52)<|.ite 53
 (.ret [51])
 (.step (.ci .i64 1)<|.step (.bin .add 3 54)<|.tail 40 [0, 1, 2, 55, 4, 5, 6, 7, 8, 9, 10, 11, 12, 13, 14, 15, 16, 17, 18, 19, 20, 21, 22, 23, 24, 25, 26, 27, 28]))
 (.step (.cs [116, 97, 98, 108, 101])<|.step (.bin .eql 31 50)<|.ite 51
 (.step (.len 27)<|.step (.ci .i64 0)<|.step (.bin .eql 52 53)<|.step (.un .not 54)<|.ite 55
 (.ret [53])
 (.step (.ci .i64 1)<|.step (.bin .add 3 56)<|.tail 40 [0, 1, 2, 57, 4, 5, 6, 7, 8, 9, 10, 11, 12, 13, 14, 15, 16, 17, 18, 19, 20, 21, 22, 23, 24, 25, 26, 27, 28]))
 (.step (.cs [105, 100])<|.step (.bin .eql 31 52)<|.ite 53
 (.step (.ci .u64 0)<|.step (.bin .eql 6 54)<|.step (.un .not 55)<|.ite 56
 (.step (.ci .i64 0)<|.ret [57])
 (.step (.ci .i64 1)<|.step (.bin .add 3 57)<|.tail 40 [0, 1, 2, 58, 4, 5, 6, 7, 8, 9, 10, 11, 12, 13, 14, 15, 16, 17, 18, 19, 20, 21, 22, 23, 24, 25, 26, 27, 28]))
 (.step (.cs [109, 105, 110])<|.step (.bin .eql 31 54)<|.ite 55
 (.step (.ci .u64 0)<|.step (.bin .eql 7 56)<|.step (.un .not 57)<|.ite 58
 (.step (.ci .i64 0)<|.ret [59])
 (.step (.ci .i64 1)<|.step (.bin .add 3 59)<|.tail 40 [0, 1, 2, 60, 4, 5, 6, 7, 8, 9, 10, 11, 12, 13, 14, 15, 16, 17, 18, 19, 20, 21, 22, 23, 24, 25, 26, 27, 28]))
 (.step (.cs [109, 97, 120])<|.step (.bin .eql 31 56)<|.ite 57
 (.step (.ci .u64 0)<|.step (.bin .eql 8 58)<|.step (.un .not 59)<|.ite 60
 (.step (.ci .i64 0)<|.ret [61])
 (.step (.ci .i64 1)<|.step (.bin .add 3 61)<|.tail 40 [0, 1, 2, 62, 4, 5, 6, 7, 8, 9, 10, 11, 12, 13, 14, 15, 16, 17, 18, 19, 20, 21, 22, 23, 24, 25, 26, 27, 28]))
 (.step (.cs [99, 104, 111, 115, 101, 110])<|.step (.bin .eql 31 58)<|.ite 59
 (.step (.ci .u64 0)<|.step (.bin .eql 9 60)<|.step (.un .not 61)<|.ite 62
 (.step (.ci .i64 0)<|.ret [63])
 (.step (.ci .i64 1)<|.step (.bin .add 3 63)<|.tail 40 [0, 1, 2, 64, 4, 5, 6, 7, 8, 9, 10, 11, 12, 13, 14, 15, 16, 17, 18, 19, 20, 21, 22, 23, 24, 25, 26, 27, 28]))
 (.step (.cs [102, 108, 97, 103, 115])<|.step (.bin .eql 31 60)<|.ite 61
 (.step (.ci .u64 0)<|.step (.bin .eql 10 62)<|.step (.un .not 63)<|.ite 64
 (.step (.ci .i64 0)<|.ret [65])
 (.step (.ci .i64 1)<|.step (.bin .add 3 65)<|.tail 40 [0, 1, 2, 66, 4, 5, 6, 7, 8, 9, 10, 11, 12, 13, 14, 15, 16, 17, 18, 19, 20, 21, 22, 23, 24, 25, 26, 27, 28]))
 (.step (.cs [99, 111, 115, 116])<|.step (.bin .eql 31 62)<|.ite 63
 (.step (.ci .u64 0)<|.step (.bin .eql 11 64)<|.step (.un .not 65)<|.ite 66
 (.step (.ci .i64 0)<|.ret [67])
 (.step (.ci .i64 1)<|.step (.bin .add 3 67)<|.tail 40 [0, 1, 2, 68, 4, 5, 6, 7, 8, 9, 10, 11, 12, 13, 14, 15, 16, 17, 18, 19, 20, 21, 22, 23, 24, 25, 26, 27, 28]))
 (.step (.cs [112, 114, 105, 111, 114, 105, 116, 121])<|.step (.bin .eql 31 64)<|.ite 65
 (.step (.ci .u64 0)<|.step (.bin .eql 12 66)<|.step (.un .not 67)<|.ite 68
 (.step (.ci .i64 0)<|.ret [69])
 (.step (.ci .i64 1)<|.step (.bin .add 3 69)<|.tail 40 [0, 1, 2, 70, 4, 5, 6, 7, 8, 9, 10, 11, 12, 13, 14, 15, 16, 17, 18, 19, 20, 21, 22, 23, 24, 25, 26, 27, 28]))
 (.step (.cs [100, 101, 97, 100, 108, 105, 110, 101])<|.step (.bin .eql 31 66)<|.ite 67
 (.step (.ci .u64 0)<|.step (.bin .eql 13 68)<|.step (.un .not 69)<|.ite 70
 (.step (.ci .i64 0)<|.ret [71])
 (.step (.ci .i64 1)<|.step (.bin .add 3 71)<|.tail 40 [0, 1, 2, 72, 4, 5, 6, 7, 8, 9, 10, 11, 12, 13, 14, 15, 16, 17, 18, 19, 20, 21, 22, 23, 24, 25, 26, 27, 28]))
 (.step (.cs [114, 101, 116, 114, 121])<|.step (.bin .eql 31 68)<|.ite 69
 (.step (.ci .u64 0)<|.step (.bin .eql 14 70)<|.step (.un .not 71)<|.ite 72
 (.step (.ci .i64 0)<|.ret [73])
 (.step (.ci .i64 1)<|.step (.bin .add 3 73)<|.tail 40 [0, 1, 2, 74, 4, 5, 6, 7, 8, 9, 10, 11, 12, 13, 14, 15, 16, 17, 18, 19, 20, 21, 22, 23, 24, 25, 26, 27, 28]))
 (.step (.cs [101, 112, 111, 99, 104])<|.step (.bin .eql 31 70)<|.ite 71
 (.step (.ci .u64 0)<|.step (.bin .eql 15 72)<|.step (.un .not 73)<|.ite 74
 (.step (.ci .i64 0)<|.ret [75])
 (.step (.ci .i64 1)<|.step (.bin .add 3 75)<|.tail 40 [0, 1, 2, 76, 4, 5, 6, 7, 8, 9, 10, 11, 12, 13, 14, 15, 16, 17, 18, 19, 20, 21, 22, 23, 24, 25, 26, 27, 28]))
 (.step (.cs [98, 97, 115, 101])<|.step (.bin .eql 31 72)<|.ite 73
 (.step (.ci .u64 0)<|.step (.bin .eql 16 74)<|.step (.un .not 75)<|.ite 76
 (.step (.ci .i64 0)<|.ret [77])
 (.step (.ci .i64 1)<|.step (.bin .add 3 77)<|.tail 40 [0, 1, 2, 78, 4, 5, 6, 7, 8, 9, 10, 11, 12, 13, 14, 15, 16, 17, 18, 19, 20, 21, 22, 23, 24, 25, 26, 27, 28]))
 (.step (.cs [100, 105, 103, 101, 115, 116])<|.step (.bin .eql 31 74)<|.ite 75
 (.step (.ci .u64 0)<|.step (.bin .eql 17 76)<|.step (.un .not 77)<|.ite 78
 (.step (.ci .i64 0)<|.ret [79])
 (.step (.ci .i64 1)<|.step (.bin .add 3 79)<|.tail 40 [0, 1, 2, 80, 4, 5, 6, 7, 8, 9, 10, 11, 12, 13, 14, 15, 16, 17, 18, 19, 20, 21, 22, 23, 24, 25, 26, 27, 28]))
 (.step (.cs [108, 97, 103])<|.step (.bin .eql 31 76)<|.ite 77
 (.step (.ci .u64 0)<|.step (.bin .eql 18 78)<|.step (.un .not 79)<|.ite 80
 (.step (.ci .i64 0)<|.ret [81])
 (.step (.ci .i64 1)<|.step (.bin .add 3 81)<|.tail 40 [0, 1, 2, 82, 4, 5, 6, 7, 8, 9, 10, 11, 12, 13, 14, 15, 16, 17, 18, 19, 20, 21, 22, 23, 24, 25, 26, 27, 28]))
 (.step (.cs [99, 111, 100, 101])<|.step (.bin .eql 31 78)<|.ite 79
 (.step (.ci .u64 0)<|.step (.bin .eql 19 80)<|.step (.un .not 81)<|.ite 82
 (.step (.ci .i64 0)<|.ret [83])
 (.step (.ci .i64 1)<|.step (.bin .add 3 83)<|.tail 40 [0, 1, 2, 84, 4, 5, 6, 7, 8, 9, 10, 11, 12, 13, 14, 15, 16, 17, 18, 19, 20, 21, 22, 23, 24, 25, 26, 27, 28]))
 (.step (.cs [119, 97, 110, 116])<|.step (.bin .eql 31 80)<|.ite 81
 (.step (.ci .u64 0)<|.step (.bin .eql 20 82)<|.step (.un .not 83)<|.ite 84
 (.step (.ci .i64 0)<|.ret [85])
 (.step (.ci .i64 1)<|.step (.bin .add 3 85)<|.tail 40 [0, 1, 2, 86, 4, 5, 6, 7, 8, 9, 10, 11, 12, 13, 14, 15, 16, 17, 18, 19, 20, 21, 22, 23, 24, 25, 26, 27, 28]))
 (.step (.ci .i64 1)<|.step (.bin .add 3 82)<|.tail 40 [0, 1, 2, 83, 4, 5, 6, 7, 8, 9, 10, 11, 12, 13, 14, 15, 16, 17, 18, 19, 20, 21, 22, 23, 24, 25, 26, 27, 28])))))))))))))))))))))))
 (.step (.ci .i64 1)<|.step (.bin .add 3 38)<|.tail 40 [0, 1, 2, 39, 4, 5, 6, 7, 8, 9, 10, 11, 12, 13, 14, 15, 16, 17, 18, 19, 20, 21, 22, 23, 24, 25, 26, 27, 28]))
 (.step (.ci .i64 1)<|.ret [30])
def d78 : PDef := .tree 11<|.step (.bin .lss 5 4)<|.ite 11
 (.step (.at 4 0 5)<|.step (.cell 0 12)<|.step (.cell 1 12)<|.step (.cell 2 12)<|.step (.cell 3 12)<|.step (.bin .eql 6 13)<|.ite 17
 (.step (.ci .i64 0)<|.ret [18])
 (.step (.ci .i64 1)<|.step (.bin .add 5 18)<|.tail 78 [0, 1, 2, 3, 4, 19, 6, 7, 8, 9, 10]))
 (.step (.ci .i64 1)<|.ret [12])
def d21 : PDef := .tree 4<|.step (.bin .lss 3 2)<|.ite 4
 (.step (.at 2 1 3)<|.step (.cell 0 5)<|.step (.cell 1 5)<|.step (.mk [6, 7])<|.step (.ml [8])<|.step (.app 2 32 0 9)<|.step (.ci .i64 1)<|.step (.bin .add 3 11)<|.tail 21 [10, 1, 2, 12])
 (.step (.ci .i64 0)<|.ret [5, 0])
def d18 : PDef := .tree 3<|.step (.len 0)<|.step (.ci .i64 0)<|.step (.bin .gtr 3 4)<|.ite 5
 (.step (.at 5 0 4)<|.step (.cell 0 6)<|.step (.bin .geq 7 1)<|.ite 8
 (.step (.cell 1 6)<|.step (.cell 2 6)<|.step (.cell 3 6)<|.step (.cell 4 6)<|.step (.conv .i64 10)<|.step (.ci .u8 255)<|.step (.bin .eql 7 14)<|.ite 15
 (.step (.ci .i64 1)<|.step (.lsub 5 0 16 3)<|.step (.ml [])<|.step (.mk [9, 13, 11, 12, 18])<|.step (.ml [19])<|.step (.app 5 64 2 20)<|.tail 18 [17, 1, 21])
 (.step (.ci .i64 1)<|.step (.lsub 5 0 16 3)<|.step (.ci .u8 1)<|.step (.bin .add 7 18)<|.step (.call 17 [17, 19] 0)<|.step (.call 17 [17, 19] 1)<|.step (.mk [9, 13, 11, 12, 20]) <|
 .step (.ml [22])<|.step (.app 5 64 2 23)<|.tail 18 [21, 1, 24]))
 (.ret [4, 0, 2]))
 (.ret [4, 0, 2])
def d126 : PDef := .tree 4<|.step (.bin .lss 3 2)<|.ite 4
 (.step (.at 1 0 3)<|.step (.cell 0 5)<|.step (.at 1 1 3)<|.step (.cell 0 7)<|.step (.bin .neq 6 8)<|.ite 9
 (.step (.ci .i64 0)<|.ret [10])
 (.step (.ci .i64 1)<|.step (.bin .add 3 10)<|.tail 126 [0, 1, 2, 11]))
 (.step (.ci .i64 1)<|.ret [5])
def d109 : PDef := .tree 5<|.step (.bin .lss 4 1)<|.ite 5
 (.step (.sidx 0 4)<|.step (.conv .i64 6)<|.step (.ci .i64 128)<|.step (.bin .lss 7 8)<|.ite 9
 (.step (.ci .i64 0)<|.ret [10])
 (.step (.ci .i64 192)<|.step (.bin .geq 7 10)<|.ite 11
 (.step (.ci .i64 0)<|.ret [12])
 (.step (.ci .i64 64)<|.step (.bin .mul 12 2)<|.step (.bin .add 13 7)<|.step (.bin .sub 14 8)<|.step (.ci .i64 1)<|.step (.bin .add 4 16)<|.tail 109 [0, 1, 15, 3, 17])))
 (.step (.ci .i64 1)<|.ret [6, 2])
def d9 : PDef := .tree 2<|.step (.ci .u64 128)<|.step (.bin .geq 0 2)<|.ite 3
 (.step (.ci .u64 7)<|.step (.bin .shr 0 4)<|.step (.ci .i64 1)<|.step (.bin .add 1 6)<|.tail 9 [5, 7])
 (.step (.ci .i64 0)<|.ret [4, 1])
def d56 : PDef := .tree 4<|.step (.bin .lss 3 2)<|.ite 4
 (.step (.at 2 1 3)<|.step (.cell 0 5)<|.step (.cell 1 5)<|.step (.mk [6, 7])<|.step (.call 57 [8] 0)<|.step (.ci .i64 0)<|.step (.bin .neq 9 10)<|.ite 11
 (.ret [10, 9])
 (.step (.call 6 [6] 0)<|.step (.bin .gtr 3 10)<|.ite 13
 (.step (.bin .eql 12 0)<|.ite 14
 (.step (.ci .i64 14)<|.ret [10, 15])
 (.step (.bin .lss 12 0)<|.ite 15
 (.step (.ci .i64 7)<|.ret [10, 16])
 (.step (.ci .i64 1)<|.step (.bin .add 3 16)<|.tail 56 [12, 1, 2, 17])))
 (.step (.ci .i64 1)<|.step (.bin .add 3 14)<|.tail 56 [12, 1, 2, 15])))
 (.step (.ci .i64 1)<|.ret [5])
def Ds : List PDef := [d0, d1, d2, d3, d4, d5, d6, d7, d8, d9, d10, d11, d12, d13, d14, d15, d16, d17, d18, d19, d20, d21, d22, d23, d24, d25, d26, d27, d28, d29, d30, d31, d32, d33, d34, d35, d36, d37, d38, d39, d40, d41, d42, d43, d44, d45, d46, d47, d48, d49, d50, d51, d52, d53, d54, d55, d56, d57, d58, d59, d60, d61, d62, d63, d64, d65, d66, d67, d68, d69, d70, d71, d72, d73, d74, d75, d76, d77, d78, d79, d80, d81, d82, d83, d84, d85, d86, d87, d88, d89, d90, d91, d92, d93, d94, d95, d96, d97, d98, d99, d100, d101, d102, d103, d104, d105, d106, d107, d108, d109, d110, d111, d112, d113, d114, d115, d116, d117, d118, d119, d120, d121, d122, d123, d124, d125, d126, d127, d128, d129, d130, d131, d132, d133, d134, d135]
noncomputable abbrev TT : PProg := TofL Ds
end
end M
end Go.Proofs.YtckgelanagoenaaGreatDoor
