/- What functions and loops compute: trees of nodes, found by a driver. -/
import Derived.Test.YtbcpbplkgknnmaaGreatDoorAbsJ
import Derived.Test.YtbcpbplkgknnmaaGreatDoorAbsPl
import Derived.Test.YtbcpbplkgknnmaaGreatDoorAbsTold
import Derived.Test.YtbcpbplkgknnmaaGreatDoorAbsTold2
namespace Go.Proofs.YtbcpbplkgknnmaaGreatDoor
open Go Go.Abs
set_option maxRecDepth 100000
set_option linter.unusedVariables false
set_option linter.unusedSimpArgs false
namespace X
noncomputable section
def d24 : PDef := .fn [.sc] [.sc]<|.step (.call 25 [0] 0)<|.ret [1]
def d62 : PDef := .fn [.sc, .sc] [.sc]<|.step (.len 1)<|.step (.ci .i64 0)<|.step (.call 63 [0, 1, 2, 3] 0)<|.step (.bin .eql 4 3)<|.ite 5
 (.step (.cb false)<|.ret [6])
 (.step (.cb true)<|.ret [6])
def d96 : PDef := .fn [.sc, .sc] [.sc]<|.step (.call 97 [0, 1] 0)<|.step (.conv .u64 2)<|.step (.call 57 [3] 0)<|.step (.slen 1)<|.step (.bin .sub 5 2)<|.step (.conv .u64 6)<|.step (.call 57 [7] 0) <|
 .step (.bin .add 4 8)<|.step (.ssub 1 2 5)<|.step (.bin .add 9 10)<|.ret [11]
def d81 : PDef := .fn [.sc] [.sc]<|.step (.len 0)<|.step (.ci .i64 0)<|.step (.ml [])<|.step (.call 82 [3, 0, 1, 2] 0)<|.step (.call 82 [3, 0, 1, 2] 1)<|.ret [5]
def d67 : PDef := .fn [.ag 2] [.ag 2]<|.step (.cell 0 0)<|.step (.cell 1 0)<|.step (.call 68 [2] 0)<|.step (.mk [1, 3])<|.ret [4]
def d80 : PDef := .fn [.ag 24] [.ag 24]<|.step (.cell 0 0)<|.step (.cell 1 0)<|.step (.cell 2 0)<|.step (.cell 3 0)<|.step (.cell 4 0)<|.step (.cell 5 0)<|.step (.cell 6 0)<|.step (.cell 7 0) <|
 .step (.cell 8 0)<|.step (.cell 9 0)<|.step (.cell 10 0)<|.step (.cell 11 0)<|.step (.cell 12 0)<|.step (.cell 13 0)<|.step (.cell 14 0)<|.step (.cell 15 0)<|.step (.cell 16 0) <|
 .step (.cell 17 0)<|.step (.cell 18 0)<|.step (.cell 19 0)<|.step (.cell 20 0)<|.step (.cell 21 0)<|.step (.cell 22 0)<|.step (.cell 23 0)<|.step (.call 70 [22] 0)<|.step (.call 68 [23] 0) <|
 .step (.call 81 [24] 0)<|.step (.mk [1, 2, 3, 4, 5, 6, 7, 8, 9, 10, 11, 12, 13, 14, 15, 16, 17, 18, 19, 20, 21, 25, 26, 27])<|.ret [28]
def d93 : PDef := .fn [.sc] [.sc, .sc]<|.step (.call 41 [0] 0)<|.step (.ci .i64 0)<|.step (.bin .neq 1 2)<|.ite 3
 (.step (.cs [])<|.ret [4, 1])
 (.step (.call 94 [0] 0)<|.ret [4, 2])
def d60 : PDef := .fn [.ag 2] [.sc]<|.step (.cell 0 0)<|.step (.cell 1 0)<|.step (.slen 1)<|.step (.conv .u64 3)<|.step (.call 57 [4] 0)<|.step (.bin .add 5 1)<|.step (.slen 2)<|.step (.conv .u64 7) <|
 .step (.call 57 [8] 0)<|.step (.bin .add 6 9)<|.step (.bin .add 10 2)<|.ret [11]
def d73 : PDef := .fn [.sc, .sc] [.sc]<|.step (.len 0)<|.step (.len 1)<|.step (.bin .neq 2 3)<|.ite 4
 (.step (.cb false)<|.ret [5])
 (.step (.ci .i64 0)<|.step (.call 74 [0, 1, 2, 5] 0)<|.step (.bin .eql 6 5)<|.ite 7
 (.step (.cb false)<|.ret [8])
 (.step (.cb true)<|.ret [8]))
abbrev d25 : PDef := .prim validP
def d12 : PDef := .fn [.ag 2] [.sc]<|.step (.cell 0 0)<|.step (.cell 1 0)<|.step (.slen 1)<|.step (.conv .u64 3)<|.step (.call 7 [4] 0)<|.step (.bin .add 5 1)<|.step (.slen 2)<|.step (.conv .u64 7) <|
 .step (.call 7 [8] 0)<|.step (.bin .add 6 9)<|.step (.bin .add 10 2)<|.ret [11]
def d94 : PDef := .fn [.sc] [.sc]<|.step (.len 0)<|.step (.conv .u64 1)<|.step (.call 57 [2] 0)<|.step (.ci .i64 0)<|.step (.call 95 [0, 3, 1, 4] 0)<|.step (.call 95 [0, 3, 1, 4] 1) <|
 .ret [6]
def d72 : PDef := .fn [.ag 2, .ag 2] [.sc]<|.step (.cell 0 0)<|.step (.cell 1 0)<|.step (.cell 0 1)<|.step (.cell 1 1)<|.step (.bin .eql 2 4)<|.ite 6
 (.step (.call 73 [3, 5] 0)<|.ret [7])
 (.step (.cb false)<|.ret [7])
def d44 : PDef := .fn [.sc] [.sc]<|.step (.len 0)<|.step (.conv .u64 1)<|.step (.ci .u64 0)<|.step (.bin .eql 2 3)<|.ite 4
 (.step (.ci .i64 12)<|.step (.ci .i64 0)<|.step (.call 45 [0, 5, 6] 0)<|.step (.call 45 [0, 5, 6] 1)<|.ret [8])
 (.step (.ci .u64 16)<|.step (.bin .gtr 2 5)<|.ite 6
 (.step (.ci .i64 13)<|.step (.ci .i64 0)<|.step (.call 45 [0, 7, 8] 0)<|.step (.call 45 [0, 7, 8] 1)<|.ret [10])
 (.step (.ci .i64 0)<|.step (.call 45 [0, 7, 7] 0)<|.step (.call 45 [0, 7, 7] 1)<|.ret [9]))
def d89 : PDef := .fn [.sc] [.sc]<|.step (.ci .i64 1)<|.step (.bin .eql 0 1)<|.ite 2
 (.step (.ci .u64 1)<|.step (.ci .i64 0)<|.step (.cs [109, 105, 110])<|.step (.mk [3, 4, 1, 5])<|.step (.ci .u64 2)<|.step (.cs [109, 97, 120])<|.step (.mk [7, 4, 1, 8])<|.step (.ci .u64 3) <|
 .step (.ci .i64 3)<|.step (.cs [110, 97, 109, 101])<|.step (.mk [10, 11, 1, 12])<|.step (.ci .u64 4)<|.step (.ci .i64 2)<|.step (.cs [114, 101, 103, 105, 111, 110])<|.step (.mk [14, 11, 15, 16]) <|
 .step (.ci .u64 5)<|.step (.cs [102, 108, 97, 103, 115])<|.step (.mk [18, 4, 11, 19])<|.step (.ml [6, 9, 13, 17, 20])<|.ret [21])
 (.step (.ci .i64 2)<|.step (.bin .eql 0 3)<|.ite 4
 (.step (.ci .u64 1)<|.step (.ci .i64 0)<|.step (.cs [99, 104, 111, 115, 101, 110])<|.step (.mk [5, 6, 1, 7])<|.step (.ci .u64 2)<|.step (.ci .i64 3)<|.step (.cs [110, 97, 109, 101]) <|
 .step (.mk [9, 10, 1, 11])<|.step (.ci .u64 3)<|.step (.cs [114, 101, 103, 105, 111, 110])<|.step (.mk [13, 10, 3, 14])<|.step (.ml [8, 12, 15])<|.ret [16])
 (.step (.ci .i64 3)<|.step (.bin .eql 0 5)<|.ite 6
 (.step (.ci .u64 1)<|.step (.ci .i64 0)<|.step (.cs [105, 100])<|.step (.mk [7, 8, 1, 9])<|.step (.ci .u64 2)<|.step (.ci .i64 4)<|.step (.cs [100, 101, 115, 99, 114])<|.step (.mk [11, 12, 1, 13]) <|
 .step (.ci .u64 3)<|.step (.cs [99, 111, 115, 116])<|.step (.mk [15, 8, 1, 16])<|.step (.ci .u64 4)<|.step (.cs [112, 114, 105, 111, 114, 105, 116, 121])<|.step (.mk [18, 8, 3, 19]) <|
 .step (.ci .u64 5)<|.step (.cs [100, 101, 97, 100, 108, 105, 110, 101])<|.step (.mk [21, 8, 5, 22])<|.step (.ml [10, 14, 17, 20, 23])<|.ret [24])
 (.step (.ci .i64 4)<|.step (.bin .eql 0 7)<|.ite 8
 (.step (.ci .u64 1)<|.step (.ci .i64 0)<|.step (.cs [105, 100])<|.step (.mk [9, 10, 1, 11])<|.step (.ci .u64 2)<|.step (.cs [97, 108, 108, 111, 119, 101, 100])<|.step (.mk [13, 1, 1, 14]) <|
 .step (.ci .u64 3)<|.step (.cs [114, 101, 109, 97, 105, 110, 105, 110, 103])<|.step (.mk [16, 3, 1, 17])<|.step (.ci .u64 4)<|.step (.cs [114, 101, 116, 114, 121])<|.step (.mk [19, 10, 3, 20]) <|
 .step (.ci .u64 5)<|.step (.cs [110, 111, 116, 101])<|.step (.mk [22, 5, 5, 23])<|.step (.ml [12, 15, 18, 21, 24])<|.ret [25])
 (.step (.ci .i64 5)<|.step (.bin .eql 0 9)<|.ite 10
 (.step (.ci .u64 1)<|.step (.ci .i64 0)<|.step (.cs [101, 112, 111, 99, 104])<|.step (.mk [11, 12, 1, 13])<|.step (.ci .u64 2)<|.step (.cs [116, 97, 98, 108, 101])<|.step (.mk [15, 9, 1, 16]) <|
 .step (.ci .u64 3)<|.step (.cs [114, 101, 103, 105, 111, 110])<|.step (.mk [18, 5, 3, 19])<|.step (.ci .u64 4)<|.step (.cs [100, 105, 103, 101, 115, 116])<|.step (.mk [21, 12, 5, 22]) <|
 .step (.ml [14, 17, 20, 23])<|.ret [24])
 (.step (.ci .i64 6)<|.step (.bin .eql 0 11)<|.ite 12
 (.step (.ci .u64 1)<|.step (.ci .i64 0)<|.step (.cs [98, 97, 115, 101])<|.step (.mk [13, 14, 3, 15])<|.step (.ci .u64 2)<|.step (.cs [101, 112, 111, 99, 104])<|.step (.mk [17, 14, 3, 18]) <|
 .step (.ci .u64 3)<|.step (.cs [116, 97, 98, 108, 101])<|.step (.mk [20, 9, 3, 21])<|.step (.ci .u64 4)<|.step (.cs [114, 101, 103, 105, 111, 110])<|.step (.mk [23, 5, 3, 24])<|.step (.ci .u64 5) <|
 .step (.cs [100, 105, 103, 101, 115, 116])<|.step (.mk [26, 14, 5, 27])<|.step (.ml [16, 19, 22, 25, 28])<|.ret [29])
 (.step (.ci .i64 7)<|.step (.bin .eql 0 13)<|.ite 14
 (.step (.ci .u64 1)<|.step (.ci .i64 0)<|.step (.cs [101, 112, 111, 99, 104])<|.step (.mk [15, 16, 1, 17])<|.step (.ci .u64 2)<|.step (.cs [108, 97, 103])<|.step (.mk [19, 16, 5, 20]) <|
 .step (.ml [18, 21])<|.ret [22])
 (.step (.ci .i64 8)<|.step (.bin .eql 0 15)<|.ite 16
 (.step (.ci .u64 1)<|.step (.ci .i64 0)<|.step (.cs [101, 112, 111, 99, 104])<|.step (.mk [17, 18, 1, 19])<|.step (.ci .u64 2)<|.step (.cs [99, 111, 100, 101])<|.step (.mk [21, 18, 1, 22]) <|
 .step (.ci .u64 3)<|.step (.cs [119, 97, 110, 116])<|.step (.mk [24, 18, 3, 25])<|.step (.ci .u64 4)<|.step (.cs [110, 111, 116, 101])<|.step (.mk [27, 5, 5, 28])<|.step (.ml [20, 23, 26, 29]) <|
 .ret [30])
 (.step (.ml [])<|.ret [17]))))))))
def d8 : PDef := .fn [.sc] [.sc]<|.step (.ci .i64 1)<|.step (.call 9 [0, 1] 0)<|.step (.call 9 [0, 1] 1)<|.ret [3]
def d0 : PDef := .fn [.sc, .sc] [.sc]<|.step (.ci .i64 1)<|.step (.bin .leq 2 0)<|.ite 3
 (.step (.ci .i64 3)<|.step (.bin .leq 0 4)<|.step (.un .not 5)<|.ite 6
 (.step (.bin .lss 0 2)<|.ite 7
 (.step (.cb true)<|.ret [8])
 (.step (.bin .gtr 0 4)<|.ite 8
 (.step (.cb true)<|.ret [9])
 (.step (.len 1)<|.step (.ci .i64 30)<|.step (.bin .gtr 9 10)<|.ite 11
 (.step (.cb true)<|.ret [12])
 (.step (.ci .i64 0)<|.step (.ml [])<|.step (.ci .u64 0)<|.step (.call 1 [1, 9, 12, 0, 13, 14, 0, 13, 14] 0)<|.step (.bin .eql 15 12)<|.ite 16
 (.step (.call 1 [1, 9, 12, 0, 13, 14, 0, 13, 14] 1)<|.ret [17])
 (.step (.cb true)<|.ret [17])))))
 (.step (.bin .lss 0 2)<|.ite 7
 (.step (.cb false)<|.ret [8])
 (.step (.bin .gtr 0 4)<|.ite 8
 (.step (.cb true)<|.ret [9])
 (.step (.len 1)<|.step (.ci .i64 30)<|.step (.bin .gtr 9 10)<|.ite 11
 (.step (.cb true)<|.ret [12])
 (.step (.ci .i64 0)<|.step (.ml [])<|.step (.ci .u64 0)<|.step (.call 1 [1, 9, 12, 0, 13, 14, 0, 13, 14] 0)<|.step (.bin .eql 15 12)<|.ite 16
 (.step (.call 1 [1, 9, 12, 0, 13, 14, 0, 13, 14] 1)<|.ret [17])
 (.step (.cb true)<|.ret [17]))))))
 (.step (.bin .lss 0 2)<|.ite 4
 (.step (.cb true)<|.ret [5])
 (.step (.ci .i64 3)<|.step (.bin .gtr 0 5)<|.ite 6
 (.step (.cb true)<|.ret [7])
 (.step (.cb false)<|.ret [7])))
def d6 : PDef := .fn [.sc] [.sc]<|.step (.len 0)<|.step (.conv .u64 1)<|.step (.call 7 [2] 0)<|.step (.bytes 3)<|.step (.ml [])<|.step (.app 1 1 5 4)<|.step (.slen 3)<|.step (.ci .i64 0) <|
 .step (.call 11 [0, 1, 8, 6] 0)<|.step (.call 11 [0, 1, 8, 6] 1)<|.step (.len 10)<|.step (.str 10)<|.ret [12]
def d33 : PDef := .fn [.ag 3, .sc] [.ag 3, .sc]<|.step (.cell 0 0)<|.step (.cell 1 0)<|.step (.cell 2 0)<|.step (.len 3)<|.step (.ci .i64 0)<|.step (.call 34 [1, 3, 5, 6, 2, 4] 0) <|
 .step (.bin .eql 7 6)<|.ite 8
 (.step (.call 34 [1, 3, 5, 6, 2, 4] 1)<|.step (.cb true)<|.step (.mk [2, 9, 1])<|.ret [11, 10])
 (.step (.cb false)<|.step (.mk [2, 3, 4])<|.ret [10, 9])
def d46 : PDef := .fn [.ag 2] [.sc]<|.step (.cell 0 0)<|.step (.cell 1 0)<|.step (.ci .i64 1)<|.step (.ci .i64 64)<|.step (.call 47 [1, 3, 4] 0)<|.step (.ci .i64 0)<|.step (.bin .neq 5 6) <|
 .ite 7
 (.ret [5])
 (.step (.ci .i64 256)<|.step (.call 47 [2, 6, 8] 0)<|.ret [9])
def d64 : PDef := .fn [.sc, .sc] [.sc]<|.step (.len 0)<|.step (.ci .i64 0)<|.step (.call 65 [1, 0, 2, 3] 0)<|.step (.bin .eql 4 3)<|.ite 5
 (.step (.call 65 [1, 0, 2, 3] 1)<|.ret [6])
 (.step (.ci .u64 0)<|.ret [6])
def d41 : PDef := .fn [.sc] [.sc]<|.step (.len 0)<|.step (.ci .i64 256)<|.step (.bin .gtr 1 2)<|.ite 3
 (.step (.ci .i64 13)<|.ret [4])
 (.step (.ci .i64 0)<|.step (.call 42 [0, 1, 4] 0)<|.step (.bin .eql 5 4)<|.ite 6
 (.step (.call 42 [0, 1, 4] 1)<|.ret [7])
 (.ret [4]))
def d104 : PDef := .fn [.ag 3] [.sc]<|.step (.cell 0 0)<|.step (.cell 1 0)<|.step (.cell 2 0)<|.step (.bin .leq 2 1)<|.ite 4
 (.step (.ci .i64 20)<|.ret [5])
 (.step (.call 17 [3] 0)<|.ret [5])
def d86 : PDef := .fn [.ag 24, .sc] [.sc, .sc]<|.step (.cell 0 0)<|.step (.cell 1 0)<|.step (.cell 2 0)<|.step (.cell 3 0)<|.step (.cell 4 0)<|.step (.cell 5 0)<|.step (.cell 6 0) <|
 .step (.cell 7 0)<|.step (.cell 8 0)<|.step (.cell 9 0)<|.step (.cell 10 0)<|.step (.cell 11 0)<|.step (.cell 12 0)<|.step (.cell 13 0)<|.step (.cell 14 0)<|.step (.cell 15 0)<|.step (.cell 16 0) <|
 .step (.cell 17 0)<|.step (.cell 18 0)<|.step (.cell 19 0)<|.step (.cell 20 0)<|.step (.cell 21 0)<|.step (.cell 22 0)<|.step (.cell 23 0)<|.step (.call 87 [1] 0)<|.step (.ci .i64 0) <|
 .step (.bin .eql 26 27)<|.ite 28
 (.step (.mk [2, 3, 4, 5, 6, 7, 8, 9, 10, 11, 12, 13, 14, 15, 16, 17, 18, 19, 20, 21, 22, 23, 24, 25])<|.step (.call 91 [29, 1] 0)<|.step (.cs [])<|.ret [30, 31])
 (.step (.ci .i64 1)<|.step (.bin .eql 26 29)<|.ite 30
 (.ite 19
 (.step (.ci .u64 1)<|.step (.cs [])<|.ret [31, 32])
 (.step (.ci .u64 0)<|.step (.cs [])<|.ret [31, 32]))
 (.step (.ci .i64 2)<|.step (.bin .eql 26 31)<|.ite 32
 (.step (.bin .geq 18 27)<|.ite 33
 (.step (.conv .u64 18)<|.step (.ci .u64 2)<|.step (.bin .mul 35 34)<|.step (.cs [])<|.ret [36, 37])
 (.step (.bin .add 18 29)<|.step (.bin .sub 27 34)<|.step (.conv .u64 35)<|.step (.ci .u64 1)<|.step (.bin .add 36 37)<|.step (.bin .sub 38 37)<|.step (.ci .u64 2)<|.step (.bin .mul 40 39) <|
 .step (.bin .add 41 37)<|.step (.cs [])<|.ret [42, 43]))
 (.step (.ci .i64 3)<|.step (.bin .eql 26 33)<|.ite 34
 (.step (.mk [2, 3, 4, 5, 6, 7, 8, 9, 10, 11, 12, 13, 14, 15, 16, 17, 18, 19, 20, 21, 22, 23, 24, 25])<|.step (.call 92 [35, 1] 0)<|.step (.ci .u64 0)<|.ret [37, 36])
 (.step (.ci .i64 4)<|.step (.bin .eql 26 35)<|.ite 36
 (.step (.len 23)<|.step (.bin .gtr 37 27)<|.ite 38
 (.step (.call 56 [23] 0)<|.step (.ci .u64 0)<|.ret [40, 39])
 (.step (.ci .u64 0)<|.step (.cs [])<|.ret [39, 40]))
 (.step (.len 24)<|.step (.bin .gtr 37 27)<|.ite 38
 (.step (.call 93 [24] 0)<|.step (.call 93 [24] 1)<|.step (.ci .u64 0)<|.ret [41, 39])
 (.step (.ci .u64 0)<|.step (.cs [])<|.ret [39, 40]))))))
def d43 : PDef := .fn [.ag 2] [.sc]<|.step (.cell 0 0)<|.step (.cell 1 0)<|.step (.call 44 [1] 0)<|.step (.ci .i64 0)<|.step (.bin .eql 3 4)<|.ite 5
 (.step (.ci .u64 0)<|.step (.bin .eql 2 6)<|.ite 7
 (.step (.ci .i64 18)<|.ret [8])
 (.ret [3]))
 (.ret [3])
def d4 : PDef := .fn [.sc] [.sc]<|.step (.len 0)<|.step (.ci .i64 0)<|.step (.call 5 [0, 1, 2] 0)<|.step (.bin .eql 3 2)<|.ite 4
 (.step (.cb false)<|.ret [5])
 (.step (.ci .i64 40)<|.step (.bin .leq 1 5)<|.ret [6])
def d47 : PDef := .fn [.sc, .sc, .sc] [.sc]<|.step (.slen 0)<|.step (.bin .lss 3 1)<|.ite 4
 (.step (.ci .i64 13)<|.ret [5])
 (.step (.bin .gtr 3 2)<|.ite 5
 (.step (.ci .i64 13)<|.ret [6])
 (.step (.call 48 [0] 0)<|.step (.un .not 6)<|.ite 7
 (.step (.ci .i64 11)<|.ret [8])
 (.step (.ci .i64 0)<|.ret [8])))
def d68 : PDef := .fn [.sc] [.sc]<|.step (.len 0)<|.step (.ci .i64 0)<|.step (.ml [])<|.step (.call 69 [3, 0, 1, 2] 0)<|.step (.call 69 [3, 0, 1, 2] 1)<|.ret [5]
abbrev d109 : PDef := .prim add64P
def d53 : PDef := .fn [.ag 2, .ag 2] [.sc]<|.step (.cell 0 0)<|.step (.cell 1 0)<|.step (.cell 0 1)<|.step (.cell 1 1)<|.step (.call 54 [2, 4] 0)<|.ite 6
 (.step (.ci .i64 (-1))<|.ret [7])
 (.step (.bin .eql 2 4)<|.ite 7
 (.step (.call 54 [3, 5] 0)<|.ite 8
 (.step (.ci .i64 (-1))<|.ret [9])
 (.step (.mk [2, 3])<|.step (.mk [4, 5])<|.step (.binc .eql [1, 1] 9 10)<|.ite 11
 (.step (.ci .i64 0)<|.ret [12])
 (.step (.ci .i64 1)<|.ret [12])))
 (.step (.mk [2, 3])<|.step (.mk [4, 5])<|.step (.binc .eql [1, 1] 8 9)<|.ite 10
 (.step (.ci .i64 0)<|.ret [11])
 (.step (.ci .i64 1)<|.ret [11])))
def d16 : PDef := .fn [.ag 2] [.sc]<|.step (.cell 0 0)<|.step (.cell 1 0)<|.step (.call 17 [2] 0)<|.ret [3]
abbrev d108 : PDef := .prim cmpP
def d105 : PDef := .fn [.sc, .sc] [.sc, .sc]<|.step (.len 0)<|.step (.len 1)<|.step (.bin .add 2 3)<|.step (.ml [])<|.step (.ci .u64 0)<|.step (.mk [5, 6])<|.step (.ci .i64 0)<|.step (.rep 2 32 7 8 4) <|
 .step (.call 106 [0, 1, 9] 0)<|.step (.bin .eql 10 8)<|.ite 11
 (.step (.ci .i64 3)<|.ret [5, 12])
 (.step (.call 106 [0, 1, 9] 1)<|.step (.len 12)<|.step (.ci .i64 256)<|.step (.bin .gtr 13 14)<|.ite 15
 (.step (.ci .i64 13)<|.ret [5, 16])
 (.ret [12, 8]))
def d91 : PDef := .fn [.ag 24, .sc] [.sc]<|.step (.cell 0 0)<|.step (.cell 1 0)<|.step (.cell 2 0)<|.step (.cell 3 0)<|.step (.cell 4 0)<|.step (.cell 5 0)<|.step (.cell 6 0)<|.step (.cell 7 0) <|
 .step (.cell 8 0)<|.step (.cell 9 0)<|.step (.cell 10 0)<|.step (.cell 11 0)<|.step (.cell 12 0)<|.step (.cell 13 0)<|.step (.cell 14 0)<|.step (.cell 15 0)<|.step (.cell 16 0) <|
 .step (.cell 17 0)<|.step (.cell 18 0)<|.step (.cell 19 0)<|.step (.cell 20 0)<|.step (.cell 21 0)<|.step (.cell 22 0)<|.step (.cell 23 0)<|.step (.cs [105, 100])<|.step (.bin .eql 1 26) <|
 .ite 27
 (.ret [3])
 (.step (.cs [109, 105, 110])<|.step (.bin .eql 1 28)<|.ite 29
 (.ret [4])
 (.step (.cs [109, 97, 120])<|.step (.bin .eql 1 30)<|.ite 31
 (.ret [5])
 (.step (.cs [99, 104, 111, 115, 101, 110])<|.step (.bin .eql 1 32)<|.ite 33
 (.ret [6])
 (.step (.cs [102, 108, 97, 103, 115])<|.step (.bin .eql 1 34)<|.ite 35
 (.ret [7])
 (.step (.cs [99, 111, 115, 116])<|.step (.bin .eql 1 36)<|.ite 37
 (.ret [8])
 (.step (.cs [112, 114, 105, 111, 114, 105, 116, 121])<|.step (.bin .eql 1 38)<|.ite 39
 (.ret [9])
 (.step (.cs [100, 101, 97, 100, 108, 105, 110, 101])<|.step (.bin .eql 1 40)<|.ite 41
 (.ret [10])
 (.step (.cs [114, 101, 116, 114, 121])<|.step (.bin .eql 1 42)<|.ite 43
 (.ret [11])
 (.step (.cs [101, 112, 111, 99, 104])<|.step (.bin .eql 1 44)<|.ite 45
 (.ret [12])
 (.step (.cs [98, 97, 115, 101])<|.step (.bin .eql 1 46)<|.ite 47
 (.ret [13])
 (.step (.cs [100, 105, 103, 101, 115, 116])<|.step (.bin .eql 1 48)<|.ite 49
 (.ret [14])
 (.step (.cs [108, 97, 103])<|.step (.bin .eql 1 50)<|.ite 51
 (.ret [15])
 (.step (.cs [99, 111, 100, 101])<|.step (.bin .eql 1 52)<|.ite 53
 (.ret [16])
 (.ret [17]))))))))))))))
def d17 : PDef := .fn [.sc] [.sc]<|.step (.len 0)<|.step (.ci .i64 256)<|.step (.bin .gtr 1 2)<|.ite 3
 (.step (.ci .i64 13)<|.ret [4])
 (.step (.cs [])<|.step (.ci .i64 0)<|.step (.call 18 [4, 0, 1, 5] 0)<|.step (.bin .eql 6 5)<|.ite 7
 (.step (.call 18 [4, 0, 1, 5] 1)<|.ret [8])
 (.ret [5]))
def d103 : PDef := .fn [.ag 2, .ag 3] [.ag 2, .sc]<|.step (.cell 0 0)<|.step (.cell 1 0)<|.step (.cell 0 1)<|.step (.cell 1 1)<|.step (.cell 2 1)<|.step (.mk [2, 3])<|.step (.call 16 [7] 0) <|
 .step (.ci .i64 0)<|.step (.bin .neq 8 9)<|.ite 10
 (.step (.ci .u64 0)<|.step (.ml [])<|.step (.mk [11, 12])<|.ret [13, 8])
 (.step (.mk [4, 5, 6])<|.step (.call 104 [11] 0)<|.step (.bin .neq 12 9)<|.ite 13
 (.step (.ci .u64 0)<|.step (.ml [])<|.step (.mk [14, 15])<|.ret [16, 12])
 (.step (.bin .neq 2 4)<|.ite 14
 (.step (.ci .u64 0)<|.step (.ml [])<|.step (.ci .i64 19)<|.step (.mk [15, 16])<|.ret [18, 17])
 (.step (.call 105 [3, 6] 0)<|.step (.call 105 [3, 6] 1)<|.step (.bin .neq 16 9)<|.ite 17
 (.step (.ci .u64 0)<|.step (.ml [])<|.step (.mk [18, 19])<|.ret [20, 16])
 (.step (.mk [5, 15])<|.ret [18, 9]))))
def d61 : PDef := .fn [.sc, .sc] [.sc]<|.step (.cs [])<|.step (.mk [0, 2])<|.step (.mk [1, 2])<|.step (.call 53 [3, 4] 0)<|.step (.ci .i64 0)<|.step (.bin .lss 5 6)<|.ret [7]
def d78 : PDef := .fn [.sc, .sc] [.sc]<|.step (.len 0)<|.step (.len 1)<|.step (.bin .neq 2 3)<|.ite 4
 (.step (.cb false)<|.ret [5])
 (.step (.ci .i64 0)<|.step (.call 79 [0, 1, 2, 5] 0)<|.step (.bin .eql 6 5)<|.ite 7
 (.step (.cb false)<|.ret [8])
 (.step (.cb true)<|.ret [8]))
def d118 : PDef := .fn [.ag 2, .ag 2] [.ag 3, .sc]<|.step (.cell 0 0)<|.step (.cell 1 0)<|.step (.cell 0 1)<|.step (.cell 1 1)<|.step (.mk [2, 3])<|.step (.call 16 [6] 0)<|.step (.ci .i64 0) <|
 .step (.bin .neq 7 8)<|.ite 9
 (.step (.ci .u64 0)<|.step (.ml [])<|.step (.mk [10, 10, 11])<|.ret [12, 7])
 (.step (.mk [4, 5])<|.step (.call 16 [10] 0)<|.step (.bin .neq 11 8)<|.ite 12
 (.step (.ci .u64 0)<|.step (.ml [])<|.step (.mk [13, 13, 14])<|.ret [15, 11])
 (.step (.bin .leq 4 2)<|.ite 13
 (.step (.ci .u64 0)<|.step (.ml [])<|.step (.ci .i64 20)<|.step (.mk [14, 14, 15])<|.ret [17, 16])
 (.step (.call 119 [5, 3] 0)<|.step (.un .not 14)<|.ite 15
 (.step (.ci .u64 0)<|.step (.ml [])<|.step (.ci .i64 21)<|.step (.mk [16, 16, 17])<|.ret [19, 18])
 (.step (.len 5)<|.step (.ml [])<|.step (.call 122 [3, 5, 16, 8, 2, 4, 17] 0)<|.step (.call 122 [3, 5, 16, 8, 2, 4, 17] 1)<|.step (.mk [2, 4, 19])<|.ret [20, 8]))))
def d50 : PDef := .fn [.sc] [.sc]<|.step (.slen 0)<|.step (.ci .i64 0)<|.step (.bin .eql 1 2)<|.ite 3
 (.ret [2])
 (.step (.sidx 0 2)<|.step (.conv .i64 4)<|.step (.ci .i64 128)<|.step (.bin .lss 5 6)<|.ite 7
 (.step (.ci .i64 1)<|.ret [8])
 (.step (.ci .i64 192)<|.step (.bin .geq 5 8)<|.ite 9
 (.step (.ci .i64 224)<|.step (.bin .lss 5 10)<|.ite 11
 (.step (.bin .sub 5 8)<|.step (.ci .i64 2)<|.step (.bin .lss 1 13)<|.ite 14
 (.ret [2])
 (.step (.ci .i64 1)<|.step (.call 51 [0, 13, 12, 6, 15] 0)<|.step (.bin .eql 16 2)<|.ite 17
 (.ret [2])
 (.step (.call 51 [0, 13, 12, 6, 15] 1)<|.step (.bin .lss 18 6)<|.ite 19
 (.ret [2])
 (.step (.ci .i64 1114111)<|.step (.bin .gtr 18 20)<|.ite 21
 (.ret [2])
 (.step (.ci .i64 55296)<|.step (.bin .geq 18 22)<|.ite 23
 (.step (.ci .i64 57344)<|.step (.bin .lss 18 24)<|.ite 25
 (.ret [2])
 (.ret [13]))
 (.ret [13]))))))
 (.step (.bin .geq 5 10)<|.step (.ci .i64 240)<|.step (.bin .lss 5 13)<|.ite 14
 (.step (.bin .sub 5 10)<|.step (.ci .i64 3)<|.step (.bin .lss 1 16)<|.ite 17
 (.ret [2])
 (.step (.ci .i64 2048)<|.step (.ci .i64 1)<|.step (.call 51 [0, 16, 15, 18, 19] 0)<|.step (.bin .eql 20 2)<|.ite 21
 (.ret [2])
 (.step (.call 51 [0, 16, 15, 18, 19] 1)<|.step (.bin .lss 22 18)<|.ite 23
 (.ret [2])
 (.step (.ci .i64 1114111)<|.step (.bin .gtr 22 24)<|.ite 25
 (.ret [2])
 (.step (.ci .i64 55296)<|.step (.bin .geq 22 26)<|.ite 27
 (.step (.ci .i64 57344)<|.step (.bin .lss 22 28)<|.ite 29
 (.ret [2])
 (.ret [16]))
 (.ret [16]))))))
 (.step (.bin .geq 5 13)<|.step (.ci .i64 248)<|.step (.bin .lss 5 16)<|.ite 17
 (.step (.bin .sub 5 13)<|.step (.ci .i64 4)<|.step (.bin .lss 1 19)<|.ite 20
 (.ret [2])
 (.step (.ci .i64 65536)<|.step (.ci .i64 1)<|.step (.call 51 [0, 19, 18, 21, 22] 0)<|.step (.bin .eql 23 2)<|.ite 24
 (.ret [2])
 (.step (.call 51 [0, 19, 18, 21, 22] 1)<|.step (.bin .lss 25 21)<|.ite 26
 (.ret [2])
 (.step (.ci .i64 1114111)<|.step (.bin .gtr 25 27)<|.ite 28
 (.ret [2])
 (.step (.ci .i64 55296)<|.step (.bin .geq 25 29)<|.ite 30
 (.step (.ci .i64 57344)<|.step (.bin .lss 25 31)<|.ite 32
 (.ret [2])
 (.ret [19]))
 (.ret [19]))))))
 (.ret [2]))))
 (.step (.ci .i64 224)<|.step (.bin .geq 5 10)<|.ite 11
 (.step (.ci .i64 240)<|.step (.bin .lss 5 12)<|.ite 13
 (.step (.bin .sub 5 10)<|.step (.ci .i64 3)<|.step (.bin .lss 1 15)<|.ite 16
 (.ret [2])
 (.step (.ci .i64 2048)<|.step (.ci .i64 1)<|.step (.call 51 [0, 15, 14, 17, 18] 0)<|.step (.bin .eql 19 2)<|.ite 20
 (.ret [2])
 (.step (.call 51 [0, 15, 14, 17, 18] 1)<|.step (.bin .lss 21 17)<|.ite 22
 (.ret [2])
 (.step (.ci .i64 1114111)<|.step (.bin .gtr 21 23)<|.ite 24
 (.ret [2])
 (.step (.ci .i64 55296)<|.step (.bin .geq 21 25)<|.ite 26
 (.step (.ci .i64 57344)<|.step (.bin .lss 21 27)<|.ite 28
 (.ret [2])
 (.ret [15]))
 (.ret [15]))))))
 (.step (.bin .geq 5 12)<|.step (.ci .i64 248)<|.step (.bin .lss 5 15)<|.ite 16
 (.step (.bin .sub 5 12)<|.step (.ci .i64 4)<|.step (.bin .lss 1 18)<|.ite 19
 (.ret [2])
 (.step (.ci .i64 65536)<|.step (.ci .i64 1)<|.step (.call 51 [0, 18, 17, 20, 21] 0)<|.step (.bin .eql 22 2)<|.ite 23
 (.ret [2])
 (.step (.call 51 [0, 18, 17, 20, 21] 1)<|.step (.bin .lss 24 20)<|.ite 25
 (.ret [2])
 (.step (.ci .i64 1114111)<|.step (.bin .gtr 24 26)<|.ite 27
 (.ret [2])
 (.step (.ci .i64 55296)<|.step (.bin .geq 24 28)<|.ite 29
 (.step (.ci .i64 57344)<|.step (.bin .lss 24 30)<|.ite 31
 (.ret [2])
 (.ret [18]))
 (.ret [18]))))))
 (.ret [2])))
 (.step (.ci .i64 240)<|.step (.bin .geq 5 12)<|.ite 13
 (.step (.ci .i64 248)<|.step (.bin .lss 5 14)<|.ite 15
 (.step (.bin .sub 5 12)<|.step (.ci .i64 4)<|.step (.bin .lss 1 17)<|.ite 18
 (.ret [2])
 (.step (.ci .i64 65536)<|.step (.ci .i64 1)<|.step (.call 51 [0, 17, 16, 19, 20] 0)<|.step (.bin .eql 21 2)<|.ite 22
 (.ret [2])
 (.step (.call 51 [0, 17, 16, 19, 20] 1)<|.step (.bin .lss 23 19)<|.ite 24
 (.ret [2])
 (.step (.ci .i64 1114111)<|.step (.bin .gtr 23 25)<|.ite 26
 (.ret [2])
 (.step (.ci .i64 55296)<|.step (.bin .geq 23 27)<|.ite 28
 (.step (.ci .i64 57344)<|.step (.bin .lss 23 29)<|.ite 30
 (.ret [2])
 (.ret [17]))
 (.ret [17]))))))
 (.ret [2]))
 (.ret [2])))))
def d52 : PDef := .fn [.ag 2, .ag 2] [.sc]<|.step (.cell 0 0)<|.step (.cell 1 0)<|.step (.cell 0 1)<|.step (.cell 1 1)<|.step (.bin .eql 2 4)<|.ite 6
 (.step (.ci .i64 14)<|.ret [7])
 (.step (.mk [2, 3])<|.step (.mk [4, 5])<|.step (.call 53 [7, 8] 0)<|.step (.ci .i64 0)<|.step (.bin .gtr 9 10)<|.ite 11
 (.step (.ci .i64 7)<|.ret [12])
 (.ret [10]))
def d111 : PDef := .fn [.ag 3, .ag 2] [.ag 3, .sc]<|.step (.cell 0 0)<|.step (.cell 1 0)<|.step (.cell 2 0)<|.step (.cell 0 1)<|.step (.cell 1 1)<|.step (.call 41 [6] 0)<|.step (.ci .i64 0) <|
 .step (.bin .eql 7 8)<|.ite 9
 (.step (.ci .u64 0)<|.step (.bin .eql 5 10)<|.ite 11
 (.step (.len 3)<|.step (.ci .i64 18)<|.step (.mk [2, 3, 4])<|.ret [14, 13])
 (.step (.len 3)<|.step (.bin .gtr 12 8)<|.ite 13
 (.step (.ci .i64 1)<|.step (.bin .sub 12 14)<|.step (.at 2 3 15)<|.step (.cell 0 16)<|.step (.bin .leq 5 17)<|.ite 18
 (.step (.ci .i64 20)<|.step (.mk [2, 3, 4])<|.ret [20, 19])
 (.step (.cell 1 16)<|.step (.call 62 [6, 19] 0)<|.step (.un .not 20)<|.ite 21
 (.step (.ci .i64 21)<|.step (.mk [2, 3, 4])<|.ret [23, 22])
 (.step (.bin .neq 7 8)<|.step (.ml [])<|.step (.app 2 32 23 3)<|.step (.mk [5, 6])<|.step (.ml [25])<|.step (.app 2 32 24 26)<|.step (.len 27)<|.step (.ci .i64 8)<|.step (.bin .gtr 28 29) <|
 .ite 30
 (.step (.idx 27 8)<|.step (.at 2 27 31)<|.step (.cell 0 32)<|.step (.bin .eql 33 4)<|.ite 34
 (.step (.lsub 2 27 14 28)<|.step (.mk [2, 35, 10])<|.ret [36, 8])
 (.step (.lsub 2 27 14 28)<|.step (.mk [2, 35, 4])<|.ret [36, 8]))
 (.step (.mk [2, 27, 4])<|.ret [31, 8]))))
 (.step (.bin .neq 7 8)<|.step (.ml [])<|.step (.app 2 32 15 3)<|.step (.mk [5, 6])<|.step (.ml [17])<|.step (.app 2 32 16 18)<|.step (.len 19)<|.step (.ci .i64 8)<|.step (.bin .gtr 20 21) <|
 .ite 22
 (.step (.idx 19 8)<|.step (.at 2 19 23)<|.step (.cell 0 24)<|.step (.bin .eql 25 4)<|.ite 26
 (.step (.ci .i64 1)<|.step (.lsub 2 19 27 20)<|.step (.mk [2, 28, 10])<|.ret [29, 8])
 (.step (.ci .i64 1)<|.step (.lsub 2 19 27 20)<|.step (.mk [2, 28, 4])<|.ret [29, 8]))
 (.step (.mk [2, 19, 4])<|.ret [23, 8]))))
 (.step (.len 3)<|.step (.bin .neq 7 8)<|.step (.mk [2, 3, 4])<|.ret [12, 7])
def d92 : PDef := .fn [.ag 24, .sc] [.sc]<|.step (.cell 0 0)<|.step (.cell 1 0)<|.step (.cell 2 0)<|.step (.cell 3 0)<|.step (.cell 4 0)<|.step (.cell 5 0)<|.step (.cell 6 0)<|.step (.cell 7 0) <|
 .step (.cell 8 0)<|.step (.cell 9 0)<|.step (.cell 10 0)<|.step (.cell 11 0)<|.step (.cell 12 0)<|.step (.cell 13 0)<|.step (.cell 14 0)<|.step (.cell 15 0)<|.step (.cell 16 0) <|
 .step (.cell 17 0)<|.step (.cell 18 0)<|.step (.cell 19 0)<|.step (.cell 20 0)<|.step (.cell 21 0)<|.step (.cell 22 0)<|.step (.cell 23 0)<|.step (.cs [110, 97, 109, 101])<|.step (.bin .eql 1 26) <|
 .ite 27
 (.ret [20])
 (.step (.cs [114, 101, 103, 105, 111, 110])<|.step (.bin .eql 1 28)<|.ite 29
 (.ret [21])
 (.ret [22]))
def d107 : PDef := .fn [.sc, .sc] [.sc]<|.step (.call 6 [0] 0)<|.step (.call 6 [1] 0)<|.step (.call 108 [2, 3] 0)<|.ret [4]
def d56 : PDef := .fn [.sc] [.sc]<|.step (.len 0)<|.step (.conv .u64 1)<|.step (.call 57 [2] 0)<|.step (.ci .i64 0)<|.step (.call 59 [3, 0, 1, 4] 0)<|.step (.call 59 [3, 0, 1, 4] 1) <|
 .ret [6]
def d70 : PDef := .fn [.sc] [.sc]<|.step (.len 0)<|.step (.ci .i64 0)<|.step (.ml [])<|.step (.call 71 [3, 0, 1, 2] 0)<|.step (.call 71 [3, 0, 1, 2] 1)<|.ret [5]
def d84 : PDef := .fn [] [.sc]<|.step (.cs [97, 108, 108, 111, 119, 101, 100])<|.step (.cs [98, 97, 115, 101])<|.step (.cs [99, 104, 111, 115, 101, 110])<|.step (.cs [99, 111, 100, 101]) <|
 .step (.cs [99, 111, 115, 116])<|.step (.cs [100, 101, 97, 100, 108, 105, 110, 101])<|.step (.cs [100, 101, 115, 99, 114])<|.step (.cs [100, 105, 103, 101, 115, 116])<|.step (.cs [101, 112, 111, 99, 104]) <|
 .step (.cs [102, 108, 97, 103, 115])<|.step (.cs [105, 100])<|.step (.cs [108, 97, 103])<|.step (.cs [109, 97, 120])<|.step (.cs [109, 105, 110])<|.step (.cs [110, 97, 109, 101]) <|
 .step (.cs [110, 111, 116, 101])<|.step (.cs [112, 114, 105, 111, 114, 105, 116, 121])<|.step (.cs [114, 101, 103, 105, 111, 110])<|.step (.cs [114, 101, 109, 97, 105, 110, 105, 110, 103]) <|
 .step (.cs [114, 101, 116, 114, 121])<|.step (.cs [116, 97, 98, 108, 101])<|.step (.cs [119, 97, 110, 116])<|.step (.ml [0, 1, 2, 3, 4, 5, 6, 7, 8, 9, 10, 11, 12, 13, 14, 15, 16, 17, 18, 19, 20, 21]) <|
 .ret [22]
def d119 : PDef := .fn [.sc, .sc] [.sc]<|.step (.len 1)<|.step (.ci .i64 0)<|.step (.call 120 [0, 3, 1, 2, 3] 0)<|.step (.bin .eql 4 3)<|.ite 5
 (.step (.cb false)<|.ret [6])
 (.step (.cb true)<|.ret [6])
def d23 : PDef := .fn [.sc, .sc, .sc] [.sc]<|.step (.slen 0)<|.step (.bin .lss 3 1)<|.ite 4
 (.step (.ci .i64 13)<|.ret [5])
 (.step (.bin .gtr 3 2)<|.ite 5
 (.step (.ci .i64 13)<|.ret [6])
 (.step (.call 24 [0] 0)<|.step (.un .not 6)<|.ite 7
 (.step (.ci .i64 11)<|.ret [8])
 (.step (.ci .i64 0)<|.ret [8])))
def d20 : PDef := .fn [.sc] [.sc]<|.step (.len 0)<|.step (.conv .u64 1)<|.step (.ci .u64 0)<|.step (.bin .eql 2 3)<|.ite 4
 (.step (.ci .i64 12)<|.ret [5])
 (.step (.ci .u64 16)<|.step (.bin .gtr 2 5)<|.ite 6
 (.step (.ci .i64 13)<|.ret [7])
 (.step (.ci .i64 0)<|.step (.call 21 [0, 1, 7] 0)<|.step (.bin .eql 8 7)<|.ite 9
 (.step (.call 21 [0, 1, 7] 1)<|.ret [10])
 (.ret [7])))
def d48 : PDef := .fn [.sc] [.sc]<|.step (.call 49 [0] 0)<|.step (.ci .i64 0)<|.step (.bin .eql 1 2)<|.ite 3
 (.step (.cb false)<|.ret [4])
 (.step (.cb true)<|.ret [4])
def d26 : PDef := .fn [.ag 2] [.ag 2]<|.step (.cell 0 0)<|.step (.cell 1 0)<|.step (.len 2)<|.step (.ml [])<|.step (.ci .u64 0)<|.step (.mk [4, 5])<|.step (.ci .i64 0)<|.step (.rep 2 32 6 7 3) <|
 .step (.call 27 [2, 3, 7, 1, 8] 0)<|.step (.call 27 [2, 3, 7, 1, 8] 1)<|.step (.mk [1, 10])<|.ret [11]
def d22 : PDef := .fn [.ag 2] [.sc]<|.step (.cell 0 0)<|.step (.cell 1 0)<|.step (.ci .i64 1)<|.step (.ci .i64 64)<|.step (.call 23 [1, 3, 4] 0)<|.step (.ci .i64 0)<|.step (.bin .neq 5 6) <|
 .ite 7
 (.ret [5])
 (.step (.ci .i64 256)<|.step (.call 23 [2, 6, 8] 0)<|.ret [9])
def d99 : PDef := .fn [.sc, .sc] [.sc]<|.step (.len 0)<|.step (.len 1)<|.step (.bin .neq 2 3)<|.ite 4
 (.step (.cb false)<|.ret [5])
 (.step (.ci .i64 0)<|.step (.call 100 [0, 1, 2, 5] 0)<|.step (.bin .eql 6 5)<|.ite 7
 (.step (.cb false)<|.ret [8])
 (.step (.cb true)<|.ret [8]))
def d87 : PDef := .fn [.sc] [.sc]<|.step (.ci .i64 1)<|.step (.call 88 [0, 1] 0)<|.step (.ci .i64 0)<|.step (.bin .eql 2 3)<|.ite 4
 (.step (.call 88 [0, 1] 1)<|.ret [5])
 (.step (.ci .i64 (-1))<|.ret [5])
def d38 : PDef := .fn [.ag 3] [.ag 24, .sc]<|.step (.cell 0 0)<|.step (.cell 1 0)<|.step (.cell 2 0)<|.step (.len 2)<|.step (.ci .i64 0)<|.step (.bin .eql 4 5)<|.ite 6
 (.step (.ci .u64 0)<|.step (.cb false)<|.step (.cs [])<|.step (.ml [])<|.step (.ci .i64 24)<|.step (.mk [5, 7, 7, 7, 7, 7, 7, 7, 7, 7, 7, 7, 7, 7, 7, 7, 5, 8, 9, 9, 9, 10, 10, 10]) <|
 .ret [12, 11])
 (.step (.ci .i64 1)<|.step (.bin .sub 4 7)<|.step (.at 2 2 8)<|.step (.cell 0 9)<|.step (.bin .eql 10 3)<|.ite 11
 (.step (.ci .u64 0)<|.step (.cb false)<|.step (.cs [])<|.step (.ml [])<|.step (.ci .i64 24)<|.step (.mk [5, 12, 12, 12, 12, 12, 12, 12, 12, 12, 12, 12, 12, 12, 12, 12, 5, 13, 14, 14, 14, 15, 15, 15]) <|
 .ret [17, 16])
 (.step (.cell 1 9)<|.step (.ci .i64 2)<|.step (.bin .geq 1 13)<|.ite 14
 (.step (.ci .u64 0)<|.step (.bin .neq 3 15)<|.ite 16
 (.step (.call 39 [2, 4, 5, 10, 12, 1, 3] 0)<|.step (.bin .eql 17 5)<|.ite 18
 (.step (.call 39 [2, 4, 5, 10, 12, 1, 3] 1)<|.step (.call 39 [2, 4, 5, 10, 12, 1, 3] 2)<|.step (.call 39 [2, 4, 5, 10, 12, 1, 3] 3)<|.step (.ci .i64 6)<|.step (.cb false)<|.step (.cs []) <|
 .step (.ml [])<|.step (.mk [22, 15, 15, 15, 15, 15, 15, 15, 15, 15, 19, 20, 15, 15, 15, 15, 5, 23, 24, 24, 24, 25, 21, 25])<|.ret [26, 5])
 (.step (.ci .i64 5)<|.step (.cb false)<|.step (.cs [])<|.step (.ml [])<|.step (.mk [19, 15, 15, 15, 15, 15, 15, 15, 15, 15, 10, 15, 15, 15, 15, 15, 5, 20, 21, 21, 21, 22, 12, 22]) <|
 .ret [23, 5]))
 (.step (.ci .i64 5)<|.step (.cb false)<|.step (.cs [])<|.step (.ml [])<|.step (.mk [17, 15, 15, 15, 15, 15, 15, 15, 15, 15, 10, 15, 15, 15, 15, 15, 5, 18, 19, 19, 19, 20, 12, 20]) <|
 .ret [21, 5]))
 (.step (.ci .i64 5)<|.step (.ci .u64 0)<|.step (.cb false)<|.step (.cs [])<|.step (.ml [])<|.step (.mk [15, 16, 16, 16, 16, 16, 16, 16, 16, 16, 10, 16, 16, 16, 16, 16, 5, 17, 18, 18, 18, 19, 12, 19]) <|
 .ret [20, 5])))
def d54 : PDef := .fn [.sc, .sc] [.sc]<|.step (.ci .i64 0)<|.step (.call 55 [0, 1, 2] 0)<|.step (.bin .eql 3 2)<|.ite 4
 (.step (.call 55 [0, 1, 2] 1)<|.ret [5])
 (.step (.slen 0)<|.step (.slen 1)<|.step (.bin .lss 5 6)<|.ret [7])
def d57 : PDef := .fn [.sc] [.sc]<|.step (.cs [])<|.step (.call 58 [0, 1] 0)<|.step (.call 58 [0, 1] 1)<|.step (.call 58 [0, 1] 2)<|.step (.conv .u8 3)<|.step (.ml [5])<|.step (.str 6) <|
 .step (.bin .add 4 7)<|.ret [8]
def d97 : PDef := .fn [.sc, .sc] [.sc]<|.step (.ci .i64 0)<|.step (.call 98 [0, 1, 2] 0)<|.step (.bin .eql 3 2)<|.ite 4
 (.step (.call 98 [0, 1, 2] 1)<|.ret [5])
 (.step (.slen 0)<|.step (.slen 1)<|.step (.mm false 5 6)<|.ret [7])
def d83 : PDef := .fn [.ag 24, .ag 24] [.sc]<|.step (.cell 0 0)<|.step (.cell 1 0)<|.step (.cell 2 0)<|.step (.cell 3 0)<|.step (.cell 4 0)<|.step (.cell 5 0)<|.step (.cell 6 0) <|
 .step (.cell 7 0)<|.step (.cell 8 0)<|.step (.cell 9 0)<|.step (.cell 10 0)<|.step (.cell 11 0)<|.step (.cell 12 0)<|.step (.cell 13 0)<|.step (.cell 14 0)<|.step (.cell 15 0)<|.step (.cell 16 0) <|
 .step (.cell 17 0)<|.step (.cell 18 0)<|.step (.cell 19 0)<|.step (.cell 20 0)<|.step (.cell 21 0)<|.step (.cell 22 0)<|.step (.cell 23 0)<|.step (.cell 0 1)<|.step (.cell 1 1) <|
 .step (.cell 2 1)<|.step (.cell 3 1)<|.step (.cell 4 1)<|.step (.cell 5 1)<|.step (.cell 6 1)<|.step (.cell 7 1)<|.step (.cell 8 1)<|.step (.cell 9 1)<|.step (.cell 10 1)<|.step (.cell 11 1) <|
 .step (.cell 12 1)<|.step (.cell 13 1)<|.step (.cell 14 1)<|.step (.cell 15 1)<|.step (.cell 16 1)<|.step (.cell 17 1)<|.step (.cell 18 1)<|.step (.cell 19 1)<|.step (.cell 20 1) <|
 .step (.cell 21 1)<|.step (.cell 22 1)<|.step (.cell 23 1)<|.step (.call 84 [] 0)<|.step (.len 50)<|.step (.ci .i64 0)<|.step (.call 85 [50, 51, 52, 26, 27, 28, 29, 30, 31, 32, 33, 34, 35, 36, 37, 38, 39, 40, 41, 42, 43, 44, 45, 46, 47, 48, 49, 2, 3, 4, 5, 6, 7, 8, 9, 10, 11, 12, 13, 14, 15, 16, 17, 18, 19, 20, 21, 22, 23, 24, 25] 0) <|
 .step (.bin .eql 53 52)<|.ite 54
 (.step (.cb false)<|.ret [55])
 (.step (.bin .neq 2 26)<|.ite 55
 (.step (.cb false)<|.ret [56])
 (.step (.len 23)<|.step (.len 47)<|.step (.bin .neq 56 57)<|.ite 58
 (.step (.cb false)<|.ret [59])
 (.step (.call 73 [24, 48] 0)<|.step (.un .not 59)<|.ite 60
 (.step (.cb false)<|.ret [61])
 (.step (.call 99 [25, 49] 0)<|.step (.un .not 61)<|.ite 62
 (.step (.cb false)<|.ret [63])
 (.step (.call 101 [56, 52, 26, 27, 28, 29, 30, 31, 32, 33, 34, 35, 36, 37, 38, 39, 40, 41, 42, 43, 44, 45, 46, 47, 48, 49, 2, 3, 4, 5, 6, 7, 8, 9, 10, 11, 12, 13, 14, 15, 16, 17, 18, 19, 20, 21, 22, 23, 24, 25] 0) <|
 .step (.bin .eql 63 52)<|.ite 64
 (.step (.cb false)<|.ret [65])
 (.step (.cb true)<|.ret [65]))))))
abbrev d28 : PDef := .prim (cloneP 32 2)
def d19 : PDef := .fn [.ag 2] [.sc]<|.step (.cell 0 0)<|.step (.cell 1 0)<|.step (.call 20 [1] 0)<|.step (.ci .i64 0)<|.step (.bin .neq 3 4)<|.ite 5
 (.ret [3])
 (.step (.ci .u64 0)<|.step (.bin .eql 2 6)<|.ite 7
 (.step (.ci .i64 18)<|.ret [8])
 (.ret [4]))
def d40 : PDef := .fn [.ag 2, .ag 2] [.ag 3, .sc]<|.step (.cell 0 0)<|.step (.cell 1 0)<|.step (.cell 0 1)<|.step (.cell 1 1)<|.step (.call 41 [3] 0)<|.step (.ci .i64 0)<|.step (.bin .eql 6 7) <|
 .ite 8
 (.step (.call 41 [5] 0)<|.step (.bin .eql 9 7)<|.ite 10
 (.step (.bin .leq 4 2)<|.ite 11
 (.step (.ci .u64 0)<|.step (.ml [])<|.step (.ci .i64 20)<|.step (.mk [12, 12, 13])<|.ret [15, 14])
 (.step (.call 62 [5, 3] 0)<|.step (.un .not 12)<|.ite 13
 (.step (.ci .u64 0)<|.step (.ml [])<|.step (.ci .i64 21)<|.step (.mk [14, 14, 15])<|.ret [17, 16])
 (.step (.bin .neq 9 7)<|.step (.len 5)<|.step (.ml [])<|.step (.call 66 [5, 15, 7, 2, 4, 16, 3] 0)<|.step (.call 66 [5, 15, 7, 2, 4, 16, 3] 1)<|.step (.mk [2, 4, 18])<|.ret [19, 7])))
 (.step (.bin .neq 9 7)<|.step (.ci .u64 0)<|.step (.ml [])<|.step (.mk [12, 12, 13])<|.ret [14, 9]))
 (.step (.bin .neq 6 7)<|.step (.ci .u64 0)<|.step (.ml [])<|.step (.mk [10, 10, 11])<|.ret [12, 6])
def d2 : PDef := .fn [.sc] [.sc]<|.step (.len 0)<|.step (.ci .i64 0)<|.step (.call 3 [0, 1, 2] 0)<|.step (.bin .eql 3 2)<|.ite 4
 (.step (.cb false)<|.ret [5])
 (.step (.ci .i64 300)<|.step (.bin .leq 1 5)<|.ret [6])
def d7 : PDef := .fn [.sc] [.sc]<|.step (.call 8 [0] 0)<|.step (.ci .u8 0)<|.step (.rep 1 1 2 1 1)<|.step (.len 3)<|.step (.ci .i64 0)<|.step (.call 10 [0, 3, 4, 5] 0)<|.step (.call 10 [0, 3, 4, 5] 1) <|
 .step (.len 7)<|.step (.ci .i64 1)<|.step (.bin .sub 8 9)<|.step (.idx 7 10)<|.step (.at 1 7 11)<|.step (.cell 0 12)<|.step (.ci .u8 127)<|.step (.bin .and 13 14)<|.step (.upd 1 0 7 11 [15]) <|
 .step (.str 16)<|.ret [17]
def d129 : PDef := .tree 8<|.step (.call 113 [5, 6, 7] 0)<|.step (.call 113 [5, 6, 7] 1)<|.step (.call 113 [5, 6, 7] 2)<|.step (.call 113 [5, 6, 7] 3)<|.step (.bin .add 9 3)<|.step (.mk [9, 10]) <|
 .step (.mk [9, 12, 2])<|.step (.call 103 [13, 14] 0)<|.step (.cell 0 15)<|.step (.cell 1 15)<|.step (.call 103 [13, 14] 1)<|.step (.ci .i64 0)<|.step (.bin .neq 18 19)<|.ite 20
 (.ret [19, 1, 2])
 (.ret [19, 16, 17])
def d128 : PDef := .tree 5<|.step (.mk [0, 1])<|.step (.call 16 [5] 0)<|.step (.ci .i64 0)<|.step (.bin .neq 6 7)<|.ite 8
 (.ret [7, 6, 3, 4])
 (.step (.ci .u64 0)<|.step (.bin .eql 0 9)<|.ite 10
 (.step (.ci .i64 18)<|.ret [7, 11, 3, 4])
 (.step (.len 3)<|.step (.bin .gtr 11 7)<|.ite 12
 (.step (.ci .i64 1)<|.step (.bin .sub 11 13)<|.step (.idx 3 14)<|.step (.at 2 3 15)<|.step (.cell 0 16)<|.step (.cell 1 16)<|.step (.bin .leq 0 17)<|.ite 19
 (.step (.ci .i64 20)<|.ret [7, 20, 3, 4])
 (.step (.call 119 [1, 18] 0)<|.step (.un .not 20)<|.ite 21
 (.step (.ci .i64 21)<|.ret [7, 22, 3, 4])
 (.step (.call 26 [5] 0)<|.step (.cell 0 22)<|.step (.cell 1 22)<|.step (.mk [23, 24])<|.step (.ml [25])<|.step (.app 2 32 3 26)<|.step (.len 27)<|.step (.ci .i64 8)<|.step (.bin .gtr 28 29) <|
 .ite 30
 (.step (.idx 27 7)<|.step (.at 2 27 31)<|.step (.cell 0 32)<|.step (.bin .eql 33 4)<|.ite 34
 (.step (.lsub 2 27 13 28)<|.step (.ml [])<|.step (.app 2 32 36 35)<|.ret [7, 7, 37, 9])
 (.step (.lsub 2 27 13 28)<|.step (.ml [])<|.step (.app 2 32 36 35)<|.ret [7, 7, 37, 4]))
 (.ret [7, 7, 27, 4]))))
 (.step (.call 26 [5] 0)<|.step (.cell 0 13)<|.step (.cell 1 13)<|.step (.mk [14, 15])<|.step (.ml [16])<|.step (.app 2 32 3 17)<|.step (.len 18)<|.step (.ci .i64 8)<|.step (.bin .gtr 19 20) <|
 .ite 21
 (.step (.idx 18 7)<|.step (.at 2 18 22)<|.step (.cell 0 23)<|.step (.bin .eql 24 4)<|.ite 25
 (.step (.ci .i64 1)<|.step (.lsub 2 18 26 19)<|.step (.ml [])<|.step (.app 2 32 28 27)<|.ret [7, 7, 29, 9])
 (.step (.ci .i64 1)<|.step (.lsub 2 18 26 19)<|.step (.ml [])<|.step (.app 2 32 28 27)<|.ret [7, 7, 29, 4]))
 (.ret [7, 7, 18, 4]))))
def d126 : PDef := .tree 3<|.step (.len 1)<|.step (.ci .i64 0)<|.step (.ml [])<|.step (.call 127 [1, 3, 4, 0, 2, 5] 0)<|.step (.call 127 [1, 3, 4, 0, 2, 5] 1)<|.ret [4, 7]
def d125 : PDef := .tree 4<|.step (.bin .leq 0 3)<|.ite 4
 (.step (.cb false)<|.step (.ci .i64 0)<|.ret [6, 5, 2, 3])
 (.step (.call 116 [0, 1, 2, 3] 0)<|.step (.call 116 [0, 1, 2, 3] 1)<|.step (.call 116 [0, 1, 2, 3] 2)<|.step (.un .not 7)<|.ite 8
 (.step (.cb false)<|.step (.ci .i64 0)<|.ret [10, 9, 2, 3])
 (.step (.len 2)<|.step (.lsub 2 2 6 9)<|.step (.ml [])<|.step (.app 2 32 11 10)<|.step (.cb true)<|.step (.ci .i64 0)<|.ret [14, 13, 12, 0]))
def d123 : PDef := .tree 3<|.step (.len 1)<|.step (.ci .i64 0)<|.step (.ml [])<|.step (.call 124 [5, 1, 3, 4, 0, 2] 0)<|.step (.call 124 [5, 1, 3, 4, 0, 2] 1)<|.ret [4, 7]
def d116 : PDef := .tree 4<|.step (.len 2)<|.step (.ci .i64 0)<|.step (.call 117 [0, 2, 4, 5, 1, 3] 0)<|.step (.bin .eql 6 5)<|.ite 7
 (.step (.call 117 [0, 2, 4, 5, 1, 3] 1)<|.step (.cb true)<|.ret [5, 8, 9])
 (.step (.cb false)<|.ret [5, 5, 8])
def d115 : PDef := .tree 3<|.step (.call 113 [0, 1, 2] 0)<|.step (.call 113 [0, 1, 2] 1)<|.step (.call 113 [0, 1, 2] 2)<|.step (.call 113 [0, 1, 2] 3)<|.step (.un .not 6)<|.ite 7
 (.step (.ci .i64 0)<|.step (.ci .u64 0)<|.step (.ml [])<|.step (.ci .i64 24)<|.ret [8, 8, 9, 9, 10, 11])
 (.step (.bin .eql 4 2)<|.ite 8
 (.step (.ci .i64 0)<|.step (.ci .u64 0)<|.step (.ml [])<|.step (.ci .i64 24)<|.ret [9, 9, 10, 10, 11, 12])
 (.step (.call 116 [2, 0, 1, 2] 0)<|.step (.call 116 [2, 0, 1, 2] 1)<|.step (.call 116 [2, 0, 1, 2] 2)<|.ite 11
 (.step (.ci .i64 2)<|.step (.bin .geq 0 12)<|.ite 13
 (.step (.idx 1 10)<|.step (.at 2 1 14)<|.step (.cell 0 15)<|.step (.cell 1 15)<|.step (.mk [16, 17])<|.step (.mk [4, 5])<|.step (.call 118 [18, 19] 0)<|.step (.cell 0 20)<|.step (.cell 1 20) <|
 .step (.cell 2 20)<|.step (.call 118 [18, 19] 1)<|.step (.ci .i64 0)<|.step (.bin .neq 24 25)<|.ite 26
 (.step (.ci .u64 0)<|.step (.ml [])<|.ret [25, 25, 27, 27, 28, 24])
 (.step (.ci .i64 6)<|.ret [25, 27, 22, 21, 23, 25]))
 (.step (.ci .i64 5)<|.step (.ci .u64 0)<|.step (.ci .i64 0)<|.ret [16, 14, 4, 15, 5, 16]))
 (.step (.ci .i64 5)<|.step (.ci .u64 0)<|.step (.ci .i64 0)<|.ret [14, 12, 4, 13, 5, 14])))
def d113 : PDef := .tree 3<|.step (.len 1)<|.step (.ci .i64 0)<|.step (.bin .eql 3 4)<|.ite 5
 (.step (.ci .u64 0)<|.step (.ml [])<|.step (.cb false)<|.ret [4, 6, 7, 8])
 (.step (.ci .i64 1)<|.step (.bin .sub 3 6)<|.step (.idx 1 7)<|.step (.at 2 1 8)<|.step (.cell 0 9)<|.step (.cell 1 9)<|.step (.mk [10, 11])<|.step (.call 26 [12] 0)<|.step (.cell 0 13) <|
 .step (.cell 1 13)<|.step (.cb true)<|.ret [4, 14, 15, 16])
def d112 : PDef := .tree 6<|.step (.call 113 [3, 4, 5] 0)<|.step (.call 113 [3, 4, 5] 1)<|.step (.call 113 [3, 4, 5] 2)<|.step (.call 113 [3, 4, 5] 3)<|.step (.len 1)<|.step (.ci .i64 0) <|
 .step (.ml [])<|.step (.ci .u64 0)<|.step (.call 114 [9, 12, 1, 10, 11, 3, 4, 5, 13, 12, 7, 8, 0, 2] 0)<|.step (.call 114 [9, 12, 1, 10, 11, 3, 4, 5, 13, 12, 7, 8, 0, 2] 1)<|.step (.call 114 [9, 12, 1, 10, 11, 3, 4, 5, 13, 12, 7, 8, 0, 2] 2) <|
 .step (.call 114 [9, 12, 1, 10, 11, 3, 4, 5, 13, 12, 7, 8, 0, 2] 3)<|.step (.call 115 [3, 4, 5] 0)<|.step (.call 115 [3, 4, 5] 1)<|.step (.call 115 [3, 4, 5] 2)<|.step (.call 115 [3, 4, 5] 3) <|
 .step (.call 115 [3, 4, 5] 4)<|.step (.call 115 [3, 4, 5] 5)<|.step (.mk [0, 1, 2])<|.step (.call 38 [24] 0)<|.step (.cell 0 25)<|.step (.cell 1 25)<|.step (.cell 2 25)<|.step (.cell 3 25) <|
 .step (.cell 4 25)<|.step (.cell 5 25)<|.step (.cell 6 25)<|.step (.cell 7 25)<|.step (.cell 8 25)<|.step (.cell 9 25)<|.step (.cell 10 25)<|.step (.cell 11 25)<|.step (.cell 12 25) <|
 .step (.cell 13 25)<|.step (.cell 14 25)<|.step (.cell 15 25)<|.step (.cell 16 25)<|.step (.cell 17 25)<|.step (.cell 18 25)<|.step (.cell 19 25)<|.step (.cell 20 25)<|.step (.cell 21 25) <|
 .step (.cell 22 25)<|.step (.cell 23 25)<|.step (.call 38 [24] 1)<|.step (.mk [7, 8])<|.step (.call 67 [51] 0)<|.step (.cell 0 52)<|.step (.cell 1 52)<|.step (.mk [53, 54])<|.step (.mk [16, 17]) <|
 .step (.call 72 [55, 56] 0)<|.ite 57
 (.step (.bin .gtr 10 11)<|.step (.binb .eql 9 58)<|.ite 59
 (.step (.call 123 [3, 4, 5] 0)<|.step (.call 123 [3, 4, 5] 1)<|.step (.call 78 [61, 15] 0)<|.ite 62
 (.step (.bin .eql 5 2)<|.ite 63
 (.step (.cb false)<|.step (.cs [])<|.step (.mk [19, 13, 13, 13, 13, 13, 13, 13, 13, 13, 20, 21, 13, 13, 13, 13, 11, 64, 65, 65, 65, 12, 22, 12])<|.step (.call 80 [66] 0)<|.step (.cell 0 67) <|
 .step (.cell 1 67)<|.step (.cell 2 67)<|.step (.cell 3 67)<|.step (.cell 4 67)<|.step (.cell 5 67)<|.step (.cell 6 67)<|.step (.cell 7 67)<|.step (.cell 8 67)<|.step (.cell 9 67) <|
 .step (.cell 10 67)<|.step (.cell 11 67)<|.step (.cell 12 67)<|.step (.cell 13 67)<|.step (.cell 14 67)<|.step (.cell 15 67)<|.step (.cell 16 67)<|.step (.cell 17 67)<|.step (.cell 18 67) <|
 .step (.cell 19 67)<|.step (.cell 20 67)<|.step (.cell 21 67)<|.step (.cell 22 67)<|.step (.cell 23 67)<|.step (.mk [68, 69, 70, 71, 72, 73, 74, 75, 76, 77, 78, 79, 80, 81, 82, 83, 84, 85, 86, 87, 88, 89, 90, 91]) <|
 .step (.mk [26, 27, 28, 29, 30, 31, 32, 33, 34, 35, 36, 37, 38, 39, 40, 41, 42, 43, 44, 45, 46, 47, 48, 49])<|.step (.call 83 [92, 93] 0)<|.ite 94
 (.step (.bin .eql 23 50)<|.ret [11, 95])
 (.ret [11, 64]))
 (.step (.cb false)<|.ret [11, 64]))
 (.step (.cb false)<|.ret [11, 63]))
 (.step (.cb false)<|.ret [11, 60]))
 (.step (.cb false)<|.ret [11, 58])
def d101 : PDef := .tree 50<|.step (.bin .lss 1 0)<|.ite 50
 (.step (.at 2 47 1)<|.step (.cell 0 51)<|.step (.cell 1 51)<|.step (.at 2 23 1)<|.step (.cell 0 54)<|.step (.cell 1 54)<|.step (.mk [52, 53])<|.step (.mk [55, 56])<|.step (.binc .neq [1, 1] 57 58) <|
 .ite 59
 (.step (.ci .i64 0)<|.ret [60])
 (.step (.ci .i64 1)<|.step (.bin .add 1 60)<|.tail 101 [0, 61, 2, 3, 4, 5, 6, 7, 8, 9, 10, 11, 12, 13, 14, 15, 16, 17, 18, 19, 20, 21, 22, 23, 24, 25, 26, 27, 28, 29, 30, 31, 32, 33, 34, 35, 36, 37, 38, 39, 40, 41, 42, 43, 44, 45, 46, 47, 48, 49]))
 (.step (.ci .i64 1)<|.ret [51])
def d75 : PDef := .tree 11<|.step (.bin .lss 10 6)<|.ite 11
 (.step (.at 2 0 2)<|.step (.cell 0 12)<|.step (.at 2 13 10)<|.step (.cell 0 14)<|.step (.cell 1 14)<|.step (.at 2 1 2)<|.step (.cell 0 17)<|.step (.at 2 18 10)<|.step (.cell 0 19) <|
 .step (.cell 1 19)<|.step (.mk [15, 16])<|.step (.mk [20, 21])<|.step (.binc .neq [1, 1] 22 23)<|.ite 24
 (.step (.ci .i64 0)<|.ret [25])
 (.step (.ci .i64 1)<|.step (.bin .add 10 25)<|.tail 75 [0, 1, 2, 3, 4, 5, 6, 7, 8, 9, 26]))
 (.step (.ci .i64 1)<|.ret [12])
def d59 : PDef := .tree 4<|.step (.bin .lss 3 2)<|.ite 4
 (.step (.at 2 1 3)<|.step (.cell 0 5)<|.step (.cell 1 5)<|.step (.mk [6, 7])<|.step (.call 60 [8] 0)<|.step (.bin .add 0 9)<|.step (.ci .i64 1)<|.step (.bin .add 3 11)<|.tail 59 [10, 1, 2, 12])
 (.step (.ci .i64 0)<|.ret [5, 0])
def d117 : PDef := .tree 6<|.step (.bin .lss 3 2)<|.ite 6
 (.step (.idx 1 3)<|.step (.at 2 1 7)<|.step (.cell 0 8)<|.step (.cell 1 8)<|.step (.bin .eql 9 0)<|.ite 11
 (.step (.ci .i64 0)<|.ret [12, 3])
 (.step (.ci .i64 1)<|.step (.bin .add 3 12)<|.tail 117 [0, 1, 2, 13, 4, 5]))
 (.step (.ci .i64 1)<|.ret [7])
def d1 : PDef := .tree 9<|.step (.bin .lss 2 1)<|.ite 9
 (.step (.at 5 0 2)<|.step (.cell 0 10)<|.step (.cell 1 10)<|.step (.cell 2 10)<|.step (.cell 3 10)<|.step (.cell 4 10)<|.step (.len 13)<|.step (.ci .i64 60)<|.step (.bin .gtr 16 17) <|
 .ite 18
 (.step (.cb true)<|.step (.ci .i64 0)<|.ret [20, 19])
 (.step (.call 2 [13] 0)<|.step (.un .not 19)<|.ite 20
 (.step (.cb true)<|.step (.ci .i64 0)<|.ret [22, 21])
 (.step (.ci .u8 128)<|.step (.bin .geq 11 21)<|.ite 22
 (.step (.call 126 [6, 7, 8] 0)<|.step (.call 126 [6, 7, 8] 1)<|.step (.ci .u64 9223372036854775808)<|.step (.ml [])<|.step (.ci .u64 0)<|.step (.call 128 [25, 26, 6, 7, 27] 0)<|.step (.call 128 [25, 26, 6, 7, 27] 1) <|
 .step (.call 128 [25, 26, 6, 7, 27] 2)<|.step (.call 128 [25, 26, 6, 7, 27] 3)<|.step (.ci .u8 8)<|.step (.bin .rem 11 32)<|.step (.ci .u8 4)<|.step (.bin .eql 33 34)<|.ite 35
 (.step (.call 113 [6, 24, 8] 0)<|.step (.call 113 [6, 24, 8] 1)<|.step (.call 113 [6, 24, 8] 2)<|.step (.call 113 [6, 24, 8] 3)<|.ite 39
 (.step (.ci .u8 5)<|.step (.bin .eql 33 40)<|.step (.call 125 [14, 6, 24, 8] 0)<|.step (.call 125 [14, 6, 24, 8] 1)<|.step (.call 125 [14, 6, 24, 8] 2)<|.step (.call 125 [14, 6, 24, 8] 3) <|
 .step (.mk [3, 4, 5])<|.step (.call 33 [46, 14] 0)<|.step (.cell 0 47)<|.step (.cell 1 47)<|.step (.cell 2 47)<|.step (.call 33 [46, 14] 1)<|.step (.binb .neq 43 51)<|.ite 52
 (.step (.cb false)<|.step (.ci .i64 0)<|.ret [54, 53])
 (.step (.call 112 [48, 49, 50, 6, 44, 45] 0)<|.step (.call 112 [48, 49, 50, 6, 44, 45] 1)<|.step (.un .not 54)<|.ite 55
 (.step (.cb false)<|.step (.ci .i64 0)<|.ret [57, 56])
 (.step (.ci .i64 1)<|.step (.bin .add 2 56)<|.tail 1 [0, 1, 57, 48, 49, 50, 6, 44, 45])))
 (.step (.call 125 [14, 6, 24, 8] 0)<|.step (.call 125 [14, 6, 24, 8] 1)<|.step (.call 125 [14, 6, 24, 8] 2)<|.step (.call 125 [14, 6, 24, 8] 3)<|.step (.mk [3, 4, 5])<|.step (.call 33 [44, 14] 0) <|
 .step (.cell 0 45)<|.step (.cell 1 45)<|.step (.cell 2 45)<|.step (.call 33 [44, 14] 1)<|.step (.binb .neq 41 49)<|.ite 50
 (.step (.cb false)<|.step (.ci .i64 0)<|.ret [52, 51])
 (.step (.call 112 [46, 47, 48, 6, 42, 43] 0)<|.step (.call 112 [46, 47, 48, 6, 42, 43] 1)<|.step (.un .not 52)<|.ite 53
 (.step (.cb false)<|.step (.ci .i64 0)<|.ret [55, 54])
 (.step (.ci .i64 1)<|.step (.bin .add 2 54)<|.tail 1 [0, 1, 55, 46, 47, 48, 6, 42, 43]))))
 (.step (.ci .u8 5)<|.step (.bin .eql 33 36)<|.ite 37
 (.step (.call 113 [6, 24, 8] 0)<|.step (.call 113 [6, 24, 8] 1)<|.step (.call 113 [6, 24, 8] 2)<|.step (.call 113 [6, 24, 8] 3)<|.ite 41
 (.step (.call 125 [39, 6, 24, 8] 0)<|.step (.call 125 [39, 6, 24, 8] 1)<|.step (.call 125 [39, 6, 24, 8] 2)<|.step (.call 125 [39, 6, 24, 8] 3)<|.step (.mk [3, 4, 5])<|.step (.call 33 [46, 39] 0) <|
 .step (.cell 0 47)<|.step (.cell 1 47)<|.step (.cell 2 47)<|.step (.call 33 [46, 39] 1)<|.step (.binb .neq 43 51)<|.ite 52
 (.step (.cb false)<|.step (.ci .i64 0)<|.ret [54, 53])
 (.step (.call 112 [48, 49, 50, 6, 44, 45] 0)<|.step (.call 112 [48, 49, 50, 6, 44, 45] 1)<|.step (.un .not 54)<|.ite 55
 (.step (.cb false)<|.step (.ci .i64 0)<|.ret [57, 56])
 (.step (.ci .i64 1)<|.step (.bin .add 2 56)<|.tail 1 [0, 1, 57, 48, 49, 50, 6, 44, 45])))
 (.step (.call 125 [14, 6, 24, 8] 0)<|.step (.call 125 [14, 6, 24, 8] 1)<|.step (.call 125 [14, 6, 24, 8] 2)<|.step (.call 125 [14, 6, 24, 8] 3)<|.step (.mk [3, 4, 5])<|.step (.call 33 [46, 14] 0) <|
 .step (.cell 0 47)<|.step (.cell 1 47)<|.step (.cell 2 47)<|.step (.call 33 [46, 14] 1)<|.step (.binb .neq 43 51)<|.ite 52
 (.step (.cb false)<|.step (.ci .i64 0)<|.ret [54, 53])
 (.step (.call 112 [48, 49, 50, 6, 44, 45] 0)<|.step (.call 112 [48, 49, 50, 6, 44, 45] 1)<|.step (.un .not 54)<|.ite 55
 (.step (.cb false)<|.step (.ci .i64 0)<|.ret [57, 56])
 (.step (.ci .i64 1)<|.step (.bin .add 2 56)<|.tail 1 [0, 1, 57, 48, 49, 50, 6, 44, 45]))))
 (.step (.ci .u8 6)<|.step (.bin .eql 33 38)<|.ite 39
 (.step (.call 112 [3, 4, 27, 6, 24, 27] 0)<|.step (.call 112 [3, 4, 27, 6, 24, 27] 1)<|.step (.un .not 41)<|.ite 42
 (.step (.cb false)<|.step (.ci .i64 0)<|.ret [44, 43])
 (.step (.ci .i64 1)<|.step (.bin .add 2 43)<|.tail 1 [0, 1, 44, 3, 4, 27, 6, 24, 27]))
 (.step (.ci .u8 7)<|.step (.bin .eql 33 40)<|.ite 41
 (.step (.ci .i64 1)<|.step (.bin .leq 42 15)<|.ite 43
 (.step (.ci .i64 3)<|.step (.bin .leq 15 44)<|.step (.un .not 45)<|.ite 46
 (.step (.bin .geq 15 42)<|.ite 47
 (.step (.cb false)<|.step (.binb .neq 48 45)<|.ite 49
 (.step (.ci .i64 0)<|.ret [50, 48])
 (.step (.call 112 [3, 4, 5, 6, 24, 8] 0)<|.step (.call 112 [3, 4, 5, 6, 24, 8] 1)<|.step (.un .not 51)<|.ite 52
 (.step (.ci .i64 0)<|.ret [53, 48])
 (.step (.bin .add 2 42)<|.tail 1 [0, 1, 53, 3, 4, 5, 6, 24, 8])))
 (.step (.call 112 [3, 4, 5, 6, 24, 8] 0)<|.step (.call 112 [3, 4, 5, 6, 24, 8] 1)<|.step (.un .not 49)<|.ite 50
 (.step (.cb false)<|.step (.ci .i64 0)<|.ret [52, 51])
 (.step (.bin .add 2 42)<|.tail 1 [0, 1, 51, 3, 4, 5, 6, 24, 8])))
 (.step (.bin .geq 15 42)<|.ite 47
 (.step (.cb true)<|.step (.binb .neq 48 45)<|.ite 49
 (.step (.cb false)<|.step (.ci .i64 0)<|.ret [51, 50])
 (.step (.call 112 [15, 4, 5, 15, 24, 8] 0)<|.step (.call 112 [15, 4, 5, 15, 24, 8] 1)<|.step (.un .not 51)<|.ite 52
 (.step (.cb false)<|.step (.ci .i64 0)<|.ret [54, 53])
 (.step (.bin .add 2 42)<|.tail 1 [0, 1, 53, 15, 4, 5, 15, 24, 8])))
 (.step (.cb false)<|.step (.ci .i64 0)<|.ret [49, 48])))
 (.step (.bin .geq 15 42)<|.ite 44
 (.step (.ci .i64 3)<|.step (.bin .leq 15 45)<|.step (.cb false)<|.step (.binb .neq 47 46)<|.ite 48
 (.step (.ci .i64 0)<|.ret [49, 47])
 (.step (.call 112 [3, 4, 5, 6, 24, 8] 0)<|.step (.call 112 [3, 4, 5, 6, 24, 8] 1)<|.step (.un .not 50)<|.ite 51
 (.step (.ci .i64 0)<|.ret [52, 47])
 (.step (.bin .add 2 42)<|.tail 1 [0, 1, 52, 3, 4, 5, 6, 24, 8])))
 (.step (.call 112 [3, 4, 5, 6, 24, 8] 0)<|.step (.call 112 [3, 4, 5, 6, 24, 8] 1)<|.step (.un .not 46)<|.ite 47
 (.step (.cb false)<|.step (.ci .i64 0)<|.ret [49, 48])
 (.step (.bin .add 2 42)<|.tail 1 [0, 1, 48, 3, 4, 5, 6, 24, 8]))))
 (.step (.ci .u8 1)<|.step (.bin .gtr 33 42)<|.ite 43
 (.step (.call 129 [11, 12, 13, 14, 15, 6, 24, 8] 0)<|.step (.call 129 [11, 12, 13, 14, 15, 6, 24, 8] 1)<|.step (.call 129 [11, 12, 13, 14, 15, 6, 24, 8] 2)<|.step (.call 128 [45, 46, 6, 24, 8] 0) <|
 .step (.call 128 [45, 46, 6, 24, 8] 1)<|.step (.call 128 [45, 46, 6, 24, 8] 2)<|.step (.call 128 [45, 46, 6, 24, 8] 3)<|.step (.mk [45, 46])<|.step (.call 67 [51] 0)<|.step (.cell 0 52) <|
 .step (.cell 1 52)<|.step (.mk [3, 4, 5])<|.step (.mk [53, 54])<|.step (.call 111 [55, 56] 0)<|.step (.cell 0 57)<|.step (.cell 1 57)<|.step (.cell 2 57)<|.step (.call 111 [55, 56] 1) <|
 .step (.bin .neq 48 61)<|.ite 62
 (.step (.cb false)<|.step (.ci .i64 0)<|.ret [64, 63])
 (.step (.call 112 [58, 59, 60, 6, 49, 50] 0)<|.step (.call 112 [58, 59, 60, 6, 49, 50] 1)<|.step (.un .not 64)<|.ite 65
 (.step (.cb false)<|.step (.ci .i64 0)<|.ret [67, 66])
 (.step (.ci .i64 1)<|.step (.bin .add 2 66)<|.tail 1 [0, 1, 67, 58, 59, 60, 6, 49, 50])))
 (.step (.call 128 [12, 13, 6, 24, 8] 0)<|.step (.call 128 [12, 13, 6, 24, 8] 1)<|.step (.call 128 [12, 13, 6, 24, 8] 2)<|.step (.call 128 [12, 13, 6, 24, 8] 3)<|.step (.mk [12, 13]) <|
 .step (.call 67 [48] 0)<|.step (.cell 0 49)<|.step (.cell 1 49)<|.step (.mk [3, 4, 5])<|.step (.mk [50, 51])<|.step (.call 111 [52, 53] 0)<|.step (.cell 0 54)<|.step (.cell 1 54) <|
 .step (.cell 2 54)<|.step (.call 111 [52, 53] 1)<|.step (.bin .neq 45 58)<|.ite 59
 (.step (.cb false)<|.step (.ci .i64 0)<|.ret [61, 60])
 (.step (.call 112 [55, 56, 57, 6, 46, 47] 0)<|.step (.call 112 [55, 56, 57, 6, 46, 47] 1)<|.step (.un .not 61)<|.ite 62
 (.step (.cb false)<|.step (.ci .i64 0)<|.ret [64, 63])
 (.step (.ci .i64 1)<|.step (.bin .add 2 63)<|.tail 1 [0, 1, 64, 55, 56, 57, 6, 46, 47]))))))))
 (.step (.ci .u8 8)<|.step (.bin .rem 11 23)<|.step (.ci .u8 4)<|.step (.bin .eql 24 25)<|.ite 26
 (.step (.call 113 [6, 7, 8] 0)<|.step (.call 113 [6, 7, 8] 1)<|.step (.call 113 [6, 7, 8] 2)<|.step (.call 113 [6, 7, 8] 3)<|.ite 30
 (.step (.ci .u8 5)<|.step (.bin .eql 24 31)<|.step (.call 125 [14, 6, 7, 8] 0)<|.step (.call 125 [14, 6, 7, 8] 1)<|.step (.call 125 [14, 6, 7, 8] 2)<|.step (.call 125 [14, 6, 7, 8] 3) <|
 .step (.mk [3, 4, 5])<|.step (.call 33 [37, 14] 0)<|.step (.cell 0 38)<|.step (.cell 1 38)<|.step (.cell 2 38)<|.step (.call 33 [37, 14] 1)<|.step (.binb .neq 34 42)<|.ite 43
 (.step (.cb false)<|.step (.ci .i64 0)<|.ret [45, 44])
 (.step (.call 112 [39, 40, 41, 6, 35, 36] 0)<|.step (.call 112 [39, 40, 41, 6, 35, 36] 1)<|.step (.un .not 45)<|.ite 46
 (.step (.cb false)<|.step (.ci .i64 0)<|.ret [48, 47])
 (.step (.ci .i64 1)<|.step (.bin .add 2 47)<|.tail 1 [0, 1, 48, 39, 40, 41, 6, 35, 36])))
 (.step (.call 125 [14, 6, 7, 8] 0)<|.step (.call 125 [14, 6, 7, 8] 1)<|.step (.call 125 [14, 6, 7, 8] 2)<|.step (.call 125 [14, 6, 7, 8] 3)<|.step (.mk [3, 4, 5])<|.step (.call 33 [35, 14] 0) <|
 .step (.cell 0 36)<|.step (.cell 1 36)<|.step (.cell 2 36)<|.step (.call 33 [35, 14] 1)<|.step (.binb .neq 32 40)<|.ite 41
 (.step (.cb false)<|.step (.ci .i64 0)<|.ret [43, 42])
 (.step (.call 112 [37, 38, 39, 6, 33, 34] 0)<|.step (.call 112 [37, 38, 39, 6, 33, 34] 1)<|.step (.un .not 43)<|.ite 44
 (.step (.cb false)<|.step (.ci .i64 0)<|.ret [46, 45])
 (.step (.ci .i64 1)<|.step (.bin .add 2 45)<|.tail 1 [0, 1, 46, 37, 38, 39, 6, 33, 34]))))
 (.step (.ci .u8 5)<|.step (.bin .eql 24 27)<|.ite 28
 (.step (.call 113 [6, 7, 8] 0)<|.step (.call 113 [6, 7, 8] 1)<|.step (.call 113 [6, 7, 8] 2)<|.step (.call 113 [6, 7, 8] 3)<|.ite 32
 (.step (.call 125 [30, 6, 7, 8] 0)<|.step (.call 125 [30, 6, 7, 8] 1)<|.step (.call 125 [30, 6, 7, 8] 2)<|.step (.call 125 [30, 6, 7, 8] 3)<|.step (.mk [3, 4, 5])<|.step (.call 33 [37, 30] 0) <|
 .step (.cell 0 38)<|.step (.cell 1 38)<|.step (.cell 2 38)<|.step (.call 33 [37, 30] 1)<|.step (.binb .neq 34 42)<|.ite 43
 (.step (.cb false)<|.step (.ci .i64 0)<|.ret [45, 44])
 (.step (.call 112 [39, 40, 41, 6, 35, 36] 0)<|.step (.call 112 [39, 40, 41, 6, 35, 36] 1)<|.step (.un .not 45)<|.ite 46
 (.step (.cb false)<|.step (.ci .i64 0)<|.ret [48, 47])
 (.step (.ci .i64 1)<|.step (.bin .add 2 47)<|.tail 1 [0, 1, 48, 39, 40, 41, 6, 35, 36])))
 (.step (.call 125 [14, 6, 7, 8] 0)<|.step (.call 125 [14, 6, 7, 8] 1)<|.step (.call 125 [14, 6, 7, 8] 2)<|.step (.call 125 [14, 6, 7, 8] 3)<|.step (.mk [3, 4, 5])<|.step (.call 33 [37, 14] 0) <|
 .step (.cell 0 38)<|.step (.cell 1 38)<|.step (.cell 2 38)<|.step (.call 33 [37, 14] 1)<|.step (.binb .neq 34 42)<|.ite 43
 (.step (.cb false)<|.step (.ci .i64 0)<|.ret [45, 44])
 (.step (.call 112 [39, 40, 41, 6, 35, 36] 0)<|.step (.call 112 [39, 40, 41, 6, 35, 36] 1)<|.step (.un .not 45)<|.ite 46
 (.step (.cb false)<|.step (.ci .i64 0)<|.ret [48, 47])
 (.step (.ci .i64 1)<|.step (.bin .add 2 47)<|.tail 1 [0, 1, 48, 39, 40, 41, 6, 35, 36]))))
 (.step (.ci .u8 6)<|.step (.bin .eql 24 29)<|.ite 30
 (.step (.ci .u64 0)<|.step (.call 112 [3, 4, 31, 6, 7, 31] 0)<|.step (.call 112 [3, 4, 31, 6, 7, 31] 1)<|.step (.un .not 33)<|.ite 34
 (.step (.cb false)<|.step (.ci .i64 0)<|.ret [36, 35])
 (.step (.ci .i64 1)<|.step (.bin .add 2 35)<|.tail 1 [0, 1, 36, 3, 4, 31, 6, 7, 31]))
 (.step (.ci .u8 7)<|.step (.bin .eql 24 31)<|.ite 32
 (.step (.ci .i64 1)<|.step (.bin .leq 33 15)<|.ite 34
 (.step (.ci .i64 3)<|.step (.bin .leq 15 35)<|.step (.un .not 36)<|.ite 37
 (.step (.bin .geq 15 33)<|.ite 38
 (.step (.cb false)<|.step (.binb .neq 39 36)<|.ite 40
 (.step (.ci .i64 0)<|.ret [41, 39])
 (.step (.call 112 [3, 4, 5, 6, 7, 8] 0)<|.step (.call 112 [3, 4, 5, 6, 7, 8] 1)<|.step (.un .not 42)<|.ite 43
 (.step (.ci .i64 0)<|.ret [44, 39])
 (.step (.bin .add 2 33)<|.tail 1 [0, 1, 44, 3, 4, 5, 6, 7, 8])))
 (.step (.call 112 [3, 4, 5, 6, 7, 8] 0)<|.step (.call 112 [3, 4, 5, 6, 7, 8] 1)<|.step (.un .not 40)<|.ite 41
 (.step (.cb false)<|.step (.ci .i64 0)<|.ret [43, 42])
 (.step (.bin .add 2 33)<|.tail 1 [0, 1, 42, 3, 4, 5, 6, 7, 8])))
 (.step (.bin .geq 15 33)<|.ite 38
 (.step (.cb true)<|.step (.binb .neq 39 36)<|.ite 40
 (.step (.cb false)<|.step (.ci .i64 0)<|.ret [42, 41])
 (.step (.call 112 [15, 4, 5, 15, 7, 8] 0)<|.step (.call 112 [15, 4, 5, 15, 7, 8] 1)<|.step (.un .not 42)<|.ite 43
 (.step (.cb false)<|.step (.ci .i64 0)<|.ret [45, 44])
 (.step (.bin .add 2 33)<|.tail 1 [0, 1, 44, 15, 4, 5, 15, 7, 8])))
 (.step (.cb false)<|.step (.ci .i64 0)<|.ret [40, 39])))
 (.step (.bin .geq 15 33)<|.ite 35
 (.step (.ci .i64 3)<|.step (.bin .leq 15 36)<|.step (.cb false)<|.step (.binb .neq 38 37)<|.ite 39
 (.step (.ci .i64 0)<|.ret [40, 38])
 (.step (.call 112 [3, 4, 5, 6, 7, 8] 0)<|.step (.call 112 [3, 4, 5, 6, 7, 8] 1)<|.step (.un .not 41)<|.ite 42
 (.step (.ci .i64 0)<|.ret [43, 38])
 (.step (.bin .add 2 33)<|.tail 1 [0, 1, 43, 3, 4, 5, 6, 7, 8])))
 (.step (.call 112 [3, 4, 5, 6, 7, 8] 0)<|.step (.call 112 [3, 4, 5, 6, 7, 8] 1)<|.step (.un .not 37)<|.ite 38
 (.step (.cb false)<|.step (.ci .i64 0)<|.ret [40, 39])
 (.step (.bin .add 2 33)<|.tail 1 [0, 1, 39, 3, 4, 5, 6, 7, 8]))))
 (.step (.ci .u8 1)<|.step (.bin .gtr 24 33)<|.ite 34
 (.step (.call 129 [11, 12, 13, 14, 15, 6, 7, 8] 0)<|.step (.call 129 [11, 12, 13, 14, 15, 6, 7, 8] 1)<|.step (.call 129 [11, 12, 13, 14, 15, 6, 7, 8] 2)<|.step (.call 128 [36, 37, 6, 7, 8] 0) <|
 .step (.call 128 [36, 37, 6, 7, 8] 1)<|.step (.call 128 [36, 37, 6, 7, 8] 2)<|.step (.call 128 [36, 37, 6, 7, 8] 3)<|.step (.mk [36, 37])<|.step (.call 67 [42] 0)<|.step (.cell 0 43) <|
 .step (.cell 1 43)<|.step (.mk [3, 4, 5])<|.step (.mk [44, 45])<|.step (.call 111 [46, 47] 0)<|.step (.cell 0 48)<|.step (.cell 1 48)<|.step (.cell 2 48)<|.step (.call 111 [46, 47] 1) <|
 .step (.bin .neq 39 52)<|.ite 53
 (.step (.cb false)<|.step (.ci .i64 0)<|.ret [55, 54])
 (.step (.call 112 [49, 50, 51, 6, 40, 41] 0)<|.step (.call 112 [49, 50, 51, 6, 40, 41] 1)<|.step (.un .not 55)<|.ite 56
 (.step (.cb false)<|.step (.ci .i64 0)<|.ret [58, 57])
 (.step (.ci .i64 1)<|.step (.bin .add 2 57)<|.tail 1 [0, 1, 58, 49, 50, 51, 6, 40, 41])))
 (.step (.call 128 [12, 13, 6, 7, 8] 0)<|.step (.call 128 [12, 13, 6, 7, 8] 1)<|.step (.call 128 [12, 13, 6, 7, 8] 2)<|.step (.call 128 [12, 13, 6, 7, 8] 3)<|.step (.mk [12, 13]) <|
 .step (.call 67 [39] 0)<|.step (.cell 0 40)<|.step (.cell 1 40)<|.step (.mk [3, 4, 5])<|.step (.mk [41, 42])<|.step (.call 111 [43, 44] 0)<|.step (.cell 0 45)<|.step (.cell 1 45) <|
 .step (.cell 2 45)<|.step (.call 111 [43, 44] 1)<|.step (.bin .neq 36 49)<|.ite 50
 (.step (.cb false)<|.step (.ci .i64 0)<|.ret [52, 51])
 (.step (.call 112 [46, 47, 48, 6, 37, 38] 0)<|.step (.call 112 [46, 47, 48, 6, 37, 38] 1)<|.step (.un .not 52)<|.ite 53
 (.step (.cb false)<|.step (.ci .i64 0)<|.ret [55, 54])
 (.step (.ci .i64 1)<|.step (.bin .add 2 54)<|.tail 1 [0, 1, 55, 46, 47, 48, 6, 37, 38])))))))))))
 (.step (.ci .i64 1)<|.ret [10])
def d49 : PDef := .tree 1<|.step (.slen 0)<|.step (.ci .i64 0)<|.step (.bin .gtr 1 2)<|.ite 3
 (.step (.call 50 [0] 0)<|.step (.bin .eql 4 2)<|.ite 5
 (.ret [2])
 (.step (.ssub 0 4 1)<|.tail 49 [6]))
 (.step (.ci .i64 1)<|.ret [4])
def d55 : PDef := .tree 3<|.step (.slen 0)<|.step (.bin .lss 2 3)<|.ite 4
 (.step (.slen 1)<|.step (.bin .lss 2 5)<|.ite 6
 (.step (.sidx 0 2)<|.step (.sidx 1 2)<|.step (.bin .neq 7 8)<|.ite 9
 (.step (.bin .lss 7 8)<|.step (.ci .i64 0)<|.ret [11, 10])
 (.step (.ci .i64 1)<|.step (.bin .add 2 10)<|.tail 55 [0, 1, 11]))
 (.step (.ci .i64 1)<|.ret [7]))
 (.step (.ci .i64 1)<|.ret [5])
def d106 : PDef := .tree 3<|.step (.len 0)<|.step (.ci .i64 0)<|.step (.bin .gtr 3 4)<|.ite 5
 (.step (.len 1)<|.step (.bin .eql 6 4)<|.ite 7
 (.step (.at 2 0 4)<|.step (.cell 0 8)<|.step (.cell 1 8)<|.step (.call 28 [9] 0)<|.step (.mk [11, 10])<|.step (.ml [12])<|.step (.app 2 32 2 13)<|.step (.ci .i64 1)<|.step (.lsub 2 0 15 3) <|
 .tail 106 [16, 1, 14])
 (.step (.bin .eql 3 4)<|.ite 8
 (.step (.at 2 1 4)<|.step (.cell 0 9)<|.step (.cell 1 9)<|.step (.call 28 [10] 0)<|.step (.mk [12, 11])<|.step (.ml [13])<|.step (.app 2 32 2 14)<|.step (.ci .i64 1)<|.step (.lsub 2 1 16 6) <|
 .tail 106 [0, 17, 15])
 (.step (.at 2 0 4)<|.step (.cell 0 9)<|.step (.at 2 1 4)<|.step (.cell 0 11)<|.step (.call 107 [10, 12] 0)<|.step (.bin .lss 13 4)<|.ite 14
 (.step (.cell 1 9)<|.step (.call 28 [10] 0)<|.step (.mk [16, 15])<|.step (.ml [17])<|.step (.app 2 32 2 18)<|.step (.ci .i64 1)<|.step (.lsub 2 0 20 3)<|.tail 106 [21, 1, 19])
 (.step (.bin .gtr 13 4)<|.ite 15
 (.step (.cell 1 11)<|.step (.call 28 [12] 0)<|.step (.mk [17, 16])<|.step (.ml [18])<|.step (.app 2 32 2 19)<|.step (.ci .i64 1)<|.step (.lsub 2 1 21 6)<|.tail 106 [0, 22, 20])
 (.step (.cell 1 9)<|.step (.cell 1 11)<|.step (.ci .u64 0)<|.step (.call 109 [16, 17, 18] 0)<|.step (.call 109 [16, 17, 18] 1)<|.step (.bin .neq 20 18)<|.ite 21
 (.ret [4])
 (.step (.call 28 [10] 0)<|.step (.mk [22, 19])<|.step (.ml [23])<|.step (.app 2 32 2 24)<|.step (.ci .i64 1)<|.step (.lsub 2 0 26 3)<|.step (.lsub 2 1 26 6)<|.tail 106 [27, 28, 25]))))))
 (.step (.len 1)<|.step (.bin .gtr 6 4)<|.ite 7
 (.step (.bin .eql 6 4)<|.ite 8
 (.step (.at 2 0 4)<|.step (.cell 0 9)<|.step (.cell 1 9)<|.step (.call 28 [10] 0)<|.step (.mk [12, 11])<|.step (.ml [13])<|.step (.app 2 32 2 14)<|.step (.ci .i64 1)<|.step (.lsub 2 0 16 3) <|
 .tail 106 [17, 1, 15])
 (.step (.bin .eql 3 4)<|.ite 9
 (.step (.at 2 1 4)<|.step (.cell 0 10)<|.step (.cell 1 10)<|.step (.call 28 [11] 0)<|.step (.mk [13, 12])<|.step (.ml [14])<|.step (.app 2 32 2 15)<|.step (.ci .i64 1)<|.step (.lsub 2 1 17 6) <|
 .tail 106 [0, 18, 16])
 (.step (.at 2 0 4)<|.step (.cell 0 10)<|.step (.at 2 1 4)<|.step (.cell 0 12)<|.step (.call 107 [11, 13] 0)<|.step (.bin .lss 14 4)<|.ite 15
 (.step (.cell 1 10)<|.step (.call 28 [11] 0)<|.step (.mk [17, 16])<|.step (.ml [18])<|.step (.app 2 32 2 19)<|.step (.ci .i64 1)<|.step (.lsub 2 0 21 3)<|.tail 106 [22, 1, 20])
 (.step (.bin .gtr 14 4)<|.ite 16
 (.step (.cell 1 12)<|.step (.call 28 [13] 0)<|.step (.mk [18, 17])<|.step (.ml [19])<|.step (.app 2 32 2 20)<|.step (.ci .i64 1)<|.step (.lsub 2 1 22 6)<|.tail 106 [0, 23, 21])
 (.step (.cell 1 10)<|.step (.cell 1 12)<|.step (.ci .u64 0)<|.step (.call 109 [17, 18, 19] 0)<|.step (.call 109 [17, 18, 19] 1)<|.step (.bin .neq 21 19)<|.ite 22
 (.ret [4])
 (.step (.call 28 [11] 0)<|.step (.mk [23, 20])<|.step (.ml [24])<|.step (.app 2 32 2 25)<|.step (.ci .i64 1)<|.step (.lsub 2 0 27 3)<|.step (.lsub 2 1 27 6)<|.tail 106 [28, 29, 26]))))))
 (.step (.ci .i64 1)<|.ret [8, 2]))
def d63 : PDef := .tree 4<|.step (.bin .lss 3 2)<|.ite 4
 (.step (.at 2 1 3)<|.step (.cell 0 5)<|.step (.cell 1 5)<|.step (.call 64 [0, 6] 0)<|.step (.bin .lss 8 7)<|.ite 9
 (.step (.ci .i64 0)<|.ret [10])
 (.step (.ci .i64 1)<|.step (.bin .add 3 10)<|.tail 63 [0, 1, 2, 11]))
 (.step (.ci .i64 1)<|.ret [5])
def d122 : PDef := .tree 7<|.step (.bin .lss 3 2)<|.ite 7
 (.step (.at 2 1 3)<|.step (.cell 0 8)<|.step (.cell 1 8)<|.step (.len 0)<|.step (.ci .i64 0)<|.step (.bin .gtr 11 12)<|.ite 13
 (.step (.at 2 0 12)<|.step (.cell 0 14)<|.step (.call 107 [15, 9] 0)<|.step (.bin .eql 16 12)<|.ite 17
 (.step (.cell 1 14)<|.step (.bin .sub 10 18)<|.step (.ci .i64 1)<|.step (.lsub 2 0 20 11)<|.step (.ci .u64 0)<|.step (.bin .neq 19 22)<|.ite 23
 (.step (.call 28 [9] 0)<|.step (.mk [24, 19])<|.step (.ml [25])<|.step (.app 2 32 6 26)<|.step (.bin .add 3 20)<|.tail 122 [21, 1, 2, 28, 4, 5, 27])
 (.step (.bin .add 3 20)<|.tail 122 [21, 1, 2, 24, 4, 5, 6]))
 (.step (.ci .u64 0)<|.step (.bin .neq 10 18)<|.ite 19
 (.step (.call 28 [9] 0)<|.step (.mk [20, 10])<|.step (.ml [21])<|.step (.app 2 32 6 22)<|.step (.ci .i64 1)<|.step (.bin .add 3 24)<|.tail 122 [0, 1, 2, 25, 4, 5, 23])
 (.step (.ci .i64 1)<|.step (.bin .add 3 20)<|.tail 122 [0, 1, 2, 21, 4, 5, 6])))
 (.step (.ci .u64 0)<|.step (.bin .neq 10 14)<|.ite 15
 (.step (.call 28 [9] 0)<|.step (.mk [16, 10])<|.step (.ml [17])<|.step (.app 2 32 6 18)<|.step (.ci .i64 1)<|.step (.bin .add 3 20)<|.tail 122 [0, 1, 2, 21, 4, 5, 19])
 (.step (.ci .i64 1)<|.step (.bin .add 3 16)<|.tail 122 [0, 1, 2, 17, 4, 5, 6])))
 (.step (.ci .i64 0)<|.ret [8, 6])
def d85 : PDef := .tree 51<|.step (.bin .lss 2 1)<|.ite 51
 (.step (.at 1 0 2)<|.step (.cell 0 52)<|.step (.cs [100, 101, 115, 99, 114])<|.step (.bin .eql 53 54)<|.ite 55
 (.step (.ci .i64 1)<|.step (.bin .add 2 56)<|.tail 85 [0, 1, 57, 3, 4, 5, 6, 7, 8, 9, 10, 11, 12, 13, 14, 15, 16, 17, 18, 19, 20, 21, 22, 23, 24, 25, 26, 27, 28, 29, 30, 31, 32, 33, 34, 35, 36, 37, 38, 39, 40, 41, 42, 43, 44, 45, 46, 47, 48, 49, 50])
 (.step (.cs [116, 97, 98, 108, 101])<|.step (.bin .eql 53 56)<|.ite 57
 (.step (.ci .i64 1)<|.step (.bin .add 2 58)<|.tail 85 [0, 1, 59, 3, 4, 5, 6, 7, 8, 9, 10, 11, 12, 13, 14, 15, 16, 17, 18, 19, 20, 21, 22, 23, 24, 25, 26, 27, 28, 29, 30, 31, 32, 33, 34, 35, 36, 37, 38, 39, 40, 41, 42, 43, 44, 45, 46, 47, 48, 49, 50])
 (.step (.mk [27, 28, 29, 30, 31, 32, 33, 34, 35, 36, 37, 38, 39, 40, 41, 42, 43, 44, 45, 46, 47, 48, 49, 50])<|.step (.call 86 [58, 53] 0)<|.step (.call 86 [58, 53] 1)<|.step (.mk [3, 4, 5, 6, 7, 8, 9, 10, 11, 12, 13, 14, 15, 16, 17, 18, 19, 20, 21, 22, 23, 24, 25, 26]) <|
 .step (.call 86 [61, 53] 0)<|.step (.call 86 [61, 53] 1)<|.step (.bin .neq 59 62)<|.ite 64
 (.step (.ci .i64 0)<|.ret [65])
 (.step (.bin .neq 60 63)<|.ite 65
 (.step (.ci .i64 0)<|.ret [66])
 (.step (.ci .i64 1)<|.step (.bin .add 2 66)<|.tail 85 [0, 1, 67, 3, 4, 5, 6, 7, 8, 9, 10, 11, 12, 13, 14, 15, 16, 17, 18, 19, 20, 21, 22, 23, 24, 25, 26, 27, 28, 29, 30, 31, 32, 33, 34, 35, 36, 37, 38, 39, 40, 41, 42, 43, 44, 45, 46, 47, 48, 49, 50])))))
 (.step (.ci .i64 1)<|.ret [52])
def d27 : PDef := .tree 5<|.step (.bin .lss 2 1)<|.ite 5
 (.step (.at 2 0 2)<|.step (.cell 0 6)<|.step (.cell 1 6)<|.step (.call 28 [7] 0)<|.step (.mk [9, 8])<|.step (.ml [10])<|.step (.app 2 32 4 11)<|.step (.ci .i64 1)<|.step (.bin .add 2 13) <|
 .tail 27 [0, 1, 14, 3, 12])
 (.step (.ci .i64 0)<|.ret [6, 4])
def d121 : PDef := .tree 8<|.step (.len 0)<|.step (.bin .lss 1 8)<|.ite 9
 (.step (.at 2 0 1)<|.step (.cell 0 10)<|.step (.call 6 [11] 0)<|.step (.bin .lss 12 2)<|.ite 13
 (.step (.ci .i64 1)<|.step (.bin .add 1 14)<|.tail 121 [0, 15, 2, 3, 4, 5, 6, 7])
 (.step (.ci .i64 0)<|.ret [14, 1, 10, 11, 12]))
 (.step (.ci .i64 1)<|.ret [10, 1])
def d114 : PDef := .tree 14<|.step (.bin .lss 4 3)<|.ite 14
 (.step (.at 2 2 4)<|.step (.cell 0 15)<|.step (.cell 1 15)<|.step (.ml [16])<|.step (.app 1 8 1 18)<|.step (.ci .i64 1)<|.step (.bin .add 4 20)<|.tail 114 [0, 19, 2, 3, 21, 5, 6, 7, 16, 17, 10, 11, 12, 13])
 (.step (.ci .i64 0)<|.ret [15, 1, 8, 9])
def d51 : PDef := .tree 5<|.step (.bin .lss 4 1)<|.ite 5
 (.step (.sidx 0 4)<|.step (.conv .i64 6)<|.step (.ci .i64 128)<|.step (.bin .lss 7 8)<|.ite 9
 (.step (.ci .i64 0)<|.ret [10])
 (.step (.ci .i64 192)<|.step (.bin .geq 7 10)<|.ite 11
 (.step (.ci .i64 0)<|.ret [12])
 (.step (.ci .i64 64)<|.step (.bin .mul 12 2)<|.step (.bin .add 13 7)<|.step (.bin .sub 14 8)<|.step (.ci .i64 1)<|.step (.bin .add 4 16)<|.tail 51 [0, 1, 15, 3, 17])))
 (.step (.ci .i64 1)<|.ret [6, 2])
def d65 : PDef := .tree 4<|.step (.bin .lss 3 2)<|.ite 4
 (.step (.at 2 1 3)<|.step (.cell 0 5)<|.step (.cell 1 5)<|.step (.call 56 [6] 0)<|.step (.call 56 [0] 0)<|.step (.bin .eql 8 9)<|.ite 10
 (.step (.ci .i64 0)<|.ret [11, 7])
 (.step (.ci .i64 1)<|.step (.bin .add 3 11)<|.tail 65 [0, 1, 2, 12]))
 (.step (.ci .i64 1)<|.ret [5])
def d90 : PDef := .tree 5<|.step (.bin .lss 4 3)<|.ite 5
 (.step (.at 4 2 4)<|.step (.cell 0 6)<|.step (.cell 1 6)<|.step (.cell 2 6)<|.step (.cell 3 6)<|.step (.bin .eql 10 0)<|.ite 11
 (.step (.ci .i64 0)<|.ret [12, 8])
 (.step (.ci .i64 1)<|.step (.bin .add 4 12)<|.tail 90 [0, 1, 2, 3, 13]))
 (.step (.ci .i64 1)<|.ret [6])
def d71 : PDef := .tree 4<|.step (.bin .lss 3 2)<|.ite 4
 (.step (.at 2 1 3)<|.step (.cell 0 5)<|.step (.cell 1 5)<|.step (.mk [6, 7])<|.step (.ml [8])<|.step (.app 2 32 0 9)<|.step (.ci .i64 1)<|.step (.bin .add 3 11)<|.tail 71 [10, 1, 2, 12])
 (.step (.ci .i64 0)<|.ret [5, 0])
def d42 : PDef := .tree 3<|.step (.bin .lss 2 1)<|.ite 3
 (.step (.at 2 0 2)<|.step (.cell 0 4)<|.step (.cell 1 4)<|.step (.mk [5, 6])<|.step (.call 43 [7] 0)<|.step (.ci .i64 0)<|.step (.bin .eql 8 9)<|.ite 10
 (.step (.bin .gtr 2 9)<|.ite 11
 (.step (.ci .i64 1)<|.step (.bin .sub 2 12)<|.step (.at 2 0 13)<|.step (.cell 0 14)<|.step (.call 56 [15] 0)<|.step (.call 56 [5] 0)<|.step (.bin .eql 16 17)<|.ite 18
 (.step (.ci .i64 14)<|.ret [9, 19])
 (.step (.call 61 [16, 17] 0)<|.step (.un .not 19)<|.ite 20
 (.step (.ci .i64 7)<|.ret [9, 21])
 (.step (.bin .neq 8 9)<|.step (.bin .add 2 12)<|.tail 42 [0, 1, 22])))
 (.step (.bin .neq 8 9)<|.step (.ci .i64 1)<|.step (.bin .add 2 13)<|.tail 42 [0, 1, 14]))
 (.step (.bin .neq 8 9)<|.ret [9, 8]))
 (.step (.ci .i64 1)<|.ret [4])
def d120 : PDef := .tree 5<|.step (.bin .lss 4 3)<|.ite 5
 (.step (.at 2 2 4)<|.step (.cell 0 6)<|.step (.cell 1 6)<|.step (.call 6 [7] 0)<|.step (.call 121 [0, 1, 9, 2, 3, 4, 7, 8] 0)<|.step (.ci .i64 0)<|.step (.bin .eql 10 11)<|.ite 12
 (.step (.call 121 [0, 1, 9, 2, 3, 4, 7, 8] 1)<|.step (.call 121 [0, 1, 9, 2, 3, 4, 7, 8] 2)<|.step (.call 121 [0, 1, 9, 2, 3, 4, 7, 8] 3)<|.step (.call 121 [0, 1, 9, 2, 3, 4, 7, 8] 4) <|
 .step (.len 0)<|.step (.bin .eql 13 17)<|.ite 18
 (.ret [11])
 (.step (.at 2 0 13)<|.step (.cell 0 19)<|.step (.call 6 [20] 0)<|.step (.bin .neq 21 9)<|.ite 22
 (.ret [11])
 (.step (.cell 1 19)<|.step (.bin .lss 23 8)<|.ite 24
 (.ret [11])
 (.step (.ci .i64 1)<|.step (.bin .add 4 25)<|.tail 120 [0, 13, 2, 3, 26]))))
 (.step (.call 121 [0, 1, 9, 2, 3, 4, 7, 8] 1)<|.step (.len 0)<|.step (.bin .eql 13 14)<|.ite 15
 (.ret [11])
 (.step (.at 2 0 13)<|.step (.cell 0 16)<|.step (.call 6 [17] 0)<|.step (.bin .neq 18 9)<|.ite 19
 (.ret [11])
 (.step (.cell 1 16)<|.step (.bin .lss 20 8)<|.ite 21
 (.ret [11])
 (.step (.ci .i64 1)<|.step (.bin .add 4 22)<|.tail 120 [0, 13, 2, 3, 23])))))
 (.step (.ci .i64 1)<|.ret [6])
def d82 : PDef := .tree 4<|.step (.bin .lss 3 2)<|.ite 4
 (.step (.at 5 1 3)<|.step (.cell 0 5)<|.step (.cell 1 5)<|.step (.cell 2 5)<|.step (.cell 3 5)<|.step (.cell 4 5)<|.step (.call 81 [10] 0)<|.step (.mk [6, 7, 8, 9, 11])<|.step (.ml [12]) <|
 .step (.app 5 64 0 13)<|.step (.ci .i64 1)<|.step (.bin .add 3 15)<|.tail 82 [14, 1, 2, 16])
 (.step (.ci .i64 0)<|.ret [5, 0])
def d95 : PDef := .tree 4<|.step (.bin .lss 3 2)<|.ite 4
 (.step (.at 2 0 3)<|.step (.cell 0 5)<|.step (.cell 1 5)<|.step (.ci .i64 0)<|.step (.bin .gtr 3 8)<|.ite 9
 (.step (.ci .i64 1)<|.step (.bin .sub 3 10)<|.step (.at 2 0 11)<|.step (.cell 0 12)<|.step (.call 56 [13] 0)<|.step (.call 56 [6] 0)<|.step (.call 96 [14, 15] 0)<|.step (.bin .add 1 16) <|
 .step (.call 57 [7] 0)<|.step (.bin .add 17 18)<|.step (.bin .add 3 10)<|.tail 95 [0, 19, 2, 20])
 (.step (.call 56 [6] 0)<|.step (.cs [])<|.step (.call 96 [11, 10] 0)<|.step (.bin .add 1 12)<|.step (.call 57 [7] 0)<|.step (.bin .add 13 14)<|.step (.ci .i64 1)<|.step (.bin .add 3 16) <|
 .tail 95 [0, 15, 2, 17]))
 (.step (.ci .i64 0)<|.ret [5, 1])
def d98 : PDef := .tree 3<|.step (.slen 0)<|.step (.bin .lss 2 3)<|.ite 4
 (.step (.slen 1)<|.step (.bin .lss 2 5)<|.ite 6
 (.step (.sidx 0 2)<|.step (.sidx 1 2)<|.step (.bin .neq 7 8)<|.ite 9
 (.step (.ci .i64 0)<|.ret [10, 2])
 (.step (.ci .i64 1)<|.step (.bin .add 2 10)<|.tail 98 [0, 1, 11]))
 (.step (.ci .i64 1)<|.ret [7]))
 (.step (.ci .i64 1)<|.ret [5])
def d127 : PDef := .tree 6<|.step (.bin .lss 2 1)<|.ite 6
 (.step (.idx 0 2)<|.step (.at 2 0 7)<|.step (.cell 0 8)<|.step (.cell 1 8)<|.step (.mk [9, 10])<|.step (.call 26 [11] 0)<|.step (.cell 0 12)<|.step (.cell 1 12)<|.step (.mk [13, 14]) <|
 .step (.ml [15])<|.step (.app 2 32 5 16)<|.step (.ci .i64 1)<|.step (.bin .add 2 18)<|.tail 127 [0, 1, 19, 3, 4, 17])
 (.step (.ci .i64 0)<|.ret [7, 5])
def d79 : PDef := .tree 4<|.step (.bin .lss 3 2)<|.ite 4
 (.step (.at 1 0 3)<|.step (.cell 0 5)<|.step (.at 1 1 3)<|.step (.cell 0 7)<|.step (.bin .neq 6 8)<|.ite 9
 (.step (.ci .i64 0)<|.ret [10])
 (.step (.ci .i64 1)<|.step (.bin .add 3 10)<|.tail 79 [0, 1, 2, 11]))
 (.step (.ci .i64 1)<|.ret [5])
def d39 : PDef := .tree 7<|.step (.bin .lss 2 1)<|.ite 7
 (.step (.at 2 0 2)<|.step (.cell 0 8)<|.step (.cell 1 8)<|.step (.bin .eql 9 6)<|.ite 11
 (.step (.mk [9, 10])<|.step (.mk [3, 4])<|.step (.call 40 [12, 13] 0)<|.step (.cell 0 14)<|.step (.cell 1 14)<|.step (.cell 2 14)<|.step (.call 40 [12, 13] 1)<|.step (.ci .i64 0) <|
 .ret [19, 16, 15, 17])
 (.step (.ci .i64 1)<|.step (.bin .add 2 12)<|.tail 39 [0, 1, 13, 3, 4, 5, 6]))
 (.step (.ci .i64 1)<|.ret [8])
def d88 : PDef := .tree 2<|.step (.ci .i64 8)<|.step (.bin .leq 1 2)<|.ite 3
 (.step (.call 89 [1] 0)<|.step (.len 4)<|.step (.ci .i64 0)<|.step (.call 90 [0, 1, 4, 5, 6] 0)<|.step (.bin .eql 7 6)<|.ite 8
 (.step (.call 90 [0, 1, 4, 5, 6] 1)<|.ret [6, 9])
 (.step (.ci .i64 1)<|.step (.bin .add 1 9)<|.tail 88 [0, 10]))
 (.step (.ci .i64 1)<|.ret [4])
def d3 : PDef := .tree 3<|.step (.bin .lss 2 1)<|.ite 3
 (.step (.at 2 0 2)<|.step (.cell 0 4)<|.step (.cell 1 4)<|.step (.len 5)<|.step (.ci .i64 18)<|.step (.bin .gtr 7 8)<|.ite 9
 (.step (.ci .i64 0)<|.ret [10])
 (.step (.call 4 [5] 0)<|.step (.un .not 10)<|.ite 11
 (.step (.ci .i64 0)<|.ret [12])
 (.step (.len 0)<|.step (.ci .i64 40)<|.step (.bin .gtr 12 13)<|.ite 14
 (.step (.call 6 [5] 0)<|.step (.slen 15)<|.step (.ci .i64 100)<|.step (.bin .gtr 16 17)<|.ite 18
 (.step (.ci .i64 0)<|.ret [19])
 (.step (.ci .i64 1)<|.step (.bin .add 2 19)<|.tail 3 [0, 1, 20]))
 (.step (.ci .i64 1)<|.step (.bin .add 2 15)<|.tail 3 [0, 1, 16]))))
 (.step (.ci .i64 1)<|.ret [4])
def d66 : PDef := .tree 7<|.step (.bin .lss 2 1)<|.ite 7
 (.step (.at 2 0 2)<|.step (.cell 0 8)<|.step (.cell 1 8)<|.step (.call 64 [6, 9] 0)<|.step (.bin .neq 10 11)<|.ite 12
 (.step (.bin .sub 10 11)<|.step (.mk [9, 13])<|.step (.ml [14])<|.step (.app 2 32 5 15)<|.step (.ci .i64 1)<|.step (.bin .add 2 17)<|.tail 66 [0, 1, 18, 3, 4, 16, 6])
 (.step (.ci .i64 1)<|.step (.bin .add 2 13)<|.tail 66 [0, 1, 14, 3, 4, 5, 6]))
 (.step (.ci .i64 0)<|.ret [8, 5])
def d69 : PDef := .tree 4<|.step (.bin .lss 3 2)<|.ite 4
 (.step (.at 2 1 3)<|.step (.cell 0 5)<|.step (.cell 1 5)<|.step (.call 70 [6] 0)<|.step (.mk [8, 7])<|.step (.ml [9])<|.step (.app 2 32 0 10)<|.step (.ci .i64 1)<|.step (.bin .add 3 12) <|
 .tail 69 [11, 1, 2, 13])
 (.step (.ci .i64 0)<|.ret [5, 0])
def d58 : PDef := .tree 2<|.step (.ci .u64 127)<|.step (.bin .gtr 0 2)<|.ite 3
 (.step (.ci .u64 128)<|.step (.bin .rem 0 4)<|.step (.bin .add 5 4)<|.step (.conv .u8 6)<|.step (.ml [7])<|.step (.str 8)<|.step (.bin .add 1 9)<|.step (.bin .quo 0 4)<|.tail 58 [11, 10])
 (.step (.ci .i64 0)<|.ret [4, 0, 1])
def d11 : PDef := .tree 4<|.step (.bin .lss 2 1)<|.ite 4
 (.step (.at 2 0 2)<|.step (.cell 0 5)<|.step (.cell 1 5)<|.step (.mk [6, 7])<|.step (.call 12 [8] 0)<|.step (.bytes 9)<|.step (.app 1 1 3 10)<|.step (.slen 9)<|.step (.ci .i64 1) <|
 .step (.bin .add 2 13)<|.tail 11 [0, 1, 14, 11])
 (.step (.ci .i64 0)<|.ret [5, 3])
def d124 : PDef := .tree 6<|.step (.bin .lss 3 2)<|.ite 6
 (.step (.idx 1 3)<|.step (.at 2 1 7)<|.step (.cell 0 8)<|.step (.cell 1 8)<|.step (.ml [9])<|.step (.app 1 8 0 11)<|.step (.ci .i64 1)<|.step (.bin .add 3 13)<|.tail 124 [12, 1, 2, 14, 4, 5])
 (.step (.ci .i64 0)<|.ret [7, 0])
def d10 : PDef := .tree 4<|.step (.bin .lss 3 2)<|.ite 4
 (.step (.ci .u64 127)<|.step (.bin .and 0 5)<|.step (.conv .u8 6)<|.step (.ci .u8 128)<|.step (.bin .or 7 8)<|.step (.idx 1 3)<|.step (.upd 1 0 1 10 [9])<|.step (.ci .u64 7)<|.step (.bin .shr 0 12) <|
 .step (.ci .i64 1)<|.step (.bin .add 3 14)<|.tail 10 [13, 11, 2, 15])
 (.step (.ci .i64 0)<|.ret [5, 1])
def d5 : PDef := .tree 3<|.step (.bin .lss 2 1)<|.ite 3
 (.step (.at 2 0 2)<|.step (.cell 0 4)<|.step (.cell 1 4)<|.step (.slen 5)<|.step (.slen 6)<|.step (.bin .add 7 8)<|.step (.ci .i64 600)<|.step (.bin .gtr 9 10)<|.ite 11
 (.step (.ci .i64 0)<|.ret [12])
 (.step (.ci .i64 1)<|.step (.bin .add 2 12)<|.tail 5 [0, 1, 13]))
 (.step (.ci .i64 1)<|.ret [4])
def d100 : PDef := .tree 4<|.step (.bin .lss 3 2)<|.ite 4
 (.step (.at 5 0 3)<|.step (.cell 0 5)<|.step (.at 5 1 3)<|.step (.cell 0 7)<|.step (.bin .neq 6 8)<|.ite 9
 (.step (.ci .i64 0)<|.ret [10])
 (.step (.cell 1 5)<|.step (.cell 1 7)<|.step (.bin .neq 10 11)<|.ite 12
 (.step (.ci .i64 0)<|.ret [13])
 (.step (.cell 2 5)<|.step (.cell 2 7)<|.step (.bin .neq 13 14)<|.ite 15
 (.step (.ci .i64 0)<|.ret [16])
 (.step (.cell 3 5)<|.step (.cell 3 7)<|.step (.bin .neq 16 17)<|.ite 18
 (.step (.ci .i64 0)<|.ret [19])
 (.step (.cell 4 5)<|.step (.cell 4 7)<|.step (.call 99 [19, 20] 0)<|.step (.un .not 21)<|.ite 22
 (.step (.ci .i64 0)<|.ret [23])
 (.step (.ci .i64 1)<|.step (.bin .add 3 23)<|.tail 100 [0, 1, 2, 24]))))))
 (.step (.ci .i64 1)<|.ret [5])
def d34 : PDef := .tree 6<|.step (.bin .lss 3 2)<|.ite 6
 (.step (.at 2 1 3)<|.step (.cell 0 7)<|.step (.cell 1 7)<|.step (.bin .eql 8 0)<|.ite 10
 (.step (.bin .gtr 0 5)<|.ite 11
 (.step (.len 1)<|.step (.lsub 2 1 3 12)<|.step (.ci .i64 0)<|.ret [14, 13])
 (.step (.ci .i64 1)<|.step (.bin .add 3 12)<|.tail 34 [0, 1, 2, 13, 4, 5]))
 (.step (.ci .i64 1)<|.step (.bin .add 3 11)<|.tail 34 [0, 1, 2, 12, 4, 5]))
 (.step (.ci .i64 1)<|.ret [7])
def d21 : PDef := .tree 3<|.step (.bin .lss 2 1)<|.ite 3
 (.step (.at 2 0 2)<|.step (.cell 0 4)<|.step (.cell 1 4)<|.step (.mk [5, 6])<|.step (.call 22 [7] 0)<|.step (.ci .i64 0)<|.step (.bin .neq 8 9)<|.ite 10
 (.ret [9, 8])
 (.step (.bin .eql 2 9)<|.ite 11
 (.step (.ci .i64 1)<|.step (.bin .add 2 12)<|.tail 21 [0, 1, 13])
 (.step (.ci .i64 1)<|.step (.bin .sub 2 12)<|.step (.at 2 0 13)<|.step (.cell 0 14)<|.step (.bin .eql 5 15)<|.ite 16
 (.step (.ci .i64 14)<|.ret [9, 17])
 (.step (.bin .lss 5 15)<|.ite 17
 (.step (.ci .i64 7)<|.ret [9, 18])
 (.step (.bin .add 2 12)<|.tail 21 [0, 1, 18])))))
 (.step (.ci .i64 1)<|.ret [4])
def d18 : PDef := .tree 4<|.step (.bin .lss 3 2)<|.ite 4
 (.step (.at 2 1 3)<|.step (.cell 0 5)<|.step (.cell 1 5)<|.step (.mk [6, 7])<|.step (.call 19 [8] 0)<|.step (.ci .i64 0)<|.step (.bin .neq 9 10)<|.ite 11
 (.ret [10, 9])
 (.step (.call 6 [6] 0)<|.step (.bin .gtr 3 10)<|.ite 13
 (.step (.bin .eql 12 0)<|.ite 14
 (.step (.ci .i64 14)<|.ret [10, 15])
 (.step (.bin .lss 12 0)<|.ite 15
 (.step (.ci .i64 7)<|.ret [10, 16])
 (.step (.ci .i64 1)<|.step (.bin .add 3 16)<|.tail 18 [12, 1, 2, 17])))
 (.step (.ci .i64 1)<|.step (.bin .add 3 14)<|.tail 18 [12, 1, 2, 15])))
 (.step (.ci .i64 1)<|.ret [5])
def d45 : PDef := .tree 3<|.step (.len 0)<|.step (.bin .lss 2 3)<|.ite 4
 (.step (.ci .i64 0)<|.step (.bin .eql 1 5)<|.ite 6
 (.step (.at 2 0 2)<|.step (.cell 0 7)<|.step (.cell 1 7)<|.step (.mk [8, 9])<|.step (.call 46 [10] 0)<|.step (.bin .eql 11 5)<|.ite 12
 (.step (.bin .gtr 2 5)<|.ite 13
 (.step (.ci .i64 1)<|.step (.bin .sub 2 14)<|.step (.at 2 0 15)<|.step (.cell 0 16)<|.step (.cell 1 16)<|.step (.mk [17, 18])<|.step (.call 52 [19, 10] 0)<|.step (.bin .add 2 14) <|
 .tail 45 [0, 20, 21])
 (.step (.ci .i64 1)<|.step (.bin .add 2 14)<|.tail 45 [0, 11, 15]))
 (.step (.ci .i64 1)<|.step (.bin .add 2 13)<|.tail 45 [0, 11, 14]))
 (.ret [5, 1]))
 (.step (.ci .i64 0)<|.ret [5, 1])
def d74 : PDef := .tree 4<|.step (.bin .lss 3 2)<|.ite 4
 (.step (.at 2 0 3)<|.step (.cell 1 5)<|.step (.at 2 1 3)<|.step (.cell 1 7)<|.step (.bin .neq 6 8)<|.ite 9
 (.step (.ci .i64 0)<|.ret [10])
 (.step (.cell 0 5)<|.step (.len 10)<|.step (.cell 0 7)<|.step (.len 12)<|.step (.bin .neq 11 13)<|.ite 14
 (.step (.ci .i64 0)<|.ret [15])
 (.step (.ci .i64 0)<|.step (.call 75 [0, 1, 3, 2, 5, 10, 11, 7, 12, 13, 15] 0)<|.step (.bin .eql 16 15)<|.ite 17
 (.ret [15])
 (.step (.ci .i64 1)<|.step (.bin .add 3 18)<|.tail 74 [0, 1, 2, 19]))))
 (.step (.ci .i64 1)<|.ret [5])
def d9 : PDef := .tree 2<|.step (.ci .u64 128)<|.step (.bin .geq 0 2)<|.ite 3
 (.step (.ci .u64 7)<|.step (.bin .shr 0 4)<|.step (.ci .i64 1)<|.step (.bin .add 1 6)<|.tail 9 [5, 7])
 (.step (.ci .i64 0)<|.ret [4, 1])
def Ds : List PDef := [d0, d1, d2, d3, d4, d5, d6, d7, d8, d9, d10, d11, d12, .prim fun _ => none, .prim fun _ => none, .prim fun _ => none, d16, d17, d18, d19, d20, d21, d22, d23, d24, d25, d26, d27, d28, .prim fun _ => none, .prim fun _ => none, .prim fun _ => none, .prim fun _ => none, d33, d34, .prim fun _ => none, .prim fun _ => none, .prim fun _ => none, d38, d39, d40, d41, d42, d43, d44, d45, d46, d47, d48, d49, d50, d51, d52, d53, d54, d55, d56, d57, d58, d59, d60, d61, d62, d63, d64, d65, d66, d67, d68, d69, d70, d71, d72, d73, d74, d75, .prim fun _ => none, .prim fun _ => none, d78, d79, d80, d81, d82, d83, d84, d85, d86, d87, d88, d89, d90, d91, d92, d93, d94, d95, d96, d97, d98, d99, d100, d101, .prim fun _ => none, d103, d104, d105, d106, d107, d108, d109, .prim fun _ => none, d111, d112, d113, d114, d115, d116, d117, d118, d119, d120, d121, d122, d123, d124, d125, d126, d127, d128, d129]
noncomputable abbrev TT : PProg := TofL Ds
end
end X
end Go.Proofs.YtbcpbplkgknnmaaGreatDoor
