/- What functions and loops compute: trees of nodes, found by a driver. -/
import Derived.Test.YtlifdeocdbjalaaGreatDoorAbsJ
import Derived.Test.YtlifdeocdbjalaaGreatDoorAbsPl
import Derived.Test.YtlifdeocdbjalaaGreatDoorAbsTold
import Derived.Test.YtlifdeocdbjalaaGreatDoorAbsTold2
import Derived.Test.YtlifdeocdbjalaaGreatDoorAbsTold3
namespace Go.Proofs.YtlifdeocdbjalaaGreatDoor
open Go Go.Abs
set_option maxRecDepth 100000
set_option linter.unusedVariables false
set_option linter.unusedSimpArgs false
namespace Y
noncomputable section
def d42 : PDef := .fn [.sc, .sc] [.sc]<|.step (.len 0)<|.step (.len 1)<|.step (.bin .neq 2 3)<|.ite 4
 (.step (.cb false)<|.ret [5])
 (.step (.ci .i64 0)<|.step (.call 43 [1, 0, 2, 5] 0)<|.step (.bin .eql 6 5)<|.ite 7
 (.step (.cb false)<|.ret [8])
 (.step (.cb true)<|.ret [8]))
def d96 : PDef := .fn [.sc] [.sc]<|.step (.ci .i64 0)<|.step (.call 97 [0, 1] 0)<|.ret [2]
def d51 : PDef := .fn [.ag 2, .ag 2] [.ag 3, .sc]<|.step (.cell 0 0)<|.step (.cell 1 0)<|.step (.cell 0 1)<|.step (.cell 1 1)<|.step (.mk [2, 3])<|.step (.call 18 [6] 0)<|.step (.ci .i64 0) <|
 .step (.bin .neq 7 8)<|.ite 9
 (.step (.ci .u64 0)<|.step (.ml [])<|.step (.mk [10, 10, 11])<|.ret [12, 7])
 (.step (.mk [4, 5])<|.step (.call 18 [10] 0)<|.step (.bin .neq 11 8)<|.ite 12
 (.step (.ci .u64 0)<|.step (.ml [])<|.step (.mk [13, 13, 14])<|.ret [15, 11])
 (.step (.bin .leq 4 2)<|.ite 13
 (.step (.ci .u64 0)<|.step (.ml [])<|.step (.ci .i64 20)<|.step (.mk [14, 14, 15])<|.ret [17, 16])
 (.step (.call 52 [5, 3] 0)<|.step (.un .not 14)<|.ite 15
 (.step (.ci .u64 0)<|.step (.ml [])<|.step (.ci .i64 21)<|.step (.mk [16, 16, 17])<|.ret [19, 18])
 (.step (.len 5)<|.step (.ml [])<|.step (.call 55 [3, 5, 16, 8, 2, 4, 17] 0)<|.step (.call 55 [3, 5, 16, 8, 2, 4, 17] 1)<|.step (.mk [2, 4, 19])<|.ret [20, 8]))))
def d0 : PDef := .fn [.sc, .sc, .sc] [.sc]<|.step (.ci .u8 3)<|.step (.bin .rem 0 3)<|.step (.conv .i64 4)<|.step (.ci .i64 1)<|.step (.bin .add 5 6)<|.step (.bin .leq 6 7)<|.ite 8
 (.step (.ci .i64 3)<|.step (.bin .leq 7 9)<|.step (.un .not 10)<|.ite 11
 (.step (.cb false)<|.ret [12])
 (.step (.len 1)<|.step (.ci .i64 20)<|.step (.bin .gtr 12 13)<|.ite 14
 (.step (.cb true)<|.ret [15])
 (.step (.len 2)<|.step (.ci .i64 60)<|.step (.bin .gtr 15 16)<|.ite 17
 (.step (.cb true)<|.ret [18])
 (.step (.ci .u64 0)<|.step (.ci .i64 0)<|.step (.ml [])<|.step (.cb false)<|.step (.call 1 [2, 20, 20, 18, 1, 12, 19, 20, 7, 21, 20, 20, 18] 0)<|.step (.bin .eql 22 19)<|.ite 23
 (.step (.call 1 [2, 20, 20, 18, 1, 12, 19, 20, 7, 21, 20, 20, 18] 1)<|.ret [24])
 (.step (.call 1 [2, 20, 20, 18, 1, 12, 19, 20, 7, 21, 20, 20, 18] 1)<|.step (.call 1 [2, 20, 20, 18, 1, 12, 19, 20, 7, 21, 20, 20, 18] 2)<|.step (.call 1 [2, 20, 20, 18, 1, 12, 19, 20, 7, 21, 20, 20, 18] 3) <|
 .step (.call 1 [2, 20, 20, 18, 1, 12, 19, 20, 7, 21, 20, 20, 18] 4)<|.step (.call 1 [2, 20, 20, 18, 1, 12, 19, 20, 7, 21, 20, 20, 18] 5)<|.step (.call 106 [19, 7, 24, 25, 26, 27, 28] 0) <|
 .step (.call 106 [19, 7, 24, 25, 26, 27, 28] 1)<|.step (.call 106 [19, 7, 24, 25, 26, 27, 28] 2)<|.step (.call 106 [19, 7, 24, 25, 26, 27, 28] 3)<|.step (.call 106 [19, 7, 24, 25, 26, 27, 28] 4) <|
 .step (.call 106 [19, 7, 24, 25, 26, 27, 28] 5)<|.step (.call 39 [7, 30, 31, 32] 0)<|.step (.call 39 [7, 30, 31, 32] 1)<|.step (.call 39 [7, 30, 31, 32] 2)<|.step (.call 39 [7, 30, 31, 32] 3) <|
 .step (.call 48 [7, 33, 34] 0)<|.step (.call 48 [7, 33, 34] 1)<|.step (.call 48 [7, 33, 34] 2)<|.step (.call 48 [7, 33, 34] 3)<|.step (.binb .eql 38 42)<|.ite 43
 (.step (.un .not 38)<|.ite 44
 (.step (.cb true)<|.ret [45])
 (.step (.call 40 [40, 41, 36, 37] 0)<|.step (.call 40 [40, 41, 36, 37] 1)<|.ret [46]))
 (.ret [21]))))))
 (.step (.cb false)<|.ret [9])
abbrev d31 : PDef := .prim (cloneP 32 2)
def d66 : PDef := .fn [] [.sc]<|.step (.ci .u64 1)<|.step (.ci .i64 0)<|.step (.ci .i64 2)<|.step (.cs [98, 97, 115, 101])<|.step (.mk [0, 1, 2, 3])<|.step (.ci .u64 2)<|.step (.cs [101, 112, 111, 99, 104]) <|
 .step (.mk [5, 1, 2, 6])<|.step (.ci .u64 3)<|.step (.ci .i64 5)<|.step (.cs [116, 97, 98, 108, 101])<|.step (.mk [8, 9, 2, 10])<|.step (.ci .u64 4)<|.step (.ci .i64 3)<|.step (.cs [114, 101, 103, 105, 111, 110]) <|
 .step (.mk [12, 13, 2, 14])<|.step (.ci .u64 5)<|.step (.cs [100, 105, 103, 101, 115, 116])<|.step (.mk [16, 1, 13, 17])<|.step (.ml [4, 7, 11, 15, 18])<|.ret [19]
def d28 : PDef := .fn [.ag 3] [.sc]<|.step (.cell 0 0)<|.step (.cell 1 0)<|.step (.cell 2 0)<|.step (.bin .leq 2 1)<|.ite 4
 (.step (.ci .i64 20)<|.ret [5])
 (.step (.call 19 [3] 0)<|.ret [5])
def d13 : PDef := .fn [.ag 2] [.sc]<|.step (.cell 0 0)<|.step (.cell 1 0)<|.step (.slen 1)<|.step (.conv .u64 3)<|.step (.call 8 [4] 0)<|.step (.bin .add 5 1)<|.step (.slen 2)<|.step (.conv .u64 7) <|
 .step (.call 8 [8] 0)<|.step (.bin .add 6 9)<|.step (.bin .add 10 2)<|.ret [11]
def d36 : PDef := .fn [.ag 2] [.ag 2]<|.step (.cell 0 0)<|.step (.cell 1 0)<|.step (.len 2)<|.step (.ml [])<|.step (.ci .u64 0)<|.step (.mk [4, 5])<|.step (.ci .i64 0)<|.step (.rep 2 32 6 7 3) <|
 .step (.call 37 [2, 3, 7, 1, 8] 0)<|.step (.call 37 [2, 3, 7, 1, 8] 1)<|.step (.mk [1, 10])<|.ret [11]
def d18 : PDef := .fn [.ag 2] [.sc]<|.step (.cell 0 0)<|.step (.cell 1 0)<|.step (.call 19 [2] 0)<|.ret [3]
abbrev d34 : PDef := .prim add64P
def d25 : PDef := .fn [.sc, .sc, .sc] [.sc]<|.step (.slen 0)<|.step (.bin .lss 3 1)<|.ite 4
 (.step (.ci .i64 13)<|.ret [5])
 (.step (.bin .gtr 3 2)<|.ite 5
 (.step (.ci .i64 13)<|.ret [6])
 (.step (.call 26 [0] 0)<|.step (.un .not 6)<|.ite 7
 (.step (.ci .i64 11)<|.ret [8])
 (.step (.ci .i64 0)<|.ret [8])))
def d64 : PDef := .fn [] [.sc]<|.step (.ci .u64 1)<|.step (.ci .i64 0)<|.step (.ci .i64 1)<|.step (.cs [105, 100])<|.step (.mk [0, 1, 2, 3])<|.step (.ci .u64 2)<|.step (.cs [97, 108, 108, 111, 119, 101, 100]) <|
 .step (.mk [5, 2, 2, 6])<|.step (.ci .u64 3)<|.step (.ci .i64 2)<|.step (.cs [114, 101, 109, 97, 105, 110, 105, 110, 103])<|.step (.mk [8, 9, 2, 10])<|.step (.ci .u64 4)<|.step (.cs [114, 101, 116, 114, 121]) <|
 .step (.mk [12, 1, 9, 13])<|.step (.ci .u64 5)<|.step (.ci .i64 3)<|.step (.cs [110, 111, 116, 101])<|.step (.mk [15, 16, 16, 17])<|.step (.ml [4, 7, 11, 14, 18])<|.ret [19]
def d45 : PDef := .fn [.sc, .sc] [.sc]<|.step (.len 0)<|.step (.len 1)<|.step (.bin .neq 2 3)<|.ite 4
 (.step (.cb false)<|.ret [5])
 (.step (.ci .i64 0)<|.step (.call 46 [0, 1, 2, 5] 0)<|.step (.bin .eql 6 5)<|.ite 7
 (.step (.cb false)<|.ret [8])
 (.step (.cb true)<|.ret [8]))
def d3 : PDef := .fn [.sc] [.sc]<|.step (.len 0)<|.step (.ci .i64 0)<|.step (.call 4 [0, 1, 2] 0)<|.step (.bin .eql 3 2)<|.ite 4
 (.step (.cb false)<|.ret [5])
 (.step (.ci .i64 300)<|.step (.bin .leq 1 5)<|.ret [6])
abbrev d27 : PDef := .prim validP
def d32 : PDef := .fn [.sc, .sc] [.sc]<|.step (.call 7 [0] 0)<|.step (.call 7 [1] 0)<|.step (.call 33 [2, 3] 0)<|.ret [4]
def d59 : PDef := .fn [.sc, .sc] [.sc]<|.step (.ci .i64 0)<|.step (.bin .eql 0 2)<|.step (.ci .i64 1)<|.step (.bin .eql 0 4)<|.ite 5
 (.step (.bin .lss 1 4)<|.ite 6
 (.step (.ml [])<|.ret [7])
 (.step (.ci .i64 3)<|.step (.bin .gtr 1 7)<|.ite 8
 (.step (.ml [])<|.ret [9])
 (.step (.call 60 [] 0)<|.step (.len 9)<|.step (.ml [])<|.step (.call 61 [1, 11, 9, 10, 2] 0)<|.step (.call 61 [1, 11, 9, 10, 2] 1)<|.ret [13])))
 (.step (.ci .i64 2)<|.step (.bin .eql 0 6)<|.ite 7
 (.step (.bin .lss 1 4)<|.ite 8
 (.step (.ml [])<|.ret [9])
 (.step (.ci .i64 3)<|.step (.bin .gtr 1 9)<|.ite 10
 (.step (.ml [])<|.ret [11])
 (.step (.call 62 [] 0)<|.step (.len 11)<|.step (.ml [])<|.step (.call 61 [1, 13, 11, 12, 2] 0)<|.step (.call 61 [1, 13, 11, 12, 2] 1)<|.ret [15])))
 (.step (.ci .i64 3)<|.step (.bin .eql 0 8)<|.ite 9
 (.step (.bin .lss 1 4)<|.ite 10
 (.step (.ml [])<|.ret [11])
 (.step (.bin .gtr 1 8)<|.ite 11
 (.step (.ml [])<|.ret [12])
 (.step (.call 63 [] 0)<|.step (.len 12)<|.step (.ml [])<|.step (.call 61 [1, 14, 12, 13, 2] 0)<|.step (.call 61 [1, 14, 12, 13, 2] 1)<|.ret [16])))
 (.step (.ci .i64 4)<|.step (.bin .eql 0 10)<|.ite 11
 (.step (.bin .lss 1 4)<|.ite 12
 (.step (.ml [])<|.ret [13])
 (.step (.bin .gtr 1 8)<|.ite 13
 (.step (.ml [])<|.ret [14])
 (.step (.call 64 [] 0)<|.step (.len 14)<|.step (.ml [])<|.step (.call 61 [1, 16, 14, 15, 2] 0)<|.step (.call 61 [1, 16, 14, 15, 2] 1)<|.ret [18])))
 (.step (.ci .i64 5)<|.step (.bin .eql 0 12)<|.ite 13
 (.step (.bin .lss 1 4)<|.ite 14
 (.step (.ml [])<|.ret [15])
 (.step (.bin .gtr 1 8)<|.ite 15
 (.step (.ml [])<|.ret [16])
 (.step (.call 65 [] 0)<|.step (.len 16)<|.step (.ml [])<|.step (.call 61 [1, 18, 16, 17, 2] 0)<|.step (.call 61 [1, 18, 16, 17, 2] 1)<|.ret [20])))
 (.step (.ci .i64 6)<|.step (.bin .eql 0 14)<|.ite 15
 (.step (.bin .lss 1 6)<|.ite 16
 (.step (.ml [])<|.ret [17])
 (.step (.bin .gtr 1 8)<|.ite 17
 (.step (.ml [])<|.ret [18])
 (.step (.call 66 [] 0)<|.step (.len 18)<|.step (.ml [])<|.step (.call 61 [1, 20, 18, 19, 2] 0)<|.step (.call 61 [1, 20, 18, 19, 2] 1)<|.ret [22])))
 (.step (.ci .i64 7)<|.step (.bin .eql 0 16)<|.ite 17
 (.step (.bin .lss 1 4)<|.ite 18
 (.step (.ml [])<|.ret [19])
 (.step (.bin .gtr 1 8)<|.ite 19
 (.step (.ml [])<|.ret [20])
 (.step (.call 67 [] 0)<|.step (.len 20)<|.step (.ml [])<|.step (.call 61 [1, 22, 20, 21, 2] 0)<|.step (.call 61 [1, 22, 20, 21, 2] 1)<|.ret [24])))
 (.step (.ci .i64 8)<|.step (.bin .eql 0 18)<|.ite 19
 (.step (.bin .lss 1 4)<|.ite 20
 (.step (.ml [])<|.ret [21])
 (.step (.bin .gtr 1 8)<|.ite 21
 (.step (.ml [])<|.ret [22])
 (.step (.call 68 [] 0)<|.step (.len 22)<|.step (.ml [])<|.step (.call 61 [1, 24, 22, 23, 2] 0)<|.step (.call 61 [1, 24, 22, 23, 2] 1)<|.ret [26])))
 (.step (.ml [])<|.ret [20]))))))))
def d52 : PDef := .fn [.sc, .sc] [.sc]<|.step (.len 1)<|.step (.ci .i64 0)<|.step (.call 53 [0, 3, 1, 2, 3] 0)<|.step (.bin .eql 4 3)<|.ite 5
 (.step (.cb false)<|.ret [6])
 (.step (.cb true)<|.ret [6])
def d22 : PDef := .fn [.sc] [.sc]<|.step (.len 0)<|.step (.conv .u64 1)<|.step (.ci .u64 0)<|.step (.bin .eql 2 3)<|.ite 4
 (.step (.ci .i64 12)<|.ret [5])
 (.step (.ci .u64 16)<|.step (.bin .gtr 2 5)<|.ite 6
 (.step (.ci .i64 13)<|.ret [7])
 (.step (.ci .i64 0)<|.step (.call 23 [0, 1, 7] 0)<|.step (.bin .eql 8 7)<|.ite 9
 (.step (.call 23 [0, 1, 7] 1)<|.ret [10])
 (.ret [7])))
def d21 : PDef := .fn [.ag 2] [.sc]<|.step (.cell 0 0)<|.step (.cell 1 0)<|.step (.call 22 [1] 0)<|.step (.ci .i64 0)<|.step (.bin .neq 3 4)<|.ite 5
 (.ret [3])
 (.step (.ci .u64 0)<|.step (.bin .eql 2 6)<|.ite 7
 (.step (.ci .i64 18)<|.ret [8])
 (.ret [4]))
def d26 : PDef := .fn [.sc] [.sc]<|.step (.call 27 [0] 0)<|.ret [1]
def d67 : PDef := .fn [] [.sc]<|.step (.ci .u64 1)<|.step (.ci .i64 0)<|.step (.ci .i64 1)<|.step (.cs [101, 112, 111, 99, 104])<|.step (.mk [0, 1, 2, 3])<|.step (.ci .u64 2)<|.step (.ci .i64 3) <|
 .step (.cs [108, 97, 103])<|.step (.mk [5, 1, 6, 7])<|.step (.ml [4, 8])<|.ret [9]
def d29 : PDef := .fn [.sc, .sc] [.sc, .sc]<|.step (.len 0)<|.step (.len 1)<|.step (.bin .add 2 3)<|.step (.ml [])<|.step (.ci .u64 0)<|.step (.mk [5, 6])<|.step (.ci .i64 0)<|.step (.rep 2 32 7 8 4) <|
 .step (.call 30 [0, 1, 9] 0)<|.step (.bin .eql 10 8)<|.ite 11
 (.step (.ci .i64 3)<|.ret [5, 12])
 (.step (.call 30 [0, 1, 9] 1)<|.step (.len 12)<|.step (.ci .i64 256)<|.step (.bin .gtr 13 14)<|.ite 15
 (.step (.ci .i64 13)<|.ret [5, 16])
 (.ret [12, 8]))
def d24 : PDef := .fn [.ag 2] [.sc]<|.step (.cell 0 0)<|.step (.cell 1 0)<|.step (.ci .i64 1)<|.step (.ci .i64 64)<|.step (.call 25 [1, 3, 4] 0)<|.step (.ci .i64 0)<|.step (.bin .neq 5 6) <|
 .ite 7
 (.ret [5])
 (.step (.ci .i64 256)<|.step (.call 25 [2, 6, 8] 0)<|.ret [9])
def d17 : PDef := .fn [.ag 2, .ag 3] [.ag 2, .sc]<|.step (.cell 0 0)<|.step (.cell 1 0)<|.step (.cell 0 1)<|.step (.cell 1 1)<|.step (.cell 2 1)<|.step (.mk [2, 3])<|.step (.call 18 [7] 0) <|
 .step (.ci .i64 0)<|.step (.bin .neq 8 9)<|.ite 10
 (.step (.ci .u64 0)<|.step (.ml [])<|.step (.mk [11, 12])<|.ret [13, 8])
 (.step (.mk [4, 5, 6])<|.step (.call 28 [11] 0)<|.step (.bin .neq 12 9)<|.ite 13
 (.step (.ci .u64 0)<|.step (.ml [])<|.step (.mk [14, 15])<|.ret [16, 12])
 (.step (.bin .neq 2 4)<|.ite 14
 (.step (.ci .u64 0)<|.step (.ml [])<|.step (.ci .i64 19)<|.step (.mk [15, 16])<|.ret [18, 17])
 (.step (.call 29 [3, 6] 0)<|.step (.call 29 [3, 6] 1)<|.step (.bin .neq 16 9)<|.ite 17
 (.step (.ci .u64 0)<|.step (.ml [])<|.step (.mk [18, 19])<|.ret [20, 16])
 (.step (.mk [5, 15])<|.ret [18, 9]))))
def d2 : PDef := .fn [.ag 5] [.sc]<|.step (.cell 0 0)<|.step (.cell 1 0)<|.step (.cell 2 0)<|.step (.cell 3 0)<|.step (.cell 4 0)<|.step (.call 3 [3] 0)<|.ret [6]
abbrev d70 : PDef := .prim namesP
def d7 : PDef := .fn [.sc] [.sc]<|.step (.len 0)<|.step (.conv .u64 1)<|.step (.call 8 [2] 0)<|.step (.bytes 3)<|.step (.ml [])<|.step (.app 1 1 5 4)<|.step (.slen 3)<|.step (.ci .i64 0) <|
 .step (.call 12 [0, 1, 8, 6] 0)<|.step (.call 12 [0, 1, 8, 6] 1)<|.step (.len 10)<|.step (.str 10)<|.ret [12]
def d41 : PDef := .fn [.sc, .sc] [.sc]<|.step (.call 42 [0, 1] 0)<|.ret [2]
def d63 : PDef := .fn [] [.sc]<|.step (.ci .u64 1)<|.step (.ci .i64 0)<|.step (.ci .i64 1)<|.step (.cs [105, 100])<|.step (.mk [0, 1, 2, 3])<|.step (.ci .u64 2)<|.step (.ci .i64 4) <|
 .step (.cs [100, 101, 115, 99, 114])<|.step (.mk [5, 6, 2, 7])<|.step (.ci .u64 3)<|.step (.cs [99, 111, 115, 116])<|.step (.mk [9, 1, 2, 10])<|.step (.ci .u64 4)<|.step (.ci .i64 2) <|
 .step (.cs [112, 114, 105, 111, 114, 105, 116, 121])<|.step (.mk [12, 1, 13, 14])<|.step (.ci .u64 5)<|.step (.ci .i64 3)<|.step (.cs [100, 101, 97, 100, 108, 105, 110, 101])<|.step (.mk [16, 1, 17, 18]) <|
 .step (.ml [4, 8, 11, 15, 19])<|.ret [20]
def d60 : PDef := .fn [] [.sc]<|.step (.ci .u64 1)<|.step (.ci .i64 0)<|.step (.ci .i64 1)<|.step (.cs [109, 105, 110])<|.step (.mk [0, 1, 2, 3])<|.step (.ci .u64 2)<|.step (.cs [109, 97, 120]) <|
 .step (.mk [5, 1, 2, 6])<|.step (.ci .u64 3)<|.step (.ci .i64 3)<|.step (.cs [110, 97, 109, 101])<|.step (.mk [8, 9, 2, 10])<|.step (.ci .u64 4)<|.step (.ci .i64 2)<|.step (.cs [114, 101, 103, 105, 111, 110]) <|
 .step (.mk [12, 9, 13, 14])<|.step (.ci .u64 5)<|.step (.cs [102, 108, 97, 103, 115])<|.step (.mk [16, 1, 9, 17])<|.step (.ml [4, 7, 11, 15, 18])<|.ret [19]
def d57 : PDef := .fn [.ag 24, .sc] [.sc]<|.step (.cell 0 0)<|.step (.cell 1 0)<|.step (.cell 2 0)<|.step (.cell 3 0)<|.step (.cell 4 0)<|.step (.cell 5 0)<|.step (.cell 6 0)<|.step (.cell 7 0) <|
 .step (.cell 8 0)<|.step (.cell 9 0)<|.step (.cell 10 0)<|.step (.cell 11 0)<|.step (.cell 12 0)<|.step (.cell 13 0)<|.step (.cell 14 0)<|.step (.cell 15 0)<|.step (.cell 16 0) <|
 .step (.cell 17 0)<|.step (.cell 18 0)<|.step (.cell 19 0)<|.step (.cell 20 0)<|.step (.cell 21 0)<|.step (.cell 22 0)<|.step (.cell 23 0)<|.step (.ci .i64 1)<|.step (.bin .lss 1 26) <|
 .ite 27
 (.step (.ci .i64 16)<|.ret [28])
 (.step (.ci .i64 3)<|.step (.bin .gtr 1 28)<|.ite 29
 (.step (.ci .i64 16)<|.ret [30])
 (.step (.call 58 [2] 0)<|.step (.ci .i64 0)<|.step (.bin .eql 30 31)<|.ite 32
 (.step (.ci .i64 15)<|.ret [33])
 (.step (.bin .gtr 30 1)<|.ite 33
 (.step (.ci .i64 15)<|.ret [34])
 (.step (.call 59 [2, 1] 0)<|.step (.len 34)<|.step (.ml [])<|.step (.call 69 [34, 35, 31, 36, 2, 3, 4, 5, 6, 7, 8, 9, 10, 11, 12, 13, 14, 15, 16, 17, 18, 19, 20, 21, 22, 23, 24, 25] 0) <|
 .step (.call 69 [34, 35, 31, 36, 2, 3, 4, 5, 6, 7, 8, 9, 10, 11, 12, 13, 14, 15, 16, 17, 18, 19, 20, 21, 22, 23, 24, 25] 1)<|.step (.call 70 [] 0)<|.step (.len 39)<|.step (.call 71 [34, 39, 40, 31, 38, 2, 3, 4, 5, 6, 7, 8, 9, 10, 11, 12, 13, 14, 15, 16, 17, 18, 19, 20, 21, 22, 23, 24, 25] 0) <|
 .step (.bin .eql 41 31)<|.ite 42
 (.step (.ci .i64 26)<|.ret [43])
 (.step (.call 72 [34, 35, 31, 2, 3, 4, 5, 6, 7, 8, 9, 10, 11, 12, 13, 14, 15, 16, 17, 18, 19, 20, 21, 22, 23, 24, 25] 0)<|.step (.bin .eql 43 31)<|.ite 44
 (.step (.call 72 [34, 35, 31, 2, 3, 4, 5, 6, 7, 8, 9, 10, 11, 12, 13, 14, 15, 16, 17, 18, 19, 20, 21, 22, 23, 24, 25] 1)<|.ret [45])
 (.step (.bin .eql 2 26)<|.ite 45
 (.step (.ci .u64 1)<|.step (.bin .lss 4 46)<|.ite 47
 (.step (.ci .i64 18)<|.ret [48])
 (.step (.bin .lss 5 4)<|.ite 48
 (.step (.ci .i64 18)<|.ret [49])
 (.step (.ci .u64 255)<|.step (.bin .gtr 5 49)<|.ite 50
 (.step (.ci .i64 18)<|.ret [51])
 (.step (.call 96 [25] 0)<|.step (.bin .neq 51 31)<|.ite 52
 (.ret [51])
 (.step (.len 25)<|.step (.call 99 [34, 25, 53, 31] 0)<|.step (.bin .eql 54 31)<|.ite 55
 (.step (.ci .i64 14)<|.ret [56])
 (.ret [31]))))))
 (.step (.ci .i64 2)<|.step (.bin .eql 2 46)<|.ite 47
 (.step (.ci .u64 1)<|.step (.bin .lss 6 48)<|.ite 49
 (.step (.ci .i64 18)<|.ret [50])
 (.step (.ci .u64 255)<|.step (.bin .gtr 6 50)<|.ite 51
 (.step (.ci .i64 18)<|.ret [52])
 (.step (.call 96 [25] 0)<|.step (.bin .neq 52 31)<|.ite 53
 (.ret [52])
 (.step (.len 25)<|.step (.call 99 [34, 25, 54, 31] 0)<|.step (.bin .eql 55 31)<|.ite 56
 (.step (.ci .i64 14)<|.ret [57])
 (.ret [31])))))
 (.step (.bin .eql 2 28)<|.ite 48
 (.step (.len 23)<|.step (.bin .eql 49 31)<|.ite 50
 (.step (.ci .i64 12)<|.ret [51])
 (.step (.call 96 [25] 0)<|.step (.bin .neq 51 31)<|.ite 52
 (.ret [51])
 (.step (.len 25)<|.step (.call 99 [34, 25, 53, 31] 0)<|.step (.bin .eql 54 31)<|.ite 55
 (.step (.ci .i64 14)<|.ret [56])
 (.ret [31]))))
 (.step (.ci .i64 5)<|.step (.bin .eql 2 49)<|.ite 50
 (.step (.ci .u64 1)<|.step (.bin .lss 12 51)<|.ite 52
 (.step (.ci .i64 18)<|.ret [53])
 (.step (.call 96 [25] 0)<|.step (.bin .neq 53 31)<|.ite 54
 (.ret [53])
 (.step (.len 25)<|.step (.call 99 [34, 25, 55, 31] 0)<|.step (.bin .eql 56 31)<|.ite 57
 (.step (.ci .i64 14)<|.ret [58])
 (.ret [31]))))
 (.step (.ci .i64 6)<|.step (.bin .eql 2 51)<|.ite 52
 (.step (.ci .u64 1)<|.step (.bin .lss 13 53)<|.ite 54
 (.step (.ci .i64 18)<|.ret [55])
 (.step (.bin .leq 12 13)<|.ite 55
 (.step (.ci .i64 20)<|.ret [56])
 (.step (.call 96 [25] 0)<|.step (.bin .neq 56 31)<|.ite 57
 (.ret [56])
 (.step (.len 25)<|.step (.call 99 [34, 25, 58, 31] 0)<|.step (.bin .eql 59 31)<|.ite 60
 (.step (.ci .i64 14)<|.ret [61])
 (.ret [31])))))
 (.step (.call 96 [25] 0)<|.step (.bin .neq 53 31)<|.ite 54
 (.ret [53])
 (.step (.len 25)<|.step (.call 99 [34, 25, 55, 31] 0)<|.step (.bin .eql 56 31)<|.ite 57
 (.step (.ci .i64 14)<|.ret [58])
 (.ret [31])))))))))))))
def d8 : PDef := .fn [.sc] [.sc]<|.step (.call 9 [0] 0)<|.step (.ci .u8 0)<|.step (.rep 1 1 2 1 1)<|.step (.len 3)<|.step (.ci .i64 0)<|.step (.call 11 [0, 3, 4, 5] 0)<|.step (.call 11 [0, 3, 4, 5] 1) <|
 .step (.len 7)<|.step (.ci .i64 1)<|.step (.bin .sub 8 9)<|.step (.idx 7 10)<|.step (.at 1 7 11)<|.step (.cell 0 12)<|.step (.ci .u8 127)<|.step (.bin .and 13 14)<|.step (.upd 1 0 7 11 [15]) <|
 .step (.str 16)<|.ret [17]
def d97 : PDef := .fn [.sc, .sc] [.sc]<|.step (.len 0)<|.step (.ci .u64 0)<|.step (.ci .i64 0)<|.step (.call 98 [1, 3, 0, 2, 4] 0)<|.step (.bin .eql 5 4)<|.ite 6
 (.step (.call 98 [1, 3, 0, 2, 4] 1)<|.ret [7])
 (.ret [4])
def d68 : PDef := .fn [] [.sc]<|.step (.ci .u64 1)<|.step (.ci .i64 0)<|.step (.ci .i64 1)<|.step (.cs [101, 112, 111, 99, 104])<|.step (.mk [0, 1, 2, 3])<|.step (.ci .u64 2)<|.step (.cs [99, 111, 100, 101]) <|
 .step (.mk [5, 1, 2, 6])<|.step (.ci .u64 3)<|.step (.ci .i64 2)<|.step (.cs [119, 97, 110, 116])<|.step (.mk [8, 1, 9, 10])<|.step (.ci .u64 4)<|.step (.ci .i64 3)<|.step (.cs [110, 111, 116, 101]) <|
 .step (.mk [12, 13, 13, 14])<|.step (.ml [4, 7, 11, 15])<|.ret [16]
def d62 : PDef := .fn [] [.sc]<|.step (.ci .u64 1)<|.step (.ci .i64 0)<|.step (.ci .i64 1)<|.step (.cs [99, 104, 111, 115, 101, 110])<|.step (.mk [0, 1, 2, 3])<|.step (.ci .u64 2) <|
 .step (.ci .i64 3)<|.step (.cs [110, 97, 109, 101])<|.step (.mk [5, 6, 2, 7])<|.step (.ci .u64 3)<|.step (.ci .i64 2)<|.step (.cs [114, 101, 103, 105, 111, 110])<|.step (.mk [9, 6, 10, 11]) <|
 .step (.ml [4, 8, 12])<|.ret [13]
def d5 : PDef := .fn [.sc] [.sc]<|.step (.len 0)<|.step (.ci .i64 0)<|.step (.call 6 [0, 1, 2] 0)<|.step (.bin .eql 3 2)<|.ite 4
 (.step (.cb false)<|.ret [5])
 (.step (.ci .i64 40)<|.step (.bin .leq 1 5)<|.ret [6])
def d19 : PDef := .fn [.sc] [.sc]<|.step (.len 0)<|.step (.ci .i64 256)<|.step (.bin .gtr 1 2)<|.ite 3
 (.step (.ci .i64 13)<|.ret [4])
 (.step (.cs [])<|.step (.ci .i64 0)<|.step (.call 20 [4, 0, 1, 5] 0)<|.step (.bin .eql 6 5)<|.ite 7
 (.step (.call 20 [4, 0, 1, 5] 1)<|.ret [8])
 (.ret [5]))
abbrev d33 : PDef := .prim cmpP
def d58 : PDef := .fn [.sc] [.sc]<|.step (.ci .i64 0)<|.step (.bin .eql 0 1)<|.step (.ci .i64 1)<|.step (.bin .eql 0 3)<|.ite 4
 (.ret [3])
 (.step (.ci .i64 2)<|.step (.bin .eql 0 5)<|.ite 6
 (.ret [3])
 (.step (.ci .i64 3)<|.step (.bin .eql 0 7)<|.ite 8
 (.ret [3])
 (.step (.ci .i64 4)<|.step (.bin .eql 0 9)<|.ite 10
 (.ret [3])
 (.step (.ci .i64 5)<|.step (.bin .eql 0 11)<|.ite 12
 (.ret [3])
 (.step (.ci .i64 6)<|.step (.bin .eql 0 13)<|.ite 14
 (.ret [5])
 (.step (.ci .i64 7)<|.step (.bin .eql 0 15)<|.ite 16
 (.ret [3])
 (.step (.ci .i64 8)<|.step (.bin .eql 0 17)<|.ite 18
 (.ret [3])
 (.ret [1]))))))))
def d65 : PDef := .fn [] [.sc]<|.step (.ci .u64 1)<|.step (.ci .i64 0)<|.step (.ci .i64 1)<|.step (.cs [101, 112, 111, 99, 104])<|.step (.mk [0, 1, 2, 3])<|.step (.ci .u64 2)<|.step (.ci .i64 5) <|
 .step (.cs [116, 97, 98, 108, 101])<|.step (.mk [5, 6, 2, 7])<|.step (.ci .u64 3)<|.step (.ci .i64 3)<|.step (.ci .i64 2)<|.step (.cs [114, 101, 103, 105, 111, 110])<|.step (.mk [9, 10, 11, 12]) <|
 .step (.ci .u64 4)<|.step (.cs [100, 105, 103, 101, 115, 116])<|.step (.mk [14, 1, 10, 15])<|.step (.ml [4, 8, 13, 16])<|.ret [17]
def d44 : PDef := .fn [.ag 2, .ag 2] [.sc]<|.step (.cell 0 0)<|.step (.cell 1 0)<|.step (.cell 0 1)<|.step (.cell 1 1)<|.step (.bin .eql 3 5)<|.ite 6
 (.step (.call 45 [2, 4] 0)<|.ret [7])
 (.step (.cb false)<|.ret [7])
def d9 : PDef := .fn [.sc] [.sc]<|.step (.ci .i64 1)<|.step (.call 10 [0, 1] 0)<|.step (.call 10 [0, 1] 1)<|.ret [3]
def d105 : PDef := .tree 5<|.step (.mk [0, 1])<|.step (.call 18 [5] 0)<|.step (.ci .i64 0)<|.step (.bin .neq 6 7)<|.ite 8
 (.ret [7, 6, 3, 4])
 (.step (.ci .u64 0)<|.step (.bin .eql 0 9)<|.ite 10
 (.step (.ci .i64 18)<|.ret [7, 11, 3, 4])
 (.step (.len 3)<|.step (.bin .gtr 11 7)<|.ite 12
 (.step (.ci .i64 1)<|.step (.bin .sub 11 13)<|.step (.idx 3 14)<|.step (.at 2 3 15)<|.step (.cell 0 16)<|.step (.cell 1 16)<|.step (.bin .leq 0 17)<|.ite 19
 (.step (.ci .i64 20)<|.ret [7, 20, 3, 4])
 (.step (.call 52 [1, 18] 0)<|.step (.un .not 20)<|.ite 21
 (.step (.ci .i64 21)<|.ret [7, 22, 3, 4])
 (.step (.call 36 [5] 0)<|.step (.cell 0 22)<|.step (.cell 1 22)<|.step (.mk [23, 24])<|.step (.ml [25])<|.step (.app 2 32 3 26)<|.step (.len 27)<|.step (.ci .i64 8)<|.step (.bin .gtr 28 29) <|
 .ite 30
 (.step (.idx 27 7)<|.step (.at 2 27 31)<|.step (.cell 0 32)<|.step (.bin .eql 33 4)<|.ite 34
 (.step (.lsub 2 27 13 28)<|.step (.ml [])<|.step (.app 2 32 36 35)<|.ret [7, 7, 37, 9])
 (.step (.lsub 2 27 13 28)<|.step (.ml [])<|.step (.app 2 32 36 35)<|.ret [7, 7, 37, 4]))
 (.ret [7, 7, 27, 4]))))
 (.step (.call 36 [5] 0)<|.step (.cell 0 13)<|.step (.cell 1 13)<|.step (.mk [14, 15])<|.step (.ml [16])<|.step (.app 2 32 3 17)<|.step (.len 18)<|.step (.ci .i64 8)<|.step (.bin .gtr 19 20) <|
 .ite 21
 (.step (.idx 18 7)<|.step (.at 2 18 22)<|.step (.cell 0 23)<|.step (.bin .eql 24 4)<|.ite 25
 (.step (.ci .i64 1)<|.step (.lsub 2 18 26 19)<|.step (.ml [])<|.step (.app 2 32 28 27)<|.ret [7, 7, 29, 9])
 (.step (.ci .i64 1)<|.step (.lsub 2 18 26 19)<|.step (.ml [])<|.step (.app 2 32 28 27)<|.ret [7, 7, 29, 4]))
 (.ret [7, 7, 18, 4]))))
def d104 : PDef := .tree 8<|.step (.call 48 [5, 6, 7] 0)<|.step (.call 48 [5, 6, 7] 1)<|.step (.call 48 [5, 6, 7] 2)<|.step (.call 48 [5, 6, 7] 3)<|.step (.bin .add 9 3)<|.step (.mk [9, 10]) <|
 .step (.mk [9, 12, 2])<|.step (.call 17 [13, 14] 0)<|.step (.cell 0 15)<|.step (.cell 1 15)<|.step (.call 17 [13, 14] 1)<|.step (.ci .i64 0)<|.step (.bin .neq 18 19)<|.ite 20
 (.ret [19, 1, 2])
 (.ret [19, 16, 17])
def d103 : PDef := .tree 8<|.step (.call 104 [0, 1, 2, 3, 4, 5, 6, 7] 0)<|.step (.call 104 [0, 1, 2, 3, 4, 5, 6, 7] 1)<|.step (.call 104 [0, 1, 2, 3, 4, 5, 6, 7] 2)<|.step (.ci .i64 0) <|
 .ret [11, 9, 10]
def d102 : PDef := .tree 4<|.step (.bin .leq 0 3)<|.ite 4
 (.step (.cb false)<|.step (.ci .i64 0)<|.ret [6, 5, 2, 3])
 (.step (.call 49 [0, 1, 2, 3] 0)<|.step (.call 49 [0, 1, 2, 3] 1)<|.step (.call 49 [0, 1, 2, 3] 2)<|.step (.un .not 7)<|.ite 8
 (.step (.cb false)<|.step (.ci .i64 0)<|.ret [10, 9, 2, 3])
 (.step (.len 2)<|.step (.lsub 2 2 6 9)<|.step (.ml [])<|.step (.app 2 32 11 10)<|.step (.cb true)<|.step (.ci .i64 0)<|.ret [14, 13, 12, 0]))
def d101 : PDef := .tree 27<|.step (.ci .i64 7)<|.step (.bin .eql 0 27)<|.ite 28
 (.step (.call 102 [10, 24, 25, 26] 0)<|.step (.call 102 [10, 24, 25, 26] 1)<|.step (.call 102 [10, 24, 25, 26] 2)<|.step (.call 102 [10, 24, 25, 26] 3)<|.step (.ci .i64 0)<|.ret [33, 31, 32])
 (.step (.ci .i64 8)<|.step (.bin .eql 0 29)<|.ite 30
 (.step (.ci .u64 0)<|.step (.ci .i64 0)<|.ret [32, 25, 31])
 (.step (.ci .i64 0)<|.ret [31, 25, 26]))
def d95 : PDef := .tree 0<|.step (.ci .i64 0)<|.ret [0]
def d94 : PDef := .tree 24<|.step (.ci .i64 0)<|.ret [24]
def d93 : PDef := .tree 24<|.step (.ci .i64 0)<|.ret [24]
def d92 : PDef := .tree 24<|.step (.ci .i64 0)<|.ret [24]
def d91 : PDef := .tree 24<|.step (.ci .i64 0)<|.ret [24]
def d90 : PDef := .tree 24<|.step (.ci .i64 0)<|.ret [24]
def d89 : PDef := .tree 24<|.step (.ci .i64 0)<|.ret [24]
def d88 : PDef := .tree 24<|.step (.ci .i64 0)<|.ret [24]
def d87 : PDef := .tree 24<|.step (.ci .i64 0)<|.ret [24]
def d86 : PDef := .tree 24<|.step (.ci .i64 0)<|.ret [24]
def d85 : PDef := .tree 24<|.step (.ci .i64 0)<|.ret [24]
def d84 : PDef := .tree 24<|.step (.ci .i64 0)<|.ret [24]
def d83 : PDef := .tree 24<|.step (.ci .i64 0)<|.ret [24]
def d82 : PDef := .tree 24<|.step (.ci .i64 0)<|.ret [24]
def d81 : PDef := .tree 24<|.step (.ci .i64 0)<|.ret [24]
def d80 : PDef := .tree 24<|.step (.ci .i64 0)<|.ret [24]
def d79 : PDef := .tree 24<|.step (.call 19 [22] 0)<|.step (.ci .i64 0)<|.ret [25, 24]
def d78 : PDef := .tree 24<|.step (.len 21)<|.step (.ci .i64 0)<|.step (.bin .gtr 24 25)<|.ite 26
 (.step (.call 22 [21] 0)<|.ret [25, 27])
 (.ret [25, 25])
def d77 : PDef := .tree 24<|.step (.ci .i64 0)<|.step (.ci .i64 256)<|.step (.call 25 [20, 24, 25] 0)<|.ret [24, 26]
def d76 : PDef := .tree 24<|.step (.ci .i64 0)<|.step (.ci .i64 256)<|.step (.call 25 [19, 24, 25] 0)<|.ret [24, 26]
def d75 : PDef := .tree 24<|.step (.ci .i64 0)<|.step (.ci .i64 256)<|.step (.call 25 [18, 24, 25] 0)<|.ret [24, 26]
def d74 : PDef := .tree 24<|.step (.ci .i64 0)<|.ret [24]
def d73 : PDef := .tree 24<|.step (.ci .i64 0)<|.ret [24]
def d56 : PDef := .tree 28<|.step (.mk [0, 1, 2, 3, 4, 5, 6, 7, 8, 9, 10, 11, 12, 13, 14, 15, 16, 17, 18, 19, 20, 21, 22, 23])<|.step (.call 57 [28, 24] 0)<|.step (.ci .i64 0)<|.step (.bin .neq 29 30) <|
 .ite 31
 (.step (.ci .u64 0)<|.ret [30, 30, 32, 32, 32, 29, 25, 26, 27])
 (.step (.ci .i64 5)<|.step (.bin .neq 0 32)<|.ite 33
 (.step (.ci .i64 6)<|.step (.bin .neq 0 34)<|.ite 35
 (.step (.ci .u64 0)<|.step (.ci .i64 15)<|.ret [30, 30, 36, 36, 36, 37, 25, 26, 27])
 (.ite 25
 (.step (.bin .leq 10 26)<|.ite 36
 (.step (.ci .i64 7)<|.step (.ci .u64 0)<|.step (.ci .i64 20)<|.ret [30, 37, 26, 38, 38, 39, 25, 26, 27])
 (.step (.bin .eql 0 32)<|.step (.mk [26, 27])<|.step (.mk [11, 10, 22])<|.step (.call 17 [38, 39] 0)<|.step (.cell 0 40)<|.step (.cell 1 40)<|.step (.call 17 [38, 39] 1)<|.step (.bin .neq 43 30) <|
 .ite 44
 (.step (.conv .u64 43)<|.step (.ci .i64 2)<|.step (.bin .geq 24 46)<|.ite 47
 (.step (.ci .i64 8)<|.ret [30, 48, 10, 45, 26, 43, 25, 26, 27])
 (.step (.ci .i64 8)<|.step (.ci .u64 0)<|.ret [30, 48, 10, 45, 49, 43, 25, 26, 27]))
 (.step (.ci .i64 7)<|.step (.ci .u64 0)<|.step (.cb true)<|.ret [30, 45, 41, 46, 46, 30, 47, 41, 42])))
 (.step (.bin .eql 0 32)<|.step (.mk [26, 27])<|.step (.mk [11, 10, 22])<|.step (.call 17 [37, 38] 0)<|.step (.cell 0 39)<|.step (.cell 1 39)<|.step (.call 17 [37, 38] 1)<|.step (.bin .neq 42 30) <|
 .ite 43
 (.step (.conv .u64 42)<|.step (.ci .i64 2)<|.step (.bin .geq 24 45)<|.ite 46
 (.step (.ci .i64 8)<|.ret [30, 47, 10, 44, 26, 42, 25, 26, 27])
 (.step (.ci .i64 8)<|.step (.ci .u64 0)<|.ret [30, 47, 10, 44, 48, 42, 25, 26, 27]))
 (.step (.ci .i64 7)<|.step (.ci .u64 0)<|.step (.cb true)<|.ret [30, 44, 40, 45, 45, 30, 46, 40, 41]))))
 (.ite 25
 (.step (.bin .leq 10 26)<|.ite 34
 (.step (.ci .i64 7)<|.step (.ci .u64 0)<|.step (.ci .i64 20)<|.ret [30, 35, 26, 36, 36, 37, 25, 26, 27])
 (.step (.bin .eql 0 32)<|.step (.mk [10, 22])<|.step (.call 36 [36] 0)<|.step (.cell 0 37)<|.step (.cell 1 37)<|.step (.ci .i64 7)<|.step (.ci .u64 0)<|.step (.cb true)<|.ret [30, 40, 38, 41, 41, 30, 42, 38, 39]))
 (.step (.bin .eql 0 32)<|.step (.mk [10, 22])<|.step (.call 36 [35] 0)<|.step (.cell 0 36)<|.step (.cell 1 36)<|.step (.ci .i64 7)<|.step (.ci .u64 0)<|.step (.cb true)<|.ret [30, 39, 37, 40, 40, 30, 41, 37, 38])))
def d49 : PDef := .tree 4<|.step (.len 2)<|.step (.ci .i64 0)<|.step (.call 50 [0, 2, 4, 5, 1, 3] 0)<|.step (.bin .eql 6 5)<|.ite 7
 (.step (.call 50 [0, 2, 4, 5, 1, 3] 1)<|.step (.cb true)<|.ret [5, 8, 9])
 (.step (.cb false)<|.ret [5, 5, 8])
def d48 : PDef := .tree 3<|.step (.len 1)<|.step (.ci .i64 0)<|.step (.bin .eql 3 4)<|.ite 5
 (.step (.ci .u64 0)<|.step (.ml [])<|.step (.cb false)<|.ret [4, 6, 7, 8])
 (.step (.ci .i64 1)<|.step (.bin .sub 3 6)<|.step (.idx 1 7)<|.step (.at 2 1 8)<|.step (.cell 0 9)<|.step (.cell 1 9)<|.step (.mk [10, 11])<|.step (.call 36 [12] 0)<|.step (.cell 0 13) <|
 .step (.cell 1 13)<|.step (.cb true)<|.ret [4, 14, 15, 16])
def d47 : PDef := .tree 3<|.step (.call 48 [0, 1, 2] 0)<|.step (.call 48 [0, 1, 2] 1)<|.step (.call 48 [0, 1, 2] 2)<|.step (.call 48 [0, 1, 2] 3)<|.step (.un .not 6)<|.ite 7
 (.step (.ci .i64 0)<|.step (.ci .u64 0)<|.step (.ml [])<|.step (.ci .i64 24)<|.ret [8, 8, 9, 9, 10, 11])
 (.step (.bin .eql 4 2)<|.ite 8
 (.step (.ci .i64 0)<|.step (.ci .u64 0)<|.step (.ml [])<|.step (.ci .i64 24)<|.ret [9, 9, 10, 10, 11, 12])
 (.step (.call 49 [2, 0, 1, 2] 0)<|.step (.call 49 [2, 0, 1, 2] 1)<|.step (.call 49 [2, 0, 1, 2] 2)<|.ite 11
 (.step (.ci .i64 2)<|.step (.bin .geq 0 12)<|.ite 13
 (.step (.idx 1 10)<|.step (.at 2 1 14)<|.step (.cell 0 15)<|.step (.cell 1 15)<|.step (.mk [16, 17])<|.step (.mk [4, 5])<|.step (.call 51 [18, 19] 0)<|.step (.cell 0 20)<|.step (.cell 1 20) <|
 .step (.cell 2 20)<|.step (.call 51 [18, 19] 1)<|.step (.ci .i64 0)<|.step (.bin .neq 24 25)<|.ite 26
 (.step (.ci .u64 0)<|.step (.ml [])<|.ret [25, 25, 27, 27, 28, 24])
 (.step (.ci .i64 6)<|.ret [25, 27, 22, 21, 23, 25]))
 (.step (.ci .i64 5)<|.step (.ci .u64 0)<|.step (.ci .i64 0)<|.ret [16, 14, 4, 15, 5, 16]))
 (.step (.ci .i64 5)<|.step (.ci .u64 0)<|.step (.ci .i64 0)<|.ret [14, 12, 4, 13, 5, 14])))
def d40 : PDef := .tree 4<|.step (.bin .eql 2 0)<|.ite 4
 (.step (.call 41 [3, 1] 0)<|.step (.ci .i64 0)<|.ret [6, 5])
 (.step (.cb false)<|.step (.ci .i64 0)<|.ret [6, 5])
def d39 : PDef := .tree 4<|.step (.un .not 1)<|.ite 4
 (.step (.ci .u64 0)<|.step (.ml [])<|.step (.cb false)<|.step (.ci .i64 0)<|.ret [8, 5, 6, 7])
 (.step (.mk [2, 3])<|.step (.call 36 [5] 0)<|.step (.cell 0 6)<|.step (.cell 1 6)<|.step (.cb true)<|.step (.ci .i64 0)<|.ret [10, 7, 8, 9])
def d106 : PDef := .tree 7<|.step (.ci .i64 3)<|.step (.bin .lss 0 7)<|.ite 8
 (.step (.call 47 [1, 5, 6] 0)<|.step (.call 47 [1, 5, 6] 1)<|.step (.call 47 [1, 5, 6] 2)<|.step (.call 47 [1, 5, 6] 3)<|.step (.call 47 [1, 5, 6] 4)<|.step (.call 47 [1, 5, 6] 5) <|
 .step (.ci .i64 0)<|.step (.bin .eql 14 15)<|.ite 16
 (.step (.ci .u64 0)<|.step (.cb false)<|.step (.cs [])<|.step (.ml [])<|.step (.call 56 [10, 17, 17, 17, 17, 17, 17, 17, 17, 17, 11, 12, 17, 17, 17, 17, 15, 18, 19, 19, 19, 20, 13, 20, 1, 2, 3, 4] 0) <|
 .step (.call 56 [10, 17, 17, 17, 17, 17, 17, 17, 17, 17, 11, 12, 17, 17, 17, 17, 15, 18, 19, 19, 19, 20, 13, 20, 1, 2, 3, 4] 1)<|.step (.call 56 [10, 17, 17, 17, 17, 17, 17, 17, 17, 17, 11, 12, 17, 17, 17, 17, 15, 18, 19, 19, 19, 20, 13, 20, 1, 2, 3, 4] 2) <|
 .step (.call 56 [10, 17, 17, 17, 17, 17, 17, 17, 17, 17, 11, 12, 17, 17, 17, 17, 15, 18, 19, 19, 19, 20, 13, 20, 1, 2, 3, 4] 3)<|.step (.call 56 [10, 17, 17, 17, 17, 17, 17, 17, 17, 17, 11, 12, 17, 17, 17, 17, 15, 18, 19, 19, 19, 20, 13, 20, 1, 2, 3, 4] 4) <|
 .step (.call 56 [10, 17, 17, 17, 17, 17, 17, 17, 17, 17, 11, 12, 17, 17, 17, 17, 15, 18, 19, 19, 19, 20, 13, 20, 1, 2, 3, 4] 5)<|.step (.call 56 [10, 17, 17, 17, 17, 17, 17, 17, 17, 17, 11, 12, 17, 17, 17, 17, 15, 18, 19, 19, 19, 20, 13, 20, 1, 2, 3, 4] 6) <|
 .step (.call 56 [10, 17, 17, 17, 17, 17, 17, 17, 17, 17, 11, 12, 17, 17, 17, 17, 15, 18, 19, 19, 19, 20, 13, 20, 1, 2, 3, 4] 7)<|.step (.call 56 [10, 17, 17, 17, 17, 17, 17, 17, 17, 17, 11, 12, 17, 17, 17, 17, 15, 18, 19, 19, 19, 20, 13, 20, 1, 2, 3, 4] 8) <|
 .step (.call 101 [22, 17, 17, 17, 17, 17, 17, 17, 17, 17, 23, 17, 17, 17, 24, 25, 15, 18, 19, 19, 19, 20, 20, 20, 1, 5, 6] 0)<|.step (.call 101 [22, 17, 17, 17, 17, 17, 17, 17, 17, 17, 23, 17, 17, 17, 24, 25, 15, 18, 19, 19, 19, 20, 20, 20, 1, 5, 6] 1) <|
 .step (.call 101 [22, 17, 17, 17, 17, 17, 17, 17, 17, 17, 23, 17, 17, 17, 24, 25, 15, 18, 19, 19, 19, 20, 20, 20, 1, 5, 6] 2)<|.step (.ci .i64 1)<|.step (.bin .add 0 33)<|.tail 106 [34, 1, 27, 28, 29, 31, 32])
 (.step (.ci .i64 1)<|.step (.bin .add 0 17)<|.tail 106 [18, 1, 2, 3, 4, 5, 6]))
 (.step (.ci .i64 0)<|.ret [9, 2, 3, 4, 5, 6])
def d100 : PDef := .tree 11<|.step (.bin .lss 5 4)<|.ite 11
 (.step (.at 4 0 5)<|.step (.cell 0 12)<|.step (.cell 1 12)<|.step (.cell 2 12)<|.step (.cell 3 12)<|.step (.bin .eql 6 13)<|.ite 17
 (.step (.ci .i64 0)<|.ret [18])
 (.step (.ci .i64 1)<|.step (.bin .add 5 18)<|.tail 100 [0, 1, 2, 3, 4, 19, 6, 7, 8, 9, 10]))
 (.step (.ci .i64 1)<|.ret [12])
def d98 : PDef := .tree 5<|.step (.bin .lss 4 3)<|.ite 5
 (.step (.at 5 2 4)<|.step (.cell 0 6)<|.step (.cell 1 6)<|.step (.cell 2 6)<|.step (.cell 3 6)<|.step (.cell 4 6)<|.step (.ci .u64 0)<|.step (.bin .eql 7 12)<|.ite 13
 (.step (.ci .i64 18)<|.step (.ci .i64 0)<|.ret [15, 14])
 (.step (.ci .u64 4294967296)<|.step (.bin .gtr 7 14)<|.ite 15
 (.step (.ci .i64 18)<|.step (.ci .i64 0)<|.ret [17, 16])
 (.step (.bin .leq 7 1)<|.ite 16
 (.step (.ci .i64 7)<|.step (.ci .i64 0)<|.ret [18, 17])
 (.step (.ci .i64 0)<|.step (.bin .eql 8 17)<|.ite 18
 (.step (.cs [])<|.step (.bin .eql 10 19)<|.ite 20
 (.step (.len 11)<|.step (.bin .eql 21 17)<|.step (.un .not 22)<|.ite 23
 (.step (.ci .i64 8)<|.ret [17, 24])
 (.step (.ci .i64 2)<|.step (.bin .neq 8 24)<|.step (.ci .i64 1)<|.step (.bin .add 4 26)<|.tail 98 [0, 7, 2, 3, 27]))
 (.step (.ci .i64 8)<|.ret [17, 21]))
 (.step (.ci .i64 1)<|.step (.bin .eql 8 19)<|.ite 20
 (.step (.bin .eql 9 12)<|.ite 21
 (.step (.len 11)<|.step (.bin .eql 22 17)<|.step (.un .not 23)<|.ite 24
 (.step (.ci .i64 8)<|.ret [17, 25])
 (.step (.ci .i64 2)<|.step (.bin .neq 8 25)<|.step (.bin .add 4 19)<|.tail 98 [0, 7, 2, 3, 27]))
 (.step (.ci .i64 8)<|.ret [17, 22]))
 (.step (.ci .i64 2)<|.step (.bin .eql 8 21)<|.ite 22
 (.step (.bin .eql 9 12)<|.ite 23
 (.step (.cs [])<|.step (.bin .eql 10 24)<|.step (.un .not 25)<|.ite 26
 (.step (.ci .i64 8)<|.ret [17, 27])
 (.step (.bin .neq 8 21)<|.step (.ci .i64 8)<|.step (.bin .geq 0 28)<|.ite 29
 (.step (.ci .i64 9)<|.ret [17, 30])
 (.step (.bin .add 0 19)<|.step (.call 97 [11, 30] 0)<|.step (.bin .neq 31 17)<|.ite 32
 (.ret [17, 31])
 (.step (.bin .add 4 19)<|.tail 98 [0, 7, 2, 3, 33]))))
 (.step (.ci .i64 8)<|.ret [17, 24]))
 (.step (.ci .i64 8)<|.ret [17, 23])))))))
 (.step (.ci .i64 1)<|.ret [6])
def d23 : PDef := .tree 3<|.step (.bin .lss 2 1)<|.ite 3
 (.step (.at 2 0 2)<|.step (.cell 0 4)<|.step (.cell 1 4)<|.step (.mk [5, 6])<|.step (.call 24 [7] 0)<|.step (.ci .i64 0)<|.step (.bin .neq 8 9)<|.ite 10
 (.ret [9, 8])
 (.step (.bin .eql 2 9)<|.ite 11
 (.step (.ci .i64 1)<|.step (.bin .add 2 12)<|.tail 23 [0, 1, 13])
 (.step (.ci .i64 1)<|.step (.bin .sub 2 12)<|.step (.at 2 0 13)<|.step (.cell 0 14)<|.step (.bin .eql 5 15)<|.ite 16
 (.step (.ci .i64 14)<|.ret [9, 17])
 (.step (.bin .lss 5 15)<|.ite 17
 (.step (.ci .i64 7)<|.ret [9, 18])
 (.step (.bin .add 2 12)<|.tail 23 [0, 1, 18])))))
 (.step (.ci .i64 1)<|.ret [4])
def d99 : PDef := .tree 4<|.step (.bin .lss 3 2)<|.ite 4
 (.step (.at 5 1 3)<|.step (.cell 0 5)<|.step (.cell 1 5)<|.step (.cell 2 5)<|.step (.cell 3 5)<|.step (.cell 4 5)<|.step (.len 0)<|.step (.ci .i64 0)<|.step (.call 100 [0, 1, 2, 3, 11, 12, 6, 7, 8, 9, 10] 0) <|
 .step (.bin .eql 13 12)<|.ite 14
 (.ret [12])
 (.step (.ci .i64 1)<|.step (.bin .add 3 15)<|.tail 99 [0, 1, 2, 16]))
 (.step (.ci .i64 1)<|.ret [5])
def d54 : PDef := .tree 8<|.step (.len 0)<|.step (.bin .lss 1 8)<|.ite 9
 (.step (.at 2 0 1)<|.step (.cell 0 10)<|.step (.call 7 [11] 0)<|.step (.bin .lss 12 2)<|.ite 13
 (.step (.ci .i64 1)<|.step (.bin .add 1 14)<|.tail 54 [0, 15, 2, 3, 4, 5, 6, 7])
 (.step (.ci .i64 0)<|.ret [14, 1, 10, 11, 12]))
 (.step (.ci .i64 1)<|.ret [10, 1])
def d55 : PDef := .tree 7<|.step (.bin .lss 3 2)<|.ite 7
 (.step (.at 2 1 3)<|.step (.cell 0 8)<|.step (.cell 1 8)<|.step (.len 0)<|.step (.ci .i64 0)<|.step (.bin .gtr 11 12)<|.ite 13
 (.step (.at 2 0 12)<|.step (.cell 0 14)<|.step (.call 32 [15, 9] 0)<|.step (.bin .eql 16 12)<|.ite 17
 (.step (.cell 1 14)<|.step (.bin .sub 10 18)<|.step (.ci .i64 1)<|.step (.lsub 2 0 20 11)<|.step (.ci .u64 0)<|.step (.bin .neq 19 22)<|.ite 23
 (.step (.call 31 [9] 0)<|.step (.mk [24, 19])<|.step (.ml [25])<|.step (.app 2 32 6 26)<|.step (.bin .add 3 20)<|.tail 55 [21, 1, 2, 28, 4, 5, 27])
 (.step (.bin .add 3 20)<|.tail 55 [21, 1, 2, 24, 4, 5, 6]))
 (.step (.ci .u64 0)<|.step (.bin .neq 10 18)<|.ite 19
 (.step (.call 31 [9] 0)<|.step (.mk [20, 10])<|.step (.ml [21])<|.step (.app 2 32 6 22)<|.step (.ci .i64 1)<|.step (.bin .add 3 24)<|.tail 55 [0, 1, 2, 25, 4, 5, 23])
 (.step (.ci .i64 1)<|.step (.bin .add 3 20)<|.tail 55 [0, 1, 2, 21, 4, 5, 6])))
 (.step (.ci .u64 0)<|.step (.bin .neq 10 14)<|.ite 15
 (.step (.call 31 [9] 0)<|.step (.mk [16, 10])<|.step (.ml [17])<|.step (.app 2 32 6 18)<|.step (.ci .i64 1)<|.step (.bin .add 3 20)<|.tail 55 [0, 1, 2, 21, 4, 5, 19])
 (.step (.ci .i64 1)<|.step (.bin .add 3 16)<|.tail 55 [0, 1, 2, 17, 4, 5, 6])))
 (.step (.ci .i64 0)<|.ret [8, 6])
def d1 : PDef := .tree 13<|.step (.bin .lss 6 5)<|.ite 13
 (.step (.at 5 4 6)<|.step (.cell 0 14)<|.step (.cell 1 14)<|.step (.cell 2 14)<|.step (.cell 3 14)<|.step (.cell 4 14)<|.step (.len 17)<|.step (.ci .i64 60)<|.step (.bin .gtr 20 21) <|
 .ite 22
 (.step (.cb true)<|.step (.ci .i64 0)<|.ret [24, 23])
 (.step (.mk [15, 16, 17, 18, 19])<|.step (.call 2 [23] 0)<|.step (.un .not 24)<|.ite 25
 (.step (.cb true)<|.step (.ci .i64 0)<|.ret [27, 26])
 (.step (.call 103 [15, 16, 17, 18, 19, 8, 11, 12] 0)<|.step (.call 103 [15, 16, 17, 18, 19, 8, 11, 12] 1)<|.step (.call 103 [15, 16, 17, 18, 19, 8, 11, 12] 2)<|.step (.call 105 [27, 28, 8, 11, 12] 0) <|
 .step (.call 105 [27, 28, 8, 11, 12] 1)<|.step (.call 105 [27, 28, 8, 11, 12] 2)<|.step (.call 105 [27, 28, 8, 11, 12] 3)<|.step (.ci .i64 0)<|.step (.bin .eql 30 33)<|.ite 34
 (.step (.ci .u64 0)<|.step (.bin .eql 27 35)<|.step (.mk [27, 28])<|.step (.mput 7 27 37)<|.step (.call 47 [8, 31, 32] 0)<|.step (.call 47 [8, 31, 32] 1)<|.step (.call 47 [8, 31, 32] 2) <|
 .step (.call 47 [8, 31, 32] 3)<|.step (.call 47 [8, 31, 32] 4)<|.step (.call 47 [8, 31, 32] 5)<|.step (.bin .eql 44 33)<|.ite 45
 (.step (.cb false)<|.step (.cs [])<|.step (.ml [])<|.step (.mk [40, 35, 35, 35, 35, 35, 35, 35, 35, 35, 41, 42, 35, 35, 35, 35, 33, 46, 47, 47, 47, 48, 43, 48])<|.step (.ml [49]) <|
 .step (.app 24 264 1 50)<|.step (.len 0)<|.step (.bin .lss 6 52)<|.ite 53
 (.step (.len 51)<|.step (.bin .gtr 54 33)<|.ite 55
 (.step (.at 1 0 6)<|.step (.cell 0 56)<|.step (.conv .i64 57)<|.step (.bin .rem 58 54)<|.step (.idx 51 59)<|.step (.at 24 51 60)<|.step (.cell 0 61)<|.step (.cell 1 61)<|.step (.cell 2 61) <|
 .step (.cell 3 61)<|.step (.cell 4 61)<|.step (.cell 5 61)<|.step (.cell 6 61)<|.step (.cell 7 61)<|.step (.cell 8 61)<|.step (.cell 9 61)<|.step (.cell 10 61)<|.step (.cell 11 61) <|
 .step (.cell 12 61)<|.step (.cell 13 61)<|.step (.cell 14 61)<|.step (.cell 15 61)<|.step (.cell 16 61)<|.step (.cell 17 61)<|.step (.cell 18 61)<|.step (.cell 19 61)<|.step (.cell 20 61) <|
 .step (.cell 21 61)<|.step (.cell 22 61)<|.step (.cell 23 61)<|.step (.call 56 [62, 63, 64, 65, 66, 67, 68, 69, 70, 71, 72, 73, 74, 75, 76, 77, 78, 79, 80, 81, 82, 83, 84, 85, 8, 9, 3, 10] 0) <|
 .step (.call 56 [62, 63, 64, 65, 66, 67, 68, 69, 70, 71, 72, 73, 74, 75, 76, 77, 78, 79, 80, 81, 82, 83, 84, 85, 8, 9, 3, 10] 1)<|.step (.call 56 [62, 63, 64, 65, 66, 67, 68, 69, 70, 71, 72, 73, 74, 75, 76, 77, 78, 79, 80, 81, 82, 83, 84, 85, 8, 9, 3, 10] 2) <|
 .step (.call 56 [62, 63, 64, 65, 66, 67, 68, 69, 70, 71, 72, 73, 74, 75, 76, 77, 78, 79, 80, 81, 82, 83, 84, 85, 8, 9, 3, 10] 3)<|.step (.call 56 [62, 63, 64, 65, 66, 67, 68, 69, 70, 71, 72, 73, 74, 75, 76, 77, 78, 79, 80, 81, 82, 83, 84, 85, 8, 9, 3, 10] 4) <|
 .step (.call 56 [62, 63, 64, 65, 66, 67, 68, 69, 70, 71, 72, 73, 74, 75, 76, 77, 78, 79, 80, 81, 82, 83, 84, 85, 8, 9, 3, 10] 5)<|.step (.call 56 [62, 63, 64, 65, 66, 67, 68, 69, 70, 71, 72, 73, 74, 75, 76, 77, 78, 79, 80, 81, 82, 83, 84, 85, 8, 9, 3, 10] 6) <|
 .step (.call 56 [62, 63, 64, 65, 66, 67, 68, 69, 70, 71, 72, 73, 74, 75, 76, 77, 78, 79, 80, 81, 82, 83, 84, 85, 8, 9, 3, 10] 7)<|.step (.call 56 [62, 63, 64, 65, 66, 67, 68, 69, 70, 71, 72, 73, 74, 75, 76, 77, 78, 79, 80, 81, 82, 83, 84, 85, 8, 9, 3, 10] 8) <|
 .step (.mk [87, 35, 35, 35, 35, 35, 35, 35, 35, 35, 88, 35, 35, 35, 89, 90, 33, 46, 47, 47, 47, 48, 48, 48])<|.step (.ml [95])<|.step (.app 24 264 2 96)<|.step (.len 97)<|.step (.bin .gtr 98 33) <|
 .ite 99
 (.step (.ci .u8 3)<|.step (.bin .rem 57 100)<|.step (.ci .u8 0)<|.step (.bin .eql 101 102)<|.ite 103
 (.step (.bin .quo 57 100)<|.step (.conv .i64 104)<|.step (.bin .rem 105 98)<|.step (.idx 97 106)<|.step (.at 24 97 107)<|.step (.cell 0 108)<|.step (.cell 1 108)<|.step (.cell 2 108) <|
 .step (.cell 3 108)<|.step (.cell 4 108)<|.step (.cell 5 108)<|.step (.cell 6 108)<|.step (.cell 7 108)<|.step (.cell 8 108)<|.step (.cell 9 108)<|.step (.cell 10 108)<|.step (.cell 11 108) <|
 .step (.cell 12 108)<|.step (.cell 13 108)<|.step (.cell 14 108)<|.step (.cell 15 108)<|.step (.cell 16 108)<|.step (.cell 17 108)<|.step (.cell 18 108)<|.step (.cell 19 108)<|.step (.cell 20 108) <|
 .step (.cell 21 108)<|.step (.cell 22 108)<|.step (.cell 23 108)<|.step (.call 101 [109, 110, 111, 112, 113, 114, 115, 116, 117, 118, 119, 120, 121, 122, 123, 124, 125, 126, 127, 128, 129, 130, 131, 132, 8, 31, 32] 0) <|
 .step (.call 101 [109, 110, 111, 112, 113, 114, 115, 116, 117, 118, 119, 120, 121, 122, 123, 124, 125, 126, 127, 128, 129, 130, 131, 132, 8, 31, 32] 1)<|.step (.call 101 [109, 110, 111, 112, 113, 114, 115, 116, 117, 118, 119, 120, 121, 122, 123, 124, 125, 126, 127, 128, 129, 130, 131, 132, 8, 31, 32] 2) <|
 .step (.call 39 [8, 92, 93, 94] 0)<|.step (.call 39 [8, 92, 93, 94] 1)<|.step (.call 39 [8, 92, 93, 94] 2)<|.step (.call 39 [8, 92, 93, 94] 3)<|.ite 139
 (.step (.bin .eql 137 35)<|.step (.mk [35, 48])<|.step (.mget 141 38 137)<|.step (.cell 0 142)<|.step (.cell 1 142)<|.step (.call 40 [143, 144, 137, 138] 0)<|.step (.call 40 [143, 144, 137, 138] 1) <|
 .step (.un .not 146)<|.ite 147
 (.ret [33, 46])
 (.step (.bin .lss 93 3)<|.ite 148
 (.ret [33, 46])
 (.step (.ci .i64 1)<|.step (.bin .add 6 149)<|.tail 1 [0, 51, 97, 93, 4, 5, 150, 38, 8, 92, 94, 134, 135])))
 (.step (.bin .lss 93 3)<|.ite 140
 (.ret [33, 46])
 (.step (.ci .i64 1)<|.step (.bin .add 6 141)<|.tail 1 [0, 51, 97, 93, 4, 5, 142, 38, 8, 92, 94, 134, 135])))
 (.step (.call 39 [8, 92, 93, 94] 0)<|.step (.call 39 [8, 92, 93, 94] 1)<|.step (.call 39 [8, 92, 93, 94] 2)<|.step (.call 39 [8, 92, 93, 94] 3)<|.ite 107
 (.step (.bin .eql 105 35)<|.step (.mk [35, 48])<|.step (.mget 109 38 105)<|.step (.cell 0 110)<|.step (.cell 1 110)<|.step (.call 40 [111, 112, 105, 106] 0)<|.step (.call 40 [111, 112, 105, 106] 1) <|
 .step (.un .not 114)<|.ite 115
 (.ret [33, 46])
 (.step (.bin .lss 93 3)<|.ite 116
 (.ret [33, 46])
 (.step (.ci .i64 1)<|.step (.bin .add 6 117)<|.tail 1 [0, 51, 97, 93, 4, 5, 118, 38, 8, 92, 94, 31, 32])))
 (.step (.bin .lss 93 3)<|.ite 108
 (.ret [33, 46])
 (.step (.ci .i64 1)<|.step (.bin .add 6 109)<|.tail 1 [0, 51, 97, 93, 4, 5, 110, 38, 8, 92, 94, 31, 32]))))
 (.step (.call 39 [8, 92, 93, 94] 0)<|.step (.call 39 [8, 92, 93, 94] 1)<|.step (.call 39 [8, 92, 93, 94] 2)<|.step (.call 39 [8, 92, 93, 94] 3)<|.ite 103
 (.step (.bin .eql 101 35)<|.step (.mk [35, 48])<|.step (.mget 105 38 101)<|.step (.cell 0 106)<|.step (.cell 1 106)<|.step (.call 40 [107, 108, 101, 102] 0)<|.step (.call 40 [107, 108, 101, 102] 1) <|
 .step (.un .not 110)<|.ite 111
 (.ret [33, 46])
 (.step (.bin .lss 93 3)<|.ite 112
 (.ret [33, 46])
 (.step (.ci .i64 1)<|.step (.bin .add 6 113)<|.tail 1 [0, 51, 97, 93, 4, 5, 114, 38, 8, 92, 94, 31, 32])))
 (.step (.bin .lss 93 3)<|.ite 104
 (.ret [33, 46])
 (.step (.ci .i64 1)<|.step (.bin .add 6 105)<|.tail 1 [0, 51, 97, 93, 4, 5, 106, 38, 8, 92, 94, 31, 32]))))
 (.step (.len 2)<|.step (.bin .gtr 56 33)<|.ite 57
 (.step (.at 1 0 6)<|.step (.cell 0 58)<|.step (.ci .u8 3)<|.step (.bin .rem 59 60)<|.step (.ci .u8 0)<|.step (.bin .eql 61 62)<|.ite 63
 (.step (.bin .quo 59 60)<|.step (.conv .i64 64)<|.step (.bin .rem 65 56)<|.step (.idx 2 66)<|.step (.at 24 2 67)<|.step (.cell 0 68)<|.step (.cell 1 68)<|.step (.cell 2 68)<|.step (.cell 3 68) <|
 .step (.cell 4 68)<|.step (.cell 5 68)<|.step (.cell 6 68)<|.step (.cell 7 68)<|.step (.cell 8 68)<|.step (.cell 9 68)<|.step (.cell 10 68)<|.step (.cell 11 68)<|.step (.cell 12 68) <|
 .step (.cell 13 68)<|.step (.cell 14 68)<|.step (.cell 15 68)<|.step (.cell 16 68)<|.step (.cell 17 68)<|.step (.cell 18 68)<|.step (.cell 19 68)<|.step (.cell 20 68)<|.step (.cell 21 68) <|
 .step (.cell 22 68)<|.step (.cell 23 68)<|.step (.call 101 [69, 70, 71, 72, 73, 74, 75, 76, 77, 78, 79, 80, 81, 82, 83, 84, 85, 86, 87, 88, 89, 90, 91, 92, 8, 31, 32] 0)<|.step (.call 101 [69, 70, 71, 72, 73, 74, 75, 76, 77, 78, 79, 80, 81, 82, 83, 84, 85, 86, 87, 88, 89, 90, 91, 92, 8, 31, 32] 1) <|
 .step (.call 101 [69, 70, 71, 72, 73, 74, 75, 76, 77, 78, 79, 80, 81, 82, 83, 84, 85, 86, 87, 88, 89, 90, 91, 92, 8, 31, 32] 2)<|.step (.call 39 [8, 9, 3, 10] 0)<|.step (.call 39 [8, 9, 3, 10] 1) <|
 .step (.call 39 [8, 9, 3, 10] 2)<|.step (.call 39 [8, 9, 3, 10] 3)<|.ite 99
 (.step (.bin .eql 97 35)<|.step (.mk [35, 48])<|.step (.mget 101 38 97)<|.step (.cell 0 102)<|.step (.cell 1 102)<|.step (.call 40 [103, 104, 97, 98] 0)<|.step (.call 40 [103, 104, 97, 98] 1) <|
 .step (.un .not 106)<|.ite 107
 (.ret [33, 46])
 (.step (.bin .lss 3 3)<|.ite 108
 (.ret [33, 46])
 (.step (.ci .i64 1)<|.step (.bin .add 6 109)<|.tail 1 [0, 51, 2, 3, 4, 5, 110, 38, 8, 9, 10, 94, 95])))
 (.step (.bin .lss 3 3)<|.ite 100
 (.ret [33, 46])
 (.step (.ci .i64 1)<|.step (.bin .add 6 101)<|.tail 1 [0, 51, 2, 3, 4, 5, 102, 38, 8, 9, 10, 94, 95])))
 (.step (.call 39 [8, 9, 3, 10] 0)<|.step (.call 39 [8, 9, 3, 10] 1)<|.step (.call 39 [8, 9, 3, 10] 2)<|.step (.call 39 [8, 9, 3, 10] 3)<|.ite 67
 (.step (.bin .eql 65 35)<|.step (.mk [35, 48])<|.step (.mget 69 38 65)<|.step (.cell 0 70)<|.step (.cell 1 70)<|.step (.call 40 [71, 72, 65, 66] 0)<|.step (.call 40 [71, 72, 65, 66] 1) <|
 .step (.un .not 74)<|.ite 75
 (.ret [33, 46])
 (.step (.bin .lss 3 3)<|.ite 76
 (.ret [33, 46])
 (.step (.ci .i64 1)<|.step (.bin .add 6 77)<|.tail 1 [0, 51, 2, 3, 4, 5, 78, 38, 8, 9, 10, 31, 32])))
 (.step (.bin .lss 3 3)<|.ite 68
 (.ret [33, 46])
 (.step (.ci .i64 1)<|.step (.bin .add 6 69)<|.tail 1 [0, 51, 2, 3, 4, 5, 70, 38, 8, 9, 10, 31, 32]))))
 (.step (.call 39 [8, 9, 3, 10] 0)<|.step (.call 39 [8, 9, 3, 10] 1)<|.step (.call 39 [8, 9, 3, 10] 2)<|.step (.call 39 [8, 9, 3, 10] 3)<|.ite 61
 (.step (.bin .eql 59 35)<|.step (.mk [35, 48])<|.step (.mget 63 38 59)<|.step (.cell 0 64)<|.step (.cell 1 64)<|.step (.call 40 [65, 66, 59, 60] 0)<|.step (.call 40 [65, 66, 59, 60] 1) <|
 .step (.un .not 68)<|.ite 69
 (.ret [33, 46])
 (.step (.bin .lss 3 3)<|.ite 70
 (.ret [33, 46])
 (.step (.ci .i64 1)<|.step (.bin .add 6 71)<|.tail 1 [0, 51, 2, 3, 4, 5, 72, 38, 8, 9, 10, 31, 32])))
 (.step (.bin .lss 3 3)<|.ite 62
 (.ret [33, 46])
 (.step (.ci .i64 1)<|.step (.bin .add 6 63)<|.tail 1 [0, 51, 2, 3, 4, 5, 64, 38, 8, 9, 10, 31, 32])))))
 (.step (.call 39 [8, 9, 3, 10] 0)<|.step (.call 39 [8, 9, 3, 10] 1)<|.step (.call 39 [8, 9, 3, 10] 2)<|.step (.call 39 [8, 9, 3, 10] 3)<|.ite 57
 (.step (.bin .eql 55 35)<|.step (.mk [35, 48])<|.step (.mget 59 38 55)<|.step (.cell 0 60)<|.step (.cell 1 60)<|.step (.call 40 [61, 62, 55, 56] 0)<|.step (.call 40 [61, 62, 55, 56] 1) <|
 .step (.un .not 64)<|.ite 65
 (.ret [33, 46])
 (.step (.bin .lss 3 3)<|.ite 66
 (.ret [33, 46])
 (.step (.ci .i64 1)<|.step (.bin .add 6 67)<|.tail 1 [0, 51, 2, 3, 4, 5, 68, 38, 8, 9, 10, 31, 32])))
 (.step (.bin .lss 3 3)<|.ite 58
 (.ret [33, 46])
 (.step (.ci .i64 1)<|.step (.bin .add 6 59)<|.tail 1 [0, 51, 2, 3, 4, 5, 60, 38, 8, 9, 10, 31, 32]))))
 (.step (.len 0)<|.step (.bin .lss 6 46)<|.ite 47
 (.step (.len 1)<|.step (.bin .gtr 48 33)<|.ite 49
 (.step (.at 1 0 6)<|.step (.cell 0 50)<|.step (.conv .i64 51)<|.step (.bin .rem 52 48)<|.step (.idx 1 53)<|.step (.at 24 1 54)<|.step (.cell 0 55)<|.step (.cell 1 55)<|.step (.cell 2 55) <|
 .step (.cell 3 55)<|.step (.cell 4 55)<|.step (.cell 5 55)<|.step (.cell 6 55)<|.step (.cell 7 55)<|.step (.cell 8 55)<|.step (.cell 9 55)<|.step (.cell 10 55)<|.step (.cell 11 55) <|
 .step (.cell 12 55)<|.step (.cell 13 55)<|.step (.cell 14 55)<|.step (.cell 15 55)<|.step (.cell 16 55)<|.step (.cell 17 55)<|.step (.cell 18 55)<|.step (.cell 19 55)<|.step (.cell 20 55) <|
 .step (.cell 21 55)<|.step (.cell 22 55)<|.step (.cell 23 55)<|.step (.call 56 [56, 57, 58, 59, 60, 61, 62, 63, 64, 65, 66, 67, 68, 69, 70, 71, 72, 73, 74, 75, 76, 77, 78, 79, 8, 9, 3, 10] 0) <|
 .step (.call 56 [56, 57, 58, 59, 60, 61, 62, 63, 64, 65, 66, 67, 68, 69, 70, 71, 72, 73, 74, 75, 76, 77, 78, 79, 8, 9, 3, 10] 1)<|.step (.call 56 [56, 57, 58, 59, 60, 61, 62, 63, 64, 65, 66, 67, 68, 69, 70, 71, 72, 73, 74, 75, 76, 77, 78, 79, 8, 9, 3, 10] 2) <|
 .step (.call 56 [56, 57, 58, 59, 60, 61, 62, 63, 64, 65, 66, 67, 68, 69, 70, 71, 72, 73, 74, 75, 76, 77, 78, 79, 8, 9, 3, 10] 3)<|.step (.call 56 [56, 57, 58, 59, 60, 61, 62, 63, 64, 65, 66, 67, 68, 69, 70, 71, 72, 73, 74, 75, 76, 77, 78, 79, 8, 9, 3, 10] 4) <|
 .step (.call 56 [56, 57, 58, 59, 60, 61, 62, 63, 64, 65, 66, 67, 68, 69, 70, 71, 72, 73, 74, 75, 76, 77, 78, 79, 8, 9, 3, 10] 5)<|.step (.call 56 [56, 57, 58, 59, 60, 61, 62, 63, 64, 65, 66, 67, 68, 69, 70, 71, 72, 73, 74, 75, 76, 77, 78, 79, 8, 9, 3, 10] 6) <|
 .step (.call 56 [56, 57, 58, 59, 60, 61, 62, 63, 64, 65, 66, 67, 68, 69, 70, 71, 72, 73, 74, 75, 76, 77, 78, 79, 8, 9, 3, 10] 7)<|.step (.call 56 [56, 57, 58, 59, 60, 61, 62, 63, 64, 65, 66, 67, 68, 69, 70, 71, 72, 73, 74, 75, 76, 77, 78, 79, 8, 9, 3, 10] 8) <|
 .step (.cb false)<|.step (.cs [])<|.step (.ml [])<|.step (.mk [81, 35, 35, 35, 35, 35, 35, 35, 35, 35, 82, 35, 35, 35, 83, 84, 33, 89, 90, 90, 90, 91, 91, 91])<|.step (.ml [92]) <|
 .step (.app 24 264 2 93)<|.step (.len 94)<|.step (.bin .gtr 95 33)<|.ite 96
 (.step (.ci .u8 3)<|.step (.bin .rem 51 97)<|.step (.ci .u8 0)<|.step (.bin .eql 98 99)<|.ite 100
 (.step (.bin .quo 51 97)<|.step (.conv .i64 101)<|.step (.bin .rem 102 95)<|.step (.idx 94 103)<|.step (.at 24 94 104)<|.step (.cell 0 105)<|.step (.cell 1 105)<|.step (.cell 2 105) <|
 .step (.cell 3 105)<|.step (.cell 4 105)<|.step (.cell 5 105)<|.step (.cell 6 105)<|.step (.cell 7 105)<|.step (.cell 8 105)<|.step (.cell 9 105)<|.step (.cell 10 105)<|.step (.cell 11 105) <|
 .step (.cell 12 105)<|.step (.cell 13 105)<|.step (.cell 14 105)<|.step (.cell 15 105)<|.step (.cell 16 105)<|.step (.cell 17 105)<|.step (.cell 18 105)<|.step (.cell 19 105)<|.step (.cell 20 105) <|
 .step (.cell 21 105)<|.step (.cell 22 105)<|.step (.cell 23 105)<|.step (.call 101 [106, 107, 108, 109, 110, 111, 112, 113, 114, 115, 116, 117, 118, 119, 120, 121, 122, 123, 124, 125, 126, 127, 128, 129, 8, 31, 32] 0) <|
 .step (.call 101 [106, 107, 108, 109, 110, 111, 112, 113, 114, 115, 116, 117, 118, 119, 120, 121, 122, 123, 124, 125, 126, 127, 128, 129, 8, 31, 32] 1)<|.step (.call 101 [106, 107, 108, 109, 110, 111, 112, 113, 114, 115, 116, 117, 118, 119, 120, 121, 122, 123, 124, 125, 126, 127, 128, 129, 8, 31, 32] 2) <|
 .step (.call 39 [8, 86, 87, 88] 0)<|.step (.call 39 [8, 86, 87, 88] 1)<|.step (.call 39 [8, 86, 87, 88] 2)<|.step (.call 39 [8, 86, 87, 88] 3)<|.ite 136
 (.step (.bin .eql 134 35)<|.step (.mk [35, 91])<|.step (.mget 138 38 134)<|.step (.cell 0 139)<|.step (.cell 1 139)<|.step (.call 40 [140, 141, 134, 135] 0)<|.step (.call 40 [140, 141, 134, 135] 1) <|
 .step (.un .not 143)<|.ite 144
 (.ret [33, 89])
 (.step (.bin .lss 87 3)<|.ite 145
 (.ret [33, 89])
 (.step (.ci .i64 1)<|.step (.bin .add 6 146)<|.tail 1 [0, 1, 94, 87, 4, 5, 147, 38, 8, 86, 88, 131, 132])))
 (.step (.bin .lss 87 3)<|.ite 137
 (.ret [33, 89])
 (.step (.ci .i64 1)<|.step (.bin .add 6 138)<|.tail 1 [0, 1, 94, 87, 4, 5, 139, 38, 8, 86, 88, 131, 132])))
 (.step (.call 39 [8, 86, 87, 88] 0)<|.step (.call 39 [8, 86, 87, 88] 1)<|.step (.call 39 [8, 86, 87, 88] 2)<|.step (.call 39 [8, 86, 87, 88] 3)<|.ite 104
 (.step (.bin .eql 102 35)<|.step (.mk [35, 91])<|.step (.mget 106 38 102)<|.step (.cell 0 107)<|.step (.cell 1 107)<|.step (.call 40 [108, 109, 102, 103] 0)<|.step (.call 40 [108, 109, 102, 103] 1) <|
 .step (.un .not 111)<|.ite 112
 (.ret [33, 89])
 (.step (.bin .lss 87 3)<|.ite 113
 (.ret [33, 89])
 (.step (.ci .i64 1)<|.step (.bin .add 6 114)<|.tail 1 [0, 1, 94, 87, 4, 5, 115, 38, 8, 86, 88, 31, 32])))
 (.step (.bin .lss 87 3)<|.ite 105
 (.ret [33, 89])
 (.step (.ci .i64 1)<|.step (.bin .add 6 106)<|.tail 1 [0, 1, 94, 87, 4, 5, 107, 38, 8, 86, 88, 31, 32]))))
 (.step (.call 39 [8, 86, 87, 88] 0)<|.step (.call 39 [8, 86, 87, 88] 1)<|.step (.call 39 [8, 86, 87, 88] 2)<|.step (.call 39 [8, 86, 87, 88] 3)<|.ite 100
 (.step (.bin .eql 98 35)<|.step (.mk [35, 91])<|.step (.mget 102 38 98)<|.step (.cell 0 103)<|.step (.cell 1 103)<|.step (.call 40 [104, 105, 98, 99] 0)<|.step (.call 40 [104, 105, 98, 99] 1) <|
 .step (.un .not 107)<|.ite 108
 (.ret [33, 89])
 (.step (.bin .lss 87 3)<|.ite 109
 (.ret [33, 89])
 (.step (.ci .i64 1)<|.step (.bin .add 6 110)<|.tail 1 [0, 1, 94, 87, 4, 5, 111, 38, 8, 86, 88, 31, 32])))
 (.step (.bin .lss 87 3)<|.ite 101
 (.ret [33, 89])
 (.step (.ci .i64 1)<|.step (.bin .add 6 102)<|.tail 1 [0, 1, 94, 87, 4, 5, 103, 38, 8, 86, 88, 31, 32]))))
 (.step (.len 2)<|.step (.bin .gtr 50 33)<|.ite 51
 (.step (.at 1 0 6)<|.step (.cell 0 52)<|.step (.ci .u8 3)<|.step (.bin .rem 53 54)<|.step (.ci .u8 0)<|.step (.bin .eql 55 56)<|.ite 57
 (.step (.bin .quo 53 54)<|.step (.conv .i64 58)<|.step (.bin .rem 59 50)<|.step (.idx 2 60)<|.step (.at 24 2 61)<|.step (.cell 0 62)<|.step (.cell 1 62)<|.step (.cell 2 62)<|.step (.cell 3 62) <|
 .step (.cell 4 62)<|.step (.cell 5 62)<|.step (.cell 6 62)<|.step (.cell 7 62)<|.step (.cell 8 62)<|.step (.cell 9 62)<|.step (.cell 10 62)<|.step (.cell 11 62)<|.step (.cell 12 62) <|
 .step (.cell 13 62)<|.step (.cell 14 62)<|.step (.cell 15 62)<|.step (.cell 16 62)<|.step (.cell 17 62)<|.step (.cell 18 62)<|.step (.cell 19 62)<|.step (.cell 20 62)<|.step (.cell 21 62) <|
 .step (.cell 22 62)<|.step (.cell 23 62)<|.step (.call 101 [63, 64, 65, 66, 67, 68, 69, 70, 71, 72, 73, 74, 75, 76, 77, 78, 79, 80, 81, 82, 83, 84, 85, 86, 8, 31, 32] 0)<|.step (.call 101 [63, 64, 65, 66, 67, 68, 69, 70, 71, 72, 73, 74, 75, 76, 77, 78, 79, 80, 81, 82, 83, 84, 85, 86, 8, 31, 32] 1) <|
 .step (.call 101 [63, 64, 65, 66, 67, 68, 69, 70, 71, 72, 73, 74, 75, 76, 77, 78, 79, 80, 81, 82, 83, 84, 85, 86, 8, 31, 32] 2)<|.step (.call 39 [8, 9, 3, 10] 0)<|.step (.call 39 [8, 9, 3, 10] 1) <|
 .step (.call 39 [8, 9, 3, 10] 2)<|.step (.call 39 [8, 9, 3, 10] 3)<|.ite 93
 (.step (.bin .eql 91 35)<|.step (.ml [])<|.step (.mk [35, 95])<|.step (.mget 96 38 91)<|.step (.cell 0 97)<|.step (.cell 1 97)<|.step (.call 40 [98, 99, 91, 92] 0)<|.step (.call 40 [98, 99, 91, 92] 1) <|
 .step (.un .not 101)<|.ite 102
 (.step (.cb false)<|.ret [33, 103])
 (.step (.bin .lss 3 3)<|.ite 103
 (.step (.cb false)<|.ret [33, 104])
 (.step (.ci .i64 1)<|.step (.bin .add 6 104)<|.tail 1 [0, 1, 2, 3, 4, 5, 105, 38, 8, 9, 10, 88, 89])))
 (.step (.bin .lss 3 3)<|.ite 94
 (.step (.cb false)<|.ret [33, 95])
 (.step (.ci .i64 1)<|.step (.bin .add 6 95)<|.tail 1 [0, 1, 2, 3, 4, 5, 96, 38, 8, 9, 10, 88, 89])))
 (.step (.call 39 [8, 9, 3, 10] 0)<|.step (.call 39 [8, 9, 3, 10] 1)<|.step (.call 39 [8, 9, 3, 10] 2)<|.step (.call 39 [8, 9, 3, 10] 3)<|.ite 61
 (.step (.bin .eql 59 35)<|.step (.ml [])<|.step (.mk [35, 63])<|.step (.mget 64 38 59)<|.step (.cell 0 65)<|.step (.cell 1 65)<|.step (.call 40 [66, 67, 59, 60] 0)<|.step (.call 40 [66, 67, 59, 60] 1) <|
 .step (.un .not 69)<|.ite 70
 (.step (.cb false)<|.ret [33, 71])
 (.step (.bin .lss 3 3)<|.ite 71
 (.step (.cb false)<|.ret [33, 72])
 (.step (.ci .i64 1)<|.step (.bin .add 6 72)<|.tail 1 [0, 1, 2, 3, 4, 5, 73, 38, 8, 9, 10, 31, 32])))
 (.step (.bin .lss 3 3)<|.ite 62
 (.step (.cb false)<|.ret [33, 63])
 (.step (.ci .i64 1)<|.step (.bin .add 6 63)<|.tail 1 [0, 1, 2, 3, 4, 5, 64, 38, 8, 9, 10, 31, 32]))))
 (.step (.call 39 [8, 9, 3, 10] 0)<|.step (.call 39 [8, 9, 3, 10] 1)<|.step (.call 39 [8, 9, 3, 10] 2)<|.step (.call 39 [8, 9, 3, 10] 3)<|.ite 55
 (.step (.bin .eql 53 35)<|.step (.ml [])<|.step (.mk [35, 57])<|.step (.mget 58 38 53)<|.step (.cell 0 59)<|.step (.cell 1 59)<|.step (.call 40 [60, 61, 53, 54] 0)<|.step (.call 40 [60, 61, 53, 54] 1) <|
 .step (.un .not 63)<|.ite 64
 (.step (.cb false)<|.ret [33, 65])
 (.step (.bin .lss 3 3)<|.ite 65
 (.step (.cb false)<|.ret [33, 66])
 (.step (.ci .i64 1)<|.step (.bin .add 6 66)<|.tail 1 [0, 1, 2, 3, 4, 5, 67, 38, 8, 9, 10, 31, 32])))
 (.step (.bin .lss 3 3)<|.ite 56
 (.step (.cb false)<|.ret [33, 57])
 (.step (.ci .i64 1)<|.step (.bin .add 6 57)<|.tail 1 [0, 1, 2, 3, 4, 5, 58, 38, 8, 9, 10, 31, 32])))))
 (.step (.call 39 [8, 9, 3, 10] 0)<|.step (.call 39 [8, 9, 3, 10] 1)<|.step (.call 39 [8, 9, 3, 10] 2)<|.step (.call 39 [8, 9, 3, 10] 3)<|.ite 51
 (.step (.bin .eql 49 35)<|.step (.ml [])<|.step (.mk [35, 53])<|.step (.mget 54 38 49)<|.step (.cell 0 55)<|.step (.cell 1 55)<|.step (.call 40 [56, 57, 49, 50] 0)<|.step (.call 40 [56, 57, 49, 50] 1) <|
 .step (.un .not 59)<|.ite 60
 (.step (.cb false)<|.ret [33, 61])
 (.step (.bin .lss 3 3)<|.ite 61
 (.step (.cb false)<|.ret [33, 62])
 (.step (.ci .i64 1)<|.step (.bin .add 6 62)<|.tail 1 [0, 1, 2, 3, 4, 5, 63, 38, 8, 9, 10, 31, 32])))
 (.step (.bin .lss 3 3)<|.ite 52
 (.step (.cb false)<|.ret [33, 53])
 (.step (.ci .i64 1)<|.step (.bin .add 6 53)<|.tail 1 [0, 1, 2, 3, 4, 5, 54, 38, 8, 9, 10, 31, 32])))))
 (.step (.call 47 [8, 31, 32] 0)<|.step (.call 47 [8, 31, 32] 1)<|.step (.call 47 [8, 31, 32] 2)<|.step (.call 47 [8, 31, 32] 3)<|.step (.call 47 [8, 31, 32] 4)<|.step (.call 47 [8, 31, 32] 5) <|
 .step (.bin .eql 40 33)<|.ite 41
 (.step (.ci .u64 0)<|.step (.cb false)<|.step (.cs [])<|.step (.ml [])<|.step (.mk [36, 42, 42, 42, 42, 42, 42, 42, 42, 42, 37, 38, 42, 42, 42, 42, 33, 43, 44, 44, 44, 45, 39, 45]) <|
 .step (.ml [46])<|.step (.app 24 264 1 47)<|.step (.len 0)<|.step (.bin .lss 6 49)<|.ite 50
 (.step (.len 48)<|.step (.bin .gtr 51 33)<|.ite 52
 (.step (.at 1 0 6)<|.step (.cell 0 53)<|.step (.conv .i64 54)<|.step (.bin .rem 55 51)<|.step (.idx 48 56)<|.step (.at 24 48 57)<|.step (.cell 0 58)<|.step (.cell 1 58)<|.step (.cell 2 58) <|
 .step (.cell 3 58)<|.step (.cell 4 58)<|.step (.cell 5 58)<|.step (.cell 6 58)<|.step (.cell 7 58)<|.step (.cell 8 58)<|.step (.cell 9 58)<|.step (.cell 10 58)<|.step (.cell 11 58) <|
 .step (.cell 12 58)<|.step (.cell 13 58)<|.step (.cell 14 58)<|.step (.cell 15 58)<|.step (.cell 16 58)<|.step (.cell 17 58)<|.step (.cell 18 58)<|.step (.cell 19 58)<|.step (.cell 20 58) <|
 .step (.cell 21 58)<|.step (.cell 22 58)<|.step (.cell 23 58)<|.step (.call 56 [59, 60, 61, 62, 63, 64, 65, 66, 67, 68, 69, 70, 71, 72, 73, 74, 75, 76, 77, 78, 79, 80, 81, 82, 8, 9, 3, 10] 0) <|
 .step (.call 56 [59, 60, 61, 62, 63, 64, 65, 66, 67, 68, 69, 70, 71, 72, 73, 74, 75, 76, 77, 78, 79, 80, 81, 82, 8, 9, 3, 10] 1)<|.step (.call 56 [59, 60, 61, 62, 63, 64, 65, 66, 67, 68, 69, 70, 71, 72, 73, 74, 75, 76, 77, 78, 79, 80, 81, 82, 8, 9, 3, 10] 2) <|
 .step (.call 56 [59, 60, 61, 62, 63, 64, 65, 66, 67, 68, 69, 70, 71, 72, 73, 74, 75, 76, 77, 78, 79, 80, 81, 82, 8, 9, 3, 10] 3)<|.step (.call 56 [59, 60, 61, 62, 63, 64, 65, 66, 67, 68, 69, 70, 71, 72, 73, 74, 75, 76, 77, 78, 79, 80, 81, 82, 8, 9, 3, 10] 4) <|
 .step (.call 56 [59, 60, 61, 62, 63, 64, 65, 66, 67, 68, 69, 70, 71, 72, 73, 74, 75, 76, 77, 78, 79, 80, 81, 82, 8, 9, 3, 10] 5)<|.step (.call 56 [59, 60, 61, 62, 63, 64, 65, 66, 67, 68, 69, 70, 71, 72, 73, 74, 75, 76, 77, 78, 79, 80, 81, 82, 8, 9, 3, 10] 6) <|
 .step (.call 56 [59, 60, 61, 62, 63, 64, 65, 66, 67, 68, 69, 70, 71, 72, 73, 74, 75, 76, 77, 78, 79, 80, 81, 82, 8, 9, 3, 10] 7)<|.step (.call 56 [59, 60, 61, 62, 63, 64, 65, 66, 67, 68, 69, 70, 71, 72, 73, 74, 75, 76, 77, 78, 79, 80, 81, 82, 8, 9, 3, 10] 8) <|
 .step (.mk [84, 42, 42, 42, 42, 42, 42, 42, 42, 42, 85, 42, 42, 42, 86, 87, 33, 43, 44, 44, 44, 45, 45, 45])<|.step (.ml [92])<|.step (.app 24 264 2 93)<|.step (.len 94)<|.step (.bin .gtr 95 33) <|
 .ite 96
 (.step (.ci .u8 3)<|.step (.bin .rem 54 97)<|.step (.ci .u8 0)<|.step (.bin .eql 98 99)<|.ite 100
 (.step (.bin .quo 54 97)<|.step (.conv .i64 101)<|.step (.bin .rem 102 95)<|.step (.idx 94 103)<|.step (.at 24 94 104)<|.step (.cell 0 105)<|.step (.cell 1 105)<|.step (.cell 2 105) <|
 .step (.cell 3 105)<|.step (.cell 4 105)<|.step (.cell 5 105)<|.step (.cell 6 105)<|.step (.cell 7 105)<|.step (.cell 8 105)<|.step (.cell 9 105)<|.step (.cell 10 105)<|.step (.cell 11 105) <|
 .step (.cell 12 105)<|.step (.cell 13 105)<|.step (.cell 14 105)<|.step (.cell 15 105)<|.step (.cell 16 105)<|.step (.cell 17 105)<|.step (.cell 18 105)<|.step (.cell 19 105)<|.step (.cell 20 105) <|
 .step (.cell 21 105)<|.step (.cell 22 105)<|.step (.cell 23 105)<|.step (.call 101 [106, 107, 108, 109, 110, 111, 112, 113, 114, 115, 116, 117, 118, 119, 120, 121, 122, 123, 124, 125, 126, 127, 128, 129, 8, 31, 32] 0) <|
 .step (.call 101 [106, 107, 108, 109, 110, 111, 112, 113, 114, 115, 116, 117, 118, 119, 120, 121, 122, 123, 124, 125, 126, 127, 128, 129, 8, 31, 32] 1)<|.step (.call 101 [106, 107, 108, 109, 110, 111, 112, 113, 114, 115, 116, 117, 118, 119, 120, 121, 122, 123, 124, 125, 126, 127, 128, 129, 8, 31, 32] 2) <|
 .step (.call 39 [8, 89, 90, 91] 0)<|.step (.call 39 [8, 89, 90, 91] 1)<|.step (.call 39 [8, 89, 90, 91] 2)<|.step (.call 39 [8, 89, 90, 91] 3)<|.ite 136
 (.step (.bin .eql 134 42)<|.step (.mk [42, 45])<|.step (.mget 138 7 134)<|.step (.cell 0 139)<|.step (.cell 1 139)<|.step (.call 40 [140, 141, 134, 135] 0)<|.step (.call 40 [140, 141, 134, 135] 1) <|
 .step (.un .not 143)<|.ite 144
 (.ret [33, 43])
 (.step (.bin .lss 90 3)<|.ite 145
 (.ret [33, 43])
 (.step (.ci .i64 1)<|.step (.bin .add 6 146)<|.tail 1 [0, 48, 94, 90, 4, 5, 147, 7, 8, 89, 91, 131, 132])))
 (.step (.bin .lss 90 3)<|.ite 137
 (.ret [33, 43])
 (.step (.ci .i64 1)<|.step (.bin .add 6 138)<|.tail 1 [0, 48, 94, 90, 4, 5, 139, 7, 8, 89, 91, 131, 132])))
 (.step (.call 39 [8, 89, 90, 91] 0)<|.step (.call 39 [8, 89, 90, 91] 1)<|.step (.call 39 [8, 89, 90, 91] 2)<|.step (.call 39 [8, 89, 90, 91] 3)<|.ite 104
 (.step (.bin .eql 102 42)<|.step (.mk [42, 45])<|.step (.mget 106 7 102)<|.step (.cell 0 107)<|.step (.cell 1 107)<|.step (.call 40 [108, 109, 102, 103] 0)<|.step (.call 40 [108, 109, 102, 103] 1) <|
 .step (.un .not 111)<|.ite 112
 (.ret [33, 43])
 (.step (.bin .lss 90 3)<|.ite 113
 (.ret [33, 43])
 (.step (.ci .i64 1)<|.step (.bin .add 6 114)<|.tail 1 [0, 48, 94, 90, 4, 5, 115, 7, 8, 89, 91, 31, 32])))
 (.step (.bin .lss 90 3)<|.ite 105
 (.ret [33, 43])
 (.step (.ci .i64 1)<|.step (.bin .add 6 106)<|.tail 1 [0, 48, 94, 90, 4, 5, 107, 7, 8, 89, 91, 31, 32]))))
 (.step (.call 39 [8, 89, 90, 91] 0)<|.step (.call 39 [8, 89, 90, 91] 1)<|.step (.call 39 [8, 89, 90, 91] 2)<|.step (.call 39 [8, 89, 90, 91] 3)<|.ite 100
 (.step (.bin .eql 98 42)<|.step (.mk [42, 45])<|.step (.mget 102 7 98)<|.step (.cell 0 103)<|.step (.cell 1 103)<|.step (.call 40 [104, 105, 98, 99] 0)<|.step (.call 40 [104, 105, 98, 99] 1) <|
 .step (.un .not 107)<|.ite 108
 (.ret [33, 43])
 (.step (.bin .lss 90 3)<|.ite 109
 (.ret [33, 43])
 (.step (.ci .i64 1)<|.step (.bin .add 6 110)<|.tail 1 [0, 48, 94, 90, 4, 5, 111, 7, 8, 89, 91, 31, 32])))
 (.step (.bin .lss 90 3)<|.ite 101
 (.ret [33, 43])
 (.step (.ci .i64 1)<|.step (.bin .add 6 102)<|.tail 1 [0, 48, 94, 90, 4, 5, 103, 7, 8, 89, 91, 31, 32]))))
 (.step (.len 2)<|.step (.bin .gtr 53 33)<|.ite 54
 (.step (.at 1 0 6)<|.step (.cell 0 55)<|.step (.ci .u8 3)<|.step (.bin .rem 56 57)<|.step (.ci .u8 0)<|.step (.bin .eql 58 59)<|.ite 60
 (.step (.bin .quo 56 57)<|.step (.conv .i64 61)<|.step (.bin .rem 62 53)<|.step (.idx 2 63)<|.step (.at 24 2 64)<|.step (.cell 0 65)<|.step (.cell 1 65)<|.step (.cell 2 65)<|.step (.cell 3 65) <|
 .step (.cell 4 65)<|.step (.cell 5 65)<|.step (.cell 6 65)<|.step (.cell 7 65)<|.step (.cell 8 65)<|.step (.cell 9 65)<|.step (.cell 10 65)<|.step (.cell 11 65)<|.step (.cell 12 65) <|
 .step (.cell 13 65)<|.step (.cell 14 65)<|.step (.cell 15 65)<|.step (.cell 16 65)<|.step (.cell 17 65)<|.step (.cell 18 65)<|.step (.cell 19 65)<|.step (.cell 20 65)<|.step (.cell 21 65) <|
 .step (.cell 22 65)<|.step (.cell 23 65)<|.step (.call 101 [66, 67, 68, 69, 70, 71, 72, 73, 74, 75, 76, 77, 78, 79, 80, 81, 82, 83, 84, 85, 86, 87, 88, 89, 8, 31, 32] 0)<|.step (.call 101 [66, 67, 68, 69, 70, 71, 72, 73, 74, 75, 76, 77, 78, 79, 80, 81, 82, 83, 84, 85, 86, 87, 88, 89, 8, 31, 32] 1) <|
 .step (.call 101 [66, 67, 68, 69, 70, 71, 72, 73, 74, 75, 76, 77, 78, 79, 80, 81, 82, 83, 84, 85, 86, 87, 88, 89, 8, 31, 32] 2)<|.step (.call 39 [8, 9, 3, 10] 0)<|.step (.call 39 [8, 9, 3, 10] 1) <|
 .step (.call 39 [8, 9, 3, 10] 2)<|.step (.call 39 [8, 9, 3, 10] 3)<|.ite 96
 (.step (.bin .eql 94 42)<|.step (.mk [42, 45])<|.step (.mget 98 7 94)<|.step (.cell 0 99)<|.step (.cell 1 99)<|.step (.call 40 [100, 101, 94, 95] 0)<|.step (.call 40 [100, 101, 94, 95] 1) <|
 .step (.un .not 103)<|.ite 104
 (.ret [33, 43])
 (.step (.bin .lss 3 3)<|.ite 105
 (.ret [33, 43])
 (.step (.ci .i64 1)<|.step (.bin .add 6 106)<|.tail 1 [0, 48, 2, 3, 4, 5, 107, 7, 8, 9, 10, 91, 92])))
 (.step (.bin .lss 3 3)<|.ite 97
 (.ret [33, 43])
 (.step (.ci .i64 1)<|.step (.bin .add 6 98)<|.tail 1 [0, 48, 2, 3, 4, 5, 99, 7, 8, 9, 10, 91, 92])))
 (.step (.call 39 [8, 9, 3, 10] 0)<|.step (.call 39 [8, 9, 3, 10] 1)<|.step (.call 39 [8, 9, 3, 10] 2)<|.step (.call 39 [8, 9, 3, 10] 3)<|.ite 64
 (.step (.bin .eql 62 42)<|.step (.mk [42, 45])<|.step (.mget 66 7 62)<|.step (.cell 0 67)<|.step (.cell 1 67)<|.step (.call 40 [68, 69, 62, 63] 0)<|.step (.call 40 [68, 69, 62, 63] 1) <|
 .step (.un .not 71)<|.ite 72
 (.ret [33, 43])
 (.step (.bin .lss 3 3)<|.ite 73
 (.ret [33, 43])
 (.step (.ci .i64 1)<|.step (.bin .add 6 74)<|.tail 1 [0, 48, 2, 3, 4, 5, 75, 7, 8, 9, 10, 31, 32])))
 (.step (.bin .lss 3 3)<|.ite 65
 (.ret [33, 43])
 (.step (.ci .i64 1)<|.step (.bin .add 6 66)<|.tail 1 [0, 48, 2, 3, 4, 5, 67, 7, 8, 9, 10, 31, 32]))))
 (.step (.call 39 [8, 9, 3, 10] 0)<|.step (.call 39 [8, 9, 3, 10] 1)<|.step (.call 39 [8, 9, 3, 10] 2)<|.step (.call 39 [8, 9, 3, 10] 3)<|.ite 58
 (.step (.bin .eql 56 42)<|.step (.mk [42, 45])<|.step (.mget 60 7 56)<|.step (.cell 0 61)<|.step (.cell 1 61)<|.step (.call 40 [62, 63, 56, 57] 0)<|.step (.call 40 [62, 63, 56, 57] 1) <|
 .step (.un .not 65)<|.ite 66
 (.ret [33, 43])
 (.step (.bin .lss 3 3)<|.ite 67
 (.ret [33, 43])
 (.step (.ci .i64 1)<|.step (.bin .add 6 68)<|.tail 1 [0, 48, 2, 3, 4, 5, 69, 7, 8, 9, 10, 31, 32])))
 (.step (.bin .lss 3 3)<|.ite 59
 (.ret [33, 43])
 (.step (.ci .i64 1)<|.step (.bin .add 6 60)<|.tail 1 [0, 48, 2, 3, 4, 5, 61, 7, 8, 9, 10, 31, 32])))))
 (.step (.call 39 [8, 9, 3, 10] 0)<|.step (.call 39 [8, 9, 3, 10] 1)<|.step (.call 39 [8, 9, 3, 10] 2)<|.step (.call 39 [8, 9, 3, 10] 3)<|.ite 54
 (.step (.bin .eql 52 42)<|.step (.mk [42, 45])<|.step (.mget 56 7 52)<|.step (.cell 0 57)<|.step (.cell 1 57)<|.step (.call 40 [58, 59, 52, 53] 0)<|.step (.call 40 [58, 59, 52, 53] 1) <|
 .step (.un .not 61)<|.ite 62
 (.ret [33, 43])
 (.step (.bin .lss 3 3)<|.ite 63
 (.ret [33, 43])
 (.step (.ci .i64 1)<|.step (.bin .add 6 64)<|.tail 1 [0, 48, 2, 3, 4, 5, 65, 7, 8, 9, 10, 31, 32])))
 (.step (.bin .lss 3 3)<|.ite 55
 (.ret [33, 43])
 (.step (.ci .i64 1)<|.step (.bin .add 6 56)<|.tail 1 [0, 48, 2, 3, 4, 5, 57, 7, 8, 9, 10, 31, 32]))))
 (.step (.len 0)<|.step (.bin .lss 6 42)<|.ite 43
 (.step (.len 1)<|.step (.bin .gtr 44 33)<|.ite 45
 (.step (.at 1 0 6)<|.step (.cell 0 46)<|.step (.conv .i64 47)<|.step (.bin .rem 48 44)<|.step (.idx 1 49)<|.step (.at 24 1 50)<|.step (.cell 0 51)<|.step (.cell 1 51)<|.step (.cell 2 51) <|
 .step (.cell 3 51)<|.step (.cell 4 51)<|.step (.cell 5 51)<|.step (.cell 6 51)<|.step (.cell 7 51)<|.step (.cell 8 51)<|.step (.cell 9 51)<|.step (.cell 10 51)<|.step (.cell 11 51) <|
 .step (.cell 12 51)<|.step (.cell 13 51)<|.step (.cell 14 51)<|.step (.cell 15 51)<|.step (.cell 16 51)<|.step (.cell 17 51)<|.step (.cell 18 51)<|.step (.cell 19 51)<|.step (.cell 20 51) <|
 .step (.cell 21 51)<|.step (.cell 22 51)<|.step (.cell 23 51)<|.step (.call 56 [52, 53, 54, 55, 56, 57, 58, 59, 60, 61, 62, 63, 64, 65, 66, 67, 68, 69, 70, 71, 72, 73, 74, 75, 8, 9, 3, 10] 0) <|
 .step (.call 56 [52, 53, 54, 55, 56, 57, 58, 59, 60, 61, 62, 63, 64, 65, 66, 67, 68, 69, 70, 71, 72, 73, 74, 75, 8, 9, 3, 10] 1)<|.step (.call 56 [52, 53, 54, 55, 56, 57, 58, 59, 60, 61, 62, 63, 64, 65, 66, 67, 68, 69, 70, 71, 72, 73, 74, 75, 8, 9, 3, 10] 2) <|
 .step (.call 56 [52, 53, 54, 55, 56, 57, 58, 59, 60, 61, 62, 63, 64, 65, 66, 67, 68, 69, 70, 71, 72, 73, 74, 75, 8, 9, 3, 10] 3)<|.step (.call 56 [52, 53, 54, 55, 56, 57, 58, 59, 60, 61, 62, 63, 64, 65, 66, 67, 68, 69, 70, 71, 72, 73, 74, 75, 8, 9, 3, 10] 4) <|
 .step (.call 56 [52, 53, 54, 55, 56, 57, 58, 59, 60, 61, 62, 63, 64, 65, 66, 67, 68, 69, 70, 71, 72, 73, 74, 75, 8, 9, 3, 10] 5)<|.step (.call 56 [52, 53, 54, 55, 56, 57, 58, 59, 60, 61, 62, 63, 64, 65, 66, 67, 68, 69, 70, 71, 72, 73, 74, 75, 8, 9, 3, 10] 6) <|
 .step (.call 56 [52, 53, 54, 55, 56, 57, 58, 59, 60, 61, 62, 63, 64, 65, 66, 67, 68, 69, 70, 71, 72, 73, 74, 75, 8, 9, 3, 10] 7)<|.step (.call 56 [52, 53, 54, 55, 56, 57, 58, 59, 60, 61, 62, 63, 64, 65, 66, 67, 68, 69, 70, 71, 72, 73, 74, 75, 8, 9, 3, 10] 8) <|
 .step (.ci .u64 0)<|.step (.cb false)<|.step (.cs [])<|.step (.ml [])<|.step (.mk [77, 85, 85, 85, 85, 85, 85, 85, 85, 85, 78, 85, 85, 85, 79, 80, 33, 86, 87, 87, 87, 88, 88, 88]) <|
 .step (.ml [89])<|.step (.app 24 264 2 90)<|.step (.len 91)<|.step (.bin .gtr 92 33)<|.ite 93
 (.step (.ci .u8 3)<|.step (.bin .rem 47 94)<|.step (.ci .u8 0)<|.step (.bin .eql 95 96)<|.ite 97
 (.step (.bin .quo 47 94)<|.step (.conv .i64 98)<|.step (.bin .rem 99 92)<|.step (.idx 91 100)<|.step (.at 24 91 101)<|.step (.cell 0 102)<|.step (.cell 1 102)<|.step (.cell 2 102) <|
 .step (.cell 3 102)<|.step (.cell 4 102)<|.step (.cell 5 102)<|.step (.cell 6 102)<|.step (.cell 7 102)<|.step (.cell 8 102)<|.step (.cell 9 102)<|.step (.cell 10 102)<|.step (.cell 11 102) <|
 .step (.cell 12 102)<|.step (.cell 13 102)<|.step (.cell 14 102)<|.step (.cell 15 102)<|.step (.cell 16 102)<|.step (.cell 17 102)<|.step (.cell 18 102)<|.step (.cell 19 102)<|.step (.cell 20 102) <|
 .step (.cell 21 102)<|.step (.cell 22 102)<|.step (.cell 23 102)<|.step (.call 101 [103, 104, 105, 106, 107, 108, 109, 110, 111, 112, 113, 114, 115, 116, 117, 118, 119, 120, 121, 122, 123, 124, 125, 126, 8, 31, 32] 0) <|
 .step (.call 101 [103, 104, 105, 106, 107, 108, 109, 110, 111, 112, 113, 114, 115, 116, 117, 118, 119, 120, 121, 122, 123, 124, 125, 126, 8, 31, 32] 1)<|.step (.call 101 [103, 104, 105, 106, 107, 108, 109, 110, 111, 112, 113, 114, 115, 116, 117, 118, 119, 120, 121, 122, 123, 124, 125, 126, 8, 31, 32] 2) <|
 .step (.call 39 [8, 82, 83, 84] 0)<|.step (.call 39 [8, 82, 83, 84] 1)<|.step (.call 39 [8, 82, 83, 84] 2)<|.step (.call 39 [8, 82, 83, 84] 3)<|.ite 133
 (.step (.bin .eql 131 85)<|.step (.mk [85, 88])<|.step (.mget 135 7 131)<|.step (.cell 0 136)<|.step (.cell 1 136)<|.step (.call 40 [137, 138, 131, 132] 0)<|.step (.call 40 [137, 138, 131, 132] 1) <|
 .step (.un .not 140)<|.ite 141
 (.ret [33, 86])
 (.step (.bin .lss 83 3)<|.ite 142
 (.ret [33, 86])
 (.step (.ci .i64 1)<|.step (.bin .add 6 143)<|.tail 1 [0, 1, 91, 83, 4, 5, 144, 7, 8, 82, 84, 128, 129])))
 (.step (.bin .lss 83 3)<|.ite 134
 (.ret [33, 86])
 (.step (.ci .i64 1)<|.step (.bin .add 6 135)<|.tail 1 [0, 1, 91, 83, 4, 5, 136, 7, 8, 82, 84, 128, 129])))
 (.step (.call 39 [8, 82, 83, 84] 0)<|.step (.call 39 [8, 82, 83, 84] 1)<|.step (.call 39 [8, 82, 83, 84] 2)<|.step (.call 39 [8, 82, 83, 84] 3)<|.ite 101
 (.step (.bin .eql 99 85)<|.step (.mk [85, 88])<|.step (.mget 103 7 99)<|.step (.cell 0 104)<|.step (.cell 1 104)<|.step (.call 40 [105, 106, 99, 100] 0)<|.step (.call 40 [105, 106, 99, 100] 1) <|
 .step (.un .not 108)<|.ite 109
 (.ret [33, 86])
 (.step (.bin .lss 83 3)<|.ite 110
 (.ret [33, 86])
 (.step (.ci .i64 1)<|.step (.bin .add 6 111)<|.tail 1 [0, 1, 91, 83, 4, 5, 112, 7, 8, 82, 84, 31, 32])))
 (.step (.bin .lss 83 3)<|.ite 102
 (.ret [33, 86])
 (.step (.ci .i64 1)<|.step (.bin .add 6 103)<|.tail 1 [0, 1, 91, 83, 4, 5, 104, 7, 8, 82, 84, 31, 32]))))
 (.step (.call 39 [8, 82, 83, 84] 0)<|.step (.call 39 [8, 82, 83, 84] 1)<|.step (.call 39 [8, 82, 83, 84] 2)<|.step (.call 39 [8, 82, 83, 84] 3)<|.ite 97
 (.step (.bin .eql 95 85)<|.step (.mk [85, 88])<|.step (.mget 99 7 95)<|.step (.cell 0 100)<|.step (.cell 1 100)<|.step (.call 40 [101, 102, 95, 96] 0)<|.step (.call 40 [101, 102, 95, 96] 1) <|
 .step (.un .not 104)<|.ite 105
 (.ret [33, 86])
 (.step (.bin .lss 83 3)<|.ite 106
 (.ret [33, 86])
 (.step (.ci .i64 1)<|.step (.bin .add 6 107)<|.tail 1 [0, 1, 91, 83, 4, 5, 108, 7, 8, 82, 84, 31, 32])))
 (.step (.bin .lss 83 3)<|.ite 98
 (.ret [33, 86])
 (.step (.ci .i64 1)<|.step (.bin .add 6 99)<|.tail 1 [0, 1, 91, 83, 4, 5, 100, 7, 8, 82, 84, 31, 32]))))
 (.step (.len 2)<|.step (.bin .gtr 46 33)<|.ite 47
 (.step (.at 1 0 6)<|.step (.cell 0 48)<|.step (.ci .u8 3)<|.step (.bin .rem 49 50)<|.step (.ci .u8 0)<|.step (.bin .eql 51 52)<|.ite 53
 (.step (.bin .quo 49 50)<|.step (.conv .i64 54)<|.step (.bin .rem 55 46)<|.step (.idx 2 56)<|.step (.at 24 2 57)<|.step (.cell 0 58)<|.step (.cell 1 58)<|.step (.cell 2 58)<|.step (.cell 3 58) <|
 .step (.cell 4 58)<|.step (.cell 5 58)<|.step (.cell 6 58)<|.step (.cell 7 58)<|.step (.cell 8 58)<|.step (.cell 9 58)<|.step (.cell 10 58)<|.step (.cell 11 58)<|.step (.cell 12 58) <|
 .step (.cell 13 58)<|.step (.cell 14 58)<|.step (.cell 15 58)<|.step (.cell 16 58)<|.step (.cell 17 58)<|.step (.cell 18 58)<|.step (.cell 19 58)<|.step (.cell 20 58)<|.step (.cell 21 58) <|
 .step (.cell 22 58)<|.step (.cell 23 58)<|.step (.call 101 [59, 60, 61, 62, 63, 64, 65, 66, 67, 68, 69, 70, 71, 72, 73, 74, 75, 76, 77, 78, 79, 80, 81, 82, 8, 31, 32] 0)<|.step (.call 101 [59, 60, 61, 62, 63, 64, 65, 66, 67, 68, 69, 70, 71, 72, 73, 74, 75, 76, 77, 78, 79, 80, 81, 82, 8, 31, 32] 1) <|
 .step (.call 101 [59, 60, 61, 62, 63, 64, 65, 66, 67, 68, 69, 70, 71, 72, 73, 74, 75, 76, 77, 78, 79, 80, 81, 82, 8, 31, 32] 2)<|.step (.call 39 [8, 9, 3, 10] 0)<|.step (.call 39 [8, 9, 3, 10] 1) <|
 .step (.call 39 [8, 9, 3, 10] 2)<|.step (.call 39 [8, 9, 3, 10] 3)<|.ite 89
 (.step (.ci .u64 0)<|.step (.bin .eql 87 90)<|.step (.ml [])<|.step (.mk [90, 92])<|.step (.mget 93 7 87)<|.step (.cell 0 94)<|.step (.cell 1 94)<|.step (.call 40 [95, 96, 87, 88] 0) <|
 .step (.call 40 [95, 96, 87, 88] 1)<|.step (.un .not 98)<|.ite 99
 (.step (.cb false)<|.ret [33, 100])
 (.step (.bin .lss 3 3)<|.ite 100
 (.step (.cb false)<|.ret [33, 101])
 (.step (.ci .i64 1)<|.step (.bin .add 6 101)<|.tail 1 [0, 1, 2, 3, 4, 5, 102, 7, 8, 9, 10, 84, 85])))
 (.step (.bin .lss 3 3)<|.ite 90
 (.step (.cb false)<|.ret [33, 91])
 (.step (.ci .i64 1)<|.step (.bin .add 6 91)<|.tail 1 [0, 1, 2, 3, 4, 5, 92, 7, 8, 9, 10, 84, 85])))
 (.step (.call 39 [8, 9, 3, 10] 0)<|.step (.call 39 [8, 9, 3, 10] 1)<|.step (.call 39 [8, 9, 3, 10] 2)<|.step (.call 39 [8, 9, 3, 10] 3)<|.ite 57
 (.step (.ci .u64 0)<|.step (.bin .eql 55 58)<|.step (.ml [])<|.step (.mk [58, 60])<|.step (.mget 61 7 55)<|.step (.cell 0 62)<|.step (.cell 1 62)<|.step (.call 40 [63, 64, 55, 56] 0) <|
 .step (.call 40 [63, 64, 55, 56] 1)<|.step (.un .not 66)<|.ite 67
 (.step (.cb false)<|.ret [33, 68])
 (.step (.bin .lss 3 3)<|.ite 68
 (.step (.cb false)<|.ret [33, 69])
 (.step (.ci .i64 1)<|.step (.bin .add 6 69)<|.tail 1 [0, 1, 2, 3, 4, 5, 70, 7, 8, 9, 10, 31, 32])))
 (.step (.bin .lss 3 3)<|.ite 58
 (.step (.cb false)<|.ret [33, 59])
 (.step (.ci .i64 1)<|.step (.bin .add 6 59)<|.tail 1 [0, 1, 2, 3, 4, 5, 60, 7, 8, 9, 10, 31, 32]))))
 (.step (.call 39 [8, 9, 3, 10] 0)<|.step (.call 39 [8, 9, 3, 10] 1)<|.step (.call 39 [8, 9, 3, 10] 2)<|.step (.call 39 [8, 9, 3, 10] 3)<|.ite 51
 (.step (.ci .u64 0)<|.step (.bin .eql 49 52)<|.step (.ml [])<|.step (.mk [52, 54])<|.step (.mget 55 7 49)<|.step (.cell 0 56)<|.step (.cell 1 56)<|.step (.call 40 [57, 58, 49, 50] 0) <|
 .step (.call 40 [57, 58, 49, 50] 1)<|.step (.un .not 60)<|.ite 61
 (.step (.cb false)<|.ret [33, 62])
 (.step (.bin .lss 3 3)<|.ite 62
 (.step (.cb false)<|.ret [33, 63])
 (.step (.ci .i64 1)<|.step (.bin .add 6 63)<|.tail 1 [0, 1, 2, 3, 4, 5, 64, 7, 8, 9, 10, 31, 32])))
 (.step (.bin .lss 3 3)<|.ite 52
 (.step (.cb false)<|.ret [33, 53])
 (.step (.ci .i64 1)<|.step (.bin .add 6 53)<|.tail 1 [0, 1, 2, 3, 4, 5, 54, 7, 8, 9, 10, 31, 32])))))
 (.step (.call 39 [8, 9, 3, 10] 0)<|.step (.call 39 [8, 9, 3, 10] 1)<|.step (.call 39 [8, 9, 3, 10] 2)<|.step (.call 39 [8, 9, 3, 10] 3)<|.ite 47
 (.step (.ci .u64 0)<|.step (.bin .eql 45 48)<|.step (.ml [])<|.step (.mk [48, 50])<|.step (.mget 51 7 45)<|.step (.cell 0 52)<|.step (.cell 1 52)<|.step (.call 40 [53, 54, 45, 46] 0) <|
 .step (.call 40 [53, 54, 45, 46] 1)<|.step (.un .not 56)<|.ite 57
 (.step (.cb false)<|.ret [33, 58])
 (.step (.bin .lss 3 3)<|.ite 58
 (.step (.cb false)<|.ret [33, 59])
 (.step (.ci .i64 1)<|.step (.bin .add 6 59)<|.tail 1 [0, 1, 2, 3, 4, 5, 60, 7, 8, 9, 10, 31, 32])))
 (.step (.bin .lss 3 3)<|.ite 48
 (.step (.cb false)<|.ret [33, 49])
 (.step (.ci .i64 1)<|.step (.bin .add 6 49)<|.tail 1 [0, 1, 2, 3, 4, 5, 50, 7, 8, 9, 10, 31, 32]))))))))
 (.step (.ci .i64 1)<|.ret [14, 9, 3, 10, 11, 12])
def d20 : PDef := .tree 4<|.step (.bin .lss 3 2)<|.ite 4
 (.step (.at 2 1 3)<|.step (.cell 0 5)<|.step (.cell 1 5)<|.step (.mk [6, 7])<|.step (.call 21 [8] 0)<|.step (.ci .i64 0)<|.step (.bin .neq 9 10)<|.ite 11
 (.ret [10, 9])
 (.step (.call 7 [6] 0)<|.step (.bin .gtr 3 10)<|.ite 13
 (.step (.bin .eql 12 0)<|.ite 14
 (.step (.ci .i64 14)<|.ret [10, 15])
 (.step (.bin .lss 12 0)<|.ite 15
 (.step (.ci .i64 7)<|.ret [10, 16])
 (.step (.ci .i64 1)<|.step (.bin .add 3 16)<|.tail 20 [12, 1, 2, 17])))
 (.step (.ci .i64 1)<|.step (.bin .add 3 14)<|.tail 20 [12, 1, 2, 15])))
 (.step (.ci .i64 1)<|.ret [5])
def d46 : PDef := .tree 4<|.step (.bin .lss 3 2)<|.ite 4
 (.step (.at 2 0 3)<|.step (.cell 0 5)<|.step (.cell 1 5)<|.step (.at 2 1 3)<|.step (.cell 0 8)<|.step (.cell 1 8)<|.step (.mk [6, 7])<|.step (.mk [9, 10])<|.step (.binc .neq [1, 1] 11 12) <|
 .ite 13
 (.step (.ci .i64 0)<|.ret [14])
 (.step (.ci .i64 1)<|.step (.bin .add 3 14)<|.tail 46 [0, 1, 2, 15]))
 (.step (.ci .i64 1)<|.ret [5])
def d72 : PDef := .tree 27<|.step (.bin .lss 2 1)<|.ite 27
 (.step (.at 4 0 2)<|.step (.cell 0 28)<|.step (.cell 1 28)<|.step (.cell 2 28)<|.step (.cell 3 28)<|.step (.cs [114, 101, 109, 97, 105, 110, 105, 110, 103])<|.step (.bin .eql 32 33) <|
 .ite 34
 (.step (.call 73 [3, 4, 5, 6, 7, 8, 9, 10, 11, 12, 13, 14, 15, 16, 17, 18, 19, 20, 21, 22, 23, 24, 25, 26] 0)<|.step (.ci .i64 1)<|.step (.bin .add 2 36)<|.tail 72 [0, 1, 37, 3, 4, 5, 6, 7, 8, 9, 10, 11, 12, 13, 14, 15, 16, 17, 18, 19, 20, 21, 22, 23, 24, 25, 26])
 (.step (.cs [97, 108, 108, 111, 119, 101, 100])<|.step (.bin .eql 32 35)<|.ite 36
 (.step (.call 74 [3, 4, 5, 6, 7, 8, 9, 10, 11, 12, 13, 14, 15, 16, 17, 18, 19, 20, 21, 22, 23, 24, 25, 26] 0)<|.step (.ci .i64 1)<|.step (.bin .add 2 38)<|.tail 72 [0, 1, 39, 3, 4, 5, 6, 7, 8, 9, 10, 11, 12, 13, 14, 15, 16, 17, 18, 19, 20, 21, 22, 23, 24, 25, 26])
 (.step (.cs [110, 97, 109, 101])<|.step (.bin .eql 32 37)<|.ite 38
 (.step (.call 75 [3, 4, 5, 6, 7, 8, 9, 10, 11, 12, 13, 14, 15, 16, 17, 18, 19, 20, 21, 22, 23, 24, 25, 26] 0)<|.step (.call 75 [3, 4, 5, 6, 7, 8, 9, 10, 11, 12, 13, 14, 15, 16, 17, 18, 19, 20, 21, 22, 23, 24, 25, 26] 1) <|
 .step (.ci .i64 0)<|.step (.bin .neq 40 41)<|.ite 42
 (.ret [41, 40])
 (.step (.ci .i64 1)<|.step (.bin .add 2 43)<|.tail 72 [0, 1, 44, 3, 4, 5, 6, 7, 8, 9, 10, 11, 12, 13, 14, 15, 16, 17, 18, 19, 20, 21, 22, 23, 24, 25, 26]))
 (.step (.cs [114, 101, 103, 105, 111, 110])<|.step (.bin .eql 32 39)<|.ite 40
 (.step (.call 76 [3, 4, 5, 6, 7, 8, 9, 10, 11, 12, 13, 14, 15, 16, 17, 18, 19, 20, 21, 22, 23, 24, 25, 26] 0)<|.step (.call 76 [3, 4, 5, 6, 7, 8, 9, 10, 11, 12, 13, 14, 15, 16, 17, 18, 19, 20, 21, 22, 23, 24, 25, 26] 1) <|
 .step (.ci .i64 0)<|.step (.bin .neq 42 43)<|.ite 44
 (.ret [43, 42])
 (.step (.ci .i64 1)<|.step (.bin .add 2 45)<|.tail 72 [0, 1, 46, 3, 4, 5, 6, 7, 8, 9, 10, 11, 12, 13, 14, 15, 16, 17, 18, 19, 20, 21, 22, 23, 24, 25, 26]))
 (.step (.cs [110, 111, 116, 101])<|.step (.bin .eql 32 41)<|.ite 42
 (.step (.call 77 [3, 4, 5, 6, 7, 8, 9, 10, 11, 12, 13, 14, 15, 16, 17, 18, 19, 20, 21, 22, 23, 24, 25, 26] 0)<|.step (.call 77 [3, 4, 5, 6, 7, 8, 9, 10, 11, 12, 13, 14, 15, 16, 17, 18, 19, 20, 21, 22, 23, 24, 25, 26] 1) <|
 .step (.ci .i64 0)<|.step (.bin .neq 44 45)<|.ite 46
 (.ret [45, 44])
 (.step (.ci .i64 1)<|.step (.bin .add 2 47)<|.tail 72 [0, 1, 48, 3, 4, 5, 6, 7, 8, 9, 10, 11, 12, 13, 14, 15, 16, 17, 18, 19, 20, 21, 22, 23, 24, 25, 26]))
 (.step (.cs [100, 101, 115, 99, 114])<|.step (.bin .eql 32 43)<|.ite 44
 (.step (.call 78 [3, 4, 5, 6, 7, 8, 9, 10, 11, 12, 13, 14, 15, 16, 17, 18, 19, 20, 21, 22, 23, 24, 25, 26] 0)<|.step (.call 78 [3, 4, 5, 6, 7, 8, 9, 10, 11, 12, 13, 14, 15, 16, 17, 18, 19, 20, 21, 22, 23, 24, 25, 26] 1) <|
 .step (.ci .i64 0)<|.step (.bin .neq 46 47)<|.ite 48
 (.ret [47, 46])
 (.step (.ci .i64 1)<|.step (.bin .add 2 49)<|.tail 72 [0, 1, 50, 3, 4, 5, 6, 7, 8, 9, 10, 11, 12, 13, 14, 15, 16, 17, 18, 19, 20, 21, 22, 23, 24, 25, 26]))
 (.step (.cs [116, 97, 98, 108, 101])<|.step (.bin .eql 32 45)<|.ite 46
 (.step (.call 79 [3, 4, 5, 6, 7, 8, 9, 10, 11, 12, 13, 14, 15, 16, 17, 18, 19, 20, 21, 22, 23, 24, 25, 26] 0)<|.step (.call 79 [3, 4, 5, 6, 7, 8, 9, 10, 11, 12, 13, 14, 15, 16, 17, 18, 19, 20, 21, 22, 23, 24, 25, 26] 1) <|
 .step (.ci .i64 0)<|.step (.bin .neq 48 49)<|.ite 50
 (.ret [49, 48])
 (.step (.ci .i64 1)<|.step (.bin .add 2 51)<|.tail 72 [0, 1, 52, 3, 4, 5, 6, 7, 8, 9, 10, 11, 12, 13, 14, 15, 16, 17, 18, 19, 20, 21, 22, 23, 24, 25, 26]))
 (.step (.cs [105, 100])<|.step (.bin .eql 32 47)<|.ite 48
 (.step (.call 80 [3, 4, 5, 6, 7, 8, 9, 10, 11, 12, 13, 14, 15, 16, 17, 18, 19, 20, 21, 22, 23, 24, 25, 26] 0)<|.step (.ci .i64 1)<|.step (.bin .add 2 50)<|.tail 72 [0, 1, 51, 3, 4, 5, 6, 7, 8, 9, 10, 11, 12, 13, 14, 15, 16, 17, 18, 19, 20, 21, 22, 23, 24, 25, 26])
 (.step (.cs [109, 105, 110])<|.step (.bin .eql 32 49)<|.ite 50
 (.step (.call 81 [3, 4, 5, 6, 7, 8, 9, 10, 11, 12, 13, 14, 15, 16, 17, 18, 19, 20, 21, 22, 23, 24, 25, 26] 0)<|.step (.ci .i64 1)<|.step (.bin .add 2 52)<|.tail 72 [0, 1, 53, 3, 4, 5, 6, 7, 8, 9, 10, 11, 12, 13, 14, 15, 16, 17, 18, 19, 20, 21, 22, 23, 24, 25, 26])
 (.step (.cs [109, 97, 120])<|.step (.bin .eql 32 51)<|.ite 52
 (.step (.call 82 [3, 4, 5, 6, 7, 8, 9, 10, 11, 12, 13, 14, 15, 16, 17, 18, 19, 20, 21, 22, 23, 24, 25, 26] 0)<|.step (.ci .i64 1)<|.step (.bin .add 2 54)<|.tail 72 [0, 1, 55, 3, 4, 5, 6, 7, 8, 9, 10, 11, 12, 13, 14, 15, 16, 17, 18, 19, 20, 21, 22, 23, 24, 25, 26])
 (.step (.cs [99, 104, 111, 115, 101, 110])<|.step (.bin .eql 32 53)<|.ite 54
 (.step (.call 83 [3, 4, 5, 6, 7, 8, 9, 10, 11, 12, 13, 14, 15, 16, 17, 18, 19, 20, 21, 22, 23, 24, 25, 26] 0)<|.step (.ci .i64 1)<|.step (.bin .add 2 56)<|.tail 72 [0, 1, 57, 3, 4, 5, 6, 7, 8, 9, 10, 11, 12, 13, 14, 15, 16, 17, 18, 19, 20, 21, 22, 23, 24, 25, 26])
 (.step (.cs [102, 108, 97, 103, 115])<|.step (.bin .eql 32 55)<|.ite 56
 (.step (.call 84 [3, 4, 5, 6, 7, 8, 9, 10, 11, 12, 13, 14, 15, 16, 17, 18, 19, 20, 21, 22, 23, 24, 25, 26] 0)<|.step (.ci .i64 1)<|.step (.bin .add 2 58)<|.tail 72 [0, 1, 59, 3, 4, 5, 6, 7, 8, 9, 10, 11, 12, 13, 14, 15, 16, 17, 18, 19, 20, 21, 22, 23, 24, 25, 26])
 (.step (.cs [99, 111, 115, 116])<|.step (.bin .eql 32 57)<|.ite 58
 (.step (.call 85 [3, 4, 5, 6, 7, 8, 9, 10, 11, 12, 13, 14, 15, 16, 17, 18, 19, 20, 21, 22, 23, 24, 25, 26] 0)<|.step (.ci .i64 1)<|.step (.bin .add 2 60)<|.tail 72 [0, 1, 61, 3, 4, 5, 6, 7, 8, 9, 10, 11, 12, 13, 14, 15, 16, 17, 18, 19, 20, 21, 22, 23, 24, 25, 26])
 (.step (.cs [112, 114, 105, 111, 114, 105, 116, 121])<|.step (.bin .eql 32 59)<|.ite 60
 (.step (.call 86 [3, 4, 5, 6, 7, 8, 9, 10, 11, 12, 13, 14, 15, 16, 17, 18, 19, 20, 21, 22, 23, 24, 25, 26] 0)<|.step (.ci .i64 1)<|.step (.bin .add 2 62)<|.tail 72 [0, 1, 63, 3, 4, 5, 6, 7, 8, 9, 10, 11, 12, 13, 14, 15, 16, 17, 18, 19, 20, 21, 22, 23, 24, 25, 26])
 (.step (.cs [100, 101, 97, 100, 108, 105, 110, 101])<|.step (.bin .eql 32 61)<|.ite 62
 (.step (.call 87 [3, 4, 5, 6, 7, 8, 9, 10, 11, 12, 13, 14, 15, 16, 17, 18, 19, 20, 21, 22, 23, 24, 25, 26] 0)<|.step (.ci .i64 1)<|.step (.bin .add 2 64)<|.tail 72 [0, 1, 65, 3, 4, 5, 6, 7, 8, 9, 10, 11, 12, 13, 14, 15, 16, 17, 18, 19, 20, 21, 22, 23, 24, 25, 26])
 (.step (.cs [114, 101, 116, 114, 121])<|.step (.bin .eql 32 63)<|.ite 64
 (.step (.call 88 [3, 4, 5, 6, 7, 8, 9, 10, 11, 12, 13, 14, 15, 16, 17, 18, 19, 20, 21, 22, 23, 24, 25, 26] 0)<|.step (.ci .i64 1)<|.step (.bin .add 2 66)<|.tail 72 [0, 1, 67, 3, 4, 5, 6, 7, 8, 9, 10, 11, 12, 13, 14, 15, 16, 17, 18, 19, 20, 21, 22, 23, 24, 25, 26])
 (.step (.cs [101, 112, 111, 99, 104])<|.step (.bin .eql 32 65)<|.ite 66
 (.step (.call 89 [3, 4, 5, 6, 7, 8, 9, 10, 11, 12, 13, 14, 15, 16, 17, 18, 19, 20, 21, 22, 23, 24, 25, 26] 0)<|.step (.ci .i64 1)<|.step (.bin .add 2 68)<|.tail 72 [0, 1, 69, 3, 4, 5, 6, 7, 8, 9, 10, 11, 12, 13, 14, 15, 16, 17, 18, 19, 20, 21, 22, 23, 24, 25, 26])
 (.step (.cs [98, 97, 115, 101])<|.step (.bin .eql 32 67)<|.ite 68
 (.step (.call 90 [3, 4, 5, 6, 7, 8, 9, 10, 11, 12, 13, 14, 15, 16, 17, 18, 19, 20, 21, 22, 23, 24, 25, 26] 0)<|.step (.ci .i64 1)<|.step (.bin .add 2 70)<|.tail 72 [0, 1, 71, 3, 4, 5, 6, 7, 8, 9, 10, 11, 12, 13, 14, 15, 16, 17, 18, 19, 20, 21, 22, 23, 24, 25, 26])
 (.step (.cs [100, 105, 103, 101, 115, 116])<|.step (.bin .eql 32 69)<|.ite 70
 (.step (.call 91 [3, 4, 5, 6, 7, 8, 9, 10, 11, 12, 13, 14, 15, 16, 17, 18, 19, 20, 21, 22, 23, 24, 25, 26] 0)<|.step (.ci .i64 1)<|.step (.bin .add 2 72)<|.tail 72 [0, 1, 73, 3, 4, 5, 6, 7, 8, 9, 10, 11, 12, 13, 14, 15, 16, 17, 18, 19, 20, 21, 22, 23, 24, 25, 26])
 (.step (.cs [108, 97, 103])<|.step (.bin .eql 32 71)<|.ite 72
 (.step (.call 92 [3, 4, 5, 6, 7, 8, 9, 10, 11, 12, 13, 14, 15, 16, 17, 18, 19, 20, 21, 22, 23, 24, 25, 26] 0)<|.step (.ci .i64 1)<|.step (.bin .add 2 74)<|.tail 72 [0, 1, 75, 3, 4, 5, 6, 7, 8, 9, 10, 11, 12, 13, 14, 15, 16, 17, 18, 19, 20, 21, 22, 23, 24, 25, 26])
 (.step (.cs [99, 111, 100, 101])<|.step (.bin .eql 32 73)<|.ite 74
 (.step (.call 93 [3, 4, 5, 6, 7, 8, 9, 10, 11, 12, 13, 14, 15, 16, 17, 18, 19, 20, 21, 22, 23, 24, 25, 26] 0)<|.step (.ci .i64 1)<|.step (.bin .add 2 76)<|.tail 72 [0, 1, 77, 3, 4, 5, 6, 7, 8, 9, 10, 11, 12, 13, 14, 15, 16, 17, 18, 19, 20, 21, 22, 23, 24, 25, 26])
 (.step (.cs [119, 97, 110, 116])<|.step (.bin .eql 32 75)<|.ite 76
 (.step (.call 94 [3, 4, 5, 6, 7, 8, 9, 10, 11, 12, 13, 14, 15, 16, 17, 18, 19, 20, 21, 22, 23, 24, 25, 26] 0)<|.step (.ci .i64 1)<|.step (.bin .add 2 78)<|.tail 72 [0, 1, 79, 3, 4, 5, 6, 7, 8, 9, 10, 11, 12, 13, 14, 15, 16, 17, 18, 19, 20, 21, 22, 23, 24, 25, 26])
 (.step (.call 95 [] 0)<|.step (.ci .i64 1)<|.step (.bin .add 2 78)<|.tail 72 [0, 1, 79, 3, 4, 5, 6, 7, 8, 9, 10, 11, 12, 13, 14, 15, 16, 17, 18, 19, 20, 21, 22, 23, 24, 25, 26])))))))))))))))))))))))
 (.step (.ci .i64 1)<|.ret [28])
def d53 : PDef := .tree 5<|.step (.bin .lss 4 3)<|.ite 5
 (.step (.at 2 2 4)<|.step (.cell 0 6)<|.step (.cell 1 6)<|.step (.call 7 [7] 0)<|.step (.call 54 [0, 1, 9, 2, 3, 4, 7, 8] 0)<|.step (.ci .i64 0)<|.step (.bin .eql 10 11)<|.ite 12
 (.step (.call 54 [0, 1, 9, 2, 3, 4, 7, 8] 1)<|.step (.call 54 [0, 1, 9, 2, 3, 4, 7, 8] 2)<|.step (.call 54 [0, 1, 9, 2, 3, 4, 7, 8] 3)<|.step (.call 54 [0, 1, 9, 2, 3, 4, 7, 8] 4) <|
 .step (.len 0)<|.step (.bin .eql 13 17)<|.ite 18
 (.ret [11])
 (.step (.at 2 0 13)<|.step (.cell 0 19)<|.step (.call 7 [20] 0)<|.step (.bin .neq 21 9)<|.ite 22
 (.ret [11])
 (.step (.cell 1 19)<|.step (.bin .lss 23 8)<|.ite 24
 (.ret [11])
 (.step (.ci .i64 1)<|.step (.bin .add 4 25)<|.tail 53 [0, 13, 2, 3, 26]))))
 (.step (.call 54 [0, 1, 9, 2, 3, 4, 7, 8] 1)<|.step (.len 0)<|.step (.bin .eql 13 14)<|.ite 15
 (.ret [11])
 (.step (.at 2 0 13)<|.step (.cell 0 16)<|.step (.call 7 [17] 0)<|.step (.bin .neq 18 9)<|.ite 19
 (.ret [11])
 (.step (.cell 1 16)<|.step (.bin .lss 20 8)<|.ite 21
 (.ret [11])
 (.step (.ci .i64 1)<|.step (.bin .add 4 22)<|.tail 53 [0, 13, 2, 3, 23])))))
 (.step (.ci .i64 1)<|.ret [6])
def d10 : PDef := .tree 2<|.step (.ci .u64 128)<|.step (.bin .geq 0 2)<|.ite 3
 (.step (.ci .u64 7)<|.step (.bin .shr 0 4)<|.step (.ci .i64 1)<|.step (.bin .add 1 6)<|.tail 10 [5, 7])
 (.step (.ci .i64 0)<|.ret [4, 1])
def d37 : PDef := .tree 5<|.step (.bin .lss 2 1)<|.ite 5
 (.step (.at 2 0 2)<|.step (.cell 0 6)<|.step (.cell 1 6)<|.step (.call 31 [7] 0)<|.step (.mk [9, 8])<|.step (.ml [10])<|.step (.app 2 32 4 11)<|.step (.ci .i64 1)<|.step (.bin .add 2 13) <|
 .tail 37 [0, 1, 14, 3, 12])
 (.step (.ci .i64 0)<|.ret [6, 4])
def d69 : PDef := .tree 28<|.step (.bin .lss 2 1)<|.ite 28
 (.step (.at 4 0 2)<|.step (.cell 0 29)<|.step (.cell 1 29)<|.step (.cell 2 29)<|.step (.cell 3 29)<|.step (.cs [])<|.step (.bin .eql 33 34)<|.step (.cb true)<|.step (.mput 3 33 36) <|
 .step (.ci .i64 1)<|.step (.bin .add 2 38)<|.tail 69 [0, 1, 39, 37, 4, 5, 6, 7, 8, 9, 10, 11, 12, 13, 14, 15, 16, 17, 18, 19, 20, 21, 22, 23, 24, 25, 26, 27])
 (.step (.ci .i64 0)<|.ret [29, 3])
def d50 : PDef := .tree 6<|.step (.bin .lss 3 2)<|.ite 6
 (.step (.idx 1 3)<|.step (.at 2 1 7)<|.step (.cell 0 8)<|.step (.cell 1 8)<|.step (.bin .eql 9 0)<|.ite 11
 (.step (.ci .i64 0)<|.ret [12, 3])
 (.step (.ci .i64 1)<|.step (.bin .add 3 12)<|.tail 50 [0, 1, 2, 13, 4, 5]))
 (.step (.ci .i64 1)<|.ret [7])
def d71 : PDef := .tree 29<|.step (.bin .lss 3 2)<|.ite 29
 (.step (.at 1 1 3)<|.step (.cell 0 30)<|.step (.cs [])<|.step (.bin .eql 31 32)<|.step (.cb false)<|.step (.mget 34 4 31)<|.step (.cell 0 35)<|.step (.un .not 36)<|.ite 37
 (.step (.cs [114, 101, 109, 97, 105, 110, 105, 110, 103])<|.step (.bin .eql 31 38)<|.ite 39
 (.step (.ci .i64 0)<|.step (.bin .eql 21 40)<|.step (.un .not 41)<|.ite 42
 (.ret [40])
 (.step (.ci .i64 1)<|.step (.bin .add 3 43)<|.tail 71 [0, 1, 2, 44, 4, 5, 6, 7, 8, 9, 10, 11, 12, 13, 14, 15, 16, 17, 18, 19, 20, 21, 22, 23, 24, 25, 26, 27, 28]))
 (.step (.cs [97, 108, 108, 111, 119, 101, 100])<|.step (.bin .eql 31 40)<|.ite 41
 (.step (.un .not 22)<|.step (.un .not 42)<|.ite 43
 (.step (.ci .i64 0)<|.ret [44])
 (.step (.ci .i64 1)<|.step (.bin .add 3 44)<|.tail 71 [0, 1, 2, 45, 4, 5, 6, 7, 8, 9, 10, 11, 12, 13, 14, 15, 16, 17, 18, 19, 20, 21, 22, 23, 24, 25, 26, 27, 28]))
 (.step (.cs [110, 97, 109, 101])<|.step (.bin .eql 31 42)<|.ite 43
 (.step (.bin .eql 23 32)<|.step (.un .not 44)<|.ite 45
 (.step (.ci .i64 0)<|.ret [46])
 (.step (.ci .i64 1)<|.step (.bin .add 3 46)<|.tail 71 [0, 1, 2, 47, 4, 5, 6, 7, 8, 9, 10, 11, 12, 13, 14, 15, 16, 17, 18, 19, 20, 21, 22, 23, 24, 25, 26, 27, 28]))
 (.step (.cs [114, 101, 103, 105, 111, 110])<|.step (.bin .eql 31 44)<|.ite 45
 (.step (.bin .eql 24 32)<|.step (.un .not 46)<|.ite 47
 (.step (.ci .i64 0)<|.ret [48])
 (.step (.ci .i64 1)<|.step (.bin .add 3 48)<|.tail 71 [0, 1, 2, 49, 4, 5, 6, 7, 8, 9, 10, 11, 12, 13, 14, 15, 16, 17, 18, 19, 20, 21, 22, 23, 24, 25, 26, 27, 28]))
 (.step (.cs [110, 111, 116, 101])<|.step (.bin .eql 31 46)<|.ite 47
 (.step (.bin .eql 25 32)<|.step (.un .not 48)<|.ite 49
 (.step (.ci .i64 0)<|.ret [50])
 (.step (.ci .i64 1)<|.step (.bin .add 3 50)<|.tail 71 [0, 1, 2, 51, 4, 5, 6, 7, 8, 9, 10, 11, 12, 13, 14, 15, 16, 17, 18, 19, 20, 21, 22, 23, 24, 25, 26, 27, 28]))
 (.step (.cs [100, 101, 115, 99, 114])<|.step (.bin .eql 31 48)<|.ite 49
 (.step (.len 26)<|.step (.ci .i64 0)<|.step (.bin .eql 50 51)<|.step (.un .not 52)<|.ite 53
 (.ret [51])
 (.step (.ci .i64 1)<|.step (.bin .add 3 54)<|.tail 71 [0, 1, 2, 55, 4, 5, 6, 7, 8, 9, 10, 11, 12, 13, 14, 15, 16, 17, 18, 19, 20, 21, 22, 23, 24, 25, 26, 27, 28]))
 (.step (.cs [116, 97, 98, 108, 101])<|.step (.bin .eql 31 50)<|.ite 51
 (.step (.len 27)<|.step (.ci .i64 0)<|.step (.bin .eql 52 53)<|.step (.un .not 54)<|.ite 55
 (.ret [53])
 (.step (.ci .i64 1)<|.step (.bin .add 3 56)<|.tail 71 [0, 1, 2, 57, 4, 5, 6, 7, 8, 9, 10, 11, 12, 13, 14, 15, 16, 17, 18, 19, 20, 21, 22, 23, 24, 25, 26, 27, 28]))
 (.step (.cs [105, 100])<|.step (.bin .eql 31 52)<|.ite 53
 (.step (.ci .u64 0)<|.step (.bin .eql 6 54)<|.step (.un .not 55)<|.ite 56
 (.step (.ci .i64 0)<|.ret [57])
 (.step (.ci .i64 1)<|.step (.bin .add 3 57)<|.tail 71 [0, 1, 2, 58, 4, 5, 6, 7, 8, 9, 10, 11, 12, 13, 14, 15, 16, 17, 18, 19, 20, 21, 22, 23, 24, 25, 26, 27, 28]))
 (.step (.cs [109, 105, 110])<|.step (.bin .eql 31 54)<|.ite 55
 (.step (.ci .u64 0)<|.step (.bin .eql 7 56)<|.step (.un .not 57)<|.ite 58
 (.step (.ci .i64 0)<|.ret [59])
 (.step (.ci .i64 1)<|.step (.bin .add 3 59)<|.tail 71 [0, 1, 2, 60, 4, 5, 6, 7, 8, 9, 10, 11, 12, 13, 14, 15, 16, 17, 18, 19, 20, 21, 22, 23, 24, 25, 26, 27, 28]))
 (.step (.cs [109, 97, 120])<|.step (.bin .eql 31 56)<|.ite 57
 (.step (.ci .u64 0)<|.step (.bin .eql 8 58)<|.step (.un .not 59)<|.ite 60
 (.step (.ci .i64 0)<|.ret [61])
 (.step (.ci .i64 1)<|.step (.bin .add 3 61)<|.tail 71 [0, 1, 2, 62, 4, 5, 6, 7, 8, 9, 10, 11, 12, 13, 14, 15, 16, 17, 18, 19, 20, 21, 22, 23, 24, 25, 26, 27, 28]))
 (.step (.cs [99, 104, 111, 115, 101, 110])<|.step (.bin .eql 31 58)<|.ite 59
 (.step (.ci .u64 0)<|.step (.bin .eql 9 60)<|.step (.un .not 61)<|.ite 62
 (.step (.ci .i64 0)<|.ret [63])
 (.step (.ci .i64 1)<|.step (.bin .add 3 63)<|.tail 71 [0, 1, 2, 64, 4, 5, 6, 7, 8, 9, 10, 11, 12, 13, 14, 15, 16, 17, 18, 19, 20, 21, 22, 23, 24, 25, 26, 27, 28]))
 (.step (.cs [102, 108, 97, 103, 115])<|.step (.bin .eql 31 60)<|.ite 61
 (.step (.ci .u64 0)<|.step (.bin .eql 10 62)<|.step (.un .not 63)<|.ite 64
 (.step (.ci .i64 0)<|.ret [65])
 (.step (.ci .i64 1)<|.step (.bin .add 3 65)<|.tail 71 [0, 1, 2, 66, 4, 5, 6, 7, 8, 9, 10, 11, 12, 13, 14, 15, 16, 17, 18, 19, 20, 21, 22, 23, 24, 25, 26, 27, 28]))
 (.step (.cs [99, 111, 115, 116])<|.step (.bin .eql 31 62)<|.ite 63
 (.step (.ci .u64 0)<|.step (.bin .eql 11 64)<|.step (.un .not 65)<|.ite 66
 (.step (.ci .i64 0)<|.ret [67])
 (.step (.ci .i64 1)<|.step (.bin .add 3 67)<|.tail 71 [0, 1, 2, 68, 4, 5, 6, 7, 8, 9, 10, 11, 12, 13, 14, 15, 16, 17, 18, 19, 20, 21, 22, 23, 24, 25, 26, 27, 28]))
 (.step (.cs [112, 114, 105, 111, 114, 105, 116, 121])<|.step (.bin .eql 31 64)<|.ite 65
 (.step (.ci .u64 0)<|.step (.bin .eql 12 66)<|.step (.un .not 67)<|.ite 68
 (.step (.ci .i64 0)<|.ret [69])
 (.step (.ci .i64 1)<|.step (.bin .add 3 69)<|.tail 71 [0, 1, 2, 70, 4, 5, 6, 7, 8, 9, 10, 11, 12, 13, 14, 15, 16, 17, 18, 19, 20, 21, 22, 23, 24, 25, 26, 27, 28]))
 (.step (.cs [100, 101, 97, 100, 108, 105, 110, 101])<|.step (.bin .eql 31 66)<|.ite 67
 (.step (.ci .u64 0)<|.step (.bin .eql 13 68)<|.step (.un .not 69)<|.ite 70
 (.step (.ci .i64 0)<|.ret [71])
 (.step (.ci .i64 1)<|.step (.bin .add 3 71)<|.tail 71 [0, 1, 2, 72, 4, 5, 6, 7, 8, 9, 10, 11, 12, 13, 14, 15, 16, 17, 18, 19, 20, 21, 22, 23, 24, 25, 26, 27, 28]))
 (.step (.cs [114, 101, 116, 114, 121])<|.step (.bin .eql 31 68)<|.ite 69
 (.step (.ci .u64 0)<|.step (.bin .eql 14 70)<|.step (.un .not 71)<|.ite 72
 (.step (.ci .i64 0)<|.ret [73])
 (.step (.ci .i64 1)<|.step (.bin .add 3 73)<|.tail 71 [0, 1, 2, 74, 4, 5, 6, 7, 8, 9, 10, 11, 12, 13, 14, 15, 16, 17, 18, 19, 20, 21, 22, 23, 24, 25, 26, 27, 28]))
 (.step (.cs [101, 112, 111, 99, 104])<|.step (.bin .eql 31 70)<|.ite 71
 (.step (.ci .u64 0)<|.step (.bin .eql 15 72)<|.step (.un .not 73)<|.ite 74
 (.step (.ci .i64 0)<|.ret [75])
 (.step (.ci .i64 1)<|.step (.bin .add 3 75)<|.tail 71 [0, 1, 2, 76, 4, 5, 6, 7, 8, 9, 10, 11, 12, 13, 14, 15, 16, 17, 18, 19, 20, 21, 22, 23, 24, 25, 26, 27, 28]))
 (.step (.cs [98, 97, 115, 101])<|.step (.bin .eql 31 72)<|.ite 73
 (.step (.ci .u64 0)<|.step (.bin .eql 16 74)<|.step (.un .not 75)<|.ite 76
 (.step (.ci .i64 0)<|.ret [77])
 (.step (.ci .i64 1)<|.step (.bin .add 3 77)<|.tail 71 [0, 1, 2, 78, 4, 5, 6, 7, 8, 9, 10, 11, 12, 13, 14, 15, 16, 17, 18, 19, 20, 21, 22, 23, 24, 25, 26, 27, 28]))
 (.step (.cs [100, 105, 103, 101, 115, 116])<|.step (.bin .eql 31 74)<|.ite 75
 (.step (.ci .u64 0)<|.step (.bin .eql 17 76)<|.step (.un .not 77)<|.ite 78
 (.step (.ci .i64 0)<|.ret [79])
 (.step (.ci .i64 1)<|.step (.bin .add 3 79)<|.tail 71 [0, 1, 2, 80, 4, 5, 6, 7, 8, 9, 10, 11, 12, 13, 14, 15, 16, 17, 18, 19, 20, 21, 22, 23, 24, 25, 26, 27, 28]))
 (.step (.cs [108, 97, 103])<|.step (.bin .eql 31 76)<|.ite 77
 (.step (.ci .u64 0)<|.step (.bin .eql 18 78)<|.step (.un .not 79)<|.ite 80
 (.step (.ci .i64 0)<|.ret [81])
 (.step (.ci .i64 1)<|.step (.bin .add 3 81)<|.tail 71 [0, 1, 2, 82, 4, 5, 6, 7, 8, 9, 10, 11, 12, 13, 14, 15, 16, 17, 18, 19, 20, 21, 22, 23, 24, 25, 26, 27, 28]))
 (.step (.cs [99, 111, 100, 101])<|.step (.bin .eql 31 78)<|.ite 79
 (.step (.ci .u64 0)<|.step (.bin .eql 19 80)<|.step (.un .not 81)<|.ite 82
 (.step (.ci .i64 0)<|.ret [83])
 (.step (.ci .i64 1)<|.step (.bin .add 3 83)<|.tail 71 [0, 1, 2, 84, 4, 5, 6, 7, 8, 9, 10, 11, 12, 13, 14, 15, 16, 17, 18, 19, 20, 21, 22, 23, 24, 25, 26, 27, 28]))
 (.step (.cs [119, 97, 110, 116])<|.step (.bin .eql 31 80)<|.ite 81
 (.step (.ci .u64 0)<|.step (.bin .eql 20 82)<|.step (.un .not 83)<|.ite 84
 (.step (.ci .i64 0)<|.ret [85])
 (.step (.ci .i64 1)<|.step (.bin .add 3 85)<|.tail 71 [0, 1, 2, 86, 4, 5, 6, 7, 8, 9, 10, 11, 12, 13, 14, 15, 16, 17, 18, 19, 20, 21, 22, 23, 24, 25, 26, 27, 28]))
 (.step (.ci .i64 1)<|.step (.bin .add 3 82)<|.tail 71 [0, 1, 2, 83, 4, 5, 6, 7, 8, 9, 10, 11, 12, 13, 14, 15, 16, 17, 18, 19, 20, 21, 22, 23, 24, 25, 26, 27, 28])))))))))))))))))))))))
 (.step (.ci .i64 1)<|.step (.bin .add 3 38)<|.tail 71 [0, 1, 2, 39, 4, 5, 6, 7, 8, 9, 10, 11, 12, 13, 14, 15, 16, 17, 18, 19, 20, 21, 22, 23, 24, 25, 26, 27, 28]))
 (.step (.ci .i64 1)<|.ret [30])
def d12 : PDef := .tree 4<|.step (.bin .lss 2 1)<|.ite 4
 (.step (.at 2 0 2)<|.step (.cell 0 5)<|.step (.cell 1 5)<|.step (.mk [6, 7])<|.step (.call 13 [8] 0)<|.step (.bytes 9)<|.step (.app 1 1 3 10)<|.step (.slen 9)<|.step (.ci .i64 1) <|
 .step (.bin .add 2 13)<|.tail 12 [0, 1, 14, 11])
 (.step (.ci .i64 0)<|.ret [5, 3])
def d43 : PDef := .tree 4<|.step (.bin .lss 3 2)<|.ite 4
 (.step (.at 2 1 3)<|.step (.cell 0 5)<|.step (.cell 1 5)<|.step (.at 2 0 3)<|.step (.cell 0 8)<|.step (.cell 1 8)<|.step (.mk [6, 7])<|.step (.mk [9, 10])<|.step (.call 44 [11, 12] 0) <|
 .step (.un .not 13)<|.ite 14
 (.step (.ci .i64 0)<|.ret [15])
 (.step (.ci .i64 1)<|.step (.bin .add 3 15)<|.tail 43 [0, 1, 2, 16]))
 (.step (.ci .i64 1)<|.ret [5])
def d30 : PDef := .tree 3<|.step (.len 0)<|.step (.ci .i64 0)<|.step (.bin .gtr 3 4)<|.ite 5
 (.step (.len 1)<|.step (.bin .eql 6 4)<|.ite 7
 (.step (.at 2 0 4)<|.step (.cell 0 8)<|.step (.cell 1 8)<|.step (.call 31 [9] 0)<|.step (.mk [11, 10])<|.step (.ml [12])<|.step (.app 2 32 2 13)<|.step (.ci .i64 1)<|.step (.lsub 2 0 15 3) <|
 .tail 30 [16, 1, 14])
 (.step (.bin .eql 3 4)<|.ite 8
 (.step (.at 2 1 4)<|.step (.cell 0 9)<|.step (.cell 1 9)<|.step (.call 31 [10] 0)<|.step (.mk [12, 11])<|.step (.ml [13])<|.step (.app 2 32 2 14)<|.step (.ci .i64 1)<|.step (.lsub 2 1 16 6) <|
 .tail 30 [0, 17, 15])
 (.step (.at 2 0 4)<|.step (.cell 0 9)<|.step (.at 2 1 4)<|.step (.cell 0 11)<|.step (.call 32 [10, 12] 0)<|.step (.bin .lss 13 4)<|.ite 14
 (.step (.cell 1 9)<|.step (.call 31 [10] 0)<|.step (.mk [16, 15])<|.step (.ml [17])<|.step (.app 2 32 2 18)<|.step (.ci .i64 1)<|.step (.lsub 2 0 20 3)<|.tail 30 [21, 1, 19])
 (.step (.bin .gtr 13 4)<|.ite 15
 (.step (.cell 1 11)<|.step (.call 31 [12] 0)<|.step (.mk [17, 16])<|.step (.ml [18])<|.step (.app 2 32 2 19)<|.step (.ci .i64 1)<|.step (.lsub 2 1 21 6)<|.tail 30 [0, 22, 20])
 (.step (.cell 1 9)<|.step (.cell 1 11)<|.step (.ci .u64 0)<|.step (.call 34 [16, 17, 18] 0)<|.step (.call 34 [16, 17, 18] 1)<|.step (.bin .neq 20 18)<|.ite 21
 (.ret [4])
 (.step (.call 31 [10] 0)<|.step (.mk [22, 19])<|.step (.ml [23])<|.step (.app 2 32 2 24)<|.step (.ci .i64 1)<|.step (.lsub 2 0 26 3)<|.step (.lsub 2 1 26 6)<|.tail 30 [27, 28, 25]))))))
 (.step (.len 1)<|.step (.bin .gtr 6 4)<|.ite 7
 (.step (.bin .eql 6 4)<|.ite 8
 (.step (.at 2 0 4)<|.step (.cell 0 9)<|.step (.cell 1 9)<|.step (.call 31 [10] 0)<|.step (.mk [12, 11])<|.step (.ml [13])<|.step (.app 2 32 2 14)<|.step (.ci .i64 1)<|.step (.lsub 2 0 16 3) <|
 .tail 30 [17, 1, 15])
 (.step (.bin .eql 3 4)<|.ite 9
 (.step (.at 2 1 4)<|.step (.cell 0 10)<|.step (.cell 1 10)<|.step (.call 31 [11] 0)<|.step (.mk [13, 12])<|.step (.ml [14])<|.step (.app 2 32 2 15)<|.step (.ci .i64 1)<|.step (.lsub 2 1 17 6) <|
 .tail 30 [0, 18, 16])
 (.step (.at 2 0 4)<|.step (.cell 0 10)<|.step (.at 2 1 4)<|.step (.cell 0 12)<|.step (.call 32 [11, 13] 0)<|.step (.bin .lss 14 4)<|.ite 15
 (.step (.cell 1 10)<|.step (.call 31 [11] 0)<|.step (.mk [17, 16])<|.step (.ml [18])<|.step (.app 2 32 2 19)<|.step (.ci .i64 1)<|.step (.lsub 2 0 21 3)<|.tail 30 [22, 1, 20])
 (.step (.bin .gtr 14 4)<|.ite 16
 (.step (.cell 1 12)<|.step (.call 31 [13] 0)<|.step (.mk [18, 17])<|.step (.ml [19])<|.step (.app 2 32 2 20)<|.step (.ci .i64 1)<|.step (.lsub 2 1 22 6)<|.tail 30 [0, 23, 21])
 (.step (.cell 1 10)<|.step (.cell 1 12)<|.step (.ci .u64 0)<|.step (.call 34 [17, 18, 19] 0)<|.step (.call 34 [17, 18, 19] 1)<|.step (.bin .neq 21 19)<|.ite 22
 (.ret [4])
 (.step (.call 31 [11] 0)<|.step (.mk [23, 20])<|.step (.ml [24])<|.step (.app 2 32 2 25)<|.step (.ci .i64 1)<|.step (.lsub 2 0 27 3)<|.step (.lsub 2 1 27 6)<|.tail 30 [28, 29, 26]))))))
 (.step (.ci .i64 1)<|.ret [8, 2]))
def d61 : PDef := .tree 5<|.step (.bin .lss 4 3)<|.ite 5
 (.step (.at 4 2 4)<|.step (.cell 0 6)<|.step (.cell 1 6)<|.step (.cell 2 6)<|.step (.cell 3 6)<|.step (.bin .leq 9 0)<|.ite 11
 (.step (.mk [7, 8, 9, 10])<|.step (.ml [12])<|.step (.app 4 40 1 13)<|.step (.ci .i64 1)<|.step (.bin .add 4 15)<|.tail 61 [0, 14, 2, 3, 16])
 (.step (.ci .i64 1)<|.step (.bin .add 4 12)<|.tail 61 [0, 1, 2, 3, 13]))
 (.step (.ci .i64 0)<|.ret [6, 1])
def d4 : PDef := .tree 3<|.step (.bin .lss 2 1)<|.ite 3
 (.step (.at 2 0 2)<|.step (.cell 0 4)<|.step (.cell 1 4)<|.step (.len 5)<|.step (.ci .i64 18)<|.step (.bin .gtr 7 8)<|.ite 9
 (.step (.ci .i64 0)<|.ret [10])
 (.step (.call 5 [5] 0)<|.step (.un .not 10)<|.ite 11
 (.step (.ci .i64 0)<|.ret [12])
 (.step (.len 0)<|.step (.ci .i64 40)<|.step (.bin .gtr 12 13)<|.ite 14
 (.step (.call 7 [5] 0)<|.step (.slen 15)<|.step (.ci .i64 100)<|.step (.bin .gtr 16 17)<|.ite 18
 (.step (.ci .i64 0)<|.ret [19])
 (.step (.ci .i64 1)<|.step (.bin .add 2 19)<|.tail 4 [0, 1, 20]))
 (.step (.ci .i64 1)<|.step (.bin .add 2 15)<|.tail 4 [0, 1, 16]))))
 (.step (.ci .i64 1)<|.ret [4])
def d11 : PDef := .tree 4<|.step (.bin .lss 3 2)<|.ite 4
 (.step (.ci .u64 127)<|.step (.bin .and 0 5)<|.step (.conv .u8 6)<|.step (.ci .u8 128)<|.step (.bin .or 7 8)<|.step (.idx 1 3)<|.step (.upd 1 0 1 10 [9])<|.step (.ci .u64 7)<|.step (.bin .shr 0 12) <|
 .step (.ci .i64 1)<|.step (.bin .add 3 14)<|.tail 11 [13, 11, 2, 15])
 (.step (.ci .i64 0)<|.ret [5, 1])
def d6 : PDef := .tree 3<|.step (.bin .lss 2 1)<|.ite 3
 (.step (.at 2 0 2)<|.step (.cell 0 4)<|.step (.cell 1 4)<|.step (.slen 5)<|.step (.slen 6)<|.step (.bin .add 7 8)<|.step (.ci .i64 600)<|.step (.bin .gtr 9 10)<|.ite 11
 (.step (.ci .i64 0)<|.ret [12])
 (.step (.ci .i64 1)<|.step (.bin .add 2 12)<|.tail 6 [0, 1, 13]))
 (.step (.ci .i64 1)<|.ret [4])
def Ds : List PDef := [d0, d1, d2, d3, d4, d5, d6, d7, d8, d9, d10, d11, d12, d13, .prim fun _ => none, .prim fun _ => none, .prim fun _ => none, d17, d18, d19, d20, d21, d22, d23, d24, d25, d26, d27, d28, d29, d30, d31, d32, d33, d34, .prim fun _ => none, d36, d37, .prim fun _ => none, d39, d40, d41, d42, d43, d44, d45, d46, d47, d48, d49, d50, d51, d52, d53, d54, d55, d56, d57, d58, d59, d60, d61, d62, d63, d64, d65, d66, d67, d68, d69, d70, d71, d72, d73, d74, d75, d76, d77, d78, d79, d80, d81, d82, d83, d84, d85, d86, d87, d88, d89, d90, d91, d92, d93, d94, d95, d96, d97, d98, d99, d100, d101, d102, d103, d104, d105, d106]
noncomputable abbrev TT : PProg := TofL Ds
end
end Y
end Go.Proofs.YtlifdeocdbjalaaGreatDoor
