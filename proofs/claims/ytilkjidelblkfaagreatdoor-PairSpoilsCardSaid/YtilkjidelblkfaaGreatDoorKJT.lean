/- What functions and loops compute: trees of nodes, found by a driver. -/
import Derived.Test.YtilkjidelblkfaaGreatDoorAbsJ
import Derived.Test.YtilkjidelblkfaaGreatDoorAbsPl
import Derived.Test.YtilkjidelblkfaaGreatDoorAbsTold
import Derived.Test.YtilkjidelblkfaaGreatDoorAbsTold2
import Derived.Test.YtilkjidelblkfaaGreatDoorAbsTold3
import Derived.Test.YtilkjidelblkfaaGreatDoorAbsFields
import Derived.Test.YtilkjidelblkfaaGreatDoorAbsSortF
namespace Go.Proofs.YtilkjidelblkfaaGreatDoor
open Go Go.Abs
set_option maxRecDepth 100000
set_option linter.unusedVariables false
set_option linter.unusedSimpArgs false
namespace J
noncomputable section
def d135:PDef:=.fn [.sc,.sc] [.sc]<|
 .step (.slen 1)<|
 .step (.ci .i64 4)<|
 .step (.bin .neq 2 3)<|
 .ite 4
 (.step (.cb false)<|
 .ret [5])
 (.step (.ci .i64 0)<|
 .step (.sidx 1 5)<|
 .step (.conv .u32 6)<|
 .step (.ci .i64 1)<|
 .step (.sidx 1 8)<|
 .step (.conv .u32 9)<|
 .step (.ci .u64 8)<|
 .step (.bin .shl 10 11)<|
 .step (.bin .or 7 12)<|
 .step (.ci .i64 2)<|
 .step (.sidx 1 14)<|
 .step (.conv .u32 15)<|
 .step (.ci .u64 16)<|
 .step (.bin .shl 16 17)<|
 .step (.bin .or 13 18)<|
 .step (.ci .i64 3)<|
 .step (.sidx 1 20)<|
 .step (.conv .u32 21)<|
 .step (.ci .u64 24)<|
 .step (.bin .shl 22 23)<|
 .step (.bin .or 19 24)<|
 .step (.ml [0])<|
 .step (.call 8 [26] 0)<|
 .step (.bin .eql 25 27)<|
 .ret [28])
def d29:PDef:=.fn [] [.sc]<|
 .step (.ci .u64 1)<|
 .step (.ci .i64 0)<|
 .step (.ci .i64 1)<|
 .step (.cs [99,104,111,115,101,110])<|
 .step (.mk [0,1,2,3])<|
 .step (.ci .u64 2)<|
 .step (.ci .i64 3)<|
 .step (.cs [110,97,109,101])<|
 .step (.mk [5,6,2,7])<|
 .step (.ci .u64 3)<|
 .step (.ci .i64 2)<|
 .step (.cs [114,101,103,105,111,110])<|
 .step (.mk [9,6,10,11])<|
 .step (.ml [4,8,12])<|
 .ret [13]
abbrev d37:PDef:=.prim namesP
def d21:PDef:=.fn [.ag 24,.sc] [.sc]<|
 .step (.cell 0 0)<|
 .step (.cell 1 0)<|
 .step (.cell 2 0)<|
 .step (.cell 3 0)<|
 .step (.cell 4 0)<|
 .step (.cell 5 0)<|
 .step (.cell 6 0)<|
 .step (.cell 7 0)<|
 .step (.cell 8 0)<|
 .step (.cell 9 0)<|
 .step (.cell 10 0)<|
 .step (.cell 11 0)<|
 .step (.cell 12 0)<|
 .step (.cell 13 0)<|
 .step (.cell 14 0)<|
 .step (.cell 15 0)<|
 .step (.cell 16 0)<|
 .step (.cell 17 0)<|
 .step (.cell 18 0)<|
 .step (.cell 19 0)<|
 .step (.cell 20 0)<|
 .step (.cell 21 0)<|
 .step (.cell 22 0)<|
 .step (.cell 23 0)<|
 .step (.mk [2,3,4,5,6,7,8,9,10,11,12,13,14,15,16,17,18,19,20,21,22,23,24,25])<|
 .step (.call 22 [26,1] 0)<|
 .step (.call 22 [26,1] 1)<|
 .step (.ci .i64 0)<|
 .step (.bin .neq 28 29)<|
 .ite 30
 (.step (.ml [])<|
 .ret [31])
 (.step (.ml [27])<|
 .ret [31])
def d81:PDef:=.fn [.sc,.sc] [.sc]<|
 .step (.call 82 [0,1] 0)<|
 .step (.conv .u64 2)<|
 .step (.call 4 [3] 0)<|
 .step (.slen 1)<|
 .step (.bin .sub 5 2)<|
 .step (.conv .u64 6)<|
 .step (.call 4 [7] 0)<|
 .step (.bin .add 4 8)<|
 .step (.ssub 1 2 5)<|
 .step (.bin .add 9 10)<|
 .ret [11]
def d131:PDef:=.fn [.sc] [.sc]<|
 .step (.ci .i64 0)<|
 .step (.call 132 [0,1] 0)<|
 .step (.bin .eql 2 1)<|
 .ite 3
 (.step (.call 132 [0,1] 1)<|
 .ret [4])
 (.ret [1])
def d133:PDef:=.fn [.sc] [.sc,.sc,.sc]<|
 .step (.slen 0)<|
 .step (.ci .i64 10)<|
 .step (.mm false 1 2)<|
 .step (.ci .u64 0)<|
 .step (.ci .i64 0)<|
 .step (.call 134 [0,4,3,5] 0)<|
 .step (.bin .eql 6 5)<|
 .ite 7
 (.step (.call 134 [0,4,3,5] 1)<|
 .step (.call 134 [0,4,3,5] 2)<|
 .step (.call 134 [0,4,3,5] 3)<|
 .ret [8,9,10])
 (.step (.call 134 [0,4,3,5] 1)<|
 .step (.slen 8)<|
 .step (.bin .geq 9 2)<|
 .ite 10
 (.step (.ci .i64 3)<|
 .ret [4,5,11])
 (.step (.ci .i64 1)<|
 .ret [4,5,11]))
def d50:PDef:=.fn [.sc] [.sc]<|
 .step (.len 0)<|
 .step (.ci .i64 256)<|
 .step (.bin .gtr 1 2)<|
 .ite 3
 (.step (.ci .i64 13)<|
 .ret [4])
 (.step (.cs [])<|
 .step (.ci .i64 0)<|
 .step (.call 51 [4,0,1,5] 0)<|
 .step (.bin .eql 6 5)<|
 .ite 7
 (.step (.call 51 [4,0,1,5] 1)<|
 .ret [8])
 (.ret [5]))
def d46:PDef:=.fn [.sc] [.sc]<|
 .step (.len 0)<|
 .step (.conv .u64 1)<|
 .step (.ci .u64 0)<|
 .step (.bin .eql 2 3)<|
 .ite 4
 (.step (.ci .i64 12)<|
 .ret [5])
 (.step (.ci .u64 16)<|
 .step (.bin .gtr 2 5)<|
 .ite 6
 (.step (.ci .i64 13)<|
 .ret [7])
 (.step (.ci .i64 0)<|
 .step (.call 47 [0,1,7] 0)<|
 .step (.bin .eql 8 7)<|
 .ite 9
 (.step (.call 47 [0,1,7] 1)<|
 .ret [10])
 (.ret [7])))
def d73:PDef:=.fn [.sc,.sc] [.sc]<|
 .step (.len 0)<|
 .step (.ci .u64 0)<|
 .step (.ci .i64 0)<|
 .step (.call 74 [1,3,0,2,4] 0)<|
 .step (.bin .eql 5 4)<|
 .ite 6
 (.step (.call 74 [1,3,0,2,4] 1)<|
 .ret [7])
 (.ret [4])
def d82:PDef:=.fn [.sc,.sc] [.sc]<|
 .step (.ci .i64 0)<|
 .step (.call 83 [0,1,2] 0)<|
 .step (.call 83 [0,1,2] 1)<|
 .ret [4]
def d34:PDef:=.fn [] [.sc]<|
 .step (.ci .u64 1)<|
 .step (.ci .i64 0)<|
 .step (.ci .i64 1)<|
 .step (.cs [101,112,111,99,104])<|
 .step (.mk [0,1,2,3])<|
 .step (.ci .u64 2)<|
 .step (.ci .i64 3)<|
 .step (.cs [108,97,103])<|
 .step (.mk [5,1,6,7])<|
 .step (.ml [4,8])<|
 .ret [9]
def d3:PDef:=.fn [.sc] [.sc,.sc]<|
 .step (.slen 0)<|
 .step (.ci .i64 65536)<|
 .step (.bin .gtr 1 2)<|
 .ite 3
 (.step (.cs [])<|
 .step (.ci .i64 4)<|
 .ret [4,5])
 (.step (.conv .u64 1)<|
 .step (.call 4 [4] 0)<|
 .step (.cs [81,70])<|
 .step (.bin .add 6 5)<|
 .step (.bin .add 7 0)<|
 .step (.ml [0])<|
 .step (.call 8 [9] 0)<|
 .step (.conv .u8 10)<|
 .step (.ci .u64 8)<|
 .step (.bin .shr 10 12)<|
 .step (.conv .u8 13)<|
 .step (.ci .u64 16)<|
 .step (.bin .shr 10 15)<|
 .step (.conv .u8 16)<|
 .step (.ci .u64 24)<|
 .step (.bin .shr 10 18)<|
 .step (.conv .u8 19)<|
 .step (.ml [11,14,17,20])<|
 .step (.str 21)<|
 .step (.bin .add 8 22)<|
 .step (.ci .i64 0)<|
 .ret [23,24])
def d23:PDef:=.fn [.ag 24,.sc] [.sc,.sc]<|
 .step (.cell 0 0)<|
 .step (.cell 1 0)<|
 .step (.cell 2 0)<|
 .step (.cell 3 0)<|
 .step (.cell 4 0)<|
 .step (.cell 5 0)<|
 .step (.cell 6 0)<|
 .step (.cell 7 0)<|
 .step (.cell 8 0)<|
 .step (.cell 9 0)<|
 .step (.cell 10 0)<|
 .step (.cell 11 0)<|
 .step (.cell 12 0)<|
 .step (.cell 13 0)<|
 .step (.cell 14 0)<|
 .step (.cell 15 0)<|
 .step (.cell 16 0)<|
 .step (.cell 17 0)<|
 .step (.cell 18 0)<|
 .step (.cell 19 0)<|
 .step (.cell 20 0)<|
 .step (.cell 21 0)<|
 .step (.cell 22 0)<|
 .step (.cell 23 0)<|
 .step (.mk [2,3,4,5,6,7,8,9,10,11,12,13,14,15,16,17,18,19,20,21,22,23,24,25])<|
 .step (.call 24 [26,1] 0)<|
 .step (.ci .i64 0)<|
 .step (.bin .neq 27 28)<|
 .ite 29
 (.step (.ml [])<|
 .ret [30,27])
 (.step (.call 26 [2,1] 0)<|
 .step (.len 30)<|
 .step (.ml [])<|
 .step (.call 77 [32,30,31,28,2,3,4,5,6,7,8,9,10,11,12,13,14,15,16,17,18,19,20,21,22,23,24,25] 0)<|
 .step (.call 77 [32,30,31,28,2,3,4,5,6,7,8,9,10,11,12,13,14,15,16,17,18,19,20,21,22,23,24,25] 1)<|
 .step (.ml [34,25])<|
 .step (.call 84 [35] 0)<|
 .step (.call 84 [35] 1)<|
 .ret [36,37])
abbrev d16:PDef:=.prim (cloneP 32 6)
def d9:PDef:=.fn [.sc,.sc] [.sc]<|
 .step (.call 10 [] 0)<|
 .step (.cell 0 2)<|
 .step (.cell 1 2)<|
 .step (.cell 2 2)<|
 .step (.cell 3 2)<|
 .step (.cell 4 2)<|
 .step (.cell 5 2)<|
 .step (.cell 6 2)<|
 .step (.cell 7 2)<|
 .step (.cell 8 2)<|
 .step (.cell 9 2)<|
 .step (.cell 10 2)<|
 .step (.cell 11 2)<|
 .step (.cell 12 2)<|
 .step (.cell 13 2)<|
 .step (.cell 14 2)<|
 .step (.cell 15 2)<|
 .step (.un .xor 0)<|
 .step (.len 1)<|
 .step (.ci .i64 0)<|
 .step (.call 11 [19,1,20,21,3,4,5,6,7,8,9,10,11,12,13,14,15,16,17,18] 0)<|
 .step (.call 11 [19,1,20,21,3,4,5,6,7,8,9,10,11,12,13,14,15,16,17,18] 1)<|
 .step (.un .xor 23)<|
 .ret [24]
def d72:PDef:=.fn [.sc] [.sc]<|
 .step (.ci .i64 0)<|
 .step (.call 73 [0,1] 0)<|
 .ret [2]
def d26:PDef:=.fn [.sc,.sc] [.sc]<|
 .step (.ci .i64 0)<|
 .step (.bin .eql 0 2)<|
 .step (.ci .i64 1)<|
 .step (.bin .eql 0 4)<|
 .ite 5
 (.step (.bin .lss 1 4)<|
 .ite 6
 (.step (.ml [])<|
 .ret [7])
 (.step (.ci .i64 3)<|
 .step (.bin .gtr 1 7)<|
 .ite 8
 (.step (.ml [])<|
 .ret [9])
 (.step (.call 27 [] 0)<|
 .step (.len 9)<|
 .step (.ml [])<|
 .step (.call 28 [1,11,9,10,2] 0)<|
 .step (.call 28 [1,11,9,10,2] 1)<|
 .ret [13])))
 (.step (.ci .i64 2)<|
 .step (.bin .eql 0 6)<|
 .ite 7
 (.step (.bin .lss 1 4)<|
 .ite 8
 (.step (.ml [])<|
 .ret [9])
 (.step (.ci .i64 3)<|
 .step (.bin .gtr 1 9)<|
 .ite 10
 (.step (.ml [])<|
 .ret [11])
 (.step (.call 29 [] 0)<|
 .step (.len 11)<|
 .step (.ml [])<|
 .step (.call 28 [1,13,11,12,2] 0)<|
 .step (.call 28 [1,13,11,12,2] 1)<|
 .ret [15])))
 (.step (.ci .i64 3)<|
 .step (.bin .eql 0 8)<|
 .ite 9
 (.step (.bin .lss 1 4)<|
 .ite 10
 (.step (.ml [])<|
 .ret [11])
 (.step (.bin .gtr 1 8)<|
 .ite 11
 (.step (.ml [])<|
 .ret [12])
 (.step (.call 30 [] 0)<|
 .step (.len 12)<|
 .step (.ml [])<|
 .step (.call 28 [1,14,12,13,2] 0)<|
 .step (.call 28 [1,14,12,13,2] 1)<|
 .ret [16])))
 (.step (.ci .i64 4)<|
 .step (.bin .eql 0 10)<|
 .ite 11
 (.step (.bin .lss 1 4)<|
 .ite 12
 (.step (.ml [])<|
 .ret [13])
 (.step (.bin .gtr 1 8)<|
 .ite 13
 (.step (.ml [])<|
 .ret [14])
 (.step (.call 31 [] 0)<|
 .step (.len 14)<|
 .step (.ml [])<|
 .step (.call 28 [1,16,14,15,2] 0)<|
 .step (.call 28 [1,16,14,15,2] 1)<|
 .ret [18])))
 (.step (.ci .i64 5)<|
 .step (.bin .eql 0 12)<|
 .ite 13
 (.step (.bin .lss 1 4)<|
 .ite 14
 (.step (.ml [])<|
 .ret [15])
 (.step (.bin .gtr 1 8)<|
 .ite 15
 (.step (.ml [])<|
 .ret [16])
 (.step (.call 32 [] 0)<|
 .step (.len 16)<|
 .step (.ml [])<|
 .step (.call 28 [1,18,16,17,2] 0)<|
 .step (.call 28 [1,18,16,17,2] 1)<|
 .ret [20])))
 (.step (.ci .i64 6)<|
 .step (.bin .eql 0 14)<|
 .ite 15
 (.step (.bin .lss 1 6)<|
 .ite 16
 (.step (.ml [])<|
 .ret [17])
 (.step (.bin .gtr 1 8)<|
 .ite 17
 (.step (.ml [])<|
 .ret [18])
 (.step (.call 33 [] 0)<|
 .step (.len 18)<|
 .step (.ml [])<|
 .step (.call 28 [1,20,18,19,2] 0)<|
 .step (.call 28 [1,20,18,19,2] 1)<|
 .ret [22])))
 (.step (.ci .i64 7)<|
 .step (.bin .eql 0 16)<|
 .ite 17
 (.step (.bin .lss 1 4)<|
 .ite 18
 (.step (.ml [])<|
 .ret [19])
 (.step (.bin .gtr 1 8)<|
 .ite 19
 (.step (.ml [])<|
 .ret [20])
 (.step (.call 34 [] 0)<|
 .step (.len 20)<|
 .step (.ml [])<|
 .step (.call 28 [1,22,20,21,2] 0)<|
 .step (.call 28 [1,22,20,21,2] 1)<|
 .ret [24])))
 (.step (.ci .i64 8)<|
 .step (.bin .eql 0 18)<|
 .ite 19
 (.step (.bin .lss 1 4)<|
 .ite 20
 (.step (.ml [])<|
 .ret [21])
 (.step (.bin .gtr 1 8)<|
 .ite 21
 (.step (.ml [])<|
 .ret [22])
 (.step (.call 35 [] 0)<|
 .step (.len 22)<|
 .step (.ml [])<|
 .step (.call 28 [1,24,22,23,2] 0)<|
 .step (.call 28 [1,24,22,23,2] 1)<|
 .ret [26])))
 (.step (.ml [])<|
 .ret [20]))))))))
def d4:PDef:=.fn [.sc] [.sc]<|
 .step (.call 5 [0] 0)<|
 .step (.ci .u8 0)<|
 .step (.rep 1 1 2 1 1)<|
 .step (.len 3)<|
 .step (.ci .i64 0)<|
 .step (.call 7 [0,3,4,5] 0)<|
 .step (.call 7 [0,3,4,5] 1)<|
 .step (.len 7)<|
 .step (.ci .i64 1)<|
 .step (.bin .sub 8 9)<|
 .step (.idx 7 10)<|
 .step (.at 1 7 11)<|
 .step (.cell 0 12)<|
 .step (.ci .u8 127)<|
 .step (.bin .and 13 14)<|
 .step (.upd 1 0 7 11 [15])<|
 .step (.str 16)<|
 .ret [17]
def d5:PDef:=.fn [.sc] [.sc]<|
 .step (.ci .i64 1)<|
 .step (.call 6 [0,1] 0)<|
 .step (.call 6 [0,1] 1)<|
 .ret [3]
def d30:PDef:=.fn [] [.sc]<|
 .step (.ci .u64 1)<|
 .step (.ci .i64 0)<|
 .step (.ci .i64 1)<|
 .step (.cs [105,100])<|
 .step (.mk [0,1,2,3])<|
 .step (.ci .u64 2)<|
 .step (.ci .i64 4)<|
 .step (.cs [100,101,115,99,114])<|
 .step (.mk [5,6,2,7])<|
 .step (.ci .u64 3)<|
 .step (.cs [99,111,115,116])<|
 .step (.mk [9,1,2,10])<|
 .step (.ci .u64 4)<|
 .step (.ci .i64 2)<|
 .step (.cs [112,114,105,111,114,105,116,121])<|
 .step (.mk [12,1,13,14])<|
 .step (.ci .u64 5)<|
 .step (.ci .i64 3)<|
 .step (.cs [100,101,97,100,108,105,110,101])<|
 .step (.mk [16,1,17,18])<|
 .step (.ml [4,8,11,15,19])<|
 .ret [20]
def d52:PDef:=.fn [.ag 2] [.sc]<|
 .step (.cell 0 0)<|
 .step (.cell 1 0)<|
 .step (.call 46 [1] 0)<|
 .step (.ci .i64 0)<|
 .step (.bin .neq 3 4)<|
 .ite 5
 (.ret [3])
 (.step (.ci .u64 0)<|
 .step (.bin .eql 2 6)<|
 .ite 7
 (.step (.ci .i64 18)<|
 .ret [8])
 (.ret [4]))
def d88:PDef:=.fn [.sc] [.sc,.sc]<|
 .step (.call 72 [0] 0)<|
 .step (.ci .i64 0)<|
 .step (.bin .neq 1 2)<|
 .ite 3
 (.step (.cs [])<|
 .ret [4,1])
 (.step (.call 89 [0] 0)<|
 .step (.ci .i64 65536)<|
 .step (.bin .gtr 4 5)<|
 .ite 6
 (.step (.cs [])<|
 .step (.ci .i64 4)<|
 .ret [7,8])
 (.step (.ci .u8 0)<|
 .step (.rep 1 1 7 2 4)<|
 .step (.call 91 [8,0] 0)<|
 .step (.call 91 [8,0] 1)<|
 .step (.str 10)<|
 .ret [11,2]))
abbrev d1:PDef:=.prim sortFP
def d14:PDef:=.fn [.sc] [.sc]<|
 .step (.call 15 [0] 0)<|
 .ret [1]
def d13:PDef:=.fn [.sc,.sc,.sc] [.sc]<|
 .step (.slen 0)<|
 .step (.bin .lss 3 1)<|
 .ite 4
 (.step (.ci .i64 13)<|
 .ret [5])
 (.step (.bin .gtr 3 2)<|
 .ite 5
 (.step (.ci .i64 13)<|
 .ret [6])
 (.step (.call 14 [0] 0)<|
 .step (.un .not 6)<|
 .ite 7
 (.step (.ci .i64 11)<|
 .ret [8])
 (.step (.ci .i64 0)<|
 .ret [8])))
def d31:PDef:=.fn [] [.sc]<|
 .step (.ci .u64 1)<|
 .step (.ci .i64 0)<|
 .step (.ci .i64 1)<|
 .step (.cs [105,100])<|
 .step (.mk [0,1,2,3])<|
 .step (.ci .u64 2)<|
 .step (.cs [97,108,108,111,119,101,100])<|
 .step (.mk [5,2,2,6])<|
 .step (.ci .u64 3)<|
 .step (.ci .i64 2)<|
 .step (.cs [114,101,109,97,105,110,105,110,103])<|
 .step (.mk [8,9,2,10])<|
 .step (.ci .u64 4)<|
 .step (.cs [114,101,116,114,121])<|
 .step (.mk [12,1,9,13])<|
 .step (.ci .u64 5)<|
 .step (.ci .i64 3)<|
 .step (.cs [110,111,116,101])<|
 .step (.mk [15,16,16,17])<|
 .step (.ml [4,7,11,14,18])<|
 .ret [19]
def d27:PDef:=.fn [] [.sc]<|
 .step (.ci .u64 1)<|
 .step (.ci .i64 0)<|
 .step (.ci .i64 1)<|
 .step (.cs [109,105,110])<|
 .step (.mk [0,1,2,3])<|
 .step (.ci .u64 2)<|
 .step (.cs [109,97,120])<|
 .step (.mk [5,1,2,6])<|
 .step (.ci .u64 3)<|
 .step (.ci .i64 3)<|
 .step (.cs [110,97,109,101])<|
 .step (.mk [8,9,2,10])<|
 .step (.ci .u64 4)<|
 .step (.ci .i64 2)<|
 .step (.cs [114,101,103,105,111,110])<|
 .step (.mk [12,9,13,14])<|
 .step (.ci .u64 5)<|
 .step (.cs [102,108,97,103,115])<|
 .step (.mk [16,1,9,17])<|
 .step (.ml [4,7,11,15,18])<|
 .ret [19]
def d79:PDef:=.fn [.sc] [.sc,.sc]<|
 .step (.call 50 [0] 0)<|
 .step (.ci .i64 0)<|
 .step (.bin .neq 1 2)<|
 .ite 3
 (.step (.cs [])<|
 .ret [4,1])
 (.step (.len 0)<|
 .step (.conv .u64 4)<|
 .step (.call 4 [5] 0)<|
 .step (.bytes 6)<|
 .step (.ml [])<|
 .step (.app 1 1 8 7)<|
 .step (.slen 6)<|
 .step (.cs [])<|
 .step (.call 80 [11,0,4,2,9] 0)<|
 .step (.call 80 [11,0,4,2,9] 1)<|
 .step (.len 13)<|
 .step (.str 13)<|
 .ret [15,2])
def d25:PDef:=.fn [.sc] [.sc]<|
 .step (.ci .i64 0)<|
 .step (.bin .eql 0 1)<|
 .step (.ci .i64 1)<|
 .step (.bin .eql 0 3)<|
 .ite 4
 (.ret [3])
 (.step (.ci .i64 2)<|
 .step (.bin .eql 0 5)<|
 .ite 6
 (.ret [3])
 (.step (.ci .i64 3)<|
 .step (.bin .eql 0 7)<|
 .ite 8
 (.ret [3])
 (.step (.ci .i64 4)<|
 .step (.bin .eql 0 9)<|
 .ite 10
 (.ret [3])
 (.step (.ci .i64 5)<|
 .step (.bin .eql 0 11)<|
 .ite 12
 (.ret [3])
 (.step (.ci .i64 6)<|
 .step (.bin .eql 0 13)<|
 .ite 14
 (.ret [5])
 (.step (.ci .i64 7)<|
 .step (.bin .eql 0 15)<|
 .ite 16
 (.ret [3])
 (.step (.ci .i64 8)<|
 .step (.bin .eql 0 17)<|
 .ite 18
 (.ret [3])
 (.ret [1]))))))))
def d48:PDef:=.fn [.ag 2] [.sc]<|
 .step (.cell 0 0)<|
 .step (.cell 1 0)<|
 .step (.ci .i64 1)<|
 .step (.ci .i64 64)<|
 .step (.call 13 [1,3,4] 0)<|
 .step (.ci .i64 0)<|
 .step (.bin .neq 5 6)<|
 .ite 7
 (.ret [5])
 (.step (.ci .i64 256)<|
 .step (.call 13 [2,6,8] 0)<|
 .ret [9])
abbrev d15:PDef:=.prim validP
def d33:PDef:=.fn [] [.sc]<|
 .step (.ci .u64 1)<|
 .step (.ci .i64 0)<|
 .step (.ci .i64 2)<|
 .step (.cs [98,97,115,101])<|
 .step (.mk [0,1,2,3])<|
 .step (.ci .u64 2)<|
 .step (.cs [101,112,111,99,104])<|
 .step (.mk [5,1,2,6])<|
 .step (.ci .u64 3)<|
 .step (.ci .i64 5)<|
 .step (.cs [116,97,98,108,101])<|
 .step (.mk [8,9,2,10])<|
 .step (.ci .u64 4)<|
 .step (.ci .i64 3)<|
 .step (.cs [114,101,103,105,111,110])<|
 .step (.mk [12,13,2,14])<|
 .step (.ci .u64 5)<|
 .step (.cs [100,105,103,101,115,116])<|
 .step (.mk [16,1,13,17])<|
 .step (.ml [4,7,11,15,18])<|
 .ret [19]
abbrev d87:PDef:=.prim fcloneP
abbrev d0:PDef:=.prim (cloneP 24 3)
def d130:PDef:=.fn [.sc] [.sc,.sc,.sc]<|
 .step (.call 131 [0] 0)<|
 .step (.ci .i64 0)<|
 .step (.bin .neq 1 2)<|
 .ite 3
 (.step (.cs [])<|
 .ret [4,2,1])
 (.step (.ci .i64 2)<|
 .step (.slen 0)<|
 .step (.ssub 0 4 5)<|
 .step (.call 133 [6] 0)<|
 .step (.call 133 [6] 1)<|
 .step (.call 133 [6] 2)<|
 .step (.bin .neq 9 2)<|
 .ite 10
 (.step (.cs [])<|
 .ret [11,2,9])
 (.step (.ci .u64 65536)<|
 .step (.bin .gtr 7 11)<|
 .ite 12
 (.step (.cs [])<|
 .step (.ci .i64 4)<|
 .ret [13,2,14])
 (.step (.conv .i64 7)<|
 .step (.bin .add 4 8)<|
 .step (.ssub 0 14 5)<|
 .step (.slen 15)<|
 .step (.ci .i64 4)<|
 .step (.bin .add 13 17)<|
 .step (.bin .lss 16 18)<|
 .ite 19
 (.step (.cs [])<|
 .step (.ci .i64 1)<|
 .ret [20,2,21])
 (.step (.ssub 15 2 13)<|
 .step (.ssub 15 13 18)<|
 .step (.call 135 [20,21] 0)<|
 .step (.un .not 22)<|
 .ite 23
 (.step (.cs [])<|
 .step (.ci .i64 6)<|
 .ret [24,2,25])
 (.step (.call 136 [13] 0)<|
 .ret [20,24,2])))))
def d24:PDef:=.fn [.ag 24,.sc] [.sc]<|
 .step (.cell 0 0)<|
 .step (.cell 1 0)<|
 .step (.cell 2 0)<|
 .step (.cell 3 0)<|
 .step (.cell 4 0)<|
 .step (.cell 5 0)<|
 .step (.cell 6 0)<|
 .step (.cell 7 0)<|
 .step (.cell 8 0)<|
 .step (.cell 9 0)<|
 .step (.cell 10 0)<|
 .step (.cell 11 0)<|
 .step (.cell 12 0)<|
 .step (.cell 13 0)<|
 .step (.cell 14 0)<|
 .step (.cell 15 0)<|
 .step (.cell 16 0)<|
 .step (.cell 17 0)<|
 .step (.cell 18 0)<|
 .step (.cell 19 0)<|
 .step (.cell 20 0)<|
 .step (.cell 21 0)<|
 .step (.cell 22 0)<|
 .step (.cell 23 0)<|
 .step (.ci .i64 1)<|
 .step (.bin .lss 1 26)<|
 .ite 27
 (.step (.ci .i64 16)<|
 .ret [28])
 (.step (.ci .i64 3)<|
 .step (.bin .gtr 1 28)<|
 .ite 29
 (.step (.ci .i64 16)<|
 .ret [30])
 (.step (.call 25 [2] 0)<|
 .step (.ci .i64 0)<|
 .step (.bin .eql 30 31)<|
 .ite 32
 (.step (.ci .i64 15)<|
 .ret [33])
 (.step (.bin .gtr 30 1)<|
 .ite 33
 (.step (.ci .i64 15)<|
 .ret [34])
 (.step (.call 26 [2,1] 0)<|
 .step (.len 34)<|
 .step (.ml [])<|
 .step (.call 36 [34,35,31,36,2,3,4,5,6,7,8,9,10,11,12,13,14,15,16,17,18,19,20,21,22,23,24,25] 0)<|
 .step (.call 36 [34,35,31,36,2,3,4,5,6,7,8,9,10,11,12,13,14,15,16,17,18,19,20,21,22,23,24,25] 1)<|
 .step (.call 37 [] 0)<|
 .step (.len 39)<|
 .step (.call 38 [34,39,40,31,38,2,3,4,5,6,7,8,9,10,11,12,13,14,15,16,17,18,19,20,21,22,23,24,25] 0)<|
 .step (.bin .eql 41 31)<|
 .ite 42
 (.step (.ci .i64 26)<|
 .ret [43])
 (.step (.call 39 [34,35,31,2,3,4,5,6,7,8,9,10,11,12,13,14,15,16,17,18,19,20,21,22,23,24,25] 0)<|
 .step (.bin .eql 43 31)<|
 .ite 44
 (.step (.call 39 [34,35,31,2,3,4,5,6,7,8,9,10,11,12,13,14,15,16,17,18,19,20,21,22,23,24,25] 1)<|
 .ret [45])
 (.step (.bin .eql 2 26)<|
 .ite 45
 (.step (.ci .u64 1)<|
 .step (.bin .lss 4 46)<|
 .ite 47
 (.step (.ci .i64 18)<|
 .ret [48])
 (.step (.bin .lss 5 4)<|
 .ite 48
 (.step (.ci .i64 18)<|
 .ret [49])
 (.step (.ci .u64 255)<|
 .step (.bin .gtr 5 49)<|
 .ite 50
 (.step (.ci .i64 18)<|
 .ret [51])
 (.step (.call 72 [25] 0)<|
 .step (.bin .neq 51 31)<|
 .ite 52
 (.ret [51])
 (.step (.len 25)<|
 .step (.call 75 [34,25,53,31] 0)<|
 .step (.bin .eql 54 31)<|
 .ite 55
 (.step (.ci .i64 14)<|
 .ret [56])
 (.ret [31]))))))
 (.step (.ci .i64 2)<|
 .step (.bin .eql 2 46)<|
 .ite 47
 (.step (.ci .u64 1)<|
 .step (.bin .lss 6 48)<|
 .ite 49
 (.step (.ci .i64 18)<|
 .ret [50])
 (.step (.ci .u64 255)<|
 .step (.bin .gtr 6 50)<|
 .ite 51
 (.step (.ci .i64 18)<|
 .ret [52])
 (.step (.call 72 [25] 0)<|
 .step (.bin .neq 52 31)<|
 .ite 53
 (.ret [52])
 (.step (.len 25)<|
 .step (.call 75 [34,25,54,31] 0)<|
 .step (.bin .eql 55 31)<|
 .ite 56
 (.step (.ci .i64 14)<|
 .ret [57])
 (.ret [31])))))
 (.step (.bin .eql 2 28)<|
 .ite 48
 (.step (.len 23)<|
 .step (.bin .eql 49 31)<|
 .ite 50
 (.step (.ci .i64 12)<|
 .ret [51])
 (.step (.call 72 [25] 0)<|
 .step (.bin .neq 51 31)<|
 .ite 52
 (.ret [51])
 (.step (.len 25)<|
 .step (.call 75 [34,25,53,31] 0)<|
 .step (.bin .eql 54 31)<|
 .ite 55
 (.step (.ci .i64 14)<|
 .ret [56])
 (.ret [31]))))
 (.step (.ci .i64 5)<|
 .step (.bin .eql 2 49)<|
 .ite 50
 (.step (.ci .u64 1)<|
 .step (.bin .lss 12 51)<|
 .ite 52
 (.step (.ci .i64 18)<|
 .ret [53])
 (.step (.call 72 [25] 0)<|
 .step (.bin .neq 53 31)<|
 .ite 54
 (.ret [53])
 (.step (.len 25)<|
 .step (.call 75 [34,25,55,31] 0)<|
 .step (.bin .eql 56 31)<|
 .ite 57
 (.step (.ci .i64 14)<|
 .ret [58])
 (.ret [31]))))
 (.step (.ci .i64 6)<|
 .step (.bin .eql 2 51)<|
 .ite 52
 (.step (.ci .u64 1)<|
 .step (.bin .lss 13 53)<|
 .ite 54
 (.step (.ci .i64 18)<|
 .ret [55])
 (.step (.bin .leq 12 13)<|
 .ite 55
 (.step (.ci .i64 20)<|
 .ret [56])
 (.step (.call 72 [25] 0)<|
 .step (.bin .neq 56 31)<|
 .ite 57
 (.ret [56])
 (.step (.len 25)<|
 .step (.call 75 [34,25,58,31] 0)<|
 .step (.bin .eql 59 31)<|
 .ite 60
 (.step (.ci .i64 14)<|
 .ret [61])
 (.ret [31])))))
 (.step (.call 72 [25] 0)<|
 .step (.bin .neq 53 31)<|
 .ite 54
 (.ret [53])
 (.step (.len 25)<|
 .step (.call 75 [34,25,55,31] 0)<|
 .step (.bin .eql 56 31)<|
 .ite 57
 (.step (.ci .i64 14)<|
 .ret [58])
 (.ret [31])))))))))))))
def d53:PDef:=.fn [.sc] [.sc]<|
 .step (.len 0)<|
 .step (.conv .u64 1)<|
 .step (.call 4 [2] 0)<|
 .step (.bytes 3)<|
 .step (.ml [])<|
 .step (.app 1 1 5 4)<|
 .step (.slen 3)<|
 .step (.ci .i64 0)<|
 .step (.call 54 [0,1,8,6] 0)<|
 .step (.call 54 [0,1,8,6] 1)<|
 .step (.len 10)<|
 .step (.str 10)<|
 .ret [12]
abbrev d116:PDef:=.prim (cloneP 32 2)
def d78:PDef:=.fn [.ag 24,.sc] [.ag 5,.sc]<|
 .step (.cell 0 0)<|
 .step (.cell 1 0)<|
 .step (.cell 2 0)<|
 .step (.cell 3 0)<|
 .step (.cell 4 0)<|
 .step (.cell 5 0)<|
 .step (.cell 6 0)<|
 .step (.cell 7 0)<|
 .step (.cell 8 0)<|
 .step (.cell 9 0)<|
 .step (.cell 10 0)<|
 .step (.cell 11 0)<|
 .step (.cell 12 0)<|
 .step (.cell 13 0)<|
 .step (.cell 14 0)<|
 .step (.cell 15 0)<|
 .step (.cell 16 0)<|
 .step (.cell 17 0)<|
 .step (.cell 18 0)<|
 .step (.cell 19 0)<|
 .step (.cell 20 0)<|
 .step (.cell 21 0)<|
 .step (.cell 22 0)<|
 .step (.cell 23 0)<|
 .step (.cs [114,101,109,97,105,110,105,110,103])<|
 .step (.bin .eql 1 26)<|
 .ite 27
 (.step (.conv .u64 18)<|
 .step (.ci .u64 1)<|
 .step (.bin .shl 28 29)<|
 .step (.ci .u64 63)<|
 .step (.bin .shr 18 31)<|
 .step (.conv .u64 32)<|
 .step (.bin .xor 30 33)<|
 .step (.ci .u64 0)<|
 .step (.ci .i64 0)<|
 .step (.cs [])<|
 .step (.ml [])<|
 .step (.cb true)<|
 .step (.mk [35,36,34,37,38])<|
 .ret [40,39])
 (.step (.cs [97,108,108,111,119,101,100])<|
 .step (.bin .eql 1 28)<|
 .ite 29
 (.ite 19
 (.step (.ci .u64 0)<|
 .step (.ci .i64 0)<|
 .step (.ci .u64 1)<|
 .step (.cs [])<|
 .step (.ml [])<|
 .step (.cb true)<|
 .step (.mk [30,31,32,33,34])<|
 .ret [36,35])
 (.step (.ci .u64 0)<|
 .step (.ci .i64 0)<|
 .step (.cs [])<|
 .step (.ml [])<|
 .step (.cb true)<|
 .step (.mk [30,31,30,32,33])<|
 .ret [35,34]))
 (.step (.cs [110,97,109,101])<|
 .step (.bin .eql 1 30)<|
 .ite 31
 (.step (.ci .u64 0)<|
 .step (.ci .i64 1)<|
 .step (.ml [])<|
 .step (.cb true)<|
 .step (.mk [32,33,32,20,34])<|
 .ret [36,35])
 (.step (.cs [114,101,103,105,111,110])<|
 .step (.bin .eql 1 32)<|
 .ite 33
 (.step (.ci .u64 0)<|
 .step (.ci .i64 1)<|
 .step (.ml [])<|
 .step (.cb true)<|
 .step (.mk [34,35,34,21,36])<|
 .ret [38,37])
 (.step (.cs [110,111,116,101])<|
 .step (.bin .eql 1 34)<|
 .ite 35
 (.step (.ci .u64 0)<|
 .step (.ci .i64 1)<|
 .step (.ml [])<|
 .step (.cb true)<|
 .step (.mk [36,37,36,22,38])<|
 .ret [40,39])
 (.step (.cs [100,101,115,99,114])<|
 .step (.bin .eql 1 36)<|
 .ite 37
 (.step (.len 23)<|
 .step (.ci .i64 0)<|
 .step (.bin .eql 38 39)<|
 .ite 40
 (.step (.ci .u64 0)<|
 .step (.ci .i64 1)<|
 .step (.cs [])<|
 .step (.ml [])<|
 .step (.cb true)<|
 .step (.mk [41,42,41,43,44])<|
 .ret [46,45])
 (.step (.call 53 [23] 0)<|
 .step (.ci .u64 0)<|
 .step (.ci .i64 1)<|
 .step (.ml [])<|
 .step (.cb true)<|
 .step (.mk [42,43,42,41,44])<|
 .ret [46,45]))
 (.step (.cs [116,97,98,108,101])<|
 .step (.bin .eql 1 38)<|
 .ite 39
 (.step (.len 24)<|
 .step (.ci .i64 0)<|
 .step (.bin .eql 40 41)<|
 .ite 42
 (.step (.ci .u64 0)<|
 .step (.ci .i64 1)<|
 .step (.cs [])<|
 .step (.ml [])<|
 .step (.cb true)<|
 .step (.mk [43,44,43,45,46])<|
 .ret [48,47])
 (.step (.call 79 [24] 0)<|
 .step (.call 79 [24] 1)<|
 .step (.ci .u64 0)<|
 .step (.ci .i64 1)<|
 .step (.ml [])<|
 .step (.cb true)<|
 .step (.mk [45,46,45,43,47])<|
 .ret [49,48]))
 (.step (.cs [105,100])<|
 .step (.bin .eql 1 40)<|
 .ite 41
 (.step (.ci .u64 0)<|
 .step (.ci .i64 0)<|
 .step (.cs [])<|
 .step (.ml [])<|
 .step (.cb true)<|
 .step (.mk [42,43,3,44,45])<|
 .ret [47,46])
 (.step (.cs [109,105,110])<|
 .step (.bin .eql 1 42)<|
 .ite 43
 (.step (.ci .u64 0)<|
 .step (.ci .i64 0)<|
 .step (.cs [])<|
 .step (.ml [])<|
 .step (.cb true)<|
 .step (.mk [44,45,4,46,47])<|
 .ret [49,48])
 (.step (.cs [109,97,120])<|
 .step (.bin .eql 1 44)<|
 .ite 45
 (.step (.ci .u64 0)<|
 .step (.ci .i64 0)<|
 .step (.cs [])<|
 .step (.ml [])<|
 .step (.cb true)<|
 .step (.mk [46,47,5,48,49])<|
 .ret [51,50])
 (.step (.cs [99,104,111,115,101,110])<|
 .step (.bin .eql 1 46)<|
 .ite 47
 (.step (.ci .u64 0)<|
 .step (.ci .i64 0)<|
 .step (.cs [])<|
 .step (.ml [])<|
 .step (.cb true)<|
 .step (.mk [48,49,6,50,51])<|
 .ret [53,52])
 (.step (.cs [102,108,97,103,115])<|
 .step (.bin .eql 1 48)<|
 .ite 49
 (.step (.ci .u64 0)<|
 .step (.ci .i64 0)<|
 .step (.cs [])<|
 .step (.ml [])<|
 .step (.cb true)<|
 .step (.mk [50,51,7,52,53])<|
 .ret [55,54])
 (.step (.cs [99,111,115,116])<|
 .step (.bin .eql 1 50)<|
 .ite 51
 (.step (.ci .u64 0)<|
 .step (.ci .i64 0)<|
 .step (.cs [])<|
 .step (.ml [])<|
 .step (.cb true)<|
 .step (.mk [52,53,8,54,55])<|
 .ret [57,56])
 (.step (.cs [112,114,105,111,114,105,116,121])<|
 .step (.bin .eql 1 52)<|
 .ite 53
 (.step (.ci .u64 0)<|
 .step (.ci .i64 0)<|
 .step (.cs [])<|
 .step (.ml [])<|
 .step (.cb true)<|
 .step (.mk [54,55,9,56,57])<|
 .ret [59,58])
 (.step (.cs [100,101,97,100,108,105,110,101])<|
 .step (.bin .eql 1 54)<|
 .ite 55
 (.step (.ci .u64 0)<|
 .step (.ci .i64 0)<|
 .step (.cs [])<|
 .step (.ml [])<|
 .step (.cb true)<|
 .step (.mk [56,57,10,58,59])<|
 .ret [61,60])
 (.step (.cs [114,101,116,114,121])<|
 .step (.bin .eql 1 56)<|
 .ite 57
 (.step (.ci .u64 0)<|
 .step (.ci .i64 0)<|
 .step (.cs [])<|
 .step (.ml [])<|
 .step (.cb true)<|
 .step (.mk [58,59,11,60,61])<|
 .ret [63,62])
 (.step (.cs [101,112,111,99,104])<|
 .step (.bin .eql 1 58)<|
 .ite 59
 (.step (.ci .u64 0)<|
 .step (.ci .i64 0)<|
 .step (.cs [])<|
 .step (.ml [])<|
 .step (.cb true)<|
 .step (.mk [60,61,12,62,63])<|
 .ret [65,64])
 (.step (.cs [98,97,115,101])<|
 .step (.bin .eql 1 60)<|
 .ite 61
 (.step (.ci .u64 0)<|
 .step (.ci .i64 0)<|
 .step (.cs [])<|
 .step (.ml [])<|
 .step (.cb true)<|
 .step (.mk [62,63,13,64,65])<|
 .ret [67,66])
 (.step (.cs [100,105,103,101,115,116])<|
 .step (.bin .eql 1 62)<|
 .ite 63
 (.step (.ci .u64 0)<|
 .step (.ci .i64 0)<|
 .step (.cs [])<|
 .step (.ml [])<|
 .step (.cb true)<|
 .step (.mk [64,65,14,66,67])<|
 .ret [69,68])
 (.step (.cs [108,97,103])<|
 .step (.bin .eql 1 64)<|
 .ite 65
 (.step (.ci .u64 0)<|
 .step (.ci .i64 0)<|
 .step (.cs [])<|
 .step (.ml [])<|
 .step (.cb true)<|
 .step (.mk [66,67,15,68,69])<|
 .ret [71,70])
 (.step (.cs [99,111,100,101])<|
 .step (.bin .eql 1 66)<|
 .ite 67
 (.step (.ci .u64 0)<|
 .step (.ci .i64 0)<|
 .step (.cs [])<|
 .step (.ml [])<|
 .step (.cb true)<|
 .step (.mk [68,69,16,70,71])<|
 .ret [73,72])
 (.step (.cs [119,97,110,116])<|
 .step (.bin .eql 1 68)<|
 .ite 69
 (.step (.ci .u64 0)<|
 .step (.ci .i64 0)<|
 .step (.cs [])<|
 .step (.ml [])<|
 .step (.cb true)<|
 .step (.mk [70,71,17,72,73])<|
 .ret [75,74])
 (.step (.ci .u64 0)<|
 .step (.ci .i64 0)<|
 .step (.cs [])<|
 .step (.ml [])<|
 .step (.cb false)<|
 .step (.mk [70,71,70,72,73])<|
 .ret [75,74]))))))))))))))))))))))
def d35:PDef:=.fn [] [.sc]<|
 .step (.ci .u64 1)<|
 .step (.ci .i64 0)<|
 .step (.ci .i64 1)<|
 .step (.cs [101,112,111,99,104])<|
 .step (.mk [0,1,2,3])<|
 .step (.ci .u64 2)<|
 .step (.cs [99,111,100,101])<|
 .step (.mk [5,1,2,6])<|
 .step (.ci .u64 3)<|
 .step (.ci .i64 2)<|
 .step (.cs [119,97,110,116])<|
 .step (.mk [8,1,9,10])<|
 .step (.ci .u64 4)<|
 .step (.ci .i64 3)<|
 .step (.cs [110,111,116,101])<|
 .step (.mk [12,13,13,14])<|
 .step (.ml [4,7,11,15])<|
 .ret [16]
def d89:PDef:=.fn [.sc] [.sc]<|
 .step (.len 0)<|
 .step (.ci .i64 0)<|
 .step (.call 90 [0,2,1,2] 0)<|
 .step (.call 90 [0,2,1,2] 1)<|
 .ret [4]
def d55:PDef:=.fn [.ag 2] [.sc]<|
 .step (.cell 0 0)<|
 .step (.cell 1 0)<|
 .step (.slen 1)<|
 .step (.conv .u64 3)<|
 .step (.call 4 [4] 0)<|
 .step (.bin .add 5 1)<|
 .step (.slen 2)<|
 .step (.conv .u64 7)<|
 .step (.call 4 [8] 0)<|
 .step (.bin .add 6 9)<|
 .step (.bin .add 10 2)<|
 .ret [11]
def d32:PDef:=.fn [] [.sc]<|
 .step (.ci .u64 1)<|
 .step (.ci .i64 0)<|
 .step (.ci .i64 1)<|
 .step (.cs [101,112,111,99,104])<|
 .step (.mk [0,1,2,3])<|
 .step (.ci .u64 2)<|
 .step (.ci .i64 5)<|
 .step (.cs [116,97,98,108,101])<|
 .step (.mk [5,6,2,7])<|
 .step (.ci .u64 3)<|
 .step (.ci .i64 3)<|
 .step (.ci .i64 2)<|
 .step (.cs [114,101,103,105,111,110])<|
 .step (.mk [9,10,11,12])<|
 .step (.ci .u64 4)<|
 .step (.cs [100,105,103,101,115,116])<|
 .step (.mk [14,1,10,15])<|
 .step (.ml [4,8,13,16])<|
 .ret [17]
def d22:PDef:=.fn [.ag 24,.sc] [.sc,.sc]<|
 .step (.cell 0 0)<|
 .step (.cell 1 0)<|
 .step (.cell 2 0)<|
 .step (.cell 3 0)<|
 .step (.cell 4 0)<|
 .step (.cell 5 0)<|
 .step (.cell 6 0)<|
 .step (.cell 7 0)<|
 .step (.cell 8 0)<|
 .step (.cell 9 0)<|
 .step (.cell 10 0)<|
 .step (.cell 11 0)<|
 .step (.cell 12 0)<|
 .step (.cell 13 0)<|
 .step (.cell 14 0)<|
 .step (.cell 15 0)<|
 .step (.cell 16 0)<|
 .step (.cell 17 0)<|
 .step (.cell 18 0)<|
 .step (.cell 19 0)<|
 .step (.cell 20 0)<|
 .step (.cell 21 0)<|
 .step (.cell 22 0)<|
 .step (.cell 23 0)<|
 .step (.mk [2,3,4,5,6,7,8,9,10,11,12,13,14,15,16,17,18,19,20,21,22,23,24,25])<|
 .step (.call 23 [26,1] 0)<|
 .step (.call 23 [26,1] 1)<|
 .step (.ci .i64 0)<|
 .step (.bin .neq 28 29)<|
 .ite 30
 (.step (.cs [])<|
 .ret [31,28])
 (.step (.call 88 [27] 0)<|
 .step (.call 88 [27] 1)<|
 .step (.bin .neq 32 29)<|
 .ite 33
 (.step (.cs [])<|
 .ret [34,32])
 (.step (.conv .u64 2)<|
 .step (.call 4 [34] 0)<|
 .step (.bin .add 35 31)<|
 .step (.slen 36)<|
 .step (.ci .i64 65536)<|
 .step (.bin .gtr 37 38)<|
 .ite 39
 (.step (.cs [])<|
 .step (.ci .i64 4)<|
 .ret [40,41])
 (.ret [36,29])))
def d84:PDef:=.fn [.sc] [.sc,.sc]<|
 .step (.len 0)<|
 .step (.ci .i64 0)<|
 .step (.ml [])<|
 .step (.call 85 [3,0,1,2] 0)<|
 .step (.bin .eql 4 2)<|
 .ite 5
 (.step (.call 85 [3,0,1,2] 1)<|
 .ret [3,6])
 (.step (.call 85 [3,0,1,2] 1)<|
 .step (.call 1 [6] 0)<|
 .step (.same 6 7)<|
 .step (.ci .i64 1)<|
 .step (.call 86 [8,9] 0)<|
 .step (.bin .eql 10 2)<|
 .ite 11
 (.step (.ci .i64 14)<|
 .ret [3,12])
 (.step (.call 87 [8] 0)<|
 .ret [12,2]))
abbrev d10:PDef:=.prim sumsP
def d8:PDef:=.fn [.sc] [.sc]<|
 .step (.ci .u32 0)<|
 .step (.call 9 [1,0] 0)<|
 .ret [2]
def d114:PDef:=.fn [.ag 2] [.ag 2]<|
 .step (.cell 0 0)<|
 .step (.cell 1 0)<|
 .step (.len 2)<|
 .step (.ml [])<|
 .step (.ci .u64 0)<|
 .step (.mk [4,5])<|
 .step (.ci .i64 0)<|
 .step (.rep 2 32 6 7 3)<|
 .step (.call 115 [2,3,7,1,8] 0)<|
 .step (.call 115 [2,3,7,1,8] 1)<|
 .step (.mk [1,10])<|
 .ret [11]
def d2:PDef:=.fn [.ag 2,.ag 2,.sc,.sc] [.sc]<|
 .step (.cell 0 0)<|
 .step (.cell 1 0)<|
 .step (.cell 0 1)<|
 .step (.cell 1 1)<|
 .step (.ci .u8 0)<|
 .step (.bin .eql 3 8)<|
 .ite 9
 (.step (.cb true)<|
 .ret [10])
 (.step (.cs [])<|
 .step (.call 3 [10] 0)<|
 .step (.call 3 [10] 1)<|
 .step (.ci .u16 8)<|
 .step (.bin .rem 2 13)<|
 .step (.conv .i64 14)<|
 .step (.ci .i64 3)<|
 .step (.bin .add 16 15)<|
 .step (.cb false)<|
 .step (.ci .i64 0)<|
 .step (.mk [18,8,8,19,17,3])<|
 .step (.ml [20])<|
 .step (.ci .u64 1)<|
 .step (.bin .lss 4 22)<|
 .ite 23
 (.step (.bin .neq 12 19)<|
 .ite 24
 (.step (.cb true)<|
 .ret [25])
 (.step (.cb true)<|
 .ret [25]))
 (.step (.bin .lss 5 4)<|
 .ite 24
 (.step (.bin .neq 12 19)<|
 .ite 25
 (.step (.cb true)<|
 .ret [26])
 (.step (.cb true)<|
 .ret [26]))
 (.step (.ci .u64 255)<|
 .step (.bin .gtr 5 25)<|
 .ite 26
 (.step (.bin .neq 12 19)<|
 .ite 27
 (.step (.cb true)<|
 .ret [28])
 (.step (.cb true)<|
 .ret [28]))
 (.step (.ci .u64 3)<|
 .step (.bin .gtr 5 27)<|
 .ite 28
 (.step (.bin .neq 12 19)<|
 .ite 29
 (.step (.cb true)<|
 .ret [30])
 (.step (.cb true)<|
 .ret [30]))
 (.step (.cs [102,105,114,115,116])<|
 .step (.ci .i64 256)<|
 .step (.call 13 [29,19,30] 0)<|
 .step (.bin .neq 31 19)<|
 .ite 32
 (.step (.bin .neq 12 19)<|
 .ite 33
 (.step (.cb true)<|
 .ret [34])
 (.step (.cb true)<|
 .ret [34]))
 (.step (.bin .lss 6 22)<|
 .ite 33
 (.step (.bin .neq 12 19)<|
 .ite 34
 (.step (.cb true)<|
 .ret [35])
 (.step (.cb true)<|
 .ret [35]))
 (.step (.bin .lss 7 6)<|
 .ite 34
 (.step (.bin .neq 12 19)<|
 .ite 35
 (.step (.cb true)<|
 .ret [36])
 (.step (.cb true)<|
 .ret [36]))
 (.step (.bin .gtr 7 25)<|
 .ite 35
 (.step (.bin .neq 12 19)<|
 .ite 36
 (.step (.cb true)<|
 .ret [37])
 (.step (.cb true)<|
 .ret [37]))
 (.step (.bin .gtr 7 27)<|
 .ite 36
 (.step (.bin .neq 12 19)<|
 .ite 37
 (.step (.cb true)<|
 .ret [38])
 (.step (.cb true)<|
 .ret [38]))
 (.step (.cs [111,116,104,101,114])<|
 .step (.call 13 [37,19,30] 0)<|
 .step (.bin .neq 38 19)<|
 .ite 39
 (.step (.bin .neq 12 19)<|
 .ite 40
 (.step (.cb true)<|
 .ret [41])
 (.step (.cb true)<|
 .ret [41]))
 (.step (.call 16 [21] 0)<|
 .step (.ml [])<|
 .step (.call 16 [41] 0)<|
 .step (.bin .neq 12 19)<|
 .ite 43
 (.step (.cb true)<|
 .ret [44])
 (.step (.ci .u64 0)<|
 .step (.ci .i64 1)<|
 .step (.cb true)<|
 .step (.call 17 [42,40,6,7,4,5,19,44,44,44,37,18,19,19,45,18,44,45,44,29,46,19,19,45,18,44,45,44] 0)<|
 .step (.bin .eql 47 19)<|
 .ite 48
 (.step (.call 17 [42,40,6,7,4,5,19,44,44,44,37,18,19,19,45,18,44,45,44,29,46,19,19,45,18,44,45,44] 1)<|
 .step (.call 17 [42,40,6,7,4,5,19,44,44,44,37,18,19,19,45,18,44,45,44,29,46,19,19,45,18,44,45,44] 2)<|
 .step (.call 17 [42,40,6,7,4,5,19,44,44,44,37,18,19,19,45,18,44,45,44,29,46,19,19,45,18,44,45,44] 3)<|
 .step (.call 17 [42,40,6,7,4,5,19,44,44,44,37,18,19,19,45,18,44,45,44,29,46,19,19,45,18,44,45,44] 4)<|
 .step (.call 17 [42,40,6,7,4,5,19,44,44,44,37,18,19,19,45,18,44,45,44,29,46,19,19,45,18,44,45,44] 5)<|
 .step (.call 17 [42,40,6,7,4,5,19,44,44,44,37,18,19,19,45,18,44,45,44,29,46,19,19,45,18,44,45,44] 6)<|
 .step (.call 17 [42,40,6,7,4,5,19,44,44,44,37,18,19,19,45,18,44,45,44,29,46,19,19,45,18,44,45,44] 7)<|
 .step (.call 17 [42,40,6,7,4,5,19,44,44,44,37,18,19,19,45,18,44,45,44,29,46,19,19,45,18,44,45,44] 8)<|
 .step (.call 17 [42,40,6,7,4,5,19,44,44,44,37,18,19,19,45,18,44,45,44,29,46,19,19,45,18,44,45,44] 9)<|
 .step (.bin .neq 49 45)<|
 .ite 58
 (.ret [18])
 (.step (.call 144 [44,41,50,51,52,53,54,55,6,7,37,18,56,19,45,44,4,5,29,46,57,45] 0)<|
 .step (.bin .eql 59 19)<|
 .step (.call 109 [44,50,51,52,53,54,55,6,7,37,18,56,19,45,4,5,29,46,57,45] 0)<|
 .step (.bin .eql 61 19)<|
 .ite 60
 (.step (.call 144 [44,41,50,51,52,53,54,55,6,7,37,18,56,19,45,44,4,5,29,46,57,45] 1)<|
 .step (.call 144 [44,41,50,51,52,53,54,55,6,7,37,18,56,19,45,44,4,5,29,46,57,45] 2)<|
 .step (.call 144 [44,41,50,51,52,53,54,55,6,7,37,18,56,19,45,44,4,5,29,46,57,45] 3)<|
 .step (.call 144 [44,41,50,51,52,53,54,55,6,7,37,18,56,19,45,44,4,5,29,46,57,45] 4)<|
 .step (.call 144 [44,41,50,51,52,53,54,55,6,7,37,18,56,19,45,44,4,5,29,46,57,45] 5)<|
 .step (.call 144 [44,41,50,51,52,53,54,55,6,7,37,18,56,19,45,44,4,5,29,46,57,45] 6)<|
 .step (.call 144 [44,41,50,51,52,53,54,55,6,7,37,18,56,19,45,44,4,5,29,46,57,45] 7)<|
 .step (.call 145 [44,41,50,51,52,53,54,55,6,7,37,18,56,19,45,4,5,29,46,57,22] 0)<|
 .step (.call 145 [44,41,50,51,52,53,54,55,6,7,37,18,56,19,45,4,5,29,46,57,22] 1)<|
 .step (.call 145 [44,41,50,51,52,53,54,55,6,7,37,18,56,19,45,4,5,29,46,57,22] 2)<|
 .step (.call 145 [44,41,50,51,52,53,54,55,6,7,37,18,56,19,45,4,5,29,46,57,22] 3)<|
 .step (.call 145 [44,41,50,51,52,53,54,55,6,7,37,18,56,19,45,4,5,29,46,57,22] 4)<|
 .step (.call 0 [72] 0)<|
 .step (.slen 11)<|
 .step (.ci .i64 7)<|
 .step (.bin .eql 76 77)<|
 .ite 78
 (.step (.len 75)<|
 .step (.bin .eql 79 45)<|
 .ite 80
 (.step (.idx 75 19)<|
 .step (.at 3 75 81)<|
 .step (.cell 0 82)<|
 .step (.cell 1 82)<|
 .step (.cell 2 82)<|
 .step (.mk [83,84,85])<|
 .step (.ci .i64 6)<|
 .step (.mk [22,45,87])<|
 .step (.binc .eql [0,0,0] 86 88)<|
 .ite 89
 (.step (.call 144 [71,72,50,73,52,53,74,55,6,7,37,18,56,19,45,44,4,5,29,46,57,45] 0)<|
 .step (.bin .eql 90 19)<|
 .ite 91
 (.step (.call 144 [71,72,50,73,52,53,74,55,6,7,37,18,56,19,45,44,4,5,29,46,57,45] 1)<|
 .step (.call 144 [71,72,50,73,52,53,74,55,6,7,37,18,56,19,45,44,4,5,29,46,57,45] 2)<|
 .step (.call 144 [71,72,50,73,52,53,74,55,6,7,37,18,56,19,45,44,4,5,29,46,57,45] 3)<|
 .step (.call 144 [71,72,50,73,52,53,74,55,6,7,37,18,56,19,45,44,4,5,29,46,57,45] 4)<|
 .step (.call 144 [71,72,50,73,52,53,74,55,6,7,37,18,56,19,45,44,4,5,29,46,57,45] 5)<|
 .step (.call 144 [71,72,50,73,52,53,74,55,6,7,37,18,56,19,45,44,4,5,29,46,57,45] 6)<|
 .step (.call 144 [71,72,50,73,52,53,74,55,6,7,37,18,56,19,45,44,4,5,29,46,57,45] 7)<|
 .step (.bin .eql 96 67)<|
 .ite 99
 (.step (.call 144 [71,72,50,73,52,53,74,55,6,7,37,18,56,19,45,44,4,5,29,46,57,19] 0)<|
 .step (.bin .eql 100 19)<|
 .ite 101
 (.step (.call 144 [71,72,50,73,52,53,74,55,6,7,37,18,56,19,45,44,4,5,29,46,57,19] 1)<|
 .step (.call 144 [71,72,50,73,52,53,74,55,6,7,37,18,56,19,45,44,4,5,29,46,57,19] 2)<|
 .step (.call 144 [71,72,50,73,52,53,74,55,6,7,37,18,56,19,45,44,4,5,29,46,57,19] 3)<|
 .step (.call 144 [71,72,50,73,52,53,74,55,6,7,37,18,56,19,45,44,4,5,29,46,57,19] 4)<|
 .step (.call 144 [71,72,50,73,52,53,74,55,6,7,37,18,56,19,45,44,4,5,29,46,57,19] 5)<|
 .step (.call 144 [71,72,50,73,52,53,74,55,6,7,37,18,56,19,45,44,4,5,29,46,57,19] 6)<|
 .step (.call 144 [71,72,50,73,52,53,74,55,6,7,37,18,56,19,45,44,4,5,29,46,57,19] 7)<|
 .step (.bin .eql 106 45)<|
 .ret [109])
 (.ret [18]))
 (.ret [18]))
 (.step (.bin .eql 19 67)<|
 .ite 92
 (.step (.call 144 [71,72,50,73,52,53,74,55,6,7,37,18,56,19,45,44,4,5,29,46,57,19] 0)<|
 .step (.bin .eql 93 19)<|
 .ite 94
 (.step (.call 144 [71,72,50,73,52,53,74,55,6,7,37,18,56,19,45,44,4,5,29,46,57,19] 1)<|
 .step (.call 144 [71,72,50,73,52,53,74,55,6,7,37,18,56,19,45,44,4,5,29,46,57,19] 2)<|
 .step (.call 144 [71,72,50,73,52,53,74,55,6,7,37,18,56,19,45,44,4,5,29,46,57,19] 3)<|
 .step (.call 144 [71,72,50,73,52,53,74,55,6,7,37,18,56,19,45,44,4,5,29,46,57,19] 4)<|
 .step (.call 144 [71,72,50,73,52,53,74,55,6,7,37,18,56,19,45,44,4,5,29,46,57,19] 5)<|
 .step (.call 144 [71,72,50,73,52,53,74,55,6,7,37,18,56,19,45,44,4,5,29,46,57,19] 6)<|
 .step (.call 144 [71,72,50,73,52,53,74,55,6,7,37,18,56,19,45,44,4,5,29,46,57,19] 7)<|
 .step (.bin .eql 99 45)<|
 .ret [102])
 (.ret [18]))
 (.ret [18])))
 (.ret [18]))
 (.ret [18]))
 (.ret [18]))
 (.step (.call 145 [44,41,50,51,52,53,54,55,6,7,37,18,56,19,45,4,5,29,46,57,22] 0)<|
 .step (.call 145 [44,41,50,51,52,53,54,55,6,7,37,18,56,19,45,4,5,29,46,57,22] 1)<|
 .step (.call 145 [44,41,50,51,52,53,54,55,6,7,37,18,56,19,45,4,5,29,46,57,22] 2)<|
 .step (.call 145 [44,41,50,51,52,53,54,55,6,7,37,18,56,19,45,4,5,29,46,57,22] 3)<|
 .step (.call 145 [44,41,50,51,52,53,54,55,6,7,37,18,56,19,45,4,5,29,46,57,22] 4)<|
 .step (.call 0 [65] 0)<|
 .step (.slen 11)<|
 .step (.ci .i64 7)<|
 .step (.bin .eql 69 70)<|
 .ite 71
 (.step (.len 68)<|
 .step (.bin .eql 72 45)<|
 .ite 73
 (.step (.idx 68 19)<|
 .step (.at 3 68 74)<|
 .step (.cell 0 75)<|
 .step (.cell 1 75)<|
 .step (.cell 2 75)<|
 .step (.mk [76,77,78])<|
 .step (.ci .i64 6)<|
 .step (.mk [22,45,80])<|
 .step (.binc .eql [0,0,0] 79 81)<|
 .ite 82
 (.step (.call 144 [64,65,50,66,52,53,67,55,6,7,37,18,56,19,45,44,4,5,29,46,57,45] 0)<|
 .step (.bin .eql 83 19)<|
 .ite 84
 (.step (.call 144 [64,65,50,66,52,53,67,55,6,7,37,18,56,19,45,44,4,5,29,46,57,45] 1)<|
 .step (.call 144 [64,65,50,66,52,53,67,55,6,7,37,18,56,19,45,44,4,5,29,46,57,45] 2)<|
 .step (.call 144 [64,65,50,66,52,53,67,55,6,7,37,18,56,19,45,44,4,5,29,46,57,45] 3)<|
 .step (.call 144 [64,65,50,66,52,53,67,55,6,7,37,18,56,19,45,44,4,5,29,46,57,45] 4)<|
 .step (.call 144 [64,65,50,66,52,53,67,55,6,7,37,18,56,19,45,44,4,5,29,46,57,45] 5)<|
 .step (.call 144 [64,65,50,66,52,53,67,55,6,7,37,18,56,19,45,44,4,5,29,46,57,45] 6)<|
 .step (.call 144 [64,65,50,66,52,53,67,55,6,7,37,18,56,19,45,44,4,5,29,46,57,45] 7)<|
 .step (.bin .eql 89 19)<|
 .ite 92
 (.step (.call 144 [64,65,50,66,52,53,67,55,6,7,37,18,56,19,45,44,4,5,29,46,57,19] 0)<|
 .step (.bin .eql 93 19)<|
 .ite 94
 (.step (.call 144 [64,65,50,66,52,53,67,55,6,7,37,18,56,19,45,44,4,5,29,46,57,19] 1)<|
 .step (.call 144 [64,65,50,66,52,53,67,55,6,7,37,18,56,19,45,44,4,5,29,46,57,19] 2)<|
 .step (.call 144 [64,65,50,66,52,53,67,55,6,7,37,18,56,19,45,44,4,5,29,46,57,19] 3)<|
 .step (.call 144 [64,65,50,66,52,53,67,55,6,7,37,18,56,19,45,44,4,5,29,46,57,19] 4)<|
 .step (.call 144 [64,65,50,66,52,53,67,55,6,7,37,18,56,19,45,44,4,5,29,46,57,19] 5)<|
 .step (.call 144 [64,65,50,66,52,53,67,55,6,7,37,18,56,19,45,44,4,5,29,46,57,19] 6)<|
 .step (.call 144 [64,65,50,66,52,53,67,55,6,7,37,18,56,19,45,44,4,5,29,46,57,19] 7)<|
 .step (.bin .eql 99 45)<|
 .ret [102])
 (.ret [18]))
 (.ret [18]))
 (.step (.call 144 [64,65,50,66,52,53,67,55,6,7,37,18,56,19,45,44,4,5,29,46,57,19] 0)<|
 .step (.bin .eql 85 19)<|
 .ite 86
 (.step (.call 144 [64,65,50,66,52,53,67,55,6,7,37,18,56,19,45,44,4,5,29,46,57,19] 1)<|
 .step (.call 144 [64,65,50,66,52,53,67,55,6,7,37,18,56,19,45,44,4,5,29,46,57,19] 2)<|
 .step (.call 144 [64,65,50,66,52,53,67,55,6,7,37,18,56,19,45,44,4,5,29,46,57,19] 3)<|
 .step (.call 144 [64,65,50,66,52,53,67,55,6,7,37,18,56,19,45,44,4,5,29,46,57,19] 4)<|
 .step (.call 144 [64,65,50,66,52,53,67,55,6,7,37,18,56,19,45,44,4,5,29,46,57,19] 5)<|
 .step (.call 144 [64,65,50,66,52,53,67,55,6,7,37,18,56,19,45,44,4,5,29,46,57,19] 6)<|
 .step (.call 144 [64,65,50,66,52,53,67,55,6,7,37,18,56,19,45,44,4,5,29,46,57,19] 7)<|
 .step (.bin .eql 91 45)<|
 .ret [94])
 (.ret [18])))
 (.ret [18]))
 (.ret [18]))
 (.ret [18]))))
 (.step (.call 17 [42,40,6,7,4,5,19,44,44,44,37,18,19,19,45,18,44,45,44,29,46,19,19,45,18,44,45,44] 1)<|
 .step (.call 17 [42,40,6,7,4,5,19,44,44,44,37,18,19,19,45,18,44,45,44,29,46,19,19,45,18,44,45,44] 2)<|
 .step (.call 17 [42,40,6,7,4,5,19,44,44,44,37,18,19,19,45,18,44,45,44,29,46,19,19,45,18,44,45,44] 3)<|
 .step (.call 17 [42,40,6,7,4,5,19,44,44,44,37,18,19,19,45,18,44,45,44,29,46,19,19,45,18,44,45,44] 4)<|
 .step (.call 17 [42,40,6,7,4,5,19,44,44,44,37,18,19,19,45,18,44,45,44,29,46,19,19,45,18,44,45,44] 5)<|
 .step (.call 17 [42,40,6,7,4,5,19,44,44,44,37,18,19,19,45,18,44,45,44,29,46,19,19,45,18,44,45,44] 6)<|
 .step (.call 17 [42,40,6,7,4,5,19,44,44,44,37,18,19,19,45,18,44,45,44,29,46,19,19,45,18,44,45,44] 7)<|
 .step (.call 17 [42,40,6,7,4,5,19,44,44,44,37,18,19,19,45,18,44,45,44,29,46,19,19,45,18,44,45,44] 8)<|
 .step (.call 17 [42,40,6,7,4,5,19,44,44,44,37,18,19,19,45,18,44,45,44,29,46,19,19,45,18,44,45,44] 9)<|
 .step (.call 17 [42,40,6,7,4,5,19,44,44,44,37,18,19,19,45,18,44,45,44,29,46,19,19,45,18,44,45,44] 10)<|
 .step (.call 17 [42,40,6,7,4,5,19,44,44,44,37,18,19,19,45,18,44,45,44,29,46,19,19,45,18,44,45,44] 11)<|
 .step (.call 17 [42,40,6,7,4,5,19,44,44,44,37,18,19,19,45,18,44,45,44,29,46,19,19,45,18,44,45,44] 12)<|
 .step (.call 17 [42,40,6,7,4,5,19,44,44,44,37,18,19,19,45,18,44,45,44,29,46,19,19,45,18,44,45,44] 13)<|
 .step (.call 17 [42,40,6,7,4,5,19,44,44,44,37,18,19,19,45,18,44,45,44,29,46,19,19,45,18,44,45,44] 14)<|
 .step (.call 17 [42,40,6,7,4,5,19,44,44,44,37,18,19,19,45,18,44,45,44,29,46,19,19,45,18,44,45,44] 15)<|
 .step (.call 17 [42,40,6,7,4,5,19,44,44,44,37,18,19,19,45,18,44,45,44,29,46,19,19,45,18,44,45,44] 16)<|
 .step (.call 17 [42,40,6,7,4,5,19,44,44,44,37,18,19,19,45,18,44,45,44,29,46,19,19,45,18,44,45,44] 17)<|
 .step (.call 17 [42,40,6,7,4,5,19,44,44,44,37,18,19,19,45,18,44,45,44,29,46,19,19,45,18,44,45,44] 18)<|
 .step (.call 17 [42,40,6,7,4,5,19,44,44,44,37,18,19,19,45,18,44,45,44,29,46,19,19,45,18,44,45,44] 19)<|
 .step (.call 17 [42,40,6,7,4,5,19,44,44,44,37,18,19,19,45,18,44,45,44,29,46,19,19,45,18,44,45,44] 20)<|
 .step (.call 17 [42,40,6,7,4,5,19,44,44,44,37,18,19,19,45,18,44,45,44,29,46,19,19,45,18,44,45,44] 21)<|
 .step (.call 17 [42,40,6,7,4,5,19,44,44,44,37,18,19,19,45,18,44,45,44,29,46,19,19,45,18,44,45,44] 22)<|
 .step (.call 17 [42,40,6,7,4,5,19,44,44,44,37,18,19,19,45,18,44,45,44,29,46,19,19,45,18,44,45,44] 23)<|
 .step (.call 17 [42,40,6,7,4,5,19,44,44,44,37,18,19,19,45,18,44,45,44,29,46,19,19,45,18,44,45,44] 24)<|
 .step (.call 17 [42,40,6,7,4,5,19,44,44,44,37,18,19,19,45,18,44,45,44,29,46,19,19,45,18,44,45,44] 25)<|
 .step (.call 17 [42,40,6,7,4,5,19,44,44,44,37,18,19,19,45,18,44,45,44,29,46,19,19,45,18,44,45,44] 26)<|
 .step (.call 17 [42,40,6,7,4,5,19,44,44,44,37,18,19,19,45,18,44,45,44,29,46,19,19,45,18,44,45,44] 27)<|
 .ret [18])))))))))))))
def d136:PDef:=.fn [.sc] [.sc]<|
 .step (.ci .i64 0)<|
 .step (.bin .lss 0 1)<|
 .ite 2
 (.ret [1])
 (.step (.ci .i64 65536)<|
 .step (.bin .gtr 0 3)<|
 .ite 4
 (.ret [1])
 (.step (.conv .u64 0)<|
 .step (.call 5 [5] 0)<|
 .step (.ci .i64 2)<|
 .step (.bin .add 7 6)<|
 .step (.bin .add 8 0)<|
 .step (.ci .i64 4)<|
 .step (.bin .add 9 10)<|
 .ret [11]))
def d145:PDef:=.tree 21<|
 .step (.ci .u64 100000)<|
 .step (.mm false 20 21)<|
 .step (.bin .add 0 22)<|
 .step (.call 146 [23,0,1,2,3,4,5,6,7,8,9,10,11,12,13,14,0,15,16,17,18,19] 0)<|
 .step (.ci .i64 0)<|
 .step (.bin .eql 24 25)<|
 .ite 26
 (.step (.call 146 [23,0,1,2,3,4,5,6,7,8,9,10,11,12,13,14,0,15,16,17,18,19] 1)<|
 .step (.call 146 [23,0,1,2,3,4,5,6,7,8,9,10,11,12,13,14,0,15,16,17,18,19] 2)<|
 .step (.call 146 [23,0,1,2,3,4,5,6,7,8,9,10,11,12,13,14,0,15,16,17,18,19] 3)<|
 .ret [25,23,27,28,29])
 (.step (.call 146 [23,0,1,2,3,4,5,6,7,8,9,10,11,12,13,14,0,15,16,17,18,19] 1)<|
 .step (.call 146 [23,0,1,2,3,4,5,6,7,8,9,10,11,12,13,14,0,15,16,17,18,19] 2)<|
 .step (.call 146 [23,0,1,2,3,4,5,6,7,8,9,10,11,12,13,14,0,15,16,17,18,19] 3)<|
 .step (.call 146 [23,0,1,2,3,4,5,6,7,8,9,10,11,12,13,14,0,15,16,17,18,19] 4)<|
 .ret [25,27,28,29,30])
def d144:PDef:=.tree 22<|
 .step (.ci .i64 0)<|
 .step (.bin .eql 21 22)<|
 .ite 23
 (.step (.isi 21 0)<|
 .ite 24
 (.step (.call 110 [16,17,18,19,20,13,14,11,15] 0)<|
 .step (.call 110 [16,17,18,19,20,13,14,11,15] 1)<|
 .step (.call 110 [16,17,18,19,20,13,14,11,15] 2)<|
 .ret [22,16,17,18,19,20,26,27])
 (.step (.isi 21 1)<|
 .ite 25
 (.step (.call 110 [8,9,10,11,12,13,14,11,15] 0)<|
 .step (.call 110 [8,9,10,11,12,13,14,11,15] 1)<|
 .step (.call 110 [8,9,10,11,12,13,14,11,15] 2)<|
 .ret [22,8,9,10,11,12,27,28])
 (.dead)))
 (.step (.ci .i64 1)<|
 .step (.bin .eql 21 24)<|
 .step (.un .not 25)<|
 .ite 26
 (.ret [24])
 (.step (.isi 21 0)<|
 .ite 27
 (.step (.call 110 [16,17,18,19,20,13,14,11,15] 0)<|
 .step (.call 110 [16,17,18,19,20,13,14,11,15] 1)<|
 .step (.call 110 [16,17,18,19,20,13,14,11,15] 2)<|
 .ret [22,16,17,18,19,20,29,30])
 (.step (.isi 21 1)<|
 .ite 28
 (.step (.call 110 [8,9,10,11,12,13,14,11,15] 0)<|
 .step (.call 110 [8,9,10,11,12,13,14,11,15] 1)<|
 .step (.call 110 [8,9,10,11,12,13,14,11,15] 2)<|
 .ret [22,8,9,10,11,12,30,31])
 (.dead))))
def d141:PDef:=.tree 21<|
 .step (.ci .i64 0)<|
 .step (.call 142 [21,0,1,2,3,4,5,6,7,8,9,10,11,12,13,14,15,16,17,18,19,20] 0)<|
 .step (.call 142 [21,0,1,2,3,4,5,6,7,8,9,10,11,12,13,14,15,16,17,18,19,20] 1)<|
 .step (.call 142 [21,0,1,2,3,4,5,6,7,8,9,10,11,12,13,14,15,16,17,18,19,20] 2)<|
 .step (.call 142 [21,0,1,2,3,4,5,6,7,8,9,10,11,12,13,14,15,16,17,18,19,20] 3)<|
 .ret [21,23,24,25]
def d140:PDef:=.tree 23<|
 .step (.call 130 [0] 0)<|
 .step (.call 130 [0] 1)<|
 .step (.call 130 [0] 2)<|
 .step (.ci .i64 0)<|
 .step (.bin .neq 25 26)<|
 .ite 27
 (.step (.mk [1,22,25])<|
 .step (.ml [28])<|
 .step (.app 3 24 2 29)<|
 .step (.call 137 [22,1,30,3,4,5,6,7,8,9,10,11,12,13,14,15,16,17,18,19,20,21] 0)<|
 .ret [26,30])
 (.step (.slen 0)<|
 .step (.bin .lss 24 28)<|
 .ite 29
 (.step (.ci .i64 10)<|
 .step (.mk [1,22,30])<|
 .step (.ml [31])<|
 .step (.app 3 24 2 32)<|
 .step (.call 137 [22,1,33,3,4,5,6,7,8,9,10,11,12,13,14,15,16,17,18,19,20,21] 0)<|
 .ret [26,33])
 (.step (.isi 22 0)<|
 .ite 30
 (.dead)
 (.step (.isi 22 1)<|
 .ite 31
 (.dead)
 (.dead))))
def d137:PDef:=.tree 22<|
 .step (.call 138 [0,1,2,3,4,5,6,7,8,9,10,11,12,13,14,15,16,17,18,19,20,21] 0)<|
 .step (.ci .i64 0)<|
 .ret [23]
def d126:PDef:=.tree 4<|
 .step (.call 127 [3,0,3,1,2] 0)<|
 .step (.call 127 [3,0,3,1,2] 1)<|
 .step (.call 127 [3,0,3,1,2] 2)<|
 .step (.bin .gtr 5 3)<|
 .step (.ci .i64 0)<|
 .ret [8,7,6]
def d125:PDef:=.tree 2<|
 .step (.len 0)<|
 .step (.ci .i64 1)<|
 .step (.bin .sub 2 3)<|
 .step (.idx 0 4)<|
 .step (.at 3 0 5)<|
 .step (.cell 0 6)<|
 .step (.cell 1 6)<|
 .step (.cell 2 6)<|
 .step (.ci .i64 0)<|
 .step (.idx 0 10)<|
 .step (.at 3 0 11)<|
 .step (.cell 0 12)<|
 .step (.cell 1 12)<|
 .step (.cell 2 12)<|
 .step (.upd 3 0 0 11 [7,8,9])<|
 .step (.upd 3 0 16 5 [13,14,15])<|
 .step (.call 126 [4,17,1,10] 0)<|
 .step (.call 126 [4,17,1,10] 1)<|
 .step (.call 126 [4,17,1,10] 2)<|
 .step (.len 20)<|
 .step (.bin .sub 21 3)<|
 .step (.idx 20 22)<|
 .step (.at 3 20 23)<|
 .step (.cell 0 24)<|
 .step (.cell 1 24)<|
 .step (.cell 2 24)<|
 .step (.ci .u64 0)<|
 .step (.cs [])<|
 .step (.upd 3 0 20 23 [28,28,29])<|
 .step (.lsub 3 30 10 22)<|
 .ret [10,25,26,27,31]
def d124:PDef:=.tree 2<|
 .step (.len 0)<|
 .step (.ci .i64 0)<|
 .step (.bin .eql 2 3)<|
 .ite 4
 (.step (.ci .u64 0)<|
 .step (.cs [])<|
 .step (.cb false)<|
 .ret [3,5,6,7,0])
 (.step (.call 125 [0,1] 0)<|
 .step (.call 125 [0,1] 1)<|
 .step (.call 125 [0,1] 2)<|
 .step (.call 125 [0,1] 3)<|
 .step (.call 125 [0,1] 4)<|
 .step (.cb true)<|
 .ret [3,6,8,10,9])
def d122:PDef:=.tree 3<|
 .step (.ml [])<|
 .step (.call 123 [0,3,1,2] 0)<|
 .step (.call 123 [0,3,1,2] 1)<|
 .step (.call 123 [0,3,1,2] 2)<|
 .step (.ci .i64 0)<|
 .ret [7,5,6]
def d113:PDef:=.tree 3<|
 .step (.ml [])<|
 .step (.mk [2,3])<|
 .step (.call 114 [4] 0)<|
 .step (.cell 0 5)<|
 .step (.cell 1 5)<|
 .step (.ci .i64 0)<|
 .ret [8,6,7]
def d111:PDef:=.tree 2<|
 .step (.call 112 [0,1] 0)<|
 .step (.ci .i64 0)<|
 .ret [3]
def d110:PDef:=.tree 9<|
 .step (.call 111 [6,8] 0)<|
 .step (.call 113 [6,7,8] 0)<|
 .step (.call 113 [6,7,8] 1)<|
 .step (.call 113 [6,7,8] 2)<|
 .step (.ci .i64 0)<|
 .ret [13,11,12]
def d109:PDef:=.tree 20<|
 .step (.ci .i64 0)<|
 .step (.bin .eql 19 20)<|
 .ite 21
 (.step (.isi 19 0)<|
 .ite 22
 (.step (.call 110 [14,15,16,17,18,12,13,10,0] 0)<|
 .step (.call 110 [14,15,16,17,18,12,13,10,0] 1)<|
 .step (.call 110 [14,15,16,17,18,12,13,10,0] 2)<|
 .ret [20,14,15,16,17,18,24,25])
 (.step (.isi 19 1)<|
 .ite 23
 (.step (.call 110 [7,8,9,10,11,12,13,10,0] 0)<|
 .step (.call 110 [7,8,9,10,11,12,13,10,0] 1)<|
 .step (.call 110 [7,8,9,10,11,12,13,10,0] 2)<|
 .ret [20,7,8,9,10,11,25,26])
 (.dead)))
 (.step (.ci .i64 1)<|
 .step (.bin .eql 19 22)<|
 .step (.un .not 23)<|
 .ite 24
 (.ret [22])
 (.step (.isi 19 0)<|
 .ite 25
 (.step (.call 110 [14,15,16,17,18,12,13,10,0] 0)<|
 .step (.call 110 [14,15,16,17,18,12,13,10,0] 1)<|
 .step (.call 110 [14,15,16,17,18,12,13,10,0] 2)<|
 .ret [20,14,15,16,17,18,27,28])
 (.step (.isi 19 1)<|
 .ite 26
 (.step (.call 110 [7,8,9,10,11,12,13,10,0] 0)<|
 .step (.call 110 [7,8,9,10,11,12,13,10,0] 1)<|
 .step (.call 110 [7,8,9,10,11,12,13,10,0] 2)<|
 .ret [20,7,8,9,10,11,28,29])
 (.dead))))
def d106:PDef:=.tree 5<|
 .step (.len 1)<|
 .step (.ci .i64 0)<|
 .step (.call 107 [0,1,5,6,2,3,4] 0)<|
 .step (.call 107 [0,1,5,6,2,3,4] 1)<|
 .step (.call 107 [0,1,5,6,2,3,4] 2)<|
 .step (.call 107 [0,1,5,6,2,3,4] 3)<|
 .ret [6,8,9,10]
def d104:PDef:=.tree 4<|
 .step (.len 1)<|
 .step (.ci .i64 0)<|
 .step (.call 105 [0,1,4,5,2,3] 0)<|
 .step (.call 105 [0,1,4,5,2,3] 1)<|
 .step (.call 105 [0,1,4,5,2,3] 2)<|
 .ret [5,7,8]
def d103:PDef:=.tree 4<|
 .step (.mk [0,1,2])<|
 .step (.ml [4])<|
 .step (.app 3 32 3 5)<|
 .step (.len 6)<|
 .step (.ci .i64 1)<|
 .step (.bin .sub 7 8)<|
 .step (.call 101 [9,6,1] 0)<|
 .step (.call 101 [9,6,1] 1)<|
 .step (.ci .i64 0)<|
 .ret [12,11]
def d101:PDef:=.tree 3<|
 .step (.call 102 [0,1,2] 0)<|
 .step (.call 102 [0,1,2] 1)<|
 .step (.ci .i64 0)<|
 .ret [5,4]
def d93:PDef:=.tree 29<|
 .step (.len 1)<|
 .step (.ci .i64 0)<|
 .step (.ml [])<|
 .step (.call 94 [0,1,29,30,2,3,31,4,5,31,6,7,8,9,10,11,12,13,14,15,16,17,18,19,20,21,22,23,24,25,26,27,28] 0)<|
 .step (.call 94 [0,1,29,30,2,3,31,4,5,31,6,7,8,9,10,11,12,13,14,15,16,17,18,19,20,21,22,23,24,25,26,27,28] 1)<|
 .step (.call 94 [0,1,29,30,2,3,31,4,5,31,6,7,8,9,10,11,12,13,14,15,16,17,18,19,20,21,22,23,24,25,26,27,28] 2)<|
 .step (.call 94 [0,1,29,30,2,3,31,4,5,31,6,7,8,9,10,11,12,13,14,15,16,17,18,19,20,21,22,23,24,25,26,27,28] 3)<|
 .step (.call 94 [0,1,29,30,2,3,31,4,5,31,6,7,8,9,10,11,12,13,14,15,16,17,18,19,20,21,22,23,24,25,26,27,28] 4)<|
 .step (.call 94 [0,1,29,30,2,3,31,4,5,31,6,7,8,9,10,11,12,13,14,15,16,17,18,19,20,21,22,23,24,25,26,27,28] 5)<|
 .step (.call 94 [0,1,29,30,2,3,31,4,5,31,6,7,8,9,10,11,12,13,14,15,16,17,18,19,20,21,22,23,24,25,26,27,28] 6)<|
 .ret [30,33,34,35,36,37,38]
def d91:PDef:=.tree 2<|
 .step (.len 1)<|
 .step (.ci .i64 0)<|
 .step (.call 92 [0,1,2,3] 0)<|
 .step (.call 92 [0,1,2,3] 1)<|
 .ret [3,5]
def d71:PDef:=.tree 0<|
 .step (.ci .i64 0)<|
 .ret [0]
def d70:PDef:=.tree 24<|
 .step (.ci .i64 0)<|
 .ret [24]
def d69:PDef:=.tree 24<|
 .step (.ci .i64 0)<|
 .ret [24]
def d68:PDef:=.tree 24<|
 .step (.ci .i64 0)<|
 .ret [24]
def d67:PDef:=.tree 24<|
 .step (.ci .i64 0)<|
 .ret [24]
def d66:PDef:=.tree 24<|
 .step (.ci .i64 0)<|
 .ret [24]
def d65:PDef:=.tree 24<|
 .step (.ci .i64 0)<|
 .ret [24]
def d64:PDef:=.tree 24<|
 .step (.ci .i64 0)<|
 .ret [24]
def d63:PDef:=.tree 24<|
 .step (.ci .i64 0)<|
 .ret [24]
def d62:PDef:=.tree 24<|
 .step (.ci .i64 0)<|
 .ret [24]
def d61:PDef:=.tree 24<|
 .step (.ci .i64 0)<|
 .ret [24]
def d60:PDef:=.tree 24<|
 .step (.ci .i64 0)<|
 .ret [24]
def d59:PDef:=.tree 24<|
 .step (.ci .i64 0)<|
 .ret [24]
def d58:PDef:=.tree 24<|
 .step (.ci .i64 0)<|
 .ret [24]
def d57:PDef:=.tree 24<|
 .step (.ci .i64 0)<|
 .ret [24]
def d56:PDef:=.tree 24<|
 .step (.ci .i64 0)<|
 .ret [24]
def d49:PDef:=.tree 24<|
 .step (.call 50 [22] 0)<|
 .step (.ci .i64 0)<|
 .ret [25,24]
def d45:PDef:=.tree 24<|
 .step (.len 21)<|
 .step (.ci .i64 0)<|
 .step (.bin .gtr 24 25)<|
 .ite 26
 (.step (.call 46 [21] 0)<|
 .ret [25,27])
 (.ret [25,25])
def d44:PDef:=.tree 24<|
 .step (.ci .i64 0)<|
 .step (.ci .i64 256)<|
 .step (.call 13 [20,24,25] 0)<|
 .ret [24,26]
def d43:PDef:=.tree 24<|
 .step (.ci .i64 0)<|
 .step (.ci .i64 256)<|
 .step (.call 13 [19,24,25] 0)<|
 .ret [24,26]
def d42:PDef:=.tree 24<|
 .step (.ci .i64 0)<|
 .step (.ci .i64 256)<|
 .step (.call 13 [18,24,25] 0)<|
 .ret [24,26]
def d41:PDef:=.tree 24<|
 .step (.ci .i64 0)<|
 .ret [24]
def d40:PDef:=.tree 24<|
 .step (.ci .i64 0)<|
 .ret [24]
def d20:PDef:=.tree 2<|
 .step (.ci .i64 0)<|
 .ret [2]
def d19:PDef:=.tree 2<|
 .step (.call 20 [0,1] 0)<|
 .step (.ci .i64 0)<|
 .ret [3]
def d18:PDef:=.tree 11<|
 .step (.ci .i64 2)<|
 .step (.bin .eql 4 11)<|
 .ite 12
 (.step (.call 19 [9,10] 0)<|
 .step (.ml [])<|
 .step (.ci .i64 0)<|
 .ret [15,14,4])
 (.ite 3
 (.step (.ci .i64 3)<|
 .step (.bin .neq 4 13)<|
 .ite 14
 (.step (.ci .i64 1)<|
 .step (.ci .u64 0)<|
 .step (.ci .i64 0)<|
 .step (.cb false)<|
 .step (.cs [])<|
 .step (.ml [])<|
 .step (.mk [15,16,0,1,16,16,16,16,16,16,16,16,16,16,16,16,17,18,2,19,19,20,20,20])<|
 .step (.call 21 [21,15] 0)<|
 .ret [17,22,15])
 (.step (.ml [])<|
 .step (.ci .i64 0)<|
 .ret [16,15,4]))
 (.step (.ml [])<|
 .step (.ci .i64 0)<|
 .ret [14,13,4]))
def d17:PDef:=.tree 28<|
 .step (.ci .i64 0)<|
 .step (.bin .eql 6 28)<|
 .ite 29
 (.step (.isi 6 0)<|
 .ite 30
 (.step (.call 18 [4,5,19,20,21,22,23,24,25,26,27] 0)<|
 .step (.call 18 [4,5,19,20,21,22,23,24,25,26,27] 1)<|
 .step (.call 18 [4,5,19,20,21,22,23,24,25,26,27] 2)<|
 .step (.call 93 [6,32,7,0,8,1,9,2,3,10,11,12,13,14,15,16,17,18,4,5,19,20,33,22,23,24,25,26,27] 0)<|
 .step (.call 93 [6,32,7,0,8,1,9,2,3,10,11,12,13,14,15,16,17,18,4,5,19,20,33,22,23,24,25,26,27] 1)<|
 .step (.call 93 [6,32,7,0,8,1,9,2,3,10,11,12,13,14,15,16,17,18,4,5,19,20,33,22,23,24,25,26,27] 2)<|
 .step (.call 93 [6,32,7,0,8,1,9,2,3,10,11,12,13,14,15,16,17,18,4,5,19,20,33,22,23,24,25,26,27] 3)<|
 .step (.call 93 [6,32,7,0,8,1,9,2,3,10,11,12,13,14,15,16,17,18,4,5,19,20,33,22,23,24,25,26,27] 4)<|
 .step (.call 93 [6,32,7,0,8,1,9,2,3,10,11,12,13,14,15,16,17,18,4,5,19,20,33,22,23,24,25,26,27] 5)<|
 .step (.call 93 [6,32,7,0,8,1,9,2,3,10,11,12,13,14,15,16,17,18,4,5,19,20,33,22,23,24,25,26,27] 6)<|
 .step (.len 32)<|
 .ret [28,41,35,36,37,38,39,40,12,33])
 (.step (.isi 6 1)<|
 .ite 31
 (.step (.call 18 [2,3,10,11,12,13,14,15,16,17,18] 0)<|
 .step (.call 18 [2,3,10,11,12,13,14,15,16,17,18] 1)<|
 .step (.call 18 [2,3,10,11,12,13,14,15,16,17,18] 2)<|
 .step (.call 93 [6,33,7,0,8,1,9,2,3,10,11,34,13,14,15,16,17,18,4,5,19,20,21,22,23,24,25,26,27] 0)<|
 .step (.call 93 [6,33,7,0,8,1,9,2,3,10,11,34,13,14,15,16,17,18,4,5,19,20,21,22,23,24,25,26,27] 1)<|
 .step (.call 93 [6,33,7,0,8,1,9,2,3,10,11,34,13,14,15,16,17,18,4,5,19,20,21,22,23,24,25,26,27] 2)<|
 .step (.call 93 [6,33,7,0,8,1,9,2,3,10,11,34,13,14,15,16,17,18,4,5,19,20,21,22,23,24,25,26,27] 3)<|
 .step (.call 93 [6,33,7,0,8,1,9,2,3,10,11,34,13,14,15,16,17,18,4,5,19,20,21,22,23,24,25,26,27] 4)<|
 .step (.call 93 [6,33,7,0,8,1,9,2,3,10,11,34,13,14,15,16,17,18,4,5,19,20,21,22,23,24,25,26,27] 5)<|
 .step (.call 93 [6,33,7,0,8,1,9,2,3,10,11,34,13,14,15,16,17,18,4,5,19,20,21,22,23,24,25,26,27] 6)<|
 .step (.len 33)<|
 .ret [28,42,36,37,38,39,40,41,34,21])
 (.dead)))
 (.step (.ci .i64 1)<|
 .step (.bin .eql 6 30)<|
 .step (.un .not 31)<|
 .ite 32
 (.step (.ml [])<|
 .ret [28,28,0,33,8,1,33,9,12,21])
 (.step (.isi 6 0)<|
 .ite 33
 (.step (.call 18 [4,5,19,20,21,22,23,24,25,26,27] 0)<|
 .step (.call 18 [4,5,19,20,21,22,23,24,25,26,27] 1)<|
 .step (.call 18 [4,5,19,20,21,22,23,24,25,26,27] 2)<|
 .step (.call 93 [6,35,7,0,8,1,9,2,3,10,11,12,13,14,15,16,17,18,4,5,19,20,36,22,23,24,25,26,27] 0)<|
 .step (.call 93 [6,35,7,0,8,1,9,2,3,10,11,12,13,14,15,16,17,18,4,5,19,20,36,22,23,24,25,26,27] 1)<|
 .step (.call 93 [6,35,7,0,8,1,9,2,3,10,11,12,13,14,15,16,17,18,4,5,19,20,36,22,23,24,25,26,27] 2)<|
 .step (.call 93 [6,35,7,0,8,1,9,2,3,10,11,12,13,14,15,16,17,18,4,5,19,20,36,22,23,24,25,26,27] 3)<|
 .step (.call 93 [6,35,7,0,8,1,9,2,3,10,11,12,13,14,15,16,17,18,4,5,19,20,36,22,23,24,25,26,27] 4)<|
 .step (.call 93 [6,35,7,0,8,1,9,2,3,10,11,12,13,14,15,16,17,18,4,5,19,20,36,22,23,24,25,26,27] 5)<|
 .step (.call 93 [6,35,7,0,8,1,9,2,3,10,11,12,13,14,15,16,17,18,4,5,19,20,36,22,23,24,25,26,27] 6)<|
 .step (.len 35)<|
 .ret [28,44,38,39,40,41,42,43,12,36])
 (.step (.isi 6 1)<|
 .ite 34
 (.step (.call 18 [2,3,10,11,12,13,14,15,16,17,18] 0)<|
 .step (.call 18 [2,3,10,11,12,13,14,15,16,17,18] 1)<|
 .step (.call 18 [2,3,10,11,12,13,14,15,16,17,18] 2)<|
 .step (.call 93 [6,36,7,0,8,1,9,2,3,10,11,37,13,14,15,16,17,18,4,5,19,20,21,22,23,24,25,26,27] 0)<|
 .step (.call 93 [6,36,7,0,8,1,9,2,3,10,11,37,13,14,15,16,17,18,4,5,19,20,21,22,23,24,25,26,27] 1)<|
 .step (.call 93 [6,36,7,0,8,1,9,2,3,10,11,37,13,14,15,16,17,18,4,5,19,20,21,22,23,24,25,26,27] 2)<|
 .step (.call 93 [6,36,7,0,8,1,9,2,3,10,11,37,13,14,15,16,17,18,4,5,19,20,21,22,23,24,25,26,27] 3)<|
 .step (.call 93 [6,36,7,0,8,1,9,2,3,10,11,37,13,14,15,16,17,18,4,5,19,20,21,22,23,24,25,26,27] 4)<|
 .step (.call 93 [6,36,7,0,8,1,9,2,3,10,11,37,13,14,15,16,17,18,4,5,19,20,21,22,23,24,25,26,27] 5)<|
 .step (.call 93 [6,36,7,0,8,1,9,2,3,10,11,37,13,14,15,16,17,18,4,5,19,20,21,22,23,24,25,26,27] 6)<|
 .step (.len 36)<|
 .ret [28,45,39,40,41,42,43,44,37,21])
 (.dead))))
def d77:PDef:=.tree 28<|
 .step (.bin .lss 3 2)<|
 .ite 28
 (.step (.at 4 1 3)<|
 .step (.cell 0 29)<|
 .step (.cell 1 29)<|
 .step (.cell 2 29)<|
 .step (.cell 3 29)<|
 .step (.mk [4,5,6,7,8,9,10,11,12,13,14,15,16,17,18,19,20,21,22,23,24,25,26,27])<|
 .step (.call 78 [34,33] 0)<|
 .step (.cell 0 35)<|
 .step (.cell 1 35)<|
 .step (.cell 2 35)<|
 .step (.cell 3 35)<|
 .step (.cell 4 35)<|
 .step (.call 78 [34,33] 1)<|
 .step (.un .not 41)<|
 .ite 42
 (.step (.ci .i64 1)<|
 .step (.bin .add 3 43)<|
 .tail 77 [0,1,2,44,4,5,6,7,8,9,10,11,12,13,14,15,16,17,18,19,20,21,22,23,24,25,26,27])
 (.step (.ci .u64 0)<|
 .step (.bin .eql 38 43)<|
 .ite 44
 (.step (.cs [])<|
 .step (.bin .eql 39 45)<|
 .ite 46
 (.step (.ci .i64 1)<|
 .step (.bin .add 3 47)<|
 .tail 77 [0,1,2,48,4,5,6,7,8,9,10,11,12,13,14,15,16,17,18,19,20,21,22,23,24,25,26,27])
 (.step (.mk [30,37,38,39,40])<|
 .step (.ml [47])<|
 .step (.app 5 64 0 48)<|
 .step (.ci .i64 1)<|
 .step (.bin .add 3 50)<|
 .tail 77 [49,1,2,51,4,5,6,7,8,9,10,11,12,13,14,15,16,17,18,19,20,21,22,23,24,25,26,27]))
 (.step (.mk [30,37,38,39,40])<|
 .step (.ml [45])<|
 .step (.app 5 64 0 46)<|
 .step (.ci .i64 1)<|
 .step (.bin .add 3 48)<|
 .tail 77 [47,1,2,49,4,5,6,7,8,9,10,11,12,13,14,15,16,17,18,19,20,21,22,23,24,25,26,27])))
 (.step (.ci .i64 0)<|
 .ret [29,0])
def d123:PDef:=.tree 4<|
 .step (.len 2)<|
 .step (.ci .i64 0)<|
 .step (.bin .eql 4 5)<|
 .ite 6
 (.ret [5,1,2])
 (.step (.idx 2 5)<|
 .step (.at 3 2 7)<|
 .step (.cell 0 8)<|
 .step (.bin .gtr 9 0)<|
 .ite 10
 (.ret [5,1,2])
 (.step (.call 124 [2,3] 0)<|
 .step (.call 124 [2,3] 1)<|
 .step (.call 124 [2,3] 2)<|
 .step (.call 124 [2,3] 3)<|
 .step (.call 124 [2,3] 4)<|
 .step (.ml [13])<|
 .step (.app 1 16 1 16)<|
 .tail 123 [0,17,15,3]))
def d75:PDef:=.tree 4<|
 .step (.bin .lss 3 2)<|
 .ite 4
 (.step (.at 5 1 3)<|
 .step (.cell 0 5)<|
 .step (.cell 1 5)<|
 .step (.cell 2 5)<|
 .step (.cell 3 5)<|
 .step (.cell 4 5)<|
 .step (.len 0)<|
 .step (.ci .i64 0)<|
 .step (.call 76 [0,1,2,3,11,12,6,7,8,9,10] 0)<|
 .step (.bin .eql 13 12)<|
 .ite 14
 (.ret [12])
 (.step (.ci .i64 1)<|
 .step (.bin .add 3 15)<|
 .tail 75 [0,1,2,16]))
 (.step (.ci .i64 1)<|
 .ret [5])
def d11:PDef:=.tree 20<|
 .step (.bin .lss 3 2)<|
 .ite 20
 (.step (.at 1 1 3)<|
 .step (.cell 0 21)<|
 .step (.slen 22)<|
 .step (.ci .i64 0)<|
 .step (.call 12 [0,22,1,2,3,23,24,4,5,6,7,8,9,10,11,12,13,14,15,16,17,18,19] 0)<|
 .step (.call 12 [0,22,1,2,3,23,24,4,5,6,7,8,9,10,11,12,13,14,15,16,17,18,19] 1)<|
 .step (.ci .i64 1)<|
 .step (.bin .add 3 27)<|
 .tail 11 [26,1,2,28,4,5,6,7,8,9,10,11,12,13,14,15,16,17,18,19])
 (.step (.ci .i64 0)<|
 .ret [21,0])
def d28:PDef:=.tree 5<|
 .step (.bin .lss 4 3)<|
 .ite 5
 (.step (.at 4 2 4)<|
 .step (.cell 0 6)<|
 .step (.cell 1 6)<|
 .step (.cell 2 6)<|
 .step (.cell 3 6)<|
 .step (.bin .leq 9 0)<|
 .ite 11
 (.step (.mk [7,8,9,10])<|
 .step (.ml [12])<|
 .step (.app 4 40 1 13)<|
 .step (.ci .i64 1)<|
 .step (.bin .add 4 15)<|
 .tail 28 [0,14,2,3,16])
 (.step (.ci .i64 1)<|
 .step (.bin .add 4 12)<|
 .tail 28 [0,1,2,3,13]))
 (.step (.ci .i64 0)<|
 .ret [6,1])
def d107:PDef:=.tree 7<|
 .step (.bin .lss 3 2)<|
 .ite 7
 (.step (.at 1 1 3)<|
 .step (.cell 0 8)<|
 .step (.len 4)<|
 .step (.ci .i64 0)<|
 .step (.bin .gtr 10 11)<|
 .ite 12
 (.step (.at 6 4 11)<|
 .step (.cell 0 13)<|
 .step (.cell 1 13)<|
 .step (.cell 2 13)<|
 .step (.cell 3 13)<|
 .step (.cell 4 13)<|
 .step (.cell 5 13)<|
 .step (.ci .i64 1)<|
 .step (.lsub 6 4 20 10)<|
 .ite 14
 (.step (.bin .add 3 20)<|
 .tail 107 [0,1,2,22,21,5,6])
 (.step (.bin .gtr 17 11)<|
 .ite 22
 (.step (.slen 9)<|
 .step (.bin .gtr 23 17)<|
 .ite 24
 (.step (.ssub 9 11 17)<|
 .step (.bin .lss 18 11)<|
 .ite 26
 (.step (.conv .u64 16)<|
 .step (.bin .add 0 27)<|
 .step (.conv .u64 15)<|
 .step (.ci .u64 1)<|
 .step (.bin .add 29 30)<|
 .step (.ci .u64 0)<|
 .step (.call 108 [0,25,28,1,2,3,31,32,21,5,6] 0)<|
 .step (.call 108 [0,25,28,1,2,3,31,32,21,5,6] 1)<|
 .step (.call 108 [0,25,28,1,2,3,31,32,21,5,6] 2)<|
 .step (.bin .add 3 20)<|
 .tail 107 [0,1,2,36,21,34,35])
 (.step (.slen 25)<|
 .step (.bin .geq 18 27)<|
 .ite 28
 (.step (.conv .u64 16)<|
 .step (.bin .add 0 29)<|
 .step (.conv .u64 15)<|
 .step (.ci .u64 1)<|
 .step (.bin .add 31 32)<|
 .step (.ci .u64 0)<|
 .step (.call 108 [0,25,30,1,2,3,33,34,21,5,6] 0)<|
 .step (.call 108 [0,25,30,1,2,3,33,34,21,5,6] 1)<|
 .step (.call 108 [0,25,30,1,2,3,33,34,21,5,6] 2)<|
 .step (.bin .add 3 20)<|
 .tail 107 [0,1,2,38,21,36,37])
 (.step (.bytes 25)<|
 .step (.idx 29 18)<|
 .step (.at 1 29 30)<|
 .step (.cell 0 31)<|
 .step (.bin .xor 32 19)<|
 .step (.upd 1 0 29 30 [33])<|
 .step (.str 34)<|
 .step (.conv .u64 16)<|
 .step (.bin .add 0 36)<|
 .step (.conv .u64 15)<|
 .step (.ci .u64 1)<|
 .step (.bin .add 38 39)<|
 .step (.ci .u64 0)<|
 .step (.call 108 [0,35,37,1,2,3,40,41,21,5,6] 0)<|
 .step (.call 108 [0,35,37,1,2,3,40,41,21,5,6] 1)<|
 .step (.call 108 [0,35,37,1,2,3,40,41,21,5,6] 2)<|
 .step (.bin .add 3 20)<|
 .tail 107 [0,1,2,45,21,43,44])))
 (.step (.bin .lss 18 11)<|
 .ite 25
 (.step (.conv .u64 16)<|
 .step (.bin .add 0 26)<|
 .step (.conv .u64 15)<|
 .step (.ci .u64 1)<|
 .step (.bin .add 28 29)<|
 .step (.ci .u64 0)<|
 .step (.call 108 [0,9,27,1,2,3,30,31,21,5,6] 0)<|
 .step (.call 108 [0,9,27,1,2,3,30,31,21,5,6] 1)<|
 .step (.call 108 [0,9,27,1,2,3,30,31,21,5,6] 2)<|
 .step (.bin .add 3 20)<|
 .tail 107 [0,1,2,35,21,33,34])
 (.step (.bin .geq 18 23)<|
 .ite 26
 (.step (.conv .u64 16)<|
 .step (.bin .add 0 27)<|
 .step (.conv .u64 15)<|
 .step (.ci .u64 1)<|
 .step (.bin .add 29 30)<|
 .step (.ci .u64 0)<|
 .step (.call 108 [0,9,28,1,2,3,31,32,21,5,6] 0)<|
 .step (.call 108 [0,9,28,1,2,3,31,32,21,5,6] 1)<|
 .step (.call 108 [0,9,28,1,2,3,31,32,21,5,6] 2)<|
 .step (.bin .add 3 20)<|
 .tail 107 [0,1,2,36,21,34,35])
 (.step (.bytes 9)<|
 .step (.idx 27 18)<|
 .step (.at 1 27 28)<|
 .step (.cell 0 29)<|
 .step (.bin .xor 30 19)<|
 .step (.upd 1 0 27 28 [31])<|
 .step (.str 32)<|
 .step (.conv .u64 16)<|
 .step (.bin .add 0 34)<|
 .step (.conv .u64 15)<|
 .step (.ci .u64 1)<|
 .step (.bin .add 36 37)<|
 .step (.ci .u64 0)<|
 .step (.call 108 [0,33,35,1,2,3,38,39,21,5,6] 0)<|
 .step (.call 108 [0,33,35,1,2,3,38,39,21,5,6] 1)<|
 .step (.call 108 [0,33,35,1,2,3,38,39,21,5,6] 2)<|
 .step (.bin .add 3 20)<|
 .tail 107 [0,1,2,43,21,41,42]))))
 (.step (.bin .lss 18 11)<|
 .ite 23
 (.step (.conv .u64 16)<|
 .step (.bin .add 0 24)<|
 .step (.conv .u64 15)<|
 .step (.ci .u64 1)<|
 .step (.bin .add 26 27)<|
 .step (.ci .u64 0)<|
 .step (.call 108 [0,9,25,1,2,3,28,29,21,5,6] 0)<|
 .step (.call 108 [0,9,25,1,2,3,28,29,21,5,6] 1)<|
 .step (.call 108 [0,9,25,1,2,3,28,29,21,5,6] 2)<|
 .step (.bin .add 3 20)<|
 .tail 107 [0,1,2,33,21,31,32])
 (.step (.slen 9)<|
 .step (.bin .geq 18 24)<|
 .ite 25
 (.step (.conv .u64 16)<|
 .step (.bin .add 0 26)<|
 .step (.conv .u64 15)<|
 .step (.ci .u64 1)<|
 .step (.bin .add 28 29)<|
 .step (.ci .u64 0)<|
 .step (.call 108 [0,9,27,1,2,3,30,31,21,5,6] 0)<|
 .step (.call 108 [0,9,27,1,2,3,30,31,21,5,6] 1)<|
 .step (.call 108 [0,9,27,1,2,3,30,31,21,5,6] 2)<|
 .step (.bin .add 3 20)<|
 .tail 107 [0,1,2,35,21,33,34])
 (.step (.bytes 9)<|
 .step (.idx 26 18)<|
 .step (.at 1 26 27)<|
 .step (.cell 0 28)<|
 .step (.bin .xor 29 19)<|
 .step (.upd 1 0 26 27 [30])<|
 .step (.str 31)<|
 .step (.conv .u64 16)<|
 .step (.bin .add 0 33)<|
 .step (.conv .u64 15)<|
 .step (.ci .u64 1)<|
 .step (.bin .add 35 36)<|
 .step (.ci .u64 0)<|
 .step (.call 108 [0,32,34,1,2,3,37,38,21,5,6] 0)<|
 .step (.call 108 [0,32,34,1,2,3,37,38,21,5,6] 1)<|
 .step (.call 108 [0,32,34,1,2,3,37,38,21,5,6] 2)<|
 .step (.bin .add 3 20)<|
 .tail 107 [0,1,2,42,21,40,41])))))
 (.step (.slen 9)<|
 .step (.bin .geq 11 13)<|
 .ite 14
 (.step (.ci .u64 0)<|
 .step (.bin .add 0 15)<|
 .step (.ci .u64 1)<|
 .step (.call 108 [0,9,16,1,2,3,17,15,4,5,6] 0)<|
 .step (.call 108 [0,9,16,1,2,3,17,15,4,5,6] 1)<|
 .step (.call 108 [0,9,16,1,2,3,17,15,4,5,6] 2)<|
 .step (.ci .i64 1)<|
 .step (.bin .add 3 21)<|
 .tail 107 [0,1,2,22,4,19,20])
 (.step (.bytes 9)<|
 .step (.idx 15 11)<|
 .step (.at 1 15 16)<|
 .step (.cell 0 17)<|
 .step (.ci .u8 0)<|
 .step (.bin .xor 18 19)<|
 .step (.upd 1 0 15 16 [20])<|
 .step (.str 21)<|
 .step (.ci .u64 0)<|
 .step (.bin .add 0 23)<|
 .step (.ci .u64 1)<|
 .step (.call 108 [0,22,24,1,2,3,25,23,4,5,6] 0)<|
 .step (.call 108 [0,22,24,1,2,3,25,23,4,5,6] 1)<|
 .step (.call 108 [0,22,24,1,2,3,25,23,4,5,6] 2)<|
 .step (.ci .i64 1)<|
 .step (.bin .add 3 29)<|
 .tail 107 [0,1,2,30,4,27,28])))
 (.step (.ci .i64 0)<|
 .ret [8,4,5,6])
def d12:PDef:=.tree 23<|
 .step (.bin .lss 6 5)<|
 .ite 23
 (.step (.sidx 1 6)<|
 .step (.conv .u32 24)<|
 .step (.bin .xor 0 25)<|
 .step (.ci .u64 4)<|
 .step (.bin .shr 26 27)<|
 .step (.ci .u32 15)<|
 .step (.bin .and 26 29)<|
 .step (.isi 30 0)<|
 .ite 31
 (.step (.bin .xor 28 7)<|
 .step (.bin .shr 32 27)<|
 .step (.bin .and 32 29)<|
 .step (.isi 34 0)<|
 .ite 35
 (.step (.bin .xor 33 7)<|
 .step (.ci .i64 1)<|
 .step (.bin .add 6 37)<|
 .tail 12 [36,1,2,3,4,5,38,7,8,9,10,11,12,13,14,15,16,17,18,19,20,21,22])
 (.step (.isi 34 1)<|
 .ite 36
 (.step (.bin .xor 33 8)<|
 .step (.ci .i64 1)<|
 .step (.bin .add 6 38)<|
 .tail 12 [37,1,2,3,4,5,39,7,8,9,10,11,12,13,14,15,16,17,18,19,20,21,22])
 (.step (.isi 34 2)<|
 .ite 37
 (.step (.bin .xor 33 9)<|
 .step (.ci .i64 1)<|
 .step (.bin .add 6 39)<|
 .tail 12 [38,1,2,3,4,5,40,7,8,9,10,11,12,13,14,15,16,17,18,19,20,21,22])
 (.step (.isi 34 3)<|
 .ite 38
 (.step (.bin .xor 33 10)<|
 .step (.ci .i64 1)<|
 .step (.bin .add 6 40)<|
 .tail 12 [39,1,2,3,4,5,41,7,8,9,10,11,12,13,14,15,16,17,18,19,20,21,22])
 (.step (.isi 34 4)<|
 .ite 39
 (.step (.bin .xor 33 11)<|
 .step (.ci .i64 1)<|
 .step (.bin .add 6 41)<|
 .tail 12 [40,1,2,3,4,5,42,7,8,9,10,11,12,13,14,15,16,17,18,19,20,21,22])
 (.step (.isi 34 5)<|
 .ite 40
 (.step (.bin .xor 33 12)<|
 .step (.ci .i64 1)<|
 .step (.bin .add 6 42)<|
 .tail 12 [41,1,2,3,4,5,43,7,8,9,10,11,12,13,14,15,16,17,18,19,20,21,22])
 (.step (.isi 34 6)<|
 .ite 41
 (.step (.bin .xor 33 13)<|
 .step (.ci .i64 1)<|
 .step (.bin .add 6 43)<|
 .tail 12 [42,1,2,3,4,5,44,7,8,9,10,11,12,13,14,15,16,17,18,19,20,21,22])
 (.step (.isi 34 7)<|
 .ite 42
 (.step (.bin .xor 33 14)<|
 .step (.ci .i64 1)<|
 .step (.bin .add 6 44)<|
 .tail 12 [43,1,2,3,4,5,45,7,8,9,10,11,12,13,14,15,16,17,18,19,20,21,22])
 (.step (.isi 34 8)<|
 .ite 43
 (.step (.bin .xor 33 15)<|
 .step (.ci .i64 1)<|
 .step (.bin .add 6 45)<|
 .tail 12 [44,1,2,3,4,5,46,7,8,9,10,11,12,13,14,15,16,17,18,19,20,21,22])
 (.step (.isi 34 9)<|
 .ite 44
 (.step (.bin .xor 33 16)<|
 .step (.ci .i64 1)<|
 .step (.bin .add 6 46)<|
 .tail 12 [45,1,2,3,4,5,47,7,8,9,10,11,12,13,14,15,16,17,18,19,20,21,22])
 (.step (.isi 34 10)<|
 .ite 45
 (.step (.bin .xor 33 17)<|
 .step (.ci .i64 1)<|
 .step (.bin .add 6 47)<|
 .tail 12 [46,1,2,3,4,5,48,7,8,9,10,11,12,13,14,15,16,17,18,19,20,21,22])
 (.step (.isi 34 11)<|
 .ite 46
 (.step (.bin .xor 33 18)<|
 .step (.ci .i64 1)<|
 .step (.bin .add 6 48)<|
 .tail 12 [47,1,2,3,4,5,49,7,8,9,10,11,12,13,14,15,16,17,18,19,20,21,22])
 (.step (.isi 34 12)<|
 .ite 47
 (.step (.bin .xor 33 19)<|
 .step (.ci .i64 1)<|
 .step (.bin .add 6 49)<|
 .tail 12 [48,1,2,3,4,5,50,7,8,9,10,11,12,13,14,15,16,17,18,19,20,21,22])
 (.step (.isi 34 13)<|
 .ite 48
 (.step (.bin .xor 33 20)<|
 .step (.ci .i64 1)<|
 .step (.bin .add 6 50)<|
 .tail 12 [49,1,2,3,4,5,51,7,8,9,10,11,12,13,14,15,16,17,18,19,20,21,22])
 (.step (.isi 34 14)<|
 .ite 49
 (.step (.bin .xor 33 21)<|
 .step (.ci .i64 1)<|
 .step (.bin .add 6 51)<|
 .tail 12 [50,1,2,3,4,5,52,7,8,9,10,11,12,13,14,15,16,17,18,19,20,21,22])
 (.step (.isi 34 15)<|
 .ite 50
 (.step (.bin .xor 33 22)<|
 .step (.ci .i64 1)<|
 .step (.bin .add 6 52)<|
 .tail 12 [51,1,2,3,4,5,53,7,8,9,10,11,12,13,14,15,16,17,18,19,20,21,22])
 (.dead)))))))))))))))))
 (.step (.isi 30 1)<|
 .ite 32
 (.step (.bin .xor 28 8)<|
 .step (.bin .shr 33 27)<|
 .step (.bin .and 33 29)<|
 .step (.isi 35 0)<|
 .ite 36
 (.step (.bin .xor 34 7)<|
 .step (.ci .i64 1)<|
 .step (.bin .add 6 38)<|
 .tail 12 [37,1,2,3,4,5,39,7,8,9,10,11,12,13,14,15,16,17,18,19,20,21,22])
 (.step (.isi 35 1)<|
 .ite 37
 (.step (.bin .xor 34 8)<|
 .step (.ci .i64 1)<|
 .step (.bin .add 6 39)<|
 .tail 12 [38,1,2,3,4,5,40,7,8,9,10,11,12,13,14,15,16,17,18,19,20,21,22])
 (.step (.isi 35 2)<|
 .ite 38
 (.step (.bin .xor 34 9)<|
 .step (.ci .i64 1)<|
 .step (.bin .add 6 40)<|
 .tail 12 [39,1,2,3,4,5,41,7,8,9,10,11,12,13,14,15,16,17,18,19,20,21,22])
 (.step (.isi 35 3)<|
 .ite 39
 (.step (.bin .xor 34 10)<|
 .step (.ci .i64 1)<|
 .step (.bin .add 6 41)<|
 .tail 12 [40,1,2,3,4,5,42,7,8,9,10,11,12,13,14,15,16,17,18,19,20,21,22])
 (.step (.isi 35 4)<|
 .ite 40
 (.step (.bin .xor 34 11)<|
 .step (.ci .i64 1)<|
 .step (.bin .add 6 42)<|
 .tail 12 [41,1,2,3,4,5,43,7,8,9,10,11,12,13,14,15,16,17,18,19,20,21,22])
 (.step (.isi 35 5)<|
 .ite 41
 (.step (.bin .xor 34 12)<|
 .step (.ci .i64 1)<|
 .step (.bin .add 6 43)<|
 .tail 12 [42,1,2,3,4,5,44,7,8,9,10,11,12,13,14,15,16,17,18,19,20,21,22])
 (.step (.isi 35 6)<|
 .ite 42
 (.step (.bin .xor 34 13)<|
 .step (.ci .i64 1)<|
 .step (.bin .add 6 44)<|
 .tail 12 [43,1,2,3,4,5,45,7,8,9,10,11,12,13,14,15,16,17,18,19,20,21,22])
 (.step (.isi 35 7)<|
 .ite 43
 (.step (.bin .xor 34 14)<|
 .step (.ci .i64 1)<|
 .step (.bin .add 6 45)<|
 .tail 12 [44,1,2,3,4,5,46,7,8,9,10,11,12,13,14,15,16,17,18,19,20,21,22])
 (.step (.isi 35 8)<|
 .ite 44
 (.step (.bin .xor 34 15)<|
 .step (.ci .i64 1)<|
 .step (.bin .add 6 46)<|
 .tail 12 [45,1,2,3,4,5,47,7,8,9,10,11,12,13,14,15,16,17,18,19,20,21,22])
 (.step (.isi 35 9)<|
 .ite 45
 (.step (.bin .xor 34 16)<|
 .step (.ci .i64 1)<|
 .step (.bin .add 6 47)<|
 .tail 12 [46,1,2,3,4,5,48,7,8,9,10,11,12,13,14,15,16,17,18,19,20,21,22])
 (.step (.isi 35 10)<|
 .ite 46
 (.step (.bin .xor 34 17)<|
 .step (.ci .i64 1)<|
 .step (.bin .add 6 48)<|
 .tail 12 [47,1,2,3,4,5,49,7,8,9,10,11,12,13,14,15,16,17,18,19,20,21,22])
 (.step (.isi 35 11)<|
 .ite 47
 (.step (.bin .xor 34 18)<|
 .step (.ci .i64 1)<|
 .step (.bin .add 6 49)<|
 .tail 12 [48,1,2,3,4,5,50,7,8,9,10,11,12,13,14,15,16,17,18,19,20,21,22])
 (.step (.isi 35 12)<|
 .ite 48
 (.step (.bin .xor 34 19)<|
 .step (.ci .i64 1)<|
 .step (.bin .add 6 50)<|
 .tail 12 [49,1,2,3,4,5,51,7,8,9,10,11,12,13,14,15,16,17,18,19,20,21,22])
 (.step (.isi 35 13)<|
 .ite 49
 (.step (.bin .xor 34 20)<|
 .step (.ci .i64 1)<|
 .step (.bin .add 6 51)<|
 .tail 12 [50,1,2,3,4,5,52,7,8,9,10,11,12,13,14,15,16,17,18,19,20,21,22])
 (.step (.isi 35 14)<|
 .ite 50
 (.step (.bin .xor 34 21)<|
 .step (.ci .i64 1)<|
 .step (.bin .add 6 52)<|
 .tail 12 [51,1,2,3,4,5,53,7,8,9,10,11,12,13,14,15,16,17,18,19,20,21,22])
 (.step (.isi 35 15)<|
 .ite 51
 (.step (.bin .xor 34 22)<|
 .step (.ci .i64 1)<|
 .step (.bin .add 6 53)<|
 .tail 12 [52,1,2,3,4,5,54,7,8,9,10,11,12,13,14,15,16,17,18,19,20,21,22])
 (.dead)))))))))))))))))
 (.step (.isi 30 2)<|
 .ite 33
 (.step (.bin .xor 28 9)<|
 .step (.bin .shr 34 27)<|
 .step (.bin .and 34 29)<|
 .step (.isi 36 0)<|
 .ite 37
 (.step (.bin .xor 35 7)<|
 .step (.ci .i64 1)<|
 .step (.bin .add 6 39)<|
 .tail 12 [38,1,2,3,4,5,40,7,8,9,10,11,12,13,14,15,16,17,18,19,20,21,22])
 (.step (.isi 36 1)<|
 .ite 38
 (.step (.bin .xor 35 8)<|
 .step (.ci .i64 1)<|
 .step (.bin .add 6 40)<|
 .tail 12 [39,1,2,3,4,5,41,7,8,9,10,11,12,13,14,15,16,17,18,19,20,21,22])
 (.step (.isi 36 2)<|
 .ite 39
 (.step (.bin .xor 35 9)<|
 .step (.ci .i64 1)<|
 .step (.bin .add 6 41)<|
 .tail 12 [40,1,2,3,4,5,42,7,8,9,10,11,12,13,14,15,16,17,18,19,20,21,22])
 (.step (.isi 36 3)<|
 .ite 40
 (.step (.bin .xor 35 10)<|
 .step (.ci .i64 1)<|
 .step (.bin .add 6 42)<|
 .tail 12 [41,1,2,3,4,5,43,7,8,9,10,11,12,13,14,15,16,17,18,19,20,21,22])
 (.step (.isi 36 4)<|
 .ite 41
 (.step (.bin .xor 35 11)<|
 .step (.ci .i64 1)<|
 .step (.bin .add 6 43)<|
 .tail 12 [42,1,2,3,4,5,44,7,8,9,10,11,12,13,14,15,16,17,18,19,20,21,22])
 (.step (.isi 36 5)<|
 .ite 42
 (.step (.bin .xor 35 12)<|
 .step (.ci .i64 1)<|
 .step (.bin .add 6 44)<|
 .tail 12 [43,1,2,3,4,5,45,7,8,9,10,11,12,13,14,15,16,17,18,19,20,21,22])
 (.step (.isi 36 6)<|
 .ite 43
 (.step (.bin .xor 35 13)<|
 .step (.ci .i64 1)<|
 .step (.bin .add 6 45)<|
 .tail 12 [44,1,2,3,4,5,46,7,8,9,10,11,12,13,14,15,16,17,18,19,20,21,22])
 (.step (.isi 36 7)<|
 .ite 44
 (.step (.bin .xor 35 14)<|
 .step (.ci .i64 1)<|
 .step (.bin .add 6 46)<|
 .tail 12 [45,1,2,3,4,5,47,7,8,9,10,11,12,13,14,15,16,17,18,19,20,21,22])
 (.step (.isi 36 8)<|
 .ite 45
 (.step (.bin .xor 35 15)<|
 .step (.ci .i64 1)<|
 .step (.bin .add 6 47)<|
 .tail 12 [46,1,2,3,4,5,48,7,8,9,10,11,12,13,14,15,16,17,18,19,20,21,22])
 (.step (.isi 36 9)<|
 .ite 46
 (.step (.bin .xor 35 16)<|
 .step (.ci .i64 1)<|
 .step (.bin .add 6 48)<|
 .tail 12 [47,1,2,3,4,5,49,7,8,9,10,11,12,13,14,15,16,17,18,19,20,21,22])
 (.step (.isi 36 10)<|
 .ite 47
 (.step (.bin .xor 35 17)<|
 .step (.ci .i64 1)<|
 .step (.bin .add 6 49)<|
 .tail 12 [48,1,2,3,4,5,50,7,8,9,10,11,12,13,14,15,16,17,18,19,20,21,22])
 (.step (.isi 36 11)<|
 .ite 48
 (.step (.bin .xor 35 18)<|
 .step (.ci .i64 1)<|
 .step (.bin .add 6 50)<|
 .tail 12 [49,1,2,3,4,5,51,7,8,9,10,11,12,13,14,15,16,17,18,19,20,21,22])
 (.step (.isi 36 12)<|
 .ite 49
 (.step (.bin .xor 35 19)<|
 .step (.ci .i64 1)<|
 .step (.bin .add 6 51)<|
 .tail 12 [50,1,2,3,4,5,52,7,8,9,10,11,12,13,14,15,16,17,18,19,20,21,22])
 (.step (.isi 36 13)<|
 .ite 50
 (.step (.bin .xor 35 20)<|
 .step (.ci .i64 1)<|
 .step (.bin .add 6 52)<|
 .tail 12 [51,1,2,3,4,5,53,7,8,9,10,11,12,13,14,15,16,17,18,19,20,21,22])
 (.step (.isi 36 14)<|
 .ite 51
 (.step (.bin .xor 35 21)<|
 .step (.ci .i64 1)<|
 .step (.bin .add 6 53)<|
 .tail 12 [52,1,2,3,4,5,54,7,8,9,10,11,12,13,14,15,16,17,18,19,20,21,22])
 (.step (.isi 36 15)<|
 .ite 52
 (.step (.bin .xor 35 22)<|
 .step (.ci .i64 1)<|
 .step (.bin .add 6 54)<|
 .tail 12 [53,1,2,3,4,5,55,7,8,9,10,11,12,13,14,15,16,17,18,19,20,21,22])
 (.dead)))))))))))))))))
 (.step (.isi 30 3)<|
 .ite 34
 (.step (.bin .xor 28 10)<|
 .step (.bin .shr 35 27)<|
 .step (.bin .and 35 29)<|
 .step (.isi 37 0)<|
 .ite 38
 (.step (.bin .xor 36 7)<|
 .step (.ci .i64 1)<|
 .step (.bin .add 6 40)<|
 .tail 12 [39,1,2,3,4,5,41,7,8,9,10,11,12,13,14,15,16,17,18,19,20,21,22])
 (.step (.isi 37 1)<|
 .ite 39
 (.step (.bin .xor 36 8)<|
 .step (.ci .i64 1)<|
 .step (.bin .add 6 41)<|
 .tail 12 [40,1,2,3,4,5,42,7,8,9,10,11,12,13,14,15,16,17,18,19,20,21,22])
 (.step (.isi 37 2)<|
 .ite 40
 (.step (.bin .xor 36 9)<|
 .step (.ci .i64 1)<|
 .step (.bin .add 6 42)<|
 .tail 12 [41,1,2,3,4,5,43,7,8,9,10,11,12,13,14,15,16,17,18,19,20,21,22])
 (.step (.isi 37 3)<|
 .ite 41
 (.step (.bin .xor 36 10)<|
 .step (.ci .i64 1)<|
 .step (.bin .add 6 43)<|
 .tail 12 [42,1,2,3,4,5,44,7,8,9,10,11,12,13,14,15,16,17,18,19,20,21,22])
 (.step (.isi 37 4)<|
 .ite 42
 (.step (.bin .xor 36 11)<|
 .step (.ci .i64 1)<|
 .step (.bin .add 6 44)<|
 .tail 12 [43,1,2,3,4,5,45,7,8,9,10,11,12,13,14,15,16,17,18,19,20,21,22])
 (.step (.isi 37 5)<|
 .ite 43
 (.step (.bin .xor 36 12)<|
 .step (.ci .i64 1)<|
 .step (.bin .add 6 45)<|
 .tail 12 [44,1,2,3,4,5,46,7,8,9,10,11,12,13,14,15,16,17,18,19,20,21,22])
 (.step (.isi 37 6)<|
 .ite 44
 (.step (.bin .xor 36 13)<|
 .step (.ci .i64 1)<|
 .step (.bin .add 6 46)<|
 .tail 12 [45,1,2,3,4,5,47,7,8,9,10,11,12,13,14,15,16,17,18,19,20,21,22])
 (.step (.isi 37 7)<|
 .ite 45
 (.step (.bin .xor 36 14)<|
 .step (.ci .i64 1)<|
 .step (.bin .add 6 47)<|
 .tail 12 [46,1,2,3,4,5,48,7,8,9,10,11,12,13,14,15,16,17,18,19,20,21,22])
 (.step (.isi 37 8)<|
 .ite 46
 (.step (.bin .xor 36 15)<|
 .step (.ci .i64 1)<|
 .step (.bin .add 6 48)<|
 .tail 12 [47,1,2,3,4,5,49,7,8,9,10,11,12,13,14,15,16,17,18,19,20,21,22])
 (.step (.isi 37 9)<|
 .ite 47
 (.step (.bin .xor 36 16)<|
 .step (.ci .i64 1)<|
 .step (.bin .add 6 49)<|
 .tail 12 [48,1,2,3,4,5,50,7,8,9,10,11,12,13,14,15,16,17,18,19,20,21,22])
 (.step (.isi 37 10)<|
 .ite 48
 (.step (.bin .xor 36 17)<|
 .step (.ci .i64 1)<|
 .step (.bin .add 6 50)<|
 .tail 12 [49,1,2,3,4,5,51,7,8,9,10,11,12,13,14,15,16,17,18,19,20,21,22])
 (.step (.isi 37 11)<|
 .ite 49
 (.step (.bin .xor 36 18)<|
 .step (.ci .i64 1)<|
 .step (.bin .add 6 51)<|
 .tail 12 [50,1,2,3,4,5,52,7,8,9,10,11,12,13,14,15,16,17,18,19,20,21,22])
 (.step (.isi 37 12)<|
 .ite 50
 (.step (.bin .xor 36 19)<|
 .step (.ci .i64 1)<|
 .step (.bin .add 6 52)<|
 .tail 12 [51,1,2,3,4,5,53,7,8,9,10,11,12,13,14,15,16,17,18,19,20,21,22])
 (.step (.isi 37 13)<|
 .ite 51
 (.step (.bin .xor 36 20)<|
 .step (.ci .i64 1)<|
 .step (.bin .add 6 53)<|
 .tail 12 [52,1,2,3,4,5,54,7,8,9,10,11,12,13,14,15,16,17,18,19,20,21,22])
 (.step (.isi 37 14)<|
 .ite 52
 (.step (.bin .xor 36 21)<|
 .step (.ci .i64 1)<|
 .step (.bin .add 6 54)<|
 .tail 12 [53,1,2,3,4,5,55,7,8,9,10,11,12,13,14,15,16,17,18,19,20,21,22])
 (.step (.isi 37 15)<|
 .ite 53
 (.step (.bin .xor 36 22)<|
 .step (.ci .i64 1)<|
 .step (.bin .add 6 55)<|
 .tail 12 [54,1,2,3,4,5,56,7,8,9,10,11,12,13,14,15,16,17,18,19,20,21,22])
 (.dead)))))))))))))))))
 (.step (.isi 30 4)<|
 .ite 35
 (.step (.bin .xor 28 11)<|
 .step (.bin .shr 36 27)<|
 .step (.bin .and 36 29)<|
 .step (.isi 38 0)<|
 .ite 39
 (.step (.bin .xor 37 7)<|
 .step (.ci .i64 1)<|
 .step (.bin .add 6 41)<|
 .tail 12 [40,1,2,3,4,5,42,7,8,9,10,11,12,13,14,15,16,17,18,19,20,21,22])
 (.step (.isi 38 1)<|
 .ite 40
 (.step (.bin .xor 37 8)<|
 .step (.ci .i64 1)<|
 .step (.bin .add 6 42)<|
 .tail 12 [41,1,2,3,4,5,43,7,8,9,10,11,12,13,14,15,16,17,18,19,20,21,22])
 (.step (.isi 38 2)<|
 .ite 41
 (.step (.bin .xor 37 9)<|
 .step (.ci .i64 1)<|
 .step (.bin .add 6 43)<|
 .tail 12 [42,1,2,3,4,5,44,7,8,9,10,11,12,13,14,15,16,17,18,19,20,21,22])
 (.step (.isi 38 3)<|
 .ite 42
 (.step (.bin .xor 37 10)<|
 .step (.ci .i64 1)<|
 .step (.bin .add 6 44)<|
 .tail 12 [43,1,2,3,4,5,45,7,8,9,10,11,12,13,14,15,16,17,18,19,20,21,22])
 (.step (.isi 38 4)<|
 .ite 43
 (.step (.bin .xor 37 11)<|
 .step (.ci .i64 1)<|
 .step (.bin .add 6 45)<|
 .tail 12 [44,1,2,3,4,5,46,7,8,9,10,11,12,13,14,15,16,17,18,19,20,21,22])
 (.step (.isi 38 5)<|
 .ite 44
 (.step (.bin .xor 37 12)<|
 .step (.ci .i64 1)<|
 .step (.bin .add 6 46)<|
 .tail 12 [45,1,2,3,4,5,47,7,8,9,10,11,12,13,14,15,16,17,18,19,20,21,22])
 (.step (.isi 38 6)<|
 .ite 45
 (.step (.bin .xor 37 13)<|
 .step (.ci .i64 1)<|
 .step (.bin .add 6 47)<|
 .tail 12 [46,1,2,3,4,5,48,7,8,9,10,11,12,13,14,15,16,17,18,19,20,21,22])
 (.step (.isi 38 7)<|
 .ite 46
 (.step (.bin .xor 37 14)<|
 .step (.ci .i64 1)<|
 .step (.bin .add 6 48)<|
 .tail 12 [47,1,2,3,4,5,49,7,8,9,10,11,12,13,14,15,16,17,18,19,20,21,22])
 (.step (.isi 38 8)<|
 .ite 47
 (.step (.bin .xor 37 15)<|
 .step (.ci .i64 1)<|
 .step (.bin .add 6 49)<|
 .tail 12 [48,1,2,3,4,5,50,7,8,9,10,11,12,13,14,15,16,17,18,19,20,21,22])
 (.step (.isi 38 9)<|
 .ite 48
 (.step (.bin .xor 37 16)<|
 .step (.ci .i64 1)<|
 .step (.bin .add 6 50)<|
 .tail 12 [49,1,2,3,4,5,51,7,8,9,10,11,12,13,14,15,16,17,18,19,20,21,22])
 (.step (.isi 38 10)<|
 .ite 49
 (.step (.bin .xor 37 17)<|
 .step (.ci .i64 1)<|
 .step (.bin .add 6 51)<|
 .tail 12 [50,1,2,3,4,5,52,7,8,9,10,11,12,13,14,15,16,17,18,19,20,21,22])
 (.step (.isi 38 11)<|
 .ite 50
 (.step (.bin .xor 37 18)<|
 .step (.ci .i64 1)<|
 .step (.bin .add 6 52)<|
 .tail 12 [51,1,2,3,4,5,53,7,8,9,10,11,12,13,14,15,16,17,18,19,20,21,22])
 (.step (.isi 38 12)<|
 .ite 51
 (.step (.bin .xor 37 19)<|
 .step (.ci .i64 1)<|
 .step (.bin .add 6 53)<|
 .tail 12 [52,1,2,3,4,5,54,7,8,9,10,11,12,13,14,15,16,17,18,19,20,21,22])
 (.step (.isi 38 13)<|
 .ite 52
 (.step (.bin .xor 37 20)<|
 .step (.ci .i64 1)<|
 .step (.bin .add 6 54)<|
 .tail 12 [53,1,2,3,4,5,55,7,8,9,10,11,12,13,14,15,16,17,18,19,20,21,22])
 (.step (.isi 38 14)<|
 .ite 53
 (.step (.bin .xor 37 21)<|
 .step (.ci .i64 1)<|
 .step (.bin .add 6 55)<|
 .tail 12 [54,1,2,3,4,5,56,7,8,9,10,11,12,13,14,15,16,17,18,19,20,21,22])
 (.step (.isi 38 15)<|
 .ite 54
 (.step (.bin .xor 37 22)<|
 .step (.ci .i64 1)<|
 .step (.bin .add 6 56)<|
 .tail 12 [55,1,2,3,4,5,57,7,8,9,10,11,12,13,14,15,16,17,18,19,20,21,22])
 (.dead)))))))))))))))))
 (.step (.isi 30 5)<|
 .ite 36
 (.step (.bin .xor 28 12)<|
 .step (.bin .shr 37 27)<|
 .step (.bin .and 37 29)<|
 .step (.isi 39 0)<|
 .ite 40
 (.step (.bin .xor 38 7)<|
 .step (.ci .i64 1)<|
 .step (.bin .add 6 42)<|
 .tail 12 [41,1,2,3,4,5,43,7,8,9,10,11,12,13,14,15,16,17,18,19,20,21,22])
 (.step (.isi 39 1)<|
 .ite 41
 (.step (.bin .xor 38 8)<|
 .step (.ci .i64 1)<|
 .step (.bin .add 6 43)<|
 .tail 12 [42,1,2,3,4,5,44,7,8,9,10,11,12,13,14,15,16,17,18,19,20,21,22])
 (.step (.isi 39 2)<|
 .ite 42
 (.step (.bin .xor 38 9)<|
 .step (.ci .i64 1)<|
 .step (.bin .add 6 44)<|
 .tail 12 [43,1,2,3,4,5,45,7,8,9,10,11,12,13,14,15,16,17,18,19,20,21,22])
 (.step (.isi 39 3)<|
 .ite 43
 (.step (.bin .xor 38 10)<|
 .step (.ci .i64 1)<|
 .step (.bin .add 6 45)<|
 .tail 12 [44,1,2,3,4,5,46,7,8,9,10,11,12,13,14,15,16,17,18,19,20,21,22])
 (.step (.isi 39 4)<|
 .ite 44
 (.step (.bin .xor 38 11)<|
 .step (.ci .i64 1)<|
 .step (.bin .add 6 46)<|
 .tail 12 [45,1,2,3,4,5,47,7,8,9,10,11,12,13,14,15,16,17,18,19,20,21,22])
 (.step (.isi 39 5)<|
 .ite 45
 (.step (.bin .xor 38 12)<|
 .step (.ci .i64 1)<|
 .step (.bin .add 6 47)<|
 .tail 12 [46,1,2,3,4,5,48,7,8,9,10,11,12,13,14,15,16,17,18,19,20,21,22])
 (.step (.isi 39 6)<|
 .ite 46
 (.step (.bin .xor 38 13)<|
 .step (.ci .i64 1)<|
 .step (.bin .add 6 48)<|
 .tail 12 [47,1,2,3,4,5,49,7,8,9,10,11,12,13,14,15,16,17,18,19,20,21,22])
 (.step (.isi 39 7)<|
 .ite 47
 (.step (.bin .xor 38 14)<|
 .step (.ci .i64 1)<|
 .step (.bin .add 6 49)<|
 .tail 12 [48,1,2,3,4,5,50,7,8,9,10,11,12,13,14,15,16,17,18,19,20,21,22])
 (.step (.isi 39 8)<|
 .ite 48
 (.step (.bin .xor 38 15)<|
 .step (.ci .i64 1)<|
 .step (.bin .add 6 50)<|
 .tail 12 [49,1,2,3,4,5,51,7,8,9,10,11,12,13,14,15,16,17,18,19,20,21,22])
 (.step (.isi 39 9)<|
 .ite 49
 (.step (.bin .xor 38 16)<|
 .step (.ci .i64 1)<|
 .step (.bin .add 6 51)<|
 .tail 12 [50,1,2,3,4,5,52,7,8,9,10,11,12,13,14,15,16,17,18,19,20,21,22])
 (.step (.isi 39 10)<|
 .ite 50
 (.step (.bin .xor 38 17)<|
 .step (.ci .i64 1)<|
 .step (.bin .add 6 52)<|
 .tail 12 [51,1,2,3,4,5,53,7,8,9,10,11,12,13,14,15,16,17,18,19,20,21,22])
 (.step (.isi 39 11)<|
 .ite 51
 (.step (.bin .xor 38 18)<|
 .step (.ci .i64 1)<|
 .step (.bin .add 6 53)<|
 .tail 12 [52,1,2,3,4,5,54,7,8,9,10,11,12,13,14,15,16,17,18,19,20,21,22])
 (.step (.isi 39 12)<|
 .ite 52
 (.step (.bin .xor 38 19)<|
 .step (.ci .i64 1)<|
 .step (.bin .add 6 54)<|
 .tail 12 [53,1,2,3,4,5,55,7,8,9,10,11,12,13,14,15,16,17,18,19,20,21,22])
 (.step (.isi 39 13)<|
 .ite 53
 (.step (.bin .xor 38 20)<|
 .step (.ci .i64 1)<|
 .step (.bin .add 6 55)<|
 .tail 12 [54,1,2,3,4,5,56,7,8,9,10,11,12,13,14,15,16,17,18,19,20,21,22])
 (.step (.isi 39 14)<|
 .ite 54
 (.step (.bin .xor 38 21)<|
 .step (.ci .i64 1)<|
 .step (.bin .add 6 56)<|
 .tail 12 [55,1,2,3,4,5,57,7,8,9,10,11,12,13,14,15,16,17,18,19,20,21,22])
 (.step (.isi 39 15)<|
 .ite 55
 (.step (.bin .xor 38 22)<|
 .step (.ci .i64 1)<|
 .step (.bin .add 6 57)<|
 .tail 12 [56,1,2,3,4,5,58,7,8,9,10,11,12,13,14,15,16,17,18,19,20,21,22])
 (.dead)))))))))))))))))
 (.step (.isi 30 6)<|
 .ite 37
 (.step (.bin .xor 28 13)<|
 .step (.bin .shr 38 27)<|
 .step (.bin .and 38 29)<|
 .step (.isi 40 0)<|
 .ite 41
 (.step (.bin .xor 39 7)<|
 .step (.ci .i64 1)<|
 .step (.bin .add 6 43)<|
 .tail 12 [42,1,2,3,4,5,44,7,8,9,10,11,12,13,14,15,16,17,18,19,20,21,22])
 (.step (.isi 40 1)<|
 .ite 42
 (.step (.bin .xor 39 8)<|
 .step (.ci .i64 1)<|
 .step (.bin .add 6 44)<|
 .tail 12 [43,1,2,3,4,5,45,7,8,9,10,11,12,13,14,15,16,17,18,19,20,21,22])
 (.step (.isi 40 2)<|
 .ite 43
 (.step (.bin .xor 39 9)<|
 .step (.ci .i64 1)<|
 .step (.bin .add 6 45)<|
 .tail 12 [44,1,2,3,4,5,46,7,8,9,10,11,12,13,14,15,16,17,18,19,20,21,22])
 (.step (.isi 40 3)<|
 .ite 44
 (.step (.bin .xor 39 10)<|
 .step (.ci .i64 1)<|
 .step (.bin .add 6 46)<|
 .tail 12 [45,1,2,3,4,5,47,7,8,9,10,11,12,13,14,15,16,17,18,19,20,21,22])
 (.step (.isi 40 4)<|
 .ite 45
 (.step (.bin .xor 39 11)<|
 .step (.ci .i64 1)<|
 .step (.bin .add 6 47)<|
 .tail 12 [46,1,2,3,4,5,48,7,8,9,10,11,12,13,14,15,16,17,18,19,20,21,22])
 (.step (.isi 40 5)<|
 .ite 46
 (.step (.bin .xor 39 12)<|
 .step (.ci .i64 1)<|
 .step (.bin .add 6 48)<|
 .tail 12 [47,1,2,3,4,5,49,7,8,9,10,11,12,13,14,15,16,17,18,19,20,21,22])
 (.step (.isi 40 6)<|
 .ite 47
 (.step (.bin .xor 39 13)<|
 .step (.ci .i64 1)<|
 .step (.bin .add 6 49)<|
 .tail 12 [48,1,2,3,4,5,50,7,8,9,10,11,12,13,14,15,16,17,18,19,20,21,22])
 (.step (.isi 40 7)<|
 .ite 48
 (.step (.bin .xor 39 14)<|
 .step (.ci .i64 1)<|
 .step (.bin .add 6 50)<|
 .tail 12 [49,1,2,3,4,5,51,7,8,9,10,11,12,13,14,15,16,17,18,19,20,21,22])
 (.step (.isi 40 8)<|
 .ite 49
 (.step (.bin .xor 39 15)<|
 .step (.ci .i64 1)<|
 .step (.bin .add 6 51)<|
 .tail 12 [50,1,2,3,4,5,52,7,8,9,10,11,12,13,14,15,16,17,18,19,20,21,22])
 (.step (.isi 40 9)<|
 .ite 50
 (.step (.bin .xor 39 16)<|
 .step (.ci .i64 1)<|
 .step (.bin .add 6 52)<|
 .tail 12 [51,1,2,3,4,5,53,7,8,9,10,11,12,13,14,15,16,17,18,19,20,21,22])
 (.step (.isi 40 10)<|
 .ite 51
 (.step (.bin .xor 39 17)<|
 .step (.ci .i64 1)<|
 .step (.bin .add 6 53)<|
 .tail 12 [52,1,2,3,4,5,54,7,8,9,10,11,12,13,14,15,16,17,18,19,20,21,22])
 (.step (.isi 40 11)<|
 .ite 52
 (.step (.bin .xor 39 18)<|
 .step (.ci .i64 1)<|
 .step (.bin .add 6 54)<|
 .tail 12 [53,1,2,3,4,5,55,7,8,9,10,11,12,13,14,15,16,17,18,19,20,21,22])
 (.step (.isi 40 12)<|
 .ite 53
 (.step (.bin .xor 39 19)<|
 .step (.ci .i64 1)<|
 .step (.bin .add 6 55)<|
 .tail 12 [54,1,2,3,4,5,56,7,8,9,10,11,12,13,14,15,16,17,18,19,20,21,22])
 (.step (.isi 40 13)<|
 .ite 54
 (.step (.bin .xor 39 20)<|
 .step (.ci .i64 1)<|
 .step (.bin .add 6 56)<|
 .tail 12 [55,1,2,3,4,5,57,7,8,9,10,11,12,13,14,15,16,17,18,19,20,21,22])
 (.step (.isi 40 14)<|
 .ite 55
 (.step (.bin .xor 39 21)<|
 .step (.ci .i64 1)<|
 .step (.bin .add 6 57)<|
 .tail 12 [56,1,2,3,4,5,58,7,8,9,10,11,12,13,14,15,16,17,18,19,20,21,22])
 (.step (.isi 40 15)<|
 .ite 56
 (.step (.bin .xor 39 22)<|
 .step (.ci .i64 1)<|
 .step (.bin .add 6 58)<|
 .tail 12 [57,1,2,3,4,5,59,7,8,9,10,11,12,13,14,15,16,17,18,19,20,21,22])
 (.dead)))))))))))))))))
 (.step (.isi 30 7)<|
 .ite 38
 (.step (.bin .xor 28 14)<|
 .step (.bin .shr 39 27)<|
 .step (.bin .and 39 29)<|
 .step (.isi 41 0)<|
 .ite 42
 (.step (.bin .xor 40 7)<|
 .step (.ci .i64 1)<|
 .step (.bin .add 6 44)<|
 .tail 12 [43,1,2,3,4,5,45,7,8,9,10,11,12,13,14,15,16,17,18,19,20,21,22])
 (.step (.isi 41 1)<|
 .ite 43
 (.step (.bin .xor 40 8)<|
 .step (.ci .i64 1)<|
 .step (.bin .add 6 45)<|
 .tail 12 [44,1,2,3,4,5,46,7,8,9,10,11,12,13,14,15,16,17,18,19,20,21,22])
 (.step (.isi 41 2)<|
 .ite 44
 (.step (.bin .xor 40 9)<|
 .step (.ci .i64 1)<|
 .step (.bin .add 6 46)<|
 .tail 12 [45,1,2,3,4,5,47,7,8,9,10,11,12,13,14,15,16,17,18,19,20,21,22])
 (.step (.isi 41 3)<|
 .ite 45
 (.step (.bin .xor 40 10)<|
 .step (.ci .i64 1)<|
 .step (.bin .add 6 47)<|
 .tail 12 [46,1,2,3,4,5,48,7,8,9,10,11,12,13,14,15,16,17,18,19,20,21,22])
 (.step (.isi 41 4)<|
 .ite 46
 (.step (.bin .xor 40 11)<|
 .step (.ci .i64 1)<|
 .step (.bin .add 6 48)<|
 .tail 12 [47,1,2,3,4,5,49,7,8,9,10,11,12,13,14,15,16,17,18,19,20,21,22])
 (.step (.isi 41 5)<|
 .ite 47
 (.step (.bin .xor 40 12)<|
 .step (.ci .i64 1)<|
 .step (.bin .add 6 49)<|
 .tail 12 [48,1,2,3,4,5,50,7,8,9,10,11,12,13,14,15,16,17,18,19,20,21,22])
 (.step (.isi 41 6)<|
 .ite 48
 (.step (.bin .xor 40 13)<|
 .step (.ci .i64 1)<|
 .step (.bin .add 6 50)<|
 .tail 12 [49,1,2,3,4,5,51,7,8,9,10,11,12,13,14,15,16,17,18,19,20,21,22])
 (.step (.isi 41 7)<|
 .ite 49
 (.step (.bin .xor 40 14)<|
 .step (.ci .i64 1)<|
 .step (.bin .add 6 51)<|
 .tail 12 [50,1,2,3,4,5,52,7,8,9,10,11,12,13,14,15,16,17,18,19,20,21,22])
 (.step (.isi 41 8)<|
 .ite 50
 (.step (.bin .xor 40 15)<|
 .step (.ci .i64 1)<|
 .step (.bin .add 6 52)<|
 .tail 12 [51,1,2,3,4,5,53,7,8,9,10,11,12,13,14,15,16,17,18,19,20,21,22])
 (.step (.isi 41 9)<|
 .ite 51
 (.step (.bin .xor 40 16)<|
 .step (.ci .i64 1)<|
 .step (.bin .add 6 53)<|
 .tail 12 [52,1,2,3,4,5,54,7,8,9,10,11,12,13,14,15,16,17,18,19,20,21,22])
 (.step (.isi 41 10)<|
 .ite 52
 (.step (.bin .xor 40 17)<|
 .step (.ci .i64 1)<|
 .step (.bin .add 6 54)<|
 .tail 12 [53,1,2,3,4,5,55,7,8,9,10,11,12,13,14,15,16,17,18,19,20,21,22])
 (.step (.isi 41 11)<|
 .ite 53
 (.step (.bin .xor 40 18)<|
 .step (.ci .i64 1)<|
 .step (.bin .add 6 55)<|
 .tail 12 [54,1,2,3,4,5,56,7,8,9,10,11,12,13,14,15,16,17,18,19,20,21,22])
 (.step (.isi 41 12)<|
 .ite 54
 (.step (.bin .xor 40 19)<|
 .step (.ci .i64 1)<|
 .step (.bin .add 6 56)<|
 .tail 12 [55,1,2,3,4,5,57,7,8,9,10,11,12,13,14,15,16,17,18,19,20,21,22])
 (.step (.isi 41 13)<|
 .ite 55
 (.step (.bin .xor 40 20)<|
 .step (.ci .i64 1)<|
 .step (.bin .add 6 57)<|
 .tail 12 [56,1,2,3,4,5,58,7,8,9,10,11,12,13,14,15,16,17,18,19,20,21,22])
 (.step (.isi 41 14)<|
 .ite 56
 (.step (.bin .xor 40 21)<|
 .step (.ci .i64 1)<|
 .step (.bin .add 6 58)<|
 .tail 12 [57,1,2,3,4,5,59,7,8,9,10,11,12,13,14,15,16,17,18,19,20,21,22])
 (.step (.isi 41 15)<|
 .ite 57
 (.step (.bin .xor 40 22)<|
 .step (.ci .i64 1)<|
 .step (.bin .add 6 59)<|
 .tail 12 [58,1,2,3,4,5,60,7,8,9,10,11,12,13,14,15,16,17,18,19,20,21,22])
 (.dead)))))))))))))))))
 (.step (.isi 30 8)<|
 .ite 39
 (.step (.bin .xor 28 15)<|
 .step (.bin .shr 40 27)<|
 .step (.bin .and 40 29)<|
 .step (.isi 42 0)<|
 .ite 43
 (.step (.bin .xor 41 7)<|
 .step (.ci .i64 1)<|
 .step (.bin .add 6 45)<|
 .tail 12 [44,1,2,3,4,5,46,7,8,9,10,11,12,13,14,15,16,17,18,19,20,21,22])
 (.step (.isi 42 1)<|
 .ite 44
 (.step (.bin .xor 41 8)<|
 .step (.ci .i64 1)<|
 .step (.bin .add 6 46)<|
 .tail 12 [45,1,2,3,4,5,47,7,8,9,10,11,12,13,14,15,16,17,18,19,20,21,22])
 (.step (.isi 42 2)<|
 .ite 45
 (.step (.bin .xor 41 9)<|
 .step (.ci .i64 1)<|
 .step (.bin .add 6 47)<|
 .tail 12 [46,1,2,3,4,5,48,7,8,9,10,11,12,13,14,15,16,17,18,19,20,21,22])
 (.step (.isi 42 3)<|
 .ite 46
 (.step (.bin .xor 41 10)<|
 .step (.ci .i64 1)<|
 .step (.bin .add 6 48)<|
 .tail 12 [47,1,2,3,4,5,49,7,8,9,10,11,12,13,14,15,16,17,18,19,20,21,22])
 (.step (.isi 42 4)<|
 .ite 47
 (.step (.bin .xor 41 11)<|
 .step (.ci .i64 1)<|
 .step (.bin .add 6 49)<|
 .tail 12 [48,1,2,3,4,5,50,7,8,9,10,11,12,13,14,15,16,17,18,19,20,21,22])
 (.step (.isi 42 5)<|
 .ite 48
 (.step (.bin .xor 41 12)<|
 .step (.ci .i64 1)<|
 .step (.bin .add 6 50)<|
 .tail 12 [49,1,2,3,4,5,51,7,8,9,10,11,12,13,14,15,16,17,18,19,20,21,22])
 (.step (.isi 42 6)<|
 .ite 49
 (.step (.bin .xor 41 13)<|
 .step (.ci .i64 1)<|
 .step (.bin .add 6 51)<|
 .tail 12 [50,1,2,3,4,5,52,7,8,9,10,11,12,13,14,15,16,17,18,19,20,21,22])
 (.step (.isi 42 7)<|
 .ite 50
 (.step (.bin .xor 41 14)<|
 .step (.ci .i64 1)<|
 .step (.bin .add 6 52)<|
 .tail 12 [51,1,2,3,4,5,53,7,8,9,10,11,12,13,14,15,16,17,18,19,20,21,22])
 (.step (.isi 42 8)<|
 .ite 51
 (.step (.bin .xor 41 15)<|
 .step (.ci .i64 1)<|
 .step (.bin .add 6 53)<|
 .tail 12 [52,1,2,3,4,5,54,7,8,9,10,11,12,13,14,15,16,17,18,19,20,21,22])
 (.step (.isi 42 9)<|
 .ite 52
 (.step (.bin .xor 41 16)<|
 .step (.ci .i64 1)<|
 .step (.bin .add 6 54)<|
 .tail 12 [53,1,2,3,4,5,55,7,8,9,10,11,12,13,14,15,16,17,18,19,20,21,22])
 (.step (.isi 42 10)<|
 .ite 53
 (.step (.bin .xor 41 17)<|
 .step (.ci .i64 1)<|
 .step (.bin .add 6 55)<|
 .tail 12 [54,1,2,3,4,5,56,7,8,9,10,11,12,13,14,15,16,17,18,19,20,21,22])
 (.step (.isi 42 11)<|
 .ite 54
 (.step (.bin .xor 41 18)<|
 .step (.ci .i64 1)<|
 .step (.bin .add 6 56)<|
 .tail 12 [55,1,2,3,4,5,57,7,8,9,10,11,12,13,14,15,16,17,18,19,20,21,22])
 (.step (.isi 42 12)<|
 .ite 55
 (.step (.bin .xor 41 19)<|
 .step (.ci .i64 1)<|
 .step (.bin .add 6 57)<|
 .tail 12 [56,1,2,3,4,5,58,7,8,9,10,11,12,13,14,15,16,17,18,19,20,21,22])
 (.step (.isi 42 13)<|
 .ite 56
 (.step (.bin .xor 41 20)<|
 .step (.ci .i64 1)<|
 .step (.bin .add 6 58)<|
 .tail 12 [57,1,2,3,4,5,59,7,8,9,10,11,12,13,14,15,16,17,18,19,20,21,22])
 (.step (.isi 42 14)<|
 .ite 57
 (.step (.bin .xor 41 21)<|
 .step (.ci .i64 1)<|
 .step (.bin .add 6 59)<|
 .tail 12 [58,1,2,3,4,5,60,7,8,9,10,11,12,13,14,15,16,17,18,19,20,21,22])
 (.step (.isi 42 15)<|
 .ite 58
 (.step (.bin .xor 41 22)<|
 .step (.ci .i64 1)<|
 .step (.bin .add 6 60)<|
 .tail 12 [59,1,2,3,4,5,61,7,8,9,10,11,12,13,14,15,16,17,18,19,20,21,22])
 (.dead)))))))))))))))))
 (.step (.isi 30 9)<|
 .ite 40
 (.step (.bin .xor 28 16)<|
 .step (.bin .shr 41 27)<|
 .step (.bin .and 41 29)<|
 .step (.isi 43 0)<|
 .ite 44
 (.step (.bin .xor 42 7)<|
 .step (.ci .i64 1)<|
 .step (.bin .add 6 46)<|
 .tail 12 [45,1,2,3,4,5,47,7,8,9,10,11,12,13,14,15,16,17,18,19,20,21,22])
 (.step (.isi 43 1)<|
 .ite 45
 (.step (.bin .xor 42 8)<|
 .step (.ci .i64 1)<|
 .step (.bin .add 6 47)<|
 .tail 12 [46,1,2,3,4,5,48,7,8,9,10,11,12,13,14,15,16,17,18,19,20,21,22])
 (.step (.isi 43 2)<|
 .ite 46
 (.step (.bin .xor 42 9)<|
 .step (.ci .i64 1)<|
 .step (.bin .add 6 48)<|
 .tail 12 [47,1,2,3,4,5,49,7,8,9,10,11,12,13,14,15,16,17,18,19,20,21,22])
 (.step (.isi 43 3)<|
 .ite 47
 (.step (.bin .xor 42 10)<|
 .step (.ci .i64 1)<|
 .step (.bin .add 6 49)<|
 .tail 12 [48,1,2,3,4,5,50,7,8,9,10,11,12,13,14,15,16,17,18,19,20,21,22])
 (.step (.isi 43 4)<|
 .ite 48
 (.step (.bin .xor 42 11)<|
 .step (.ci .i64 1)<|
 .step (.bin .add 6 50)<|
 .tail 12 [49,1,2,3,4,5,51,7,8,9,10,11,12,13,14,15,16,17,18,19,20,21,22])
 (.step (.isi 43 5)<|
 .ite 49
 (.step (.bin .xor 42 12)<|
 .step (.ci .i64 1)<|
 .step (.bin .add 6 51)<|
 .tail 12 [50,1,2,3,4,5,52,7,8,9,10,11,12,13,14,15,16,17,18,19,20,21,22])
 (.step (.isi 43 6)<|
 .ite 50
 (.step (.bin .xor 42 13)<|
 .step (.ci .i64 1)<|
 .step (.bin .add 6 52)<|
 .tail 12 [51,1,2,3,4,5,53,7,8,9,10,11,12,13,14,15,16,17,18,19,20,21,22])
 (.step (.isi 43 7)<|
 .ite 51
 (.step (.bin .xor 42 14)<|
 .step (.ci .i64 1)<|
 .step (.bin .add 6 53)<|
 .tail 12 [52,1,2,3,4,5,54,7,8,9,10,11,12,13,14,15,16,17,18,19,20,21,22])
 (.step (.isi 43 8)<|
 .ite 52
 (.step (.bin .xor 42 15)<|
 .step (.ci .i64 1)<|
 .step (.bin .add 6 54)<|
 .tail 12 [53,1,2,3,4,5,55,7,8,9,10,11,12,13,14,15,16,17,18,19,20,21,22])
 (.step (.isi 43 9)<|
 .ite 53
 (.step (.bin .xor 42 16)<|
 .step (.ci .i64 1)<|
 .step (.bin .add 6 55)<|
 .tail 12 [54,1,2,3,4,5,56,7,8,9,10,11,12,13,14,15,16,17,18,19,20,21,22])
 (.step (.isi 43 10)<|
 .ite 54
 (.step (.bin .xor 42 17)<|
 .step (.ci .i64 1)<|
 .step (.bin .add 6 56)<|
 .tail 12 [55,1,2,3,4,5,57,7,8,9,10,11,12,13,14,15,16,17,18,19,20,21,22])
 (.step (.isi 43 11)<|
 .ite 55
 (.step (.bin .xor 42 18)<|
 .step (.ci .i64 1)<|
 .step (.bin .add 6 57)<|
 .tail 12 [56,1,2,3,4,5,58,7,8,9,10,11,12,13,14,15,16,17,18,19,20,21,22])
 (.step (.isi 43 12)<|
 .ite 56
 (.step (.bin .xor 42 19)<|
 .step (.ci .i64 1)<|
 .step (.bin .add 6 58)<|
 .tail 12 [57,1,2,3,4,5,59,7,8,9,10,11,12,13,14,15,16,17,18,19,20,21,22])
 (.step (.isi 43 13)<|
 .ite 57
 (.step (.bin .xor 42 20)<|
 .step (.ci .i64 1)<|
 .step (.bin .add 6 59)<|
 .tail 12 [58,1,2,3,4,5,60,7,8,9,10,11,12,13,14,15,16,17,18,19,20,21,22])
 (.step (.isi 43 14)<|
 .ite 58
 (.step (.bin .xor 42 21)<|
 .step (.ci .i64 1)<|
 .step (.bin .add 6 60)<|
 .tail 12 [59,1,2,3,4,5,61,7,8,9,10,11,12,13,14,15,16,17,18,19,20,21,22])
 (.step (.isi 43 15)<|
 .ite 59
 (.step (.bin .xor 42 22)<|
 .step (.ci .i64 1)<|
 .step (.bin .add 6 61)<|
 .tail 12 [60,1,2,3,4,5,62,7,8,9,10,11,12,13,14,15,16,17,18,19,20,21,22])
 (.dead)))))))))))))))))
 (.step (.isi 30 10)<|
 .ite 41
 (.step (.bin .xor 28 17)<|
 .step (.bin .shr 42 27)<|
 .step (.bin .and 42 29)<|
 .step (.isi 44 0)<|
 .ite 45
 (.step (.bin .xor 43 7)<|
 .step (.ci .i64 1)<|
 .step (.bin .add 6 47)<|
 .tail 12 [46,1,2,3,4,5,48,7,8,9,10,11,12,13,14,15,16,17,18,19,20,21,22])
 (.step (.isi 44 1)<|
 .ite 46
 (.step (.bin .xor 43 8)<|
 .step (.ci .i64 1)<|
 .step (.bin .add 6 48)<|
 .tail 12 [47,1,2,3,4,5,49,7,8,9,10,11,12,13,14,15,16,17,18,19,20,21,22])
 (.step (.isi 44 2)<|
 .ite 47
 (.step (.bin .xor 43 9)<|
 .step (.ci .i64 1)<|
 .step (.bin .add 6 49)<|
 .tail 12 [48,1,2,3,4,5,50,7,8,9,10,11,12,13,14,15,16,17,18,19,20,21,22])
 (.step (.isi 44 3)<|
 .ite 48
 (.step (.bin .xor 43 10)<|
 .step (.ci .i64 1)<|
 .step (.bin .add 6 50)<|
 .tail 12 [49,1,2,3,4,5,51,7,8,9,10,11,12,13,14,15,16,17,18,19,20,21,22])
 (.step (.isi 44 4)<|
 .ite 49
 (.step (.bin .xor 43 11)<|
 .step (.ci .i64 1)<|
 .step (.bin .add 6 51)<|
 .tail 12 [50,1,2,3,4,5,52,7,8,9,10,11,12,13,14,15,16,17,18,19,20,21,22])
 (.step (.isi 44 5)<|
 .ite 50
 (.step (.bin .xor 43 12)<|
 .step (.ci .i64 1)<|
 .step (.bin .add 6 52)<|
 .tail 12 [51,1,2,3,4,5,53,7,8,9,10,11,12,13,14,15,16,17,18,19,20,21,22])
 (.step (.isi 44 6)<|
 .ite 51
 (.step (.bin .xor 43 13)<|
 .step (.ci .i64 1)<|
 .step (.bin .add 6 53)<|
 .tail 12 [52,1,2,3,4,5,54,7,8,9,10,11,12,13,14,15,16,17,18,19,20,21,22])
 (.step (.isi 44 7)<|
 .ite 52
 (.step (.bin .xor 43 14)<|
 .step (.ci .i64 1)<|
 .step (.bin .add 6 54)<|
 .tail 12 [53,1,2,3,4,5,55,7,8,9,10,11,12,13,14,15,16,17,18,19,20,21,22])
 (.step (.isi 44 8)<|
 .ite 53
 (.step (.bin .xor 43 15)<|
 .step (.ci .i64 1)<|
 .step (.bin .add 6 55)<|
 .tail 12 [54,1,2,3,4,5,56,7,8,9,10,11,12,13,14,15,16,17,18,19,20,21,22])
 (.step (.isi 44 9)<|
 .ite 54
 (.step (.bin .xor 43 16)<|
 .step (.ci .i64 1)<|
 .step (.bin .add 6 56)<|
 .tail 12 [55,1,2,3,4,5,57,7,8,9,10,11,12,13,14,15,16,17,18,19,20,21,22])
 (.step (.isi 44 10)<|
 .ite 55
 (.step (.bin .xor 43 17)<|
 .step (.ci .i64 1)<|
 .step (.bin .add 6 57)<|
 .tail 12 [56,1,2,3,4,5,58,7,8,9,10,11,12,13,14,15,16,17,18,19,20,21,22])
 (.step (.isi 44 11)<|
 .ite 56
 (.step (.bin .xor 43 18)<|
 .step (.ci .i64 1)<|
 .step (.bin .add 6 58)<|
 .tail 12 [57,1,2,3,4,5,59,7,8,9,10,11,12,13,14,15,16,17,18,19,20,21,22])
 (.step (.isi 44 12)<|
 .ite 57
 (.step (.bin .xor 43 19)<|
 .step (.ci .i64 1)<|
 .step (.bin .add 6 59)<|
 .tail 12 [58,1,2,3,4,5,60,7,8,9,10,11,12,13,14,15,16,17,18,19,20,21,22])
 (.step (.isi 44 13)<|
 .ite 58
 (.step (.bin .xor 43 20)<|
 .step (.ci .i64 1)<|
 .step (.bin .add 6 60)<|
 .tail 12 [59,1,2,3,4,5,61,7,8,9,10,11,12,13,14,15,16,17,18,19,20,21,22])
 (.step (.isi 44 14)<|
 .ite 59
 (.step (.bin .xor 43 21)<|
 .step (.ci .i64 1)<|
 .step (.bin .add 6 61)<|
 .tail 12 [60,1,2,3,4,5,62,7,8,9,10,11,12,13,14,15,16,17,18,19,20,21,22])
 (.step (.isi 44 15)<|
 .ite 60
 (.step (.bin .xor 43 22)<|
 .step (.ci .i64 1)<|
 .step (.bin .add 6 62)<|
 .tail 12 [61,1,2,3,4,5,63,7,8,9,10,11,12,13,14,15,16,17,18,19,20,21,22])
 (.dead)))))))))))))))))
 (.step (.isi 30 11)<|
 .ite 42
 (.step (.bin .xor 28 18)<|
 .step (.bin .shr 43 27)<|
 .step (.bin .and 43 29)<|
 .step (.isi 45 0)<|
 .ite 46
 (.step (.bin .xor 44 7)<|
 .step (.ci .i64 1)<|
 .step (.bin .add 6 48)<|
 .tail 12 [47,1,2,3,4,5,49,7,8,9,10,11,12,13,14,15,16,17,18,19,20,21,22])
 (.step (.isi 45 1)<|
 .ite 47
 (.step (.bin .xor 44 8)<|
 .step (.ci .i64 1)<|
 .step (.bin .add 6 49)<|
 .tail 12 [48,1,2,3,4,5,50,7,8,9,10,11,12,13,14,15,16,17,18,19,20,21,22])
 (.step (.isi 45 2)<|
 .ite 48
 (.step (.bin .xor 44 9)<|
 .step (.ci .i64 1)<|
 .step (.bin .add 6 50)<|
 .tail 12 [49,1,2,3,4,5,51,7,8,9,10,11,12,13,14,15,16,17,18,19,20,21,22])
 (.step (.isi 45 3)<|
 .ite 49
 (.step (.bin .xor 44 10)<|
 .step (.ci .i64 1)<|
 .step (.bin .add 6 51)<|
 .tail 12 [50,1,2,3,4,5,52,7,8,9,10,11,12,13,14,15,16,17,18,19,20,21,22])
 (.step (.isi 45 4)<|
 .ite 50
 (.step (.bin .xor 44 11)<|
 .step (.ci .i64 1)<|
 .step (.bin .add 6 52)<|
 .tail 12 [51,1,2,3,4,5,53,7,8,9,10,11,12,13,14,15,16,17,18,19,20,21,22])
 (.step (.isi 45 5)<|
 .ite 51
 (.step (.bin .xor 44 12)<|
 .step (.ci .i64 1)<|
 .step (.bin .add 6 53)<|
 .tail 12 [52,1,2,3,4,5,54,7,8,9,10,11,12,13,14,15,16,17,18,19,20,21,22])
 (.step (.isi 45 6)<|
 .ite 52
 (.step (.bin .xor 44 13)<|
 .step (.ci .i64 1)<|
 .step (.bin .add 6 54)<|
 .tail 12 [53,1,2,3,4,5,55,7,8,9,10,11,12,13,14,15,16,17,18,19,20,21,22])
 (.step (.isi 45 7)<|
 .ite 53
 (.step (.bin .xor 44 14)<|
 .step (.ci .i64 1)<|
 .step (.bin .add 6 55)<|
 .tail 12 [54,1,2,3,4,5,56,7,8,9,10,11,12,13,14,15,16,17,18,19,20,21,22])
 (.step (.isi 45 8)<|
 .ite 54
 (.step (.bin .xor 44 15)<|
 .step (.ci .i64 1)<|
 .step (.bin .add 6 56)<|
 .tail 12 [55,1,2,3,4,5,57,7,8,9,10,11,12,13,14,15,16,17,18,19,20,21,22])
 (.step (.isi 45 9)<|
 .ite 55
 (.step (.bin .xor 44 16)<|
 .step (.ci .i64 1)<|
 .step (.bin .add 6 57)<|
 .tail 12 [56,1,2,3,4,5,58,7,8,9,10,11,12,13,14,15,16,17,18,19,20,21,22])
 (.step (.isi 45 10)<|
 .ite 56
 (.step (.bin .xor 44 17)<|
 .step (.ci .i64 1)<|
 .step (.bin .add 6 58)<|
 .tail 12 [57,1,2,3,4,5,59,7,8,9,10,11,12,13,14,15,16,17,18,19,20,21,22])
 (.step (.isi 45 11)<|
 .ite 57
 (.step (.bin .xor 44 18)<|
 .step (.ci .i64 1)<|
 .step (.bin .add 6 59)<|
 .tail 12 [58,1,2,3,4,5,60,7,8,9,10,11,12,13,14,15,16,17,18,19,20,21,22])
 (.step (.isi 45 12)<|
 .ite 58
 (.step (.bin .xor 44 19)<|
 .step (.ci .i64 1)<|
 .step (.bin .add 6 60)<|
 .tail 12 [59,1,2,3,4,5,61,7,8,9,10,11,12,13,14,15,16,17,18,19,20,21,22])
 (.step (.isi 45 13)<|
 .ite 59
 (.step (.bin .xor 44 20)<|
 .step (.ci .i64 1)<|
 .step (.bin .add 6 61)<|
 .tail 12 [60,1,2,3,4,5,62,7,8,9,10,11,12,13,14,15,16,17,18,19,20,21,22])
 (.step (.isi 45 14)<|
 .ite 60
 (.step (.bin .xor 44 21)<|
 .step (.ci .i64 1)<|
 .step (.bin .add 6 62)<|
 .tail 12 [61,1,2,3,4,5,63,7,8,9,10,11,12,13,14,15,16,17,18,19,20,21,22])
 (.step (.isi 45 15)<|
 .ite 61
 (.step (.bin .xor 44 22)<|
 .step (.ci .i64 1)<|
 .step (.bin .add 6 63)<|
 .tail 12 [62,1,2,3,4,5,64,7,8,9,10,11,12,13,14,15,16,17,18,19,20,21,22])
 (.dead)))))))))))))))))
 (.step (.isi 30 12)<|
 .ite 43
 (.step (.bin .xor 28 19)<|
 .step (.bin .shr 44 27)<|
 .step (.bin .and 44 29)<|
 .step (.isi 46 0)<|
 .ite 47
 (.step (.bin .xor 45 7)<|
 .step (.ci .i64 1)<|
 .step (.bin .add 6 49)<|
 .tail 12 [48,1,2,3,4,5,50,7,8,9,10,11,12,13,14,15,16,17,18,19,20,21,22])
 (.step (.isi 46 1)<|
 .ite 48
 (.step (.bin .xor 45 8)<|
 .step (.ci .i64 1)<|
 .step (.bin .add 6 50)<|
 .tail 12 [49,1,2,3,4,5,51,7,8,9,10,11,12,13,14,15,16,17,18,19,20,21,22])
 (.step (.isi 46 2)<|
 .ite 49
 (.step (.bin .xor 45 9)<|
 .step (.ci .i64 1)<|
 .step (.bin .add 6 51)<|
 .tail 12 [50,1,2,3,4,5,52,7,8,9,10,11,12,13,14,15,16,17,18,19,20,21,22])
 (.step (.isi 46 3)<|
 .ite 50
 (.step (.bin .xor 45 10)<|
 .step (.ci .i64 1)<|
 .step (.bin .add 6 52)<|
 .tail 12 [51,1,2,3,4,5,53,7,8,9,10,11,12,13,14,15,16,17,18,19,20,21,22])
 (.step (.isi 46 4)<|
 .ite 51
 (.step (.bin .xor 45 11)<|
 .step (.ci .i64 1)<|
 .step (.bin .add 6 53)<|
 .tail 12 [52,1,2,3,4,5,54,7,8,9,10,11,12,13,14,15,16,17,18,19,20,21,22])
 (.step (.isi 46 5)<|
 .ite 52
 (.step (.bin .xor 45 12)<|
 .step (.ci .i64 1)<|
 .step (.bin .add 6 54)<|
 .tail 12 [53,1,2,3,4,5,55,7,8,9,10,11,12,13,14,15,16,17,18,19,20,21,22])
 (.step (.isi 46 6)<|
 .ite 53
 (.step (.bin .xor 45 13)<|
 .step (.ci .i64 1)<|
 .step (.bin .add 6 55)<|
 .tail 12 [54,1,2,3,4,5,56,7,8,9,10,11,12,13,14,15,16,17,18,19,20,21,22])
 (.step (.isi 46 7)<|
 .ite 54
 (.step (.bin .xor 45 14)<|
 .step (.ci .i64 1)<|
 .step (.bin .add 6 56)<|
 .tail 12 [55,1,2,3,4,5,57,7,8,9,10,11,12,13,14,15,16,17,18,19,20,21,22])
 (.step (.isi 46 8)<|
 .ite 55
 (.step (.bin .xor 45 15)<|
 .step (.ci .i64 1)<|
 .step (.bin .add 6 57)<|
 .tail 12 [56,1,2,3,4,5,58,7,8,9,10,11,12,13,14,15,16,17,18,19,20,21,22])
 (.step (.isi 46 9)<|
 .ite 56
 (.step (.bin .xor 45 16)<|
 .step (.ci .i64 1)<|
 .step (.bin .add 6 58)<|
 .tail 12 [57,1,2,3,4,5,59,7,8,9,10,11,12,13,14,15,16,17,18,19,20,21,22])
 (.step (.isi 46 10)<|
 .ite 57
 (.step (.bin .xor 45 17)<|
 .step (.ci .i64 1)<|
 .step (.bin .add 6 59)<|
 .tail 12 [58,1,2,3,4,5,60,7,8,9,10,11,12,13,14,15,16,17,18,19,20,21,22])
 (.step (.isi 46 11)<|
 .ite 58
 (.step (.bin .xor 45 18)<|
 .step (.ci .i64 1)<|
 .step (.bin .add 6 60)<|
 .tail 12 [59,1,2,3,4,5,61,7,8,9,10,11,12,13,14,15,16,17,18,19,20,21,22])
 (.step (.isi 46 12)<|
 .ite 59
 (.step (.bin .xor 45 19)<|
 .step (.ci .i64 1)<|
 .step (.bin .add 6 61)<|
 .tail 12 [60,1,2,3,4,5,62,7,8,9,10,11,12,13,14,15,16,17,18,19,20,21,22])
 (.step (.isi 46 13)<|
 .ite 60
 (.step (.bin .xor 45 20)<|
 .step (.ci .i64 1)<|
 .step (.bin .add 6 62)<|
 .tail 12 [61,1,2,3,4,5,63,7,8,9,10,11,12,13,14,15,16,17,18,19,20,21,22])
 (.step (.isi 46 14)<|
 .ite 61
 (.step (.bin .xor 45 21)<|
 .step (.ci .i64 1)<|
 .step (.bin .add 6 63)<|
 .tail 12 [62,1,2,3,4,5,64,7,8,9,10,11,12,13,14,15,16,17,18,19,20,21,22])
 (.step (.isi 46 15)<|
 .ite 62
 (.step (.bin .xor 45 22)<|
 .step (.ci .i64 1)<|
 .step (.bin .add 6 64)<|
 .tail 12 [63,1,2,3,4,5,65,7,8,9,10,11,12,13,14,15,16,17,18,19,20,21,22])
 (.dead)))))))))))))))))
 (.step (.isi 30 13)<|
 .ite 44
 (.step (.bin .xor 28 20)<|
 .step (.bin .shr 45 27)<|
 .step (.bin .and 45 29)<|
 .step (.isi 47 0)<|
 .ite 48
 (.step (.bin .xor 46 7)<|
 .step (.ci .i64 1)<|
 .step (.bin .add 6 50)<|
 .tail 12 [49,1,2,3,4,5,51,7,8,9,10,11,12,13,14,15,16,17,18,19,20,21,22])
 (.step (.isi 47 1)<|
 .ite 49
 (.step (.bin .xor 46 8)<|
 .step (.ci .i64 1)<|
 .step (.bin .add 6 51)<|
 .tail 12 [50,1,2,3,4,5,52,7,8,9,10,11,12,13,14,15,16,17,18,19,20,21,22])
 (.step (.isi 47 2)<|
 .ite 50
 (.step (.bin .xor 46 9)<|
 .step (.ci .i64 1)<|
 .step (.bin .add 6 52)<|
 .tail 12 [51,1,2,3,4,5,53,7,8,9,10,11,12,13,14,15,16,17,18,19,20,21,22])
 (.step (.isi 47 3)<|
 .ite 51
 (.step (.bin .xor 46 10)<|
 .step (.ci .i64 1)<|
 .step (.bin .add 6 53)<|
 .tail 12 [52,1,2,3,4,5,54,7,8,9,10,11,12,13,14,15,16,17,18,19,20,21,22])
 (.step (.isi 47 4)<|
 .ite 52
 (.step (.bin .xor 46 11)<|
 .step (.ci .i64 1)<|
 .step (.bin .add 6 54)<|
 .tail 12 [53,1,2,3,4,5,55,7,8,9,10,11,12,13,14,15,16,17,18,19,20,21,22])
 (.step (.isi 47 5)<|
 .ite 53
 (.step (.bin .xor 46 12)<|
 .step (.ci .i64 1)<|
 .step (.bin .add 6 55)<|
 .tail 12 [54,1,2,3,4,5,56,7,8,9,10,11,12,13,14,15,16,17,18,19,20,21,22])
 (.step (.isi 47 6)<|
 .ite 54
 (.step (.bin .xor 46 13)<|
 .step (.ci .i64 1)<|
 .step (.bin .add 6 56)<|
 .tail 12 [55,1,2,3,4,5,57,7,8,9,10,11,12,13,14,15,16,17,18,19,20,21,22])
 (.step (.isi 47 7)<|
 .ite 55
 (.step (.bin .xor 46 14)<|
 .step (.ci .i64 1)<|
 .step (.bin .add 6 57)<|
 .tail 12 [56,1,2,3,4,5,58,7,8,9,10,11,12,13,14,15,16,17,18,19,20,21,22])
 (.step (.isi 47 8)<|
 .ite 56
 (.step (.bin .xor 46 15)<|
 .step (.ci .i64 1)<|
 .step (.bin .add 6 58)<|
 .tail 12 [57,1,2,3,4,5,59,7,8,9,10,11,12,13,14,15,16,17,18,19,20,21,22])
 (.step (.isi 47 9)<|
 .ite 57
 (.step (.bin .xor 46 16)<|
 .step (.ci .i64 1)<|
 .step (.bin .add 6 59)<|
 .tail 12 [58,1,2,3,4,5,60,7,8,9,10,11,12,13,14,15,16,17,18,19,20,21,22])
 (.step (.isi 47 10)<|
 .ite 58
 (.step (.bin .xor 46 17)<|
 .step (.ci .i64 1)<|
 .step (.bin .add 6 60)<|
 .tail 12 [59,1,2,3,4,5,61,7,8,9,10,11,12,13,14,15,16,17,18,19,20,21,22])
 (.step (.isi 47 11)<|
 .ite 59
 (.step (.bin .xor 46 18)<|
 .step (.ci .i64 1)<|
 .step (.bin .add 6 61)<|
 .tail 12 [60,1,2,3,4,5,62,7,8,9,10,11,12,13,14,15,16,17,18,19,20,21,22])
 (.step (.isi 47 12)<|
 .ite 60
 (.step (.bin .xor 46 19)<|
 .step (.ci .i64 1)<|
 .step (.bin .add 6 62)<|
 .tail 12 [61,1,2,3,4,5,63,7,8,9,10,11,12,13,14,15,16,17,18,19,20,21,22])
 (.step (.isi 47 13)<|
 .ite 61
 (.step (.bin .xor 46 20)<|
 .step (.ci .i64 1)<|
 .step (.bin .add 6 63)<|
 .tail 12 [62,1,2,3,4,5,64,7,8,9,10,11,12,13,14,15,16,17,18,19,20,21,22])
 (.step (.isi 47 14)<|
 .ite 62
 (.step (.bin .xor 46 21)<|
 .step (.ci .i64 1)<|
 .step (.bin .add 6 64)<|
 .tail 12 [63,1,2,3,4,5,65,7,8,9,10,11,12,13,14,15,16,17,18,19,20,21,22])
 (.step (.isi 47 15)<|
 .ite 63
 (.step (.bin .xor 46 22)<|
 .step (.ci .i64 1)<|
 .step (.bin .add 6 65)<|
 .tail 12 [64,1,2,3,4,5,66,7,8,9,10,11,12,13,14,15,16,17,18,19,20,21,22])
 (.dead)))))))))))))))))
 (.step (.isi 30 14)<|
 .ite 45
 (.step (.bin .xor 28 21)<|
 .step (.bin .shr 46 27)<|
 .step (.bin .and 46 29)<|
 .step (.isi 48 0)<|
 .ite 49
 (.step (.bin .xor 47 7)<|
 .step (.ci .i64 1)<|
 .step (.bin .add 6 51)<|
 .tail 12 [50,1,2,3,4,5,52,7,8,9,10,11,12,13,14,15,16,17,18,19,20,21,22])
 (.step (.isi 48 1)<|
 .ite 50
 (.step (.bin .xor 47 8)<|
 .step (.ci .i64 1)<|
 .step (.bin .add 6 52)<|
 .tail 12 [51,1,2,3,4,5,53,7,8,9,10,11,12,13,14,15,16,17,18,19,20,21,22])
 (.step (.isi 48 2)<|
 .ite 51
 (.step (.bin .xor 47 9)<|
 .step (.ci .i64 1)<|
 .step (.bin .add 6 53)<|
 .tail 12 [52,1,2,3,4,5,54,7,8,9,10,11,12,13,14,15,16,17,18,19,20,21,22])
 (.step (.isi 48 3)<|
 .ite 52
 (.step (.bin .xor 47 10)<|
 .step (.ci .i64 1)<|
 .step (.bin .add 6 54)<|
 .tail 12 [53,1,2,3,4,5,55,7,8,9,10,11,12,13,14,15,16,17,18,19,20,21,22])
 (.step (.isi 48 4)<|
 .ite 53
 (.step (.bin .xor 47 11)<|
 .step (.ci .i64 1)<|
 .step (.bin .add 6 55)<|
 .tail 12 [54,1,2,3,4,5,56,7,8,9,10,11,12,13,14,15,16,17,18,19,20,21,22])
 (.step (.isi 48 5)<|
 .ite 54
 (.step (.bin .xor 47 12)<|
 .step (.ci .i64 1)<|
 .step (.bin .add 6 56)<|
 .tail 12 [55,1,2,3,4,5,57,7,8,9,10,11,12,13,14,15,16,17,18,19,20,21,22])
 (.step (.isi 48 6)<|
 .ite 55
 (.step (.bin .xor 47 13)<|
 .step (.ci .i64 1)<|
 .step (.bin .add 6 57)<|
 .tail 12 [56,1,2,3,4,5,58,7,8,9,10,11,12,13,14,15,16,17,18,19,20,21,22])
 (.step (.isi 48 7)<|
 .ite 56
 (.step (.bin .xor 47 14)<|
 .step (.ci .i64 1)<|
 .step (.bin .add 6 58)<|
 .tail 12 [57,1,2,3,4,5,59,7,8,9,10,11,12,13,14,15,16,17,18,19,20,21,22])
 (.step (.isi 48 8)<|
 .ite 57
 (.step (.bin .xor 47 15)<|
 .step (.ci .i64 1)<|
 .step (.bin .add 6 59)<|
 .tail 12 [58,1,2,3,4,5,60,7,8,9,10,11,12,13,14,15,16,17,18,19,20,21,22])
 (.step (.isi 48 9)<|
 .ite 58
 (.step (.bin .xor 47 16)<|
 .step (.ci .i64 1)<|
 .step (.bin .add 6 60)<|
 .tail 12 [59,1,2,3,4,5,61,7,8,9,10,11,12,13,14,15,16,17,18,19,20,21,22])
 (.step (.isi 48 10)<|
 .ite 59
 (.step (.bin .xor 47 17)<|
 .step (.ci .i64 1)<|
 .step (.bin .add 6 61)<|
 .tail 12 [60,1,2,3,4,5,62,7,8,9,10,11,12,13,14,15,16,17,18,19,20,21,22])
 (.step (.isi 48 11)<|
 .ite 60
 (.step (.bin .xor 47 18)<|
 .step (.ci .i64 1)<|
 .step (.bin .add 6 62)<|
 .tail 12 [61,1,2,3,4,5,63,7,8,9,10,11,12,13,14,15,16,17,18,19,20,21,22])
 (.step (.isi 48 12)<|
 .ite 61
 (.step (.bin .xor 47 19)<|
 .step (.ci .i64 1)<|
 .step (.bin .add 6 63)<|
 .tail 12 [62,1,2,3,4,5,64,7,8,9,10,11,12,13,14,15,16,17,18,19,20,21,22])
 (.step (.isi 48 13)<|
 .ite 62
 (.step (.bin .xor 47 20)<|
 .step (.ci .i64 1)<|
 .step (.bin .add 6 64)<|
 .tail 12 [63,1,2,3,4,5,65,7,8,9,10,11,12,13,14,15,16,17,18,19,20,21,22])
 (.step (.isi 48 14)<|
 .ite 63
 (.step (.bin .xor 47 21)<|
 .step (.ci .i64 1)<|
 .step (.bin .add 6 65)<|
 .tail 12 [64,1,2,3,4,5,66,7,8,9,10,11,12,13,14,15,16,17,18,19,20,21,22])
 (.step (.isi 48 15)<|
 .ite 64
 (.step (.bin .xor 47 22)<|
 .step (.ci .i64 1)<|
 .step (.bin .add 6 66)<|
 .tail 12 [65,1,2,3,4,5,67,7,8,9,10,11,12,13,14,15,16,17,18,19,20,21,22])
 (.dead)))))))))))))))))
 (.step (.isi 30 15)<|
 .ite 46
 (.step (.bin .xor 28 22)<|
 .step (.bin .shr 47 27)<|
 .step (.bin .and 47 29)<|
 .step (.isi 49 0)<|
 .ite 50
 (.step (.bin .xor 48 7)<|
 .step (.ci .i64 1)<|
 .step (.bin .add 6 52)<|
 .tail 12 [51,1,2,3,4,5,53,7,8,9,10,11,12,13,14,15,16,17,18,19,20,21,22])
 (.step (.isi 49 1)<|
 .ite 51
 (.step (.bin .xor 48 8)<|
 .step (.ci .i64 1)<|
 .step (.bin .add 6 53)<|
 .tail 12 [52,1,2,3,4,5,54,7,8,9,10,11,12,13,14,15,16,17,18,19,20,21,22])
 (.step (.isi 49 2)<|
 .ite 52
 (.step (.bin .xor 48 9)<|
 .step (.ci .i64 1)<|
 .step (.bin .add 6 54)<|
 .tail 12 [53,1,2,3,4,5,55,7,8,9,10,11,12,13,14,15,16,17,18,19,20,21,22])
 (.step (.isi 49 3)<|
 .ite 53
 (.step (.bin .xor 48 10)<|
 .step (.ci .i64 1)<|
 .step (.bin .add 6 55)<|
 .tail 12 [54,1,2,3,4,5,56,7,8,9,10,11,12,13,14,15,16,17,18,19,20,21,22])
 (.step (.isi 49 4)<|
 .ite 54
 (.step (.bin .xor 48 11)<|
 .step (.ci .i64 1)<|
 .step (.bin .add 6 56)<|
 .tail 12 [55,1,2,3,4,5,57,7,8,9,10,11,12,13,14,15,16,17,18,19,20,21,22])
 (.step (.isi 49 5)<|
 .ite 55
 (.step (.bin .xor 48 12)<|
 .step (.ci .i64 1)<|
 .step (.bin .add 6 57)<|
 .tail 12 [56,1,2,3,4,5,58,7,8,9,10,11,12,13,14,15,16,17,18,19,20,21,22])
 (.step (.isi 49 6)<|
 .ite 56
 (.step (.bin .xor 48 13)<|
 .step (.ci .i64 1)<|
 .step (.bin .add 6 58)<|
 .tail 12 [57,1,2,3,4,5,59,7,8,9,10,11,12,13,14,15,16,17,18,19,20,21,22])
 (.step (.isi 49 7)<|
 .ite 57
 (.step (.bin .xor 48 14)<|
 .step (.ci .i64 1)<|
 .step (.bin .add 6 59)<|
 .tail 12 [58,1,2,3,4,5,60,7,8,9,10,11,12,13,14,15,16,17,18,19,20,21,22])
 (.step (.isi 49 8)<|
 .ite 58
 (.step (.bin .xor 48 15)<|
 .step (.ci .i64 1)<|
 .step (.bin .add 6 60)<|
 .tail 12 [59,1,2,3,4,5,61,7,8,9,10,11,12,13,14,15,16,17,18,19,20,21,22])
 (.step (.isi 49 9)<|
 .ite 59
 (.step (.bin .xor 48 16)<|
 .step (.ci .i64 1)<|
 .step (.bin .add 6 61)<|
 .tail 12 [60,1,2,3,4,5,62,7,8,9,10,11,12,13,14,15,16,17,18,19,20,21,22])
 (.step (.isi 49 10)<|
 .ite 60
 (.step (.bin .xor 48 17)<|
 .step (.ci .i64 1)<|
 .step (.bin .add 6 62)<|
 .tail 12 [61,1,2,3,4,5,63,7,8,9,10,11,12,13,14,15,16,17,18,19,20,21,22])
 (.step (.isi 49 11)<|
 .ite 61
 (.step (.bin .xor 48 18)<|
 .step (.ci .i64 1)<|
 .step (.bin .add 6 63)<|
 .tail 12 [62,1,2,3,4,5,64,7,8,9,10,11,12,13,14,15,16,17,18,19,20,21,22])
 (.step (.isi 49 12)<|
 .ite 62
 (.step (.bin .xor 48 19)<|
 .step (.ci .i64 1)<|
 .step (.bin .add 6 64)<|
 .tail 12 [63,1,2,3,4,5,65,7,8,9,10,11,12,13,14,15,16,17,18,19,20,21,22])
 (.step (.isi 49 13)<|
 .ite 63
 (.step (.bin .xor 48 20)<|
 .step (.ci .i64 1)<|
 .step (.bin .add 6 65)<|
 .tail 12 [64,1,2,3,4,5,66,7,8,9,10,11,12,13,14,15,16,17,18,19,20,21,22])
 (.step (.isi 49 14)<|
 .ite 64
 (.step (.bin .xor 48 21)<|
 .step (.ci .i64 1)<|
 .step (.bin .add 6 66)<|
 .tail 12 [65,1,2,3,4,5,67,7,8,9,10,11,12,13,14,15,16,17,18,19,20,21,22])
 (.step (.isi 49 15)<|
 .ite 65
 (.step (.bin .xor 48 22)<|
 .step (.ci .i64 1)<|
 .step (.bin .add 6 67)<|
 .tail 12 [66,1,2,3,4,5,68,7,8,9,10,11,12,13,14,15,16,17,18,19,20,21,22])
 (.dead)))))))))))))))))
 (.dead)))))))))))))))))
 (.step (.ci .i64 0)<|
 .ret [24,0])
def d80:PDef:=.tree 5<|
 .step (.bin .lss 3 2)<|
 .ite 5
 (.step (.at 2 1 3)<|
 .step (.cell 0 6)<|
 .step (.cell 1 6)<|
 .step (.call 53 [7] 0)<|
 .step (.call 81 [0,9] 0)<|
 .step (.bytes 10)<|
 .step (.app 1 1 4 11)<|
 .step (.slen 10)<|
 .step (.call 4 [8] 0)<|
 .step (.bytes 14)<|
 .step (.app 1 1 12 15)<|
 .step (.slen 14)<|
 .step (.ci .i64 1)<|
 .step (.bin .add 3 18)<|
 .tail 80 [9,1,2,19,16])
 (.step (.ci .i64 0)<|
 .ret [6,4])
def d146:PDef:=.tree 22<|
 .step (.bin .lss 1 0)<|
 .ite 22
 (.step (.len 7)<|
 .step (.ci .i64 0)<|
 .step (.bin .eql 23 24)<|
 .ite 25
 (.step (.len 4)<|
 .step (.bin .eql 26 24)<|
 .ite 27
 (.ret [24,2,4,7])
 (.step (.idx 4 24)<|
 .step (.at 3 4 28)<|
 .step (.cell 0 29)<|
 .step (.bin .gtr 30 0)<|
 .ite 31
 (.ret [24,2,4,7])
 (.step (.ci .u64 1)<|
 .step (.bin .add 1 32)<|
 .step (.mm true 33 30)<|
 .step (.cb true)<|
 .step (.call 147 [0,30,35,30,34,2,3,4,5,6,7,8,9,10,11,12,13,14,15,16,17,18,19,20,21] 0)<|
 .step (.bin .eql 36 24)<|
 .ite 37
 (.step (.call 147 [0,30,35,30,34,2,3,4,5,6,7,8,9,10,11,12,13,14,15,16,17,18,19,20,21] 1)<|
 .step (.call 147 [0,30,35,30,34,2,3,4,5,6,7,8,9,10,11,12,13,14,15,16,17,18,19,20,21] 2)<|
 .step (.call 147 [0,30,35,30,34,2,3,4,5,6,7,8,9,10,11,12,13,14,15,16,17,18,19,20,21] 3)<|
 .step (.call 147 [0,30,35,30,34,2,3,4,5,6,7,8,9,10,11,12,13,14,15,16,17,18,19,20,21] 4)<|
 .tail 146 [0,34,39,3,40,5,6,41,8,9,10,11,12,13,14,15,16,17,18,19,20,21])
 (.step (.call 147 [0,30,35,30,34,2,3,4,5,6,7,8,9,10,11,12,13,14,15,16,17,18,19,20,21] 1)<|
 .step (.call 147 [0,30,35,30,34,2,3,4,5,6,7,8,9,10,11,12,13,14,15,16,17,18,19,20,21] 2)<|
 .step (.call 147 [0,30,35,30,34,2,3,4,5,6,7,8,9,10,11,12,13,14,15,16,17,18,19,20,21] 3)<|
 .tail 146 [0,34,38,3,39,5,6,40,8,9,10,11,12,13,14,15,16,17,18,19,20,21]))))
 (.step (.idx 7 24)<|
 .step (.at 3 7 26)<|
 .step (.cell 0 27)<|
 .step (.len 4)<|
 .step (.bin .eql 29 24)<|
 .ite 30
 (.step (.bin .gtr 28 0)<|
 .ite 31
 (.ret [24,2,4,7])
 (.step (.ci .u64 1)<|
 .step (.bin .add 1 32)<|
 .step (.mm true 33 28)<|
 .step (.cb true)<|
 .step (.call 147 [0,28,35,28,34,2,3,4,5,6,7,8,9,10,11,12,13,14,15,16,17,18,19,20,21] 0)<|
 .step (.bin .eql 36 24)<|
 .ite 37
 (.step (.call 147 [0,28,35,28,34,2,3,4,5,6,7,8,9,10,11,12,13,14,15,16,17,18,19,20,21] 1)<|
 .step (.call 147 [0,28,35,28,34,2,3,4,5,6,7,8,9,10,11,12,13,14,15,16,17,18,19,20,21] 2)<|
 .step (.call 147 [0,28,35,28,34,2,3,4,5,6,7,8,9,10,11,12,13,14,15,16,17,18,19,20,21] 3)<|
 .step (.call 147 [0,28,35,28,34,2,3,4,5,6,7,8,9,10,11,12,13,14,15,16,17,18,19,20,21] 4)<|
 .tail 146 [0,34,39,3,40,5,6,41,8,9,10,11,12,13,14,15,16,17,18,19,20,21])
 (.step (.call 147 [0,28,35,28,34,2,3,4,5,6,7,8,9,10,11,12,13,14,15,16,17,18,19,20,21] 1)<|
 .step (.call 147 [0,28,35,28,34,2,3,4,5,6,7,8,9,10,11,12,13,14,15,16,17,18,19,20,21] 2)<|
 .step (.call 147 [0,28,35,28,34,2,3,4,5,6,7,8,9,10,11,12,13,14,15,16,17,18,19,20,21] 3)<|
 .tail 146 [0,34,38,3,39,5,6,40,8,9,10,11,12,13,14,15,16,17,18,19,20,21])))
 (.step (.idx 4 24)<|
 .step (.at 3 4 31)<|
 .step (.cell 0 32)<|
 .step (.mm false 28 33)<|
 .step (.bin .gtr 34 0)<|
 .ite 35
 (.ret [24,2,4,7])
 (.step (.ci .u64 1)<|
 .step (.bin .add 1 36)<|
 .step (.mm true 37 34)<|
 .step (.cb true)<|
 .step (.call 147 [0,34,39,34,38,2,3,4,5,6,7,8,9,10,11,12,13,14,15,16,17,18,19,20,21] 0)<|
 .step (.bin .eql 40 24)<|
 .ite 41
 (.step (.call 147 [0,34,39,34,38,2,3,4,5,6,7,8,9,10,11,12,13,14,15,16,17,18,19,20,21] 1)<|
 .step (.call 147 [0,34,39,34,38,2,3,4,5,6,7,8,9,10,11,12,13,14,15,16,17,18,19,20,21] 2)<|
 .step (.call 147 [0,34,39,34,38,2,3,4,5,6,7,8,9,10,11,12,13,14,15,16,17,18,19,20,21] 3)<|
 .step (.call 147 [0,34,39,34,38,2,3,4,5,6,7,8,9,10,11,12,13,14,15,16,17,18,19,20,21] 4)<|
 .tail 146 [0,38,43,3,44,5,6,45,8,9,10,11,12,13,14,15,16,17,18,19,20,21])
 (.step (.call 147 [0,34,39,34,38,2,3,4,5,6,7,8,9,10,11,12,13,14,15,16,17,18,19,20,21] 1)<|
 .step (.call 147 [0,34,39,34,38,2,3,4,5,6,7,8,9,10,11,12,13,14,15,16,17,18,19,20,21] 2)<|
 .step (.call 147 [0,34,39,34,38,2,3,4,5,6,7,8,9,10,11,12,13,14,15,16,17,18,19,20,21] 3)<|
 .tail 146 [0,38,42,3,43,5,6,44,8,9,10,11,12,13,14,15,16,17,18,19,20,21])))))
 (.step (.ci .i64 1)<|
 .ret [23,1,2,4,7])
def d105:PDef:=.tree 6<|
 .step (.bin .lss 3 2)<|
 .ite 6
 (.step (.at 1 1 3)<|
 .step (.cell 0 7)<|
 .step (.call 103 [0,5,8,4] 0)<|
 .step (.call 103 [0,5,8,4] 1)<|
 .step (.ci .u64 1)<|
 .step (.bin .add 5 11)<|
 .step (.ci .i64 1)<|
 .step (.bin .add 3 13)<|
 .tail 105 [0,1,2,14,10,12])
 (.step (.ci .i64 0)<|
 .ret [7,4,5])
def d51:PDef:=.tree 4<|
 .step (.bin .lss 3 2)<|
 .ite 4
 (.step (.at 2 1 3)<|
 .step (.cell 0 5)<|
 .step (.cell 1 5)<|
 .step (.mk [6,7])<|
 .step (.call 52 [8] 0)<|
 .step (.ci .i64 0)<|
 .step (.bin .neq 9 10)<|
 .ite 11
 (.ret [10,9])
 (.step (.call 53 [6] 0)<|
 .step (.bin .gtr 3 10)<|
 .ite 13
 (.step (.bin .eql 12 0)<|
 .ite 14
 (.step (.ci .i64 14)<|
 .ret [10,15])
 (.step (.bin .lss 12 0)<|
 .ite 15
 (.step (.ci .i64 7)<|
 .ret [10,16])
 (.step (.ci .i64 1)<|
 .step (.bin .add 3 16)<|
 .tail 51 [12,1,2,17])))
 (.step (.ci .i64 1)<|
 .step (.bin .add 3 14)<|
 .tail 51 [12,1,2,15])))
 (.step (.ci .i64 1)<|
 .ret [5])
def d108:PDef:=.tree 11<|
 .step (.bin .lss 7 6)<|
 .ite 11
 (.step (.bin .add 2 7)<|
 .step (.ml [1])<|
 .step (.call 104 [12,13,9,10] 0)<|
 .step (.call 104 [12,13,9,10] 1)<|
 .step (.call 104 [12,13,9,10] 2)<|
 .step (.ci .u64 1)<|
 .step (.bin .add 7 17)<|
 .tail 108 [0,1,2,3,4,5,6,18,8,15,16])
 (.step (.ci .i64 0)<|
 .ret [12,9,10])
def d36:PDef:=.tree 28<|
 .step (.bin .lss 2 1)<|
 .ite 28
 (.step (.at 4 0 2)<|
 .step (.cell 0 29)<|
 .step (.cell 1 29)<|
 .step (.cell 2 29)<|
 .step (.cell 3 29)<|
 .step (.cs [])<|
 .step (.bin .eql 33 34)<|
 .step (.cb true)<|
 .step (.mput 3 33 36)<|
 .step (.ci .i64 1)<|
 .step (.bin .add 2 38)<|
 .tail 36 [0,1,39,37,4,5,6,7,8,9,10,11,12,13,14,15,16,17,18,19,20,21,22,23,24,25,26,27])
 (.step (.ci .i64 0)<|
 .ret [29,3])
def d90:PDef:=.tree 4<|
 .step (.bin .lss 3 2)<|
 .ite 4
 (.step (.at 5 0 3)<|
 .step (.cell 0 5)<|
 .step (.ci .u64 2)<|
 .step (.bin .shl 6 7)<|
 .step (.cell 1 5)<|
 .step (.conv .u64 9)<|
 .step (.bin .or 8 10)<|
 .step (.call 5 [11] 0)<|
 .step (.bin .add 1 12)<|
 .step (.ci .i64 0)<|
 .step (.bin .eql 9 14)<|
 .ite 15
 (.step (.cell 2 5)<|
 .step (.call 5 [16] 0)<|
 .step (.bin .add 13 17)<|
 .step (.ci .i64 1)<|
 .step (.bin .add 3 19)<|
 .tail 90 [0,18,2,20])
 (.step (.ci .i64 1)<|
 .step (.bin .eql 9 16)<|
 .ite 17
 (.step (.cell 3 5)<|
 .step (.slen 18)<|
 .step (.conv .u64 19)<|
 .step (.call 5 [20] 0)<|
 .step (.bin .add 21 19)<|
 .step (.bin .add 13 22)<|
 .step (.bin .add 3 16)<|
 .tail 90 [0,23,2,24])
 (.step (.ci .i64 2)<|
 .step (.bin .eql 9 18)<|
 .ite 19
 (.step (.cell 4 5)<|
 .step (.call 89 [20] 0)<|
 .step (.conv .u64 21)<|
 .step (.call 5 [22] 0)<|
 .step (.bin .add 23 21)<|
 .step (.bin .add 13 24)<|
 .step (.bin .add 3 16)<|
 .tail 90 [0,25,2,26])
 (.step (.bin .add 3 16)<|
 .tail 90 [0,13,2,20]))))
 (.step (.ci .i64 0)<|
 .ret [5,1])
def d132:PDef:=.tree 2<|
 .step (.ci .i64 2)<|
 .step (.bin .lss 1 2)<|
 .ite 3
 (.step (.slen 0)<|
 .step (.bin .eql 1 4)<|
 .ite 5
 (.step (.ci .i64 1)<|
 .step (.ci .i64 0)<|
 .ret [7,6])
 (.step (.sidx 0 1)<|
 .step (.cs [81,70])<|
 .step (.sidx 7 1)<|
 .step (.bin .neq 6 8)<|
 .ite 9
 (.step (.ci .i64 5)<|
 .step (.ci .i64 0)<|
 .ret [11,10])
 (.step (.ci .i64 1)<|
 .step (.bin .add 1 10)<|
 .tail 132 [0,11])))
 (.step (.ci .i64 1)<|
 .ret [4])
def d138:PDef:=.tree 22<|
 .step (.ci .i64 0)<|
 .ret [22]
def d127:PDef:=.tree 5<|
 .step (.ci .i64 2)<|
 .step (.bin .mul 5 2)<|
 .step (.ci .i64 1)<|
 .step (.bin .add 6 7)<|
 .step (.bin .geq 8 1)<|
 .ite 9
 (.step (.ci .i64 0)<|
 .ret [10,2,3])
 (.step (.ci .i64 0)<|
 .step (.bin .lss 8 10)<|
 .ite 11
 (.ret [10,2,3])
 (.step (.bin .add 8 7)<|
 .step (.bin .lss 12 1)<|
 .ite 13
 (.step (.idx 3 12)<|
 .step (.at 3 3 14)<|
 .step (.cell 0 15)<|
 .step (.idx 3 8)<|
 .step (.at 3 3 17)<|
 .step (.cell 0 18)<|
 .step (.bin .neq 16 19)<|
 .ite 20
 (.step (.bin .lss 16 19)<|
 .ite 21
 (.step (.idx 3 2)<|
 .step (.at 3 3 22)<|
 .step (.cell 0 23)<|
 .step (.bin .neq 16 24)<|
 .ite 25
 (.step (.bin .lss 16 24)<|
 .step (.un .not 26)<|
 .ite 27
 (.ret [10,2,3])
 (.step (.cell 1 15)<|
 .step (.cell 2 15)<|
 .step (.cell 1 23)<|
 .step (.cell 2 23)<|
 .step (.upd 3 0 3 22 [16,28,29])<|
 .step (.upd 3 0 32 14 [24,30,31])<|
 .tail 127 [0,1,12,33,4]))
 (.step (.cell 1 15)<|
 .step (.cell 1 23)<|
 .step (.bin .lss 26 27)<|
 .step (.un .not 28)<|
 .ite 29
 (.ret [10,2,3])
 (.step (.cell 2 15)<|
 .step (.cell 2 23)<|
 .step (.upd 3 0 3 22 [16,26,30])<|
 .step (.upd 3 0 32 14 [24,27,31])<|
 .tail 127 [0,1,12,33,4])))
 (.step (.idx 3 2)<|
 .step (.at 3 3 22)<|
 .step (.cell 0 23)<|
 .step (.bin .neq 19 24)<|
 .ite 25
 (.step (.bin .lss 19 24)<|
 .step (.un .not 26)<|
 .ite 27
 (.ret [10,2,3])
 (.step (.cell 1 18)<|
 .step (.cell 2 18)<|
 .step (.cell 1 23)<|
 .step (.cell 2 23)<|
 .step (.upd 3 0 3 22 [19,28,29])<|
 .step (.upd 3 0 32 17 [24,30,31])<|
 .tail 127 [0,1,8,33,4]))
 (.step (.cell 1 18)<|
 .step (.cell 1 23)<|
 .step (.bin .lss 26 27)<|
 .step (.un .not 28)<|
 .ite 29
 (.ret [10,2,3])
 (.step (.cell 2 18)<|
 .step (.cell 2 23)<|
 .step (.upd 3 0 3 22 [19,26,30])<|
 .step (.upd 3 0 32 17 [24,27,31])<|
 .tail 127 [0,1,8,33,4]))))
 (.step (.cell 1 15)<|
 .step (.cell 1 18)<|
 .step (.bin .lss 21 22)<|
 .ite 23
 (.step (.idx 3 2)<|
 .step (.at 3 3 24)<|
 .step (.cell 0 25)<|
 .step (.bin .neq 16 26)<|
 .ite 27
 (.step (.bin .lss 16 26)<|
 .step (.un .not 28)<|
 .ite 29
 (.ret [10,2,3])
 (.step (.cell 2 15)<|
 .step (.cell 1 25)<|
 .step (.cell 2 25)<|
 .step (.upd 3 0 3 24 [16,21,30])<|
 .step (.upd 3 0 33 14 [26,31,32])<|
 .tail 127 [0,1,12,34,4]))
 (.step (.cell 1 25)<|
 .step (.bin .lss 21 28)<|
 .step (.un .not 29)<|
 .ite 30
 (.ret [10,2,3])
 (.step (.cell 2 15)<|
 .step (.cell 2 25)<|
 .step (.upd 3 0 3 24 [16,21,31])<|
 .step (.upd 3 0 33 14 [26,28,32])<|
 .tail 127 [0,1,12,34,4])))
 (.step (.idx 3 2)<|
 .step (.at 3 3 24)<|
 .step (.cell 0 25)<|
 .step (.bin .neq 19 26)<|
 .ite 27
 (.step (.bin .lss 19 26)<|
 .step (.un .not 28)<|
 .ite 29
 (.ret [10,2,3])
 (.step (.cell 2 18)<|
 .step (.cell 1 25)<|
 .step (.cell 2 25)<|
 .step (.upd 3 0 3 24 [19,22,30])<|
 .step (.upd 3 0 33 17 [26,31,32])<|
 .tail 127 [0,1,8,34,4]))
 (.step (.cell 1 25)<|
 .step (.bin .lss 22 28)<|
 .step (.un .not 29)<|
 .ite 30
 (.ret [10,2,3])
 (.step (.cell 2 18)<|
 .step (.cell 2 25)<|
 .step (.upd 3 0 3 24 [19,22,31])<|
 .step (.upd 3 0 33 17 [26,28,32])<|
 .tail 127 [0,1,8,34,4])))))
 (.step (.idx 3 8)<|
 .step (.at 3 3 14)<|
 .step (.cell 0 15)<|
 .step (.idx 3 2)<|
 .step (.at 3 3 17)<|
 .step (.cell 0 18)<|
 .step (.bin .neq 16 19)<|
 .ite 20
 (.step (.bin .lss 16 19)<|
 .step (.un .not 21)<|
 .ite 22
 (.ret [10,2,3])
 (.step (.cell 1 15)<|
 .step (.cell 2 15)<|
 .step (.cell 1 18)<|
 .step (.cell 2 18)<|
 .step (.upd 3 0 3 17 [16,23,24])<|
 .step (.upd 3 0 27 14 [19,25,26])<|
 .tail 127 [0,1,8,28,4]))
 (.step (.cell 1 15)<|
 .step (.cell 1 18)<|
 .step (.bin .lss 21 22)<|
 .step (.un .not 23)<|
 .ite 24
 (.ret [10,2,3])
 (.step (.cell 2 15)<|
 .step (.cell 2 18)<|
 .step (.upd 3 0 3 17 [16,21,25])<|
 .step (.upd 3 0 27 14 [19,22,26])<|
 .tail 127 [0,1,8,28,4])))))
def d143:PDef:=.tree 25<|
 .step (.bin .lss 3 2)<|
 .ite 25
 (.step (.at 1 1 3)<|
 .step (.cell 0 26)<|
 .step (.ci .i64 1)<|
 .step (.bin .sub 28 0)<|
 .step (.call 140 [27,4,5,6,7,8,9,10,11,12,13,14,15,16,17,18,19,20,21,22,23,24,29] 0)<|
 .step (.call 140 [27,4,5,6,7,8,9,10,11,12,13,14,15,16,17,18,19,20,21,22,23,24,29] 1)<|
 .step (.bin .add 3 28)<|
 .tail 143 [0,1,2,32,4,31,6,7,8,9,10,11,12,13,14,15,16,17,18,19,20,21,22,23,24])
 (.step (.ci .i64 0)<|
 .ret [26,5])
def d112:PDef:=.tree 2<|
 .step (.ci .i64 0)<|
 .ret [2]
def d54:PDef:=.tree 4<|
 .step (.bin .lss 2 1)<|
 .ite 4
 (.step (.at 2 0 2)<|
 .step (.cell 0 5)<|
 .step (.cell 1 5)<|
 .step (.mk [6,7])<|
 .step (.call 55 [8] 0)<|
 .step (.bytes 9)<|
 .step (.app 1 1 3 10)<|
 .step (.slen 9)<|
 .step (.ci .i64 1)<|
 .step (.bin .add 2 13)<|
 .tail 54 [0,1,14,11])
 (.step (.ci .i64 0)<|
 .ret [5,3])
def d134:PDef:=.tree 4<|
 .step (.bin .lss 3 2)<|
 .ite 4
 (.step (.sidx 0 3)<|
 .step (.ci .u8 127)<|
 .step (.bin .and 5 6)<|
 .step (.conv .u64 7)<|
 .step (.ci .i64 7)<|
 .step (.bin .mul 9 3)<|
 .step (.bin .shl 8 10)<|
 .step (.bin .or 1 11)<|
 .step (.ci .u8 128)<|
 .step (.bin .geq 5 13)<|
 .ite 14
 (.step (.ci .i64 1)<|
 .step (.bin .add 3 15)<|
 .tail 134 [0,12,2,16])
 (.step (.ci .i64 9)<|
 .step (.bin .eql 3 15)<|
 .ite 16
 (.step (.ci .u8 1)<|
 .step (.bin .gtr 5 17)<|
 .ite 18
 (.step (.ci .u64 0)<|
 .step (.ci .i64 0)<|
 .step (.ci .i64 3)<|
 .ret [20,19,20,21])
 (.step (.ci .i64 0)<|
 .step (.bin .gtr 3 19)<|
 .ite 20
 (.step (.ci .u8 0)<|
 .step (.bin .eql 5 21)<|
 .ite 22
 (.step (.ci .u64 0)<|
 .step (.ci .i64 2)<|
 .ret [19,23,19,24])
 (.step (.ci .i64 1)<|
 .step (.bin .add 3 23)<|
 .ret [19,12,24,19]))
 (.step (.ci .i64 1)<|
 .step (.bin .add 3 21)<|
 .ret [19,12,22,19])))
 (.step (.ci .i64 0)<|
 .step (.bin .gtr 3 17)<|
 .ite 18
 (.step (.ci .u8 0)<|
 .step (.bin .eql 5 19)<|
 .ite 20
 (.step (.ci .u64 0)<|
 .step (.ci .i64 2)<|
 .ret [17,21,17,22])
 (.step (.ci .i64 1)<|
 .step (.bin .add 3 21)<|
 .ret [17,12,22,17]))
 (.step (.ci .i64 1)<|
 .step (.bin .add 3 19)<|
 .ret [17,12,20,17]))))
 (.step (.ci .i64 1)<|
 .ret [5,0])
def d76:PDef:=.tree 11<|
 .step (.bin .lss 5 4)<|
 .ite 11
 (.step (.at 4 0 5)<|
 .step (.cell 0 12)<|
 .step (.cell 1 12)<|
 .step (.cell 2 12)<|
 .step (.cell 3 12)<|
 .step (.bin .eql 6 13)<|
 .ite 17
 (.step (.ci .i64 0)<|
 .ret [18])
 (.step (.ci .i64 1)<|
 .step (.bin .add 5 18)<|
 .tail 76 [0,1,2,3,4,19,6,7,8,9,10]))
 (.step (.ci .i64 1)<|
 .ret [12])
def d86:PDef:=.tree 2<|
 .step (.len 0)<|
 .step (.bin .lss 1 2)<|
 .ite 3
 (.step (.idx 0 1)<|
 .step (.at 5 0 4)<|
 .step (.cell 0 5)<|
 .step (.ci .i64 1)<|
 .step (.bin .sub 1 7)<|
 .step (.idx 0 8)<|
 .step (.at 5 0 9)<|
 .step (.cell 0 10)<|
 .step (.bin .eql 6 11)<|
 .ite 12
 (.step (.ci .i64 0)<|
 .ret [13])
 (.step (.bin .add 1 7)<|
 .tail 86 [0,13]))
 (.step (.ci .i64 1)<|
 .ret [4])
def d92:PDef:=.tree 4<|
 .step (.bin .lss 3 2)<|
 .ite 4
 (.step (.at 5 1 3)<|
 .step (.cell 0 5)<|
 .step (.ci .u64 2)<|
 .step (.bin .shl 6 7)<|
 .step (.cell 1 5)<|
 .step (.conv .u64 9)<|
 .step (.bin .or 8 10)<|
 .step (.call 4 [11] 0)<|
 .step (.bytes 12)<|
 .step (.app 1 1 0 13)<|
 .step (.ci .i64 0)<|
 .step (.bin .eql 9 15)<|
 .ite 16
 (.step (.cell 2 5)<|
 .step (.call 4 [17] 0)<|
 .step (.bytes 18)<|
 .step (.app 1 1 14 19)<|
 .step (.ci .i64 1)<|
 .step (.bin .add 3 21)<|
 .tail 92 [20,1,2,22])
 (.step (.ci .i64 1)<|
 .step (.bin .eql 9 17)<|
 .ite 18
 (.step (.cell 3 5)<|
 .step (.slen 19)<|
 .step (.conv .u64 20)<|
 .step (.call 4 [21] 0)<|
 .step (.bytes 22)<|
 .step (.app 1 1 14 23)<|
 .step (.bytes 19)<|
 .step (.app 1 1 24 25)<|
 .step (.bin .add 3 17)<|
 .tail 92 [26,1,2,27])
 (.step (.ci .i64 2)<|
 .step (.bin .eql 9 19)<|
 .ite 20
 (.step (.cell 4 5)<|
 .step (.call 89 [21] 0)<|
 .step (.conv .u64 22)<|
 .step (.call 4 [23] 0)<|
 .step (.bytes 24)<|
 .step (.app 1 1 14 25)<|
 .step (.call 91 [26,21] 0)<|
 .step (.call 91 [26,21] 1)<|
 .step (.bin .add 3 17)<|
 .tail 92 [28,1,2,29])
 (.step (.bin .add 3 17)<|
 .tail 92 [14,1,2,21]))))
 (.step (.ci .i64 0)<|
 .ret [5,0])
def d94:PDef:=.tree 33<|
 .step (.bin .lss 3 2)<|
 .ite 33
 (.step (.at 1 1 3)<|
 .step (.cell 0 34)<|
 .step (.call 3 [35] 0)<|
 .step (.call 3 [35] 1)<|
 .step (.ci .i64 0)<|
 .step (.bin .eql 37 38)<|
 .ite 39
 (.step (.isi 0 0)<|
 .ite 40
 (.step (.ml [36])<|
 .step (.call 106 [4,41,8,9,10] 0)<|
 .step (.call 106 [4,41,8,9,10] 1)<|
 .step (.call 106 [4,41,8,9,10] 2)<|
 .step (.call 106 [4,41,8,9,10] 3)<|
 .step (.ci .i64 1)<|
 .step (.bin .add 3 46)<|
 .tail 94 [0,1,2,47,4,5,6,7,43,44,45,11,12,13,14,15,16,17,18,19,20,21,22,23,24,25,26,27,28,29,30,31,32])
 (.step (.isi 0 1)<|
 .ite 41
 (.step (.ml [36])<|
 .step (.call 106 [4,42,5,6,7] 0)<|
 .step (.call 106 [4,42,5,6,7] 1)<|
 .step (.call 106 [4,42,5,6,7] 2)<|
 .step (.call 106 [4,42,5,6,7] 3)<|
 .step (.ci .i64 1)<|
 .step (.bin .add 3 47)<|
 .tail 94 [0,1,2,48,4,44,45,46,8,9,10,11,12,13,14,15,16,17,18,19,20,21,22,23,24,25,26,27,28,29,30,31,32])
 (.dead)))
 (.step (.ci .i64 1)<|
 .step (.bin .add 3 40)<|
 .tail 94 [0,1,2,41,4,5,6,7,8,9,10,11,12,13,14,15,16,17,18,19,20,21,22,23,24,25,26,27,28,29,30,31,32]))
 (.step (.ci .i64 0)<|
 .ret [34,5,6,7,8,9,10])
def d7:PDef:=.tree 4<|
 .step (.bin .lss 3 2)<|
 .ite 4
 (.step (.ci .u64 127)<|
 .step (.bin .and 0 5)<|
 .step (.conv .u8 6)<|
 .step (.ci .u8 128)<|
 .step (.bin .or 7 8)<|
 .step (.idx 1 3)<|
 .step (.upd 1 0 1 10 [9])<|
 .step (.ci .u64 7)<|
 .step (.bin .shr 0 12)<|
 .step (.ci .i64 1)<|
 .step (.bin .add 3 14)<|
 .tail 7 [13,11,2,15])
 (.step (.ci .i64 0)<|
 .ret [5,1])
def d85:PDef:=.tree 4<|
 .step (.bin .lss 3 2)<|
 .ite 4
 (.step (.at 1 1 3)<|
 .step (.cell 0 5)<|
 .step (.call 72 [6] 0)<|
 .step (.ci .i64 0)<|
 .step (.bin .neq 7 8)<|
 .ite 9
 (.ret [8,7])
 (.step (.app 5 64 0 6)<|
 .step (.ci .i64 1)<|
 .step (.bin .add 3 11)<|
 .tail 85 [10,1,2,12]))
 (.step (.ci .i64 1)<|
 .ret [5,0])
def d102:PDef:=.tree 3<|
 .step (.ci .i64 1)<|
 .step (.bin .sub 0 3)<|
 .step (.ci .i64 2)<|
 .step (.bin .quo 4 5)<|
 .step (.bin .eql 6 0)<|
 .ite 7
 (.step (.ci .i64 0)<|
 .ret [8,1])
 (.step (.idx 1 0)<|
 .step (.at 3 1 8)<|
 .step (.cell 0 9)<|
 .step (.idx 1 6)<|
 .step (.at 3 1 11)<|
 .step (.cell 0 12)<|
 .step (.bin .neq 10 13)<|
 .ite 14
 (.step (.bin .lss 10 13)<|
 .step (.un .not 15)<|
 .ite 16
 (.step (.ci .i64 0)<|
 .ret [17,1])
 (.step (.cell 1 9)<|
 .step (.cell 2 9)<|
 .step (.cell 1 12)<|
 .step (.cell 2 12)<|
 .step (.upd 3 0 1 11 [10,17,18])<|
 .step (.upd 3 0 21 8 [13,19,20])<|
 .tail 102 [6,22,2]))
 (.step (.cell 1 9)<|
 .step (.cell 1 12)<|
 .step (.bin .lss 15 16)<|
 .step (.un .not 17)<|
 .ite 18
 (.step (.ci .i64 0)<|
 .ret [19,1])
 (.step (.cell 2 9)<|
 .step (.cell 2 12)<|
 .step (.upd 3 0 1 11 [10,15,19])<|
 .step (.upd 3 0 21 8 [13,16,20])<|
 .tail 102 [6,22,2])))
def d47:PDef:=.tree 3<|
 .step (.bin .lss 2 1)<|
 .ite 3
 (.step (.at 2 0 2)<|
 .step (.cell 0 4)<|
 .step (.cell 1 4)<|
 .step (.mk [5,6])<|
 .step (.call 48 [7] 0)<|
 .step (.ci .i64 0)<|
 .step (.bin .neq 8 9)<|
 .ite 10
 (.ret [9,8])
 (.step (.bin .eql 2 9)<|
 .ite 11
 (.step (.ci .i64 1)<|
 .step (.bin .add 2 12)<|
 .tail 47 [0,1,13])
 (.step (.ci .i64 1)<|
 .step (.bin .sub 2 12)<|
 .step (.at 2 0 13)<|
 .step (.cell 0 14)<|
 .step (.bin .eql 5 15)<|
 .ite 16
 (.step (.ci .i64 14)<|
 .ret [9,17])
 (.step (.bin .lss 5 15)<|
 .ite 17
 (.step (.ci .i64 7)<|
 .ret [9,18])
 (.step (.bin .add 2 12)<|
 .tail 47 [0,1,18])))))
 (.step (.ci .i64 1)<|
 .ret [4])
def d38:PDef:=.tree 29<|
 .step (.bin .lss 3 2)<|
 .ite 29
 (.step (.at 1 1 3)<|
 .step (.cell 0 30)<|
 .step (.cs [])<|
 .step (.bin .eql 31 32)<|
 .step (.cb false)<|
 .step (.mget 34 4 31)<|
 .step (.cell 0 35)<|
 .step (.un .not 36)<|
 .ite 37
 (.step (.cs [114,101,109,97,105,110,105,110,103])<|
 .step (.bin .eql 31 38)<|
 .ite 39
 (.step (.ci .i64 0)<|
 .step (.bin .eql 21 40)<|
 .step (.un .not 41)<|
 .ite 42
 (.ret [40])
 (.step (.ci .i64 1)<|
 .step (.bin .add 3 43)<|
 .tail 38 [0,1,2,44,4,5,6,7,8,9,10,11,12,13,14,15,16,17,18,19,20,21,22,23,24,25,26,27,28]))
 (.step (.cs [97,108,108,111,119,101,100])<|
 .step (.bin .eql 31 40)<|
 .ite 41
 (.step (.un .not 22)<|
 .step (.un .not 42)<|
 .ite 43
 (.step (.ci .i64 0)<|
 .ret [44])
 (.step (.ci .i64 1)<|
 .step (.bin .add 3 44)<|
 .tail 38 [0,1,2,45,4,5,6,7,8,9,10,11,12,13,14,15,16,17,18,19,20,21,22,23,24,25,26,27,28]))
 (.step (.cs [110,97,109,101])<|
 .step (.bin .eql 31 42)<|
 .ite 43
 (.step (.bin .eql 23 32)<|
 .step (.un .not 44)<|
 .ite 45
 (.step (.ci .i64 0)<|
 .ret [46])
 (.step (.ci .i64 1)<|
 .step (.bin .add 3 46)<|
 .tail 38 [0,1,2,47,4,5,6,7,8,9,10,11,12,13,14,15,16,17,18,19,20,21,22,23,24,25,26,27,28]))
 (.step (.cs [114,101,103,105,111,110])<|
 .step (.bin .eql 31 44)<|
 .ite 45
 (.step (.bin .eql 24 32)<|
 .step (.un .not 46)<|
 .ite 47
 (.step (.ci .i64 0)<|
 .ret [48])
 (.step (.ci .i64 1)<|
 .step (.bin .add 3 48)<|
 .tail 38 [0,1,2,49,4,5,6,7,8,9,10,11,12,13,14,15,16,17,18,19,20,21,22,23,24,25,26,27,28]))
 (.step (.cs [110,111,116,101])<|
 .step (.bin .eql 31 46)<|
 .ite 47
 (.step (.bin .eql 25 32)<|
 .step (.un .not 48)<|
 .ite 49
 (.step (.ci .i64 0)<|
 .ret [50])
 (.step (.ci .i64 1)<|
 .step (.bin .add 3 50)<|
 .tail 38 [0,1,2,51,4,5,6,7,8,9,10,11,12,13,14,15,16,17,18,19,20,21,22,23,24,25,26,27,28]))
 (.step (.cs [100,101,115,99,114])<|
 .step (.bin .eql 31 48)<|
 .ite 49
 (.step (.len 26)<|
 .step (.ci .i64 0)<|
 .step (.bin .eql 50 51)<|
 .step (.un .not 52)<|
 .ite 53
 (.ret [51])
 (.step (.ci .i64 1)<|
 .step (.bin .add 3 54)<|
 .tail 38 [0,1,2,55,4,5,6,7,8,9,10,11,12,13,14,15,16,17,18,19,20,21,22,23,24,25,26,27,28]))
 (.step (.cs [116,97,98,108,101])<|
 .step (.bin .eql 31 50)<|
 .ite 51
 (.step (.len 27)<|
 .step (.ci .i64 0)<|
 .step (.bin .eql 52 53)<|
 .step (.un .not 54)<|
 .ite 55
 (.ret [53])
 (.step (.ci .i64 1)<|
 .step (.bin .add 3 56)<|
 .tail 38 [0,1,2,57,4,5,6,7,8,9,10,11,12,13,14,15,16,17,18,19,20,21,22,23,24,25,26,27,28]))
 (.step (.cs [105,100])<|
 .step (.bin .eql 31 52)<|
 .ite 53
 (.step (.ci .u64 0)<|
 .step (.bin .eql 6 54)<|
 .step (.un .not 55)<|
 .ite 56
 (.step (.ci .i64 0)<|
 .ret [57])
 (.step (.ci .i64 1)<|
 .step (.bin .add 3 57)<|
 .tail 38 [0,1,2,58,4,5,6,7,8,9,10,11,12,13,14,15,16,17,18,19,20,21,22,23,24,25,26,27,28]))
 (.step (.cs [109,105,110])<|
 .step (.bin .eql 31 54)<|
 .ite 55
 (.step (.ci .u64 0)<|
 .step (.bin .eql 7 56)<|
 .step (.un .not 57)<|
 .ite 58
 (.step (.ci .i64 0)<|
 .ret [59])
 (.step (.ci .i64 1)<|
 .step (.bin .add 3 59)<|
 .tail 38 [0,1,2,60,4,5,6,7,8,9,10,11,12,13,14,15,16,17,18,19,20,21,22,23,24,25,26,27,28]))
 (.step (.cs [109,97,120])<|
 .step (.bin .eql 31 56)<|
 .ite 57
 (.step (.ci .u64 0)<|
 .step (.bin .eql 8 58)<|
 .step (.un .not 59)<|
 .ite 60
 (.step (.ci .i64 0)<|
 .ret [61])
 (.step (.ci .i64 1)<|
 .step (.bin .add 3 61)<|
 .tail 38 [0,1,2,62,4,5,6,7,8,9,10,11,12,13,14,15,16,17,18,19,20,21,22,23,24,25,26,27,28]))
 (.step (.cs [99,104,111,115,101,110])<|
 .step (.bin .eql 31 58)<|
 .ite 59
 (.step (.ci .u64 0)<|
 .step (.bin .eql 9 60)<|
 .step (.un .not 61)<|
 .ite 62
 (.step (.ci .i64 0)<|
 .ret [63])
 (.step (.ci .i64 1)<|
 .step (.bin .add 3 63)<|
 .tail 38 [0,1,2,64,4,5,6,7,8,9,10,11,12,13,14,15,16,17,18,19,20,21,22,23,24,25,26,27,28]))
 (.step (.cs [102,108,97,103,115])<|
 .step (.bin .eql 31 60)<|
 .ite 61
 (.step (.ci .u64 0)<|
 .step (.bin .eql 10 62)<|
 .step (.un .not 63)<|
 .ite 64
 (.step (.ci .i64 0)<|
 .ret [65])
 (.step (.ci .i64 1)<|
 .step (.bin .add 3 65)<|
 .tail 38 [0,1,2,66,4,5,6,7,8,9,10,11,12,13,14,15,16,17,18,19,20,21,22,23,24,25,26,27,28]))
 (.step (.cs [99,111,115,116])<|
 .step (.bin .eql 31 62)<|
 .ite 63
 (.step (.ci .u64 0)<|
 .step (.bin .eql 11 64)<|
 .step (.un .not 65)<|
 .ite 66
 (.step (.ci .i64 0)<|
 .ret [67])
 (.step (.ci .i64 1)<|
 .step (.bin .add 3 67)<|
 .tail 38 [0,1,2,68,4,5,6,7,8,9,10,11,12,13,14,15,16,17,18,19,20,21,22,23,24,25,26,27,28]))
 (.step (.cs [112,114,105,111,114,105,116,121])<|
 .step (.bin .eql 31 64)<|
 .ite 65
 (.step (.ci .u64 0)<|
 .step (.bin .eql 12 66)<|
 .step (.un .not 67)<|
 .ite 68
 (.step (.ci .i64 0)<|
 .ret [69])
 (.step (.ci .i64 1)<|
 .step (.bin .add 3 69)<|
 .tail 38 [0,1,2,70,4,5,6,7,8,9,10,11,12,13,14,15,16,17,18,19,20,21,22,23,24,25,26,27,28]))
 (.step (.cs [100,101,97,100,108,105,110,101])<|
 .step (.bin .eql 31 66)<|
 .ite 67
 (.step (.ci .u64 0)<|
 .step (.bin .eql 13 68)<|
 .step (.un .not 69)<|
 .ite 70
 (.step (.ci .i64 0)<|
 .ret [71])
 (.step (.ci .i64 1)<|
 .step (.bin .add 3 71)<|
 .tail 38 [0,1,2,72,4,5,6,7,8,9,10,11,12,13,14,15,16,17,18,19,20,21,22,23,24,25,26,27,28]))
 (.step (.cs [114,101,116,114,121])<|
 .step (.bin .eql 31 68)<|
 .ite 69
 (.step (.ci .u64 0)<|
 .step (.bin .eql 14 70)<|
 .step (.un .not 71)<|
 .ite 72
 (.step (.ci .i64 0)<|
 .ret [73])
 (.step (.ci .i64 1)<|
 .step (.bin .add 3 73)<|
 .tail 38 [0,1,2,74,4,5,6,7,8,9,10,11,12,13,14,15,16,17,18,19,20,21,22,23,24,25,26,27,28]))
 (.step (.cs [101,112,111,99,104])<|
 .step (.bin .eql 31 70)<|
 .ite 71
 (.step (.ci .u64 0)<|
 .step (.bin .eql 15 72)<|
 .step (.un .not 73)<|
 .ite 74
 (.step (.ci .i64 0)<|
 .ret [75])
 (.step (.ci .i64 1)<|
 .step (.bin .add 3 75)<|
 .tail 38 [0,1,2,76,4,5,6,7,8,9,10,11,12,13,14,15,16,17,18,19,20,21,22,23,24,25,26,27,28]))
 (.step (.cs [98,97,115,101])<|
 .step (.bin .eql 31 72)<|
 .ite 73
 (.step (.ci .u64 0)<|
 .step (.bin .eql 16 74)<|
 .step (.un .not 75)<|
 .ite 76
 (.step (.ci .i64 0)<|
 .ret [77])
 (.step (.ci .i64 1)<|
 .step (.bin .add 3 77)<|
 .tail 38 [0,1,2,78,4,5,6,7,8,9,10,11,12,13,14,15,16,17,18,19,20,21,22,23,24,25,26,27,28]))
 (.step (.cs [100,105,103,101,115,116])<|
 .step (.bin .eql 31 74)<|
 .ite 75
 (.step (.ci .u64 0)<|
 .step (.bin .eql 17 76)<|
 .step (.un .not 77)<|
 .ite 78
 (.step (.ci .i64 0)<|
 .ret [79])
 (.step (.ci .i64 1)<|
 .step (.bin .add 3 79)<|
 .tail 38 [0,1,2,80,4,5,6,7,8,9,10,11,12,13,14,15,16,17,18,19,20,21,22,23,24,25,26,27,28]))
 (.step (.cs [108,97,103])<|
 .step (.bin .eql 31 76)<|
 .ite 77
 (.step (.ci .u64 0)<|
 .step (.bin .eql 18 78)<|
 .step (.un .not 79)<|
 .ite 80
 (.step (.ci .i64 0)<|
 .ret [81])
 (.step (.ci .i64 1)<|
 .step (.bin .add 3 81)<|
 .tail 38 [0,1,2,82,4,5,6,7,8,9,10,11,12,13,14,15,16,17,18,19,20,21,22,23,24,25,26,27,28]))
 (.step (.cs [99,111,100,101])<|
 .step (.bin .eql 31 78)<|
 .ite 79
 (.step (.ci .u64 0)<|
 .step (.bin .eql 19 80)<|
 .step (.un .not 81)<|
 .ite 82
 (.step (.ci .i64 0)<|
 .ret [83])
 (.step (.ci .i64 1)<|
 .step (.bin .add 3 83)<|
 .tail 38 [0,1,2,84,4,5,6,7,8,9,10,11,12,13,14,15,16,17,18,19,20,21,22,23,24,25,26,27,28]))
 (.step (.cs [119,97,110,116])<|
 .step (.bin .eql 31 80)<|
 .ite 81
 (.step (.ci .u64 0)<|
 .step (.bin .eql 20 82)<|
 .step (.un .not 83)<|
 .ite 84
 (.step (.ci .i64 0)<|
 .ret [85])
 (.step (.ci .i64 1)<|
 .step (.bin .add 3 85)<|
 .tail 38 [0,1,2,86,4,5,6,7,8,9,10,11,12,13,14,15,16,17,18,19,20,21,22,23,24,25,26,27,28]))
 (.step (.ci .i64 1)<|
 .step (.bin .add 3 82)<|
 .tail 38 [0,1,2,83,4,5,6,7,8,9,10,11,12,13,14,15,16,17,18,19,20,21,22,23,24,25,26,27,28])))))))))))))))))))))))
 (.step (.ci .i64 1)<|
 .step (.bin .add 3 38)<|
 .tail 38 [0,1,2,39,4,5,6,7,8,9,10,11,12,13,14,15,16,17,18,19,20,21,22,23,24,25,26,27,28]))
 (.step (.ci .i64 1)<|
 .ret [30])
def d115:PDef:=.tree 5<|
 .step (.bin .lss 2 1)<|
 .ite 5
 (.step (.at 2 0 2)<|
 .step (.cell 0 6)<|
 .step (.cell 1 6)<|
 .step (.call 116 [7] 0)<|
 .step (.mk [9,8])<|
 .step (.ml [10])<|
 .step (.app 2 32 4 11)<|
 .step (.ci .i64 1)<|
 .step (.bin .add 2 13)<|
 .tail 115 [0,1,14,3,12])
 (.step (.ci .i64 0)<|
 .ret [6,4])
def d142:PDef:=.tree 22<|
 .step (.ci .i64 2)<|
 .step (.bin .lss 0 22)<|
 .ite 23
 (.step (.isi 0 0)<|
 .ite 24
 (.step (.call 122 [1,7,8] 0)<|
 .step (.call 122 [1,7,8] 1)<|
 .step (.call 122 [1,7,8] 2)<|
 .step (.len 26)<|
 .step (.ci .i64 0)<|
 .step (.call 143 [0,26,28,29,1,2,3,4,5,6,27,8,9,10,11,12,13,14,15,16,17,18,19,20,21] 0)<|
 .step (.call 143 [0,26,28,29,1,2,3,4,5,6,27,8,9,10,11,12,13,14,15,16,17,18,19,20,21] 1)<|
 .step (.ci .i64 1)<|
 .step (.bin .add 0 32)<|
 .tail 142 [33,1,31,3,4,5,6,27,8,9,10,11,12,13,14,15,16,17,18,19,20,21])
 (.step (.isi 0 1)<|
 .ite 25
 (.step (.call 122 [1,4,5] 0)<|
 .step (.call 122 [1,4,5] 1)<|
 .step (.call 122 [1,4,5] 2)<|
 .step (.len 27)<|
 .step (.ci .i64 0)<|
 .step (.call 143 [0,27,29,30,1,2,3,28,5,6,7,8,9,10,11,12,13,14,15,16,17,18,19,20,21] 0)<|
 .step (.call 143 [0,27,29,30,1,2,3,28,5,6,7,8,9,10,11,12,13,14,15,16,17,18,19,20,21] 1)<|
 .step (.ci .i64 1)<|
 .step (.bin .add 0 33)<|
 .tail 142 [34,1,32,3,28,5,6,7,8,9,10,11,12,13,14,15,16,17,18,19,20,21])
 (.dead)))
 (.step (.ci .i64 0)<|
 .ret [24,2,4,7])
def d39:PDef:=.tree 27<|
 .step (.bin .lss 2 1)<|
 .ite 27
 (.step (.at 4 0 2)<|
 .step (.cell 0 28)<|
 .step (.cell 1 28)<|
 .step (.cell 2 28)<|
 .step (.cell 3 28)<|
 .step (.cs [114,101,109,97,105,110,105,110,103])<|
 .step (.bin .eql 32 33)<|
 .ite 34
 (.step (.call 40 [3,4,5,6,7,8,9,10,11,12,13,14,15,16,17,18,19,20,21,22,23,24,25,26] 0)<|
 .step (.ci .i64 1)<|
 .step (.bin .add 2 36)<|
 .tail 39 [0,1,37,3,4,5,6,7,8,9,10,11,12,13,14,15,16,17,18,19,20,21,22,23,24,25,26])
 (.step (.cs [97,108,108,111,119,101,100])<|
 .step (.bin .eql 32 35)<|
 .ite 36
 (.step (.call 41 [3,4,5,6,7,8,9,10,11,12,13,14,15,16,17,18,19,20,21,22,23,24,25,26] 0)<|
 .step (.ci .i64 1)<|
 .step (.bin .add 2 38)<|
 .tail 39 [0,1,39,3,4,5,6,7,8,9,10,11,12,13,14,15,16,17,18,19,20,21,22,23,24,25,26])
 (.step (.cs [110,97,109,101])<|
 .step (.bin .eql 32 37)<|
 .ite 38
 (.step (.call 42 [3,4,5,6,7,8,9,10,11,12,13,14,15,16,17,18,19,20,21,22,23,24,25,26] 0)<|
 .step (.call 42 [3,4,5,6,7,8,9,10,11,12,13,14,15,16,17,18,19,20,21,22,23,24,25,26] 1)<|
 .step (.ci .i64 0)<|
 .step (.bin .neq 40 41)<|
 .ite 42
 (.ret [41,40])
 (.step (.ci .i64 1)<|
 .step (.bin .add 2 43)<|
 .tail 39 [0,1,44,3,4,5,6,7,8,9,10,11,12,13,14,15,16,17,18,19,20,21,22,23,24,25,26]))
 (.step (.cs [114,101,103,105,111,110])<|
 .step (.bin .eql 32 39)<|
 .ite 40
 (.step (.call 43 [3,4,5,6,7,8,9,10,11,12,13,14,15,16,17,18,19,20,21,22,23,24,25,26] 0)<|
 .step (.call 43 [3,4,5,6,7,8,9,10,11,12,13,14,15,16,17,18,19,20,21,22,23,24,25,26] 1)<|
 .step (.ci .i64 0)<|
 .step (.bin .neq 42 43)<|
 .ite 44
 (.ret [43,42])
 (.step (.ci .i64 1)<|
 .step (.bin .add 2 45)<|
 .tail 39 [0,1,46,3,4,5,6,7,8,9,10,11,12,13,14,15,16,17,18,19,20,21,22,23,24,25,26]))
 (.step (.cs [110,111,116,101])<|
 .step (.bin .eql 32 41)<|
 .ite 42
 (.step (.call 44 [3,4,5,6,7,8,9,10,11,12,13,14,15,16,17,18,19,20,21,22,23,24,25,26] 0)<|
 .step (.call 44 [3,4,5,6,7,8,9,10,11,12,13,14,15,16,17,18,19,20,21,22,23,24,25,26] 1)<|
 .step (.ci .i64 0)<|
 .step (.bin .neq 44 45)<|
 .ite 46
 (.ret [45,44])
 (.step (.ci .i64 1)<|
 .step (.bin .add 2 47)<|
 .tail 39 [0,1,48,3,4,5,6,7,8,9,10,11,12,13,14,15,16,17,18,19,20,21,22,23,24,25,26]))
 (.step (.cs [100,101,115,99,114])<|
 .step (.bin .eql 32 43)<|
 .ite 44
 (.step (.call 45 [3,4,5,6,7,8,9,10,11,12,13,14,15,16,17,18,19,20,21,22,23,24,25,26] 0)<|
 .step (.call 45 [3,4,5,6,7,8,9,10,11,12,13,14,15,16,17,18,19,20,21,22,23,24,25,26] 1)<|
 .step (.ci .i64 0)<|
 .step (.bin .neq 46 47)<|
 .ite 48
 (.ret [47,46])
 (.step (.ci .i64 1)<|
 .step (.bin .add 2 49)<|
 .tail 39 [0,1,50,3,4,5,6,7,8,9,10,11,12,13,14,15,16,17,18,19,20,21,22,23,24,25,26]))
 (.step (.cs [116,97,98,108,101])<|
 .step (.bin .eql 32 45)<|
 .ite 46
 (.step (.call 49 [3,4,5,6,7,8,9,10,11,12,13,14,15,16,17,18,19,20,21,22,23,24,25,26] 0)<|
 .step (.call 49 [3,4,5,6,7,8,9,10,11,12,13,14,15,16,17,18,19,20,21,22,23,24,25,26] 1)<|
 .step (.ci .i64 0)<|
 .step (.bin .neq 48 49)<|
 .ite 50
 (.ret [49,48])
 (.step (.ci .i64 1)<|
 .step (.bin .add 2 51)<|
 .tail 39 [0,1,52,3,4,5,6,7,8,9,10,11,12,13,14,15,16,17,18,19,20,21,22,23,24,25,26]))
 (.step (.cs [105,100])<|
 .step (.bin .eql 32 47)<|
 .ite 48
 (.step (.call 56 [3,4,5,6,7,8,9,10,11,12,13,14,15,16,17,18,19,20,21,22,23,24,25,26] 0)<|
 .step (.ci .i64 1)<|
 .step (.bin .add 2 50)<|
 .tail 39 [0,1,51,3,4,5,6,7,8,9,10,11,12,13,14,15,16,17,18,19,20,21,22,23,24,25,26])
 (.step (.cs [109,105,110])<|
 .step (.bin .eql 32 49)<|
 .ite 50
 (.step (.call 57 [3,4,5,6,7,8,9,10,11,12,13,14,15,16,17,18,19,20,21,22,23,24,25,26] 0)<|
 .step (.ci .i64 1)<|
 .step (.bin .add 2 52)<|
 .tail 39 [0,1,53,3,4,5,6,7,8,9,10,11,12,13,14,15,16,17,18,19,20,21,22,23,24,25,26])
 (.step (.cs [109,97,120])<|
 .step (.bin .eql 32 51)<|
 .ite 52
 (.step (.call 58 [3,4,5,6,7,8,9,10,11,12,13,14,15,16,17,18,19,20,21,22,23,24,25,26] 0)<|
 .step (.ci .i64 1)<|
 .step (.bin .add 2 54)<|
 .tail 39 [0,1,55,3,4,5,6,7,8,9,10,11,12,13,14,15,16,17,18,19,20,21,22,23,24,25,26])
 (.step (.cs [99,104,111,115,101,110])<|
 .step (.bin .eql 32 53)<|
 .ite 54
 (.step (.call 59 [3,4,5,6,7,8,9,10,11,12,13,14,15,16,17,18,19,20,21,22,23,24,25,26] 0)<|
 .step (.ci .i64 1)<|
 .step (.bin .add 2 56)<|
 .tail 39 [0,1,57,3,4,5,6,7,8,9,10,11,12,13,14,15,16,17,18,19,20,21,22,23,24,25,26])
 (.step (.cs [102,108,97,103,115])<|
 .step (.bin .eql 32 55)<|
 .ite 56
 (.step (.call 60 [3,4,5,6,7,8,9,10,11,12,13,14,15,16,17,18,19,20,21,22,23,24,25,26] 0)<|
 .step (.ci .i64 1)<|
 .step (.bin .add 2 58)<|
 .tail 39 [0,1,59,3,4,5,6,7,8,9,10,11,12,13,14,15,16,17,18,19,20,21,22,23,24,25,26])
 (.step (.cs [99,111,115,116])<|
 .step (.bin .eql 32 57)<|
 .ite 58
 (.step (.call 61 [3,4,5,6,7,8,9,10,11,12,13,14,15,16,17,18,19,20,21,22,23,24,25,26] 0)<|
 .step (.ci .i64 1)<|
 .step (.bin .add 2 60)<|
 .tail 39 [0,1,61,3,4,5,6,7,8,9,10,11,12,13,14,15,16,17,18,19,20,21,22,23,24,25,26])
 (.step (.cs [112,114,105,111,114,105,116,121])<|
 .step (.bin .eql 32 59)<|
 .ite 60
 (.step (.call 62 [3,4,5,6,7,8,9,10,11,12,13,14,15,16,17,18,19,20,21,22,23,24,25,26] 0)<|
 .step (.ci .i64 1)<|
 .step (.bin .add 2 62)<|
 .tail 39 [0,1,63,3,4,5,6,7,8,9,10,11,12,13,14,15,16,17,18,19,20,21,22,23,24,25,26])
 (.step (.cs [100,101,97,100,108,105,110,101])<|
 .step (.bin .eql 32 61)<|
 .ite 62
 (.step (.call 63 [3,4,5,6,7,8,9,10,11,12,13,14,15,16,17,18,19,20,21,22,23,24,25,26] 0)<|
 .step (.ci .i64 1)<|
 .step (.bin .add 2 64)<|
 .tail 39 [0,1,65,3,4,5,6,7,8,9,10,11,12,13,14,15,16,17,18,19,20,21,22,23,24,25,26])
 (.step (.cs [114,101,116,114,121])<|
 .step (.bin .eql 32 63)<|
 .ite 64
 (.step (.call 64 [3,4,5,6,7,8,9,10,11,12,13,14,15,16,17,18,19,20,21,22,23,24,25,26] 0)<|
 .step (.ci .i64 1)<|
 .step (.bin .add 2 66)<|
 .tail 39 [0,1,67,3,4,5,6,7,8,9,10,11,12,13,14,15,16,17,18,19,20,21,22,23,24,25,26])
 (.step (.cs [101,112,111,99,104])<|
 .step (.bin .eql 32 65)<|
 .ite 66
 (.step (.call 65 [3,4,5,6,7,8,9,10,11,12,13,14,15,16,17,18,19,20,21,22,23,24,25,26] 0)<|
 .step (.ci .i64 1)<|
 .step (.bin .add 2 68)<|
 .tail 39 [0,1,69,3,4,5,6,7,8,9,10,11,12,13,14,15,16,17,18,19,20,21,22,23,24,25,26])
 (.step (.cs [98,97,115,101])<|
 .step (.bin .eql 32 67)<|
 .ite 68
 (.step (.call 66 [3,4,5,6,7,8,9,10,11,12,13,14,15,16,17,18,19,20,21,22,23,24,25,26] 0)<|
 .step (.ci .i64 1)<|
 .step (.bin .add 2 70)<|
 .tail 39 [0,1,71,3,4,5,6,7,8,9,10,11,12,13,14,15,16,17,18,19,20,21,22,23,24,25,26])
 (.step (.cs [100,105,103,101,115,116])<|
 .step (.bin .eql 32 69)<|
 .ite 70
 (.step (.call 67 [3,4,5,6,7,8,9,10,11,12,13,14,15,16,17,18,19,20,21,22,23,24,25,26] 0)<|
 .step (.ci .i64 1)<|
 .step (.bin .add 2 72)<|
 .tail 39 [0,1,73,3,4,5,6,7,8,9,10,11,12,13,14,15,16,17,18,19,20,21,22,23,24,25,26])
 (.step (.cs [108,97,103])<|
 .step (.bin .eql 32 71)<|
 .ite 72
 (.step (.call 68 [3,4,5,6,7,8,9,10,11,12,13,14,15,16,17,18,19,20,21,22,23,24,25,26] 0)<|
 .step (.ci .i64 1)<|
 .step (.bin .add 2 74)<|
 .tail 39 [0,1,75,3,4,5,6,7,8,9,10,11,12,13,14,15,16,17,18,19,20,21,22,23,24,25,26])
 (.step (.cs [99,111,100,101])<|
 .step (.bin .eql 32 73)<|
 .ite 74
 (.step (.call 69 [3,4,5,6,7,8,9,10,11,12,13,14,15,16,17,18,19,20,21,22,23,24,25,26] 0)<|
 .step (.ci .i64 1)<|
 .step (.bin .add 2 76)<|
 .tail 39 [0,1,77,3,4,5,6,7,8,9,10,11,12,13,14,15,16,17,18,19,20,21,22,23,24,25,26])
 (.step (.cs [119,97,110,116])<|
 .step (.bin .eql 32 75)<|
 .ite 76
 (.step (.call 70 [3,4,5,6,7,8,9,10,11,12,13,14,15,16,17,18,19,20,21,22,23,24,25,26] 0)<|
 .step (.ci .i64 1)<|
 .step (.bin .add 2 78)<|
 .tail 39 [0,1,79,3,4,5,6,7,8,9,10,11,12,13,14,15,16,17,18,19,20,21,22,23,24,25,26])
 (.step (.call 71 [] 0)<|
 .step (.ci .i64 1)<|
 .step (.bin .add 2 78)<|
 .tail 39 [0,1,79,3,4,5,6,7,8,9,10,11,12,13,14,15,16,17,18,19,20,21,22,23,24,25,26])))))))))))))))))))))))
 (.step (.ci .i64 1)<|
 .ret [28])
def d83:PDef:=.tree 3<|
 .step (.slen 0)<|
 .step (.bin .lss 2 3)<|
 .ite 4
 (.step (.slen 1)<|
 .step (.bin .lss 2 5)<|
 .ite 6
 (.step (.sidx 0 2)<|
 .step (.sidx 1 2)<|
 .step (.bin .eql 7 8)<|
 .ite 9
 (.step (.ci .i64 1)<|
 .step (.bin .add 2 10)<|
 .tail 83 [0,1,11])
 (.step (.ci .i64 0)<|
 .ret [10,2]))
 (.step (.ci .i64 0)<|
 .ret [7,2]))
 (.step (.ci .i64 0)<|
 .ret [5,2])
def d147:PDef:=.tree 25<|
 .ite 2
 (.step (.bin .leq 1 4)<|
 .ite 25
 (.step (.call 141 [4,5,6,7,8,9,10,11,12,13,14,15,16,17,18,19,20,21,22,23,24] 0)<|
 .step (.call 141 [4,5,6,7,8,9,10,11,12,13,14,15,16,17,18,19,20,21,22,23,24] 1)<|
 .step (.call 141 [4,5,6,7,8,9,10,11,12,13,14,15,16,17,18,19,20,21,22,23,24] 2)<|
 .step (.call 141 [4,5,6,7,8,9,10,11,12,13,14,15,16,17,18,19,20,21,22,23,24] 3)<|
 .step (.len 29)<|
 .step (.ci .i64 0)<|
 .step (.bin .eql 30 31)<|
 .ite 32
 (.step (.len 28)<|
 .step (.bin .eql 33 31)<|
 .ite 34
 (.step (.ci .u64 0)<|
 .step (.cb false)<|
 .tail 147 [0,35,36,3,4,27,6,28,8,9,29,11,12,13,14,15,16,17,18,19,20,21,22,23,24])
 (.step (.idx 28 31)<|
 .step (.at 3 28 35)<|
 .step (.cell 0 36)<|
 .step (.cb true)<|
 .tail 147 [0,37,38,3,4,27,6,28,8,9,29,11,12,13,14,15,16,17,18,19,20,21,22,23,24]))
 (.step (.idx 29 31)<|
 .step (.at 3 29 33)<|
 .step (.cell 0 34)<|
 .step (.len 28)<|
 .step (.bin .eql 36 31)<|
 .ite 37
 (.step (.cb true)<|
 .tail 147 [0,35,38,3,4,27,6,28,8,9,29,11,12,13,14,15,16,17,18,19,20,21,22,23,24])
 (.step (.idx 28 31)<|
 .step (.at 3 28 38)<|
 .step (.cell 0 39)<|
 .step (.mm false 35 40)<|
 .step (.cb true)<|
 .tail 147 [0,41,42,3,4,27,6,28,8,9,29,11,12,13,14,15,16,17,18,19,20,21,22,23,24])))
 (.step (.ci .i64 0)<|
 .ret [26,1,5,7,10]))
 (.step (.ci .i64 1)<|
 .ret [25,5,7,10])
def d74:PDef:=.tree 5<|
 .step (.bin .lss 4 3)<|
 .ite 5
 (.step (.at 5 2 4)<|
 .step (.cell 0 6)<|
 .step (.cell 1 6)<|
 .step (.cell 2 6)<|
 .step (.cell 3 6)<|
 .step (.cell 4 6)<|
 .step (.ci .u64 0)<|
 .step (.bin .eql 7 12)<|
 .ite 13
 (.step (.ci .i64 18)<|
 .step (.ci .i64 0)<|
 .ret [15,14])
 (.step (.ci .u64 4294967296)<|
 .step (.bin .gtr 7 14)<|
 .ite 15
 (.step (.ci .i64 18)<|
 .step (.ci .i64 0)<|
 .ret [17,16])
 (.step (.bin .leq 7 1)<|
 .ite 16
 (.step (.ci .i64 7)<|
 .step (.ci .i64 0)<|
 .ret [18,17])
 (.step (.ci .i64 0)<|
 .step (.bin .eql 8 17)<|
 .ite 18
 (.step (.cs [])<|
 .step (.bin .eql 10 19)<|
 .ite 20
 (.step (.len 11)<|
 .step (.bin .eql 21 17)<|
 .step (.un .not 22)<|
 .ite 23
 (.step (.ci .i64 8)<|
 .ret [17,24])
 (.step (.ci .i64 2)<|
 .step (.bin .neq 8 24)<|
 .step (.ci .i64 1)<|
 .step (.bin .add 4 26)<|
 .tail 74 [0,7,2,3,27]))
 (.step (.ci .i64 8)<|
 .ret [17,21]))
 (.step (.ci .i64 1)<|
 .step (.bin .eql 8 19)<|
 .ite 20
 (.step (.bin .eql 9 12)<|
 .ite 21
 (.step (.len 11)<|
 .step (.bin .eql 22 17)<|
 .step (.un .not 23)<|
 .ite 24
 (.step (.ci .i64 8)<|
 .ret [17,25])
 (.step (.ci .i64 2)<|
 .step (.bin .neq 8 25)<|
 .step (.bin .add 4 19)<|
 .tail 74 [0,7,2,3,27]))
 (.step (.ci .i64 8)<|
 .ret [17,22]))
 (.step (.ci .i64 2)<|
 .step (.bin .eql 8 21)<|
 .ite 22
 (.step (.bin .eql 9 12)<|
 .ite 23
 (.step (.cs [])<|
 .step (.bin .eql 10 24)<|
 .step (.un .not 25)<|
 .ite 26
 (.step (.ci .i64 8)<|
 .ret [17,27])
 (.step (.bin .neq 8 21)<|
 .step (.ci .i64 8)<|
 .step (.bin .geq 0 28)<|
 .ite 29
 (.step (.ci .i64 9)<|
 .ret [17,30])
 (.step (.bin .add 0 19)<|
 .step (.call 73 [11,30] 0)<|
 .step (.bin .neq 31 17)<|
 .ite 32
 (.ret [17,31])
 (.step (.bin .add 4 19)<|
 .tail 74 [0,7,2,3,33]))))
 (.step (.ci .i64 8)<|
 .ret [17,24]))
 (.step (.ci .i64 8)<|
 .ret [17,23])))))))
 (.step (.ci .i64 1)<|
 .ret [6])
def d6:PDef:=.tree 2<|
 .step (.ci .u64 128)<|
 .step (.bin .geq 0 2)<|
 .ite 3
 (.step (.ci .u64 7)<|
 .step (.bin .shr 0 4)<|
 .step (.ci .i64 1)<|
 .step (.bin .add 1 6)<|
 .tail 6 [5,7])
 (.step (.ci .i64 0)<|
 .ret [4,1])
def Ds:List PDef:=[d0,d1,d2,d3,d4,d5,d6,d7,d8,d9,d10,d11,d12,d13,d14,d15,d16,d17,d18,d19,d20,d21,d22,d23,d24,d25,d26,d27,d28,d29,d30,d31,d32,d33,d34,d35,d36,d37,d38,d39,d40,d41,d42,d43,d44,d45,d46,d47,d48,d49,d50,d51,d52,d53,d54,d55,d56,d57,d58,d59,d60,d61,d62,d63,d64,d65,d66,d67,d68,d69,d70,d71,d72,d73,d74,d75,d76,d77,d78,d79,d80,d81,d82,d83,d84,d85,d86,d87,d88,d89,d90,d91,d92,d93,d94,.prim λ_=>none,.prim λ_=>none,.prim λ_=>none,.prim λ_=>none,.prim λ_=>none,.prim λ_=>none,d101,d102,d103,d104,d105,d106,d107,d108,d109,d110,d111,d112,d113,d114,d115,d116,.prim λ_=>none,.prim λ_=>none,.prim λ_=>none,.prim λ_=>none,.prim λ_=>none,d122,d123,d124,d125,d126,d127,.prim λ_=>none,.prim λ_=>none,d130,d131,d132,d133,d134,d135,d136,d137,d138,.prim λ_=>none,d140,d141,d142,d143,d144,d145,d146,d147]
noncomputable abbrev TT:PProg:=TofL Ds
end
end J
end Go.Proofs.YtilkjidelblkfaaGreatDoor
