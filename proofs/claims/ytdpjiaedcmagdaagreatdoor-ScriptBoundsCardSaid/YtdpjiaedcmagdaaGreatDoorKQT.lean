/- What functions and loops compute: trees of nodes, found by a driver. -/
import Derived.Test.YtdpjiaedcmagdaaGreatDoorAbsJ
import Derived.Test.YtdpjiaedcmagdaaGreatDoorAbsPl
import Derived.Test.YtdpjiaedcmagdaaGreatDoorAbsTold
import Derived.Test.YtdpjiaedcmagdaaGreatDoorAbsScr
import Derived.Test.YtdpjiaedcmagdaaGreatDoorAbsScr2
namespace Go.Proofs.YtdpjiaedcmagdaaGreatDoor
open Go Go.Abs
set_option maxRecDepth 100000
set_option linter.unusedVariables false
set_option linter.unusedSimpArgs false
namespace Q
noncomputable section
def d6:PDef:=.fn [.sc] [.sc]<|
 .step (.cs [32])<|
 .step (.call 7 [0,1] 0)<|
 .step (.cs [10])<|
 .step (.bin .add 2 3)<|
 .ret [4]
def d13:PDef:=.fn [.ag 5] [.sc,.sc]<|
 .step (.cell 0 0)<|
 .step (.cell 1 0)<|
 .step (.cell 2 0)<|
 .step (.cell 3 0)<|
 .step (.cell 4 0)<|
 .step (.ci .u8 5)<|
 .step (.bin .gtr 2 6)<|
 .ite 7
 (.step (.cs [])<|
 .step (.ci .i64 23)<|
 .ret [8,9])
 (.step (.ci .u8 3)<|
 .step (.bin .neq 2 8)<|
 .ite 9
 (.step (.bin .neq 2 6)<|
 .ite 10
 (.step (.ci .i64 0)<|
 .step (.bin .neq 3 11)<|
 .ite 12
 (.step (.ci .i64 1)<|
 .step (.bin .neq 3 13)<|
 .ite 14
 (.step (.cs [])<|
 .step (.ci .i64 18)<|
 .ret [15,16])
 (.step (.bin .eql 2 8)<|
 .step (.call 10 [3] 0)<|
 .step (.ci .u8 0)<|
 .step (.bin .eql 2 17)<|
 .ite 18
 (.step (.ci .i32 32)<|
 .step (.ci .i32 10)<|
 .step (.ml [19,20])<|
 .step (.call 14 [5,21] 0)<|
 .step (.un .not 22)<|
 .ite 23
 (.step (.cs [])<|
 .step (.ci .i64 23)<|
 .ret [24,25])
 (.step (.slen 5)<|
 .step (.ci .i64 64)<|
 .step (.bin .gtr 24 25)<|
 .ite 26
 (.step (.cs [])<|
 .step (.ci .i64 13)<|
 .ret [27,28])
 (.step (.call 4 [4] 0)<|
 .step (.cs [97,100,100])<|
 .step (.ml [28,16,5,27])<|
 .step (.call 6 [29] 0)<|
 .ret [30,11])))
 (.step (.ci .u8 1)<|
 .step (.bin .eql 2 19)<|
 .ite 20
 (.step (.call 4 [4] 0)<|
 .step (.cs [112,117,98,108,105,115,104])<|
 .step (.ml [22,16,21])<|
 .step (.call 6 [23] 0)<|
 .ret [24,11])
 (.step (.ci .u8 2)<|
 .step (.bin .eql 2 21)<|
 .ite 22
 (.step (.cs [112,111,108,108])<|
 .step (.ml [23,16])<|
 .step (.call 6 [24] 0)<|
 .ret [25,11])
 (.step (.ci .u8 4)<|
 .step (.bin .eql 2 23)<|
 .ite 24
 (.step (.cs [115,104,111,119])<|
 .step (.ml [25,16])<|
 .step (.call 6 [26] 0)<|
 .ret [27,11])
 (.step (.cs [97,108,108])<|
 .step (.ml [25])<|
 .step (.call 6 [26] 0)<|
 .ret [27,11]))))))
 (.step (.bin .eql 2 8)<|
 .step (.call 10 [3] 0)<|
 .step (.ci .u8 0)<|
 .step (.bin .eql 2 15)<|
 .ite 16
 (.step (.ci .i32 32)<|
 .step (.ci .i32 10)<|
 .step (.ml [17,18])<|
 .step (.call 14 [5,19] 0)<|
 .step (.un .not 20)<|
 .ite 21
 (.step (.cs [])<|
 .step (.ci .i64 23)<|
 .ret [22,23])
 (.step (.slen 5)<|
 .step (.ci .i64 64)<|
 .step (.bin .gtr 22 23)<|
 .ite 24
 (.step (.cs [])<|
 .step (.ci .i64 13)<|
 .ret [25,26])
 (.step (.call 4 [4] 0)<|
 .step (.cs [97,100,100])<|
 .step (.ml [26,14,5,25])<|
 .step (.call 6 [27] 0)<|
 .ret [28,11])))
 (.step (.ci .u8 1)<|
 .step (.bin .eql 2 17)<|
 .ite 18
 (.step (.call 4 [4] 0)<|
 .step (.cs [112,117,98,108,105,115,104])<|
 .step (.ml [20,14,19])<|
 .step (.call 6 [21] 0)<|
 .ret [22,11])
 (.step (.ci .u8 2)<|
 .step (.bin .eql 2 19)<|
 .ite 20
 (.step (.cs [112,111,108,108])<|
 .step (.ml [21,14])<|
 .step (.call 6 [22] 0)<|
 .ret [23,11])
 (.step (.ci .u8 4)<|
 .step (.bin .eql 2 21)<|
 .ite 22
 (.step (.cs [115,104,111,119])<|
 .step (.ml [23,14])<|
 .step (.call 6 [24] 0)<|
 .ret [25,11])
 (.step (.cs [97,108,108])<|
 .step (.ml [23])<|
 .step (.call 6 [24] 0)<|
 .ret [25,11]))))))
 (.step (.bin .eql 2 8)<|
 .step (.call 10 [3] 0)<|
 .step (.ci .u8 0)<|
 .step (.bin .eql 2 13)<|
 .ite 14
 (.step (.ci .i32 32)<|
 .step (.ci .i32 10)<|
 .step (.ml [15,16])<|
 .step (.call 14 [5,17] 0)<|
 .step (.un .not 18)<|
 .ite 19
 (.step (.cs [])<|
 .step (.ci .i64 23)<|
 .ret [20,21])
 (.step (.slen 5)<|
 .step (.ci .i64 64)<|
 .step (.bin .gtr 20 21)<|
 .ite 22
 (.step (.cs [])<|
 .step (.ci .i64 13)<|
 .ret [23,24])
 (.step (.call 4 [4] 0)<|
 .step (.cs [97,100,100])<|
 .step (.ml [24,12,5,23])<|
 .step (.call 6 [25] 0)<|
 .step (.ci .i64 0)<|
 .ret [26,27])))
 (.step (.ci .u8 1)<|
 .step (.bin .eql 2 15)<|
 .ite 16
 (.step (.call 4 [4] 0)<|
 .step (.cs [112,117,98,108,105,115,104])<|
 .step (.ml [18,12,17])<|
 .step (.call 6 [19] 0)<|
 .step (.ci .i64 0)<|
 .ret [20,21])
 (.step (.ci .u8 2)<|
 .step (.bin .eql 2 17)<|
 .ite 18
 (.step (.cs [112,111,108,108])<|
 .step (.ml [19,12])<|
 .step (.call 6 [20] 0)<|
 .step (.ci .i64 0)<|
 .ret [21,22])
 (.step (.ci .u8 4)<|
 .step (.bin .eql 2 19)<|
 .ite 20
 (.step (.cs [115,104,111,119])<|
 .step (.ml [21,12])<|
 .step (.call 6 [22] 0)<|
 .step (.ci .i64 0)<|
 .ret [23,24])
 (.step (.cs [97,108,108])<|
 .step (.ml [21])<|
 .step (.call 6 [22] 0)<|
 .step (.ci .i64 0)<|
 .ret [23,24]))))))
 (.step (.bin .eql 2 8)<|
 .step (.ci .u64 100000)<|
 .step (.bin .gtr 4 11)<|
 .ite 12
 (.step (.cs [])<|
 .step (.ci .i64 18)<|
 .ret [13,14])
 (.step (.call 10 [3] 0)<|
 .step (.ci .u8 0)<|
 .step (.bin .eql 2 14)<|
 .ite 15
 (.step (.ci .i32 32)<|
 .step (.ci .i32 10)<|
 .step (.ml [16,17])<|
 .step (.call 14 [5,18] 0)<|
 .step (.un .not 19)<|
 .ite 20
 (.step (.cs [])<|
 .step (.ci .i64 23)<|
 .ret [21,22])
 (.step (.slen 5)<|
 .step (.ci .i64 64)<|
 .step (.bin .gtr 21 22)<|
 .ite 23
 (.step (.cs [])<|
 .step (.ci .i64 13)<|
 .ret [24,25])
 (.step (.call 4 [4] 0)<|
 .step (.cs [97,100,100])<|
 .step (.ml [25,13,5,24])<|
 .step (.call 6 [26] 0)<|
 .step (.ci .i64 0)<|
 .ret [27,28])))
 (.step (.ci .u8 1)<|
 .step (.bin .eql 2 16)<|
 .ite 17
 (.step (.call 4 [4] 0)<|
 .step (.cs [112,117,98,108,105,115,104])<|
 .step (.ml [19,13,18])<|
 .step (.call 6 [20] 0)<|
 .step (.ci .i64 0)<|
 .ret [21,22])
 (.step (.ci .u8 2)<|
 .step (.bin .eql 2 18)<|
 .ite 19
 (.step (.cs [112,111,108,108])<|
 .step (.ml [20,13])<|
 .step (.call 6 [21] 0)<|
 .step (.ci .i64 0)<|
 .ret [22,23])
 (.step (.call 4 [4] 0)<|
 .step (.cs [115,116,101,112])<|
 .step (.ml [21,20])<|
 .step (.call 6 [22] 0)<|
 .step (.ci .i64 0)<|
 .ret [23,24]))))))
def d39:PDef:=.fn [.ag 5] [.sc,.sc]<|
 .step (.cell 0 0)<|
 .step (.cell 1 0)<|
 .step (.cell 2 0)<|
 .step (.cell 3 0)<|
 .step (.cell 4 0)<|
 .step (.ci .u8 5)<|
 .step (.bin .gtr 2 6)<|
 .ite 7
 (.step (.cs [])<|
 .step (.ci .i64 23)<|
 .ret [8,9])
 (.step (.isi 2 0)<|
 .ite 8
 (.step (.bin .eql 2 6)<|
 .ite 9
 (.step (.cs [97,100,100,10])<|
 .step (.ci .i64 0)<|
 .ret [10,11])
 (.step (.ci .u8 3)<|
 .step (.bin .eql 2 10)<|
 .ite 11
 (.step (.ci .u64 100000)<|
 .step (.bin .gtr 4 12)<|
 .ite 13
 (.step (.cs [])<|
 .step (.ci .i64 18)<|
 .ret [14,15])
 (.step (.call 40 [4] 0)<|
 .step (.cs [97,100,100,32])<|
 .step (.bin .add 15 14)<|
 .step (.cs [10])<|
 .step (.bin .add 16 17)<|
 .step (.ci .i64 0)<|
 .ret [18,19]))
 (.step (.ci .i64 0)<|
 .step (.bin .lss 3 12)<|
 .ite 13
 (.step (.cs [])<|
 .step (.ci .i64 18)<|
 .ret [14,15])
 (.step (.ci .i64 1)<|
 .step (.bin .gtr 3 14)<|
 .ite 15
 (.step (.cs [])<|
 .step (.ci .i64 18)<|
 .ret [16,17])
 (.step (.call 10 [3] 0)<|
 .step (.cs [97,100,100,32])<|
 .step (.bin .add 17 16)<|
 .step (.ci .u8 0)<|
 .step (.bin .eql 2 19)<|
 .ite 20
 (.step (.cs [])<|
 .step (.bin .eql 5 21)<|
 .ite 22
 (.step (.ci .i64 23)<|
 .ret [21,23])
 (.step (.ci .u8 32)<|
 .step (.call 41 [5,23] 0)<|
 .step (.len 24)<|
 .step (.bin .gtr 25 14)<|
 .ite 26
 (.step (.ci .i64 23)<|
 .ret [21,27])
 (.step (.ci .u8 10)<|
 .step (.call 41 [5,27] 0)<|
 .step (.len 28)<|
 .step (.bin .gtr 29 14)<|
 .ite 30
 (.step (.ci .i64 23)<|
 .ret [21,31])
 (.step (.slen 5)<|
 .step (.ci .i64 64)<|
 .step (.bin .gtr 31 32)<|
 .ite 33
 (.step (.ci .i64 13)<|
 .ret [21,34])
 (.step (.cs [32])<|
 .step (.bin .add 18 34)<|
 .step (.bin .add 35 5)<|
 .step (.ci .u8 2)<|
 .step (.bin .lss 2 37)<|
 .ite 38
 (.step (.bin .add 36 34)<|
 .step (.call 40 [4] 0)<|
 .step (.bin .add 39 40)<|
 .step (.cs [10])<|
 .step (.bin .add 41 42)<|
 .ret [43,12])
 (.step (.cs [10])<|
 .step (.bin .add 36 39)<|
 .ret [40,12]))))))
 (.step (.ci .u8 2)<|
 .step (.bin .lss 2 21)<|
 .ite 22
 (.step (.cs [32])<|
 .step (.bin .add 18 23)<|
 .step (.call 40 [4] 0)<|
 .step (.bin .add 24 25)<|
 .step (.cs [10])<|
 .step (.bin .add 26 27)<|
 .ret [28,12])
 (.step (.cs [10])<|
 .step (.bin .add 18 23)<|
 .ret [24,12])))))))
 (.step (.isi 2 1)<|
 .ite 9
 (.step (.bin .eql 2 6)<|
 .ite 10
 (.step (.cs [112,117,98,108,105,115,104,10])<|
 .step (.ci .i64 0)<|
 .ret [11,12])
 (.step (.ci .u8 3)<|
 .step (.bin .eql 2 11)<|
 .ite 12
 (.step (.ci .u64 100000)<|
 .step (.bin .gtr 4 13)<|
 .ite 14
 (.step (.cs [])<|
 .step (.ci .i64 18)<|
 .ret [15,16])
 (.step (.call 40 [4] 0)<|
 .step (.cs [112,117,98,108,105,115,104,32])<|
 .step (.bin .add 16 15)<|
 .step (.cs [10])<|
 .step (.bin .add 17 18)<|
 .step (.ci .i64 0)<|
 .ret [19,20]))
 (.step (.ci .i64 0)<|
 .step (.bin .lss 3 13)<|
 .ite 14
 (.step (.cs [])<|
 .step (.ci .i64 18)<|
 .ret [15,16])
 (.step (.ci .i64 1)<|
 .step (.bin .gtr 3 15)<|
 .ite 16
 (.step (.cs [])<|
 .step (.ci .i64 18)<|
 .ret [17,18])
 (.step (.call 10 [3] 0)<|
 .step (.cs [112,117,98,108,105,115,104,32])<|
 .step (.bin .add 18 17)<|
 .step (.ci .u8 0)<|
 .step (.bin .eql 2 20)<|
 .ite 21
 (.step (.cs [])<|
 .step (.bin .eql 5 22)<|
 .ite 23
 (.step (.ci .i64 23)<|
 .ret [22,24])
 (.step (.ci .u8 32)<|
 .step (.call 41 [5,24] 0)<|
 .step (.len 25)<|
 .step (.bin .gtr 26 15)<|
 .ite 27
 (.step (.ci .i64 23)<|
 .ret [22,28])
 (.step (.ci .u8 10)<|
 .step (.call 41 [5,28] 0)<|
 .step (.len 29)<|
 .step (.bin .gtr 30 15)<|
 .ite 31
 (.step (.ci .i64 23)<|
 .ret [22,32])
 (.step (.slen 5)<|
 .step (.ci .i64 64)<|
 .step (.bin .gtr 32 33)<|
 .ite 34
 (.step (.ci .i64 13)<|
 .ret [22,35])
 (.step (.cs [32])<|
 .step (.bin .add 19 35)<|
 .step (.bin .add 36 5)<|
 .step (.ci .u8 2)<|
 .step (.bin .lss 2 38)<|
 .ite 39
 (.step (.bin .add 37 35)<|
 .step (.call 40 [4] 0)<|
 .step (.bin .add 40 41)<|
 .step (.cs [10])<|
 .step (.bin .add 42 43)<|
 .ret [44,13])
 (.step (.cs [10])<|
 .step (.bin .add 37 40)<|
 .ret [41,13]))))))
 (.step (.ci .u8 2)<|
 .step (.bin .lss 2 22)<|
 .ite 23
 (.step (.cs [32])<|
 .step (.bin .add 19 24)<|
 .step (.call 40 [4] 0)<|
 .step (.bin .add 25 26)<|
 .step (.cs [10])<|
 .step (.bin .add 27 28)<|
 .ret [29,13])
 (.step (.cs [10])<|
 .step (.bin .add 19 24)<|
 .ret [25,13])))))))
 (.step (.isi 2 2)<|
 .ite 10
 (.step (.bin .eql 2 6)<|
 .ite 11
 (.step (.cs [112,111,108,108,10])<|
 .step (.ci .i64 0)<|
 .ret [12,13])
 (.step (.ci .u8 3)<|
 .step (.bin .eql 2 12)<|
 .ite 13
 (.step (.ci .u64 100000)<|
 .step (.bin .gtr 4 14)<|
 .ite 15
 (.step (.cs [])<|
 .step (.ci .i64 18)<|
 .ret [16,17])
 (.step (.call 40 [4] 0)<|
 .step (.cs [112,111,108,108,32])<|
 .step (.bin .add 17 16)<|
 .step (.cs [10])<|
 .step (.bin .add 18 19)<|
 .step (.ci .i64 0)<|
 .ret [20,21]))
 (.step (.ci .i64 0)<|
 .step (.bin .lss 3 14)<|
 .ite 15
 (.step (.cs [])<|
 .step (.ci .i64 18)<|
 .ret [16,17])
 (.step (.ci .i64 1)<|
 .step (.bin .gtr 3 16)<|
 .ite 17
 (.step (.cs [])<|
 .step (.ci .i64 18)<|
 .ret [18,19])
 (.step (.call 10 [3] 0)<|
 .step (.cs [112,111,108,108,32])<|
 .step (.bin .add 19 18)<|
 .step (.ci .u8 0)<|
 .step (.bin .eql 2 21)<|
 .ite 22
 (.step (.cs [])<|
 .step (.bin .eql 5 23)<|
 .ite 24
 (.step (.ci .i64 23)<|
 .ret [23,25])
 (.step (.ci .u8 32)<|
 .step (.call 41 [5,25] 0)<|
 .step (.len 26)<|
 .step (.bin .gtr 27 16)<|
 .ite 28
 (.step (.ci .i64 23)<|
 .ret [23,29])
 (.step (.ci .u8 10)<|
 .step (.call 41 [5,29] 0)<|
 .step (.len 30)<|
 .step (.bin .gtr 31 16)<|
 .ite 32
 (.step (.ci .i64 23)<|
 .ret [23,33])
 (.step (.slen 5)<|
 .step (.ci .i64 64)<|
 .step (.bin .gtr 33 34)<|
 .ite 35
 (.step (.ci .i64 13)<|
 .ret [23,36])
 (.step (.cs [32])<|
 .step (.bin .add 20 36)<|
 .step (.bin .add 37 5)<|
 .step (.ci .u8 2)<|
 .step (.bin .lss 2 39)<|
 .ite 40
 (.step (.bin .add 38 36)<|
 .step (.call 40 [4] 0)<|
 .step (.bin .add 41 42)<|
 .step (.cs [10])<|
 .step (.bin .add 43 44)<|
 .ret [45,14])
 (.step (.cs [10])<|
 .step (.bin .add 38 41)<|
 .ret [42,14]))))))
 (.step (.ci .u8 2)<|
 .step (.bin .lss 2 23)<|
 .ite 24
 (.step (.cs [32])<|
 .step (.bin .add 20 25)<|
 .step (.call 40 [4] 0)<|
 .step (.bin .add 26 27)<|
 .step (.cs [10])<|
 .step (.bin .add 28 29)<|
 .ret [30,14])
 (.step (.cs [10])<|
 .step (.bin .add 20 25)<|
 .ret [26,14])))))))
 (.step (.isi 2 3)<|
 .ite 11
 (.step (.bin .eql 2 6)<|
 .ite 12
 (.step (.cs [115,116,101,112,10])<|
 .step (.ci .i64 0)<|
 .ret [13,14])
 (.step (.ci .u8 3)<|
 .step (.bin .eql 2 13)<|
 .ite 14
 (.step (.ci .u64 100000)<|
 .step (.bin .gtr 4 15)<|
 .ite 16
 (.step (.cs [])<|
 .step (.ci .i64 18)<|
 .ret [17,18])
 (.step (.call 40 [4] 0)<|
 .step (.cs [115,116,101,112,32])<|
 .step (.bin .add 18 17)<|
 .step (.cs [10])<|
 .step (.bin .add 19 20)<|
 .step (.ci .i64 0)<|
 .ret [21,22]))
 (.step (.ci .i64 0)<|
 .step (.bin .lss 3 15)<|
 .ite 16
 (.step (.cs [])<|
 .step (.ci .i64 18)<|
 .ret [17,18])
 (.step (.ci .i64 1)<|
 .step (.bin .gtr 3 17)<|
 .ite 18
 (.step (.cs [])<|
 .step (.ci .i64 18)<|
 .ret [19,20])
 (.step (.call 10 [3] 0)<|
 .step (.cs [115,116,101,112,32])<|
 .step (.bin .add 20 19)<|
 .step (.ci .u8 0)<|
 .step (.bin .eql 2 22)<|
 .ite 23
 (.step (.cs [])<|
 .step (.bin .eql 5 24)<|
 .ite 25
 (.step (.ci .i64 23)<|
 .ret [24,26])
 (.step (.ci .u8 32)<|
 .step (.call 41 [5,26] 0)<|
 .step (.len 27)<|
 .step (.bin .gtr 28 17)<|
 .ite 29
 (.step (.ci .i64 23)<|
 .ret [24,30])
 (.step (.ci .u8 10)<|
 .step (.call 41 [5,30] 0)<|
 .step (.len 31)<|
 .step (.bin .gtr 32 17)<|
 .ite 33
 (.step (.ci .i64 23)<|
 .ret [24,34])
 (.step (.slen 5)<|
 .step (.ci .i64 64)<|
 .step (.bin .gtr 34 35)<|
 .ite 36
 (.step (.ci .i64 13)<|
 .ret [24,37])
 (.step (.cs [32])<|
 .step (.bin .add 21 37)<|
 .step (.bin .add 38 5)<|
 .step (.ci .u8 2)<|
 .step (.bin .lss 2 40)<|
 .ite 41
 (.step (.bin .add 39 37)<|
 .step (.call 40 [4] 0)<|
 .step (.bin .add 42 43)<|
 .step (.cs [10])<|
 .step (.bin .add 44 45)<|
 .ret [46,15])
 (.step (.cs [10])<|
 .step (.bin .add 39 42)<|
 .ret [43,15]))))))
 (.step (.ci .u8 2)<|
 .step (.bin .lss 2 24)<|
 .ite 25
 (.step (.cs [32])<|
 .step (.bin .add 21 26)<|
 .step (.call 40 [4] 0)<|
 .step (.bin .add 27 28)<|
 .step (.cs [10])<|
 .step (.bin .add 29 30)<|
 .ret [31,15])
 (.step (.cs [10])<|
 .step (.bin .add 21 26)<|
 .ret [27,15])))))))
 (.step (.isi 2 4)<|
 .ite 12
 (.step (.bin .eql 2 6)<|
 .ite 13
 (.step (.cs [115,104,111,119,10])<|
 .step (.ci .i64 0)<|
 .ret [14,15])
 (.step (.ci .u8 3)<|
 .step (.bin .eql 2 14)<|
 .ite 15
 (.step (.ci .u64 100000)<|
 .step (.bin .gtr 4 16)<|
 .ite 17
 (.step (.cs [])<|
 .step (.ci .i64 18)<|
 .ret [18,19])
 (.step (.call 40 [4] 0)<|
 .step (.cs [115,104,111,119,32])<|
 .step (.bin .add 19 18)<|
 .step (.cs [10])<|
 .step (.bin .add 20 21)<|
 .step (.ci .i64 0)<|
 .ret [22,23]))
 (.step (.ci .i64 0)<|
 .step (.bin .lss 3 16)<|
 .ite 17
 (.step (.cs [])<|
 .step (.ci .i64 18)<|
 .ret [18,19])
 (.step (.ci .i64 1)<|
 .step (.bin .gtr 3 18)<|
 .ite 19
 (.step (.cs [])<|
 .step (.ci .i64 18)<|
 .ret [20,21])
 (.step (.call 10 [3] 0)<|
 .step (.cs [115,104,111,119,32])<|
 .step (.bin .add 21 20)<|
 .step (.ci .u8 0)<|
 .step (.bin .eql 2 23)<|
 .ite 24
 (.step (.cs [])<|
 .step (.bin .eql 5 25)<|
 .ite 26
 (.step (.ci .i64 23)<|
 .ret [25,27])
 (.step (.ci .u8 32)<|
 .step (.call 41 [5,27] 0)<|
 .step (.len 28)<|
 .step (.bin .gtr 29 18)<|
 .ite 30
 (.step (.ci .i64 23)<|
 .ret [25,31])
 (.step (.ci .u8 10)<|
 .step (.call 41 [5,31] 0)<|
 .step (.len 32)<|
 .step (.bin .gtr 33 18)<|
 .ite 34
 (.step (.ci .i64 23)<|
 .ret [25,35])
 (.step (.slen 5)<|
 .step (.ci .i64 64)<|
 .step (.bin .gtr 35 36)<|
 .ite 37
 (.step (.ci .i64 13)<|
 .ret [25,38])
 (.step (.cs [32])<|
 .step (.bin .add 22 38)<|
 .step (.bin .add 39 5)<|
 .step (.ci .u8 2)<|
 .step (.bin .lss 2 41)<|
 .ite 42
 (.step (.bin .add 40 38)<|
 .step (.call 40 [4] 0)<|
 .step (.bin .add 43 44)<|
 .step (.cs [10])<|
 .step (.bin .add 45 46)<|
 .ret [47,16])
 (.step (.cs [10])<|
 .step (.bin .add 40 43)<|
 .ret [44,16]))))))
 (.step (.ci .u8 2)<|
 .step (.bin .lss 2 25)<|
 .ite 26
 (.step (.cs [32])<|
 .step (.bin .add 22 27)<|
 .step (.call 40 [4] 0)<|
 .step (.bin .add 28 29)<|
 .step (.cs [10])<|
 .step (.bin .add 30 31)<|
 .ret [32,16])
 (.step (.cs [10])<|
 .step (.bin .add 22 27)<|
 .ret [28,16])))))))
 (.step (.isi 2 5)<|
 .ite 13
 (.step (.bin .eql 2 6)<|
 .ite 14
 (.step (.cs [97,108,108,10])<|
 .step (.ci .i64 0)<|
 .ret [15,16])
 (.step (.ci .u8 3)<|
 .step (.bin .eql 2 15)<|
 .ite 16
 (.step (.ci .u64 100000)<|
 .step (.bin .gtr 4 17)<|
 .ite 18
 (.step (.cs [])<|
 .step (.ci .i64 18)<|
 .ret [19,20])
 (.step (.call 40 [4] 0)<|
 .step (.cs [97,108,108,32])<|
 .step (.bin .add 20 19)<|
 .step (.cs [10])<|
 .step (.bin .add 21 22)<|
 .step (.ci .i64 0)<|
 .ret [23,24]))
 (.step (.ci .i64 0)<|
 .step (.bin .lss 3 17)<|
 .ite 18
 (.step (.cs [])<|
 .step (.ci .i64 18)<|
 .ret [19,20])
 (.step (.ci .i64 1)<|
 .step (.bin .gtr 3 19)<|
 .ite 20
 (.step (.cs [])<|
 .step (.ci .i64 18)<|
 .ret [21,22])
 (.step (.call 10 [3] 0)<|
 .step (.cs [97,108,108,32])<|
 .step (.bin .add 22 21)<|
 .step (.ci .u8 0)<|
 .step (.bin .eql 2 24)<|
 .ite 25
 (.step (.cs [])<|
 .step (.bin .eql 5 26)<|
 .ite 27
 (.step (.ci .i64 23)<|
 .ret [26,28])
 (.step (.ci .u8 32)<|
 .step (.call 41 [5,28] 0)<|
 .step (.len 29)<|
 .step (.bin .gtr 30 19)<|
 .ite 31
 (.step (.ci .i64 23)<|
 .ret [26,32])
 (.step (.ci .u8 10)<|
 .step (.call 41 [5,32] 0)<|
 .step (.len 33)<|
 .step (.bin .gtr 34 19)<|
 .ite 35
 (.step (.ci .i64 23)<|
 .ret [26,36])
 (.step (.slen 5)<|
 .step (.ci .i64 64)<|
 .step (.bin .gtr 36 37)<|
 .ite 38
 (.step (.ci .i64 13)<|
 .ret [26,39])
 (.step (.cs [32])<|
 .step (.bin .add 23 39)<|
 .step (.bin .add 40 5)<|
 .step (.ci .u8 2)<|
 .step (.bin .lss 2 42)<|
 .ite 43
 (.step (.bin .add 41 39)<|
 .step (.call 40 [4] 0)<|
 .step (.bin .add 44 45)<|
 .step (.cs [10])<|
 .step (.bin .add 46 47)<|
 .ret [48,17])
 (.step (.cs [10])<|
 .step (.bin .add 41 44)<|
 .ret [45,17]))))))
 (.step (.ci .u8 2)<|
 .step (.bin .lss 2 26)<|
 .ite 27
 (.step (.cs [32])<|
 .step (.bin .add 23 28)<|
 .step (.call 40 [4] 0)<|
 .step (.bin .add 29 30)<|
 .step (.cs [10])<|
 .step (.bin .add 31 32)<|
 .ret [33,17])
 (.step (.cs [10])<|
 .step (.bin .add 23 28)<|
 .ret [29,17])))))))
 (.dead)))))))
def d44:PDef:=.fn [] [.sc]<|
 .step (.ci .i64 0)<|
 .step (.ml [])<|
 .step (.call 45 [0,1] 0)<|
 .step (.call 45 [0,1] 1)<|
 .step (.ci .u64 0)<|
 .step (.cb false)<|
 .step (.ci .u8 0)<|
 .step (.mk [5,6,6,0,0,6])<|
 .step (.ml [7,7,7,7,7,7,7,7,7,7,7,7,7,7,7,7,7,7,7,7,7,7,7,7,7,7,7,7,7,7,7,7,7,7,7,7,7,7,7,7,7,7,7,7,7,7,7,7,7,7,7,7,7,7,7,7,7,7,7,7,7,7,7,7,7,7,7,7,7,7,7,7,7,7,7,7,7,7,7,7,7,7,7,7,7,7,7,7,7,7,7,7,7,7,7,7,7,7,7,7,7,7,7,7,7,7,7,7,7,7,7,7,7,7,7,7,7,7,7,7])<|
 .step (.ml [7,7,7,7,7,7,7,7,7,7,7,7,7,7,7,7,7,7,7,7,7,7,7,7,7,7,7,7,7,7,7,7,7,7,7,7,7,7,7,7,7,7,7,7,7,7,7,7,7,7,7,7,7,7,7,7,7,7,7,7,7,7,7,7,7,7,7,7,7,7,7,7,7,7,7,7,7,7,7,7])<|
 .step (.mk [4,4,4,4,8,9,3])<|
 .step (.call 3 [10] 0)<|
 .step (.sid 11)<|
 .step (.call 3 [10] 1)<|
 .step (.conv .i64 13)<|
 .step (.call 15 [11] 0)<|
 .step (.cell 0 15)<|
 .step (.cell 1 15)<|
 .step (.cell 2 15)<|
 .step (.cell 3 15)<|
 .step (.cell 4 15)<|
 .step (.cell 5 15)<|
 .step (.cell 6 15)<|
 .step (.call 15 [11] 1)<|
 .step (.call 15 [11] 2)<|
 .step (.cs [98,97,99,107,32,100,114,111,112])<|
 .step (.bin .add 11 25)<|
 .step (.call 15 [26] 0)<|
 .step (.cell 0 27)<|
 .step (.cell 1 27)<|
 .step (.cell 2 27)<|
 .step (.cell 3 27)<|
 .step (.cell 4 27)<|
 .step (.cell 5 27)<|
 .step (.cell 6 27)<|
 .step (.call 15 [26] 1)<|
 .step (.call 15 [26] 2)<|
 .step (.cs [97,108,108])<|
 .step (.bin .add 11 37)<|
 .step (.call 15 [38] 0)<|
 .step (.cell 0 39)<|
 .step (.cell 1 39)<|
 .step (.cell 2 39)<|
 .step (.cell 3 39)<|
 .step (.cell 4 39)<|
 .step (.cell 5 39)<|
 .step (.cell 6 39)<|
 .step (.call 15 [38] 1)<|
 .step (.call 15 [38] 2)<|
 .step (.ml [7,7,7,7,7,7,7,7,7,7,7,7,7,7,7,7,7,7,7,7,7,7,7,7,7,7,7,7,7,7,7,7,7,7,7,7,7,7,7,7,7,7,7,7,7,7,7,7,7,7,7,7,7,7,7,7,7,7,7,7,7,7,7,7,7,7,7,7,7,7,7,7,7,7,7,7,7,7,7,7,7])<|
 .step (.mk [4,4,4,4,8,49,3])<|
 .step (.call 3 [50] 0)<|
 .step (.sid 51)<|
 .step (.call 3 [50] 1)<|
 .step (.conv .i64 53)<|
 .step (.bin .eql 13 0)<|
 .ite 55
 (.step (.bin .eql 24 0)<|
 .ite 56
 (.step (.ci .i64 13)<|
 .step (.bin .eql 36 57)<|
 .ite 58
 (.step (.ci .i64 1202)<|
 .step (.bin .eql 35 59)<|
 .ite 60
 (.step (.bin .eql 48 57)<|
 .ite 61
 (.step (.bin .eql 47 59)<|
 .ite 62
 (.step (.bin .eql 53 57)<|
 .ret [63])
 (.ret [5]))
 (.ret [5]))
 (.ret [5]))
 (.ret [5]))
 (.ret [5]))
 (.ret [5])
abbrev d18:PDef:=.prim fieldsP
abbrev d7:PDef:=.prim joinP
def d4:PDef:=.fn [.sc] [.sc]<|
 .step (.ci .i64 10)<|
 .step (.call 5 [0,1] 0)<|
 .ret [2]
def d24:PDef:=.fn [.sc] [.ag 6,.sc]<|
 .step (.len 0)<|
 .step (.ci .i64 2)<|
 .step (.bin .eql 1 2)<|
 .ite 3
 (.step (.ci .i64 1)<|
 .step (.at 1 0 4)<|
 .step (.cell 0 5)<|
 .step (.cs [100,114,111,112])<|
 .step (.bin .eql 6 7)<|
 .ite 8
 (.step (.cb true)<|
 .step (.ci .u8 0)<|
 .step (.ci .i64 0)<|
 .step (.mk [9,10,10,11,11,10])<|
 .ret [12,11])
 (.step (.ci .i64 6)<|
 .step (.bin .neq 1 9)<|
 .step (.cb false)<|
 .step (.ci .u8 0)<|
 .step (.ci .i64 0)<|
 .step (.ci .i64 23)<|
 .step (.mk [11,12,12,13,13,12])<|
 .ret [15,14]))
 (.step (.ci .i64 6)<|
 .step (.bin .neq 1 4)<|
 .ite 5
 (.step (.cb false)<|
 .step (.ci .u8 0)<|
 .step (.ci .i64 0)<|
 .step (.ci .i64 23)<|
 .step (.mk [6,7,7,8,8,7])<|
 .ret [10,9])
 (.step (.ci .i64 1)<|
 .step (.lsub 1 0 6 1)<|
 .step (.ci .u64 255)<|
 .step (.ci .u64 100000)<|
 .step (.ml [8,8,9,9,8])<|
 .step (.call 20 [7,10] 0)<|
 .step (.call 20 [7,10] 1)<|
 .step (.ci .i64 0)<|
 .step (.bin .neq 12 13)<|
 .ite 14
 (.step (.cb false)<|
 .step (.ci .u8 0)<|
 .step (.mk [15,16,16,13,13,16])<|
 .ret [17,12])
 (.step (.at 1 11 13)<|
 .step (.cell 0 15)<|
 .step (.conv .u8 16)<|
 .step (.at 1 11 6)<|
 .step (.cell 0 18)<|
 .step (.conv .u8 19)<|
 .step (.at 1 11 2)<|
 .step (.cell 0 21)<|
 .step (.conv .i64 22)<|
 .step (.ci .i64 3)<|
 .step (.at 1 11 24)<|
 .step (.cell 0 25)<|
 .step (.conv .i64 26)<|
 .step (.ci .i64 4)<|
 .step (.at 1 11 28)<|
 .step (.cell 0 29)<|
 .step (.conv .u8 30)<|
 .step (.cb false)<|
 .step (.mk [32,17,20,23,27,31])<|
 .ret [33,13])))
abbrev d14:PDef:=.prim withoutP
abbrev d10:PDef:=.prim itoaP
def d31:PDef:=.fn [.ag 7] [.ag 7]<|
 .step (.cell 0 0)<|
 .step (.cell 1 0)<|
 .step (.cell 2 0)<|
 .step (.cell 3 0)<|
 .step (.cell 4 0)<|
 .step (.cell 5 0)<|
 .step (.cell 6 0)<|
 .step (.call 32 [5] 0)<|
 .step (.call 32 [6] 0)<|
 .step (.len 7)<|
 .step (.ci .i64 0)<|
 .step (.ml [])<|
 .step (.call 34 [7,10,11,1,2,3,4,8,9,12] 0)<|
 .step (.call 34 [7,10,11,1,2,3,4,8,9,12] 1)<|
 .step (.mk [1,2,3,4,8,9,14])<|
 .ret [15]
def d26:PDef:=.fn [.sc] [.ag 5,.sc]<|
 .step (.ci .i64 1)<|
 .step (.ci .i64 2)<|
 .step (.lsub 1 0 1 2)<|
 .step (.ci .u64 1)<|
 .step (.ml [4])<|
 .step (.call 20 [3,5] 0)<|
 .step (.call 20 [3,5] 1)<|
 .step (.ci .i64 0)<|
 .step (.bin .neq 7 8)<|
 .ite 9
 (.step (.ci .u8 0)<|
 .step (.ci .u64 0)<|
 .step (.cs [])<|
 .step (.mk [8,10,8,11,12])<|
 .ret [13,7])
 (.step (.at 1 0 2)<|
 .step (.cell 0 10)<|
 .step (.slen 11)<|
 .step (.ci .i64 64)<|
 .step (.bin .gtr 12 13)<|
 .ite 14
 (.step (.ci .u8 0)<|
 .step (.ci .u64 0)<|
 .step (.cs [])<|
 .step (.ci .i64 13)<|
 .step (.mk [8,15,8,16,17])<|
 .ret [19,18])
 (.step (.ci .i64 3)<|
 .step (.len 0)<|
 .step (.lsub 1 0 15 16)<|
 .step (.ci .u64 18446744073709551615)<|
 .step (.ml [18])<|
 .step (.call 20 [17,19] 0)<|
 .step (.call 20 [17,19] 1)<|
 .step (.bin .neq 21 8)<|
 .ite 22
 (.step (.ci .u8 0)<|
 .step (.ci .u64 0)<|
 .step (.cs [])<|
 .step (.mk [8,23,8,24,25])<|
 .ret [26,21])
 (.step (.at 1 6 8)<|
 .step (.cell 0 23)<|
 .step (.conv .i64 24)<|
 .step (.at 1 20 8)<|
 .step (.cell 0 26)<|
 .step (.ci .u8 0)<|
 .step (.mk [8,28,25,27,11])<|
 .ret [29,8])))
abbrev d5:PDef:=.prim fmtUP
def d35:PDef:=.fn [.ag 7,.ag 7] [.sc]<|
 .step (.cell 0 0)<|
 .step (.cell 1 0)<|
 .step (.cell 2 0)<|
 .step (.cell 3 0)<|
 .step (.cell 4 0)<|
 .step (.cell 5 0)<|
 .step (.cell 6 0)<|
 .step (.cell 0 1)<|
 .step (.cell 1 1)<|
 .step (.cell 2 1)<|
 .step (.cell 3 1)<|
 .step (.cell 4 1)<|
 .step (.cell 5 1)<|
 .step (.cell 6 1)<|
 .step (.bin .neq 2 9)<|
 .ite 16
 (.step (.cb false)<|
 .ret [17])
 (.step (.bin .neq 3 10)<|
 .ite 17
 (.step (.cb false)<|
 .ret [18])
 (.step (.bin .neq 4 11)<|
 .ite 18
 (.step (.cb false)<|
 .ret [19])
 (.step (.bin .neq 5 12)<|
 .ite 19
 (.step (.cb false)<|
 .ret [20])
 (.step (.len 8)<|
 .step (.len 15)<|
 .step (.bin .neq 20 21)<|
 .ite 22
 (.step (.cb false)<|
 .ret [23])
 (.step (.call 36 [6,13] 0)<|
 .step (.un .not 23)<|
 .ite 24
 (.step (.cb false)<|
 .ret [25])
 (.step (.call 36 [7,14] 0)<|
 .step (.un .not 25)<|
 .ite 26
 (.step (.cb false)<|
 .ret [27])
 (.step (.ci .i64 0)<|
 .step (.call 38 [20,27,9,10,11,12,13,14,15,2,3,4,5,6,7,8] 0)<|
 .step (.bin .eql 28 27)<|
 .ite 29
 (.step (.cb false)<|
 .ret [30])
 (.step (.cb true)<|
 .ret [30]))))))))
def d9:PDef:=.fn [.sc,.ag 6] [.sc,.sc]<|
 .step (.cell 0 1)<|
 .step (.cell 1 1)<|
 .step (.cell 2 1)<|
 .step (.cell 3 1)<|
 .step (.cell 4 1)<|
 .step (.cell 5 1)<|
 .ite 2
 (.step (.cs [100,114,111,112])<|
 .step (.ml [0,8])<|
 .step (.call 6 [9] 0)<|
 .step (.ci .i64 0)<|
 .ret [10,11])
 (.step (.ci .i64 0)<|
 .step (.bin .lss 5 8)<|
 .ite 9
 (.step (.cs [])<|
 .step (.ci .i64 18)<|
 .ret [10,11])
 (.step (.ci .i64 100000)<|
 .step (.bin .gtr 5 10)<|
 .ite 11
 (.step (.cs [])<|
 .step (.ci .i64 18)<|
 .ret [12,13])
 (.step (.bin .lss 6 8)<|
 .ite 12
 (.step (.cs [])<|
 .step (.ci .i64 18)<|
 .ret [13,14])
 (.step (.bin .gtr 6 10)<|
 .ite 13
 (.step (.cs [])<|
 .step (.ci .i64 18)<|
 .ret [14,15])
 (.step (.conv .u64 3)<|
 .step (.call 4 [14] 0)<|
 .step (.conv .u64 4)<|
 .step (.call 4 [16] 0)<|
 .step (.call 10 [5] 0)<|
 .step (.call 10 [6] 0)<|
 .step (.conv .u64 7)<|
 .step (.call 4 [20] 0)<|
 .step (.ml [0,15,17,18,19,21])<|
 .step (.call 6 [22] 0)<|
 .ret [23,8])))))
abbrev d22:PDef:=.prim numberP
abbrev d43:PDef:=.prim replP
def d36:PDef:=.fn [.sc,.sc] [.sc]<|
 .step (.len 0)<|
 .step (.len 1)<|
 .step (.bin .neq 2 3)<|
 .ite 4
 (.step (.cb false)<|
 .ret [5])
 (.step (.ci .i64 0)<|
 .step (.call 37 [0,1,2,5] 0)<|
 .step (.bin .eql 6 5)<|
 .ite 7
 (.step (.cb false)<|
 .ret [8])
 (.step (.cb true)<|
 .ret [8]))
def d1:PDef:=.fn [.ag 7] [.sc]<|
 .step (.cell 0 0)<|
 .step (.cell 1 0)<|
 .step (.cell 2 0)<|
 .step (.cell 3 0)<|
 .step (.cell 4 0)<|
 .step (.cell 5 0)<|
 .step (.cell 6 0)<|
 .step (.len 7)<|
 .step (.ci .i64 0)<|
 .step (.call 2 [7,8,9,1,2,3,4,5,6] 0)<|
 .step (.bin .eql 10 9)<|
 .ite 11
 (.step (.cb false)<|
 .ret [12])
 (.step (.len 5)<|
 .step (.ci .i64 210)<|
 .step (.bin .leq 12 13)<|
 .ite 14
 (.step (.len 6)<|
 .step (.bin .leq 15 13)<|
 .ite 16
 (.step (.ci .i64 1001)<|
 .step (.bin .leq 8 17)<|
 .ret [18])
 (.step (.cb false)<|
 .ret [17]))
 (.step (.cb false)<|
 .ret [15]))
def d40:PDef:=.fn [.sc] [.sc]<|
 .step (.ci .i64 10)<|
 .step (.call 5 [0,1] 0)<|
 .ret [2]
def d20:PDef:=.fn [.sc,.sc] [.sc,.sc]<|
 .step (.len 1)<|
 .step (.ci .i64 0)<|
 .step (.ml [])<|
 .step (.call 21 [0,4,1,2,3] 0)<|
 .step (.bin .eql 5 3)<|
 .ite 6
 (.step (.call 21 [0,4,1,2,3] 1)<|
 .ret [4,7])
 (.step (.call 21 [0,4,1,2,3] 1)<|
 .ret [7,3])
def d32:PDef:=.fn [.sc] [.sc]<|
 .step (.len 0)<|
 .step (.ci .i64 0)<|
 .step (.ml [])<|
 .step (.call 33 [3,0,1,2] 0)<|
 .step (.call 33 [3,0,1,2] 1)<|
 .ret [5]
def d15:PDef:=.fn [.sc] [.ag 7,.sc,.sc]<|
 .step (.slen 0)<|
 .step (.ci .i64 65536)<|
 .step (.bin .gtr 1 2)<|
 .ite 3
 (.step (.ci .u64 0)<|
 .step (.ml [])<|
 .step (.ci .i64 0)<|
 .step (.ci .i64 4)<|
 .step (.mk [4,4,4,4,5,5,5])<|
 .ret [8,6,7])
 (.step (.cs [10])<|
 .step (.call 16 [0,4] 0)<|
 .step (.len 5)<|
 .step (.cb false)<|
 .step (.ci .i64 0)<|
 .step (.ci .u64 0)<|
 .step (.ml [])<|
 .step (.call 17 [7,5,6,8,9,9,9,9,10,10,10] 0)<|
 .step (.bin .eql 11 8)<|
 .ite 12
 (.step (.call 17 [7,5,6,8,9,9,9,9,10,10,10] 1)<|
 .step (.call 17 [7,5,6,8,9,9,9,9,10,10,10] 2)<|
 .step (.mk [9,9,9,9,10,10,10])<|
 .ret [15,13,14])
 (.step (.call 17 [7,5,6,8,9,9,9,9,10,10,10] 1)<|
 .step (.call 17 [7,5,6,8,9,9,9,9,10,10,10] 2)<|
 .step (.call 17 [7,5,6,8,9,9,9,9,10,10,10] 3)<|
 .step (.call 17 [7,5,6,8,9,9,9,9,10,10,10] 4)<|
 .step (.call 17 [7,5,6,8,9,9,9,9,10,10,10] 5)<|
 .step (.call 17 [7,5,6,8,9,9,9,9,10,10,10] 6)<|
 .step (.call 17 [7,5,6,8,9,9,9,9,10,10,10] 7)<|
 .step (.call 17 [7,5,6,8,9,9,9,9,10,10,10] 8)<|
 .step (.un .not 13)<|
 .ite 21
 (.step (.ci .i64 24)<|
 .step (.mk [9,9,9,9,10,10,10])<|
 .ret [23,8,22])
 (.step (.mk [14,15,16,17,18,19,20])<|
 .ret [22,8,8])))
def d41:PDef:=.fn [.sc,.sc] [.sc]<|
 .step (.ci .i64 0)<|
 .step (.ml [])<|
 .step (.call 42 [0,1,3,2,2] 0)<|
 .step (.call 42 [0,1,3,2,2] 1)<|
 .step (.call 42 [0,1,3,2,2] 2)<|
 .step (.slen 0)<|
 .step (.ssub 0 6 7)<|
 .step (.ml [8])<|
 .step (.app 1 16 5 9)<|
 .ret [10]
def d25:PDef:=.fn [.sc] [.ag 5,.sc]<|
 .step (.ci .i64 0)<|
 .step (.at 1 0 1)<|
 .step (.cell 0 2)<|
 .step (.cs [97,100,100])<|
 .step (.bin .eql 3 4)<|
 .ite 5
 (.step (.len 0)<|
 .step (.ci .i64 4)<|
 .step (.bin .eql 6 7)<|
 .ite 8
 (.step (.call 26 [0] 0)<|
 .step (.cell 0 9)<|
 .step (.cell 1 9)<|
 .step (.cell 2 9)<|
 .step (.cell 3 9)<|
 .step (.cell 4 9)<|
 .step (.call 26 [0] 1)<|
 .step (.mk [10,11,12,13,14])<|
 .ret [16,15])
 (.step (.cs [112,117,98,108,105,115,104])<|
 .step (.bin .eql 3 9)<|
 .step (.cs [112,111,108,108])<|
 .step (.bin .eql 3 11)<|
 .step (.cs [115,116,101,112])<|
 .step (.bin .eql 3 13)<|
 .step (.cs [97,108,108])<|
 .step (.bin .eql 3 15)<|
 .step (.cs [115,104,111,119])<|
 .step (.bin .eql 3 17)<|
 .step (.ci .u8 0)<|
 .step (.ci .u64 0)<|
 .step (.cs [])<|
 .step (.ci .i64 23)<|
 .step (.mk [1,19,1,20,21])<|
 .ret [23,22]))
 (.step (.cs [112,117,98,108,105,115,104])<|
 .step (.bin .eql 3 6)<|
 .ite 7
 (.step (.len 0)<|
 .step (.ci .i64 3)<|
 .step (.bin .eql 8 9)<|
 .ite 10
 (.step (.ci .i64 1)<|
 .step (.lsub 1 0 11 8)<|
 .step (.ci .u64 1)<|
 .step (.ci .u64 18446744073709551615)<|
 .step (.ml [13,14])<|
 .step (.call 20 [12,15] 0)<|
 .step (.call 20 [12,15] 1)<|
 .step (.bin .eql 17 1)<|
 .ite 18
 (.step (.at 1 16 1)<|
 .step (.cell 0 19)<|
 .step (.conv .i64 20)<|
 .step (.at 1 16 11)<|
 .step (.cell 0 22)<|
 .step (.bin .neq 17 1)<|
 .step (.ci .u8 1)<|
 .step (.cs [])<|
 .step (.mk [1,25,21,23,26])<|
 .ret [27,1])
 (.step (.bin .neq 17 1)<|
 .step (.ci .u8 0)<|
 .step (.ci .u64 0)<|
 .step (.cs [])<|
 .step (.mk [1,20,1,21,22])<|
 .ret [23,17]))
 (.step (.cs [112,111,108,108])<|
 .step (.bin .eql 3 11)<|
 .step (.cs [115,116,101,112])<|
 .step (.bin .eql 3 13)<|
 .step (.cs [97,108,108])<|
 .step (.bin .eql 3 15)<|
 .step (.cs [115,104,111,119])<|
 .step (.bin .eql 3 17)<|
 .step (.ci .u8 0)<|
 .step (.ci .u64 0)<|
 .step (.cs [])<|
 .step (.ci .i64 23)<|
 .step (.mk [1,19,1,20,21])<|
 .ret [23,22]))
 (.step (.cs [112,111,108,108])<|
 .step (.bin .eql 3 8)<|
 .ite 9
 (.step (.len 0)<|
 .step (.ci .i64 2)<|
 .step (.bin .eql 10 11)<|
 .ite 12
 (.step (.ci .i64 1)<|
 .step (.lsub 1 0 13 10)<|
 .step (.ci .u64 1)<|
 .step (.ml [15])<|
 .step (.call 20 [14,16] 0)<|
 .step (.call 20 [14,16] 1)<|
 .step (.bin .eql 18 1)<|
 .ite 19
 (.step (.at 1 17 1)<|
 .step (.cell 0 20)<|
 .step (.conv .i64 21)<|
 .step (.bin .neq 18 1)<|
 .step (.ci .u8 2)<|
 .step (.ci .u64 0)<|
 .step (.cs [])<|
 .step (.mk [1,24,22,25,26])<|
 .ret [27,1])
 (.step (.bin .neq 18 1)<|
 .step (.ci .u8 0)<|
 .step (.ci .u64 0)<|
 .step (.cs [])<|
 .step (.mk [1,21,1,22,23])<|
 .ret [24,18]))
 (.step (.cs [115,116,101,112])<|
 .step (.bin .eql 3 13)<|
 .step (.cs [97,108,108])<|
 .step (.bin .eql 3 15)<|
 .step (.cs [115,104,111,119])<|
 .step (.bin .eql 3 17)<|
 .step (.ci .u8 0)<|
 .step (.ci .u64 0)<|
 .step (.cs [])<|
 .step (.ci .i64 23)<|
 .step (.mk [1,19,1,20,21])<|
 .ret [23,22]))
 (.step (.cs [115,116,101,112])<|
 .step (.bin .eql 3 10)<|
 .ite 11
 (.step (.len 0)<|
 .step (.ci .i64 2)<|
 .step (.bin .eql 12 13)<|
 .ite 14
 (.step (.ci .i64 1)<|
 .step (.lsub 1 0 15 12)<|
 .step (.ci .u64 100000)<|
 .step (.ml [17])<|
 .step (.call 20 [16,18] 0)<|
 .step (.call 20 [16,18] 1)<|
 .step (.bin .eql 20 1)<|
 .ite 21
 (.step (.at 1 19 1)<|
 .step (.cell 0 22)<|
 .step (.bin .neq 20 1)<|
 .step (.ci .u8 3)<|
 .step (.cs [])<|
 .step (.mk [1,25,1,23,26])<|
 .ret [27,1])
 (.step (.bin .neq 20 1)<|
 .step (.ci .u8 0)<|
 .step (.ci .u64 0)<|
 .step (.cs [])<|
 .step (.mk [1,23,1,24,25])<|
 .ret [26,20]))
 (.step (.cs [97,108,108])<|
 .step (.bin .eql 3 15)<|
 .step (.cs [115,104,111,119])<|
 .step (.bin .eql 3 17)<|
 .step (.ci .u8 0)<|
 .step (.ci .u64 0)<|
 .step (.cs [])<|
 .step (.ci .i64 23)<|
 .step (.mk [1,19,1,20,21])<|
 .ret [23,22]))
 (.step (.cs [97,108,108])<|
 .step (.bin .eql 3 12)<|
 .ite 13
 (.step (.len 0)<|
 .step (.ci .i64 1)<|
 .step (.bin .eql 14 15)<|
 .ite 16
 (.step (.ci .u8 5)<|
 .step (.ci .u64 0)<|
 .step (.cs [])<|
 .step (.mk [1,17,1,18,19])<|
 .ret [20,1])
 (.step (.cs [115,104,111,119])<|
 .step (.bin .eql 3 17)<|
 .step (.ci .u8 0)<|
 .step (.ci .u64 0)<|
 .step (.cs [])<|
 .step (.ci .i64 23)<|
 .step (.mk [1,19,1,20,21])<|
 .ret [23,22]))
 (.step (.cs [115,104,111,119])<|
 .step (.bin .eql 3 14)<|
 .ite 15
 (.step (.len 0)<|
 .step (.ci .i64 2)<|
 .step (.bin .eql 16 17)<|
 .ite 18
 (.step (.ci .i64 1)<|
 .step (.lsub 1 0 19 16)<|
 .step (.ci .u64 1)<|
 .step (.ml [21])<|
 .step (.call 20 [20,22] 0)<|
 .step (.call 20 [20,22] 1)<|
 .step (.bin .eql 24 1)<|
 .ite 25
 (.step (.at 1 23 1)<|
 .step (.cell 0 26)<|
 .step (.conv .i64 27)<|
 .step (.bin .neq 24 1)<|
 .step (.ci .u8 4)<|
 .step (.ci .u64 0)<|
 .step (.cs [])<|
 .step (.mk [1,30,28,31,32])<|
 .ret [33,1])
 (.step (.bin .neq 24 1)<|
 .step (.ci .u8 0)<|
 .step (.ci .u64 0)<|
 .step (.cs [])<|
 .step (.mk [1,27,1,28,29])<|
 .ret [30,24]))
 (.step (.ci .u8 0)<|
 .step (.ci .u64 0)<|
 .step (.cs [])<|
 .step (.ci .i64 23)<|
 .step (.mk [1,19,1,20,21])<|
 .ret [23,22]))
 (.step (.ci .u8 0)<|
 .step (.ci .u64 0)<|
 .step (.cs [])<|
 .step (.ci .i64 23)<|
 .step (.mk [1,16,1,17,18])<|
 .ret [20,19]))))))
abbrev d16:PDef:=.prim splitP
def d3:PDef:=.fn [.ag 7] [.sc,.sc]<|
 .step (.cell 0 0)<|
 .step (.cell 1 0)<|
 .step (.cell 2 0)<|
 .step (.cell 3 0)<|
 .step (.cell 4 0)<|
 .step (.cell 5 0)<|
 .step (.cell 6 0)<|
 .step (.len 5)<|
 .step (.len 6)<|
 .step (.bin .add 8 9)<|
 .step (.ci .i64 200)<|
 .step (.bin .gtr 10 11)<|
 .ite 12
 (.step (.cs [])<|
 .step (.ci .i64 13)<|
 .ret [13,14])
 (.step (.len 7)<|
 .step (.ci .i64 1000)<|
 .step (.bin .gtr 13 14)<|
 .ite 15
 (.step (.cs [])<|
 .step (.ci .i64 13)<|
 .ret [16,17])
 (.step (.call 4 [1] 0)<|
 .step (.call 4 [2] 0)<|
 .step (.call 4 [3] 0)<|
 .step (.call 4 [4] 0)<|
 .step (.cs [112,97,105,114])<|
 .step (.ml [20,16,17,18,19])<|
 .step (.call 6 [21] 0)<|
 .step (.bytes 22)<|
 .step (.ml [])<|
 .step (.app 1 1 24 23)<|
 .step (.slen 22)<|
 .step (.ci .i64 0)<|
 .step (.call 8 [5,8,27,25,1,2,3,4,6,7] 0)<|
 .step (.bin .eql 28 27)<|
 .ite 29
 (.step (.call 8 [5,8,27,25,1,2,3,4,6,7] 1)<|
 .step (.cs [])<|
 .ret [31,30])
 (.step (.call 8 [5,8,27,25,1,2,3,4,6,7] 1)<|
 .step (.call 11 [6,9,27,30,1,2,3,4,5,7] 0)<|
 .step (.bin .eql 31 27)<|
 .ite 32
 (.step (.call 11 [6,9,27,30,1,2,3,4,5,7] 1)<|
 .step (.cs [])<|
 .ret [34,33])
 (.step (.call 11 [6,9,27,30,1,2,3,4,5,7] 1)<|
 .step (.call 12 [7,13,27,33] 0)<|
 .step (.bin .eql 34 27)<|
 .ite 35
 (.step (.call 12 [7,13,27,33] 1)<|
 .step (.cs [])<|
 .ret [37,36])
 (.step (.call 12 [7,13,27,33] 1)<|
 .step (.len 36)<|
 .step (.ci .i64 65536)<|
 .step (.bin .gtr 37 38)<|
 .ite 39
 (.step (.cs [])<|
 .step (.ci .i64 4)<|
 .ret [40,41])
 (.step (.str 36)<|
 .ret [40,27]))))))
def d0:PDef:=.fn [.ag 7,.sc] [.sc]<|
 .step (.cell 0 0)<|
 .step (.cell 1 0)<|
 .step (.cell 2 0)<|
 .step (.cell 3 0)<|
 .step (.cell 4 0)<|
 .step (.cell 5 0)<|
 .step (.cell 6 0)<|
 .step (.mk [2,3,4,5,6,7,8])<|
 .step (.call 1 [9] 0)<|
 .step (.un .not 10)<|
 .ite 11
 (.step (.cb true)<|
 .ret [12])
 (.step (.slen 1)<|
 .step (.ci .i64 4000)<|
 .step (.bin .gtr 12 13)<|
 .ite 14
 (.step (.cb true)<|
 .ret [15])
 (.step (.call 3 [9] 0)<|
 .step (.sid 15)<|
 .step (.call 3 [9] 1)<|
 .step (.conv .i64 17)<|
 .step (.ci .i64 0)<|
 .step (.bin .eql 17 19)<|
 .ite 20
 (.step (.call 15 [15] 0)<|
 .step (.cell 0 21)<|
 .step (.cell 1 21)<|
 .step (.cell 2 21)<|
 .step (.cell 3 21)<|
 .step (.cell 4 21)<|
 .step (.cell 5 21)<|
 .step (.cell 6 21)<|
 .step (.call 15 [15] 1)<|
 .step (.call 15 [15] 2)<|
 .step (.bin .neq 30 19)<|
 .ite 31
 (.step (.cb false)<|
 .ret [32])
 (.step (.mk [22,23,24,25,26,27,28])<|
 .step (.call 31 [32] 0)<|
 .step (.cell 0 33)<|
 .step (.cell 1 33)<|
 .step (.cell 2 33)<|
 .step (.cell 3 33)<|
 .step (.cell 4 33)<|
 .step (.cell 5 33)<|
 .step (.cell 6 33)<|
 .step (.call 31 [9] 0)<|
 .step (.cell 0 41)<|
 .step (.cell 1 41)<|
 .step (.cell 2 41)<|
 .step (.cell 3 41)<|
 .step (.cell 4 41)<|
 .step (.cell 5 41)<|
 .step (.cell 6 41)<|
 .step (.mk [34,35,36,37,38,39,40])<|
 .step (.mk [42,43,44,45,46,47,48])<|
 .step (.call 35 [49,50] 0)<|
 .step (.un .not 51)<|
 .ite 52
 (.step (.cb false)<|
 .ret [53])
 (.step (.call 15 [1] 0)<|
 .step (.cell 0 53)<|
 .step (.cell 1 53)<|
 .step (.cell 2 53)<|
 .step (.cell 3 53)<|
 .step (.cell 4 53)<|
 .step (.cell 5 53)<|
 .step (.cell 6 53)<|
 .step (.call 15 [1] 1)<|
 .step (.call 15 [1] 2)<|
 .step (.cs [32])<|
 .step (.cs [32,32])<|
 .step (.call 43 [1,63,64] 0)<|
 .step (.cs [10])<|
 .step (.cs [32,10,32,32])<|
 .step (.call 43 [65,66,67] 0)<|
 .step (.cs [35,32,120,10])<|
 .step (.bin .add 69 68)<|
 .step (.call 15 [70] 0)<|
 .step (.cell 0 71)<|
 .step (.cell 1 71)<|
 .step (.cell 2 71)<|
 .step (.cell 3 71)<|
 .step (.cell 4 71)<|
 .step (.cell 5 71)<|
 .step (.cell 6 71)<|
 .step (.call 15 [70] 1)<|
 .step (.call 15 [70] 2)<|
 .step (.bin .neq 62 80)<|
 .ite 81
 (.step (.cb false)<|
 .ret [82])
 (.step (.mk [54,55,56,57,58,59,60])<|
 .step (.call 31 [82] 0)<|
 .step (.cell 0 83)<|
 .step (.cell 1 83)<|
 .step (.cell 2 83)<|
 .step (.cell 3 83)<|
 .step (.cell 4 83)<|
 .step (.cell 5 83)<|
 .step (.cell 6 83)<|
 .step (.mk [72,73,74,75,76,77,78])<|
 .step (.call 31 [91] 0)<|
 .step (.cell 0 92)<|
 .step (.cell 1 92)<|
 .step (.cell 2 92)<|
 .step (.cell 3 92)<|
 .step (.cell 4 92)<|
 .step (.cell 5 92)<|
 .step (.cell 6 92)<|
 .step (.mk [84,85,86,87,88,89,90])<|
 .step (.mk [93,94,95,96,97,98,99])<|
 .step (.call 35 [100,101] 0)<|
 .step (.un .not 102)<|
 .ite 103
 (.step (.cb false)<|
 .ret [104])
 (.step (.bin .gtr 61 19)<|
 .ite 104
 (.step (.ci .i64 1)<|
 .step (.bin .add 61 105)<|
 .step (.bin .neq 79 106)<|
 .ite 107
 (.step (.cb false)<|
 .ret [108])
 (.step (.bin .eql 61 19)<|
 .ite 108
 (.step (.bin .neq 79 19)<|
 .ite 109
 (.step (.cb false)<|
 .ret [110])
 (.step (.bin .neq 62 19)<|
 .ite 110
 (.step (.ci .u64 0)<|
 .step (.ml [])<|
 .step (.mk [111,111,111,111,112,112,112])<|
 .step (.call 35 [100,113] 0)<|
 .ret [114])
 (.step (.call 3 [82] 0)<|
 .step (.sid 111)<|
 .step (.call 3 [82] 1)<|
 .step (.conv .i64 113)<|
 .step (.call 15 [111] 0)<|
 .step (.cell 0 115)<|
 .step (.cell 1 115)<|
 .step (.cell 2 115)<|
 .step (.cell 3 115)<|
 .step (.cell 4 115)<|
 .step (.cell 5 115)<|
 .step (.cell 6 115)<|
 .step (.call 15 [111] 1)<|
 .step (.call 15 [111] 2)<|
 .step (.bin .eql 113 19)<|
 .ite 125
 (.step (.bin .eql 124 19)<|
 .ite 126
 (.step (.mk [116,117,118,119,120,121,122])<|
 .step (.call 31 [127] 0)<|
 .step (.cell 0 128)<|
 .step (.cell 1 128)<|
 .step (.cell 2 128)<|
 .step (.cell 3 128)<|
 .step (.cell 4 128)<|
 .step (.cell 5 128)<|
 .step (.cell 6 128)<|
 .step (.mk [129,130,131,132,133,134,135])<|
 .step (.call 35 [136,100] 0)<|
 .ret [137])
 (.step (.cb false)<|
 .ret [127]))
 (.step (.cb false)<|
 .ret [126]))))
 (.step (.bin .neq 62 19)<|
 .ite 109
 (.step (.ci .u64 0)<|
 .step (.ml [])<|
 .step (.mk [110,110,110,110,111,111,111])<|
 .step (.call 35 [100,112] 0)<|
 .ret [113])
 (.step (.call 3 [82] 0)<|
 .step (.sid 110)<|
 .step (.call 3 [82] 1)<|
 .step (.conv .i64 112)<|
 .step (.call 15 [110] 0)<|
 .step (.cell 0 114)<|
 .step (.cell 1 114)<|
 .step (.cell 2 114)<|
 .step (.cell 3 114)<|
 .step (.cell 4 114)<|
 .step (.cell 5 114)<|
 .step (.cell 6 114)<|
 .step (.call 15 [110] 1)<|
 .step (.call 15 [110] 2)<|
 .step (.bin .eql 112 19)<|
 .ite 124
 (.step (.bin .eql 123 19)<|
 .ite 125
 (.step (.mk [115,116,117,118,119,120,121])<|
 .step (.call 31 [126] 0)<|
 .step (.cell 0 127)<|
 .step (.cell 1 127)<|
 .step (.cell 2 127)<|
 .step (.cell 3 127)<|
 .step (.cell 4 127)<|
 .step (.cell 5 127)<|
 .step (.cell 6 127)<|
 .step (.mk [128,129,130,131,132,133,134])<|
 .step (.call 35 [135,100] 0)<|
 .ret [136])
 (.step (.cb false)<|
 .ret [126]))
 (.step (.cb false)<|
 .ret [125])))))
 (.step (.bin .eql 61 19)<|
 .ite 105
 (.step (.bin .neq 79 19)<|
 .ite 106
 (.step (.cb false)<|
 .ret [107])
 (.step (.bin .neq 62 19)<|
 .ite 107
 (.step (.ci .u64 0)<|
 .step (.ml [])<|
 .step (.mk [108,108,108,108,109,109,109])<|
 .step (.call 35 [100,110] 0)<|
 .ret [111])
 (.step (.call 3 [82] 0)<|
 .step (.sid 108)<|
 .step (.call 3 [82] 1)<|
 .step (.conv .i64 110)<|
 .step (.call 15 [108] 0)<|
 .step (.cell 0 112)<|
 .step (.cell 1 112)<|
 .step (.cell 2 112)<|
 .step (.cell 3 112)<|
 .step (.cell 4 112)<|
 .step (.cell 5 112)<|
 .step (.cell 6 112)<|
 .step (.call 15 [108] 1)<|
 .step (.call 15 [108] 2)<|
 .step (.bin .eql 110 19)<|
 .ite 122
 (.step (.bin .eql 121 19)<|
 .ite 123
 (.step (.mk [113,114,115,116,117,118,119])<|
 .step (.call 31 [124] 0)<|
 .step (.cell 0 125)<|
 .step (.cell 1 125)<|
 .step (.cell 2 125)<|
 .step (.cell 3 125)<|
 .step (.cell 4 125)<|
 .step (.cell 5 125)<|
 .step (.cell 6 125)<|
 .step (.mk [126,127,128,129,130,131,132])<|
 .step (.call 35 [133,100] 0)<|
 .ret [134])
 (.step (.cb false)<|
 .ret [124]))
 (.step (.cb false)<|
 .ret [123]))))
 (.step (.bin .neq 62 19)<|
 .ite 106
 (.step (.ci .u64 0)<|
 .step (.ml [])<|
 .step (.mk [107,107,107,107,108,108,108])<|
 .step (.call 35 [100,109] 0)<|
 .ret [110])
 (.step (.call 3 [82] 0)<|
 .step (.sid 107)<|
 .step (.call 3 [82] 1)<|
 .step (.conv .i64 109)<|
 .step (.call 15 [107] 0)<|
 .step (.cell 0 111)<|
 .step (.cell 1 111)<|
 .step (.cell 2 111)<|
 .step (.cell 3 111)<|
 .step (.cell 4 111)<|
 .step (.cell 5 111)<|
 .step (.cell 6 111)<|
 .step (.call 15 [107] 1)<|
 .step (.call 15 [107] 2)<|
 .step (.bin .eql 109 19)<|
 .ite 121
 (.step (.bin .eql 120 19)<|
 .ite 122
 (.step (.mk [112,113,114,115,116,117,118])<|
 .step (.call 31 [123] 0)<|
 .step (.cell 0 124)<|
 .step (.cell 1 124)<|
 .step (.cell 2 124)<|
 .step (.cell 3 124)<|
 .step (.cell 4 124)<|
 .step (.cell 5 124)<|
 .step (.cell 6 124)<|
 .step (.mk [125,126,127,128,129,130,131])<|
 .step (.call 35 [132,100] 0)<|
 .ret [133])
 (.step (.cb false)<|
 .ret [123]))
 (.step (.cb false)<|
 .ret [122])))))))))
 (.step (.call 15 [1] 0)<|
 .step (.cell 0 21)<|
 .step (.cell 1 21)<|
 .step (.cell 2 21)<|
 .step (.cell 3 21)<|
 .step (.cell 4 21)<|
 .step (.cell 5 21)<|
 .step (.cell 6 21)<|
 .step (.call 15 [1] 1)<|
 .step (.call 15 [1] 2)<|
 .step (.cs [32])<|
 .step (.cs [32,32])<|
 .step (.call 43 [1,31,32] 0)<|
 .step (.cs [10])<|
 .step (.cs [32,10,32,32])<|
 .step (.call 43 [33,34,35] 0)<|
 .step (.cs [35,32,120,10])<|
 .step (.bin .add 37 36)<|
 .step (.call 15 [38] 0)<|
 .step (.cell 0 39)<|
 .step (.cell 1 39)<|
 .step (.cell 2 39)<|
 .step (.cell 3 39)<|
 .step (.cell 4 39)<|
 .step (.cell 5 39)<|
 .step (.cell 6 39)<|
 .step (.call 15 [38] 1)<|
 .step (.call 15 [38] 2)<|
 .step (.bin .neq 30 48)<|
 .ite 49
 (.step (.cb false)<|
 .ret [50])
 (.step (.mk [22,23,24,25,26,27,28])<|
 .step (.call 31 [50] 0)<|
 .step (.cell 0 51)<|
 .step (.cell 1 51)<|
 .step (.cell 2 51)<|
 .step (.cell 3 51)<|
 .step (.cell 4 51)<|
 .step (.cell 5 51)<|
 .step (.cell 6 51)<|
 .step (.mk [40,41,42,43,44,45,46])<|
 .step (.call 31 [59] 0)<|
 .step (.cell 0 60)<|
 .step (.cell 1 60)<|
 .step (.cell 2 60)<|
 .step (.cell 3 60)<|
 .step (.cell 4 60)<|
 .step (.cell 5 60)<|
 .step (.cell 6 60)<|
 .step (.mk [52,53,54,55,56,57,58])<|
 .step (.mk [61,62,63,64,65,66,67])<|
 .step (.call 35 [68,69] 0)<|
 .step (.un .not 70)<|
 .ite 71
 (.step (.cb false)<|
 .ret [72])
 (.step (.bin .gtr 29 19)<|
 .ite 72
 (.step (.ci .i64 1)<|
 .step (.bin .add 29 73)<|
 .step (.bin .neq 47 74)<|
 .ite 75
 (.step (.cb false)<|
 .ret [76])
 (.step (.bin .eql 29 19)<|
 .ite 76
 (.step (.bin .neq 47 19)<|
 .ite 77
 (.step (.cb false)<|
 .ret [78])
 (.step (.bin .neq 30 19)<|
 .ite 78
 (.step (.ci .u64 0)<|
 .step (.ml [])<|
 .step (.mk [79,79,79,79,80,80,80])<|
 .step (.call 35 [68,81] 0)<|
 .ret [82])
 (.step (.call 3 [50] 0)<|
 .step (.sid 79)<|
 .step (.call 3 [50] 1)<|
 .step (.conv .i64 81)<|
 .step (.call 15 [79] 0)<|
 .step (.cell 0 83)<|
 .step (.cell 1 83)<|
 .step (.cell 2 83)<|
 .step (.cell 3 83)<|
 .step (.cell 4 83)<|
 .step (.cell 5 83)<|
 .step (.cell 6 83)<|
 .step (.call 15 [79] 1)<|
 .step (.call 15 [79] 2)<|
 .step (.bin .eql 81 19)<|
 .ite 93
 (.step (.bin .eql 92 19)<|
 .ite 94
 (.step (.mk [84,85,86,87,88,89,90])<|
 .step (.call 31 [95] 0)<|
 .step (.cell 0 96)<|
 .step (.cell 1 96)<|
 .step (.cell 2 96)<|
 .step (.cell 3 96)<|
 .step (.cell 4 96)<|
 .step (.cell 5 96)<|
 .step (.cell 6 96)<|
 .step (.mk [97,98,99,100,101,102,103])<|
 .step (.call 35 [104,68] 0)<|
 .ret [105])
 (.step (.cb false)<|
 .ret [95]))
 (.step (.cb false)<|
 .ret [94]))))
 (.step (.bin .neq 30 19)<|
 .ite 77
 (.step (.ci .u64 0)<|
 .step (.ml [])<|
 .step (.mk [78,78,78,78,79,79,79])<|
 .step (.call 35 [68,80] 0)<|
 .ret [81])
 (.step (.call 3 [50] 0)<|
 .step (.sid 78)<|
 .step (.call 3 [50] 1)<|
 .step (.conv .i64 80)<|
 .step (.call 15 [78] 0)<|
 .step (.cell 0 82)<|
 .step (.cell 1 82)<|
 .step (.cell 2 82)<|
 .step (.cell 3 82)<|
 .step (.cell 4 82)<|
 .step (.cell 5 82)<|
 .step (.cell 6 82)<|
 .step (.call 15 [78] 1)<|
 .step (.call 15 [78] 2)<|
 .step (.bin .eql 80 19)<|
 .ite 92
 (.step (.bin .eql 91 19)<|
 .ite 93
 (.step (.mk [83,84,85,86,87,88,89])<|
 .step (.call 31 [94] 0)<|
 .step (.cell 0 95)<|
 .step (.cell 1 95)<|
 .step (.cell 2 95)<|
 .step (.cell 3 95)<|
 .step (.cell 4 95)<|
 .step (.cell 5 95)<|
 .step (.cell 6 95)<|
 .step (.mk [96,97,98,99,100,101,102])<|
 .step (.call 35 [103,68] 0)<|
 .ret [104])
 (.step (.cb false)<|
 .ret [94]))
 (.step (.cb false)<|
 .ret [93])))))
 (.step (.bin .eql 29 19)<|
 .ite 73
 (.step (.bin .neq 47 19)<|
 .ite 74
 (.step (.cb false)<|
 .ret [75])
 (.step (.bin .neq 30 19)<|
 .ite 75
 (.step (.ci .u64 0)<|
 .step (.ml [])<|
 .step (.mk [76,76,76,76,77,77,77])<|
 .step (.call 35 [68,78] 0)<|
 .ret [79])
 (.step (.call 3 [50] 0)<|
 .step (.sid 76)<|
 .step (.call 3 [50] 1)<|
 .step (.conv .i64 78)<|
 .step (.call 15 [76] 0)<|
 .step (.cell 0 80)<|
 .step (.cell 1 80)<|
 .step (.cell 2 80)<|
 .step (.cell 3 80)<|
 .step (.cell 4 80)<|
 .step (.cell 5 80)<|
 .step (.cell 6 80)<|
 .step (.call 15 [76] 1)<|
 .step (.call 15 [76] 2)<|
 .step (.bin .eql 78 19)<|
 .ite 90
 (.step (.bin .eql 89 19)<|
 .ite 91
 (.step (.mk [81,82,83,84,85,86,87])<|
 .step (.call 31 [92] 0)<|
 .step (.cell 0 93)<|
 .step (.cell 1 93)<|
 .step (.cell 2 93)<|
 .step (.cell 3 93)<|
 .step (.cell 4 93)<|
 .step (.cell 5 93)<|
 .step (.cell 6 93)<|
 .step (.mk [94,95,96,97,98,99,100])<|
 .step (.call 35 [101,68] 0)<|
 .ret [102])
 (.step (.cb false)<|
 .ret [92]))
 (.step (.cb false)<|
 .ret [91]))))
 (.step (.bin .neq 30 19)<|
 .ite 74
 (.step (.ci .u64 0)<|
 .step (.ml [])<|
 .step (.mk [75,75,75,75,76,76,76])<|
 .step (.call 35 [68,77] 0)<|
 .ret [78])
 (.step (.call 3 [50] 0)<|
 .step (.sid 75)<|
 .step (.call 3 [50] 1)<|
 .step (.conv .i64 77)<|
 .step (.call 15 [75] 0)<|
 .step (.cell 0 79)<|
 .step (.cell 1 79)<|
 .step (.cell 2 79)<|
 .step (.cell 3 79)<|
 .step (.cell 4 79)<|
 .step (.cell 5 79)<|
 .step (.cell 6 79)<|
 .step (.call 15 [75] 1)<|
 .step (.call 15 [75] 2)<|
 .step (.bin .eql 77 19)<|
 .ite 89
 (.step (.bin .eql 88 19)<|
 .ite 90
 (.step (.mk [80,81,82,83,84,85,86])<|
 .step (.call 31 [91] 0)<|
 .step (.cell 0 92)<|
 .step (.cell 1 92)<|
 .step (.cell 2 92)<|
 .step (.cell 3 92)<|
 .step (.cell 4 92)<|
 .step (.cell 5 92)<|
 .step (.cell 6 92)<|
 .step (.mk [93,94,95,96,97,98,99])<|
 .step (.call 35 [100,68] 0)<|
 .ret [101])
 (.step (.cb false)<|
 .ret [91]))
 (.step (.cb false)<|
 .ret [90])))))))))
def d30:PDef:=.tree 8<|
 .step (.ci .i64 0)<|
 .step (.at 1 0 8)<|
 .step (.cell 0 9)<|
 .step (.cs [112,97,105,114])<|
 .step (.bin .neq 10 11)<|
 .ite 12
 (.step (.ci .i64 23)<|
 .ret [8,13,1,2,3,4])
 (.step (.len 0)<|
 .step (.ci .i64 5)<|
 .step (.bin .neq 13 14)<|
 .ite 15
 (.step (.ci .i64 23)<|
 .ret [8,16,1,2,3,4])
 (.step (.ci .i64 1)<|
 .step (.lsub 1 0 16 13)<|
 .step (.ci .u64 18446744073709551615)<|
 .step (.ml [18,18,18,18])<|
 .step (.call 20 [17,19] 0)<|
 .step (.call 20 [17,19] 1)<|
 .step (.bin .neq 21 8)<|
 .ite 22
 (.ret [8,21,1,2,3,4])
 (.step (.at 1 20 8)<|
 .step (.cell 0 23)<|
 .step (.at 1 20 16)<|
 .step (.cell 0 25)<|
 .step (.ci .i64 2)<|
 .step (.at 1 20 27)<|
 .step (.cell 0 28)<|
 .step (.ci .i64 3)<|
 .step (.at 1 20 30)<|
 .step (.cell 0 31)<|
 .ret [8,8,24,26,29,32])))
def d29:PDef:=.tree 9<|
 .step (.ci .i64 0)<|
 .step (.at 1 1 9)<|
 .step (.cell 0 10)<|
 .step (.cs [116,104,101,114,101])<|
 .step (.bin .eql 11 12)<|
 .ite 13
 (.step (.call 24 [1] 0)<|
 .step (.cell 0 14)<|
 .step (.cell 1 14)<|
 .step (.cell 2 14)<|
 .step (.cell 3 14)<|
 .step (.cell 4 14)<|
 .step (.cell 5 14)<|
 .step (.call 24 [1] 1)<|
 .step (.bin .neq 21 9)<|
 .ite 22
 (.ret [9,21,6,7,8])
 (.step (.len 6)<|
 .step (.len 7)<|
 .step (.bin .add 23 24)<|
 .step (.ci .i64 200)<|
 .step (.bin .eql 25 26)<|
 .ite 27
 (.step (.ci .i64 13)<|
 .ret [9,28,6,7,8])
 (.step (.mk [15,16,17,18,19,20])<|
 .step (.ml [28])<|
 .step (.app 6 32 6 29)<|
 .ret [9,9,30,7,8])))
 (.step (.cs [98,97,99,107])<|
 .step (.bin .eql 11 14)<|
 .ite 15
 (.step (.call 24 [1] 0)<|
 .step (.cell 0 16)<|
 .step (.cell 1 16)<|
 .step (.cell 2 16)<|
 .step (.cell 3 16)<|
 .step (.cell 4 16)<|
 .step (.cell 5 16)<|
 .step (.call 24 [1] 1)<|
 .step (.bin .neq 23 9)<|
 .ite 24
 (.ret [9,23,6,7,8])
 (.step (.len 6)<|
 .step (.len 7)<|
 .step (.bin .add 25 26)<|
 .step (.ci .i64 200)<|
 .step (.bin .eql 27 28)<|
 .ite 29
 (.step (.ci .i64 13)<|
 .ret [9,30,6,7,8])
 (.step (.mk [17,18,19,20,21,22])<|
 .step (.ml [30])<|
 .step (.app 6 32 7 31)<|
 .ret [9,9,6,32,8])))
 (.step (.call 25 [1] 0)<|
 .step (.cell 0 16)<|
 .step (.cell 1 16)<|
 .step (.cell 2 16)<|
 .step (.cell 3 16)<|
 .step (.cell 4 16)<|
 .step (.call 25 [1] 1)<|
 .step (.bin .neq 22 9)<|
 .ite 23
 (.ret [9,22,6,7,8])
 (.step (.len 8)<|
 .step (.ci .i64 1000)<|
 .step (.bin .eql 24 25)<|
 .ite 26
 (.step (.ci .i64 13)<|
 .ret [9,27,6,7,8])
 (.step (.mk [0,18,19,20,21])<|
 .step (.ml [27])<|
 .step (.app 5 48 8 28)<|
 .ret [9,9,6,7,29]))))
def d17:PDef:=.tree 11<|
 .step (.bin .lss 3 2)<|
 .ite 11
 (.step (.at 1 1 3)<|
 .step (.cell 0 12)<|
 .step (.call 18 [13] 0)<|
 .step (.len 14)<|
 .step (.ci .i64 0)<|
 .step (.bin .eql 15 16)<|
 .ite 17
 (.step (.ci .i64 1)<|
 .step (.bin .add 3 18)<|
 .tail 17 [0,1,2,19,4,5,6,7,8,9,10])
 (.step (.at 1 14 16)<|
 .step (.cell 0 18)<|
 .step (.sidx 19 16)<|
 .step (.ci .u8 35)<|
 .step (.bin .eql 20 21)<|
 .ite 22
 (.step (.ci .i64 1)<|
 .step (.bin .add 3 23)<|
 .tail 17 [0,1,2,24,4,5,6,7,8,9,10])
 (.ite 0
 (.step (.ci .i64 1)<|
 .step (.bin .add 3 23)<|
 .step (.call 29 [24,14,4,5,6,7,8,9,10] 0)<|
 .step (.call 29 [24,14,4,5,6,7,8,9,10] 1)<|
 .step (.call 29 [24,14,4,5,6,7,8,9,10] 2)<|
 .step (.call 29 [24,14,4,5,6,7,8,9,10] 3)<|
 .step (.call 29 [24,14,4,5,6,7,8,9,10] 4)<|
 .step (.bin .neq 26 16)<|
 .ite 30
 (.ret [16,24,26])
 (.tail 17 [0,1,2,24,4,5,6,7,27,28,29]))
 (.step (.call 30 [14,4,5,6,7,8,9,10] 0)<|
 .step (.call 30 [14,4,5,6,7,8,9,10] 1)<|
 .step (.call 30 [14,4,5,6,7,8,9,10] 2)<|
 .step (.call 30 [14,4,5,6,7,8,9,10] 3)<|
 .step (.call 30 [14,4,5,6,7,8,9,10] 4)<|
 .step (.call 30 [14,4,5,6,7,8,9,10] 5)<|
 .step (.bin .neq 24 16)<|
 .ite 29
 (.step (.ci .i64 1)<|
 .step (.bin .add 3 30)<|
 .ret [16,31,24])
 (.step (.ci .i64 1)<|
 .step (.bin .add 3 30)<|
 .step (.cb true)<|
 .tail 17 [32,1,2,31,25,26,27,28,8,9,10])))))
 (.step (.ci .i64 1)<|
 .ret [12,0,4,5,6,7,8,9,10])
def d33:PDef:=.tree 4<|
 .step (.bin .lss 3 2)<|
 .ite 4
 (.step (.at 6 1 3)<|
 .step (.cell 0 5)<|
 .step (.cell 1 5)<|
 .step (.cell 2 5)<|
 .step (.cell 3 5)<|
 .step (.cell 4 5)<|
 .step (.cell 5 5)<|
 .step (.mk [6,7,8,9,10,11])<|
 .step (.ml [12])<|
 .step (.app 6 32 0 13)<|
 .step (.ci .i64 1)<|
 .step (.bin .add 3 15)<|
 .tail 33 [14,1,2,16])
 (.step (.ci .i64 0)<|
 .ret [5,0])
def d38:PDef:=.tree 16<|
 .step (.bin .lss 1 0)<|
 .ite 16
 (.step (.at 5 15 1)<|
 .step (.cell 0 17)<|
 .step (.cell 1 17)<|
 .step (.cell 2 17)<|
 .step (.cell 3 17)<|
 .step (.cell 4 17)<|
 .step (.mk [18,19,20,21,22])<|
 .step (.call 39 [23] 0)<|
 .step (.call 39 [23] 1)<|
 .step (.at 5 8 1)<|
 .step (.cell 0 26)<|
 .step (.cell 1 26)<|
 .step (.cell 2 26)<|
 .step (.cell 3 26)<|
 .step (.cell 4 26)<|
 .step (.mk [27,28,29,30,31])<|
 .step (.call 39 [32] 0)<|
 .step (.call 39 [32] 1)<|
 .step (.bin .neq 24 33)<|
 .ite 35
 (.step (.ci .i64 0)<|
 .ret [36])
 (.step (.bin .neq 25 34)<|
 .ite 36
 (.step (.ci .i64 0)<|
 .ret [37])
 (.step (.ci .i64 1)<|
 .step (.bin .add 1 37)<|
 .tail 38 [0,38,2,3,4,5,6,7,8,9,10,11,12,13,14,15])))
 (.step (.ci .i64 1)<|
 .ret [17])
def d45:PDef:=.tree 2<|
 .step (.ci .i64 1000)<|
 .step (.bin .lss 0 2)<|
 .ite 3
 (.step (.ci .i64 0)<|
 .step (.ci .u8 5)<|
 .step (.ci .u64 0)<|
 .step (.cs [])<|
 .step (.mk [4,5,4,6,7])<|
 .step (.ml [8])<|
 .step (.app 5 48 1 9)<|
 .step (.ci .i64 1)<|
 .step (.bin .add 0 11)<|
 .tail 45 [12,10])
 (.step (.ci .i64 0)<|
 .ret [4,1])
def d21:PDef:=.tree 5<|
 .step (.bin .lss 4 3)<|
 .ite 5
 (.step (.at 1 2 4)<|
 .step (.cell 0 6)<|
 .step (.at 1 0 4)<|
 .step (.cell 0 8)<|
 .step (.call 22 [9] 0)<|
 .step (.call 22 [9] 1)<|
 .step (.ci .i64 0)<|
 .step (.bin .neq 11 12)<|
 .ite 13
 (.ret [12,11])
 (.step (.bin .gtr 10 7)<|
 .ite 14
 (.step (.ci .i64 18)<|
 .ret [12,15])
 (.step (.ml [10])<|
 .step (.app 1 8 1 15)<|
 .step (.ci .i64 1)<|
 .step (.bin .add 4 17)<|
 .tail 21 [0,16,2,3,18])))
 (.step (.ci .i64 1)<|
 .ret [6,1])
def d42:PDef:=.tree 5<|
 .step (.slen 0)<|
 .step (.bin .lss 4 5)<|
 .ite 6
 (.step (.sidx 0 4)<|
 .step (.bin .eql 7 1)<|
 .ite 8
 (.step (.ssub 0 3 4)<|
 .step (.ml [9])<|
 .step (.app 1 16 2 10)<|
 .step (.ci .i64 1)<|
 .step (.bin .add 4 12)<|
 .tail 42 [0,1,11,13,13])
 (.step (.ci .i64 1)<|
 .step (.bin .add 4 9)<|
 .tail 42 [0,1,2,3,10]))
 (.step (.ci .i64 0)<|
 .ret [7,2,3])
def d37:PDef:=.tree 4<|
 .step (.bin .lss 3 2)<|
 .ite 4
 (.step (.at 6 0 3)<|
 .step (.cell 0 5)<|
 .step (.cell 1 5)<|
 .step (.cell 2 5)<|
 .step (.cell 3 5)<|
 .step (.cell 4 5)<|
 .step (.cell 5 5)<|
 .ite 6
 (.step (.at 6 1 3)<|
 .step (.cell 0 12)<|
 .step (.cell 1 12)<|
 .step (.cell 2 12)<|
 .step (.cell 3 12)<|
 .step (.cell 4 12)<|
 .step (.cell 5 12)<|
 .ite 13
 (.step (.ci .i64 1)<|
 .step (.bin .add 3 19)<|
 .tail 37 [0,1,2,20])
 (.step (.cb true)<|
 .step (.ci .u8 0)<|
 .step (.ci .i64 0)<|
 .step (.mk [19,20,20,21,21,20])<|
 .step (.cb false)<|
 .step (.mk [23,14,15,16,17,18])<|
 .step (.binc .neq [2,0,0,0,0,0] 22 24)<|
 .ite 25
 (.ret [21])
 (.step (.ci .i64 1)<|
 .step (.bin .add 3 26)<|
 .tail 37 [0,1,2,27])))
 (.step (.at 6 1 3)<|
 .step (.cell 0 12)<|
 .step (.cell 1 12)<|
 .step (.cell 2 12)<|
 .step (.cell 3 12)<|
 .step (.cell 4 12)<|
 .step (.cell 5 12)<|
 .ite 13
 (.step (.cb false)<|
 .step (.mk [19,7,8,9,10,11])<|
 .step (.cb true)<|
 .step (.ci .u8 0)<|
 .step (.ci .i64 0)<|
 .step (.mk [21,22,22,23,23,22])<|
 .step (.binc .neq [2,0,0,0,0,0] 20 24)<|
 .ite 25
 (.ret [23])
 (.step (.ci .i64 1)<|
 .step (.bin .add 3 26)<|
 .tail 37 [0,1,2,27]))
 (.step (.cb false)<|
 .step (.mk [19,7,8,9,10,11])<|
 .step (.mk [19,14,15,16,17,18])<|
 .step (.binc .neq [2,0,0,0,0,0] 20 21)<|
 .ite 22
 (.step (.ci .i64 0)<|
 .ret [23])
 (.step (.ci .i64 1)<|
 .step (.bin .add 3 23)<|
 .tail 37 [0,1,2,24]))))
 (.step (.ci .i64 1)<|
 .ret [5])
def d34:PDef:=.tree 10<|
 .step (.bin .lss 2 1)<|
 .ite 10
 (.step (.at 5 0 2)<|
 .step (.cell 0 11)<|
 .step (.cell 1 11)<|
 .step (.cell 2 11)<|
 .step (.cell 3 11)<|
 .step (.cell 4 11)<|
 .step (.mk [12,13,14,15,16])<|
 .step (.ml [17])<|
 .step (.app 5 48 9 18)<|
 .step (.ci .i64 1)<|
 .step (.bin .add 2 20)<|
 .tail 34 [0,1,21,3,4,5,6,7,8,19])
 (.step (.ci .i64 0)<|
 .ret [11,9])
def d2:PDef:=.tree 9<|
 .step (.bin .lss 2 1)<|
 .ite 9
 (.step (.at 5 0 2)<|
 .step (.cell 0 10)<|
 .step (.cell 1 10)<|
 .step (.cell 2 10)<|
 .step (.cell 3 10)<|
 .step (.cell 4 10)<|
 .step (.slen 15)<|
 .step (.ci .i64 300)<|
 .step (.bin .gtr 16 17)<|
 .ite 18
 (.step (.ci .i64 0)<|
 .ret [19])
 (.step (.ci .i64 1)<|
 .step (.bin .add 2 19)<|
 .tail 2 [0,1,20,3,4,5,6,7,8]))
 (.step (.ci .i64 1)<|
 .ret [10])
def d8:PDef:=.tree 10<|
 .step (.bin .lss 2 1)<|
 .ite 10
 (.step (.at 6 0 2)<|
 .step (.cell 0 11)<|
 .step (.cell 1 11)<|
 .step (.cell 2 11)<|
 .step (.cell 3 11)<|
 .step (.cell 4 11)<|
 .step (.cell 5 11)<|
 .step (.cs [116,104,101,114,101])<|
 .step (.mk [12,13,14,15,16,17])<|
 .step (.call 9 [18,19] 0)<|
 .step (.call 9 [18,19] 1)<|
 .step (.ci .i64 0)<|
 .step (.bin .neq 21 22)<|
 .ite 23
 (.ret [22,21])
 (.step (.bytes 20)<|
 .step (.app 1 1 3 24)<|
 .step (.slen 20)<|
 .step (.ci .i64 1)<|
 .step (.bin .add 2 27)<|
 .tail 8 [0,1,28,25,4,5,6,7,8,9]))
 (.step (.ci .i64 1)<|
 .ret [11,3])
def d12:PDef:=.tree 4<|
 .step (.bin .lss 2 1)<|
 .ite 4
 (.step (.at 5 0 2)<|
 .step (.cell 0 5)<|
 .step (.cell 1 5)<|
 .step (.cell 2 5)<|
 .step (.cell 3 5)<|
 .step (.cell 4 5)<|
 .step (.mk [6,7,8,9,10])<|
 .step (.call 13 [11] 0)<|
 .step (.call 13 [11] 1)<|
 .step (.ci .i64 0)<|
 .step (.bin .neq 13 14)<|
 .ite 15
 (.ret [14,13])
 (.step (.bytes 12)<|
 .step (.app 1 1 3 16)<|
 .step (.slen 12)<|
 .step (.ci .i64 1)<|
 .step (.bin .add 2 19)<|
 .tail 12 [0,1,20,17]))
 (.step (.ci .i64 1)<|
 .ret [5,3])
def d11:PDef:=.tree 10<|
 .step (.bin .lss 2 1)<|
 .ite 10
 (.step (.at 6 0 2)<|
 .step (.cell 0 11)<|
 .step (.cell 1 11)<|
 .step (.cell 2 11)<|
 .step (.cell 3 11)<|
 .step (.cell 4 11)<|
 .step (.cell 5 11)<|
 .step (.cs [98,97,99,107])<|
 .step (.mk [12,13,14,15,16,17])<|
 .step (.call 9 [18,19] 0)<|
 .step (.call 9 [18,19] 1)<|
 .step (.ci .i64 0)<|
 .step (.bin .neq 21 22)<|
 .ite 23
 (.ret [22,21])
 (.step (.bytes 20)<|
 .step (.app 1 1 3 24)<|
 .step (.slen 20)<|
 .step (.ci .i64 1)<|
 .step (.bin .add 2 27)<|
 .tail 11 [0,1,28,25,4,5,6,7,8,9]))
 (.step (.ci .i64 1)<|
 .ret [11,3])
def Ds:List PDef:=[d0,d1,d2,d3,d4,d5,d6,d7,d8,d9,d10,d11,d12,d13,d14,d15,d16,d17,d18,.prim λ_=>none,d20,d21,d22,.prim λ_=>none,d24,d25,d26,.prim λ_=>none,.prim λ_=>none,d29,d30,d31,d32,d33,d34,d35,d36,d37,d38,d39,d40,d41,d42,d43,d44,d45]
noncomputable abbrev TT:PProg:=TofL Ds
end
end Q
end Go.Proofs.YtdpjiaedcmagdaaGreatDoor
