/- What functions and loops compute: trees of nodes, found by a driver. -/
import Derived.Test.YthgifdbaegpbpaaGreatDoorAbsJ
import Derived.Test.YthgifdbaegpbpaaGreatDoorAbsPl
import Derived.Test.YthgifdbaegpbpaaGreatDoorAbsTold
import Derived.Test.YthgifdbaegpbpaaGreatDoorAbsTold3
import Derived.Test.YthgifdbaegpbpaaGreatDoorAbsFields
import Derived.Test.YthgifdbaegpbpaaGreatDoorAbsSortF
namespace Go.Proofs.YthgifdbaegpbpaaGreatDoor
open Go Go.aP
set_option maxRecDepth 100000
set_option linter.unusedVariables false
set_option linter.unusedSimpArgs false
namespace Q
noncomputable section
abbrev sB (o:BinOp) (a b:Nat) (t:Tree):Tree:=.step (.bin o a b) t
abbrev sC (f:Nat) (l:List Nat) (j:Nat) (t:Tree):Tree:=.step (.call f l j) t
abbrev sL (o a:Nat) (t:Tree):Tree:=.step (.cell o a) t
abbrev sI (n:Int) (t:Tree):Tree:=.step (.ci .i64 n) t
abbrev sA (s a i:Nat) (t:Tree):Tree:=.step (.at s a i) t
abbrev sS (a j:Nat) (t:Tree):Tree:=.step (.uP a j) t
abbrev sT (l:List UInt8) (t:Tree):Tree:=.step (.cs l) t
abbrev au (v0 v6:Nat):Tree:=.tail 161 [v0,1,2,3,4,5,v6,7,8,9,10,11,12,13,14,15,16,17,18,19,20,21,22]
abbrev jD (v3:Nat):Tree:=.tail 43 [0,1,2,v3,4,5,6,7,8,9,10,11,12,13,14,15,16,17,18,19,20,21,22,23,24,25,26,27,28]
abbrev kG (v2:Nat):Tree:=.tail 44 [0,1,v2,3,4,5,6,7,8,9,10,11,12,13,14,15,16,17,18,19,20,21,22,23,24,25,26]
abbrev F6 (v2:Nat):Tree:=.tail 140 [0,1,v2,3,4,5,6,7,8,9,10,11,12,13,14,15,16,17,18,19,20,21,22,23,24,25,26]
abbrev LQ (v0 v3:Nat):Tree:=.tail 82 [v0,1,2,v3,4,5,6,7,8,9,10,11,12,13,14,15,16,17,18,19,20,21,22,23,24,25,26,27]
def Zb:aF:=.fn [.ag 2] [.sc]<|sL 0 0<|sL 1 0<|sI 1<|sI 64<|sC 125 [1,3,4] 0<|sI 0<|sB .neq 5 6<|
 .ite 7
 (.ret [5])
 (sI 256<|sC 125 [2,6,8] 0<|.ret [9])
def d87:aF:=.fn [.sc,.sc] [.sc]<|sI 0<|sC 88 [0,1,2] 0<|sC 88 [0,1,2] 1<|.ret [4]
def Y6:aF:=.fn [.sc] [.sc]<|.step (.len 0)<|sI 256<|sB .gtr 1 2<|.ite 3
 (sI 13<|.ret [4])
 (sI 0<|sC 120 [0,1,4] 0<|sB .eql 5 4<|.ite 6
 (sC 120 [0,1,4] 1<|.ret [7])
 (.ret [4]))
def Zi:aF:=.fn [.ag 2,.ag 2] [.sc]<|sL 0 0<|sL 1 0<|sL 0 1<|sL 1 1<|sC 132 [2,4] 0<|.ite 6
 (sI (-1)<|.ret [7])
 (sB .eql 2 4<|.ite 7
 (sC 132 [3,5] 0<|.ite 8
 (sI (-1)<|.ret [9])
 (.step (.mk [2,3])<|.step (.mk [4,5])<|.step (.vN .eql [1,1] 9 10)<|.ite 11
 (sI 0<|.ret [12])
 (sI 1<|.ret [12])))
 (.step (.mk [2,3])<|.step (.mk [4,5])<|.step (.vN .eql [1,1] 8 9)<|.ite 10
 (sI 0<|.ret [11])
 (sI 1<|.ret [11])))
def d31:aF:=.fn [.sc,.sc] [.sc]<|sI 0<|sB .eql 0 2<|sI 1<|sB .eql 0 4<|.ite 5
 (sB .lss 1 4<|.ite 6
 (.step (.ml [])<|.ret [7])
 (sI 3<|sB .gtr 1 7<|.ite 8
 (.step (.ml [])<|.ret [9])
 (sC 32 [] 0<|.step (.len 9)<|.step (.ml [])<|sC 33 [1,11,9,10,2] 0<|sC 33 [1,11,9,10,2] 1<|.ret [13])))
 (sI 2<|sB .eql 0 6<|.ite 7
 (sB .lss 1 4<|.ite 8
 (.step (.ml [])<|.ret [9])
 (sI 3<|sB .gtr 1 9<|.ite 10
 (.step (.ml [])<|.ret [11])
 (sC 34 [] 0<|.step (.len 11)<|.step (.ml [])<|sC 33 [1,13,11,12,2] 0<|sC 33 [1,13,11,12,2] 1<|.ret [15])))
 (sI 3<|sB .eql 0 8<|.ite 9
 (sB .lss 1 4<|.ite 10
 (.step (.ml [])<|.ret [11])
 (sB .gtr 1 8<|.ite 11
 (.step (.ml [])<|.ret [12])
 (sC 35 [] 0<|.step (.len 12)<|.step (.ml [])<|sC 33 [1,14,12,13,2] 0<|sC 33 [1,14,12,13,2] 1<|.ret [16])))
 (sI 4<|sB .eql 0 10<|.ite 11
 (sB .lss 1 4<|.ite 12
 (.step (.ml [])<|.ret [13])
 (sB .gtr 1 8<|.ite 13
 (.step (.ml [])<|.ret [14])
 (sC 36 [] 0<|.step (.len 14)<|.step (.ml [])<|sC 33 [1,16,14,15,2] 0<|sC 33 [1,16,14,15,2] 1<|.ret [18])))
 (sI 5<|sB .eql 0 12<|.ite 13
 (sB .lss 1 4<|.ite 14
 (.step (.ml [])<|.ret [15])
 (sB .gtr 1 8<|.ite 15
 (.step (.ml [])<|.ret [16])
 (sC 37 [] 0<|.step (.len 16)<|.step (.ml [])<|sC 33 [1,18,16,17,2] 0<|sC 33 [1,18,16,17,2] 1<|.ret [20])))
 (sI 6<|sB .eql 0 14<|.ite 15
 (sB .lss 1 6<|.ite 16
 (.step (.ml [])<|.ret [17])
 (sB .gtr 1 8<|.ite 17
 (.step (.ml [])<|.ret [18])
 (sC 38 [] 0<|.step (.len 18)<|.step (.ml [])<|sC 33 [1,20,18,19,2] 0<|sC 33 [1,20,18,19,2] 1<|.ret [22])))
 (sI 7<|sB .eql 0 16<|.ite 17
 (sB .lss 1 4<|.ite 18
 (.step (.ml [])<|.ret [19])
 (sB .gtr 1 8<|.ite 19
 (.step (.ml [])<|.ret [20])
 (sC 39 [] 0<|.step (.len 20)<|.step (.ml [])<|sC 33 [1,22,20,21,2] 0<|sC 33 [1,22,20,21,2] 1<|.ret [24])))
 (sI 8<|sB .eql 0 18<|.ite 19
 (sB .lss 1 4<|.ite 20
 (.step (.ml [])<|.ret [21])
 (sB .gtr 1 8<|.ite 21
 (.step (.ml [])<|.ret [22])
 (sC 40 [] 0<|.step (.len 22)<|.step (.ml [])<|sC 33 [1,24,22,23,2] 0<|sC 33 [1,24,22,23,2] 1<|.ret [26])))
 (.step (.ml [])<|.ret [20]))))))))
def d1:aF:=.fn [.ag 24,.sc] [.sc]<|sL 0 0<|sL 1 0<|sL 2 0<|sL 3 0<|sL 4 0<|sL 5 0<|sL 6 0<|sL 7 0<|
 sL 8 0<|sL 9 0<|sL 10 0<|sL 11 0<|sL 12 0<|sL 13 0<|sL 14 0<|sL 15 0<|sL 16 0<|
 sL 17 0<|sL 18 0<|sL 19 0<|sL 20 0<|sL 21 0<|sL 22 0<|sL 23 0<|.step (.mk [2,3,4,5,6,7,8,9,10,11,12,13,14,15,16,17,18,19,20,21,22,23,24,25])<|
 sC 2 [26] 0<|.step (.un .not 27)<|.ite 28
 (.step (.cb true)<|.ret [29])
 (sC 16 [26] 0<|sL 0 29<|sL 1 29<|sL 2 29<|sL 3 29<|sL 4 29<|sL 5 29<|sL 6 29<|sL 7 29<|
 sL 8 29<|sL 9 29<|sL 10 29<|sL 11 29<|sL 12 29<|sL 13 29<|sL 14 29<|sL 15 29<|sL 16 29<|
 sL 17 29<|sL 18 29<|sL 19 29<|sL 20 29<|sL 21 29<|sL 22 29<|sL 23 29<|.step (.mk [30,31,32,33,34,35,36,37,38,39,40,41,42,43,44,45,46,47,48,49,50,51,52,53])<|
 sC 20 [54] 0<|sL 0 55<|sL 1 55<|sL 2 55<|sL 3 55<|sL 4 55<|sL 5 55<|sL 6 55<|sL 7 55<|
 sL 8 55<|sL 9 55<|sL 10 55<|sL 11 55<|sL 12 55<|sL 13 55<|sL 14 55<|sL 15 55<|sL 16 55<|
 sL 17 55<|sL 18 55<|sL 19 55<|sL 20 55<|sL 21 55<|sL 22 55<|sL 23 55<|sC 27 [54,1] 0<|sC 27 [54,1] 1<|
 .step (.mk [56,57,58,59,60,61,62,63,64,65,66,67,68,69,70,71,72,73,74,75,76,77,78,79])<|sC 98 [82,1] 0<|sC 98 [82,1] 1<|sC 28 [54,1] 0<|
 sC 28 [54,1] 1<|sC 146 [82,1] 0<|sC 146 [82,1] 1<|sC 155 [54,1] 0<|sC 155 [54,1] 1<|sI 0<|sB .eql 84 91<|
 .ite 92
 (sC 162 [83] 0<|sB .eql 80 83<|.ite 94
 (sB .eql 81 84<|.ite 95
 (sC 25 [85] 0<|sC 166 [96,87] 0<|.ite 97
 (sB .eql 86 88<|.ite 98
 (sB .eql 89 93<|.ite 99
 (sB .eql 90 84<|.ite 100
 (sC 168 [54,1] 0<|.step (.cb true)<|.step (.vM .eql 101 102)<|.ret [103])
 (.step (.cb false)<|.ret [101]))
 (.step (.cb false)<|.ret [100]))
 (.step (.cb false)<|.ret [99]))
 (.step (.cb false)<|.ret [98]))
 (.step (.cb false)<|.ret [96]))
 (.step (.cb false)<|.ret [95]))
 (sB .eql 80 83<|.ite 93
 (sB .eql 81 84<|.ite 94
 (sC 25 [85] 0<|sC 166 [95,87] 0<|.ite 96
 (sB .eql 86 88<|.ite 97
 (sT []<|sB .eql 89 98<|.ite 99
 (sB .eql 90 84<|.ite 100
 (sC 168 [54,1] 0<|.step (.cb false)<|.step (.vM .eql 101 102)<|.ret [103])
 (.step (.cb false)<|.ret [101]))
 (.step (.cb false)<|.ret [100]))
 (.step (.cb false)<|.ret [98]))
 (.step (.cb false)<|.ret [97]))
 (.step (.cb false)<|.ret [95]))
 (.step (.cb false)<|.ret [94])))
def Y9:aF:=.fn [.sc] [.sc]<|.step (.len 0)<|.step (.conv .u64 1)<|.step (.ci .u64 0)<|sB .eql 2 3<|.ite 4
 (sI 12<|sI 0<|sC 123 [0,5,6] 0<|sC 123 [0,5,6] 1<|.ret [8])
 (.step (.ci .u64 16)<|sB .gtr 2 5<|.ite 6
 (sI 13<|sI 0<|sC 123 [0,7,8] 0<|sC 123 [0,7,8] 1<|.ret [10])
 (sI 0<|sC 123 [0,7,7] 0<|sC 123 [0,7,7] 1<|.ret [9]))
def d39:aF:=.fn [] [.sc]<|.step (.ci .u64 1)<|sI 0<|sI 1<|sT [101,112,111,99,104]<|.step (.mk [0,1,2,3])<|.step (.ci .u64 2)<|sI 3<|
 sT [108,97,103]<|.step (.mk [5,1,6,7])<|.step (.ml [4,8])<|.ret [9]
def Zp:aF:=.fn [.sc,.sc] [.sc]<|sI 0<|sC 139 [0,1,2] 0<|sB .eql 3 2<|.ite 4
 (sC 139 [0,1,2] 1<|.ret [5])
 (.step (.slen 0)<|.step (.slen 1)<|.step (.mm false 5 6)<|.ret [7])
def Zm:aF:=.fn [.sc] [.sc]<|.step (.len 0)<|.step (.conv .u64 1)<|sC 114 [2] 0<|sI 0<|sC 136 [0,3,1,4] 0<|sC 136 [0,3,1,4] 1<|
 .ret [6]
def d32:aF:=.fn [] [.sc]<|.step (.ci .u64 1)<|sI 0<|sI 1<|sT [109,105,110]<|.step (.mk [0,1,2,3])<|.step (.ci .u64 2)<|sT [109,97,120]<|
 .step (.mk [5,1,2,6])<|.step (.ci .u64 3)<|sI 3<|sT [110,97,109,101]<|.step (.mk [8,9,2,10])<|.step (.ci .u64 4)<|sI 2<|sT [114,101,103,105,111,110]<|
 .step (.mk [12,9,13,14])<|.step (.ci .u64 5)<|sT [102,108,97,103,115]<|.step (.mk [16,1,9,17])<|.step (.ml [4,7,11,15,18])<|.ret [19]
def d98:aF:=.fn [.ag 24,.sc] [.sc,.sc]<|sL 0 0<|sL 1 0<|sL 2 0<|sL 3 0<|sL 4 0<|sL 5 0<|sL 6 0<|
 sL 7 0<|sL 8 0<|sL 9 0<|sL 10 0<|sL 11 0<|sL 12 0<|sL 13 0<|sL 14 0<|sL 15 0<|sL 16 0<|
 sL 17 0<|sL 18 0<|sL 19 0<|sL 20 0<|sL 21 0<|sL 22 0<|sL 23 0<|.step (.mk [2,3,4,5,6,7,8,9,10,11,12,13,14,15,16,17,18,19,20,21,22,23,24,25])<|
 sC 99 [26,1] 0<|sI 0<|sB .neq 27 28<|.ite 29
 (sT []<|.ret [30,27])
 (sC 145 [26,1] 0<|.step (.slen 30)<|sI 65536<|sB .gtr 31 32<|.ite 33
 (sT []<|sI 4<|.ret [34,35])
 (.ret [30,28]))
def Zl:aF:=.fn [.sc,.sc] [.sc]<|sT []<|.step (.mk [0,2])<|.step (.mk [1,2])<|sC 131 [3,4] 0<|sI 0<|sB .lss 5 6<|.ret [7]
def ZK:aF:=.fn [.ag 24,.sc] [.sc,.sc]<|sL 0 0<|sL 1 0<|sL 2 0<|sL 3 0<|sL 4 0<|sL 5 0<|sL 6 0<|
 sL 7 0<|sL 8 0<|sL 9 0<|sL 10 0<|sL 11 0<|sL 12 0<|sL 13 0<|sL 14 0<|sL 15 0<|sL 16 0<|
 sL 17 0<|sL 18 0<|sL 19 0<|sL 20 0<|sL 21 0<|sL 22 0<|sL 23 0<|.step (.mk [2,3,4,5,6,7,8,9,10,11,12,13,14,15,16,17,18,19,20,21,22,23,24,25])<|
 sC 27 [26,1] 0<|sC 27 [26,1] 1<|sI 0<|sB .neq 28 29<|.ite 30
 (sT []<|.ret [31,28])
 (sC 156 [27] 0<|sC 156 [27] 1<|.ret [31,32])
def d99:aF:=.fn [.ag 24,.sc] [.sc]<|sL 0 0<|sL 1 0<|sL 2 0<|sL 3 0<|sL 4 0<|sL 5 0<|sL 6 0<|sL 7 0<|
 sL 8 0<|sL 9 0<|sL 10 0<|sL 11 0<|sL 12 0<|sL 13 0<|sL 14 0<|sL 15 0<|sL 16 0<|
 sL 17 0<|sL 18 0<|sL 19 0<|sL 20 0<|sL 21 0<|sL 22 0<|sL 23 0<|sI 1<|sB .lss 1 26<|
 .ite 27
 (sI 16<|.ret [28])
 (sI 3<|sB .gtr 1 28<|.ite 29
 (sI 16<|.ret [30])
 (sC 100 [2,1] 0<|.step (.len 30)<|sI 0<|sB .eql 31 32<|.ite 33
 (sI 15<|.ret [34])
 (sC 103 [] 0<|.step (.len 34)<|sC 104 [30,34,35,32,2,3,4,5,6,7,8,9,10,11,12,13,14,15,16,17,18,19,20,21,22,23,24,25] 0<|sB .eql 36 32<|
 .ite 37
 (sI 26<|.ret [38])
 (sC 140 [30,31,32,2,3,4,5,6,7,8,9,10,11,12,13,14,15,16,17,18,19,20,21,22,23,24,25] 0<|sB .eql 38 32<|.ite 39
 (sC 140 [30,31,32,2,3,4,5,6,7,8,9,10,11,12,13,14,15,16,17,18,19,20,21,22,23,24,25] 1<|.ret [40])
 (sB .eql 2 26<|.ite 40
 (.step (.ci .u64 0)<|sB .eql 4 41<|.ite 42
 (sI 18<|.ret [43])
 (sB .lss 5 4<|.ite 43
 (sI 18<|.ret [44])
 (.step (.ci .u64 255)<|sB .gtr 5 44<|.ite 45
 (sI 18<|.ret [46])
 (sI 2<|sB .eql 2 46<|sI 5<|sB .eql 2 48<|sI 6<|sB .eql 2 50<|sB .eql 2 28<|sC 141 [25,32] 0<|
 sB .neq 53 32<|.ite 54
 (.ret [53])
 (.step (.len 25)<|sC 143 [30,25,55,32] 0<|sB .eql 56 32<|.ite 57
 (sI 14<|.ret [58])
 (.ret [32]))))))
 (sI 2<|sB .eql 2 41<|.ite 42
 (.step (.ci .u64 0)<|sB .eql 6 43<|.ite 44
 (sI 18<|.ret [45])
 (.step (.ci .u64 255)<|sB .gtr 6 45<|.ite 46
 (sI 18<|.ret [47])
 (sI 5<|sB .eql 2 47<|sI 6<|sB .eql 2 49<|sB .eql 2 28<|sC 141 [25,32] 0<|sB .neq 52 32<|.ite 53
 (.ret [52])
 (.step (.len 25)<|sC 143 [30,25,54,32] 0<|sB .eql 55 32<|.ite 56
 (sI 14<|.ret [57])
 (.ret [32])))))
 (sI 5<|sB .eql 2 43<|.ite 44
 (.step (.ci .u64 0)<|sB .eql 12 45<|.ite 46
 (sI 18<|.ret [47])
 (sI 6<|sB .eql 2 47<|sB .eql 2 28<|sC 141 [25,32] 0<|sB .neq 50 32<|.ite 51
 (.ret [50])
 (.step (.len 25)<|sC 143 [30,25,52,32] 0<|sB .eql 53 32<|.ite 54
 (sI 14<|.ret [55])
 (.ret [32]))))
 (sI 6<|sB .eql 2 45<|.ite 46
 (.step (.ci .u64 0)<|sB .eql 13 47<|.ite 48
 (sI 18<|.ret [49])
 (sB .eql 2 28<|sB .leq 12 13<|.ite 50
 (sI 20<|.ret [51])
 (sC 141 [25,32] 0<|sB .neq 51 32<|.ite 52
 (.ret [51])
 (.step (.len 25)<|sC 143 [30,25,53,32] 0<|sB .eql 54 32<|.ite 55
 (sI 14<|.ret [56])
 (.ret [32])))))
 (sB .eql 2 28<|.ite 47
 (.step (.len 23)<|sB .eql 48 32<|.ite 49
 (sI 12<|.ret [50])
 (sC 141 [25,32] 0<|sB .neq 50 32<|.ite 51
 (.ret [50])
 (.step (.len 25)<|sC 143 [30,25,52,32] 0<|sB .eql 53 32<|.ite 54
 (sI 14<|.ret [55])
 (.ret [32]))))
 (sC 141 [25,32] 0<|sB .neq 48 32<|.ite 49
 (.ret [48])
 (.step (.len 25)<|sC 143 [30,25,50,32] 0<|sB .eql 51 32<|.ite 52
 (sI 14<|.ret [53])
 (.ret [32]))))))))))))
def ZI:aF:=.fn [.sc] [.sc]<|.step (.len 0)<|sT []<|sI 0<|sC 154 [2,0,1,3] 0<|sC 154 [2,0,1,3] 1<|.ret [5]
def Zo:aF:=.fn [.sc,.sc] [.sc]<|sC 138 [0,1] 0<|.step (.conv .u64 2)<|sC 114 [3] 0<|.step (.slen 1)<|sB .sub 5 2<|.step (.conv .u64 6)<|sC 114 [7] 0<|
 sB .add 4 8<|.step (.vg 1 2 5)<|sB .add 9 10<|.ret [11]
def d48:aF:=.fn [.sc,.sc,.sc] [.sc]<|.step (.slen 0)<|sB .lss 3 1<|.ite 4
 (sI 13<|.ret [5])
 (sB .gtr 3 2<|.ite 5
 (sI 13<|.ret [6])
 (sC 49 [0] 0<|.step (.un .not 6)<|.ite 7
 (sI 11<|.ret [8])
 (sI 0<|.ret [8])))
abbrev ZO:aF:=.wX L8
def d28:aF:=.fn [.ag 24,.sc] [.sc,.sc]<|sL 0 0<|sL 1 0<|sL 2 0<|sL 3 0<|sL 4 0<|sL 5 0<|sL 6 0<|
 sL 7 0<|sL 8 0<|sL 9 0<|sL 10 0<|sL 11 0<|sL 12 0<|sL 13 0<|sL 14 0<|sL 15 0<|sL 16 0<|
 sL 17 0<|sL 18 0<|sL 19 0<|sL 20 0<|sL 21 0<|sL 22 0<|sL 23 0<|.step (.mk [2,3,4,5,6,7,8,9,10,11,12,13,14,15,16,17,18,19,20,21,22,23,24,25])<|
 sC 29 [26,1] 0<|sI 0<|sB .neq 27 28<|.ite 29
 (.step (.ml [])<|.ret [30,27])
 (sC 31 [2,1] 0<|.step (.len 30)<|.step (.ml [])<|sC 82 [32,30,31,28,2,3,4,5,6,7,8,9,10,11,12,13,14,15,16,17,18,19,20,21,22,23,24,25] 0<|
 sC 82 [32,30,31,28,2,3,4,5,6,7,8,9,10,11,12,13,14,15,16,17,18,19,20,21,22,23,24,25] 1<|.step (.ml [34,25])<|sC 89 [35] 0<|sC 89 [35] 1<|
 .ret [36,37])
def d89:aF:=.fn [.sc] [.sc,.sc]<|.step (.len 0)<|sI 0<|.step (.ml [])<|sC 90 [3,0,1,2] 0<|sB .eql 4 2<|.ite 5
 (sC 90 [3,0,1,2] 1<|.ret [3,6])
 (sC 90 [3,0,1,2] 1<|sC 0 [6] 0<|.step (.same 6 7)<|sI 1<|sC 91 [8,9] 0<|sB .eql 10 2<|.ite 11
 (sI 14<|.ret [3,12])
 (sC 92 [8] 0<|.ret [12,2]))
def Zh:aF:=.fn [.ag 2,.ag 2] [.sc]<|sL 0 0<|sL 1 0<|sL 0 1<|sL 1 1<|sB .eql 2 4<|.ite 6
 (sI 14<|.ret [7])
 (.step (.mk [2,3])<|.step (.mk [4,5])<|sC 131 [7,8] 0<|sI 0<|sB .gtr 9 10<|.ite 11
 (sI 7<|.ret [12])
 (.ret [10]))
def d21:aF:=.fn [.sc] [.sc]<|.step (.len 0)<|sI 0<|.step (.ml [])<|sC 22 [3,0,1,2] 0<|sC 22 [3,0,1,2] 1<|.ret [5]
def Zd:aF:=.fn [.sc] [.sc]<|sC 127 [0] 0<|sI 0<|sB .eql 1 2<|.ite 3
 (.step (.cb false)<|.ret [4])
 (.step (.cb true)<|.ret [4])
def Y4:aF:=.fn [.ag 2] [.sc]<|sL 0 0<|sL 1 0<|.step (.slen 1)<|.step (.conv .u64 3)<|sC 114 [4] 0<|sB .add 5 1<|.step (.slen 2)<|
 .step (.conv .u64 7)<|sC 114 [8] 0<|sB .add 6 9<|sB .add 10 2<|.ret [11]
def d25:aF:=.fn [.sc] [.sc]<|.step (.len 0)<|sI 0<|.step (.ml [])<|sC 26 [3,0,1,2] 0<|sC 26 [3,0,1,2] 1<|.ret [5]
abbrev d0:aF:=.wX F9
def d56:aF:=.fn [.ag 2] [.sc]<|sL 0 0<|sL 1 0<|sI 1<|sI 64<|sC 48 [1,3,4] 0<|sI 0<|sB .neq 5 6<|
 .ite 7
 (.ret [5])
 (sI 256<|sC 48 [2,6,8] 0<|.ret [9])
def d8:aF:=.fn [.sc] [.sc]<|sC 9 [0] 0<|.step (.ci .u8 0)<|.step (.rep 1 1 2 1 1)<|.step (.len 3)<|sI 0<|sC 11 [0,3,4,5] 0<|sC 11 [0,3,4,5] 1<|
 .step (.len 7)<|sI 1<|sB .sub 8 9<|.step (.idx 7 10)<|sA 1 7 11<|sL 0 12<|.step (.ci .u8 127)<|sB .and 13 14<|.step (.upd 1 0 7 11 [15])<|
 .step (.str 16)<|.ret [17]
def d54:aF:=.fn [.sc] [.sc]<|.step (.len 0)<|.step (.conv .u64 1)<|.step (.ci .u64 0)<|sB .eql 2 3<|.ite 4
 (sI 12<|.ret [5])
 (.step (.ci .u64 16)<|sB .gtr 2 5<|.ite 6
 (sI 13<|.ret [7])
 (sI 0<|sC 55 [0,1,7] 0<|sB .eql 8 7<|.ite 9
 (sC 55 [0,1,7] 1<|.ret [10])
 (.ret [7])))
def d40:aF:=.fn [] [.sc]<|.step (.ci .u64 1)<|sI 0<|sI 1<|sT [101,112,111,99,104]<|.step (.mk [0,1,2,3])<|.step (.ci .u64 2)<|sT [99,111,100,101]<|
 .step (.mk [5,1,2,6])<|.step (.ci .u64 3)<|sI 2<|sT [119,97,110,116]<|.step (.mk [8,1,9,10])<|.step (.ci .u64 4)<|sI 3<|sT [110,111,116,101]<|
 .step (.mk [12,13,13,14])<|.step (.ml [4,7,11,15])<|.ret [16]
abbrev d42:aF:=.wX Jt
def d9:aF:=.fn [.sc] [.sc]<|sI 1<|sC 10 [0,1] 0<|sC 10 [0,1] 1<|.ret [3]
def d7:aF:=.fn [.sc] [.sc]<|.step (.len 0)<|.step (.conv .u64 1)<|sC 8 [2] 0<|.step (.bytes 3)<|.step (.ml [])<|.step (.app 1 1 5 4)<|.step (.slen 3)<|sI 0<|
 sC 12 [0,1,8,6] 0<|sC 12 [0,1,8,6] 1<|.step (.len 10)<|.step (.str 10)<|.ret [12]
def Z7:aF:=.fn [.sc,.sc] [.sc,.sc]<|.step (.ml [])<|sC 19 [0,1,2] 0<|sC 19 [0,1,2] 1<|sC 19 [0,1,2] 2<|.ret [5,4]
def d3:aF:=.fn [.sc] [.sc]<|.step (.len 0)<|sI 0<|sC 4 [0,1,2] 0<|sB .eql 3 2<|.ite 4
 (.step (.cb false)<|.ret [5])
 (sI 40<|sB .leq 1 5<|.ret [6])
def d23:aF:=.fn [.sc] [.sc]<|.step (.len 0)<|sI 0<|.step (.ml [])<|sC 24 [3,0,1,2] 0<|sC 24 [3,0,1,2] 1<|.ret [5]
abbrev d50:aF:=.wX DW
def Z4:aF:=.fn [.ag 24,.sc] [.sc]<|sL 0 0<|sL 1 0<|sL 2 0<|sL 3 0<|sL 4 0<|sL 5 0<|sL 6 0<|sL 7 0<|
 sL 8 0<|sL 9 0<|sL 10 0<|sL 11 0<|sL 12 0<|sL 13 0<|sL 14 0<|sL 15 0<|sL 16 0<|
 sL 17 0<|sL 18 0<|sL 19 0<|sL 20 0<|sL 21 0<|sL 22 0<|sL 23 0<|.step (.mk [2,3,4,5,6,7,8,9,10,11,12,13,14,15,16,17,18,19,20,21,22,23,24,25])<|
 sC 27 [26,1] 0<|sC 27 [26,1] 1<|sI 0<|sB .eql 28 29<|.ret [30]
def d58:aF:=.fn [.sc] [.sc]<|.step (.len 0)<|sI 256<|sB .gtr 1 2<|.ite 3
 (sI 13<|.ret [4])
 (sT []<|sI 0<|sC 59 [4,0,1,5] 0<|sB .eql 6 5<|.ite 7
 (sC 59 [4,0,1,5] 1<|.ret [8])
 (.ret [5]))
def d13:aF:=.fn [.ag 2] [.sc]<|sL 0 0<|sL 1 0<|.step (.slen 1)<|.step (.conv .u64 3)<|sC 8 [4] 0<|sB .add 5 1<|.step (.slen 2)<|.step (.conv .u64 7)<|
 sC 8 [8] 0<|sB .add 6 9<|sB .add 10 2<|.ret [11]
def ZX:aF:=.fn [.sc,.sc] [.sc]<|.step (.len 0)<|.step (.len 1)<|sB .neq 2 3<|.ite 4
 (.step (.cb false)<|.ret [5])
 (sI 0<|sC 167 [0,1,2,5] 0<|sB .eql 6 5<|.ite 7
 (.step (.cb false)<|.ret [8])
 (.step (.cb true)<|.ret [8]))
def d37:aF:=.fn [] [.sc]<|.step (.ci .u64 1)<|sI 0<|sI 1<|sT [101,112,111,99,104]<|.step (.mk [0,1,2,3])<|.step (.ci .u64 2)<|sI 5<|
 sT [116,97,98,108,101]<|.step (.mk [5,6,2,7])<|.step (.ci .u64 3)<|sI 3<|sI 2<|sT [114,101,103,105,111,110]<|.step (.mk [9,10,11,12])<|
 .step (.ci .u64 4)<|sT [100,105,103,101,115,116]<|.step (.mk [14,1,10,15])<|.step (.ml [4,8,13,16])<|.ret [17]
def d38:aF:=.fn [] [.sc]<|.step (.ci .u64 1)<|sI 0<|sI 2<|sT [98,97,115,101]<|.step (.mk [0,1,2,3])<|.step (.ci .u64 2)<|sT [101,112,111,99,104]<|
 .step (.mk [5,1,2,6])<|.step (.ci .u64 3)<|sI 5<|sT [116,97,98,108,101]<|.step (.mk [8,9,2,10])<|.step (.ci .u64 4)<|sI 3<|sT [114,101,103,105,111,110]<|
 .step (.mk [12,13,2,14])<|.step (.ci .u64 5)<|sT [100,105,103,101,115,116]<|.step (.mk [16,1,13,17])<|.step (.ml [4,7,11,15,18])<|.ret [19]
def d27:aF:=.fn [.ag 24,.sc] [.sc,.sc]<|sL 0 0<|sL 1 0<|sL 2 0<|sL 3 0<|sL 4 0<|sL 5 0<|sL 6 0<|
 sL 7 0<|sL 8 0<|sL 9 0<|sL 10 0<|sL 11 0<|sL 12 0<|sL 13 0<|sL 14 0<|sL 15 0<|sL 16 0<|
 sL 17 0<|sL 18 0<|sL 19 0<|sL 20 0<|sL 21 0<|sL 22 0<|sL 23 0<|.step (.mk [2,3,4,5,6,7,8,9,10,11,12,13,14,15,16,17,18,19,20,21,22,23,24,25])<|
 sC 28 [26,1] 0<|sC 28 [26,1] 1<|sI 0<|sB .neq 28 29<|.ite 30
 (sT []<|.ret [31,28])
 (sC 93 [27] 0<|sC 93 [27] 1<|sB .neq 32 29<|.ite 33
 (sT []<|.ret [34,32])
 (.step (.conv .u64 2)<|sC 8 [34] 0<|sB .add 35 31<|.step (.slen 36)<|sI 65536<|sB .gtr 37 38<|.ite 39
 (sT []<|sI 4<|.ret [40,41])
 (.ret [36,29])))
def d93:aF:=.fn [.sc] [.sc,.sc]<|sC 77 [0] 0<|sI 0<|sB .neq 1 2<|.ite 3
 (sT []<|.ret [4,1])
 (sC 94 [0] 0<|sI 65536<|sB .gtr 4 5<|.ite 6
 (sT []<|sI 4<|.ret [7,8])
 (.step (.ci .u8 0)<|.step (.rep 1 1 7 2 4)<|sC 96 [8,0] 0<|sC 96 [8,0] 1<|.step (.str 10)<|.ret [11,2]))
def d5:aF:=.fn [.sc] [.sc]<|.step (.len 0)<|sI 0<|sC 6 [0,1,2] 0<|sB .eql 3 2<|.ite 4
 (.step (.cb false)<|.ret [5])
 (sI 300<|sB .leq 1 5<|.ret [6])
def Zz:aF:=.fn [.ag 24,.sc] [.sc,.sc]<|sL 0 0<|sL 1 0<|sL 2 0<|sL 3 0<|sL 4 0<|sL 5 0<|sL 6 0<|
 sL 7 0<|sL 8 0<|sL 9 0<|sL 10 0<|sL 11 0<|sL 12 0<|sL 13 0<|sL 14 0<|sL 15 0<|sL 16 0<|
 sL 17 0<|sL 18 0<|sL 19 0<|sL 20 0<|sL 21 0<|sL 22 0<|sL 23 0<|.step (.mk [2,3,4,5,6,7,8,9,10,11,12,13,14,15,16,17,18,19,20,21,22,23,24,25])<|
 sC 99 [26,1] 0<|sI 0<|sB .neq 27 28<|.ite 29
 (.step (.ml [])<|.ret [30,27])
 (sC 100 [2,1] 0<|.step (.len 30)<|.step (.ml [])<|sC 147 [32,30,31,28,2,3,4,5,6,7,8,9,10,11,12,13,14,15,16,17,18,19,20,21,22,23,24,25] 0<|
 sC 147 [32,30,31,28,2,3,4,5,6,7,8,9,10,11,12,13,14,15,16,17,18,19,20,21,22,23,24,25] 1<|.step (.ml [34,25])<|sC 148 [35] 0<|sC 148 [35] 1<|
 .ret [36,37])
def YU:aF:=.fn [.sc] [.sc]<|sI 1<|sC 109 [0,1] 0<|sI 0<|sB .eql 2 3<|.ite 4
 (sC 109 [0,1] 1<|.ret [5])
 (sI (-1)<|.ret [5])
def d60:aF:=.fn [.ag 2] [.sc]<|sL 0 0<|sL 1 0<|sC 54 [1] 0<|sI 0<|sB .neq 3 4<|.ite 5
 (.ret [3])
 (.step (.ci .u64 0)<|sB .eql 2 6<|.ite 7
 (sI 18<|.ret [8])
 (.ret [4]))
def d84:aF:=.fn [.sc] [.sc,.sc]<|sC 58 [0] 0<|sI 0<|sB .neq 1 2<|.ite 3
 (sT []<|.ret [4,1])
 (.step (.len 0)<|.step (.conv .u64 4)<|sC 8 [5] 0<|.step (.bytes 6)<|.step (.ml [])<|.step (.app 1 1 8 7)<|.step (.slen 6)<|sT []<|sC 85 [11,0,4,2,9] 0<|
 sC 85 [11,0,4,2,9] 1<|.step (.len 13)<|.step (.str 13)<|.ret [15,2])
def d94:aF:=.fn [.sc] [.sc]<|.step (.len 0)<|sI 0<|sC 95 [0,2,1,2] 0<|sC 95 [0,2,1,2] 1<|.ret [4]
def Y8:aF:=.fn [.ag 2] [.sc]<|sL 0 0<|sL 1 0<|sC 122 [1] 0<|sI 0<|sB .eql 3 4<|.ite 5
 (.step (.ci .u64 0)<|sB .eql 2 6<|.ite 7
 (sI 18<|.ret [8])
 (.ret [3]))
 (.ret [3])
def d49:aF:=.fn [.sc] [.sc]<|sC 50 [0] 0<|.ret [1]
def YS:aF:=.fn [.ag 24,.sc] [.sc]<|sL 0 0<|sL 1 0<|sL 2 0<|sL 3 0<|sL 4 0<|sL 5 0<|sL 6 0<|sL 7 0<|
 sL 8 0<|sL 9 0<|sL 10 0<|sL 11 0<|sL 12 0<|sL 13 0<|sL 14 0<|sL 15 0<|sL 16 0<|
 sL 17 0<|sL 18 0<|sL 19 0<|sL 20 0<|sL 21 0<|sL 22 0<|sL 23 0<|sT [100,101,115,99,114]<|
 sB .eql 1 26<|.ite 27
 (.step (.len 23)<|sI 0<|sB .eql 28 29<|.ret [30])
 (sT [116,97,98,108,101]<|sB .eql 1 28<|.ite 29
 (.step (.len 24)<|sI 0<|sB .eql 30 31<|.ret [32])
 (.step (.mk [2,3,4,5,6,7,8,9,10,11,12,13,14,15,16,17,18,19,20,21,22,23,24,25])<|sC 107 [30,1] 0<|sC 107 [30,1] 1<|.step (.ci .u64 0)<|
 sB .eql 31 33<|.ite 34
 (sT []<|sB .eql 32 35<|.ret [36])
 (.step (.cb false)<|.ret [35])))
def Z5:aF:=.fn [.sc] [.sc]<|.step (.ci .u8 0)<|sC 18 [0,1] 0<|sC 18 [0,1] 1<|.ret [2]
def ZT:aF:=.fn [.sc] [.sc]<|.step (.slen 0)<|.step (.conv .u64 1)<|sC 114 [2] 0<|sT [81,70]<|sB .add 4 3<|sB .add 5 0<|sC 163 [0] 0<|
 .step (.ci .u32 256)<|sB .rem 7 8<|.step (.conv .u8 9)<|sB .quo 7 8<|sB .rem 11 8<|.step (.conv .u8 12)<|.step (.ci .u32 65536)<|sB .quo 7 14<|
 sB .rem 15 8<|.step (.conv .u8 16)<|.step (.ci .u32 16777216)<|sB .quo 7 18<|.step (.conv .u8 19)<|.step (.ml [10,13,17,20])<|.step (.str 21)<|sB .add 6 22<|
 .ret [23]
def YM:aF:=.fn [.sc,.sc] [.sc]<|sC 101 [0] 0<|.step (.len 2)<|sI 0<|.step (.ml [])<|sC 102 [1,5,2,3,4] 0<|sC 102 [1,5,2,3,4] 1<|
 .ret [7]
def d86:aF:=.fn [.sc,.sc] [.sc]<|sC 87 [0,1] 0<|.step (.conv .u64 2)<|sC 8 [3] 0<|.step (.slen 1)<|sB .sub 5 2<|.step (.conv .u64 6)<|sC 8 [7] 0<|
 sB .add 4 8<|.step (.vg 1 2 5)<|sB .add 9 10<|.ret [11]
def d83:aF:=.fn [.ag 24,.sc] [.ag 5,.sc]<|sL 0 0<|sL 1 0<|sL 2 0<|sL 3 0<|sL 4 0<|sL 5 0<|sL 6 0<|
 sL 7 0<|sL 8 0<|sL 9 0<|sL 10 0<|sL 11 0<|sL 12 0<|sL 13 0<|sL 14 0<|sL 15 0<|sL 16 0<|
 sL 17 0<|sL 18 0<|sL 19 0<|sL 20 0<|sL 21 0<|sL 22 0<|sL 23 0<|sT [114,101,109,97,105,110,105,110,103]<|
 sB .eql 1 26<|.ite 27
 (.step (.conv .u64 18)<|.step (.ci .u64 1)<|sB .shl 28 29<|.step (.ci .u64 63)<|sB .shr 18 31<|.step (.conv .u64 32)<|sB .xor 30 33<|.step (.ci .u64 0)<|
 sI 0<|sT []<|.step (.ml [])<|.step (.cb true)<|.step (.mk [35,36,34,37,38])<|.ret [40,39])
 (sT [97,108,108,111,119,101,100]<|sB .eql 1 28<|.ite 29
 (.ite 19
 (.step (.ci .u64 0)<|sI 0<|.step (.ci .u64 1)<|sT []<|.step (.ml [])<|.step (.cb true)<|.step (.mk [30,31,32,33,34])<|.ret [36,35])
 (.step (.ci .u64 0)<|sI 0<|sT []<|.step (.ml [])<|.step (.cb true)<|.step (.mk [30,31,30,32,33])<|.ret [35,34]))
 (sT [110,97,109,101]<|sB .eql 1 30<|.ite 31
 (.step (.ci .u64 0)<|sI 1<|.step (.ml [])<|.step (.cb true)<|.step (.mk [32,33,32,20,34])<|.ret [36,35])
 (sT [114,101,103,105,111,110]<|sB .eql 1 32<|.ite 33
 (.step (.ci .u64 0)<|sI 1<|.step (.ml [])<|.step (.cb true)<|.step (.mk [34,35,34,21,36])<|.ret [38,37])
 (sT [110,111,116,101]<|sB .eql 1 34<|.ite 35
 (.step (.ci .u64 0)<|sI 1<|.step (.ml [])<|.step (.cb true)<|.step (.mk [36,37,36,22,38])<|.ret [40,39])
 (sT [100,101,115,99,114]<|sB .eql 1 36<|.ite 37
 (.step (.len 23)<|sI 0<|sB .eql 38 39<|.ite 40
 (.step (.ci .u64 0)<|sI 1<|sT []<|.step (.ml [])<|.step (.cb true)<|.step (.mk [41,42,41,43,44])<|.ret [46,45])
 (sC 7 [23] 0<|.step (.ci .u64 0)<|sI 1<|.step (.ml [])<|.step (.cb true)<|.step (.mk [42,43,42,41,44])<|.ret [46,45]))
 (sT [116,97,98,108,101]<|sB .eql 1 38<|.ite 39
 (.step (.len 24)<|sI 0<|sB .eql 40 41<|.ite 42
 (.step (.ci .u64 0)<|sI 1<|sT []<|.step (.ml [])<|.step (.cb true)<|.step (.mk [43,44,43,45,46])<|.ret [48,47])
 (sC 84 [24] 0<|sC 84 [24] 1<|.step (.ci .u64 0)<|sI 1<|.step (.ml [])<|.step (.cb true)<|.step (.mk [45,46,45,43,47])<|.ret [49,48]))
 (sT [105,100]<|sB .eql 1 40<|.ite 41
 (.step (.ci .u64 0)<|sI 0<|sT []<|.step (.ml [])<|.step (.cb true)<|.step (.mk [42,43,3,44,45])<|.ret [47,46])
 (sT [109,105,110]<|sB .eql 1 42<|.ite 43
 (.step (.ci .u64 0)<|sI 0<|sT []<|.step (.ml [])<|.step (.cb true)<|.step (.mk [44,45,4,46,47])<|.ret [49,48])
 (sT [109,97,120]<|sB .eql 1 44<|.ite 45
 (.step (.ci .u64 0)<|sI 0<|sT []<|.step (.ml [])<|.step (.cb true)<|.step (.mk [46,47,5,48,49])<|.ret [51,50])
 (sT [99,104,111,115,101,110]<|sB .eql 1 46<|.ite 47
 (.step (.ci .u64 0)<|sI 0<|sT []<|.step (.ml [])<|.step (.cb true)<|.step (.mk [48,49,6,50,51])<|.ret [53,52])
 (sT [102,108,97,103,115]<|sB .eql 1 48<|.ite 49
 (.step (.ci .u64 0)<|sI 0<|sT []<|.step (.ml [])<|.step (.cb true)<|.step (.mk [50,51,7,52,53])<|.ret [55,54])
 (sT [99,111,115,116]<|sB .eql 1 50<|.ite 51
 (.step (.ci .u64 0)<|sI 0<|sT []<|.step (.ml [])<|.step (.cb true)<|.step (.mk [52,53,8,54,55])<|.ret [57,56])
 (sT [112,114,105,111,114,105,116,121]<|sB .eql 1 52<|.ite 53
 (.step (.ci .u64 0)<|sI 0<|sT []<|.step (.ml [])<|.step (.cb true)<|.step (.mk [54,55,9,56,57])<|.ret [59,58])
 (sT [100,101,97,100,108,105,110,101]<|sB .eql 1 54<|.ite 55
 (.step (.ci .u64 0)<|sI 0<|sT []<|.step (.ml [])<|.step (.cb true)<|.step (.mk [56,57,10,58,59])<|.ret [61,60])
 (sT [114,101,116,114,121]<|sB .eql 1 56<|.ite 57
 (.step (.ci .u64 0)<|sI 0<|sT []<|.step (.ml [])<|.step (.cb true)<|.step (.mk [58,59,11,60,61])<|.ret [63,62])
 (sT [101,112,111,99,104]<|sB .eql 1 58<|.ite 59
 (.step (.ci .u64 0)<|sI 0<|sT []<|.step (.ml [])<|.step (.cb true)<|.step (.mk [60,61,12,62,63])<|.ret [65,64])
 (sT [98,97,115,101]<|sB .eql 1 60<|.ite 61
 (.step (.ci .u64 0)<|sI 0<|sT []<|.step (.ml [])<|.step (.cb true)<|.step (.mk [62,63,13,64,65])<|.ret [67,66])
 (sT [100,105,103,101,115,116]<|sB .eql 1 62<|.ite 63
 (.step (.ci .u64 0)<|sI 0<|sT []<|.step (.ml [])<|.step (.cb true)<|.step (.mk [64,65,14,66,67])<|.ret [69,68])
 (sT [108,97,103]<|sB .eql 1 64<|.ite 65
 (.step (.ci .u64 0)<|sI 0<|sT []<|.step (.ml [])<|.step (.cb true)<|.step (.mk [66,67,15,68,69])<|.ret [71,70])
 (sT [99,111,100,101]<|sB .eql 1 66<|.ite 67
 (.step (.ci .u64 0)<|sI 0<|sT []<|.step (.ml [])<|.step (.cb true)<|.step (.mk [68,69,16,70,71])<|.ret [73,72])
 (sT [119,97,110,116]<|sB .eql 1 68<|.ite 69
 (.step (.ci .u64 0)<|sI 0<|sT []<|.step (.ml [])<|.step (.cb true)<|.step (.mk [70,71,17,72,73])<|.ret [75,74])
 (.step (.ci .u64 0)<|sI 0<|sT []<|.step (.ml [])<|.step (.cb false)<|.step (.mk [70,71,70,72,73])<|.ret [75,74]))))))))))))))))))))))
def d2:aF:=.fn [.ag 24] [.sc]<|sL 0 0<|sL 1 0<|sL 2 0<|sL 3 0<|sL 4 0<|sL 5 0<|sL 6 0<|sL 7 0<|
 sL 8 0<|sL 9 0<|sL 10 0<|sL 11 0<|sL 12 0<|sL 13 0<|sL 14 0<|sL 15 0<|sL 16 0<|
 sL 17 0<|sL 18 0<|sL 19 0<|sL 20 0<|sL 21 0<|sL 22 0<|sL 23 0<|.step (.slen 19)<|sI 600<|
 sB .leq 25 26<|.ite 27
 (.step (.slen 20)<|sB .leq 28 26<|.ite 29
 (.step (.slen 21)<|sB .leq 30 26<|.ite 31
 (sC 3 [22] 0<|.ite 32
 (sC 5 [23] 0<|.ite 33
 (sC 14 [24] 0<|.ret [34])
 (.step (.cb false)<|.ret [34]))
 (.step (.cb false)<|.ret [33]))
 (.step (.cb false)<|.ret [32]))
 (.step (.cb false)<|.ret [30]))
 (.step (.cb false)<|.ret [28])
def d77:aF:=.fn [.sc] [.sc]<|sI 0<|sC 78 [0,1] 0<|.ret [2]
def ZN:aF:=.fn [.sc,.sc] [.sc]<|sC 159 [] 0<|sL 0 2<|sL 1 2<|sL 2 2<|sL 3 2<|sL 4 2<|sL 5 2<|
 sL 6 2<|sL 7 2<|sL 8 2<|sL 9 2<|sL 10 2<|sL 11 2<|sL 12 2<|sL 13 2<|sL 14 2<|sL 15 2<|
 .step (.un .xor 0)<|.step (.len 1)<|sI 0<|sC 160 [19,1,20,21,3,4,5,6,7,8,9,10,11,12,13,14,15,16,17,18] 0<|sC 160 [19,1,20,21,3,4,5,6,7,8,9,10,11,12,13,14,15,16,17,18] 1<|
 .step (.un .xor 23)<|.ret [24]
def Zf:aF:=.fn [.sc] [.sc]<|.step (.slen 0)<|sI 0<|sB .eql 1 2<|.ite 3
 (.ret [2])
 (.step (.nT 0 2)<|.step (.conv .i64 4)<|sI 128<|sB .lss 5 6<|.ite 7
 (sI 1<|.ret [8])
 (sI 192<|sB .geq 5 8<|.ite 9
 (sI 224<|sB .lss 5 10<|.ite 11
 (sB .sub 5 8<|sI 2<|sB .lss 1 13<|.ite 14
 (.ret [2])
 (sI 1<|sC 129 [0,13,12,6,15] 0<|sB .eql 16 2<|.ite 17
 (.ret [2])
 (sC 129 [0,13,12,6,15] 1<|sB .lss 18 6<|.ite 19
 (.ret [2])
 (sI 1114111<|sB .gtr 18 20<|.ite 21
 (.ret [2])
 (sI 55296<|sB .geq 18 22<|.ite 23
 (sI 57344<|sB .lss 18 24<|.ite 25
 (.ret [2])
 (.ret [13]))
 (.ret [13]))))))
 (sB .geq 5 10<|sI 240<|sB .lss 5 13<|.ite 14
 (sB .sub 5 10<|sI 3<|sB .lss 1 16<|.ite 17
 (.ret [2])
 (sI 2048<|sI 1<|sC 129 [0,16,15,18,19] 0<|sB .eql 20 2<|.ite 21
 (.ret [2])
 (sC 129 [0,16,15,18,19] 1<|sB .lss 22 18<|.ite 23
 (.ret [2])
 (sI 1114111<|sB .gtr 22 24<|.ite 25
 (.ret [2])
 (sI 55296<|sB .geq 22 26<|.ite 27
 (sI 57344<|sB .lss 22 28<|.ite 29
 (.ret [2])
 (.ret [16]))
 (.ret [16]))))))
 (sB .geq 5 13<|sI 248<|sB .lss 5 16<|.ite 17
 (sB .sub 5 13<|sI 4<|sB .lss 1 19<|.ite 20
 (.ret [2])
 (sI 65536<|sI 1<|sC 129 [0,19,18,21,22] 0<|sB .eql 23 2<|.ite 24
 (.ret [2])
 (sC 129 [0,19,18,21,22] 1<|sB .lss 25 21<|.ite 26
 (.ret [2])
 (sI 1114111<|sB .gtr 25 27<|.ite 28
 (.ret [2])
 (sI 55296<|sB .geq 25 29<|.ite 30
 (sI 57344<|sB .lss 25 31<|.ite 32
 (.ret [2])
 (.ret [19]))
 (.ret [19]))))))
 (.ret [2]))))
 (sI 224<|sB .geq 5 10<|.ite 11
 (sI 240<|sB .lss 5 12<|.ite 13
 (sB .sub 5 10<|sI 3<|sB .lss 1 15<|.ite 16
 (.ret [2])
 (sI 2048<|sI 1<|sC 129 [0,15,14,17,18] 0<|sB .eql 19 2<|.ite 20
 (.ret [2])
 (sC 129 [0,15,14,17,18] 1<|sB .lss 21 17<|.ite 22
 (.ret [2])
 (sI 1114111<|sB .gtr 21 23<|.ite 24
 (.ret [2])
 (sI 55296<|sB .geq 21 25<|.ite 26
 (sI 57344<|sB .lss 21 27<|.ite 28
 (.ret [2])
 (.ret [15]))
 (.ret [15]))))))
 (sB .geq 5 12<|sI 248<|sB .lss 5 15<|.ite 16
 (sB .sub 5 12<|sI 4<|sB .lss 1 18<|.ite 19
 (.ret [2])
 (sI 65536<|sI 1<|sC 129 [0,18,17,20,21] 0<|sB .eql 22 2<|.ite 23
 (.ret [2])
 (sC 129 [0,18,17,20,21] 1<|sB .lss 24 20<|.ite 25
 (.ret [2])
 (sI 1114111<|sB .gtr 24 26<|.ite 27
 (.ret [2])
 (sI 55296<|sB .geq 24 28<|.ite 29
 (sI 57344<|sB .lss 24 30<|.ite 31
 (.ret [2])
 (.ret [18]))
 (.ret [18]))))))
 (.ret [2])))
 (sI 240<|sB .geq 5 12<|.ite 13
 (sI 248<|sB .lss 5 14<|.ite 15
 (sB .sub 5 12<|sI 4<|sB .lss 1 17<|.ite 18
 (.ret [2])
 (sI 65536<|sI 1<|sC 129 [0,17,16,19,20] 0<|sB .eql 21 2<|.ite 22
 (.ret [2])
 (sC 129 [0,17,16,19,20] 1<|sB .lss 23 19<|.ite 24
 (.ret [2])
 (sI 1114111<|sB .gtr 23 25<|.ite 26
 (.ret [2])
 (sI 55296<|sB .geq 23 27<|.ite 28
 (sI 57344<|sB .lss 23 29<|.ite 30
 (.ret [2])
 (.ret [17]))
 (.ret [17]))))))
 (.ret [2]))
 (.ret [2])))))
abbrev d92:aF:=.wX CG
def ZB:aF:=.fn [.sc] [.sc,.sc]<|.step (.len 0)<|sI 0<|sC 149 [0,1,2] 0<|sB .eql 3 2<|.ite 4
 (sC 149 [0,1,2] 1<|.step (.ml [])<|.ret [6,5])
 (.step (.ml [])<|sC 150 [5,0,1,2] 0<|sB .eql 6 2<|.ite 7
 (sI 14<|.ret [5,8])
 (sC 150 [5,0,1,2] 1<|.ret [8,2]))
def Zy:aF:=.fn [.ag 24,.sc] [.sc]<|sL 0 0<|sL 1 0<|sL 2 0<|sL 3 0<|sL 4 0<|sL 5 0<|sL 6 0<|sL 7 0<|
 sL 8 0<|sL 9 0<|sL 10 0<|sL 11 0<|sL 12 0<|sL 13 0<|sL 14 0<|sL 15 0<|sL 16 0<|
 sL 17 0<|sL 18 0<|sL 19 0<|sL 20 0<|sL 21 0<|sL 22 0<|sL 23 0<|.step (.mk [2,3,4,5,6,7,8,9,10,11,12,13,14,15,16,17,18,19,20,21,22,23,24,25])<|
 sC 146 [26,1] 0<|sC 146 [26,1] 1<|.step (.conv .u64 2)<|sC 114 [29] 0<|sC 153 [27] 0<|sB .add 30 31<|.ret [32]
def Zr:aF:=.fn [.sc] [.sc]<|.step (.len 0)<|sI 0<|sC 15 [0,1,2] 0<|sB .eql 3 2<|.ite 4
 (.step (.cb false)<|.ret [5])
 (sI 60<|sB .leq 1 5<|.ret [6])
def Zj:aF:=.fn [.sc,.sc] [.sc]<|sI 0<|sC 133 [0,1,2] 0<|sB .eql 3 2<|.ite 4
 (sC 133 [0,1,2] 1<|.ret [5])
 (.step (.slen 0)<|.step (.slen 1)<|sB .lss 5 6<|.ret [7])
def YZ:aF:=.fn [.ag 24,.sc] [.sc]<|sL 0 0<|sL 1 0<|sL 2 0<|sL 3 0<|sL 4 0<|sL 5 0<|sL 6 0<|sL 7 0<|
 sL 8 0<|sL 9 0<|sL 10 0<|sL 11 0<|sL 12 0<|sL 13 0<|sL 14 0<|sL 15 0<|sL 16 0<|
 sL 17 0<|sL 18 0<|sL 19 0<|sL 20 0<|sL 21 0<|sL 22 0<|sL 23 0<|sT [110,97,109,101]<|sB .eql 1 26<|
 .ite 27
 (.ret [20])
 (sT [114,101,103,105,111,110]<|sB .eql 1 28<|.ite 29
 (.ret [21])
 (.ret [22]))
def YX:aF:=.fn [.ag 24,.sc] [.sc]<|sL 0 0<|sL 1 0<|sL 2 0<|sL 3 0<|sL 4 0<|sL 5 0<|sL 6 0<|sL 7 0<|
 sL 8 0<|sL 9 0<|sL 10 0<|sL 11 0<|sL 12 0<|sL 13 0<|sL 14 0<|sL 15 0<|sL 16 0<|
 sL 17 0<|sL 18 0<|sL 19 0<|sL 20 0<|sL 21 0<|sL 22 0<|sL 23 0<|sT [105,100]<|sB .eql 1 26<|
 .ite 27
 (.ret [3])
 (sT [109,105,110]<|sB .eql 1 28<|.ite 29
 (.ret [4])
 (sT [109,97,120]<|sB .eql 1 30<|.ite 31
 (.ret [5])
 (sT [99,104,111,115,101,110]<|sB .eql 1 32<|.ite 33
 (.ret [6])
 (sT [102,108,97,103,115]<|sB .eql 1 34<|.ite 35
 (.ret [7])
 (sT [99,111,115,116]<|sB .eql 1 36<|.ite 37
 (.ret [8])
 (sT [112,114,105,111,114,105,116,121]<|sB .eql 1 38<|.ite 39
 (.ret [9])
 (sT [100,101,97,100,108,105,110,101]<|sB .eql 1 40<|.ite 41
 (.ret [10])
 (sT [114,101,116,114,121]<|sB .eql 1 42<|.ite 43
 (.ret [11])
 (sT [101,112,111,99,104]<|sB .eql 1 44<|.ite 45
 (.ret [12])
 (sT [98,97,115,101]<|sB .eql 1 46<|.ite 47
 (.ret [13])
 (sT [100,105,103,101,115,116]<|sB .eql 1 48<|.ite 49
 (.ret [14])
 (sT [108,97,103]<|sB .eql 1 50<|.ite 51
 (.ret [15])
 (sT [99,111,100,101]<|sB .eql 1 52<|.ite 53
 (.ret [16])
 (.ret [17]))))))))))))))
def d34:aF:=.fn [] [.sc]<|.step (.ci .u64 1)<|sI 0<|sI 1<|sT [99,104,111,115,101,110]<|.step (.mk [0,1,2,3])<|.step (.ci .u64 2)<|
 sI 3<|sT [110,97,109,101]<|.step (.mk [5,6,2,7])<|.step (.ci .u64 3)<|sI 2<|sT [114,101,103,105,111,110]<|.step (.mk [9,6,10,11])<|
 .step (.ml [4,8,12])<|.ret [13]
def d30:aF:=.fn [.sc] [.sc]<|sI 0<|sB .eql 0 1<|sI 1<|sB .eql 0 3<|.ite 4
 (.ret [3])
 (sI 2<|sB .eql 0 5<|.ite 6
 (.ret [3])
 (sI 3<|sB .eql 0 7<|.ite 8
 (.ret [3])
 (sI 4<|sB .eql 0 9<|.ite 10
 (.ret [3])
 (sI 5<|sB .eql 0 11<|.ite 12
 (.ret [3])
 (sI 6<|sB .eql 0 13<|.ite 14
 (.ret [5])
 (sI 7<|sB .eql 0 15<|.ite 16
 (.ret [3])
 (sI 8<|sB .eql 0 17<|.ite 18
 (.ret [3])
 (.ret [1]))))))))
def ZP:aF:=.fn [.ag 24] [.ag 24]<|sL 0 0<|sL 1 0<|sL 2 0<|sL 3 0<|sL 4 0<|sL 5 0<|sL 6 0<|sL 7 0<|
 sL 8 0<|sL 9 0<|sL 10 0<|sL 11 0<|sL 12 0<|sL 13 0<|sL 14 0<|sL 15 0<|sL 16 0<|
 sL 17 0<|sL 18 0<|sL 19 0<|sL 20 0<|sL 21 0<|sL 22 0<|sL 23 0<|sC 17 [24] 0<|.step (.mk [1,2,3,4,5,6,7,8,9,10,11,12,13,14,15,16,17,18,19,20,21,22,23,25])<|
 .ret [26]
def d36:aF:=.fn [] [.sc]<|.step (.ci .u64 1)<|sI 0<|sI 1<|sT [105,100]<|.step (.mk [0,1,2,3])<|.step (.ci .u64 2)<|sT [97,108,108,111,119,101,100]<|
 .step (.mk [5,2,2,6])<|.step (.ci .u64 3)<|sI 2<|sT [114,101,109,97,105,110,105,110,103]<|.step (.mk [8,9,2,10])<|.step (.ci .u64 4)<|sT [114,101,116,114,121]<|
 .step (.mk [12,1,9,13])<|.step (.ci .u64 5)<|sI 3<|sT [110,111,116,101]<|.step (.mk [15,16,16,17])<|.step (.ml [4,7,11,14,18])<|.ret [19]
def ZL:aF:=.fn [.sc] [.sc,.sc]<|.step (.slen 0)<|sI 65536<|sB .gtr 1 2<|.ite 3
 (sT []<|sI 4<|.ret [4,5])
 (.step (.conv .u64 1)<|sC 8 [4] 0<|sT [81,70]<|sB .add 6 5<|sB .add 7 0<|.step (.ml [0])<|sC 157 [9] 0<|.step (.conv .u8 10)<|
 .step (.ci .u64 8)<|sB .shr 10 12<|.step (.conv .u8 13)<|.step (.ci .u64 16)<|sB .shr 10 15<|.step (.conv .u8 16)<|.step (.ci .u64 24)<|sB .shr 10 18<|
 .step (.conv .u8 19)<|.step (.ml [11,14,17,20])<|.step (.str 21)<|sB .add 8 22<|sI 0<|.ret [23,24])
def d78:aF:=.fn [.sc,.sc] [.sc]<|.step (.len 0)<|.step (.ci .u64 0)<|sI 0<|sC 79 [1,3,0,2,4] 0<|sB .eql 5 4<|.ite 6
 (sC 79 [1,3,0,2,4] 1<|.ret [7])
 (.ret [4])
def ZU:aF:=.fn [.sc] [.sc]<|.step (.ci .u32 4294967295)<|sI 0<|sC 164 [0,1,2] 0<|sC 164 [0,1,2] 1<|sB .sub 1 4<|.ret [5]
def d35:aF:=.fn [] [.sc]<|.step (.ci .u64 1)<|sI 0<|sI 1<|sT [105,100]<|.step (.mk [0,1,2,3])<|.step (.ci .u64 2)<|sI 4<|
 sT [100,101,115,99,114]<|.step (.mk [5,6,2,7])<|.step (.ci .u64 3)<|sT [99,111,115,116]<|.step (.mk [9,1,2,10])<|.step (.ci .u64 4)<|sI 2<|
 sT [112,114,105,111,114,105,116,121]<|.step (.mk [12,1,13,14])<|.step (.ci .u64 5)<|sI 3<|sT [100,101,97,100,108,105,110,101]<|.step (.mk [16,1,17,18])<|
 .step (.ml [4,8,11,15,19])<|.ret [20]
def Zu:aF:=.fn [.sc,.sc] [.sc]<|.step (.len 0)<|sI 0<|sC 142 [0,1,2,3] 0<|sB .eql 4 3<|.ite 5
 (sC 142 [0,1,2,3] 1<|.ret [6])
 (.ret [3])
def Y5:aF:=.fn [.sc] [.sc,.sc]<|sC 119 [0] 0<|sI 0<|sB .neq 1 2<|.ite 3
 (sT []<|.ret [4,1])
 (sC 135 [0] 0<|.ret [4,2])
def ZM:aF:=.fn [.sc] [.sc]<|.step (.ci .u32 0)<|sC 158 [1,0] 0<|.ret [2]
def Zc:aF:=.fn [.sc,.sc,.sc] [.sc]<|.step (.slen 0)<|sB .lss 3 1<|.ite 4
 (sI 13<|.ret [5])
 (sB .gtr 3 2<|.ite 5
 (sI 13<|.ret [6])
 (sC 126 [0] 0<|.step (.un .not 6)<|.ite 7
 (sI 11<|.ret [8])
 (sI 0<|.ret [8])))
def Y0:aF:=.fn [.sc] [.sc]<|.step (.len 0)<|.step (.conv .u64 1)<|sC 114 [2] 0<|sI 0<|sC 116 [3,0,1,4] 0<|sC 116 [3,0,1,4] 1<|
 .ret [6]
def YP:aF:=.fn [] [.sc]<|sT [97,108,108,111,119,101,100]<|sT [98,97,115,101]<|sT [99,104,111,115,101,110]<|sT [99,111,100,101]<|
 sT [99,111,115,116]<|sT [100,101,97,100,108,105,110,101]<|sT [100,101,115,99,114]<|sT [100,105,103,101,115,116]<|sT [101,112,111,99,104]<|
 sT [102,108,97,103,115]<|sT [105,100]<|sT [108,97,103]<|sT [109,97,120]<|sT [109,105,110]<|sT [110,97,109,101]<|
 sT [110,111,116,101]<|sT [112,114,105,111,114,105,116,121]<|sT [114,101,103,105,111,110]<|sT [114,101,109,97,105,110,105,110,103]<|
 sT [114,101,116,114,121]<|sT [116,97,98,108,101]<|sT [119,97,110,116]<|.step (.ml [0,1,2,3,4,5,6,7,8,9,10,11,12,13,14,15,16,17,18,19,20,21])<|
 .ret [22]
def YT:aF:=.fn [.ag 24,.sc] [.sc,.sc]<|sL 0 0<|sL 1 0<|sL 2 0<|sL 3 0<|sL 4 0<|sL 5 0<|sL 6 0<|
 sL 7 0<|sL 8 0<|sL 9 0<|sL 10 0<|sL 11 0<|sL 12 0<|sL 13 0<|sL 14 0<|sL 15 0<|sL 16 0<|
 sL 17 0<|sL 18 0<|sL 19 0<|sL 20 0<|sL 21 0<|sL 22 0<|sL 23 0<|sC 108 [1] 0<|sI 0<|
 sB .eql 26 27<|.ite 28
 (.step (.mk [2,3,4,5,6,7,8,9,10,11,12,13,14,15,16,17,18,19,20,21,22,23,24,25])<|sC 111 [29,1] 0<|sT []<|.ret [30,31])
 (sI 1<|sB .eql 26 29<|.ite 30
 (.ite 19
 (.step (.ci .u64 1)<|sT []<|.ret [31,32])
 (.step (.ci .u64 0)<|sT []<|.ret [31,32]))
 (sI 2<|sB .eql 26 31<|.ite 32
 (sB .geq 18 27<|.ite 33
 (.step (.conv .u64 18)<|.step (.ci .u64 2)<|sB .mul 35 34<|sT []<|.ret [36,37])
 (sB .add 18 29<|sB .sub 27 34<|.step (.conv .u64 35)<|.step (.ci .u64 1)<|sB .add 36 37<|sB .sub 38 37<|.step (.ci .u64 2)<|sB .mul 40 39<|
 sB .add 41 37<|sT []<|.ret [42,43]))
 (sI 3<|sB .eql 26 33<|.ite 34
 (.step (.mk [2,3,4,5,6,7,8,9,10,11,12,13,14,15,16,17,18,19,20,21,22,23,24,25])<|sC 112 [35,1] 0<|.step (.ci .u64 0)<|.ret [37,36])
 (sI 4<|sB .eql 26 35<|.ite 36
 (.step (.len 23)<|sB .gtr 37 27<|.ite 38
 (sC 113 [23] 0<|.step (.ci .u64 0)<|.ret [40,39])
 (.step (.ci .u64 0)<|sT []<|.ret [39,40]))
 (.step (.len 24)<|sB .gtr 37 27<|.ite 38
 (sC 118 [24] 0<|sC 118 [24] 1<|.step (.ci .u64 0)<|.ret [41,39])
 (.step (.ci .u64 0)<|sT []<|.ret [39,40]))))))
def Y1:aF:=.fn [.sc] [.sc]<|sT []<|sC 115 [0,1] 0<|sC 115 [0,1] 1<|sC 115 [0,1] 2<|.step (.conv .u8 3)<|.step (.ml [5])<|.step (.str 6)<|
 sB .add 4 7<|.ret [8]
def d29:aF:=.fn [.ag 24,.sc] [.sc]<|sL 0 0<|sL 1 0<|sL 2 0<|sL 3 0<|sL 4 0<|sL 5 0<|sL 6 0<|sL 7 0<|
 sL 8 0<|sL 9 0<|sL 10 0<|sL 11 0<|sL 12 0<|sL 13 0<|sL 14 0<|sL 15 0<|sL 16 0<|
 sL 17 0<|sL 18 0<|sL 19 0<|sL 20 0<|sL 21 0<|sL 22 0<|sL 23 0<|sI 1<|sB .lss 1 26<|
 .ite 27
 (sI 16<|.ret [28])
 (sI 3<|sB .gtr 1 28<|.ite 29
 (sI 16<|.ret [30])
 (sC 30 [2] 0<|sI 0<|sB .eql 30 31<|.ite 32
 (sI 15<|.ret [33])
 (sB .gtr 30 1<|.ite 33
 (sI 15<|.ret [34])
 (sC 31 [2,1] 0<|.step (.len 34)<|.step (.ml [])<|sC 41 [34,35,31,36,2,3,4,5,6,7,8,9,10,11,12,13,14,15,16,17,18,19,20,21,22,23,24,25] 0<|
 sC 41 [34,35,31,36,2,3,4,5,6,7,8,9,10,11,12,13,14,15,16,17,18,19,20,21,22,23,24,25] 1<|sC 42 [] 0<|.step (.len 39)<|sC 43 [34,39,40,31,38,2,3,4,5,6,7,8,9,10,11,12,13,14,15,16,17,18,19,20,21,22,23,24,25] 0<|
 sB .eql 41 31<|.ite 42
 (sI 26<|.ret [43])
 (sC 44 [34,35,31,2,3,4,5,6,7,8,9,10,11,12,13,14,15,16,17,18,19,20,21,22,23,24,25] 0<|sB .eql 43 31<|.ite 44
 (sC 44 [34,35,31,2,3,4,5,6,7,8,9,10,11,12,13,14,15,16,17,18,19,20,21,22,23,24,25] 1<|.ret [45])
 (sB .eql 2 26<|.ite 45
 (.step (.ci .u64 1)<|sB .lss 4 46<|.ite 47
 (sI 18<|.ret [48])
 (sB .lss 5 4<|.ite 48
 (sI 18<|.ret [49])
 (.step (.ci .u64 255)<|sB .gtr 5 49<|.ite 50
 (sI 18<|.ret [51])
 (sC 77 [25] 0<|sB .neq 51 31<|.ite 52
 (.ret [51])
 (.step (.len 25)<|sC 80 [34,25,53,31] 0<|sB .eql 54 31<|.ite 55
 (sI 14<|.ret [56])
 (.ret [31]))))))
 (sI 2<|sB .eql 2 46<|.ite 47
 (.step (.ci .u64 1)<|sB .lss 6 48<|.ite 49
 (sI 18<|.ret [50])
 (.step (.ci .u64 255)<|sB .gtr 6 50<|.ite 51
 (sI 18<|.ret [52])
 (sC 77 [25] 0<|sB .neq 52 31<|.ite 53
 (.ret [52])
 (.step (.len 25)<|sC 80 [34,25,54,31] 0<|sB .eql 55 31<|.ite 56
 (sI 14<|.ret [57])
 (.ret [31])))))
 (sB .eql 2 28<|.ite 48
 (.step (.len 23)<|sB .eql 49 31<|.ite 50
 (sI 12<|.ret [51])
 (sC 77 [25] 0<|sB .neq 51 31<|.ite 52
 (.ret [51])
 (.step (.len 25)<|sC 80 [34,25,53,31] 0<|sB .eql 54 31<|.ite 55
 (sI 14<|.ret [56])
 (.ret [31]))))
 (sI 5<|sB .eql 2 49<|.ite 50
 (.step (.ci .u64 1)<|sB .lss 12 51<|.ite 52
 (sI 18<|.ret [53])
 (sC 77 [25] 0<|sB .neq 53 31<|.ite 54
 (.ret [53])
 (.step (.len 25)<|sC 80 [34,25,55,31] 0<|sB .eql 56 31<|.ite 57
 (sI 14<|.ret [58])
 (.ret [31]))))
 (sI 6<|sB .eql 2 51<|.ite 52
 (.step (.ci .u64 1)<|sB .lss 13 53<|.ite 54
 (sI 18<|.ret [55])
 (sB .leq 12 13<|.ite 55
 (sI 20<|.ret [56])
 (sC 77 [25] 0<|sB .neq 56 31<|.ite 57
 (.ret [56])
 (.step (.len 25)<|sC 80 [34,25,58,31] 0<|sB .eql 59 31<|.ite 60
 (sI 14<|.ret [61])
 (.ret [31])))))
 (sC 77 [25] 0<|sB .neq 53 31<|.ite 54
 (.ret [53])
 (.step (.len 25)<|sC 80 [34,25,55,31] 0<|sB .eql 56 31<|.ite 57
 (sI 14<|.ret [58])
 (.ret [31])))))))))))))
def YN:aF:=.fn [.sc] [.sc]<|sI 1<|sB .eql 0 1<|.ite 2
 (.step (.ci .u64 1)<|sI 0<|sT [109,105,110]<|.step (.mk [3,4,1,5])<|.step (.ci .u64 2)<|sT [109,97,120]<|.step (.mk [7,4,1,8])<|.step (.ci .u64 3)<|
 sI 3<|sT [110,97,109,101]<|.step (.mk [10,11,1,12])<|.step (.ci .u64 4)<|sI 2<|sT [114,101,103,105,111,110]<|.step (.mk [14,11,15,16])<|
 .step (.ci .u64 5)<|sT [102,108,97,103,115]<|.step (.mk [18,4,11,19])<|.step (.ml [6,9,13,17,20])<|.ret [21])
 (sI 2<|sB .eql 0 3<|.ite 4
 (.step (.ci .u64 1)<|sI 0<|sT [99,104,111,115,101,110]<|.step (.mk [5,6,1,7])<|.step (.ci .u64 2)<|sI 3<|sT [110,97,109,101]<|
 .step (.mk [9,10,1,11])<|.step (.ci .u64 3)<|sT [114,101,103,105,111,110]<|.step (.mk [13,10,3,14])<|.step (.ml [8,12,15])<|.ret [16])
 (sI 3<|sB .eql 0 5<|.ite 6
 (.step (.ci .u64 1)<|sI 0<|sT [105,100]<|.step (.mk [7,8,1,9])<|.step (.ci .u64 2)<|sI 4<|sT [100,101,115,99,114]<|.step (.mk [11,12,1,13])<|
 .step (.ci .u64 3)<|sT [99,111,115,116]<|.step (.mk [15,8,1,16])<|.step (.ci .u64 4)<|sT [112,114,105,111,114,105,116,121]<|.step (.mk [18,8,3,19])<|
 .step (.ci .u64 5)<|sT [100,101,97,100,108,105,110,101]<|.step (.mk [21,8,5,22])<|.step (.ml [10,14,17,20,23])<|.ret [24])
 (sI 4<|sB .eql 0 7<|.ite 8
 (.step (.ci .u64 1)<|sI 0<|sT [105,100]<|.step (.mk [9,10,1,11])<|.step (.ci .u64 2)<|sT [97,108,108,111,119,101,100]<|.step (.mk [13,1,1,14])<|
 .step (.ci .u64 3)<|sT [114,101,109,97,105,110,105,110,103]<|.step (.mk [16,3,1,17])<|.step (.ci .u64 4)<|sT [114,101,116,114,121]<|.step (.mk [19,10,3,20])<|
 .step (.ci .u64 5)<|sT [110,111,116,101]<|.step (.mk [22,5,5,23])<|.step (.ml [12,15,18,21,24])<|.ret [25])
 (sI 5<|sB .eql 0 9<|.ite 10
 (.step (.ci .u64 1)<|sI 0<|sT [101,112,111,99,104]<|.step (.mk [11,12,1,13])<|.step (.ci .u64 2)<|sT [116,97,98,108,101]<|.step (.mk [15,9,1,16])<|
 .step (.ci .u64 3)<|sT [114,101,103,105,111,110]<|.step (.mk [18,5,3,19])<|.step (.ci .u64 4)<|sT [100,105,103,101,115,116]<|.step (.mk [21,12,5,22])<|
 .step (.ml [14,17,20,23])<|.ret [24])
 (sI 6<|sB .eql 0 11<|.ite 12
 (.step (.ci .u64 1)<|sI 0<|sT [98,97,115,101]<|.step (.mk [13,14,3,15])<|.step (.ci .u64 2)<|sT [101,112,111,99,104]<|.step (.mk [17,14,3,18])<|
 .step (.ci .u64 3)<|sT [116,97,98,108,101]<|.step (.mk [20,9,3,21])<|.step (.ci .u64 4)<|sT [114,101,103,105,111,110]<|.step (.mk [23,5,3,24])<|.step (.ci .u64 5)<|
 sT [100,105,103,101,115,116]<|.step (.mk [26,14,5,27])<|.step (.ml [16,19,22,25,28])<|.ret [29])
 (sI 7<|sB .eql 0 13<|.ite 14
 (.step (.ci .u64 1)<|sI 0<|sT [101,112,111,99,104]<|.step (.mk [15,16,1,17])<|.step (.ci .u64 2)<|sT [108,97,103]<|.step (.mk [19,16,5,20])<|
 .step (.ml [18,21])<|.ret [22])
 (sI 8<|sB .eql 0 15<|.ite 16
 (.step (.ci .u64 1)<|sI 0<|sT [101,112,111,99,104]<|.step (.mk [17,18,1,19])<|.step (.ci .u64 2)<|sT [99,111,100,101]<|.step (.mk [21,18,1,22])<|
 .step (.ci .u64 3)<|sT [119,97,110,116]<|.step (.mk [24,18,3,25])<|.step (.ci .u64 4)<|sT [110,111,116,101]<|.step (.mk [27,5,5,28])<|.step (.ml [20,23,26,29])<|
 .ret [30])
 (.step (.ml [])<|.ret [17]))))))))
def Z9:aF:=.fn [.ag 24] [.ag 24]<|sL 0 0<|sL 1 0<|sL 2 0<|sL 3 0<|sL 4 0<|sL 5 0<|sL 6 0<|sL 7 0<|
 sL 8 0<|sL 9 0<|sL 10 0<|sL 11 0<|sL 12 0<|sL 13 0<|sL 14 0<|sL 15 0<|sL 16 0<|
 sL 17 0<|sL 18 0<|sL 19 0<|sL 20 0<|sL 21 0<|sL 22 0<|sL 23 0<|sC 21 [22] 0<|sC 23 [23] 0<|
 sC 25 [24] 0<|.step (.mk [1,2,3,4,5,6,7,8,9,10,11,12,13,14,15,16,17,18,19,20,21,25,26,27])<|.ret [28]
def d96:aF:=.tree 2<|.step (.len 1)<|sI 0<|sC 97 [0,1,2,3] 0<|sC 97 [0,1,2,3] 1<|.ret [3,5]
def d76:aF:=.tree 0<|sI 0<|.ret [0]
def d75:aF:=.tree 24<|sI 0<|.ret [24]
def d74:aF:=.tree 24<|sI 0<|.ret [24]
def d73:aF:=.tree 24<|sI 0<|.ret [24]
def d72:aF:=.tree 24<|sI 0<|.ret [24]
def d71:aF:=.tree 24<|sI 0<|.ret [24]
def d70:aF:=.tree 24<|sI 0<|.ret [24]
def d69:aF:=.tree 24<|sI 0<|.ret [24]
def d68:aF:=.tree 24<|sI 0<|.ret [24]
def d67:aF:=.tree 24<|sI 0<|.ret [24]
def d66:aF:=.tree 24<|sI 0<|.ret [24]
def d65:aF:=.tree 24<|sI 0<|.ret [24]
def d64:aF:=.tree 24<|sI 0<|.ret [24]
def d63:aF:=.tree 24<|sI 0<|.ret [24]
def d62:aF:=.tree 24<|sI 0<|.ret [24]
def d61:aF:=.tree 24<|sI 0<|.ret [24]
def d57:aF:=.tree 24<|sC 58 [22] 0<|sI 0<|.ret [25,24]
def d53:aF:=.tree 24<|.step (.len 21)<|sI 0<|sB .gtr 24 25<|.ite 26
 (sC 54 [21] 0<|.ret [25,27])
 (.ret [25,25])
def d52:aF:=.tree 24<|sI 0<|sI 256<|sC 48 [20,24,25] 0<|.ret [24,26]
def d51:aF:=.tree 24<|sI 0<|sI 256<|sC 48 [19,24,25] 0<|.ret [24,26]
def d47:aF:=.tree 24<|sI 0<|sI 256<|sC 48 [18,24,25] 0<|.ret [24,26]
def d46:aF:=.tree 24<|sI 0<|.ret [24]
def d45:aF:=.tree 24<|sI 0<|.ret [24]
def YW:aF:=.tree 5<|sB .lss 4 3<|.ite 5
 (sA 4 2 4<|sL 0 6<|sL 1 6<|sL 2 6<|sL 3 6<|sB .eql 10 0<|.ite 11
 (sI 0<|.ret [12,8])
 (sI 1<|sB .add 4 12<|.tail 110 [0,1,2,3,13]))
 (sI 1<|.ret [6])
def d24:aF:=.tree 4<|sB .lss 3 2<|.ite 4
 (sA 2 1 3<|sL 0 5<|sL 1 5<|sC 21 [6] 0<|.step (.mk [8,7])<|.step (.ml [9])<|.step (.app 2 32 0 10)<|sI 1<|sB .add 3 12<|
 .tail 24 [11,1,2,13])
 (sI 0<|.ret [5,0])
def ZG:aF:=.tree 7<|sB .lss 6 5<|.ite 7
 (sA 5 4 6<|sL 0 8<|sL 1 8<|sL 2 8<|sL 3 8<|sL 4 8<|sI 0<|sC 152 [0,14,1,2,3,4,5,6,9,10,11,12,13] 0<|
 sB .eql 15 14<|.ite 16
 (sC 152 [0,14,1,2,3,4,5,6,9,10,11,12,13] 1<|sC 152 [0,14,1,2,3,4,5,6,9,10,11,12,13] 2<|sC 152 [0,14,1,2,3,4,5,6,9,10,11,12,13] 3<|
 .step (.len 0)<|sB .lss 17 20<|.ite 21
 (sA 5 0 17<|sL 0 22<|sB .eql 23 9<|.ite 24
 (.ret [14])
 (.step (.mQ 5 0 14 17)<|.step (.ml [])<|.step (.app 5 64 26 25)<|.step (.mk [9,10,11,12,13])<|.step (.ml [28])<|.step (.app 5 64 27 29)<|.step (.mQ 5 0 17 20)<|.step (.app 5 64 30 31)<|
 sI 1<|sB .add 6 33<|.tail 151 [32,1,2,3,4,5,34]))
 (.step (.mQ 5 0 14 17)<|.step (.ml [])<|.step (.app 5 64 23 22)<|.step (.mk [9,10,11,12,13])<|.step (.ml [25])<|.step (.app 5 64 24 26)<|.step (.mQ 5 0 17 20)<|.step (.app 5 64 27 28)<|
 sI 1<|sB .add 6 30<|.tail 151 [29,1,2,3,4,5,31]))
 (sC 152 [0,14,1,2,3,4,5,6,9,10,11,12,13] 1<|.step (.len 0)<|sB .lss 17 18<|.ite 19
 (sA 5 0 17<|sL 0 20<|sB .eql 21 9<|.ite 22
 (.ret [14])
 (.step (.mQ 5 0 14 17)<|.step (.ml [])<|.step (.app 5 64 24 23)<|.step (.mk [9,10,11,12,13])<|.step (.ml [26])<|.step (.app 5 64 25 27)<|.step (.mQ 5 0 17 18)<|.step (.app 5 64 28 29)<|
 sI 1<|sB .add 6 31<|.tail 151 [30,1,2,3,4,5,32]))
 (.step (.mQ 5 0 14 17)<|.step (.ml [])<|.step (.app 5 64 21 20)<|.step (.mk [9,10,11,12,13])<|.step (.ml [23])<|.step (.app 5 64 22 24)<|.step (.mQ 5 0 17 18)<|.step (.app 5 64 25 26)<|
 sI 1<|sB .add 6 28<|.tail 151 [27,1,2,3,4,5,29])))
 (sI 1<|.ret [8,0])
def Zx:aF:=.tree 11<|sB .lss 5 4<|.ite 11
 (sA 4 0 5<|sL 0 12<|sL 1 12<|sL 2 12<|sL 3 12<|sB .eql 13 6<|.ite 17
 (sI 0<|.ret [18])
 (sI 1<|sB .add 5 18<|.tail 144 [0,1,2,3,4,19,6,7,8,9,10]))
 (sI 1<|.ret [12])
def d55:aF:=.tree 3<|sB .lss 2 1<|.ite 3
 (sA 2 0 2<|sL 0 4<|sL 1 4<|.step (.mk [5,6])<|sC 56 [7] 0<|sI 0<|sB .neq 8 9<|.ite 10
 (.ret [9,8])
 (sB .eql 2 9<|.ite 11
 (sI 1<|sB .add 2 12<|.tail 55 [0,1,13])
 (sI 1<|sB .sub 2 12<|sA 2 0 13<|sL 0 14<|sB .eql 5 15<|.ite 16
 (sI 14<|.ret [9,17])
 (sB .lss 5 15<|.ite 17
 (sI 7<|.ret [9,18])
 (sB .add 2 12<|.tail 55 [0,1,18])))))
 (sI 1<|.ret [4])
def d59:aF:=.tree 4<|sB .lss 3 2<|.ite 4
 (sA 2 1 3<|sL 0 5<|sL 1 5<|.step (.mk [6,7])<|sC 60 [8] 0<|sI 0<|sB .neq 9 10<|.ite 11
 (.ret [10,9])
 (sC 7 [6] 0<|sB .gtr 3 10<|.ite 13
 (sB .eql 12 0<|.ite 14
 (sI 14<|.ret [10,15])
 (sB .lss 12 0<|.ite 15
 (sI 7<|.ret [10,16])
 (sI 1<|sB .add 3 16<|.tail 59 [12,1,2,17])))
 (sI 1<|sB .add 3 14<|.tail 59 [12,1,2,15])))
 (sI 1<|.ret [5])
def d33:aF:=.tree 5<|sB .lss 4 3<|.ite 5
 (sA 4 2 4<|sL 0 6<|sL 1 6<|sL 2 6<|sL 3 6<|sB .leq 9 0<|.ite 11
 (.step (.mk [7,8,9,10])<|.step (.ml [12])<|.step (.app 4 40 1 13)<|sI 1<|sB .add 4 15<|.tail 33 [0,14,2,3,16])
 (sI 1<|sB .add 4 12<|.tail 33 [0,1,2,3,13]))
 (sI 0<|.ret [6,1])
def Zw:aF:=.tree 4<|sB .lss 3 2<|.ite 4
 (sA 5 1 3<|sL 0 5<|sL 1 5<|sL 2 5<|sL 3 5<|sL 4 5<|.step (.len 0)<|sI 0<|sC 144 [0,1,2,3,11,12,6,7,8,9,10] 0<|
 sB .eql 13 12<|.ite 14
 (.ret [12])
 (sI 1<|sB .add 3 15<|.tail 143 [0,1,2,16]))
 (sI 1<|.ret [5])
def d91:aF:=.tree 2<|.step (.len 0)<|sB .lss 1 2<|.ite 3
 (.step (.idx 0 1)<|sA 5 0 4<|sL 0 5<|sI 1<|sB .sub 1 7<|.step (.idx 0 8)<|sA 5 0 9<|sL 0 10<|sB .eql 6 11<|
 .ite 12
 (sI 0<|.ret [13])
 (sB .add 1 7<|.tail 91 [0,13]))
 (sI 1<|.ret [4])
def d81:aF:=.tree 11<|sB .lss 5 4<|.ite 11
 (sA 4 0 5<|sL 0 12<|sL 1 12<|sL 2 12<|sL 3 12<|sB .eql 6 13<|.ite 17
 (sI 0<|.ret [18])
 (sI 1<|sB .add 5 18<|.tail 81 [0,1,2,3,4,19,6,7,8,9,10]))
 (sI 1<|.ret [12])
def Zn:aF:=.tree 4<|sB .lss 3 2<|.ite 4
 (sA 2 0 3<|sL 0 5<|sL 1 5<|sI 0<|sB .gtr 3 8<|.ite 9
 (sI 1<|sB .sub 3 10<|sA 2 0 11<|sL 0 12<|sC 113 [13] 0<|sC 113 [6] 0<|sC 137 [14,15] 0<|sB .add 1 16<|
 sC 114 [7] 0<|sB .add 17 18<|sB .add 3 10<|.tail 136 [0,19,2,20])
 (sC 113 [6] 0<|sT []<|sC 137 [11,10] 0<|sB .add 1 12<|sC 114 [7] 0<|sB .add 13 14<|sI 1<|sB .add 3 16<|
 .tail 136 [0,15,2,17]))
 (sI 0<|.ret [5,1])
def ZY:aF:=.tree 4<|sB .lss 3 2<|.ite 4
 (sA 5 0 3<|sL 0 5<|sA 5 1 3<|sL 0 7<|sB .neq 6 8<|.ite 9
 (sI 0<|.ret [10])
 (sL 1 5<|sL 1 7<|sB .neq 10 11<|.ite 12
 (sI 0<|.ret [13])
 (sL 2 5<|sL 2 7<|sB .neq 13 14<|.ite 15
 (sI 0<|.ret [16])
 (sL 3 5<|sL 3 7<|sB .neq 16 17<|.ite 18
 (sI 0<|.ret [19])
 (sL 4 5<|sL 4 7<|sC 166 [19,20] 0<|.step (.un .not 21)<|.ite 22
 (sI 0<|.ret [23])
 (sI 1<|sB .add 3 23<|.tail 167 [0,1,2,24]))))))
 (sI 1<|.ret [5])
def d95:aF:=.tree 4<|sB .lss 3 2<|.ite 4
 (sA 5 0 3<|sL 0 5<|.step (.ci .u64 2)<|sB .shl 6 7<|sL 1 5<|.step (.conv .u64 9)<|sB .or 8 10<|sC 9 [11] 0<|sB .add 1 12<|
 sI 0<|sB .eql 9 14<|.ite 15
 (sL 2 5<|sC 9 [16] 0<|sB .add 13 17<|sI 1<|sB .add 3 19<|.tail 95 [0,18,2,20])
 (sI 1<|sB .eql 9 16<|.ite 17
 (sL 3 5<|.step (.slen 18)<|.step (.conv .u64 19)<|sC 9 [20] 0<|sB .add 21 19<|sB .add 13 22<|sB .add 3 16<|.tail 95 [0,23,2,24])
 (sI 2<|sB .eql 9 18<|.ite 19
 (sL 4 5<|sC 94 [20] 0<|.step (.conv .u64 21)<|sC 9 [22] 0<|sB .add 23 21<|sB .add 13 24<|sB .add 3 16<|.tail 95 [0,25,2,26])
 (sB .add 3 16<|.tail 95 [0,13,2,20]))))
 (sI 0<|.ret [5,1])
def YO:aF:=.tree 5<|sB .lss 4 3<|.ite 5
 (sA 4 2 4<|sL 0 6<|sL 1 6<|sL 2 6<|sL 3 6<|sI 3<|sB .leq 0 11<|.ite 12
 (sB .leq 9 0<|.ite 13
 (.step (.mk [7,8,9,10])<|.step (.ml [14])<|.step (.app 4 40 1 15)<|sI 1<|sB .add 4 17<|.tail 102 [0,16,2,3,18])
 (sI 1<|sB .add 4 14<|.tail 102 [0,1,2,3,15]))
 (sI 1<|sB .add 4 13<|.tail 102 [0,1,2,3,14]))
 (sI 0<|.ret [6,1])
def d80:aF:=.tree 4<|sB .lss 3 2<|.ite 4
 (sA 5 1 3<|sL 0 5<|sL 1 5<|sL 2 5<|sL 3 5<|sL 4 5<|.step (.len 0)<|sI 0<|sC 81 [0,1,2,3,11,12,6,7,8,9,10] 0<|
 sB .eql 13 12<|.ite 14
 (.ret [12])
 (sI 1<|sB .add 3 15<|.tail 80 [0,1,2,16]))
 (sI 1<|.ret [5])
def d79:aF:=.tree 5<|sB .lss 4 3<|.ite 5
 (sA 5 2 4<|sL 0 6<|sL 1 6<|sL 2 6<|sL 3 6<|sL 4 6<|.step (.ci .u64 0)<|sB .eql 7 12<|.ite 13
 (sI 18<|sI 0<|.ret [15,14])
 (.step (.ci .u64 4294967296)<|sB .gtr 7 14<|.ite 15
 (sI 18<|sI 0<|.ret [17,16])
 (sB .leq 7 1<|.ite 16
 (sI 7<|sI 0<|.ret [18,17])
 (sI 0<|sB .eql 8 17<|.ite 18
 (sT []<|sB .eql 10 19<|.ite 20
 (.step (.len 11)<|sB .eql 21 17<|.step (.un .not 22)<|.ite 23
 (sI 8<|.ret [17,24])
 (sI 2<|sB .neq 8 24<|sI 1<|sB .add 4 26<|.tail 79 [0,7,2,3,27]))
 (sI 8<|.ret [17,21]))
 (sI 1<|sB .eql 8 19<|.ite 20
 (sB .eql 9 12<|.ite 21
 (.step (.len 11)<|sB .eql 22 17<|.step (.un .not 23)<|.ite 24
 (sI 8<|.ret [17,25])
 (sI 2<|sB .neq 8 25<|sB .add 4 19<|.tail 79 [0,7,2,3,27]))
 (sI 8<|.ret [17,22]))
 (sI 2<|sB .eql 8 21<|.ite 22
 (sB .eql 9 12<|.ite 23
 (sT []<|sB .eql 10 24<|.step (.un .not 25)<|.ite 26
 (sI 8<|.ret [17,27])
 (sB .neq 8 21<|sI 8<|sB .geq 0 28<|.ite 29
 (sI 9<|.ret [17,30])
 (sB .add 0 19<|sC 78 [11,30] 0<|sB .neq 31 17<|.ite 32
 (.ret [17,31])
 (sB .add 4 19<|.tail 79 [0,7,2,3,33]))))
 (sI 8<|.ret [17,24]))
 (sI 8<|.ret [17,23])))))))
 (sI 1<|.ret [6])
def YR:aF:=.tree 32<|sB .lss 7 6<|.ite 32
 (sA 4 0 7<|sL 0 33<|sL 1 33<|sL 2 33<|sL 3 33<|.ite 2
 (sI 1<|sB .add 7 38<|.step (.cb true)<|.tail 105 [0,1,40,3,4,5,6,39,8,9,10,11,12,13,14,15,16,17,18,19,20,21,22,23,24,25,26,27,28,29,30,31])
 (sB .eql 37 1<|sI 1<|sB .add 7 39<|.tail 105 [0,1,38,3,4,5,6,40,8,9,10,11,12,13,14,15,16,17,18,19,20,21,22,23,24,25,26,27,28,29,30,31]))
 (sI 0<|.ret [33,2])
def ZE:aF:=.tree 3<|sB .lss 2 1<|.ite 3
 (sA 5 0 2<|sL 0 4<|sL 1 4<|sL 2 4<|sL 3 4<|sL 4 4<|.step (.slen 9)<|sI 300<|sB .gtr 10 11<|
 .ite 12
 (sI 0<|.ret [13])
 (sI 1<|sB .add 2 13<|.tail 15 [0,1,14]))
 (sI 1<|.ret [4])
def Z8:aF:=.tree 3<|.step (.len 0)<|sI 0<|sB .gtr 3 4<|.ite 5
 (sA 5 0 4<|sL 0 6<|sB .geq 7 1<|.ite 8
 (sL 1 6<|sL 2 6<|sL 3 6<|sL 4 6<|.step (.conv .i64 10)<|.step (.ci .u8 255)<|sB .eql 7 14<|.ite 15
 (sI 1<|.step (.mQ 5 0 16 3)<|.step (.ml [])<|.step (.mk [9,13,11,12,18])<|.step (.ml [19])<|.step (.app 5 64 2 20)<|.tail 19 [17,1,21])
 (sI 1<|.step (.mQ 5 0 16 3)<|.step (.ci .u8 1)<|sB .add 7 18<|sC 18 [17,19] 0<|sC 18 [17,19] 1<|.step (.mk [9,13,11,12,20])<|
 .step (.ml [22])<|.step (.app 5 64 2 23)<|.tail 19 [21,1,24]))
 (.ret [4,0,2]))
 (.ret [4,0,2])
def ZV:aF:=.tree 3<|.step (.slen 0)<|sB .lss 2 3<|.ite 4
 (.step (.nT 0 2)<|.step (.conv .u32 5)<|sB .xor 1 6<|sI 0<|sC 165 [0,7,2,8] 0<|sC 165 [0,7,2,8] 1<|sI 1<|sB .add 2 11<|
 .tail 164 [0,10,12])
 (sI 0<|.ret [5,1])
def d22:aF:=.tree 4<|sB .lss 3 2<|.ite 4
 (sA 2 1 3<|sL 0 5<|sL 1 5<|.step (.mk [6,7])<|.step (.ml [8])<|.step (.app 2 32 0 9)<|sI 1<|sB .add 3 11<|.tail 22 [10,1,2,12])
 (sI 0<|.ret [5,0])
def Y2:aF:=.tree 2<|.step (.ci .u64 127)<|sB .gtr 0 2<|.ite 3
 (.step (.ci .u64 128)<|sB .rem 0 4<|sB .add 5 4<|.step (.conv .u8 6)<|.step (.ml [7])<|.step (.str 8)<|sB .add 1 9<|sB .quo 0 4<|.tail 115 [11,10])
 (sI 0<|.ret [4,0,1])
def d41:aF:=.tree 28<|sB .lss 2 1<|.ite 28
 (sA 4 0 2<|sL 0 29<|sL 1 29<|sL 2 29<|sL 3 29<|sT []<|sB .eql 33 34<|.step (.cb true)<|.step (.uS 3 33 36)<|
 sI 1<|sB .add 2 38<|.tail 41 [0,1,39,37,4,5,6,7,8,9,10,11,12,13,14,15,16,17,18,19,20,21,22,23,24,25,26,27])
 (sI 0<|.ret [29,3])
def Zv:aF:=.tree 4<|sB .lss 3 2<|.ite 4
 (sA 5 0 3<|sL 0 5<|sL 1 5<|sL 2 5<|sL 3 5<|sL 4 5<|.step (.ci .u64 0)<|sB .eql 6 11<|.ite 12
 (sI 18<|sI 0<|.ret [14,13])
 (.step (.ci .u64 4294967296)<|sB .gtr 6 13<|.ite 14
 (sI 18<|sI 0<|.ret [16,15])
 (sI 0<|sB .gtr 3 15<|.ite 16
 (sI 1<|sB .sub 3 17<|sA 5 0 18<|sL 0 19<|sB .leq 6 20<|.ite 21
 (sI 7<|.ret [15,22])
 (sB .lss 7 15<|.ite 22
 (sI 8<|.ret [15,23])
 (sI 2<|sB .gtr 7 23<|.ite 24
 (sI 8<|.ret [15,25])
 (sB .neq 7 15<|.ite 25
 (sB .neq 8 11<|.ite 26
 (sI 8<|.ret [15,27])
 (sB .neq 7 17<|.ite 27
 (sT []<|sB .neq 9 28<|.ite 29
 (sI 8<|.ret [15,30])
 (sB .neq 7 23<|.ite 30
 (.step (.len 10)<|sB .gtr 31 15<|.ite 32
 (sI 8<|.ret [15,33])
 (sB .eql 7 23<|sB .add 1 17<|sC 141 [10,34] 0<|sB .neq 35 15<|.ite 36
 (.ret [15,35])
 (sB .add 3 17<|.tail 142 [0,1,2,37])))
 (sB .eql 7 23<|sI 8<|sB .eql 1 32<|.ite 33
 (sI 9<|.ret [15,34])
 (sB .add 1 17<|sC 141 [10,34] 0<|sB .neq 35 15<|.ite 36
 (.ret [15,35])
 (sB .add 3 17<|.tail 142 [0,1,2,37])))))
 (sB .neq 7 23<|.ite 28
 (.step (.len 10)<|sB .gtr 29 15<|.ite 30
 (sI 8<|.ret [15,31])
 (sB .eql 7 23<|sB .add 1 17<|sC 141 [10,32] 0<|sB .neq 33 15<|.ite 34
 (.ret [15,33])
 (sB .add 3 17<|.tail 142 [0,1,2,35])))
 (sB .eql 7 23<|sI 8<|sB .eql 1 30<|.ite 31
 (sI 9<|.ret [15,32])
 (sB .add 1 17<|sC 141 [10,32] 0<|sB .neq 33 15<|.ite 34
 (.ret [15,33])
 (sB .add 3 17<|.tail 142 [0,1,2,35]))))))
 (sB .neq 7 17<|.ite 26
 (sT []<|sB .neq 9 27<|.ite 28
 (sI 8<|.ret [15,29])
 (sB .neq 7 23<|.ite 29
 (.step (.len 10)<|sB .gtr 30 15<|.ite 31
 (sI 8<|.ret [15,32])
 (sB .eql 7 23<|sB .add 1 17<|sC 141 [10,33] 0<|sB .neq 34 15<|.ite 35
 (.ret [15,34])
 (sB .add 3 17<|.tail 142 [0,1,2,36])))
 (sB .eql 7 23<|sI 8<|sB .eql 1 31<|.ite 32
 (sI 9<|.ret [15,33])
 (sB .add 1 17<|sC 141 [10,33] 0<|sB .neq 34 15<|.ite 35
 (.ret [15,34])
 (sB .add 3 17<|.tail 142 [0,1,2,36])))))
 (sB .neq 7 23<|.ite 27
 (.step (.len 10)<|sB .gtr 28 15<|.ite 29
 (sI 8<|.ret [15,30])
 (sB .eql 7 23<|sB .add 1 17<|sC 141 [10,31] 0<|sB .neq 32 15<|.ite 33
 (.ret [15,32])
 (sB .add 3 17<|.tail 142 [0,1,2,34])))
 (sB .eql 7 23<|sI 8<|sB .eql 1 29<|.ite 30
 (sI 9<|.ret [15,31])
 (sB .add 1 17<|sC 141 [10,31] 0<|sB .neq 32 15<|.ite 33
 (.ret [15,32])
 (sB .add 3 17<|.tail 142 [0,1,2,34])))))))))
 (sB .lss 7 15<|.ite 17
 (sI 8<|.ret [15,18])
 (sI 2<|sB .gtr 7 18<|.ite 19
 (sI 8<|.ret [15,20])
 (sB .neq 7 15<|.ite 20
 (sB .neq 8 11<|.ite 21
 (sI 8<|.ret [15,22])
 (sI 1<|sB .neq 7 22<|.ite 23
 (sT []<|sB .neq 9 24<|.ite 25
 (sI 8<|.ret [15,26])
 (sB .neq 7 18<|.ite 26
 (.step (.len 10)<|sB .gtr 27 15<|.ite 28
 (sI 8<|.ret [15,29])
 (sB .eql 7 18<|sB .add 1 22<|sC 141 [10,30] 0<|sB .neq 31 15<|.ite 32
 (.ret [15,31])
 (sB .add 3 22<|.tail 142 [0,1,2,33])))
 (sB .eql 7 18<|sI 8<|sB .eql 1 28<|.ite 29
 (sI 9<|.ret [15,30])
 (sB .add 1 22<|sC 141 [10,30] 0<|sB .neq 31 15<|.ite 32
 (.ret [15,31])
 (sB .add 3 22<|.tail 142 [0,1,2,33])))))
 (sB .neq 7 18<|.ite 24
 (.step (.len 10)<|sB .gtr 25 15<|.ite 26
 (sI 8<|.ret [15,27])
 (sB .eql 7 18<|sB .add 1 22<|sC 141 [10,28] 0<|sB .neq 29 15<|.ite 30
 (.ret [15,29])
 (sB .add 3 22<|.tail 142 [0,1,2,31])))
 (sB .eql 7 18<|sI 8<|sB .eql 1 26<|.ite 27
 (sI 9<|.ret [15,28])
 (sB .add 1 22<|sC 141 [10,28] 0<|sB .neq 29 15<|.ite 30
 (.ret [15,29])
 (sB .add 3 22<|.tail 142 [0,1,2,31]))))))
 (sI 1<|sB .neq 7 21<|.ite 22
 (sT []<|sB .neq 9 23<|.ite 24
 (sI 8<|.ret [15,25])
 (sB .neq 7 18<|.ite 25
 (.step (.len 10)<|sB .gtr 26 15<|.ite 27
 (sI 8<|.ret [15,28])
 (sB .eql 7 18<|sB .add 1 21<|sC 141 [10,29] 0<|sB .neq 30 15<|.ite 31
 (.ret [15,30])
 (sB .add 3 21<|.tail 142 [0,1,2,32])))
 (sB .eql 7 18<|sI 8<|sB .eql 1 27<|.ite 28
 (sI 9<|.ret [15,29])
 (sB .add 1 21<|sC 141 [10,29] 0<|sB .neq 30 15<|.ite 31
 (.ret [15,30])
 (sB .add 3 21<|.tail 142 [0,1,2,32])))))
 (sB .neq 7 18<|.ite 23
 (.step (.len 10)<|sB .gtr 24 15<|.ite 25
 (sI 8<|.ret [15,26])
 (sB .eql 7 18<|sB .add 1 21<|sC 141 [10,27] 0<|sB .neq 28 15<|.ite 29
 (.ret [15,28])
 (sB .add 3 21<|.tail 142 [0,1,2,30])))
 (sB .eql 7 18<|sI 8<|sB .eql 1 25<|.ite 26
 (sI 9<|.ret [15,27])
 (sB .add 1 21<|sC 141 [10,27] 0<|sB .neq 28 15<|.ite 29
 (.ret [15,28])
 (sB .add 3 21<|.tail 142 [0,1,2,30])))))))))))
 (sI 1<|.ret [5])
def d97:aF:=.tree 4<|sB .lss 3 2<|.ite 4
 (sA 5 1 3<|sL 0 5<|.step (.ci .u64 2)<|sB .shl 6 7<|sL 1 5<|.step (.conv .u64 9)<|sB .or 8 10<|sC 8 [11] 0<|.step (.bytes 12)<|
 .step (.app 1 1 0 13)<|sI 0<|sB .eql 9 15<|.ite 16
 (sL 2 5<|sC 8 [17] 0<|.step (.bytes 18)<|.step (.app 1 1 14 19)<|sI 1<|sB .add 3 21<|.tail 97 [20,1,2,22])
 (sI 1<|sB .eql 9 17<|.ite 18
 (sL 3 5<|.step (.slen 19)<|.step (.conv .u64 20)<|sC 8 [21] 0<|.step (.bytes 22)<|.step (.app 1 1 14 23)<|.step (.bytes 19)<|.step (.app 1 1 24 25)<|sB .add 3 17<|
 .tail 97 [26,1,2,27])
 (sI 2<|sB .eql 9 19<|.ite 20
 (sL 4 5<|sC 94 [21] 0<|.step (.conv .u64 22)<|sC 8 [23] 0<|.step (.bytes 24)<|.step (.app 1 1 14 25)<|sC 96 [26,21] 0<|sC 96 [26,21] 1<|
 sB .add 3 17<|.tail 97 [28,1,2,29])
 (sB .add 3 17<|.tail 97 [14,1,2,21]))))
 (sI 0<|.ret [5,0])
def YV:aF:=.tree 2<|sI 8<|sB .leq 1 2<|.ite 3
 (sC 101 [1] 0<|.step (.len 4)<|sI 0<|sC 110 [0,1,4,5,6] 0<|sB .eql 7 6<|.ite 8
 (sC 110 [0,1,4,5,6] 1<|.ret [6,9])
 (sI 1<|sB .add 1 9<|.tail 109 [0,10]))
 (sI 1<|.ret [4])
def d11:aF:=.tree 4<|sB .lss 3 2<|.ite 4
 (.step (.ci .u64 127)<|sB .and 0 5<|.step (.conv .u8 6)<|.step (.ci .u8 128)<|sB .or 7 8<|.step (.idx 1 3)<|.step (.upd 1 0 1 10 [9])<|.step (.ci .u64 7)<|sB .shr 0 12<|
 sI 1<|sB .add 3 14<|.tail 11 [13,11,2,15])
 (sI 0<|.ret [5,1])
def ZR:aF:=.tree 23<|sB .lss 6 5<|.ite 23
 (.step (.nT 1 6)<|.step (.conv .u32 24)<|sB .xor 0 25<|.step (.ci .u64 4)<|sB .shr 26 27<|.step (.ci .u32 15)<|sB .and 26 29<|sS 30 0<|.ite 31
 (sB .xor 28 7<|sB .shr 32 27<|sB .and 32 29<|sS 34 0<|.ite 35
 (sB .xor 33 7<|sI 1<|sB .add 6 37<|au 36 38)
 (sS 34 1<|.ite 36
 (sB .xor 33 8<|sI 1<|sB .add 6 38<|au 37 39)
 (sS 34 2<|.ite 37
 (sB .xor 33 9<|sI 1<|sB .add 6 39<|au 38 40)
 (sS 34 3<|.ite 38
 (sB .xor 33 10<|sI 1<|sB .add 6 40<|au 39 41)
 (sS 34 4<|.ite 39
 (sB .xor 33 11<|sI 1<|sB .add 6 41<|au 40 42)
 (sS 34 5<|.ite 40
 (sB .xor 33 12<|sI 1<|sB .add 6 42<|au 41 43)
 (sS 34 6<|.ite 41
 (sB .xor 33 13<|sI 1<|sB .add 6 43<|au 42 44)
 (sS 34 7<|.ite 42
 (sB .xor 33 14<|sI 1<|sB .add 6 44<|au 43 45)
 (sS 34 8<|.ite 43
 (sB .xor 33 15<|sI 1<|sB .add 6 45<|au 44 46)
 (sS 34 9<|.ite 44
 (sB .xor 33 16<|sI 1<|sB .add 6 46<|au 45 47)
 (sS 34 10<|.ite 45
 (sB .xor 33 17<|sI 1<|sB .add 6 47<|au 46 48)
 (sS 34 11<|.ite 46
 (sB .xor 33 18<|sI 1<|sB .add 6 48<|au 47 49)
 (sS 34 12<|.ite 47
 (sB .xor 33 19<|sI 1<|sB .add 6 49<|au 48 50)
 (sS 34 13<|.ite 48
 (sB .xor 33 20<|sI 1<|sB .add 6 50<|au 49 51)
 (sS 34 14<|.ite 49
 (sB .xor 33 21<|sI 1<|sB .add 6 51<|au 50 52)
 (sS 34 15<|.ite 50
 (sB .xor 33 22<|sI 1<|sB .add 6 52<|au 51 53)
 (.dead)))))))))))))))))
 (sS 30 1<|.ite 32
 (sB .xor 28 8<|sB .shr 33 27<|sB .and 33 29<|sS 35 0<|.ite 36
 (sB .xor 34 7<|sI 1<|sB .add 6 38<|au 37 39)
 (sS 35 1<|.ite 37
 (sB .xor 34 8<|sI 1<|sB .add 6 39<|au 38 40)
 (sS 35 2<|.ite 38
 (sB .xor 34 9<|sI 1<|sB .add 6 40<|au 39 41)
 (sS 35 3<|.ite 39
 (sB .xor 34 10<|sI 1<|sB .add 6 41<|au 40 42)
 (sS 35 4<|.ite 40
 (sB .xor 34 11<|sI 1<|sB .add 6 42<|au 41 43)
 (sS 35 5<|.ite 41
 (sB .xor 34 12<|sI 1<|sB .add 6 43<|au 42 44)
 (sS 35 6<|.ite 42
 (sB .xor 34 13<|sI 1<|sB .add 6 44<|au 43 45)
 (sS 35 7<|.ite 43
 (sB .xor 34 14<|sI 1<|sB .add 6 45<|au 44 46)
 (sS 35 8<|.ite 44
 (sB .xor 34 15<|sI 1<|sB .add 6 46<|au 45 47)
 (sS 35 9<|.ite 45
 (sB .xor 34 16<|sI 1<|sB .add 6 47<|au 46 48)
 (sS 35 10<|.ite 46
 (sB .xor 34 17<|sI 1<|sB .add 6 48<|au 47 49)
 (sS 35 11<|.ite 47
 (sB .xor 34 18<|sI 1<|sB .add 6 49<|au 48 50)
 (sS 35 12<|.ite 48
 (sB .xor 34 19<|sI 1<|sB .add 6 50<|au 49 51)
 (sS 35 13<|.ite 49
 (sB .xor 34 20<|sI 1<|sB .add 6 51<|au 50 52)
 (sS 35 14<|.ite 50
 (sB .xor 34 21<|sI 1<|sB .add 6 52<|au 51 53)
 (sS 35 15<|.ite 51
 (sB .xor 34 22<|sI 1<|sB .add 6 53<|au 52 54)
 (.dead)))))))))))))))))
 (sS 30 2<|.ite 33
 (sB .xor 28 9<|sB .shr 34 27<|sB .and 34 29<|sS 36 0<|.ite 37
 (sB .xor 35 7<|sI 1<|sB .add 6 39<|au 38 40)
 (sS 36 1<|.ite 38
 (sB .xor 35 8<|sI 1<|sB .add 6 40<|au 39 41)
 (sS 36 2<|.ite 39
 (sB .xor 35 9<|sI 1<|sB .add 6 41<|au 40 42)
 (sS 36 3<|.ite 40
 (sB .xor 35 10<|sI 1<|sB .add 6 42<|au 41 43)
 (sS 36 4<|.ite 41
 (sB .xor 35 11<|sI 1<|sB .add 6 43<|au 42 44)
 (sS 36 5<|.ite 42
 (sB .xor 35 12<|sI 1<|sB .add 6 44<|au 43 45)
 (sS 36 6<|.ite 43
 (sB .xor 35 13<|sI 1<|sB .add 6 45<|au 44 46)
 (sS 36 7<|.ite 44
 (sB .xor 35 14<|sI 1<|sB .add 6 46<|au 45 47)
 (sS 36 8<|.ite 45
 (sB .xor 35 15<|sI 1<|sB .add 6 47<|au 46 48)
 (sS 36 9<|.ite 46
 (sB .xor 35 16<|sI 1<|sB .add 6 48<|au 47 49)
 (sS 36 10<|.ite 47
 (sB .xor 35 17<|sI 1<|sB .add 6 49<|au 48 50)
 (sS 36 11<|.ite 48
 (sB .xor 35 18<|sI 1<|sB .add 6 50<|au 49 51)
 (sS 36 12<|.ite 49
 (sB .xor 35 19<|sI 1<|sB .add 6 51<|au 50 52)
 (sS 36 13<|.ite 50
 (sB .xor 35 20<|sI 1<|sB .add 6 52<|au 51 53)
 (sS 36 14<|.ite 51
 (sB .xor 35 21<|sI 1<|sB .add 6 53<|au 52 54)
 (sS 36 15<|.ite 52
 (sB .xor 35 22<|sI 1<|sB .add 6 54<|au 53 55)
 (.dead)))))))))))))))))
 (sS 30 3<|.ite 34
 (sB .xor 28 10<|sB .shr 35 27<|sB .and 35 29<|sS 37 0<|.ite 38
 (sB .xor 36 7<|sI 1<|sB .add 6 40<|au 39 41)
 (sS 37 1<|.ite 39
 (sB .xor 36 8<|sI 1<|sB .add 6 41<|au 40 42)
 (sS 37 2<|.ite 40
 (sB .xor 36 9<|sI 1<|sB .add 6 42<|au 41 43)
 (sS 37 3<|.ite 41
 (sB .xor 36 10<|sI 1<|sB .add 6 43<|au 42 44)
 (sS 37 4<|.ite 42
 (sB .xor 36 11<|sI 1<|sB .add 6 44<|au 43 45)
 (sS 37 5<|.ite 43
 (sB .xor 36 12<|sI 1<|sB .add 6 45<|au 44 46)
 (sS 37 6<|.ite 44
 (sB .xor 36 13<|sI 1<|sB .add 6 46<|au 45 47)
 (sS 37 7<|.ite 45
 (sB .xor 36 14<|sI 1<|sB .add 6 47<|au 46 48)
 (sS 37 8<|.ite 46
 (sB .xor 36 15<|sI 1<|sB .add 6 48<|au 47 49)
 (sS 37 9<|.ite 47
 (sB .xor 36 16<|sI 1<|sB .add 6 49<|au 48 50)
 (sS 37 10<|.ite 48
 (sB .xor 36 17<|sI 1<|sB .add 6 50<|au 49 51)
 (sS 37 11<|.ite 49
 (sB .xor 36 18<|sI 1<|sB .add 6 51<|au 50 52)
 (sS 37 12<|.ite 50
 (sB .xor 36 19<|sI 1<|sB .add 6 52<|au 51 53)
 (sS 37 13<|.ite 51
 (sB .xor 36 20<|sI 1<|sB .add 6 53<|au 52 54)
 (sS 37 14<|.ite 52
 (sB .xor 36 21<|sI 1<|sB .add 6 54<|au 53 55)
 (sS 37 15<|.ite 53
 (sB .xor 36 22<|sI 1<|sB .add 6 55<|au 54 56)
 (.dead)))))))))))))))))
 (sS 30 4<|.ite 35
 (sB .xor 28 11<|sB .shr 36 27<|sB .and 36 29<|sS 38 0<|.ite 39
 (sB .xor 37 7<|sI 1<|sB .add 6 41<|au 40 42)
 (sS 38 1<|.ite 40
 (sB .xor 37 8<|sI 1<|sB .add 6 42<|au 41 43)
 (sS 38 2<|.ite 41
 (sB .xor 37 9<|sI 1<|sB .add 6 43<|au 42 44)
 (sS 38 3<|.ite 42
 (sB .xor 37 10<|sI 1<|sB .add 6 44<|au 43 45)
 (sS 38 4<|.ite 43
 (sB .xor 37 11<|sI 1<|sB .add 6 45<|au 44 46)
 (sS 38 5<|.ite 44
 (sB .xor 37 12<|sI 1<|sB .add 6 46<|au 45 47)
 (sS 38 6<|.ite 45
 (sB .xor 37 13<|sI 1<|sB .add 6 47<|au 46 48)
 (sS 38 7<|.ite 46
 (sB .xor 37 14<|sI 1<|sB .add 6 48<|au 47 49)
 (sS 38 8<|.ite 47
 (sB .xor 37 15<|sI 1<|sB .add 6 49<|au 48 50)
 (sS 38 9<|.ite 48
 (sB .xor 37 16<|sI 1<|sB .add 6 50<|au 49 51)
 (sS 38 10<|.ite 49
 (sB .xor 37 17<|sI 1<|sB .add 6 51<|au 50 52)
 (sS 38 11<|.ite 50
 (sB .xor 37 18<|sI 1<|sB .add 6 52<|au 51 53)
 (sS 38 12<|.ite 51
 (sB .xor 37 19<|sI 1<|sB .add 6 53<|au 52 54)
 (sS 38 13<|.ite 52
 (sB .xor 37 20<|sI 1<|sB .add 6 54<|au 53 55)
 (sS 38 14<|.ite 53
 (sB .xor 37 21<|sI 1<|sB .add 6 55<|au 54 56)
 (sS 38 15<|.ite 54
 (sB .xor 37 22<|sI 1<|sB .add 6 56<|au 55 57)
 (.dead)))))))))))))))))
 (sS 30 5<|.ite 36
 (sB .xor 28 12<|sB .shr 37 27<|sB .and 37 29<|sS 39 0<|.ite 40
 (sB .xor 38 7<|sI 1<|sB .add 6 42<|au 41 43)
 (sS 39 1<|.ite 41
 (sB .xor 38 8<|sI 1<|sB .add 6 43<|au 42 44)
 (sS 39 2<|.ite 42
 (sB .xor 38 9<|sI 1<|sB .add 6 44<|au 43 45)
 (sS 39 3<|.ite 43
 (sB .xor 38 10<|sI 1<|sB .add 6 45<|au 44 46)
 (sS 39 4<|.ite 44
 (sB .xor 38 11<|sI 1<|sB .add 6 46<|au 45 47)
 (sS 39 5<|.ite 45
 (sB .xor 38 12<|sI 1<|sB .add 6 47<|au 46 48)
 (sS 39 6<|.ite 46
 (sB .xor 38 13<|sI 1<|sB .add 6 48<|au 47 49)
 (sS 39 7<|.ite 47
 (sB .xor 38 14<|sI 1<|sB .add 6 49<|au 48 50)
 (sS 39 8<|.ite 48
 (sB .xor 38 15<|sI 1<|sB .add 6 50<|au 49 51)
 (sS 39 9<|.ite 49
 (sB .xor 38 16<|sI 1<|sB .add 6 51<|au 50 52)
 (sS 39 10<|.ite 50
 (sB .xor 38 17<|sI 1<|sB .add 6 52<|au 51 53)
 (sS 39 11<|.ite 51
 (sB .xor 38 18<|sI 1<|sB .add 6 53<|au 52 54)
 (sS 39 12<|.ite 52
 (sB .xor 38 19<|sI 1<|sB .add 6 54<|au 53 55)
 (sS 39 13<|.ite 53
 (sB .xor 38 20<|sI 1<|sB .add 6 55<|au 54 56)
 (sS 39 14<|.ite 54
 (sB .xor 38 21<|sI 1<|sB .add 6 56<|au 55 57)
 (sS 39 15<|.ite 55
 (sB .xor 38 22<|sI 1<|sB .add 6 57<|au 56 58)
 (.dead)))))))))))))))))
 (sS 30 6<|.ite 37
 (sB .xor 28 13<|sB .shr 38 27<|sB .and 38 29<|sS 40 0<|.ite 41
 (sB .xor 39 7<|sI 1<|sB .add 6 43<|au 42 44)
 (sS 40 1<|.ite 42
 (sB .xor 39 8<|sI 1<|sB .add 6 44<|au 43 45)
 (sS 40 2<|.ite 43
 (sB .xor 39 9<|sI 1<|sB .add 6 45<|au 44 46)
 (sS 40 3<|.ite 44
 (sB .xor 39 10<|sI 1<|sB .add 6 46<|au 45 47)
 (sS 40 4<|.ite 45
 (sB .xor 39 11<|sI 1<|sB .add 6 47<|au 46 48)
 (sS 40 5<|.ite 46
 (sB .xor 39 12<|sI 1<|sB .add 6 48<|au 47 49)
 (sS 40 6<|.ite 47
 (sB .xor 39 13<|sI 1<|sB .add 6 49<|au 48 50)
 (sS 40 7<|.ite 48
 (sB .xor 39 14<|sI 1<|sB .add 6 50<|au 49 51)
 (sS 40 8<|.ite 49
 (sB .xor 39 15<|sI 1<|sB .add 6 51<|au 50 52)
 (sS 40 9<|.ite 50
 (sB .xor 39 16<|sI 1<|sB .add 6 52<|au 51 53)
 (sS 40 10<|.ite 51
 (sB .xor 39 17<|sI 1<|sB .add 6 53<|au 52 54)
 (sS 40 11<|.ite 52
 (sB .xor 39 18<|sI 1<|sB .add 6 54<|au 53 55)
 (sS 40 12<|.ite 53
 (sB .xor 39 19<|sI 1<|sB .add 6 55<|au 54 56)
 (sS 40 13<|.ite 54
 (sB .xor 39 20<|sI 1<|sB .add 6 56<|au 55 57)
 (sS 40 14<|.ite 55
 (sB .xor 39 21<|sI 1<|sB .add 6 57<|au 56 58)
 (sS 40 15<|.ite 56
 (sB .xor 39 22<|sI 1<|sB .add 6 58<|au 57 59)
 (.dead)))))))))))))))))
 (sS 30 7<|.ite 38
 (sB .xor 28 14<|sB .shr 39 27<|sB .and 39 29<|sS 41 0<|.ite 42
 (sB .xor 40 7<|sI 1<|sB .add 6 44<|au 43 45)
 (sS 41 1<|.ite 43
 (sB .xor 40 8<|sI 1<|sB .add 6 45<|au 44 46)
 (sS 41 2<|.ite 44
 (sB .xor 40 9<|sI 1<|sB .add 6 46<|au 45 47)
 (sS 41 3<|.ite 45
 (sB .xor 40 10<|sI 1<|sB .add 6 47<|au 46 48)
 (sS 41 4<|.ite 46
 (sB .xor 40 11<|sI 1<|sB .add 6 48<|au 47 49)
 (sS 41 5<|.ite 47
 (sB .xor 40 12<|sI 1<|sB .add 6 49<|au 48 50)
 (sS 41 6<|.ite 48
 (sB .xor 40 13<|sI 1<|sB .add 6 50<|au 49 51)
 (sS 41 7<|.ite 49
 (sB .xor 40 14<|sI 1<|sB .add 6 51<|au 50 52)
 (sS 41 8<|.ite 50
 (sB .xor 40 15<|sI 1<|sB .add 6 52<|au 51 53)
 (sS 41 9<|.ite 51
 (sB .xor 40 16<|sI 1<|sB .add 6 53<|au 52 54)
 (sS 41 10<|.ite 52
 (sB .xor 40 17<|sI 1<|sB .add 6 54<|au 53 55)
 (sS 41 11<|.ite 53
 (sB .xor 40 18<|sI 1<|sB .add 6 55<|au 54 56)
 (sS 41 12<|.ite 54
 (sB .xor 40 19<|sI 1<|sB .add 6 56<|au 55 57)
 (sS 41 13<|.ite 55
 (sB .xor 40 20<|sI 1<|sB .add 6 57<|au 56 58)
 (sS 41 14<|.ite 56
 (sB .xor 40 21<|sI 1<|sB .add 6 58<|au 57 59)
 (sS 41 15<|.ite 57
 (sB .xor 40 22<|sI 1<|sB .add 6 59<|au 58 60)
 (.dead)))))))))))))))))
 (sS 30 8<|.ite 39
 (sB .xor 28 15<|sB .shr 40 27<|sB .and 40 29<|sS 42 0<|.ite 43
 (sB .xor 41 7<|sI 1<|sB .add 6 45<|au 44 46)
 (sS 42 1<|.ite 44
 (sB .xor 41 8<|sI 1<|sB .add 6 46<|au 45 47)
 (sS 42 2<|.ite 45
 (sB .xor 41 9<|sI 1<|sB .add 6 47<|au 46 48)
 (sS 42 3<|.ite 46
 (sB .xor 41 10<|sI 1<|sB .add 6 48<|au 47 49)
 (sS 42 4<|.ite 47
 (sB .xor 41 11<|sI 1<|sB .add 6 49<|au 48 50)
 (sS 42 5<|.ite 48
 (sB .xor 41 12<|sI 1<|sB .add 6 50<|au 49 51)
 (sS 42 6<|.ite 49
 (sB .xor 41 13<|sI 1<|sB .add 6 51<|au 50 52)
 (sS 42 7<|.ite 50
 (sB .xor 41 14<|sI 1<|sB .add 6 52<|au 51 53)
 (sS 42 8<|.ite 51
 (sB .xor 41 15<|sI 1<|sB .add 6 53<|au 52 54)
 (sS 42 9<|.ite 52
 (sB .xor 41 16<|sI 1<|sB .add 6 54<|au 53 55)
 (sS 42 10<|.ite 53
 (sB .xor 41 17<|sI 1<|sB .add 6 55<|au 54 56)
 (sS 42 11<|.ite 54
 (sB .xor 41 18<|sI 1<|sB .add 6 56<|au 55 57)
 (sS 42 12<|.ite 55
 (sB .xor 41 19<|sI 1<|sB .add 6 57<|au 56 58)
 (sS 42 13<|.ite 56
 (sB .xor 41 20<|sI 1<|sB .add 6 58<|au 57 59)
 (sS 42 14<|.ite 57
 (sB .xor 41 21<|sI 1<|sB .add 6 59<|au 58 60)
 (sS 42 15<|.ite 58
 (sB .xor 41 22<|sI 1<|sB .add 6 60<|au 59 61)
 (.dead)))))))))))))))))
 (sS 30 9<|.ite 40
 (sB .xor 28 16<|sB .shr 41 27<|sB .and 41 29<|sS 43 0<|.ite 44
 (sB .xor 42 7<|sI 1<|sB .add 6 46<|au 45 47)
 (sS 43 1<|.ite 45
 (sB .xor 42 8<|sI 1<|sB .add 6 47<|au 46 48)
 (sS 43 2<|.ite 46
 (sB .xor 42 9<|sI 1<|sB .add 6 48<|au 47 49)
 (sS 43 3<|.ite 47
 (sB .xor 42 10<|sI 1<|sB .add 6 49<|au 48 50)
 (sS 43 4<|.ite 48
 (sB .xor 42 11<|sI 1<|sB .add 6 50<|au 49 51)
 (sS 43 5<|.ite 49
 (sB .xor 42 12<|sI 1<|sB .add 6 51<|au 50 52)
 (sS 43 6<|.ite 50
 (sB .xor 42 13<|sI 1<|sB .add 6 52<|au 51 53)
 (sS 43 7<|.ite 51
 (sB .xor 42 14<|sI 1<|sB .add 6 53<|au 52 54)
 (sS 43 8<|.ite 52
 (sB .xor 42 15<|sI 1<|sB .add 6 54<|au 53 55)
 (sS 43 9<|.ite 53
 (sB .xor 42 16<|sI 1<|sB .add 6 55<|au 54 56)
 (sS 43 10<|.ite 54
 (sB .xor 42 17<|sI 1<|sB .add 6 56<|au 55 57)
 (sS 43 11<|.ite 55
 (sB .xor 42 18<|sI 1<|sB .add 6 57<|au 56 58)
 (sS 43 12<|.ite 56
 (sB .xor 42 19<|sI 1<|sB .add 6 58<|au 57 59)
 (sS 43 13<|.ite 57
 (sB .xor 42 20<|sI 1<|sB .add 6 59<|au 58 60)
 (sS 43 14<|.ite 58
 (sB .xor 42 21<|sI 1<|sB .add 6 60<|au 59 61)
 (sS 43 15<|.ite 59
 (sB .xor 42 22<|sI 1<|sB .add 6 61<|au 60 62)
 (.dead)))))))))))))))))
 (sS 30 10<|.ite 41
 (sB .xor 28 17<|sB .shr 42 27<|sB .and 42 29<|sS 44 0<|.ite 45
 (sB .xor 43 7<|sI 1<|sB .add 6 47<|au 46 48)
 (sS 44 1<|.ite 46
 (sB .xor 43 8<|sI 1<|sB .add 6 48<|au 47 49)
 (sS 44 2<|.ite 47
 (sB .xor 43 9<|sI 1<|sB .add 6 49<|au 48 50)
 (sS 44 3<|.ite 48
 (sB .xor 43 10<|sI 1<|sB .add 6 50<|au 49 51)
 (sS 44 4<|.ite 49
 (sB .xor 43 11<|sI 1<|sB .add 6 51<|au 50 52)
 (sS 44 5<|.ite 50
 (sB .xor 43 12<|sI 1<|sB .add 6 52<|au 51 53)
 (sS 44 6<|.ite 51
 (sB .xor 43 13<|sI 1<|sB .add 6 53<|au 52 54)
 (sS 44 7<|.ite 52
 (sB .xor 43 14<|sI 1<|sB .add 6 54<|au 53 55)
 (sS 44 8<|.ite 53
 (sB .xor 43 15<|sI 1<|sB .add 6 55<|au 54 56)
 (sS 44 9<|.ite 54
 (sB .xor 43 16<|sI 1<|sB .add 6 56<|au 55 57)
 (sS 44 10<|.ite 55
 (sB .xor 43 17<|sI 1<|sB .add 6 57<|au 56 58)
 (sS 44 11<|.ite 56
 (sB .xor 43 18<|sI 1<|sB .add 6 58<|au 57 59)
 (sS 44 12<|.ite 57
 (sB .xor 43 19<|sI 1<|sB .add 6 59<|au 58 60)
 (sS 44 13<|.ite 58
 (sB .xor 43 20<|sI 1<|sB .add 6 60<|au 59 61)
 (sS 44 14<|.ite 59
 (sB .xor 43 21<|sI 1<|sB .add 6 61<|au 60 62)
 (sS 44 15<|.ite 60
 (sB .xor 43 22<|sI 1<|sB .add 6 62<|au 61 63)
 (.dead)))))))))))))))))
 (sS 30 11<|.ite 42
 (sB .xor 28 18<|sB .shr 43 27<|sB .and 43 29<|sS 45 0<|.ite 46
 (sB .xor 44 7<|sI 1<|sB .add 6 48<|au 47 49)
 (sS 45 1<|.ite 47
 (sB .xor 44 8<|sI 1<|sB .add 6 49<|au 48 50)
 (sS 45 2<|.ite 48
 (sB .xor 44 9<|sI 1<|sB .add 6 50<|au 49 51)
 (sS 45 3<|.ite 49
 (sB .xor 44 10<|sI 1<|sB .add 6 51<|au 50 52)
 (sS 45 4<|.ite 50
 (sB .xor 44 11<|sI 1<|sB .add 6 52<|au 51 53)
 (sS 45 5<|.ite 51
 (sB .xor 44 12<|sI 1<|sB .add 6 53<|au 52 54)
 (sS 45 6<|.ite 52
 (sB .xor 44 13<|sI 1<|sB .add 6 54<|au 53 55)
 (sS 45 7<|.ite 53
 (sB .xor 44 14<|sI 1<|sB .add 6 55<|au 54 56)
 (sS 45 8<|.ite 54
 (sB .xor 44 15<|sI 1<|sB .add 6 56<|au 55 57)
 (sS 45 9<|.ite 55
 (sB .xor 44 16<|sI 1<|sB .add 6 57<|au 56 58)
 (sS 45 10<|.ite 56
 (sB .xor 44 17<|sI 1<|sB .add 6 58<|au 57 59)
 (sS 45 11<|.ite 57
 (sB .xor 44 18<|sI 1<|sB .add 6 59<|au 58 60)
 (sS 45 12<|.ite 58
 (sB .xor 44 19<|sI 1<|sB .add 6 60<|au 59 61)
 (sS 45 13<|.ite 59
 (sB .xor 44 20<|sI 1<|sB .add 6 61<|au 60 62)
 (sS 45 14<|.ite 60
 (sB .xor 44 21<|sI 1<|sB .add 6 62<|au 61 63)
 (sS 45 15<|.ite 61
 (sB .xor 44 22<|sI 1<|sB .add 6 63<|au 62 64)
 (.dead)))))))))))))))))
 (sS 30 12<|.ite 43
 (sB .xor 28 19<|sB .shr 44 27<|sB .and 44 29<|sS 46 0<|.ite 47
 (sB .xor 45 7<|sI 1<|sB .add 6 49<|au 48 50)
 (sS 46 1<|.ite 48
 (sB .xor 45 8<|sI 1<|sB .add 6 50<|au 49 51)
 (sS 46 2<|.ite 49
 (sB .xor 45 9<|sI 1<|sB .add 6 51<|au 50 52)
 (sS 46 3<|.ite 50
 (sB .xor 45 10<|sI 1<|sB .add 6 52<|au 51 53)
 (sS 46 4<|.ite 51
 (sB .xor 45 11<|sI 1<|sB .add 6 53<|au 52 54)
 (sS 46 5<|.ite 52
 (sB .xor 45 12<|sI 1<|sB .add 6 54<|au 53 55)
 (sS 46 6<|.ite 53
 (sB .xor 45 13<|sI 1<|sB .add 6 55<|au 54 56)
 (sS 46 7<|.ite 54
 (sB .xor 45 14<|sI 1<|sB .add 6 56<|au 55 57)
 (sS 46 8<|.ite 55
 (sB .xor 45 15<|sI 1<|sB .add 6 57<|au 56 58)
 (sS 46 9<|.ite 56
 (sB .xor 45 16<|sI 1<|sB .add 6 58<|au 57 59)
 (sS 46 10<|.ite 57
 (sB .xor 45 17<|sI 1<|sB .add 6 59<|au 58 60)
 (sS 46 11<|.ite 58
 (sB .xor 45 18<|sI 1<|sB .add 6 60<|au 59 61)
 (sS 46 12<|.ite 59
 (sB .xor 45 19<|sI 1<|sB .add 6 61<|au 60 62)
 (sS 46 13<|.ite 60
 (sB .xor 45 20<|sI 1<|sB .add 6 62<|au 61 63)
 (sS 46 14<|.ite 61
 (sB .xor 45 21<|sI 1<|sB .add 6 63<|au 62 64)
 (sS 46 15<|.ite 62
 (sB .xor 45 22<|sI 1<|sB .add 6 64<|au 63 65)
 (.dead)))))))))))))))))
 (sS 30 13<|.ite 44
 (sB .xor 28 20<|sB .shr 45 27<|sB .and 45 29<|sS 47 0<|.ite 48
 (sB .xor 46 7<|sI 1<|sB .add 6 50<|au 49 51)
 (sS 47 1<|.ite 49
 (sB .xor 46 8<|sI 1<|sB .add 6 51<|au 50 52)
 (sS 47 2<|.ite 50
 (sB .xor 46 9<|sI 1<|sB .add 6 52<|au 51 53)
 (sS 47 3<|.ite 51
 (sB .xor 46 10<|sI 1<|sB .add 6 53<|au 52 54)
 (sS 47 4<|.ite 52
 (sB .xor 46 11<|sI 1<|sB .add 6 54<|au 53 55)
 (sS 47 5<|.ite 53
 (sB .xor 46 12<|sI 1<|sB .add 6 55<|au 54 56)
 (sS 47 6<|.ite 54
 (sB .xor 46 13<|sI 1<|sB .add 6 56<|au 55 57)
 (sS 47 7<|.ite 55
 (sB .xor 46 14<|sI 1<|sB .add 6 57<|au 56 58)
 (sS 47 8<|.ite 56
 (sB .xor 46 15<|sI 1<|sB .add 6 58<|au 57 59)
 (sS 47 9<|.ite 57
 (sB .xor 46 16<|sI 1<|sB .add 6 59<|au 58 60)
 (sS 47 10<|.ite 58
 (sB .xor 46 17<|sI 1<|sB .add 6 60<|au 59 61)
 (sS 47 11<|.ite 59
 (sB .xor 46 18<|sI 1<|sB .add 6 61<|au 60 62)
 (sS 47 12<|.ite 60
 (sB .xor 46 19<|sI 1<|sB .add 6 62<|au 61 63)
 (sS 47 13<|.ite 61
 (sB .xor 46 20<|sI 1<|sB .add 6 63<|au 62 64)
 (sS 47 14<|.ite 62
 (sB .xor 46 21<|sI 1<|sB .add 6 64<|au 63 65)
 (sS 47 15<|.ite 63
 (sB .xor 46 22<|sI 1<|sB .add 6 65<|au 64 66)
 (.dead)))))))))))))))))
 (sS 30 14<|.ite 45
 (sB .xor 28 21<|sB .shr 46 27<|sB .and 46 29<|sS 48 0<|.ite 49
 (sB .xor 47 7<|sI 1<|sB .add 6 51<|au 50 52)
 (sS 48 1<|.ite 50
 (sB .xor 47 8<|sI 1<|sB .add 6 52<|au 51 53)
 (sS 48 2<|.ite 51
 (sB .xor 47 9<|sI 1<|sB .add 6 53<|au 52 54)
 (sS 48 3<|.ite 52
 (sB .xor 47 10<|sI 1<|sB .add 6 54<|au 53 55)
 (sS 48 4<|.ite 53
 (sB .xor 47 11<|sI 1<|sB .add 6 55<|au 54 56)
 (sS 48 5<|.ite 54
 (sB .xor 47 12<|sI 1<|sB .add 6 56<|au 55 57)
 (sS 48 6<|.ite 55
 (sB .xor 47 13<|sI 1<|sB .add 6 57<|au 56 58)
 (sS 48 7<|.ite 56
 (sB .xor 47 14<|sI 1<|sB .add 6 58<|au 57 59)
 (sS 48 8<|.ite 57
 (sB .xor 47 15<|sI 1<|sB .add 6 59<|au 58 60)
 (sS 48 9<|.ite 58
 (sB .xor 47 16<|sI 1<|sB .add 6 60<|au 59 61)
 (sS 48 10<|.ite 59
 (sB .xor 47 17<|sI 1<|sB .add 6 61<|au 60 62)
 (sS 48 11<|.ite 60
 (sB .xor 47 18<|sI 1<|sB .add 6 62<|au 61 63)
 (sS 48 12<|.ite 61
 (sB .xor 47 19<|sI 1<|sB .add 6 63<|au 62 64)
 (sS 48 13<|.ite 62
 (sB .xor 47 20<|sI 1<|sB .add 6 64<|au 63 65)
 (sS 48 14<|.ite 63
 (sB .xor 47 21<|sI 1<|sB .add 6 65<|au 64 66)
 (sS 48 15<|.ite 64
 (sB .xor 47 22<|sI 1<|sB .add 6 66<|au 65 67)
 (.dead)))))))))))))))))
 (sS 30 15<|.ite 46
 (sB .xor 28 22<|sB .shr 47 27<|sB .and 47 29<|sS 49 0<|.ite 50
 (sB .xor 48 7<|sI 1<|sB .add 6 52<|au 51 53)
 (sS 49 1<|.ite 51
 (sB .xor 48 8<|sI 1<|sB .add 6 53<|au 52 54)
 (sS 49 2<|.ite 52
 (sB .xor 48 9<|sI 1<|sB .add 6 54<|au 53 55)
 (sS 49 3<|.ite 53
 (sB .xor 48 10<|sI 1<|sB .add 6 55<|au 54 56)
 (sS 49 4<|.ite 54
 (sB .xor 48 11<|sI 1<|sB .add 6 56<|au 55 57)
 (sS 49 5<|.ite 55
 (sB .xor 48 12<|sI 1<|sB .add 6 57<|au 56 58)
 (sS 49 6<|.ite 56
 (sB .xor 48 13<|sI 1<|sB .add 6 58<|au 57 59)
 (sS 49 7<|.ite 57
 (sB .xor 48 14<|sI 1<|sB .add 6 59<|au 58 60)
 (sS 49 8<|.ite 58
 (sB .xor 48 15<|sI 1<|sB .add 6 60<|au 59 61)
 (sS 49 9<|.ite 59
 (sB .xor 48 16<|sI 1<|sB .add 6 61<|au 60 62)
 (sS 49 10<|.ite 60
 (sB .xor 48 17<|sI 1<|sB .add 6 62<|au 61 63)
 (sS 49 11<|.ite 61
 (sB .xor 48 18<|sI 1<|sB .add 6 63<|au 62 64)
 (sS 49 12<|.ite 62
 (sB .xor 48 19<|sI 1<|sB .add 6 64<|au 63 65)
 (sS 49 13<|.ite 63
 (sB .xor 48 20<|sI 1<|sB .add 6 65<|au 64 66)
 (sS 49 14<|.ite 64
 (sB .xor 48 21<|sI 1<|sB .add 6 66<|au 65 67)
 (sS 49 15<|.ite 65
 (sB .xor 48 22<|sI 1<|sB .add 6 67<|au 66 68)
 (.dead)))))))))))))))))
 (.dead)))))))))))))))))
 (sI 0<|.ret [24,0])
def d43:aF:=.tree 29<|sB .lss 3 2<|.ite 29
 (sA 1 1 3<|sL 0 30<|sT []<|sB .eql 31 32<|.step (.cb false)<|.step (.yG 34 4 31)<|sL 0 35<|.step (.un .not 36)<|.ite 37
 (sT [114,101,109,97,105,110,105,110,103]<|sB .eql 31 38<|.ite 39
 (sI 0<|sB .eql 21 40<|.step (.un .not 41)<|.ite 42
 (.ret [40])
 (sI 1<|sB .add 3 43<|jD 44))
 (sT [97,108,108,111,119,101,100]<|sB .eql 31 40<|.ite 41
 (.step (.un .not 22)<|.step (.un .not 42)<|.ite 43
 (sI 0<|.ret [44])
 (sI 1<|sB .add 3 44<|jD 45))
 (sT [110,97,109,101]<|sB .eql 31 42<|.ite 43
 (sB .eql 23 32<|.step (.un .not 44)<|.ite 45
 (sI 0<|.ret [46])
 (sI 1<|sB .add 3 46<|jD 47))
 (sT [114,101,103,105,111,110]<|sB .eql 31 44<|.ite 45
 (sB .eql 24 32<|.step (.un .not 46)<|.ite 47
 (sI 0<|.ret [48])
 (sI 1<|sB .add 3 48<|jD 49))
 (sT [110,111,116,101]<|sB .eql 31 46<|.ite 47
 (sB .eql 25 32<|.step (.un .not 48)<|.ite 49
 (sI 0<|.ret [50])
 (sI 1<|sB .add 3 50<|jD 51))
 (sT [100,101,115,99,114]<|sB .eql 31 48<|.ite 49
 (.step (.len 26)<|sI 0<|sB .eql 50 51<|.step (.un .not 52)<|.ite 53
 (.ret [51])
 (sI 1<|sB .add 3 54<|jD 55))
 (sT [116,97,98,108,101]<|sB .eql 31 50<|.ite 51
 (.step (.len 27)<|sI 0<|sB .eql 52 53<|.step (.un .not 54)<|.ite 55
 (.ret [53])
 (sI 1<|sB .add 3 56<|jD 57))
 (sT [105,100]<|sB .eql 31 52<|.ite 53
 (.step (.ci .u64 0)<|sB .eql 6 54<|.step (.un .not 55)<|.ite 56
 (sI 0<|.ret [57])
 (sI 1<|sB .add 3 57<|jD 58))
 (sT [109,105,110]<|sB .eql 31 54<|.ite 55
 (.step (.ci .u64 0)<|sB .eql 7 56<|.step (.un .not 57)<|.ite 58
 (sI 0<|.ret [59])
 (sI 1<|sB .add 3 59<|jD 60))
 (sT [109,97,120]<|sB .eql 31 56<|.ite 57
 (.step (.ci .u64 0)<|sB .eql 8 58<|.step (.un .not 59)<|.ite 60
 (sI 0<|.ret [61])
 (sI 1<|sB .add 3 61<|jD 62))
 (sT [99,104,111,115,101,110]<|sB .eql 31 58<|.ite 59
 (.step (.ci .u64 0)<|sB .eql 9 60<|.step (.un .not 61)<|.ite 62
 (sI 0<|.ret [63])
 (sI 1<|sB .add 3 63<|jD 64))
 (sT [102,108,97,103,115]<|sB .eql 31 60<|.ite 61
 (.step (.ci .u64 0)<|sB .eql 10 62<|.step (.un .not 63)<|.ite 64
 (sI 0<|.ret [65])
 (sI 1<|sB .add 3 65<|jD 66))
 (sT [99,111,115,116]<|sB .eql 31 62<|.ite 63
 (.step (.ci .u64 0)<|sB .eql 11 64<|.step (.un .not 65)<|.ite 66
 (sI 0<|.ret [67])
 (sI 1<|sB .add 3 67<|jD 68))
 (sT [112,114,105,111,114,105,116,121]<|sB .eql 31 64<|.ite 65
 (.step (.ci .u64 0)<|sB .eql 12 66<|.step (.un .not 67)<|.ite 68
 (sI 0<|.ret [69])
 (sI 1<|sB .add 3 69<|jD 70))
 (sT [100,101,97,100,108,105,110,101]<|sB .eql 31 66<|.ite 67
 (.step (.ci .u64 0)<|sB .eql 13 68<|.step (.un .not 69)<|.ite 70
 (sI 0<|.ret [71])
 (sI 1<|sB .add 3 71<|jD 72))
 (sT [114,101,116,114,121]<|sB .eql 31 68<|.ite 69
 (.step (.ci .u64 0)<|sB .eql 14 70<|.step (.un .not 71)<|.ite 72
 (sI 0<|.ret [73])
 (sI 1<|sB .add 3 73<|jD 74))
 (sT [101,112,111,99,104]<|sB .eql 31 70<|.ite 71
 (.step (.ci .u64 0)<|sB .eql 15 72<|.step (.un .not 73)<|.ite 74
 (sI 0<|.ret [75])
 (sI 1<|sB .add 3 75<|jD 76))
 (sT [98,97,115,101]<|sB .eql 31 72<|.ite 73
 (.step (.ci .u64 0)<|sB .eql 16 74<|.step (.un .not 75)<|.ite 76
 (sI 0<|.ret [77])
 (sI 1<|sB .add 3 77<|jD 78))
 (sT [100,105,103,101,115,116]<|sB .eql 31 74<|.ite 75
 (.step (.ci .u64 0)<|sB .eql 17 76<|.step (.un .not 77)<|.ite 78
 (sI 0<|.ret [79])
 (sI 1<|sB .add 3 79<|jD 80))
 (sT [108,97,103]<|sB .eql 31 76<|.ite 77
 (.step (.ci .u64 0)<|sB .eql 18 78<|.step (.un .not 79)<|.ite 80
 (sI 0<|.ret [81])
 (sI 1<|sB .add 3 81<|jD 82))
 (sT [99,111,100,101]<|sB .eql 31 78<|.ite 79
 (.step (.ci .u64 0)<|sB .eql 19 80<|.step (.un .not 81)<|.ite 82
 (sI 0<|.ret [83])
 (sI 1<|sB .add 3 83<|jD 84))
 (sT [119,97,110,116]<|sB .eql 31 80<|.ite 81
 (.step (.ci .u64 0)<|sB .eql 20 82<|.step (.un .not 83)<|.ite 84
 (sI 0<|.ret [85])
 (sI 1<|sB .add 3 85<|jD 86))
 (sI 1<|sB .add 3 82<|jD 83)))))))))))))))))))))))
 (sI 1<|sB .add 3 38<|jD 39))
 (sI 1<|.ret [30])
def ZC:aF:=.tree 3<|sB .lss 2 1<|.ite 3
 (sA 1 0 2<|sL 0 4<|sI 0<|sC 141 [5,6] 0<|sB .neq 7 6<|.ite 8
 (.ret [6,7])
 (sI 1<|sB .add 2 9<|.tail 149 [0,1,10]))
 (sI 1<|.ret [4])
def Za:aF:=.tree 3<|.step (.len 0)<|sB .lss 2 3<|.ite 4
 (sI 0<|sB .eql 1 5<|.ite 6
 (sA 2 0 2<|sL 0 7<|sL 1 7<|.step (.mk [8,9])<|sC 124 [10] 0<|sB .eql 11 5<|.ite 12
 (sB .gtr 2 5<|.ite 13
 (sI 1<|sB .sub 2 14<|sA 2 0 15<|sL 0 16<|sL 1 16<|.step (.mk [17,18])<|sC 130 [19,10] 0<|sB .add 2 14<|
 .tail 123 [0,20,21])
 (sI 1<|sB .add 2 14<|.tail 123 [0,11,15]))
 (sI 1<|sB .add 2 13<|.tail 123 [0,11,14]))
 (.ret [5,1]))
 (sI 0<|.ret [5,1])
def d26:aF:=.tree 4<|sB .lss 3 2<|.ite 4
 (sA 5 1 3<|sL 0 5<|sL 1 5<|sL 2 5<|sL 3 5<|sL 4 5<|sC 25 [10] 0<|.step (.mk [6,7,8,9,11])<|.step (.ml [12])<|
 .step (.app 5 64 0 13)<|sI 1<|sB .add 3 15<|.tail 26 [14,1,2,16])
 (sI 0<|.ret [5,0])
def d10:aF:=.tree 2<|.step (.ci .u64 128)<|sB .geq 0 2<|.ite 3
 (.step (.ci .u64 7)<|sB .shr 0 4<|sI 1<|sB .add 1 6<|.tail 10 [5,7])
 (sI 0<|.ret [4,1])
def Zg:aF:=.tree 5<|sB .lss 4 1<|.ite 5
 (.step (.nT 0 4)<|.step (.conv .i64 6)<|sI 128<|sB .lss 7 8<|.ite 9
 (sI 0<|.ret [10])
 (sI 192<|sB .geq 7 10<|.ite 11
 (sI 0<|.ret [12])
 (sI 64<|sB .mul 12 2<|sB .add 13 7<|sB .sub 14 8<|sI 1<|sB .add 4 16<|.tail 129 [0,1,15,3,17])))
 (sI 1<|.ret [6,2])
def d44:aF:=.tree 27<|sB .lss 2 1<|.ite 27
 (sA 4 0 2<|sL 0 28<|sL 1 28<|sL 2 28<|sL 3 28<|sT [114,101,109,97,105,110,105,110,103]<|sB .eql 32 33<|
 .ite 34
 (sC 45 [3,4,5,6,7,8,9,10,11,12,13,14,15,16,17,18,19,20,21,22,23,24,25,26] 0<|sI 1<|sB .add 2 36<|kG 37)
 (sT [97,108,108,111,119,101,100]<|sB .eql 32 35<|.ite 36
 (sC 46 [3,4,5,6,7,8,9,10,11,12,13,14,15,16,17,18,19,20,21,22,23,24,25,26] 0<|sI 1<|sB .add 2 38<|kG 39)
 (sT [110,97,109,101]<|sB .eql 32 37<|.ite 38
 (sC 47 [3,4,5,6,7,8,9,10,11,12,13,14,15,16,17,18,19,20,21,22,23,24,25,26] 0<|sC 47 [3,4,5,6,7,8,9,10,11,12,13,14,15,16,17,18,19,20,21,22,23,24,25,26] 1<|
 sI 0<|sB .neq 40 41<|.ite 42
 (.ret [41,40])
 (sI 1<|sB .add 2 43<|kG 44))
 (sT [114,101,103,105,111,110]<|sB .eql 32 39<|.ite 40
 (sC 51 [3,4,5,6,7,8,9,10,11,12,13,14,15,16,17,18,19,20,21,22,23,24,25,26] 0<|sC 51 [3,4,5,6,7,8,9,10,11,12,13,14,15,16,17,18,19,20,21,22,23,24,25,26] 1<|
 sI 0<|sB .neq 42 43<|.ite 44
 (.ret [43,42])
 (sI 1<|sB .add 2 45<|kG 46))
 (sT [110,111,116,101]<|sB .eql 32 41<|.ite 42
 (sC 52 [3,4,5,6,7,8,9,10,11,12,13,14,15,16,17,18,19,20,21,22,23,24,25,26] 0<|sC 52 [3,4,5,6,7,8,9,10,11,12,13,14,15,16,17,18,19,20,21,22,23,24,25,26] 1<|
 sI 0<|sB .neq 44 45<|.ite 46
 (.ret [45,44])
 (sI 1<|sB .add 2 47<|kG 48))
 (sT [100,101,115,99,114]<|sB .eql 32 43<|.ite 44
 (sC 53 [3,4,5,6,7,8,9,10,11,12,13,14,15,16,17,18,19,20,21,22,23,24,25,26] 0<|sC 53 [3,4,5,6,7,8,9,10,11,12,13,14,15,16,17,18,19,20,21,22,23,24,25,26] 1<|
 sI 0<|sB .neq 46 47<|.ite 48
 (.ret [47,46])
 (sI 1<|sB .add 2 49<|kG 50))
 (sT [116,97,98,108,101]<|sB .eql 32 45<|.ite 46
 (sC 57 [3,4,5,6,7,8,9,10,11,12,13,14,15,16,17,18,19,20,21,22,23,24,25,26] 0<|sC 57 [3,4,5,6,7,8,9,10,11,12,13,14,15,16,17,18,19,20,21,22,23,24,25,26] 1<|
 sI 0<|sB .neq 48 49<|.ite 50
 (.ret [49,48])
 (sI 1<|sB .add 2 51<|kG 52))
 (sT [105,100]<|sB .eql 32 47<|.ite 48
 (sC 61 [3,4,5,6,7,8,9,10,11,12,13,14,15,16,17,18,19,20,21,22,23,24,25,26] 0<|sI 1<|sB .add 2 50<|kG 51)
 (sT [109,105,110]<|sB .eql 32 49<|.ite 50
 (sC 62 [3,4,5,6,7,8,9,10,11,12,13,14,15,16,17,18,19,20,21,22,23,24,25,26] 0<|sI 1<|sB .add 2 52<|kG 53)
 (sT [109,97,120]<|sB .eql 32 51<|.ite 52
 (sC 63 [3,4,5,6,7,8,9,10,11,12,13,14,15,16,17,18,19,20,21,22,23,24,25,26] 0<|sI 1<|sB .add 2 54<|kG 55)
 (sT [99,104,111,115,101,110]<|sB .eql 32 53<|.ite 54
 (sC 64 [3,4,5,6,7,8,9,10,11,12,13,14,15,16,17,18,19,20,21,22,23,24,25,26] 0<|sI 1<|sB .add 2 56<|kG 57)
 (sT [102,108,97,103,115]<|sB .eql 32 55<|.ite 56
 (sC 65 [3,4,5,6,7,8,9,10,11,12,13,14,15,16,17,18,19,20,21,22,23,24,25,26] 0<|sI 1<|sB .add 2 58<|kG 59)
 (sT [99,111,115,116]<|sB .eql 32 57<|.ite 58
 (sC 66 [3,4,5,6,7,8,9,10,11,12,13,14,15,16,17,18,19,20,21,22,23,24,25,26] 0<|sI 1<|sB .add 2 60<|kG 61)
 (sT [112,114,105,111,114,105,116,121]<|sB .eql 32 59<|.ite 60
 (sC 67 [3,4,5,6,7,8,9,10,11,12,13,14,15,16,17,18,19,20,21,22,23,24,25,26] 0<|sI 1<|sB .add 2 62<|kG 63)
 (sT [100,101,97,100,108,105,110,101]<|sB .eql 32 61<|.ite 62
 (sC 68 [3,4,5,6,7,8,9,10,11,12,13,14,15,16,17,18,19,20,21,22,23,24,25,26] 0<|sI 1<|sB .add 2 64<|kG 65)
 (sT [114,101,116,114,121]<|sB .eql 32 63<|.ite 64
 (sC 69 [3,4,5,6,7,8,9,10,11,12,13,14,15,16,17,18,19,20,21,22,23,24,25,26] 0<|sI 1<|sB .add 2 66<|kG 67)
 (sT [101,112,111,99,104]<|sB .eql 32 65<|.ite 66
 (sC 70 [3,4,5,6,7,8,9,10,11,12,13,14,15,16,17,18,19,20,21,22,23,24,25,26] 0<|sI 1<|sB .add 2 68<|kG 69)
 (sT [98,97,115,101]<|sB .eql 32 67<|.ite 68
 (sC 71 [3,4,5,6,7,8,9,10,11,12,13,14,15,16,17,18,19,20,21,22,23,24,25,26] 0<|sI 1<|sB .add 2 70<|kG 71)
 (sT [100,105,103,101,115,116]<|sB .eql 32 69<|.ite 70
 (sC 72 [3,4,5,6,7,8,9,10,11,12,13,14,15,16,17,18,19,20,21,22,23,24,25,26] 0<|sI 1<|sB .add 2 72<|kG 73)
 (sT [108,97,103]<|sB .eql 32 71<|.ite 72
 (sC 73 [3,4,5,6,7,8,9,10,11,12,13,14,15,16,17,18,19,20,21,22,23,24,25,26] 0<|sI 1<|sB .add 2 74<|kG 75)
 (sT [99,111,100,101]<|sB .eql 32 73<|.ite 74
 (sC 74 [3,4,5,6,7,8,9,10,11,12,13,14,15,16,17,18,19,20,21,22,23,24,25,26] 0<|sI 1<|sB .add 2 76<|kG 77)
 (sT [119,97,110,116]<|sB .eql 32 75<|.ite 76
 (sC 75 [3,4,5,6,7,8,9,10,11,12,13,14,15,16,17,18,19,20,21,22,23,24,25,26] 0<|sI 1<|sB .add 2 78<|kG 79)
 (sC 76 [] 0<|sI 1<|sB .add 2 78<|kG 79)))))))))))))))))))))))
 (sI 1<|.ret [28])
def ZQ:aF:=.tree 20<|sB .lss 3 2<|.ite 20
 (sA 1 1 3<|sL 0 21<|.step (.slen 22)<|sI 0<|sC 161 [0,22,1,2,3,23,24,4,5,6,7,8,9,10,11,12,13,14,15,16,17,18,19] 0<|
 sC 161 [0,22,1,2,3,23,24,4,5,6,7,8,9,10,11,12,13,14,15,16,17,18,19] 1<|sI 1<|sB .add 3 27<|.tail 160 [26,1,2,28,4,5,6,7,8,9,10,11,12,13,14,15,16,17,18,19])
 (sI 0<|.ret [21,0])
def d90:aF:=.tree 4<|sB .lss 3 2<|.ite 4
 (sA 1 1 3<|sL 0 5<|sC 77 [6] 0<|sI 0<|sB .neq 7 8<|.ite 9
 (.ret [8,7])
 (.step (.app 5 64 0 6)<|sI 1<|sB .add 3 11<|.tail 90 [10,1,2,12]))
 (sI 1<|.ret [5,0])
def Y7:aF:=.tree 3<|sB .lss 2 1<|.ite 3
 (sA 2 0 2<|sL 0 4<|sL 1 4<|.step (.mk [5,6])<|sC 121 [7] 0<|sI 0<|sB .eql 8 9<|.ite 10
 (sB .gtr 2 9<|.ite 11
 (sI 1<|sB .sub 2 12<|sA 2 0 13<|sL 0 14<|sC 113 [15] 0<|sC 113 [5] 0<|sB .eql 16 17<|.ite 18
 (sI 14<|.ret [9,19])
 (sC 134 [16,17] 0<|.step (.un .not 19)<|.ite 20
 (sI 7<|.ret [9,21])
 (sB .neq 8 9<|sB .add 2 12<|.tail 120 [0,1,22])))
 (sB .neq 8 9<|sI 1<|sB .add 2 13<|.tail 120 [0,1,14]))
 (sB .neq 8 9<|.ret [9,8]))
 (sI 1<|.ret [4])
def ZH:aF:=.tree 13<|.step (.len 0)<|sB .lss 1 13<|.ite 14
 (sA 5 0 1<|sL 0 15<|sB .lss 16 8<|.ite 17
 (sI 1<|sB .add 1 18<|.tail 152 [0,19,2,3,4,5,6,7,8,9,10,11,12])
 (sI 0<|.ret [18,1,15,16]))
 (sI 1<|.ret [15,1])
def d4:aF:=.tree 3<|sB .lss 2 1<|.ite 3
 (sA 2 0 2<|sL 0 4<|sL 1 4<|.step (.slen 5)<|.step (.slen 6)<|sB .add 7 8<|sI 600<|sB .gtr 9 10<|.ite 11
 (sI 0<|.ret [12])
 (sI 1<|sB .add 2 12<|.tail 4 [0,1,13]))
 (sI 1<|.ret [4])
def Ze:aF:=.tree 1<|.step (.slen 0)<|sI 0<|sB .gtr 1 2<|.ite 3
 (sC 128 [0] 0<|sB .eql 4 2<|.ite 5
 (.ret [2])
 (.step (.vg 0 4 1)<|.tail 127 [6]))
 (sI 1<|.ret [4])
def Zk:aF:=.tree 3<|.step (.slen 0)<|sB .lss 2 3<|.ite 4
 (.step (.slen 1)<|sB .lss 2 5<|.ite 6
 (.step (.nT 0 2)<|.step (.nT 1 2)<|sB .neq 7 8<|.ite 9
 (sB .lss 7 8<|sI 0<|.ret [11,10])
 (sI 1<|sB .add 2 10<|.tail 133 [0,1,11]))
 (sI 1<|.ret [7]))
 (sI 1<|.ret [5])
def d88:aF:=.tree 3<|.step (.slen 0)<|sB .lss 2 3<|.ite 4
 (.step (.slen 1)<|sB .lss 2 5<|.ite 6
 (.step (.nT 0 2)<|.step (.nT 1 2)<|sB .eql 7 8<|.ite 9
 (sI 1<|sB .add 2 10<|.tail 88 [0,1,11])
 (sI 0<|.ret [10,2]))
 (sI 0<|.ret [7,2]))
 (sI 0<|.ret [5,2])
def Y3:aF:=.tree 4<|sB .lss 3 2<|.ite 4
 (sA 2 1 3<|sL 0 5<|sL 1 5<|.step (.mk [6,7])<|sC 117 [8] 0<|sB .add 0 9<|sI 1<|sB .add 3 11<|.tail 116 [10,1,2,12])
 (sI 0<|.ret [5,0])
def ZA:aF:=.tree 28<|sB .lss 3 2<|.ite 28
 (sA 4 1 3<|sL 0 29<|sL 1 29<|sL 2 29<|sL 3 29<|.step (.mk [4,5,6,7,8,9,10,11,12,13,14,15,16,17,18,19,20,21,22,23,24,25,26,27])<|
 sC 107 [34,33] 0<|sC 107 [34,33] 1<|.step (.ci .u64 0)<|sB .neq 35 37<|.ite 38
 (sI 3<|sB .quo 31 39<|.step (.ml [])<|.step (.mk [30,40,35,36,41])<|.step (.ml [42])<|.step (.app 5 64 0 43)<|sI 1<|sB .add 3 45<|
 .tail 147 [44,1,2,46,4,5,6,7,8,9,10,11,12,13,14,15,16,17,18,19,20,21,22,23,24,25,26,27])
 (sT []<|sB .neq 36 39<|.ite 40
 (sI 3<|sB .quo 31 41<|.step (.ml [])<|.step (.mk [30,42,35,36,43])<|.step (.ml [44])<|.step (.app 5 64 0 45)<|sI 1<|sB .add 3 47<|
 .tail 147 [46,1,2,48,4,5,6,7,8,9,10,11,12,13,14,15,16,17,18,19,20,21,22,23,24,25,26,27])
 (sI 1<|sB .add 3 41<|.tail 147 [0,1,2,42,4,5,6,7,8,9,10,11,12,13,14,15,16,17,18,19,20,21,22,23,24,25,26,27])))
 (sI 0<|.ret [29,0])
def Zt:aF:=.tree 27<|sB .lss 2 1<|.ite 27
 (sA 4 0 2<|sL 0 28<|sL 1 28<|sL 2 28<|sL 3 28<|sI 3<|sB .eql 30 33<|.ite 34
 (.step (.mk [3,4,5,6,7,8,9,10,11,12,13,14,15,16,17,18,19,20,21,22,23,24,25,26])<|sC 112 [35,32] 0<|sI 0<|sI 256<|sC 125 [36,37,38] 0<|
 sI 4<|sB .eql 30 40<|sI 5<|sB .eql 30 42<|sB .neq 39 37<|.ite 44
 (.ret [37,39])
 (sI 1<|sB .add 2 45<|F6 46))
 (sI 4<|sB .eql 30 35<|.ite 36
 (.step (.len 24)<|sI 0<|sB .gtr 37 38<|.ite 39
 (sC 122 [24] 0<|sI 5<|sB .eql 30 41<|sB .neq 40 38<|.ite 43
 (.ret [38,40])
 (sI 1<|sB .add 2 44<|F6 45))
 (sI 5<|sB .eql 30 40<|sI 1<|sB .add 2 42<|F6 43))
 (sI 5<|sB .eql 30 37<|.ite 38
 (sC 119 [25] 0<|sI 0<|sB .neq 39 40<|.ite 41
 (.ret [40,39])
 (sI 1<|sB .add 2 42<|F6 43))
 (sI 1<|sB .add 2 39<|F6 40))))
 (sI 1<|.ret [28])
def ZW:aF:=.tree 4<|sI 8<|sB .lss 3 4<|.ite 5
 (.step (.ci .u32 2)<|sB .rem 1 6<|.step (.ci .u32 1)<|sB .eql 7 8<|.ite 9
 (sB .quo 1 6<|.step (.ci .u32 3988292384)<|sB .xor 10 11<|sI 1<|sB .add 3 13<|.tail 165 [0,12,2,14])
 (sB .quo 1 6<|sI 1<|sB .add 3 11<|.tail 165 [0,10,2,12]))
 (sI 0<|.ret [6,1])
def d82:aF:=.tree 28<|sB .lss 3 2<|.ite 28
 (sA 4 1 3<|sL 0 29<|sL 1 29<|sL 2 29<|sL 3 29<|.step (.mk [4,5,6,7,8,9,10,11,12,13,14,15,16,17,18,19,20,21,22,23,24,25,26,27])<|
 sC 83 [34,33] 0<|sL 0 35<|sL 1 35<|sL 2 35<|sL 3 35<|sL 4 35<|sC 83 [34,33] 1<|.step (.un .not 41)<|
 .ite 42
 (sI 1<|sB .add 3 43<|LQ 0 44)
 (.step (.ci .u64 0)<|sB .eql 38 43<|.ite 44
 (sT []<|sB .eql 39 45<|.ite 46
 (sI 1<|sB .add 3 47<|LQ 0 48)
 (.step (.mk [30,37,38,39,40])<|.step (.ml [47])<|.step (.app 5 64 0 48)<|sI 1<|sB .add 3 50<|LQ 49 51))
 (.step (.mk [30,37,38,39,40])<|.step (.ml [45])<|.step (.app 5 64 0 46)<|sI 1<|sB .add 3 48<|LQ 47 49)))
 (sI 0<|.ret [29,0])
def d12:aF:=.tree 4<|sB .lss 2 1<|.ite 4
 (sA 2 0 2<|sL 0 5<|sL 1 5<|.step (.mk [6,7])<|sC 13 [8] 0<|.step (.bytes 9)<|.step (.app 1 1 3 10)<|.step (.slen 9)<|sI 1<|
 sB .add 2 13<|.tail 12 [0,1,14,11])
 (sI 0<|.ret [5,3])
def d85:aF:=.tree 5<|sB .lss 3 2<|.ite 5
 (sA 2 1 3<|sL 0 6<|sL 1 6<|sC 7 [7] 0<|sC 86 [0,9] 0<|.step (.bytes 10)<|.step (.app 1 1 4 11)<|.step (.slen 10)<|sC 8 [8] 0<|
 .step (.bytes 14)<|.step (.app 1 1 12 15)<|.step (.slen 14)<|sI 1<|sB .add 3 18<|.tail 85 [9,1,2,19,16])
 (sI 0<|.ret [6,4])
def Zq:aF:=.tree 3<|.step (.slen 0)<|sB .lss 2 3<|.ite 4
 (.step (.slen 1)<|sB .lss 2 5<|.ite 6
 (.step (.nT 0 2)<|.step (.nT 1 2)<|sB .neq 7 8<|.ite 9
 (sI 0<|.ret [10,2])
 (sI 1<|sB .add 2 10<|.tail 139 [0,1,11]))
 (sI 1<|.ret [7]))
 (sI 1<|.ret [5])
def YQ:aF:=.tree 28<|sB .lss 3 2<|.ite 28
 (sA 1 1 3<|sL 0 29<|.step (.len 0)<|.step (.cb false)<|sI 0<|sC 105 [0,30,32,1,2,3,31,33,4,5,6,7,8,9,10,11,12,13,14,15,16,17,18,19,20,21,22,23,24,25,26,27] 0<|
 sC 105 [0,30,32,1,2,3,31,33,4,5,6,7,8,9,10,11,12,13,14,15,16,17,18,19,20,21,22,23,24,25,26,27] 1<|.step (.un .not 35)<|.ite 36
 (.step (.mk [4,5,6,7,8,9,10,11,12,13,14,15,16,17,18,19,20,21,22,23,24,25,26,27])<|sC 106 [37,30] 0<|.step (.un .not 38)<|.ite 39
 (.ret [33])
 (sI 1<|sB .add 3 40<|.tail 104 [0,1,2,41,4,5,6,7,8,9,10,11,12,13,14,15,16,17,18,19,20,21,22,23,24,25,26,27]))
 (sI 1<|sB .add 3 37<|.tail 104 [0,1,2,38,4,5,6,7,8,9,10,11,12,13,14,15,16,17,18,19,20,21,22,23,24,25,26,27]))
 (sI 1<|.ret [29])
def ZF:aF:=.tree 4<|sB .lss 3 2<|.ite 4
 (sA 1 1 3<|sL 0 5<|.step (.len 6)<|sI 0<|sC 151 [0,1,2,3,6,7,8] 0<|sB .eql 9 8<|.ite 10
 (.ret [8])
 (sC 151 [0,1,2,3,6,7,8] 1<|sI 1<|sB .add 3 12<|.tail 150 [11,1,2,13]))
 (sI 1<|.ret [5,0])
def ZJ:aF:=.tree 4<|sB .lss 3 2<|.ite 4
 (sA 5 1 3<|sL 0 5<|sL 1 5<|sL 2 5<|sL 3 5<|sL 4 5<|.step (.ci .u64 4)<|sB .mul 11 6<|.step (.conv .u64 7)<|
 sB .add 12 13<|sC 114 [14] 0<|sB .add 0 15<|sI 0<|sB .eql 7 17<|.ite 18
 (sC 114 [8] 0<|sB .add 16 19<|sI 1<|sB .add 3 21<|.tail 154 [20,1,2,22])
 (sI 2<|sB .eql 7 19<|.ite 20
 (sC 153 [10] 0<|.step (.slen 21)<|.step (.conv .u64 22)<|sC 114 [23] 0<|sB .add 16 24<|sB .add 25 21<|sI 1<|sB .add 3 27<|
 .tail 154 [26,1,2,28])
 (.step (.slen 9)<|.step (.conv .u64 21)<|sC 114 [22] 0<|sB .add 16 23<|sB .add 24 9<|sI 1<|sB .add 3 26<|.tail 154 [25,1,2,27])))
 (sI 0<|.ret [5,0])
def d6:aF:=.tree 3<|sB .lss 2 1<|.ite 3
 (sA 2 0 2<|sL 0 4<|sL 1 4<|.step (.len 5)<|sI 18<|sB .gtr 7 8<|.ite 9
 (sI 0<|.ret [10])
 (sC 3 [5] 0<|.step (.un .not 10)<|.ite 11
 (sI 0<|.ret [12])
 (.step (.len 0)<|sI 40<|sB .gtr 12 13<|.ite 14
 (sC 7 [5] 0<|.step (.slen 15)<|sI 100<|sB .gtr 16 17<|.ite 18
 (sI 0<|.ret [19])
 (sI 1<|sB .add 2 19<|.tail 6 [0,1,20]))
 (sI 1<|sB .add 2 15<|.tail 6 [0,1,16]))))
 (sI 1<|.ret [4])
def Ds:List aF:=[d0,d1,d2,d3,d4,d5,d6,d7,d8,d9,d10,d11,d12,d13,Zr,ZE,ZP,Z5,Z7,Z8,Z9,d21,d22,d23,d24,d25,d26,d27,d28,d29,d30,d31,d32,d33,d34,d35,d36,d37,d38,d39,d40,d41,d42,d43,d44,d45,d46,d47,d48,d49,d50,d51,d52,d53,d54,d55,d56,d57,d58,d59,d60,d61,d62,d63,d64,d65,d66,d67,d68,d69,d70,d71,d72,d73,d74,d75,d76,d77,d78,d79,d80,d81,d82,d83,d84,d85,d86,d87,d88,d89,d90,d91,d92,d93,d94,d95,d96,d97,d98,d99,YM,YN,YO,YP,YQ,YR,YS,YT,YU,YV,YW,YX,YZ,Y0,Y1,Y2,Y3,Y4,Y5,Y6,Y7,Y8,Y9,Za,Zb,Zc,Zd,Ze,Zf,Zg,Zh,Zi,Zj,Zk,Zl,Zm,Zn,Zo,Zp,Zq,Zt,Zu,Zv,Zw,Zx,Zy,Zz,ZA,ZB,ZC,ZF,ZG,ZH,ZI,ZJ,ZK,ZL,ZM,ZN,ZO,ZQ,ZR,ZT,ZU,ZV,ZW,ZX,ZY,Z4]
noncomputable abbrev TT:fG:=rY Ds
end
end Q
end Go.Proofs.YthgifdbaegpbpaaGreatDoor
